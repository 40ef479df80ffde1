/- Contracts of functions of this program, each proved by a walk through its code, and plain lemmas on what they compute; on no condition beyond those that each theorem states. -/
import Derived.Test.YtcnfchchanlepaaGreatBa
import Derived.Test.YtcnfchchanlepaaGreatXB
import Derived.Test.YtcnfchchanlepaaGreatPShelf
namespace Go.Proofs.YtcnfchchanlepaaGreat
open Go Go.X
set_option maxRecDepth 10000
set_option linter.unusedVariables false
attribute [local irreducible] Code.wpIn wpListIn Exit.then Exit.inBlock X.Out X.Back X.W X.Ev X.Con X.BinV X.Wh X.Wn X.Wq
theorem take_at {α : Type} {l : List α} {k : Nat} {x : α} (h : l[k]? = some x) : l.take (k + 1) = l.take k ++ [x] := by rw [List.take_add_one, h]; rfl
theorem at_lt {α : Type} {l : List α} {k : Nat} (h : k < l.length) : ∃ x, l[k]? = some x := ⟨l[k], List.getElem?_eq_getElem h⟩
theorem pfClone_con (l : List Str) (A : Option Addr) (c : Nat) (S : SH) (hA : At S A l) (hl : l.length ≤ 1000000) : Con Tryz.prog 60 #[.slice A l.length c] S [] (fun S' L' r => S' = S ∧ Ows 9 r l L') := by
  refine con_of (args := [.slice A l.length c]) Tryz.func60 rfl Tryz.ntmps60 rfl fun w => ?_
  cases A with
  | none =>
    have hl0 : l = [] := by
      rcases Nat.eq_zero_or_pos l.length with h | h
      · exact List.eq_nil_of_length_eq_zero h
      · obtain ⟨p, hp, _⟩ := hA h; cases hp
    subst hl0
    (repeat (first | refine Jc ?_ | (apply s_evb; (case hg => rfl); (case hd => rfl); (case hn => rfl); (case he => ((apply ev_eql_nilsl; (case hx => rfl); (case hy => rfl))))) | refine Jo ?_ | intro _))
    exact o_ret (L' := []) Tryz.results60 rfl (List.nil_sublist _) ⟨rfl, Ows.nil 9⟩
  | some p =>
    (repeat (first | refine Jc ?_ | (apply s_evb; (case hg => rfl); (case hd => rfl); (case hn => rfl); (case he => ((apply ev_eql_nilsl; (case hx => rfl); (case hy => rfl))))) | (apply s_append_st (ms := l) hA; (case hg => rfl); (case hd => rfl); (case hx => rfl); (case ho => exact Ows.full (α := Str) (l := []) rfl (by decide)); (case hL => (repeat (first | exact pm_nil _ | exact pm_refl _ _ | exact pm_self _ | apply pm_cons | apply pm_app))); (case hy => rfl); (case hm => first | rfl | simp); (case hzs => rfl); (case h0 => decide); (case hb => first | (simp; omega) | simp); (case h63 => first | (simp; omega) | simp); intro v' ob' ho') | refine Jo ?_ | intro _))
    exact o_ret (L' := ob') Tryz.results60 rfl (by rw [List.append_nil]; exact List.Sublist.refl _) ⟨rfl, ho'⟩
theorem pfValues_con (ks : List Str) (A : Option Addr) (c : Nat) (S : SH) : Con Tryz.prog 71 #[.slice A ks.length c] S [] (fun S' L' v => L' = [] ∧ ∃ p, v = .func (.func 89) #[] #[.pointer (some p)] ∧ Pts S' p [.slice A ks.length c]) := by
  refine con_of (args := [.slice A ks.length c]) Tryz.func71 rfl Tryz.ntmps71 rfl fun w => ?_
  (repeat (first | refine Jz ?_ | intro _))
  refine W.freeze fun S1 hle1 hb1 => ?_
  exact o_ret Tryz.results71 rfl sbL ⟨rfl, _, rfl, pts_block hb1 (by simp)⟩
theorem pfvals_con {l r : Nat} {fn : FuncId} {tmps : Array Value} {ps : Array Tmp} {assign body : Code} (hps : ps.size = 1) (I : List Str → Blocks → Prop) (hI : ∀ x L, I x L → (l, rec0 fn tmps ps assign body r .ready none) ∈ L)
    (ks : List Str) (A : Option Addr) (c : Nat) (S : SH) (p : Addr) (hp : Pts S p [.slice A ks.length c]) (hA : At S A ks) (hk : ks.length ≤ 1000000)
    (hR : ∀ x L t, I x L → x.length < ks.length → RdR Tryz.prog l fn ((ps.zip #[strV t.b]).foldl (fun t (p : Tmp × Value) => t.setIfInBounds p.1 p.2) tmps) assign body S L (fun S' L' => S' = S ∧ I (x ++ [t]) L') true) (L0 : Blocks) (h0 : I [] L0) :
    Con Tryz.prog 89 #[.func (.yield l) #[] #[], .pointer (some p)] S L0 (fun S' L' v => S' = S ∧ I ks L') := by
  refine con_of (args := [.func (.yield l) #[] #[], .pointer (some p)]) Tryz.func89 rfl Tryz.ntmps89 rfl fun w => ?_
  (repeat (first | refine Jc ?_ | (apply s_load1; (case hg => rfl); (case hd => rfl); (case hx => rfl); (case hv => exact hp)) | refine Jo ?_ | intro _))
  refine c_loop (fun m S' L F => S' = S ∧ ∃ (k : Nat), m = ks.length - k ∧ k ≤ ks.length ∧ I (ks.take k) L ∧
      F = [(0, .func (.yield l) #[] #[]), (1, .pointer (some p)), (5, .slice A ks.length c), (6, .int .i64 ks.length), (7, .int .i64 k)]) ⟨rfl, 0, rfl, by omega, by simpa using h0, rfl⟩ sbF (List.Sublist.refl _) ?_
  rintro m S' L F ⟨rfl, k, rfl, hk1, hi, rfl⟩
  by_cases hlt : k < ks.length
  rotate_left
  · (repeat (first | refine Jz ?_ | intro _))
    rw [List.take_of_length_le (by omega)] at hi
    exact o_ret0 (.inr rfl) Tryz.results89 (List.Sublist.refl _) ⟨rfl, hi⟩
  obtain ⟨t, hx⟩ := at_lt hlt
  have hlen : (ks.take k).length < ks.length := by simp; omega
  (repeat (first | refine Jc ?_ | (apply s_idx hA; (case hg => rfl); (case hd => rfl); (case hx => rfl); (case hi => rfl); (case hm => rfl); (case hu => exact hx); intro q (hq : Pts _ q [strV t.b])) | (apply s_load1; (case hg => rfl); (case hd => rfl); (case hx => rfl); (case hv => exact hq)) | refine Jo ?_ | intro _))
  apply s_yieldR; (case hg => rfl); (case hd => rfl); (case hx => rfl); (case ha => rfl); (case hL => exact pm_self _); (case hm => exact hI _ _ hi); (case hp => exact hps.symm); (case hc => exact hR _ _ t hi hlen); rintro S2 L2 ⟨rfl, hi2⟩
  rw [← take_at hx] at hi2
  (repeat (first | refine Jz ?_ | intro _))
  exact q_back (L' := L2) (m' := ks.length - (k + 1)) ⟨rfl, k + 1, rfl, by omega, hi2, rfl⟩ (by omega) sbF (by simp)
theorem pfAppendSeq_con (ks : List Str) (A : Option Addr) (c : Nat) (S : SH) (p : Addr) (hp : Pts S p [.slice A ks.length c]) (hA : At S A ks) (hk : ks.length ≤ 1000000) :
    Con Tryz.prog 96 #[.slice none 0 0, .func (.func 89) #[] #[.pointer (some p)]] S [] (fun S' L' v => S' = S ∧ Ows 9 v ks L') := by
  refine con_of (args := [.slice none 0 0, .func (.func 89) #[] #[.pointer (some p)]]) Tryz.func96 rfl Tryz.ntmps96 rfl fun w => ?_
  (repeat (first | refine Jz ?_ | intro _))
  rename_i b2
  refine W.trim (F' := [(2, .pointer (some ⟨b2, 0, none⟩)), (6, .func (.func 89) #[] #[.pointer (some p)])]) (L' := [(b2, .cells [.slice none 0 0].toArray 52 (0, 0))]) sbF sbL ?_
  refine c_rangeFunc (caps := [.pointer (some p)]) rfl rfl fun r l fn tmps hfm => ?_
  generalize hrec : rec0 fn tmps _ _ _ r LoopState.ready none = o
  obtain ⟨I, hI⟩ : ∃ I : List Str → Blocks → Prop, I = fun x L => ∃ v ob, Ows 9 v x ob ∧ L = (l, o) :: (b2, .cells [v].toArray 52 (0, 0)) :: ob := ⟨_, rfl⟩
  have hmem : ∀ x L, I x L → (l, o) ∈ L := fun x L h => by rw [hI] at h; obtain ⟨v, ob, -, rfl⟩ := h; exact List.mem_cons_self
  rw [← hrec] at hmem
  refine ⟨(l, o) :: [(b2, .cells [.slice none 0 0].toArray 52 (0, 0))], [(r, .deferred (some []))], fun S' L' v => S' = S ∧ I ks L', ?_, ?_, ?_⟩
  · exact (List.Perm.swap _ _ _).cons _
  · refine pfvals_con rfl I hmem ks A c S p hp hA hk ?_ _ (by rw [hI]; exact ⟨_, _, Ows.nil 9, rfl⟩)
    intro x L t hx hxl
    rw [hI] at hx
    obtain ⟨v, ob, ho, rfl⟩ := hx
    have hfm' := hfm.put (d := 7) (strV t.b) rfl
    have hfm2 : Fm 13 { tmps := (#[7].zip #[strV t.b]).foldl (fun t (p : Tmp × Value) => t.setIfInBounds p.1 p.2) tmps, defers := [] } [(7, strV t.b), (2, .pointer (some ⟨b2, 0, none⟩)), (6, .func (.func 89) #[] #[.pointer (some p)])] := by simpa [Act.put] using hfm'
    rw [← hrec]
    refine rd_ofR hfm2 fun w' => ?_
    (repeat (first | refine Jz ?_ | intro _))
    apply r_begin
    (repeat (first | refine Jc ?_ | (apply s_append (ms := [t]); (case hg => rfl); (case hd => rfl); (case hx => rfl); (case ho => exact ho); (case hL => (repeat (first | exact pm_nil _ | exact pm_refl _ _ | exact pm_self _ | apply pm_cons | apply pm_app))); (case hy => rfl); (case hm => rfl); (case hs => (apply Src.own; (repeat (first | exact List.Mem.head _ | apply List.Mem.tail | apply List.mem_append_right)))); (case hzs => rfl); (case h0 => decide); (case hb => (simp; omega)); (case h63 => (simp; omega)); intro v' ob' ho'; obtain ⟨A', c', rfl⟩ := ho'.form) | refine Jo ?_ | intro _))
    refine W.perm ?_ (List.perm_append_comm.trans (List.Perm.swap _ _ _))
    refine r_end (L' := (b2, .cells [.slice A' (x ++ [t]).length c'].toArray 52 (0, 0)) :: ob') ((List.Sublist.refl _).cons _) fun w'' hs => ⟨rfl, S, _, ⟨rfl, by rw [hI]; exact ⟨_, _, ho', rfl⟩⟩, ?_⟩
    rw [hrec] at hs
    exact hs
  · rintro S' L1' v hle ⟨rfl, hi⟩
    rw [hI] at hi
    obtain ⟨v1, ob, ho, rfl⟩ := hi
    rw [← hrec]
    refine ⟨.ready, none, (b2, .cells [v1].toArray 52 (0, 0)) :: (ob ++ [(r, .deferred (some []))]), List.Perm.refl _, by decide, ?_⟩
    obtain ⟨A', c', rfl⟩ := ho.form
    (repeat (first | refine Jz ?_ | intro _))
    refine o_ret1m (L' := ob) (L1 := (b2, .cells [.slice A' ks.length c'].toArray 52 (0, 0)) :: ob) Tryz.results96 rfl rfl ?_ ((List.Sublist.refl _).cons _) ⟨rfl, ho⟩
    exact List.perm_append_comm (l₁ := (b2, Obj.cells [.slice A' ks.length c'].toArray 52 (0, 0)) :: ob) (l₂ := [(r, Obj.deferred (some []))])
theorem pfCollect_con (ks : List Str) (A : Option Addr) (c : Nat) (S : SH) (p : Addr) (hp : Pts S p [.slice A ks.length c]) (hA : At S A ks) (hk : ks.length ≤ 1000000) :
    Con Tryz.prog 87 #[.func (.func 89) #[] #[.pointer (some p)]] S [] (fun S' L' v => S' = S ∧ Ows 9 v ks L') := by
  refine con_of (args := [.func (.func 89) #[] #[.pointer (some p)]]) Tryz.func87 rfl Tryz.ntmps87 rfl fun w => ?_
  (repeat (first | refine Jc ?_ | (apply s_call; (case hg => rfl); (case hd => rfl); (case ha => rfl); (case hc => exact pfAppendSeq_con ks A c _ p hp hA hk); (case hL => (repeat (first | exact pm_nil _ | exact pm_refl _ _ | exact pm_self _ | apply pm_cons | apply pm_app))); rintro S2 L2 v - ⟨rfl, ho⟩) | refine Jo ?_ | intro _))
  exact o_ret Tryz.results87 rfl (List.Sublist.refl _) ⟨rfl, by simpa using ho⟩
theorem pfSorted_con (ks : List Str) (A : Option Addr) (c : Nat) (S : SH) (p : Addr) (hp : Pts S p [.slice A ks.length c]) (hA : At S A ks) (hk : ks.length ≤ 1000000) :
    Con Tryz.prog 70 #[.func (.func 89) #[] #[.pointer (some p)]] S [] (fun S' L' v => Ows 9 v (sortS ks) L') := by
  refine con_of (args := [.func (.func 89) #[] #[.pointer (some p)]]) Tryz.func70 rfl Tryz.ntmps70 rfl fun w => ?_
  (repeat (first | refine Jc ?_ | (apply s_call; (case hg => rfl); (case hd => rfl); (case ha => rfl); (case hc => exact pfCollect_con ks A c _ p hp hA hk); (case hL => (repeat (first | exact pm_nil _ | exact pm_refl _ _ | exact pm_self _ | apply pm_cons | apply pm_app))); rintro S2 L2 v - ⟨rfl, ho⟩) | (apply s_call; (case hg => rfl); (case hd => rfl); (case ha => rfl); (case hc => exact sortS_con Tryz.slices_Sort_string Tryz.slices_Sort_string_none ho (by omega)); (case hL => (repeat (first | exact pm_nil _ | exact pm_refl _ _ | exact pm_self _ | apply pm_cons | apply pm_app))); rintro S1 L1 r hle ⟨rfl, ho1⟩) | refine Jo ?_ | intro _))
  exact o_ret Tryz.results70 rfl (List.Sublist.refl _) (by simpa using ho1)
end Go.Proofs.YtcnfchchanlepaaGreat
namespace Go.Proofs.YtcnfchchanlepaaGreat
open Go Go.X
/-- How long a path is that lies in an array. -/
def plen (p : List Bs) : Nat := (p.takeWhile fun x => !x.isEmpty).length
theorem plen_lt {p : List Bs} {k : Nat} (h : ∀ (i : Nat) (x : Bs), i < k → p[i]? = some x → x ≠ []) {x : Bs} (hx : p[k]? = some x) (h0 : x = []) : plen p = k := by
  induction p generalizing k with
  | nil => simp at hx
  | cons a t ih =>
    cases k with
    | zero =>
      simp only [List.getElem?_cons_zero, Option.some.injEq] at hx
      subst hx; subst h0
      rfl
    | succ k =>
      have ha : a ≠ [] := h 0 a (by omega) rfl
      have : (a.isEmpty) = false := by cases a <;> simp_all
      unfold plen
      rw [List.takeWhile_cons]
      simp only [this, Bool.not_false, if_true, List.length_cons]
      congr 1
      exact ih (k := k) (fun i y hi hy => h (i + 1) y (by omega) (by simpa using hy)) (by simpa using hx)
theorem plen_all {p : List Bs} (h : ∀ (i : Nat) (x : Bs), p[i]? = some x → x ≠ []) : plen p = p.length := by
  induction p with
  | nil => rfl
  | cons a t ih =>
    have ha : a ≠ [] := h 0 a rfl
    have : (a.isEmpty) = false := by cases a <;> simp_all
    unfold plen
    rw [List.takeWhile_cons]
    simp only [this, Bool.not_false, if_true, List.length_cons]
    congr 1
    exact ih (fun i y hy => h (i + 1) y (by simpa using hy))
theorem strs_at {p : List Bs} {k : Nat} {x : Bs} (h : p[k]? = some x) : (p.map strV)[k]? = some (strV x) := by simp [h]
set_option maxRecDepth 10000
set_option linter.unusedVariables false
attribute [local irreducible] Code.wpIn wpListIn Exit.then Exit.inBlock X.Out X.Back X.W X.Ev X.Con X.BinV X.Wh X.Wn X.Wq
theorem plen_con (p : List Bs) (S : SH) (hp : p.length = 12) : Con Tryz.prog 55 #[.agg (p.map strV).toArray] S [] (X.Pure S (.int .i64 (plen p : Nat))) := by
  refine con_of (args := [.agg (p.map strV).toArray]) Tryz.func55 rfl Tryz.ntmps55 rfl fun w => ?_
  (repeat (first | refine Jz ?_ | intro _))
  rename_i b
  refine c_loop (fun m S' L F => S' = S ∧ L = [(b, .cells (p.map strV).toArray 87 (0, 0))] ∧ ∃ (k : Nat), m = 12 - k ∧ k ≤ 12 ∧ (∀ i x, i < k → p[i]? = some x → x ≠ []) ∧ F = [(1, .pointer (some ⟨b, 0, none⟩)), (3, .int .i64 k)]) ⟨rfl, rfl, 0, rfl, by omega, fun i x h => by omega, rfl⟩ sbF (List.Sublist.refl _) ?_
  rintro m S' L F ⟨rfl, rfl, k, rfl, hk, hi, rfl⟩
  by_cases h12 : k < 12
  rotate_left
  · obtain rfl : k = 12 := by omega
    have e : plen p = 12 := by rw [plen_all (fun i x hx => hi i x (by have := (List.getElem?_eq_some_iff.1 hx).1; omega) hx)]; exact hp
    (repeat (first | refine Jz ?_ | intro _))
    exact o_ret Tryz.results55 rfl (List.nil_sublist _) ⟨rfl, rfl, by rw [e]⟩
  obtain ⟨x, hx⟩ : ∃ x, p[k]? = some x := ⟨_, List.getElem?_eq_getElem (by omega)⟩
  by_cases h0 : x = []
  · have e := plen_lt hi hx h0
    subst h0
    (repeat (first | refine Jc ?_ | (apply s_load_own; (case hg => rfl); (case hd => rfl); (case hx => rfl); (case hm => exact List.Mem.head _); (case hv => exact strs_at hx)) | (apply s_evb; (case hg => rfl); (case hd => rfl); (case hn => rfl); (case he => (apply ev_neq_bv (r := true); (case hx => rfl); (case hy => rfl); (case h => first | decide | assumption | (simp; done))))) | (apply s_evb; (case hg => rfl); (case hd => rfl); (case hn => rfl); (case he => (apply ev_neq_bv (r := false); (case hx => rfl); (case hy => rfl); (case h => first | decide | assumption | (simp; done))))) | refine Jo ?_ | intro _))
    exact o_ret Tryz.results55 rfl (List.nil_sublist _) ⟨rfl, rfl, by rw [e]⟩
  · have hb : (x != []) = true := by cases x; exact absurd rfl h0; rfl
    (repeat (first | refine Jc ?_ | (apply s_load_own; (case hg => rfl); (case hd => rfl); (case hx => rfl); (case hm => exact List.Mem.head _); (case hv => exact strs_at hx)) | (apply s_evb; (case hg => rfl); (case hd => rfl); (case hn => rfl); (case he => ((apply ev_neq_bv (r := true) (b := []); (case hx => rfl); (case hy => rfl); (case h => exact hb))))) | refine Jo ?_ | intro _))
    refine q_back (L' := [(b, .cells (p.map strV).toArray 87 (0, 0))]) (m' := 12 - (k + 1)) ⟨rfl, rfl, k + 1, rfl, by omega, fun i y hik hy => ?_, rfl⟩ (by omega) sbF (List.Sublist.refl _)
    by_cases hik2 : i < k
    · exact hi i y hik2 hy
    · obtain rfl : i = k := by omega
      obtain rfl := Option.some.inj (hx.symm.trans hy)
      exact h0
theorem pfIndex_con (l : List Str) (s : Bs) (A : Option Addr) (c : Nat) (S : SH) (hA : At S A l) (hl : l.length ≤ 1000000) :
    Con Tryz.prog 86 #[.slice A l.length c, strV s] S [] (X.Pure S (.int .i64 (idxI (fun x => s == x.b) l))) := by
  refine con_of (args := [.slice A l.length c, strV s]) Tryz.func86 rfl Tryz.ntmps86 rfl fun w => ?_
  (repeat (first | refine Jz ?_ | intro _))
  refine c_loop (fun m S' L F => S' = S ∧ L = [] ∧ ∃ (k : Nat), m = l.length - k ∧ k ≤ l.length ∧ (∀ x ∈ l.take k, (s == x.b) = false) ∧
      F = [(0, .slice A l.length c), (1, strV s), (7, .int .i64 l.length), (8, .int .i64 k)]) ⟨rfl, rfl, 0, rfl, by omega, by simp, rfl⟩ sbF (List.nil_sublist _) ?_
  rintro m S' L F ⟨rfl, rfl, k, rfl, hk1, hi, rfl⟩
  by_cases hlt : k < l.length
  rotate_left
  · (repeat (first | refine Jz ?_ | intro _))
    rw [List.take_of_length_le (by omega)] at hi
    exact o_ret Tryz.results86 rfl (List.nil_sublist _) ⟨rfl, rfl, by rw [idxI_none hi]⟩
  obtain ⟨x, hx⟩ : ∃ x, l[k]? = some x := ⟨_, List.getElem?_eq_getElem hlt⟩
  cases hlg : s == x.b
  · (repeat (first | refine Jc ?_ | (apply s_idx hA; (case hg => rfl); (case hd => rfl); (case hx => rfl); (case hi => rfl); (case hm => rfl); (case hu => exact hx); intro q (hq : Pts _ q [strV x.b])) | (apply s_load1; (case hg => rfl); (case hd => rfl); (case hx => rfl); (case hv => exact hq)) | (apply s_evb; (case hg => rfl); (case hd => rfl); (case hn => rfl); (case he => ((apply ev_eql_bv (r := false); (case hx => rfl); (case hy => rfl); (case h => exact hlg))))) | refine Jo ?_ | intro _))
    refine q_back (L' := []) (m' := l.length - (k + 1)) ⟨rfl, rfl, k + 1, rfl, by omega, ?_, rfl⟩ (by omega) sbF (List.nil_sublist _)
    intro y hy
    rw [List.take_add_one, hx] at hy
    rcases List.mem_append.1 hy with hy | hy
    · exact hi y hy
    · simp at hy; subst hy; exact hlg
  · (repeat (first | refine Jc ?_ | (apply s_idx hA; (case hg => rfl); (case hd => rfl); (case hx => rfl); (case hi => rfl); (case hm => rfl); (case hu => exact hx); intro q (hq : Pts _ q [strV x.b])) | (apply s_load1; (case hg => rfl); (case hd => rfl); (case hx => rfl); (case hv => exact hq)) | (apply s_evb; (case hg => rfl); (case hd => rfl); (case hn => rfl); (case he => ((apply ev_eql_bv (r := true); (case hx => rfl); (case hy => rfl); (case h => exact hlg))))) | refine Jo ?_ | intro _))
    exact o_ret Tryz.results86 rfl (List.nil_sublist _) ⟨rfl, rfl, by rw [idxI_some hi hx hlg]⟩
theorem pfContains_con (l : List Str) (s : Bs) (A : Option Addr) (c : Nat) (S : SH) (hA : At S A l) (hl : l.length ≤ 1000000) :
    Con Tryz.prog 68 #[.slice A l.length c, strV s] S [] (X.Pure S (.bool (l.any fun x => s == x.b))) := by
  refine con_of (args := [.slice A l.length c, strV s]) Tryz.func68 rfl Tryz.ntmps68 rfl fun w => ?_
  have hi := pfIndex_con l s A c S hA hl
  rw [idxI_any]
  by_cases h : 0 ≤ idxI (fun x : Str => s == x.b) l
  all_goals (repeat (first | refine Jc ?_ | ((apply z_call; rfl; rfl; rfl; exact hi; rintro _ _ _ - ⟨rfl, rfl, rfl⟩)) | refine Jo ?_ | intro _))
  · exact o_ret Tryz.results68 rfl (List.nil_sublist _) ⟨rfl, rfl, by rw [decide_eq_true h]⟩
  · exact o_ret Tryz.results68 rfl (List.nil_sublist _) ⟨rfl, rfl, by rw [decide_eq_false h]⟩
end Go.Proofs.YtcnfchchanlepaaGreat
namespace Go.Proofs.YtcnfchchanlepaaGreat
open Go Go.X
instance : Mpt Tryz.prog 78 87 3 := ⟨Tryz.underlying78⟩
instance : Mpt Tryz.prog 111 87 52 := ⟨Tryz.underlying111⟩
instance kasP : Kas Tryz.prog 87 := ⟨_, Tryz.underlying87, Tryz.underlying9, by kernel_rfl⟩
theorem ups_sub {P : Pth → Prop} {k : Pth} {v : Int} {cur : List (Pth × Int)} (h : ∀ x ∈ cur, P x.1) (hk : P k) : ∀ x ∈ upsI k v cur, P x.1 := fun x hx => by
  have h2 : x.1 ∈ (upsI k v cur).map (·.1) := List.mem_map_of_mem hx
  rw [ups_keys] at h2
  have hc : x.1 ∈ cur.map (·.1) → P x.1 := fun h3 => by
    obtain ⟨y, hy, e⟩ := List.mem_map.1 h3
    exact e ▸ h y hy
  split at h2
  · exact hc h2
  · rcases List.mem_append.1 h2 with h3 | h3
    · exact hc h3
    · simp at h3; rw [h3]; exact hk
def KeysOf (es fs cur : List (Pth × Int)) : Prop := ∀ x ∈ cur, x.1 ∈ es.map (·.1) ∨ x.1 ∈ fs.map (·.1)
theorem KeysOf.ups {es fs cur : List (Pth × Int)} {k : Pth} {v : Int} (h : KeysOf es fs cur) (hk : k ∈ fs.map (·.1)) : KeysOf es fs (upsI k v cur) := ups_sub (P := fun y : Pth => y ∈ es.map (fun x : Pth × Int => x.1) ∨ y ∈ fs.map (fun x : Pth × Int => x.1)) h (.inr hk)
set_option maxRecDepth 10000
set_option linter.unusedVariables false
attribute [local irreducible] Code.wpIn wpListIn Exit.then Exit.inBlock X.Out X.Back X.W X.Ev X.Con X.BinV X.Wh X.Wn X.Wq
set_option maxHeartbeats 1600000 in
theorem plus_con (b1 b2 : Nat) (es fs : List (Pth × Int)) (S : SH) (h1 : WE es) (h2 : WE fs) (hl : fs.length ≤ 1000000) (hi : ∀ x ∈ fs, i64 (wI x.1 es + x.2)) :
    Con Tryz.prog 33 #[.map (some b1), .map (some b2)] S [(b1, mapGO (iE es)), (b2, mapGO (iE fs))] (fun S' L' r => S' = S ∧ r = .tuple #[] ∧ ∃ es', L' = [(b1, mapGO (iE es')), (b2, mapGO (iE fs))] ∧ WE es' ∧ (∀ k, wI k es' = wI k es + wI k fs) ∧ es'.length ≤ es.length + fs.length ∧ KeysOf es fs es') := by
  refine con_of (args := [.map (some b1), .map (some b2)]) Tryz.func33 rfl Tryz.ntmps33 rfl fun w => ?_
  (repeat (first | refine Jc ?_ | (apply s_rangeG (κ := Pth) (b := b2) (ent := iE fs); (case hg => rfl); (case hd => rfl); (case hx => rfl); (case hm => (repeat (first | exact List.Mem.head _ | apply List.Mem.tail | apply List.mem_append_right))); intro r) | refine Jo ?_ | intro _))
  refine c_loop (fun m S' L F => S' = S ∧ ∃ (seen : List Nat) (cur : List (Pth × Int)), m = fs.length - seen.length ∧ seen.Nodup ∧ (∀ i ∈ seen, i < fs.length) ∧ WE cur ∧ (∀ k, wI k cur = wI k es + wI k (selE fs seen)) ∧ cur.length ≤ es.length + seen.length ∧ KeysOf es fs cur ∧ L = [(r, iterGO b2 (iE fs).length seen), (b1, mapGO (iE cur)), (b2, mapGO (iE fs))] ∧
      F = [(0, .map (some b1)), (7, .pointer (some ⟨r, 0, none⟩))]) ⟨rfl, [], es, rfl, List.nodup_nil, (fun i h => by cases h), h1, (fun k => by simp [selE, wI_nil]), by simp, (fun x hx => .inl (List.mem_map_of_mem hx)), rfl, rfl⟩ sbF (List.Sublist.refl _) ?_
  rintro m S' L F ⟨rfl, seen, cur, rfl, hsn, hsl, hWc, hw, hcl, hko, rfl, rfl⟩
  (repeat (first | refine Jz ?_ | intro _))
  apply s_nextG (κ := Pth) (b := b2) (ent := iE fs) (seen := seen) (L' := fun i => [(r, iterGO b2 (iE fs).length (seen ++ [i])), (b1, mapGO (iE cur)), (b2, mapGO (iE fs))]); (case hg => rfl); (case hd => rfl); (case hx => rfl); (case hm => (repeat (first | exact List.Mem.head _ | apply List.Mem.tail | apply List.mem_append_right))); (case hL => (intro i; exact Upd.head))
  · intro hall
    have hp := selE_all (es := fs) hsn hsl (fun i hi => hall i (by rw [iE_len]; exact hi))
    have hsz := hp.length_eq
    have hle : seen.length ≤ fs.length := by
      have h3 := selE_len hsl
      omega
    (repeat (first | refine Jz ?_ | intro _))
    refine o_ret0 (.inr rfl) Tryz.results33 (List.sublist_cons_self _ _) ⟨rfl, rfl, cur, rfl, hWc, fun k => ?_, by omega, hko⟩
    rw [hw, wI_perm hp]
  · intro i k v hni hat
    obtain ⟨nv, hat', rfl⟩ := iE_at hat
    have hkl : k.l.length = 12 := h2.ok _ (List.mem_of_getElem? hat')
    have hil := (List.getElem?_eq_some_iff.1 hat').1
    have hw0 : wI k (selE fs seen) = 0 := wI_none (selE_none h2.nodup hat' hni)
    have hb := hi _ (List.mem_of_getElem? hat')
    have hwk := hw k
    simp only at hb
    unfold i64 at hb
    have hlen : seen.length < fs.length := by
      have h3 : (seen ++ [i]).Nodup := by rw [List.nodup_append]; exact ⟨hsn, by simp, fun a ha b hb e => hni (by simp at hb; subst hb; subst e; exact ha)⟩
      have h4 := nodup_lt fs.length _ h3 (fun j hj => (List.mem_append.1 hj).elim (hsl j) (fun h => by simp at h; subst h; exact hil))
      simp at h4; omega
    (repeat (first | refine Jc ?_ | (apply s_evb; (case hg => rfl); (case hd => rfl); (case hn => rfl); (case he => ((apply ev_entryG (κ := Pth) (b := b2) (ent := iE fs) (seen := seen) (i := i); (case hx => rfl); (case hm => (repeat (first | exact List.Mem.head _ | apply List.Mem.tail | apply List.mem_append_right))); (case hr => (repeat (first | exact List.Mem.head _ | apply List.Mem.tail | apply List.mem_append_right))); (case hi => exact hat))))) | (apply s_store_ag (vs := k.l.map strV); (case hg => rfl); (case hx => rfl); (case hy => rfl); (case h1 => exact strs_one _); (case hv => (rw [List.length_map]; exact hkl)); (case hL => (repeat (first | exact Upd.head | apply Upd.tail | apply Upd.app))); (case hu => rfl)) | refine Jo ?_ | intro _))
    have hfin : ∀ j, wI j (upsI k (wI k cur + nv) cur) = wI j es + wI j (selE fs (seen ++ [i])) := fun j => by
      rw [wI_ups _ _ _ hWc.nodup, selE_snoc hat', wI_app, wI_cons, wI_nil]
      by_cases hjk : j = k
      · subst hjk; rw [if_pos rfl, if_pos rfl]; omega
      · rw [if_neg hjk, if_neg (fun e => hjk e.symm), hw]; omega
    rename_i b4
    ((apply c_held ([(b4, .cells (k.l.map strV).toArray 87 (0, 0))]); (case hL => (exact sbT))); refine Jf 0 ?_; (apply h_first 1; (case hi => rfl); (case hr => kernel_rfl); (case hfr => kernel_rfl); (case hsel => kernel_rfl); (case hg => rfl); (case hd => rfl); (case he => (apply ev_load_own_ag; (case hx => rfl); (case hm => (repeat (first | exact List.Mem.head _ | apply List.Mem.tail | apply List.mem_append_right))); (case hl => (rw [List.length_map]; exact hkl))))); refine Jf 3 ?_; (apply h_two 2 5; (case hr => kernel_rfl)); (case k1 => ((first | (apply n_ev; (case hi => rfl); (case hg => rfl); (case hd => rfl); (case he => (apply ev_lookI (κ := Pth) (es := cur) (key := k) (v := wI k cur) hWc hkl rfl; (case hx => rfl); (case hy => rfl); (case hm => (repeat (first | exact List.Mem.head _ | apply List.Mem.tail | apply List.mem_append_right)))))) | (apply n_ev; (case hi => rfl); (case hg => rfl); (case hd => rfl); (case he => (apply ev_lookI (κ := Pth) (es := upsI k (wI k cur) cur) (key := k) (v := wI k cur) (hWc.ups hkl _) hkl (by rw [wI_ups _ _ _ hWc.nodup, if_pos rfl]); (case hx => rfl); (case hy => rfl); (case hm => (repeat (first | exact List.Mem.head _ | apply List.Mem.tail | apply List.mem_append_right))))))); refine Jf 4 ?_; (apply h_one 5; (case hr => kernel_rfl)); (apply n_mapEntryI (κ := Pth) (es := cur) (key := k) (v := wI k cur) hWc hkl rfl; (case hi => rfl); (case i1 => infer_instance); (case i2 => infer_instance); (case hz => infer_instance); (case hg => rfl); (case hd => rfl); (case hx => rfl); (case hy => rfl); (case hL => (repeat (first | exact Upd.head | apply Upd.tail | apply Upd.app))); (case hsub => (intros; (exact sbT))); intro j hj); refine Jf 6 ?_; (apply h_one 7; (case hr => kernel_rfl)); (apply n_entryStoreI (κ := Pth) hj; (case hi => rfl); (case hg => rfl); (case hx => rfl); (case hy => rfl); (case hz => rfl); (case hL => (repeat (first | exact Upd.head | apply Upd.tail | apply Upd.app))); (case hsub => (intros; (exact sbT)))); (apply h_end; (case hr => kernel_rfl)); (((repeat (first | refine Jz ?_ | intro _))); exact q_back (L' := [(r, iterGO b2 (iE fs).length (seen ++ [i])), (b1, mapGO (iE (upsI k (wI k cur + nv) cur))), (b2, mapGO (iE fs))]) (m' := fs.length - (seen ++ [i]).length) (⟨rfl, seen ++ [i], _, rfl, by rw [List.nodup_append]; exact ⟨hsn, by simp, fun a ha b hb e => hni (by simp at hb; subst hb; subst e; exact ha)⟩, (fun j hj => (List.mem_append.1 hj).elim (hsl j) (fun h => by simp at h; subst h; exact hil)), hWc.ups hkl _, hfin, by have := ups_len k (wI k cur + nv) cur; rw [List.length_append, List.length_singleton]; omega, hko.ups (List.mem_map_of_mem (List.mem_of_getElem? hat')), rfl, rfl⟩) (by simp; omega) sbF sbL))); (case k2 => ((apply n_mapEntryI (κ := Pth) (es := cur) (key := k) (v := wI k cur) hWc hkl rfl; (case hi => rfl); (case i1 => infer_instance); (case i2 => infer_instance); (case hz => infer_instance); (case hg => rfl); (case hd => rfl); (case hx => rfl); (case hy => rfl); (case hL => (repeat (first | exact Upd.head | apply Upd.tail | apply Upd.app))); (case hsub => (intros; (exact sbT))); intro j hj); refine Jf 6 ?_; (apply h_one 2; (case hr => kernel_rfl)); (first | (apply n_ev; (case hi => rfl); (case hg => rfl); (case hd => rfl); (case he => (apply ev_lookI (κ := Pth) (es := cur) (key := k) (v := wI k cur) hWc hkl rfl; (case hx => rfl); (case hy => rfl); (case hm => (repeat (first | exact List.Mem.head _ | apply List.Mem.tail | apply List.mem_append_right)))))) | (apply n_ev; (case hi => rfl); (case hg => rfl); (case hd => rfl); (case he => (apply ev_lookI (κ := Pth) (es := upsI k (wI k cur) cur) (key := k) (v := wI k cur) (hWc.ups hkl _) hkl (by rw [wI_ups _ _ _ hWc.nodup, if_pos rfl]); (case hx => rfl); (case hy => rfl); (case hm => (repeat (first | exact List.Mem.head _ | apply List.Mem.tail | apply List.mem_append_right))))))); refine Jf 4 ?_; (apply h_one 7; (case hr => kernel_rfl)); (apply n_entryStoreI (κ := Pth) hj; (case hi => rfl); (case hg => rfl); (case hx => rfl); (case hy => rfl); (case hz => rfl); (case hL => (repeat (first | exact Upd.head | apply Upd.tail | apply Upd.app))); (case hsub => (intros; (exact sbT)))); (apply h_end; (case hr => kernel_rfl)); (((repeat (first | refine Jz ?_ | intro _))); exact q_back (L' := [(r, iterGO b2 (iE fs).length (seen ++ [i])), (b1, mapGO (iE (upsI k (wI k cur + nv) cur))), (b2, mapGO (iE fs))]) (m' := fs.length - (seen ++ [i]).length) (⟨rfl, seen ++ [i], _, rfl, by rw [List.nodup_append]; exact ⟨hsn, by simp, fun a ha b hb e => hni (by simp at hb; subst hb; subst e; exact ha)⟩, (fun j hj => (List.mem_append.1 hj).elim (hsl j) (fun h => by simp at h; subst h; exact hil)), hWc.ups hkl _, hfin, by have := ups_len k (wI k cur + nv) cur; rw [List.length_append, List.length_singleton]; omega, hko.ups (List.mem_map_of_mem (List.mem_of_getElem? hat')), rfl, rfl⟩) (by simp; omega) sbF sbL))))
set_option maxHeartbeats 1600000 in
theorem minus_con (b1 b2 : Nat) (es fs : List (Pth × Int)) (S : SH) (h1 : WE es) (h2 : WE fs) (hl : fs.length ≤ 1000000) (hi : ∀ x ∈ fs, i64 (wI x.1 es - x.2)) :
    Con Tryz.prog 35 #[.map (some b1), .map (some b2)] S [(b1, mapGO (iE es)), (b2, mapGO (iE fs))] (fun S' L' r => S' = S ∧ r = .tuple #[] ∧ ∃ es', L' = [(b1, mapGO (iE es')), (b2, mapGO (iE fs))] ∧ WE es' ∧ (∀ k, wI k es' = wI k es - wI k fs) ∧ es'.length ≤ es.length + fs.length ∧ KeysOf es fs es') := by
  refine con_of (args := [.map (some b1), .map (some b2)]) Tryz.func35 rfl Tryz.ntmps35 rfl fun w => ?_
  (repeat (first | refine Jc ?_ | (apply s_rangeG (κ := Pth) (b := b2) (ent := iE fs); (case hg => rfl); (case hd => rfl); (case hx => rfl); (case hm => (repeat (first | exact List.Mem.head _ | apply List.Mem.tail | apply List.mem_append_right))); intro r) | refine Jo ?_ | intro _))
  refine c_loop (fun m S' L F => S' = S ∧ ∃ (seen : List Nat) (cur : List (Pth × Int)), m = fs.length - seen.length ∧ seen.Nodup ∧ (∀ i ∈ seen, i < fs.length) ∧ WE cur ∧ (∀ k, wI k cur = wI k es - wI k (selE fs seen)) ∧ cur.length ≤ es.length + seen.length ∧ KeysOf es fs cur ∧ L = [(r, iterGO b2 (iE fs).length seen), (b1, mapGO (iE cur)), (b2, mapGO (iE fs))] ∧
      F = [(0, .map (some b1)), (7, .pointer (some ⟨r, 0, none⟩))]) ⟨rfl, [], es, rfl, List.nodup_nil, (fun i h => by cases h), h1, (fun k => by simp [selE, wI_nil]), by simp, (fun x hx => .inl (List.mem_map_of_mem hx)), rfl, rfl⟩ sbF (List.Sublist.refl _) ?_
  rintro m S' L F ⟨rfl, seen, cur, rfl, hsn, hsl, hWc, hw, hcl, hko, rfl, rfl⟩
  (repeat (first | refine Jz ?_ | intro _))
  apply s_nextG (κ := Pth) (b := b2) (ent := iE fs) (seen := seen) (L' := fun i => [(r, iterGO b2 (iE fs).length (seen ++ [i])), (b1, mapGO (iE cur)), (b2, mapGO (iE fs))]); (case hg => rfl); (case hd => rfl); (case hx => rfl); (case hm => (repeat (first | exact List.Mem.head _ | apply List.Mem.tail | apply List.mem_append_right))); (case hL => (intro i; exact Upd.head))
  · intro hall
    have hp := selE_all (es := fs) hsn hsl (fun i hi => hall i (by rw [iE_len]; exact hi))
    have hsz := hp.length_eq
    have hle : seen.length ≤ fs.length := by
      have h3 := selE_len hsl
      omega
    (repeat (first | refine Jz ?_ | intro _))
    refine o_ret0 (.inr rfl) Tryz.results35 (List.sublist_cons_self _ _) ⟨rfl, rfl, cur, rfl, hWc, fun k => ?_, by omega, hko⟩
    rw [hw, wI_perm hp]
  · intro i k v hni hat
    obtain ⟨nv, hat', rfl⟩ := iE_at hat
    have hkl : k.l.length = 12 := h2.ok _ (List.mem_of_getElem? hat')
    have hil := (List.getElem?_eq_some_iff.1 hat').1
    have hw0 : wI k (selE fs seen) = 0 := wI_none (selE_none h2.nodup hat' hni)
    have hb := hi _ (List.mem_of_getElem? hat')
    have hwk := hw k
    simp only at hb
    unfold i64 at hb
    have hlen : seen.length < fs.length := by
      have h3 : (seen ++ [i]).Nodup := by rw [List.nodup_append]; exact ⟨hsn, by simp, fun a ha b hb e => hni (by simp at hb; subst hb; subst e; exact ha)⟩
      have h4 := nodup_lt fs.length _ h3 (fun j hj => (List.mem_append.1 hj).elim (hsl j) (fun h => by simp at h; subst h; exact hil))
      simp at h4; omega
    (repeat (first | refine Jc ?_ | (apply s_evb; (case hg => rfl); (case hd => rfl); (case hn => rfl); (case he => ((apply ev_entryG (κ := Pth) (b := b2) (ent := iE fs) (seen := seen) (i := i); (case hx => rfl); (case hm => (repeat (first | exact List.Mem.head _ | apply List.Mem.tail | apply List.mem_append_right))); (case hr => (repeat (first | exact List.Mem.head _ | apply List.Mem.tail | apply List.mem_append_right))); (case hi => exact hat))))) | (apply s_store_ag (vs := k.l.map strV); (case hg => rfl); (case hx => rfl); (case hy => rfl); (case h1 => exact strs_one _); (case hv => (rw [List.length_map]; exact hkl)); (case hL => (repeat (first | exact Upd.head | apply Upd.tail | apply Upd.app))); (case hu => rfl)) | refine Jo ?_ | intro _))
    have hfin : ∀ j, wI j (upsI k (wI k cur - nv) cur) = wI j es - wI j (selE fs (seen ++ [i])) := fun j => by
      rw [wI_ups _ _ _ hWc.nodup, selE_snoc hat', wI_app, wI_cons, wI_nil]
      by_cases hjk : j = k
      · subst hjk; rw [if_pos rfl, if_pos rfl]; omega
      · rw [if_neg hjk, if_neg (fun e => hjk e.symm), hw]; omega
    rename_i b4
    ((apply c_held ([(b4, .cells (k.l.map strV).toArray 87 (0, 0))]); (case hL => (exact sbT))); refine Jf 0 ?_; (apply h_first 1; (case hi => rfl); (case hr => kernel_rfl); (case hfr => kernel_rfl); (case hsel => kernel_rfl); (case hg => rfl); (case hd => rfl); (case he => (apply ev_load_own_ag; (case hx => rfl); (case hm => (repeat (first | exact List.Mem.head _ | apply List.Mem.tail | apply List.mem_append_right))); (case hl => (rw [List.length_map]; exact hkl))))); refine Jf 3 ?_; (apply h_two 2 5; (case hr => kernel_rfl)); (case k1 => ((first | (apply n_ev; (case hi => rfl); (case hg => rfl); (case hd => rfl); (case he => (apply ev_lookI (κ := Pth) (es := cur) (key := k) (v := wI k cur) hWc hkl rfl; (case hx => rfl); (case hy => rfl); (case hm => (repeat (first | exact List.Mem.head _ | apply List.Mem.tail | apply List.mem_append_right)))))) | (apply n_ev; (case hi => rfl); (case hg => rfl); (case hd => rfl); (case he => (apply ev_lookI (κ := Pth) (es := upsI k (wI k cur) cur) (key := k) (v := wI k cur) (hWc.ups hkl _) hkl (by rw [wI_ups _ _ _ hWc.nodup, if_pos rfl]); (case hx => rfl); (case hy => rfl); (case hm => (repeat (first | exact List.Mem.head _ | apply List.Mem.tail | apply List.mem_append_right))))))); refine Jf 4 ?_; (apply h_one 5; (case hr => kernel_rfl)); (apply n_mapEntryI (κ := Pth) (es := cur) (key := k) (v := wI k cur) hWc hkl rfl; (case hi => rfl); (case i1 => infer_instance); (case i2 => infer_instance); (case hz => infer_instance); (case hg => rfl); (case hd => rfl); (case hx => rfl); (case hy => rfl); (case hL => (repeat (first | exact Upd.head | apply Upd.tail | apply Upd.app))); (case hsub => (intros; (exact sbT))); intro j hj); refine Jf 6 ?_; (apply h_one 7; (case hr => kernel_rfl)); (apply n_entryStoreI (κ := Pth) hj; (case hi => rfl); (case hg => rfl); (case hx => rfl); (case hy => rfl); (case hz => rfl); (case hL => (repeat (first | exact Upd.head | apply Upd.tail | apply Upd.app))); (case hsub => (intros; (exact sbT)))); (apply h_end; (case hr => kernel_rfl)); (((repeat (first | refine Jz ?_ | intro _))); exact q_back (L' := [(r, iterGO b2 (iE fs).length (seen ++ [i])), (b1, mapGO (iE (upsI k (wI k cur - nv) cur))), (b2, mapGO (iE fs))]) (m' := fs.length - (seen ++ [i]).length) (⟨rfl, seen ++ [i], _, rfl, by rw [List.nodup_append]; exact ⟨hsn, by simp, fun a ha b hb e => hni (by simp at hb; subst hb; subst e; exact ha)⟩, (fun j hj => (List.mem_append.1 hj).elim (hsl j) (fun h => by simp at h; subst h; exact hil)), hWc.ups hkl _, hfin, by have := ups_len k (wI k cur - nv) cur; rw [List.length_append, List.length_singleton]; omega, hko.ups (List.mem_map_of_mem (List.mem_of_getElem? hat')), rfl, rfl⟩) (by simp; omega) sbF sbL))); (case k2 => ((apply n_mapEntryI (κ := Pth) (es := cur) (key := k) (v := wI k cur) hWc hkl rfl; (case hi => rfl); (case i1 => infer_instance); (case i2 => infer_instance); (case hz => infer_instance); (case hg => rfl); (case hd => rfl); (case hx => rfl); (case hy => rfl); (case hL => (repeat (first | exact Upd.head | apply Upd.tail | apply Upd.app))); (case hsub => (intros; (exact sbT))); intro j hj); refine Jf 6 ?_; (apply h_one 2; (case hr => kernel_rfl)); (first | (apply n_ev; (case hi => rfl); (case hg => rfl); (case hd => rfl); (case he => (apply ev_lookI (κ := Pth) (es := cur) (key := k) (v := wI k cur) hWc hkl rfl; (case hx => rfl); (case hy => rfl); (case hm => (repeat (first | exact List.Mem.head _ | apply List.Mem.tail | apply List.mem_append_right)))))) | (apply n_ev; (case hi => rfl); (case hg => rfl); (case hd => rfl); (case he => (apply ev_lookI (κ := Pth) (es := upsI k (wI k cur) cur) (key := k) (v := wI k cur) (hWc.ups hkl _) hkl (by rw [wI_ups _ _ _ hWc.nodup, if_pos rfl]); (case hx => rfl); (case hy => rfl); (case hm => (repeat (first | exact List.Mem.head _ | apply List.Mem.tail | apply List.mem_append_right))))))); refine Jf 4 ?_; (apply h_one 7; (case hr => kernel_rfl)); (apply n_entryStoreI (κ := Pth) hj; (case hi => rfl); (case hg => rfl); (case hx => rfl); (case hy => rfl); (case hz => rfl); (case hL => (repeat (first | exact Upd.head | apply Upd.tail | apply Upd.app))); (case hsub => (intros; (exact sbT)))); (apply h_end; (case hr => kernel_rfl)); (((repeat (first | refine Jz ?_ | intro _))); exact q_back (L' := [(r, iterGO b2 (iE fs).length (seen ++ [i])), (b1, mapGO (iE (upsI k (wI k cur - nv) cur))), (b2, mapGO (iE fs))]) (m' := fs.length - (seen ++ [i]).length) (⟨rfl, seen ++ [i], _, rfl, by rw [List.nodup_append]; exact ⟨hsn, by simp, fun a ha b hb e => hni (by simp at hb; subst hb; subst e; exact ha)⟩, (fun j hj => (List.mem_append.1 hj).elim (hsl j) (fun h => by simp at h; subst h; exact hil)), hWc.ups hkl _, hfin, by have := ups_len k (wI k cur - nv) cur; rw [List.length_append, List.length_singleton]; omega, hko.ups (List.mem_map_of_mem (List.mem_of_getElem? hat')), rfl, rfl⟩) (by simp; omega) sbF sbL))))
end Go.Proofs.YtcnfchchanlepaaGreat
namespace Go.Proofs.YtcnfchchanlepaaGreat
open Go Go.X
set_option linter.unusedVariables false
/-- A path as it lies in an array of twelve strings. -/
def pad (q : List Bs) : List Bs := q ++ List.replicate (12 - q.length) []
def pth (q : List Bs) : Pth := ⟨pad q⟩
theorem pad_len {q : List Bs} (h : q.length ≤ 12) : (pad q).length = 12 := by simp [pad]; omega
theorem pad_lenV {q : List Bs} (h : q.length ≤ 12) : ((pad q).map strV).length = 12 := by rw [List.length_map]; exact pad_len h
theorem pad_set {q : List Bs} (h : q.length < 12) (k : Bs) : (pad q).set q.length k = pad (q ++ [k]) := by
  unfold pad
  rw [List.set_append_right _ _ (Nat.le_refl _), Nat.sub_self]
  obtain ⟨m, hm⟩ : ∃ m, 12 - q.length = m + 1 := ⟨12 - q.length - 1, by omega⟩
  rw [hm, List.replicate_succ, List.set_cons_zero, List.length_append, List.append_assoc, show 12 - (q.length + [k].length) = m by simp; omega]
  rfl
theorem pad_setV {q : List Bs} (h : q.length < 12) (k : Bs) : ((pad q).map strV).set q.length (strV k) = (pad (q ++ [k])).map strV := by
  rw [← pad_set h, List.map_set]
theorem pad_free {q : List Bs} (h : q.length < 12) : ((pad q).map strV)[q.length]? = some (strV []) := by
  unfold pad
  rw [List.map_append, List.getElem?_append_right (by simp), List.length_map, Nat.sub_self]
  obtain ⟨m, hm⟩ : ∃ m, 12 - q.length = m + 1 := ⟨12 - q.length - 1, by omega⟩
  rw [hm, List.replicate_succ]; rfl
theorem pad_last (q : List Bs) (x : Bs) : ((pad (q ++ [x])).map strV)[q.length]? = some (strV x) := by
  unfold pad
  rw [List.map_append, List.getElem?_append_left (by simp), List.map_append, List.getElem?_append_right (by simp)]
  simp
def VQ (q : List Bs) : Prop := q.length ≤ 12 ∧ ∀ x ∈ q, x ≠ []
theorem VQ.snoc {q : List Bs} {k : Bs} (h : VQ q) (hl : q.length < 12) (hk : k ≠ []) : VQ (q ++ [k]) := ⟨by simp; omega, fun x hx => by
  rcases List.mem_append.1 hx with h1 | h1
  · exact h.2 x h1
  · simp at h1; subst h1; exact hk⟩
def nameOf (q : List Bs) : Bs := q.getLast?.getD []
def capI (x : Int) : Int := if 1125899906842625 < x then 1125899906842625 else x
/-- What the loop over the kids of a node makes: the nodes below it, its total. -/
def growK (g : Nat → Bs → List Nd × Int) : List Str → List Nd × Int → List Nd × Int
  | [], acc => acc
  | k :: r, acc => growK g r (acc.1 ++ (g acc.1.length k.b).1, capI (acc.2 + (g acc.1.length k.b).2))
/-- The nodes of a path and of what is below it, where m names may still follow. -/
def growN (own : Pth → Int) (kids : Pth → List Str) : Nat → List Bs → Int → Nat → List Nd × Int
  | 0, q, parent, _ => ([⟨parent, nameOf q, own (pth q), own (pth q)⟩], own (pth q))
  | m + 1, q, parent, at_ =>
    (⟨parent, nameOf q, own (pth q), (growK (fun n k => growN own kids m (q ++ [k]) (at_ : Nat) (at_ + 1 + n)) (sortS (kids (pth q))) ([], own (pth q))).2⟩ :: (growK (fun n k => growN own kids m (q ++ [k]) (at_ : Nat) (at_ + 1 + n)) (sortS (kids (pth q))) ([], own (pth q))).1,
      (growK (fun n k => growN own kids m (q ++ [k]) (at_ : Nat) (at_ + 1 + n)) (sortS (kids (pth q))) ([], own (pth q))).2)
theorem growK_app (g : Nat → Bs → List Nd × Int) : ∀ (a b : List Str) (acc : List Nd × Int), growK g (a ++ b) acc = growK g b (growK g a acc)
  | [], _, _ => rfl
  | k :: r, b, acc => by rw [List.cons_append, growK, growK, growK_app g r b]
theorem growK_len (g : Nat → Bs → List Nd × Int) : ∀ (l : List Str) (acc : List Nd × Int), acc.1.length ≤ (growK g l acc).1.length
  | [], _ => Nat.le_refl _
  | k :: r, acc => by
    have := growK_len g r (acc.1 ++ (g acc.1.length k.b).1, capI (acc.2 + (g acc.1.length k.b).2))
    rw [growK]
    simp only [List.length_append] at this
    omega
theorem growK_pre (g : Nat → Bs → List Nd × Int) (l : List Str) (acc : List Nd × Int) (j : Nat) : (growK g (l.take j) acc).1.length ≤ (growK g l acc).1.length := by
  have h := growK_app g (l.take j) (l.drop j) acc
  rw [List.take_append_drop] at h
  rw [h]; exact growK_len _ _ _
def bd (x : Int) : Prop := 0 ≤ x ∧ x ≤ 1152921504606846976
theorem capI_bd {x y : Int} (hx : bd x) (hy : bd y) : bd (capI (x + y)) := by
  unfold bd capI at *
  split <;> omega
theorem growK_bd {g : Nat → Bs → List Nd × Int} (hg : ∀ n k, bd (g n k).2) : ∀ (l : List Str) (acc : List Nd × Int), bd acc.2 → bd (growK g l acc).2
  | [], _, h => h
  | k :: r, acc, h => growK_bd hg r _ (capI_bd h (hg _ _))
theorem growN_bd {own : Pth → Int} {kids : Pth → List Str} (ho : ∀ k, bd (own k)) : ∀ (m : Nat) (q : List Bs) (parent : Int) (at_ : Nat), bd (growN own kids m q parent at_).2
  | 0, q, _, _ => ho _
  | m + 1, q, _, at_ => growK_bd (fun n k => growN_bd ho m (q ++ [k]) _ _) _ _ (ho _)
theorem sortS_len (l : List Str) : (sortS l).length = l.length := by simp [sortS]
/-- What grow finds in memory, all stable. -/
structure Gr (S : SH) (b9 bo bk bg bmo bmk : Nat) (es : List (Pth × Int)) (ent : GE Pth) (kids : Pth → List Str) : Prop where
  po : Pts S ⟨bo, 0, none⟩ [.map (some bmo)]
  mo : S bmo = some (mapGO (iE es))
  pk : Pts S ⟨bk, 0, none⟩ [.map (some bmk)]
  qk : S bmk = some (mapGO ent)
  pg : Pts S ⟨bg, 0, none⟩ [.func (.func 69) #[] [.pointer (some ⟨b9, 0, none⟩), .pointer (some ⟨bo, 0, none⟩), .pointer (some ⟨bk, 0, none⟩), .pointer (some ⟨bg, 0, none⟩)].toArray]
  kd : ∀ k : Pth, KC.ok k → ∃ A c, (lookG k ent).getD (.slice none 0 0) = .slice A (kids k).length c ∧ At S A (kids k)
theorem Gr.le {S T : SH} {b9 bo bk bg bmo bmk : Nat} {es : List (Pth × Int)} {ent : GE Pth} {kids : Pth → List Str} (h : Gr S b9 bo bk bg bmo bmk es ent kids) (hl : Le S T) : Gr T b9 bo bk bg bmo bmk es ent kids :=
  ⟨h.po.le hl, hl _ _ h.mo, h.pk.le hl, hl _ _ h.qk, h.pg.le hl, fun k hk => by
    obtain ⟨A, c, h1, h2⟩ := h.kd k hk
    exact ⟨A, c, h1, h2.le hl⟩⟩
end Go.Proofs.YtcnfchchanlepaaGreat
namespace Go.Proofs.YtcnfchchanlepaaGreat
open Go Go.X
theorem growK_snoc (g : Nat → Bs → List Nd × Int) (l : List Str) (k : Str) (acc : List Nd × Int) : growK g (l ++ [k]) acc = ((growK g l acc).1 ++ (g (growK g l acc).1.length k.b).1, capI ((growK g l acc).2 + (g (growK g l acc).1.length k.b).2)) := by rw [growK_app]; rfl
theorem node_set {nodes rest : List Nd} {n0 : Nd} {tl : List Value} {t : Int} : (cellsOf (nodes ++ n0 :: rest) ++ tl).set (nodes.length * 4 + 3) (.int .i64 t) = cellsOf (nodes ++ { n0 with total := t } :: rest) ++ tl := by
  have h4 : (cellsOf nodes).length = nodes.length * 4 := cellsOf_length nodes
  simp only [cellsOf_append, cellsOf_cons, List.append_assoc]
  rw [List.set_append_right _ _ (by omega), h4, Nat.add_sub_cancel_left]
  rfl
theorem node_at {nodes rest : List Nd} {n0 : Nd} {tl : List Value} : (cellsOf (nodes ++ n0 :: rest) ++ tl)[nodes.length * 4 + 3]? = some (.int .i64 n0.total) := by
  have h4 : (cellsOf nodes).length = nodes.length * 4 := cellsOf_length nodes
  simp only [cellsOf_append, cellsOf_cons, List.append_assoc]
  rw [List.getElem?_append_right (by omega), h4, Nat.add_sub_cancel_left]
  rfl
def GrowCon (b9 bo bk bg bmo bmk : Nat) (es : List (Pth × Int)) (ent : GE Pth) (kids : Pth → List Str) (q : List Bs) (parent : Int) (lo : Nat) (r : Nat → List Nd × Int) : Prop :=
  ∀ (nodes : List Nd) (v : Value) (ob : Blocks) (S : SH), Gr S b9 bo bk bg bmo bmk es ent kids → Ows 51 v nodes ob → lo ≤ nodes.length → nodes.length + (r nodes.length).1.length ≤ 1000000 →
    Con Tryz.prog 69 #[.agg ((pad q).map strV).toArray, .int .i64 (q.length : Nat), .int .i64 parent, .pointer (some ⟨b9, 0, none⟩), .pointer (some ⟨bo, 0, none⟩), .pointer (some ⟨bk, 0, none⟩), .pointer (some ⟨bg, 0, none⟩)] S ((b9, .cells [v].toArray 24 (0, 0)) :: ob)
      (fun _ L' x => x = .int .i64 (r nodes.length).2 ∧ ∃ v' ob', L' = (b9, .cells [v'].toArray 24 (0, 0)) :: ob' ∧ Ows 51 v' (nodes ++ (r nodes.length).1) ob')
set_option maxHeartbeats 1600000 in
set_option maxRecDepth 10000
set_option linter.unusedVariables false
attribute [local irreducible] Code.wpIn wpListIn Exit.then Exit.inBlock X.Out X.Back X.W X.Ev X.Con X.BinV X.Wh X.Wn X.Wq
theorem grow_step {b9 bo bk bg bmo bmk : Nat} {es : List (Pth × Int)} {ent : GE Pth} {kids : Pth → List Str} (hWE : WE es) (hE : ∀ p ∈ ent, KC.ok p.1) (hkl : ∀ k, (kids k).length ≤ 100000) (hbd : ∀ k, bd (wI k es))
    (q : List Bs) (hq : q.length ≤ 12) (parent : Int) (g : Nat → Nat → Bs → List Nd × Int) (hg : ∀ a n k, bd (g a n k).2) (hks : kids (pth q) ≠ [] → q.length < 12)
    (hrec : q.length < 12 → ∀ (k : Bs), (⟨k⟩ : Str) ∈ sortS (kids (pth q)) → ∀ (at_ : Nat), GrowCon b9 bo bk bg bmo bmk es ent kids (q ++ [k]) (at_ : Nat) (at_ + 1) (fun n => g at_ (n - (at_ + 1)) k)) :
    GrowCon b9 bo bk bg bmo bmk es ent kids q parent 0 (fun n => (⟨parent, nameOf q, wI (pth q) es, (growK (g n) (sortS (kids (pth q))) ([], wI (pth q) es)).2⟩ :: (growK (g n) (sortS (kids (pth q))) ([], wI (pth q) es)).1, (growK (g n) (sortS (kids (pth q))) ([], wI (pth q) es)).2)) := by
  intro nodes v ob S he ho _ hn
  refine con_of (args := [.agg ((pad q).map strV).toArray, .int .i64 (q.length : Nat), .int .i64 parent, .pointer (some ⟨b9, 0, none⟩), .pointer (some ⟨bo, 0, none⟩), .pointer (some ⟨bk, 0, none⟩), .pointer (some ⟨bg, 0, none⟩)]) Tryz.func69 rfl Tryz.ntmps69 rfl fun w => ?_
  have hpl := pad_lenV hq
  have hok : KC.ok (pth q) := pad_len hq
  obtain ⟨Ak, ck, hlk, hAk⟩ := he.kd _ hok
  obtain ⟨An, cn, rfl⟩ := ho.form
  have hw0 := hbd (pth q)
  have hw1 : bd (wI (pth q) es) := hw0
  unfold bd at hw0
  simp only at hn
  rw [List.length_cons] at hn
  obtain ⟨r, hr⟩ : ∃ r, r = growK (g nodes.length) (sortS (kids (pth q))) ([], wI (pth q) es) := ⟨_, rfl⟩
  rw [← hr] at hn
  (repeat (first | refine Jz ?_ | intro _))
  rename_i bp
  refine c_meet (fun S' L F => S' = S ∧ L = (bp, .cells ((pad q).map strV).toArray 87 (0, 0)) :: (b9, .cells [.slice An nodes.length cn].toArray 24 (0, 0)) :: ob ∧
      F = [(1, .int .i64 (q.length : Nat)), (2, .int .i64 parent), (3, .pointer (some ⟨b9, 0, none⟩)), (4, .pointer (some ⟨bo, 0, none⟩)), (5, .pointer (some ⟨bk, 0, none⟩)), (6, .pointer (some ⟨bg, 0, none⟩)), (7, .pointer (some ⟨bp, 0, none⟩)), (11, .int .i64 nodes.length), (12, strV (nameOf q))]) ?_ ?_
  · rcases List.eq_nil_or_concat q with rfl | ⟨q', x, rfl⟩
    · (repeat (first | refine Jz ?_ | intro _))
      exact q_cut ⟨rfl, rfl, rfl⟩ sbF sbL
    · rw [List.concat_eq_append] at *
      rw [List.length_append, List.length_singleton] at *
      have hlast : ((pad (q' ++ [x])).map strV)[q'.length]? = some (strV (nameOf (q' ++ [x]))) := by
        rw [show nameOf (q' ++ [x]) = x by simp [nameOf]]; exact pad_last q' x
      have hpos : decide ((0 : Int) < ((q'.length + 1 : Nat) : Int)) = true := by simp
      rw [hpos]
      (repeat (first | refine Jc ?_ | (apply s_evb; (case hg => rfl); (case hd => rfl); (case hn => rfl); (case he => ((apply ev_binV; (case hx => rfl); (case hy => rfl); (case hb => (apply bv_pred; omega)))))) | (apply s_evb; (case hg => rfl); (case hd => rfl); (case hn => rfl); (case he => ((apply ev_load_own; (case hx => rfl); (case hm => (repeat (first | exact List.Mem.head _ | apply List.Mem.tail | apply List.mem_append_right))); (case h => exact hlast))))) | refine Jo ?_ | intro _))
      exact q_cut ⟨rfl, rfl, rfl⟩ sbF sbL
  rintro S' L F ⟨rfl, rfl, rfl⟩
  refine c_cut (fun S2 L F => S2 = S' ∧ ∃ (Am : Option Addr) (cm : Nat) (ob' : Blocks), Ows 51 (.slice Am (nodes.length + 1) cm) (nodes ++ [(⟨parent, nameOf q, wI (pth q) es, 0⟩ : Nd)]) ob' ∧ L = ob' ++ [(bp, .cells ((pad q).map strV).toArray 87 (0, 0)), (b9, .cells [.slice Am (nodes.length + 1) cm].toArray 24 (0, 0))] ∧
      F = [(1, .int .i64 (q.length : Nat)), (3, .pointer (some ⟨b9, 0, none⟩)), (4, .pointer (some ⟨bo, 0, none⟩)), (5, .pointer (some ⟨bk, 0, none⟩)), (6, .pointer (some ⟨bg, 0, none⟩)), (7, .pointer (some ⟨bp, 0, none⟩)), (11, .int .i64 nodes.length)]) ?_ ?_
  · ((apply c_held ([(bp, .cells ((pad q).map strV).toArray 87 (0, 0))]); (case hL => (exact sbT))); refine Jf 0 ?_; refine Jf 2 ?_; refine Jf 3 ?_; (apply h_first 4; (case hi => rfl); (case hr => kernel_rfl); (case hfr => kernel_rfl); (case hsel => kernel_rfl); (case hg => rfl); (case hd => rfl); (case he => (apply ev_load1; (case hx => rfl); (case h => exact he.po)))); (apply h_first 5; (case hi => rfl); (case hr => kernel_rfl); (case hfr => kernel_rfl); (case hsel => kernel_rfl); (case hg => rfl); (case hd => rfl); (case he => (apply ev_load_own_ag; (case hx => rfl); (case hm => (repeat (first | exact List.Mem.head _ | apply List.Mem.tail | apply List.mem_append_right))); (case hl => exact hpl)))); (apply h_first 6; (case hi => rfl); (case hr => kernel_rfl); (case hfr => kernel_rfl); (case hsel => kernel_rfl); (case hg => rfl); (case hd => rfl); (case he => (apply ev_lookIS (κ := Pth) (es := es) (key := pth q) hWE hok rfl he.mo; (case hx => rfl); (case hy => rfl)))); (apply h_first 7; (case hi => rfl); (case hr => kernel_rfl); (case hfr => kernel_rfl); (case hsel => kernel_rfl); (case hg => rfl); (case hd => rfl); (case he => (apply ev_buildS; (case hp => rfl); (case hz => rfl); (case h1 => rfl); (case hr => rfl)))); (apply h_two 1 8; (case hr => kernel_rfl)); (case k1 => ((refine X.Jn ?_; try intro _); (apply h_one 8; (case hr => kernel_rfl)); (apply n_buildSlice; (case hi => rfl); (case hg => rfl); (case hd => rfl); (case i1 => infer_instance); (case i2 => infer_instance); (case i3 => infer_instance); (case hp => rfl); (case hq => rfl); (case hm => rfl); (case hv => rfl); (case hl => rfl); intro bl); (apply h_one 9; (case hr => kernel_rfl)); (apply n_append (ms := [(⟨parent, nameOf q, wI (pth q) es, 0⟩ : Nd)]); (case hi => rfl); (case hT => infer_instance); (case hsz => infer_instance); (case hz => infer_instance); (case hby => infer_instance); (case hg => rfl); (case hd => rfl); (case hx => rfl); (case ho => exact ho); (case hL => (repeat (first | exact pm_nil _ | exact pm_refl _ _ | exact pm_self _ | apply pm_cons | apply pm_app))); (case hy => rfl); (case hm => rfl); (case hs => (apply Src.own; (repeat (first | exact List.Mem.head _ | apply List.Mem.tail | apply List.mem_append_right)))); (case hzs => rfl); (case h0 => decide); (case hb => (simp; omega)); (case h63 => (simp; omega)); (case hsub => (intros; (exact sbT))); intro v' ob' ho'); obtain ⟨Am, cm, rfl⟩ := ho'.form; rw [List.length_append, List.length_singleton] at *; refine Jf 10 ?_; (apply h_one 11; (case hr => kernel_rfl)); (apply n_store; (case hi => rfl); (case i1 => infer_instance); (case hg => rfl); (case hx => rfl); (case hy => rfl); (case h1 => rfl); (case hL => (repeat (first | exact Upd.head | apply Upd.tail | apply Upd.app))); (case hu => rfl); (case hsub => (intro _; (exact sbT)))); (apply h_end; (case hr => kernel_rfl)); (refine q_then ?_; exact q_cut ⟨rfl, Am, cm, ob', ho', rfl, rfl⟩ sbF sbL))); (case k2 => ((apply n_buildSlice; (case hi => rfl); (case hg => rfl); (case hd => rfl); (case i1 => infer_instance); (case i2 => infer_instance); (case i3 => infer_instance); (case hp => rfl); (case hq => rfl); (case hm => rfl); (case hv => rfl); (case hl => rfl); intro bl); (apply h_one 1; (case hr => kernel_rfl)); (refine X.Jn ?_; try intro _); (apply h_one 9; (case hr => kernel_rfl)); (apply n_append (ms := [(⟨parent, nameOf q, wI (pth q) es, 0⟩ : Nd)]); (case hi => rfl); (case hT => infer_instance); (case hsz => infer_instance); (case hz => infer_instance); (case hby => infer_instance); (case hg => rfl); (case hd => rfl); (case hx => rfl); (case ho => exact ho); (case hL => (repeat (first | exact pm_nil _ | exact pm_refl _ _ | exact pm_self _ | apply pm_cons | apply pm_app))); (case hy => rfl); (case hm => rfl); (case hs => (apply Src.own; (repeat (first | exact List.Mem.head _ | apply List.Mem.tail | apply List.mem_append_right)))); (case hzs => rfl); (case h0 => decide); (case hb => (simp; omega)); (case h63 => (simp; omega)); (case hsub => (intros; (exact sbT))); intro v' ob' ho'); obtain ⟨Am, cm, rfl⟩ := ho'.form; rw [List.length_append, List.length_singleton] at *; refine Jf 10 ?_; (apply h_one 11; (case hr => kernel_rfl)); (apply n_store; (case hi => rfl); (case i1 => infer_instance); (case hg => rfl); (case hx => rfl); (case hy => rfl); (case h1 => rfl); (case hL => (repeat (first | exact Upd.head | apply Upd.tail | apply Upd.app))); (case hu => rfl); (case hsub => (intro _; (exact sbT)))); (apply h_end; (case hr => kernel_rfl)); (refine q_then ?_; exact q_cut ⟨rfl, Am, cm, ob', ho', rfl, rfl⟩ sbF sbL))))
  rintro S2 L F ⟨rfl, Am, cm, ob', ho', rfl, rfl⟩
  (repeat (first | refine Jc ?_ | (apply s_load1; (case hg => rfl); (case hd => rfl); (case hx => rfl); (case hv => exact he.po)) | (apply s_evb; (case hg => rfl); (case hd => rfl); (case hn => rfl); (case he => ((apply ev_load_own_ag; (case hx => rfl); (case hm => (repeat (first | exact List.Mem.head _ | apply List.Mem.tail | apply List.mem_append_right))); (case hl => exact hpl))))) | (apply s_evb; (case hg => rfl); (case hd => rfl); (case hn => rfl); (case he => ((apply ev_lookIS (κ := Pth) (es := es) (key := pth q) hWE hok rfl he.mo; (case hx => rfl); (case hy => rfl))))) | (apply s_load1; (case hg => rfl); (case hd => rfl); (case hx => rfl); (case hv => exact he.pk)) | (apply s_evb; (case hg => rfl); (case hd => rfl); (case hn => rfl); (case he => ((apply ev_lookSv (κ := Pth) (ent := ent) (key := pth q) hE hok hlk he.qk; (case hx => rfl); (case hy => rfl))))) | (apply s_call; (case hg => rfl); (case hd => rfl); (case ha => rfl); (case hc => exact pfValues_con (kids (pth q)) Ak ck _); (case hL => (repeat (first | exact pm_nil _ | exact pm_refl _ _ | exact pm_self _ | apply pm_cons | apply pm_app))); rintro S5 _ _ hle2 ⟨rfl, p2, rfl, hp2⟩) | refine Jo ?_ | intro _))
  have he2 := he.le hle2
  (repeat (first | refine Jc ?_ | (apply s_call; (case hg => rfl); (case hd => rfl); (case ha => rfl); (case hc => exact pfSorted_con (kids (pth q)) Ak ck _ p2 hp2 (hAk.le hle2) (show (kids (pth q)).length ≤ 1000000 by have := hkl (pth q); omega)); (case hL => (repeat (first | exact pm_nil _ | exact pm_refl _ _ | exact pm_self _ | apply pm_cons | apply pm_app))); rintro S3 L3 vs hle3 ho3); refine W.freezeOws (L1 := ob' ++ [(bp, .cells ((pad q).map strV).toArray 87 (0, 0)), (b9, .cells [.slice Am (nodes.length + 1) cm].toArray 24 (0, 0))]) ho3 (pmc (fun p => by (repeat (first | rw [List.countP_append] | rw [List.countP_cons] | rw [List.countP_nil])); (all_goals (first | rfl | omega)))) fun S4 hle4 hs4 => ?_; obtain ⟨As, cs, rfl, hcs, hAs⟩ := hs4 | refine Jo ?_ | intro _))
  have he4 := (he2.le hle3).le hle4
  have hsl : (sortS (kids (pth q))).length ≤ 100000 := by rw [sortS_len]; exact hkl _
  have hq12 : 0 < (sortS (kids (pth q))).length → q.length < 12 := fun h => hks fun e => by rw [sortS_len, e] at h; simp at h
  refine W.perm (L' := (b9, .cells [.slice Am (nodes.length + 1) cm].toArray 24 (0, 0)) :: (ob' ++ [(bp, .cells ((pad q).map strV).toArray 87 (0, 0))])) ?_ (pmc (fun p => by (repeat (first | rw [List.countP_append] | rw [List.countP_cons] | rw [List.countP_nil])); (all_goals (first | rfl | omega))))
  simp only [← hr]
  generalize hksd : sortS (kids (pth q)) = ks at *
  refine c_loop (fun m S' L F => Le S4 S' ∧ ∃ (j : Nat) (v' : Value) (ob' : Blocks), m = ks.length - j ∧ j ≤ ks.length ∧ Ows 51 v' (nodes ++ ⟨parent, nameOf q, wI (pth q) es, 0⟩ :: (growK (g nodes.length) (ks.take j) ([], wI (pth q) es)).1) ob' ∧ L = (b9, .cells [v'].toArray 24 (0, 0)) :: (ob' ++ [(bp, .cells ((pad q).map strV).toArray 87 (0, 0))]) ∧
      F = [(1, .int .i64 (q.length : Nat)), (3, .pointer (some ⟨b9, 0, none⟩)), (6, .pointer (some ⟨bg, 0, none⟩)), (7, .pointer (some ⟨bp, 0, none⟩)), (11, .int .i64 nodes.length), (13, .int .i64 (growK (g nodes.length) (ks.take j) ([], wI (pth q) es)).2), (44, .slice As ks.length cs), (45, .int .i64 ks.length), (46, .int .i64 j)]) ⟨Le.refl _, 0, _, ob', rfl, by omega, ho', rfl, rfl⟩ sbF (List.Sublist.refl _) ?_
  rintro m S' L F ⟨hle5, j, v', ob2, rfl, hj, ho2, rfl, rfl⟩
  have hjl := growK_pre (g nodes.length) ks ([], wI (pth q) es) j
  have hab := growK_bd (hg nodes.length) (ks.take j) ([], wI (pth q) es) hw1
  rw [← hr] at hjl
  by_cases hlt : j < ks.length
  rotate_left
  · rw [List.take_of_length_le (by omega), ← hr] at ho2 ⊢
    obtain ⟨gN, cap, tl, rfl, rfl, q1, q2, q3⟩ := ho2.rowed (by simp; omega)
    (repeat (first | refine Jc ?_ | (apply s_evb; (case hg => rfl); (case hd => rfl); (case hn => rfl); (case he => ((apply ev_idxo (j := nodes.length); (case hx => rfl); (case hi => rfl); (case hk => simp))))) | (apply s_store; (case hg => rfl); (case hx => rfl); (case hy => rfl); (case h1 => rfl); (case hL => (rw [node_set]; (repeat (first | exact Upd.head | apply Upd.tail | apply Upd.app)))); (case hu => exact node_at)) | refine Jo ?_ | intro _))
    exact o_ret Tryz.results69 rfl sbL ⟨rfl, _, _, rfl, Ows.of_row (l := nodes ++ ⟨parent, nameOf q, wI (pth q) es, r.2⟩ :: r.1) (by simp) q1 q2 (by simpa [cellsOf_length] using q3)⟩
  obtain ⟨x, hx⟩ : ∃ x, ks[j]? = some x := ⟨_, List.getElem?_eq_getElem hlt⟩
  have h12 := hq12 (by omega)
  have htk := take_at hx
  have hst := growK_snoc (g nodes.length) (ks.take j) x ([], wI (pth q) es)
  rw [← htk] at hst
  have hjl2 := growK_pre (g nodes.length) ks ([], wI (pth q) es) (j + 1)
  rw [← hr, hst] at hjl2
  generalize growK (g nodes.length) (ks.take j) ([], wI (pth q) es) = a at *
  have hlen : (nodes ++ (⟨parent, nameOf q, wI (pth q) es, 0⟩ : Nd) :: a.1).length - (nodes.length + 1) = a.1.length := by simp; omega
  have hc := hrec h12 x.b (List.mem_of_getElem? hx) nodes.length (nodes ++ ⟨parent, nameOf q, wI (pth q) es, 0⟩ :: a.1) v' ob2 S' (he4.le hle5) ho2 (by simp)
  simp only [hlen] at hc
  rw [show (q ++ [x.b]).length = q.length + 1 by simp] at hc
  rw [List.length_append, List.length_cons] at hc
  simp only [List.length_append] at hjl2
  have hc2 := hc (by omega)
  have hgb := hg nodes.length a.1.length x.b
  unfold bd at hab hgb
  (repeat (first | refine Jc ?_ | (apply s_idx (hAs.le hle5); (case hg => rfl); (case hd => rfl); (case hx => rfl); (case hi => rfl); (case hm => rfl); (case hu => exact hx); intro q3 (hq3 : Pts _ q3 [strV x.b])) | (apply s_load1; (case hg => rfl); (case hd => rfl); (case hx => rfl); (case hv => exact hq3)) | (apply s_evb; (case hg => rfl); (case hd => rfl); (case hn => rfl); (case he => ((apply ev_load_own_ag; (case hx => rfl); (case hm => (repeat (first | exact List.Mem.head _ | apply List.Mem.tail | apply List.mem_append_right))); (case hl => exact hpl))))) | (apply s_store_ag (vs := (pad q).map strV); (case hg => rfl); (case hx => rfl); (case hy => rfl); (case h1 => exact strs_one _); (case hv => exact hpl); (case hL => (repeat (first | exact Upd.head | apply Upd.tail | apply Upd.app))); (case hu => rfl)) | (apply s_evb; (case hg => rfl); (case hd => rfl); (case hn => rfl); (case he => ((apply ev_idxa1; (case hx => rfl); (case hi => rfl); (case hk => exact h12))))) | (apply s_store (u := strV []); (case hg => rfl); (case hx => rfl); (case hy => rfl); (case h1 => rfl); (case hL => (rw [pad_setV h12]; (repeat (first | exact Upd.head | apply Upd.tail | apply Upd.app)))); (case hu => exact pad_free h12)) | refine Jo ?_ | intro _))
  rename_i bq
  have hp2 : ((pad (q ++ [x.b])).map strV).length = 12 := pad_lenV (by simp; omega)
  (repeat (first | refine Jc ?_ | (apply s_load1; (case hg => rfl); (case hd => rfl); (case hx => rfl); (case hv => exact (he4.le hle5).pg)) | (apply s_evb; (case hg => rfl); (case hd => rfl); (case hn => rfl); (case he => ((apply ev_load_own_ag; (case hx => rfl); (case hm => exact List.Mem.head _); (case hl => exact hp2))))) | (apply s_callw (L2 := [(bq, .cells ((pad (q ++ [x.b])).map strV).toArray 87 (0, 0)), (bp, .cells ((pad q).map strV).toArray 87 (0, 0))]) (caps := [.pointer (some ⟨b9, 0, none⟩), .pointer (some ⟨bo, 0, none⟩), .pointer (some ⟨bk, 0, none⟩), .pointer (some ⟨bg, 0, none⟩)]); (case hg => rfl); (case hd => rfl); (case hx => rfl); (case i1 => infer_instance); (case ha => rfl); (case hc => exact hc2); (case hL => exact (pmc (fun p => by (repeat (first | rw [List.countP_append] | rw [List.countP_cons] | rw [List.countP_nil])); (all_goals (first | rfl | omega))))); rintro S6 _ _ hle6 ⟨rfl, v3, ob3, rfl, ho3⟩) | refine Jo ?_ | intro _))
  refine q_back (L' := (b9, .cells [v3].toArray 24 (0, 0)) :: (ob3 ++ [(bp, .cells ((pad q).map strV).toArray 87 (0, 0))])) (F' := [(1, .int .i64 (q.length : Nat)), (3, .pointer (some ⟨b9, 0, none⟩)), (6, .pointer (some ⟨bg, 0, none⟩)), (7, .pointer (some ⟨bp, 0, none⟩)), (11, .int .i64 nodes.length), (13, .int .i64 (capI (a.2 + (g nodes.length a.1.length x.b).2))), (44, .slice As ks.length cs), (45, .int .i64 ks.length), (46, .int .i64 (j + 1 : Nat))]) (m' := ks.length - (j + 1)) ⟨hle5.trans hle6, j + 1, v3, ob3, rfl, by omega, ?_, rfl, ?_⟩ (by omega) sbF sbL
  · rw [hst]
    simpa using ho3
  · rw [hst]
theorem sortS_mem (x : Str) (l : List Str) : x ∈ sortS l ↔ x ∈ l := by
  simp only [sortS, List.mem_map, List.mem_mergeSort]
  constructor
  · rintro ⟨y, ⟨z, hz, rfl⟩, rfl⟩; exact hz
  · exact fun h => ⟨x.b, ⟨x, h, rfl⟩, rfl⟩
theorem grow_con {b9 bo bk bg bmo bmk : Nat} {es : List (Pth × Int)} {ent : GE Pth} {kids : Pth → List Str} (hWE : WE es) (hE : ∀ p ∈ ent, KC.ok p.1) (hkl : ∀ k, (kids k).length ≤ 100000) (hbd : ∀ k, bd (wI k es))
    (hks : ∀ q : List Bs, VQ q → q.length = 12 → kids (pth q) = []) (hkn : ∀ q : List Bs, VQ q → ∀ x ∈ kids (pth q), x.b ≠ []) : ∀ (m : Nat) (q : List Bs) (parent : Int), VQ q → q.length + m = 12 → GrowCon b9 bo bk bg bmo bmk es ent kids q parent 0 (growN (fun k => wI k es) kids m q parent)
  | 0, q, parent, hv, hm => by
    have h := grow_step (b9 := b9) (bo := bo) (bk := bk) (bg := bg) (bmo := bmo) (bmk := bmk) hWE hE hkl hbd q (by omega) parent (fun _ _ _ => ([], 0)) (fun _ _ _ => by simp [bd]) (fun h => absurd (hks q hv (by omega)) h) (fun h => by omega)
    rw [hks q hv (by omega), show sortS [] = [] by simp [sortS]] at h
    exact h
  | m + 1, q, parent, hv, hm => by
    refine grow_step hWE hE hkl hbd q (by omega) parent (fun a n k => growN (fun k => wI k es) kids m (q ++ [k]) (a : Nat) (a + 1 + n)) (fun a n k => growN_bd hbd m _ _ _) (fun h => ?_) (fun h k hk at_ => ?_)
    · omega
    · intro nodes v ob S he ho hlo hn
      have := grow_con hWE hE hkl hbd hks hkn m (q ++ [k]) (at_ : Nat) (VQ.snoc hv h (hkn q hv _ ((sortS_mem _ _).1 hk))) (by simp; omega) nodes v ob S he ho (Nat.zero_le _)
      simp only at hn ⊢
      rw [show at_ + 1 + (nodes.length - (at_ + 1)) = nodes.length by omega] at hn ⊢
      exact this hn
end Go.Proofs.YtcnfchchanlepaaGreat
namespace Go.Proofs.YtcnfchchanlepaaGreat
open Go Go.X
set_option linter.unusedVariables false
/-- A row of the map of names: its key, its slice, what it holds, its blocks. -/
structure KR where
  k : Pth
  v : Value
  l : List Str
  ob : Blocks
def entR (rows : List KR) : GE Pth := rows.map fun r => (r.k, r.v)
def kbR (rows : List KR) : Blocks := rows.flatMap KR.ob
structure KOk (rows : List KR) : Prop where
  own : ∀ r ∈ rows, Ows 9 r.v r.l r.ob
  key : ∀ r ∈ rows, KC.ok r.k
def rowK (k : Pth) : List KR → List Str
  | [] => []
  | r :: rs => if k = r.k then r.l else rowK k rs
theorem entR_ok {rows : List KR} (h : KOk rows) : ∀ p ∈ entR rows, KC.ok p.1 := fun p hp => by
  obtain ⟨r, hr, rfl⟩ := List.mem_map.1 hp
  exact h.key r hr
theorem KOk.nil : KOk [] := ⟨fun _ h => absurd h List.not_mem_nil, fun _ h => absurd h List.not_mem_nil⟩
/-- The row of a key: where it lies, or at the end. -/
theorem rows_at (p : Pth) : ∀ (rows : List KR), KOk rows → ∃ (pre post : List KR) (v : Value) (ob : Blocks), (lookG p (entR rows)).getD (.slice none 0 0) = v ∧ Ows 9 v (rowK p rows) ob ∧ (kbR rows).Perm (ob ++ (kbR pre ++ kbR post)) ∧
    (∀ u, upsG p u (entR rows) = entR (pre ++ ⟨p, u, [], []⟩ :: post)) ∧ (∀ l u ob' k, rowK k (pre ++ ⟨p, u, l, ob'⟩ :: post) = if k = p then l else rowK k rows) ∧ (∀ r ∈ pre ++ post, r ∈ rows)
  | [], _ => ⟨[], [], _, [], rfl, Ows.nil _, List.Perm.refl _, fun _ => rfl, fun l u ob' k => by simp [rowK], fun r hr => hr⟩
  | r :: rs, h => by
    by_cases hp : p = r.k
    · subst hp
      refine ⟨[], rs, r.v, r.ob, by simp [entR, lookG], by simpa [rowK] using h.own r List.mem_cons_self, by simp [kbR], fun u => by simp [entR, upsG], fun l u ob' k => ?_, fun x hx => List.mem_cons_of_mem _ hx⟩
      simp only [List.nil_append, rowK]
      by_cases hk : k = r.k
      · rw [if_pos hk, if_pos hk]
      · rw [if_neg hk, if_neg hk, if_neg hk]
    · obtain ⟨pre, post, v, ob, h1, h2, h3, h4, h5, h6⟩ := rows_at p rs ⟨fun x hx => h.own x (List.mem_cons_of_mem _ hx), fun x hx => h.key x (List.mem_cons_of_mem _ hx)⟩
      refine ⟨r :: pre, post, v, ob, ?_, ?_, ?_, fun u => ?_, fun l u ob' k => ?_, fun x hx => ?_⟩
      · simpa [entR, lookG, hp] using h1
      · simpa [rowK, hp] using h2
      · have h7 : (r.ob ++ kbR rs).Perm (r.ob ++ (ob ++ (kbR pre ++ kbR post))) := h3.append_left _
        have h8 : (r.ob ++ (ob ++ (kbR pre ++ kbR post))).Perm (ob ++ ((r.ob ++ kbR pre) ++ kbR post)) := (pmc (fun p => by (repeat (first | rw [List.countP_append] | rw [List.countP_cons] | rw [List.countP_nil])); (all_goals (first | rfl | omega))))
        simpa [kbR] using h7.trans h8
      · have := h4 u
        simp only [entR] at this
        simp [entR, upsG, hp, this]
      · have := h5 l u ob' k
        simp only [List.cons_append, rowK, this]
        by_cases hk : k = r.k
        · rw [if_pos hk, if_neg (fun e : k = p => hp (e.symm.trans hk)), if_pos hk]
        · rw [if_neg hk, if_neg hk]
      · rcases List.mem_cons.1 hx with rfl | hx
        · exact List.mem_cons_self
        · exact List.mem_cons_of_mem _ (h6 x hx)
section
variable {cx : Cx} {n : Nat} {S : SH} {L : Blocks} {F : Slots}
theorem freezeRows {G : Act → World → Prop} {L1 : Blocks} : ∀ {rows : List KR} {S : SH}, KOk rows → (∀ S', Le S S' → (∀ r ∈ rows, Sr S' r.v r.l) → W cx n S' L1 F G) → W cx n S (kbR rows ++ L1) F G
  | [], S, _, k => k S (Le.refl _) (fun _ h => by cases h)
  | r :: rs, S, h, k => by
    refine W.freezeOws (L1 := kbR rs ++ L1) (h.own r List.mem_cons_self) (by simp [kbR]) fun S' hle hs => ?_
    refine freezeRows ⟨fun x hx => h.own x (List.mem_cons_of_mem _ hx), fun x hx => h.key x (List.mem_cons_of_mem _ hx)⟩ fun S2 hle2 hs2 => k S2 (hle.trans hle2) fun x hx => ?_
    rcases List.mem_cons.1 hx with rfl | hx
    · obtain ⟨A, c, e1, e2, e3⟩ := hs
      exact ⟨A, c, e1, e2, e3.le hle2⟩
    · exact hs2 x hx
theorem rowK_sr {S : SH} (k : Pth) : ∀ {rows : List KR}, (∀ r ∈ rows, Sr S r.v r.l) → ∃ A c, (lookG k (entR rows)).getD (.slice none 0 0) = .slice A (rowK k rows).length c ∧ At S A (rowK k rows)
  | [], _ => ⟨none, 0, rfl, fun h => by simp [rowK] at h⟩
  | r :: rs, h => by
    by_cases hk : k = r.k
    · obtain ⟨A, c, e1, _, e3⟩ := h r List.mem_cons_self
      exact ⟨A, c, by simp [entR, lookG, rowK, hk, e1], by simpa [rowK, hk] using e3⟩
    · obtain ⟨A, c, e1, e3⟩ := rowK_sr k (rows := rs) (fun x hx => h x (List.mem_cons_of_mem _ hx))
      exact ⟨A, c, by simpa [entR, lookG, rowK, hk] using e1, by simpa [rowK, hk] using e3⟩
end
/-- The names below a path, as they come. -/
def addName (K : Pth → List Str) (p : Pth) (x : Str) : Pth → List Str := fun k => if k = p then (if (K p).any (fun y => x.b == y.b) then K p else K p ++ [x]) else K k
def addDown (K : Pth → List Str) (q : List Bs) : Nat → Pth → List Str
  | 0 => K
  | j + 1 => addDown (addName K (pth (q.take j)) ⟨q.getD j []⟩) q j
def strip (p : Pth) : List Bs := p.l.take (plen p.l)
def kidsS (K : Pth → List Str) (e : Pth × Int) : Pth → List Str := if 0 < e.2 then addDown K (strip e.1) (strip e.1).length else K
def kidsF (es : List (Pth × Int)) : Pth → List Str := es.foldl kidsS (fun _ => [])
theorem plen_pad {q : List Bs} (h : VQ q) : plen (pad q) = q.length := by
  unfold plen pad
  rw [List.takeWhile_append_of_pos (fun x hx => by have := h.2 x hx; cases x <;> simp_all)]
  rw [List.length_append]
  have : (List.replicate (12 - q.length) ([] : Bs)).takeWhile (fun x => !x.isEmpty) = [] := by
    cases 12 - q.length with
    | zero => rfl
    | succ m => simp [List.replicate_succ]
  rw [this]; rfl
theorem strip_pth {q : List Bs} (h : VQ q) : strip (pth q) = q := by
  unfold strip pth
  simp only
  rw [plen_pad h]
  unfold pad
  rw [List.take_append_of_le_length (Nat.le_refl _), List.take_length]
theorem pth_inj {p q : List Bs} (hp : VQ p) (hq : VQ q) (h : pth p = pth q) : p = q := by
  rw [← strip_pth hp, h, strip_pth hq]
theorem VQ.take {q : List Bs} (h : VQ q) (j : Nat) : VQ (q.take j) := ⟨by rw [List.length_take]; have := h.1; omega, fun x hx => h.2 x (List.mem_of_mem_take hx)⟩
theorem VQ.nil : VQ [] := ⟨Nat.zero_le _, fun _ h => by cases h⟩
theorem addName_len (K : Pth → List Str) (p : Pth) (x : Str) (k : Pth) : (addName K p x k).length ≤ (K k).length + 1 := by
  unfold addName
  split
  · rename_i h; subst h; split <;> simp
  · omega
theorem addDown_len : ∀ (j : Nat) (K : Pth → List Str) (q : List Bs) (k : Pth), (addDown K q j k).length ≤ (K k).length + j
  | 0, _, _, _ => Nat.le_refl _
  | j + 1, K, q, k => by
    have h1 := addDown_len j (addName K (pth (q.take j)) ⟨q.getD j []⟩) q k
    have h2 := addName_len K (pth (q.take j)) ⟨q.getD j []⟩ k
    rw [addDown]; omega
theorem addName_ge (K : Pth → List Str) (p : Pth) (x : Str) (k : Pth) : (K k).length ≤ (addName K p x k).length := by
  unfold addName
  split
  · rename_i h; subst h; split <;> simp
  · exact Nat.le_refl _
theorem addDown_ge : ∀ (j : Nat) (K : Pth → List Str) (q : List Bs) (k : Pth), (K k).length ≤ (addDown K q j k).length
  | 0, _, _, _ => Nat.le_refl _
  | j + 1, K, q, k => Nat.le_trans (addName_ge _ _ _ _) (addDown_ge j _ q k)
theorem selE_sub {es : List (Pth × Int)} {seen : List Nat} : ∀ e ∈ selE es seen, e ∈ es := fun e he => by
  obtain ⟨i, _, hi⟩ := List.mem_filterMap.1 he
  exact List.mem_of_getElem? hi
theorem any_mem {x : Str} {l : List Str} : (l.any (fun y => x.b == y.b)) = true ↔ x ∈ l := by
  rw [List.any_eq_true]
  constructor
  · rintro ⟨y, hy, h⟩
    have : x.b = y.b := by simpa using h
    obtain ⟨a⟩ := x; obtain ⟨b⟩ := y
    simp only at this; subst this; exact hy
  · exact fun h => ⟨x, h, by simp⟩
theorem addName_mem (K : Pth → List Str) (p : Pth) (x : Str) (k : Pth) (y : Str) : y ∈ addName K p x k ↔ y ∈ K k ∨ k = p ∧ y = x := by
  unfold addName
  by_cases hk : k = p
  · subst hk
    rw [if_pos rfl]
    split
    · rename_i h
      exact ⟨.inl, fun h2 => h2.elim id (fun h3 => h3.2 ▸ any_mem.1 h)⟩
    · simp
  · rw [if_neg hk]; simp [hk]
theorem addName_nodup {K : Pth → List Str} (h : ∀ k, (K k).Nodup) (p : Pth) (x : Str) (k : Pth) : (addName K p x k).Nodup := by
  unfold addName
  split
  · split
    · exact h p
    · rename_i h2
      rw [List.nodup_append]
      exact ⟨h p, by simp, fun a ha b hb e => h2 (any_mem.2 (by simp at hb; subst hb; subst e; exact ha))⟩
  · exact h k
theorem addDown_mem : ∀ (j : Nat) (K : Pth → List Str) (q : List Bs) (k : Pth) (y : Str), y ∈ addDown K q j k ↔ y ∈ K k ∨ ∃ i, i < j ∧ k = pth (q.take i) ∧ y.b = q.getD i []
  | 0, K, q, k, y => by simp [addDown]
  | j + 1, K, q, k, y => by
    rw [addDown, addDown_mem j, addName_mem]
    constructor
    · rintro ((h | ⟨h1, h2⟩) | ⟨i, h1, h2, h3⟩)
      · exact .inl h
      · exact .inr ⟨j, by omega, h1, by rw [h2]⟩
      · exact .inr ⟨i, by omega, h2, h3⟩
    · rintro (h | ⟨i, h1, h2, h3⟩)
      · exact .inl (.inl h)
      · by_cases hi : i = j
        · subst hi; exact .inl (.inr ⟨h2, by obtain ⟨b⟩ := y; simp only at h3; rw [h3]⟩)
        · exact .inr ⟨i, by omega, h2, h3⟩
theorem addDown_nodup : ∀ (j : Nat) (K : Pth → List Str) (q : List Bs), (∀ k, (K k).Nodup) → ∀ k, (addDown K q j k).Nodup
  | 0, _, _, h, k => h k
  | j + 1, _, q, h, k => addDown_nodup j _ q (addName_nodup h _ _) k
theorem foldK_mem (k : Pth) (y : Str) : ∀ (es : List (Pth × Int)) (K : Pth → List Str), y ∈ es.foldl kidsS K k ↔ y ∈ K k ∨ ∃ e ∈ es, 0 < e.2 ∧ ∃ i, i < (strip e.1).length ∧ k = pth ((strip e.1).take i) ∧ y.b = (strip e.1).getD i []
  | [], K => by simp
  | e :: es, K => by
    rw [List.foldl_cons, foldK_mem k y es]
    have h : y ∈ kidsS K e k ↔ y ∈ K k ∨ (0 < e.2 ∧ ∃ i, i < (strip e.1).length ∧ k = pth ((strip e.1).take i) ∧ y.b = (strip e.1).getD i []) := by
      unfold kidsS
      by_cases h0 : 0 < e.2
      · rw [if_pos h0, addDown_mem]; simp [h0]
      · rw [if_neg h0]; simp [h0]
    rw [h]
    simp only [List.mem_cons, exists_eq_or_imp, or_assoc]
theorem kidsF_mem (es : List (Pth × Int)) (k : Pth) (y : Str) : y ∈ kidsF es k ↔ ∃ e ∈ es, 0 < e.2 ∧ ∃ i, i < (strip e.1).length ∧ k = pth ((strip e.1).take i) ∧ y.b = (strip e.1).getD i [] := by
  unfold kidsF
  rw [foldK_mem]; simp
theorem kidsF_nodup (es : List (Pth × Int)) : ∀ k, (kidsF es k).Nodup := by
  unfold kidsF
  suffices h : ∀ (es : List (Pth × Int)) (K : Pth → List Str), (∀ k, (K k).Nodup) → ∀ k, (es.foldl kidsS K k).Nodup from h es _ (fun _ => List.nodup_nil)
  intro es
  induction es with
  | nil => intro K h k; exact h k
  | cons e es ih =>
    intro K h k
    rw [List.foldl_cons]
    refine ih _ (fun k => ?_) k
    unfold kidsS
    split
    · exact addDown_nodup _ _ _ h k
    · exact h k
/-- The keys are of paths. -/
def PE (es : List (Pth × Int)) : Prop := ∀ e ∈ es, ∃ q, VQ q ∧ e.1 = pth q
theorem kidsF_kid {es : List (Pth × Int)} (hP : PE es) {q : List Bs} (hq : VQ q) {y : Str} : y ∈ kidsF es (pth q) ↔ ∃ p n, (pth p, n) ∈ es ∧ VQ p ∧ 0 < n ∧ q ++ [y.b] <+: p := by
  rw [kidsF_mem]
  constructor
  · rintro ⟨e, he, h0, i, hi, hk, hy⟩
    obtain ⟨p, hp, h1⟩ := hP e he
    rw [h1, strip_pth hp] at hi hk hy
    have h2 := pth_inj hq (hp.take i) hk
    refine ⟨p, e.2, by rw [← h1]; exact he, hp, h0, ?_⟩
    have h3 : q ++ [y.b] = p.take (i + 1) := by
      rw [List.take_add_one, ← h2, hy, List.getD_eq_getElem?_getD, List.getElem?_eq_getElem hi]; rfl
    rw [h3]; exact List.take_prefix _ _
  · rintro ⟨p, n, he, hp, h0, t, ht⟩
    refine ⟨_, he, h0, q.length, ?_, ?_, ?_⟩
    · rw [strip_pth hp, ← ht]; simp
    · rw [strip_pth hp, ← ht]; simp
    · rw [strip_pth hp, ← ht]; simp
theorem kidsF_top {es : List (Pth × Int)} (hP : PE es) {q : List Bs} (hq : VQ q) (h : q.length = 12) : kidsF es (pth q) = [] := by
  rw [List.eq_nil_iff_forall_not_mem]
  intro y hy
  obtain ⟨p, n, _, hp, _, hpre⟩ := (kidsF_kid hP hq).1 hy
  have := hpre.length_le
  have := hp.1
  simp at *; omega
theorem kidsF_ne {es : List (Pth × Int)} (hP : PE es) {q : List Bs} (hq : VQ q) : ∀ y ∈ kidsF es (pth q), y.b ≠ [] := fun y hy => by
  obtain ⟨p, n, _, hp, _, hpre⟩ := (kidsF_kid hP hq).1 hy
  exact hp.2 _ (hpre.subset (by simp))
theorem wI_bd {es : List (Pth × Int)} (hW : WE es) (h0 : ∀ e ∈ es, 0 ≤ e.2) (hb : ∀ e ∈ es, e.2 ≤ 1152921504606846976) (k : Pth) : bd (wI k es) := by
  by_cases hk : k ∈ es.map (·.1)
  · obtain ⟨⟨k', v⟩, he, rfl⟩ := List.mem_map.1 hk
    rw [wI_mem hW.nodup he]
    exact ⟨h0 _ he, hb _ he⟩
  · rw [wI_none hk]; exact ⟨by omega, by omega⟩
end Go.Proofs.YtcnfchchanlepaaGreat
namespace Go.Proofs.YtcnfchchanlepaaGreat
open Go Go.X
def TreeT (es es' : List (Pth × Int)) : List Nd × Int := growN (fun k => wI k es) (kidsF es') 12 [] (-1) 0
def TreeOk (t : List Nd × Int) : Prop := t.2 ≤ 1125899906842624 ∧ t.1.length ≤ 2000
instance (t : List Nd × Int) : Decidable (TreeOk t) := by unfold TreeOk; infer_instance
def TreeR (es : List (Pth × Int)) (v : Value) (ok : Bool) (L' : Blocks) : Prop :=
  ((∃ e ∈ es, e.2 < 0) ∧ ok = false ∧ v = .slice none 0 0 ∧ L' = []) ∨ ((∀ e ∈ es, 0 ≤ e.2) ∧ ∃ es', es'.Perm es ∧ (TreeOk (TreeT es es') ∧ ok = true ∧ Ows 51 v (TreeT es es').1 L' ∨ ¬TreeOk (TreeT es es') ∧ ok = false ∧ v = .slice none 0 0 ∧ L' = []))
theorem pad_blank {p : List Bs} (h : p.length < 12) (x : Bs) : ((pad (p ++ [x])).map strV).set p.length (strV []) = (pad p).map strV := by
  rw [← pad_setV h, List.set_set]
  have := pad_free h
  obtain ⟨h1, h2⟩ := List.getElem?_eq_some_iff.1 this
  refine List.ext_getElem? fun i => ?_
  rw [List.getElem?_set]
  split
  · rename_i e; subst e; first | exact this.symm | (rw [if_pos h1]; exact this.symm) | (simp [h1]; exact this.symm)
  · rfl
theorem pfContains_t {r : Bool} (l : List Str) (s : Bs) (A : Option Addr) (c : Nat) (S : SH) (hA : At S A l) (hl : l.length ≤ 1000000) (h : (l.any fun x => s == x.b) = r) :
    Con Tryz.prog 68 #[.slice A l.length c, strV s] S [] (X.Pure S (.bool r)) := h ▸ pfContains_con l s A c S hA hl
theorem kidsF_snoc (es : List (Pth × Int)) (e : Pth × Int) : kidsF (es ++ [e]) = kidsS (kidsF es) e := by simp [kidsF]
theorem kidsF_len : ∀ (es : List (Pth × Int)), (∀ e ∈ es, ∃ q, VQ q ∧ e.1 = pth q) → ∀ k, (kidsF es k).length ≤ 12 * es.length := by
  intro es
  suffices h : ∀ (es : List (Pth × Int)) (K : Pth → List Str), (∀ e ∈ es, ∃ q, VQ q ∧ e.1 = pth q) → ∀ k, (es.foldl kidsS K k).length ≤ (K k).length + 12 * es.length by
    intro hP k; have := h es (fun _ => []) hP k; simpa [kidsF] using this
  intro es
  induction es with
  | nil => intro K _ k; simp
  | cons e es ih =>
    intro K hP k
    obtain ⟨q, hq, hk⟩ := hP e List.mem_cons_self
    have h1 := ih (kidsS K e) (fun x hx => hP x (List.mem_cons_of_mem _ hx)) k
    have h2 : (kidsS K e k).length ≤ (K k).length + 12 := by
      unfold kidsS
      split
      · have := addDown_len (strip e.1).length K (strip e.1) k
        have h3 : (strip e.1).length ≤ 12 := by rw [hk, strip_pth hq]; exact hq.1
        omega
      · omega
    rw [List.foldl_cons, List.length_cons]; omega
theorem kbR_mid (pre post : List KR) (r : KR) : kbR (pre ++ r :: post) = kbR pre ++ (r.ob ++ kbR post) := by simp [kbR]
theorem entR_mid (pre post : List KR) (r : KR) : entR (pre ++ r :: post) = entR pre ++ (r.k, r.v) :: entR post := by simp [entR]
set_option maxHeartbeats 3200000 in
set_option maxRecDepth 10000
set_option linter.unusedVariables false
attribute [local irreducible] Code.wpIn wpListIn Exit.then Exit.inBlock X.Out X.Back X.W X.Ev X.Con X.BinV X.Wh X.Wn X.Wq
theorem tree_con (bmo : Nat) (es : List (Pth × Int)) (S : SH) (hWE : WE es) (hl : es.length ≤ 8000) (hP : ∀ e ∈ es, ∃ q, VQ q ∧ e.1 = pth q) (hb : ∀ e ∈ es, e.2 ≤ 1152921504606846976)
    (hN : (∀ e ∈ es, 0 ≤ e.2) → ∀ es', es'.Perm es → (TreeT es es').1.length ≤ 1000000) :
    Con Tryz.prog 51 #[.map (some bmo)] S [(bmo, mapGO (iE es))] (fun _ L' r => ∃ v ok, r = .tuple #[.agg #[v], .bool ok] ∧ TreeR es v ok L') := by
  refine con_of (args := [.map (some bmo)]) Tryz.func51 rfl Tryz.ntmps51 rfl fun w => ?_
  (repeat (first | refine Jc ?_ | (apply s_makeMap; (case hg => rfl); (case hd => rfl); intro bmk) | (apply s_rangeG (κ := Pth) (b := bmo) (ent := iE es); (case hg => rfl); (case hd => rfl); (case hx => rfl); (case hm => (repeat (first | exact List.Mem.head _ | apply List.Mem.tail | apply List.mem_append_right))); intro r) | refine Jo ?_ | intro _))
  rename_i b1 b2 b4
  refine c_loop (fun m S' L F => ∃ (seen : List Nat) (rows : List KR), m = es.length - seen.length ∧ seen.Nodup ∧ (∀ i ∈ seen, i < es.length) ∧ KOk rows ∧ (∀ k, rowK k rows = kidsF (selE es seen) k) ∧ (∀ e ∈ selE es seen, 0 ≤ e.2) ∧
      L = (r, iterGO bmo (iE es).length seen) :: (b4, .cells [.map (some bmk)].toArray 111 (0, 0)) :: (bmk, mapGO (entR rows)) :: (b2, .cells [.slice none 0 0].toArray 24 (0, 0)) :: (b1, .cells [.map (some bmo)].toArray 78 (0, 0)) :: (bmo, mapGO (iE es)) :: kbR rows ∧
      F = [(1, .pointer (some ⟨b1, 0, none⟩)), (2, .pointer (some ⟨b2, 0, none⟩)), (4, .pointer (some ⟨b4, 0, none⟩)), (14, .pointer (some ⟨r, 0, none⟩))]) ⟨[], [], rfl, List.nodup_nil, (fun i h => absurd h List.not_mem_nil), KOk.nil, (fun k => rfl), (fun e h => absurd h List.not_mem_nil), rfl, rfl⟩ sbF (List.Sublist.refl _) ?_
  rintro m S' L F ⟨seen, rows, rfl, hsn, hsl, hK, hrk, hpos, rfl, rfl⟩
  (repeat (first | refine Jz ?_ | intro _))
  apply s_nextG (κ := Pth) (b := bmo) (ent := iE es) (seen := seen) (L' := fun i => (r, iterGO bmo (iE es).length (seen ++ [i])) :: (b4, .cells [.map (some bmk)].toArray 111 (0, 0)) :: (bmk, mapGO (entR rows)) :: (b2, .cells [.slice none 0 0].toArray 24 (0, 0)) :: (b1, .cells [.map (some bmo)].toArray 78 (0, 0)) :: (bmo, mapGO (iE es)) :: kbR rows); (case hg => rfl); (case hd => rfl); (case hx => rfl); (case hm => (repeat (first | exact List.Mem.head _ | apply List.Mem.tail | apply List.mem_append_right))); (case hL => (intro i; exact Upd.head))
  · intro hall
    have hp := selE_all (es := es) hsn hsl (fun i hi => hall i (by rw [iE_len]; exact hi))
    (repeat (first | refine Jz ?_ | intro _))
    rename_i b9 b10
    simp only [List.set_cons_zero]
    have hlen := hp.length_eq
    refine W.perm (L' := (b10, .cells [.func (.func 69) #[] [.pointer (some ⟨b9, 0, none⟩), .pointer (some ⟨b1, 0, none⟩), .pointer (some ⟨b4, 0, none⟩), .pointer (some ⟨b10, 0, none⟩)].toArray].toArray 113 (0, 0)) :: (b4, .cells [.map (some bmk)].toArray 111 (0, 0)) :: (bmk, mapGO (entR rows)) :: (b1, .cells [.map (some bmo)].toArray 78 (0, 0)) :: (bmo, mapGO (iE es)) :: (kbR rows ++ [(b9, .cells [.slice none 0 0].toArray 24 (0, 0)), (r, iterGO bmo (iE es).length seen), (b2, .cells [.slice none 0 0].toArray 24 (0, 0))])) ?_ (pmc (fun p => by (repeat (first | rw [List.countP_append] | rw [List.countP_cons] | rw [List.countP_nil])); (all_goals (first | rfl | omega))))
    refine W.freeze fun T1 l1 f1 => W.freeze fun T2 l2 f2 => W.freeze fun T3 l3 f3 => W.freeze fun T4 l4 f4 => W.freeze fun T5 l5 f5 => freezeRows hK fun T6 l6 f6 => ?_
    have hgr : Gr T6 b9 b1 b4 b10 bmo bmk es (entR rows) (kidsF (selE es seen)) := ⟨pts_block (l6 _ _ (l5 _ _ f4)) (by simp), l6 _ _ f5, pts_block (l6 _ _ (l5 _ _ (l4 _ _ (l3 _ _ f2)))) (by simp), l6 _ _ (l5 _ _ (l4 _ _ f3)), pts_block (l6 _ _ (l5 _ _ (l4 _ _ (l3 _ _ (l2 _ _ f1))))) (by simp), fun k hk => by
      rw [← hrk]; exact rowK_sr k f6⟩
    have h0e : ∀ e ∈ es, 0 ≤ e.2 := fun e he => hpos e (hp.mem_iff.2 he)
    have hbd : ∀ k, bd (wI k es) := wI_bd hWE h0e hb
    have hPs : ∀ e ∈ selE es seen, ∃ q, VQ q ∧ e.1 = pth q := fun e he => hP e (hp.mem_iff.1 he)
    have hkl2 : ∀ k, (kidsF (selE es seen) k).length ≤ 100000 := fun k => by
      have := kidsF_len _ hPs k
      omega
    have hgc := grow_con (b9 := b9) (bo := b1) (bk := b4) (bg := b10) (bmo := bmo) (bmk := bmk) (ent := entR rows) hWE (entR_ok hK) hkl2 hbd (kids := kidsF (selE es seen)) (fun q hq h => kidsF_top hPs hq h) (fun q hq => kidsF_ne hPs hq) 12 [] (-1) VQ.nil rfl [] _ [] T6 hgr (Ows.nil _) (Nat.zero_le _) (by have := hN h0e _ hp; simpa [TreeT] using this)
    have hTd : growN (fun k => wI k es) (kidsF (selE es seen)) 12 [] (-1) ([] : List Nd).length = TreeT es (selE es seen) := rfl
    simp only [hTd] at hgc
    by_cases ht1 : 1125899906842624 < (TreeT es (selE es seen)).2
    · (repeat (first | refine Jc ?_ | (apply s_callw (L2 := [(r, iterGO bmo (iE es).length seen), (b2, .cells [.slice none 0 0].toArray 24 (0, 0))]) (caps := [.pointer (some ⟨b9, 0, none⟩), .pointer (some ⟨b1, 0, none⟩), .pointer (some ⟨b4, 0, none⟩), .pointer (some ⟨b10, 0, none⟩)]); (case hg => rfl); (case hd => rfl); (case hx => rfl); (case i1 => infer_instance); (case ha => rfl); (case hc => exact hgc); (case hL => exact (pmc (fun p => by (repeat (first | rw [List.countP_append] | rw [List.countP_cons] | rw [List.countP_nil])); (all_goals (first | rfl | omega))))); rintro T7 _ _ hle7 ⟨rfl, v3, ob3, rfl, ho3⟩; have ho4 : Ows 51 v3 (TreeT es (selE es seen)).1 ob3 := ho3; obtain ⟨A3, c3, rfl⟩ := ho4.form) | refine Jo ?_ | intro _))
      exact o_ret_c2 (L' := []) (sz := 1) (cs := [.slice none 0 0]) Tryz.results51 rfl rfl (by (repeat (first | exact List.Mem.head _ | apply List.Mem.tail | apply List.mem_append_right))) rfl (List.nil_sublist _) ⟨_, _, rfl, .inr ⟨h0e, _, hp, .inr ⟨fun h => by have := h.1; omega, rfl, rfl, rfl⟩⟩⟩
    · by_cases ht2 : 2000 < (TreeT es (selE es seen)).1.length
      · (repeat (first | refine Jc ?_ | (apply s_callw (L2 := [(r, iterGO bmo (iE es).length seen), (b2, .cells [.slice none 0 0].toArray 24 (0, 0))]) (caps := [.pointer (some ⟨b9, 0, none⟩), .pointer (some ⟨b1, 0, none⟩), .pointer (some ⟨b4, 0, none⟩), .pointer (some ⟨b10, 0, none⟩)]); (case hg => rfl); (case hd => rfl); (case hx => rfl); (case i1 => infer_instance); (case ha => rfl); (case hc => exact hgc); (case hL => exact (pmc (fun p => by (repeat (first | rw [List.countP_append] | rw [List.countP_cons] | rw [List.countP_nil])); (all_goals (first | rfl | omega))))); rintro T7 _ _ hle7 ⟨rfl, v3, ob3, rfl, ho3⟩; have ho4 : Ows 51 v3 (TreeT es (selE es seen)).1 ob3 := ho3; obtain ⟨A3, c3, rfl⟩ := ho4.form) | refine Jo ?_ | intro _))
        exact o_ret_c2 (L' := []) (sz := 1) (cs := [.slice none 0 0]) Tryz.results51 rfl rfl (by (repeat (first | exact List.Mem.head _ | apply List.Mem.tail | apply List.mem_append_right))) rfl (List.nil_sublist _) ⟨_, _, rfl, .inr ⟨h0e, _, hp, .inr ⟨fun h => by have := h.2; omega, rfl, rfl, rfl⟩⟩⟩
      · (repeat (first | refine Jc ?_ | (apply s_callw (L2 := [(r, iterGO bmo (iE es).length seen), (b2, .cells [.slice none 0 0].toArray 24 (0, 0))]) (caps := [.pointer (some ⟨b9, 0, none⟩), .pointer (some ⟨b1, 0, none⟩), .pointer (some ⟨b4, 0, none⟩), .pointer (some ⟨b10, 0, none⟩)]); (case hg => rfl); (case hd => rfl); (case hx => rfl); (case i1 => infer_instance); (case ha => rfl); (case hc => exact hgc); (case hL => exact (pmc (fun p => by (repeat (first | rw [List.countP_append] | rw [List.countP_cons] | rw [List.countP_nil])); (all_goals (first | rfl | omega))))); rintro T7 _ _ hle7 ⟨rfl, v3, ob3, rfl, ho3⟩; have ho4 : Ows 51 v3 (TreeT es (selE es seen)).1 ob3 := ho3; obtain ⟨A3, c3, rfl⟩ := ho4.form) | refine Jo ?_ | intro _))
        exact o_ret_c2 (L' := ob3) (sz := 1) (cs := [.slice A3 (TreeT es (selE es seen)).1.length c3]) Tryz.results51 rfl rfl (by (repeat (first | exact List.Mem.head _ | apply List.Mem.tail | apply List.mem_append_right))) rfl sbL ⟨_, _, rfl, .inr ⟨h0e, _, hp, .inl ⟨⟨by omega, by omega⟩, rfl, ho4⟩⟩⟩
  · intro i k v hni hat
    obtain ⟨nv, hat', rfl⟩ := iE_at hat
    have hmem := List.mem_of_getElem? hat'
    have hkl : k.l.length = 12 := hWE.ok _ hmem
    obtain ⟨q, hq, hkq⟩ := hP _ hmem
    simp only at hkq
    subst hkq
    have hil := (List.getElem?_eq_some_iff.1 hat').1
    have hnb := hb _ hmem
    simp only at hnb
    have hpl := pad_lenV hq.1
    have hsel := selE_snoc (seen := seen) hat'
    by_cases hneg : nv < 0
    · (repeat (first | refine Jc ?_ | (apply s_evb; (case hg => rfl); (case hd => rfl); (case hn => rfl); (case he => ((apply ev_entryG (κ := Pth) (b := bmo) (ent := iE es) (seen := seen) (i := i); (case hx => rfl); (case hm => (repeat (first | exact List.Mem.head _ | apply List.Mem.tail | apply List.mem_append_right))); (case hr => (repeat (first | exact List.Mem.head _ | apply List.Mem.tail | apply List.mem_append_right))); (case hi => exact hat))))) | (apply s_store_ag (vs := (pad q).map strV); (case hg => rfl); (case hx => rfl); (case hy => rfl); (case h1 => exact strs_one _); (case hv => exact hpl); (case hL => (repeat (first | exact Upd.head | apply Upd.tail | apply Upd.app))); (case hu => rfl)) | refine Jo ?_ | intro _))
      exact o_ret_c2 (L' := []) (sz := 1) (cs := [.slice none 0 0]) Tryz.results51 rfl rfl (by (repeat (first | exact List.Mem.head _ | apply List.Mem.tail | apply List.mem_append_right))) rfl (List.nil_sublist _) ⟨_, _, rfl, .inl ⟨⟨_, hmem, hneg⟩, rfl, rfl, rfl⟩⟩
    · (repeat (first | refine Jc ?_ | (apply s_evb; (case hg => rfl); (case hd => rfl); (case hn => rfl); (case he => ((apply ev_entryG (κ := Pth) (b := bmo) (ent := iE es) (seen := seen) (i := i); (case hx => rfl); (case hm => (repeat (first | exact List.Mem.head _ | apply List.Mem.tail | apply List.mem_append_right))); (case hr => (repeat (first | exact List.Mem.head _ | apply List.Mem.tail | apply List.mem_append_right))); (case hi => exact hat))))) | (apply s_store_ag (vs := (pad q).map strV); (case hg => rfl); (case hx => rfl); (case hy => rfl); (case h1 => exact strs_one _); (case hv => exact hpl); (case hL => (repeat (first | exact Upd.head | apply Upd.tail | apply Upd.app))); (case hu => rfl)) | (apply s_evb; (case hg => rfl); (case hd => rfl); (case hn => rfl); (case he => ((apply ev_load_own_ag; (case hx => rfl); (case hm => (repeat (first | exact List.Mem.head _ | apply List.Mem.tail | apply List.mem_append_right))); (case hl => exact hpl))))) | (apply z_call; rfl; rfl; rfl; exact plen_con (pad q) _ (pad_len hq.1); rintro _ _ _ - ⟨rfl, rfl, rfl⟩) | refine Jo ?_ | intro _))
      rename_i b5
      rw [plen_pad hq]
      refine c_loop (fun m S' L F => ∃ (j : Nat) (rows2 : List KR), m = j ∧ j ≤ q.length ∧ KOk rows2 ∧ (∀ k, (if 0 < nv then addDown (fun k => rowK k rows2) q j k else rowK k rows2) = kidsF (selE es (seen ++ [i])) k) ∧
          L = (b5, .cells ((pad (q.take j)).map strV).toArray 87 (0, 0)) :: (r, iterGO bmo (iE es).length (seen ++ [i])) :: (b4, .cells [.map (some bmk)].toArray 111 (0, 0)) :: (bmk, mapGO (entR rows2)) :: (b2, .cells [.slice none 0 0].toArray 24 (0, 0)) :: (b1, .cells [.map (some bmo)].toArray 78 (0, 0)) :: (bmo, mapGO (iE es)) :: kbR rows2 ∧
          F = [(1, .pointer (some ⟨b1, 0, none⟩)), (2, .pointer (some ⟨b2, 0, none⟩)), (4, .pointer (some ⟨b4, 0, none⟩)), (5, .pointer (some ⟨b5, 0, none⟩)), (6, .int .i64 nv), (7, .int .i64 j), (14, .pointer (some ⟨r, 0, none⟩))]) ⟨q.length, rows, rfl, Nat.le_refl _, hK, ?_, by rw [List.take_length], rfl⟩ sbF sbL ?_
      · intro k
        rw [hsel, kidsF_snoc, show rowK k rows = kidsF (selE es seen) k from hrk k]
        unfold kidsS
        simp only
        rw [strip_pth hq]
        have hf : (fun k => rowK k rows) = kidsF (selE es seen) := funext hrk
        rw [hf]
        split <;> rfl
      rintro j S' L F ⟨_, rows2, rfl, hjq, hK2, hr2, rfl, rfl⟩
      by_cases hj0 : j = 0 ∨ ¬0 < nv
      · have hfin : ∀ k, rowK k rows2 = kidsF (selE es (seen ++ [i])) k := fun k => by
          rw [← hr2 k]
          rcases hj0 with rfl | h
          · split <;> rfl
          · rw [if_neg h]
        have hnd : (seen ++ [i]).Nodup := by rw [List.nodup_append]; exact ⟨hsn, by simp, fun a ha b hb e => hni (by simp at hb; subst hb; subst e; exact ha)⟩
        have hlts : ∀ j ∈ seen ++ [i], j < es.length := fun j hj => (List.mem_append.1 hj).elim (hsl j) (fun h => by simp at h; subst h; exact hil)
        have hle := nodup_lt es.length _ hnd hlts
        have hps2 : ∀ e ∈ selE es (seen ++ [i]), 0 ≤ e.2 := fun e he => by
          rw [hsel] at he
          rcases List.mem_append.1 he with h | h
          · exact hpos e h
          · simp at h; subst h; simp only; omega
        have hlc : 0 < j ∧ ¬0 < nv ∨ j = 0 := by
          by_cases h : j = 0
          · exact .inr h
          · exact .inl ⟨by omega, by rcases hj0 with h1 | h1; exact absurd h1 h; exact h1⟩
        rcases hlc with ⟨hd, hn0⟩ | rfl
        all_goals (repeat (first | refine Jz ?_ | intro _))
        all_goals exact q_back (L' := (r, iterGO bmo (iE es).length (seen ++ [i])) :: (b4, .cells [.map (some bmk)].toArray 111 (0, 0)) :: (bmk, mapGO (entR rows2)) :: (b2, .cells [.slice none 0 0].toArray 24 (0, 0)) :: (b1, .cells [.map (some bmo)].toArray 78 (0, 0)) :: (bmo, mapGO (iE es)) :: kbR rows2) (m' := es.length - (seen ++ [i]).length) ⟨seen ++ [i], rows2, rfl, hnd, hlts, hK2, hfin, hps2, rfl, rfl⟩ (by simp at hle ⊢; omega) sbF sbL
      obtain ⟨j, rfl⟩ : ∃ j', j = j' + 1 := ⟨j - 1, by omega⟩
      have hnv : 0 < nv := by omega
      obtain ⟨x, hx⟩ : ∃ x, q[j]? = some x := ⟨_, List.getElem?_eq_getElem (by omega)⟩
      have htk : q.take (j + 1) = q.take j ++ [x] := take_at hx
      have hpl2 : (q.take j).length = j := by rw [List.length_take]; omega
      have hq12 := hq.1
      have hat2 : ((pad (q.take (j + 1))).map strV)[j]? = some (strV x) := by
        rw [htk]; have := pad_last (q.take j) x; rwa [hpl2] at this
      have hbl : ((pad (q.take (j + 1))).map strV).set j (strV []) = (pad (q.take j)).map strV := by
        rw [htk]; have := pad_blank (p := q.take j) (by omega) x; rwa [hpl2] at this
      have hpl3 : ((pad (q.take j)).map strV).length = 12 := pad_lenV (by omega)
      have hok2 : KC.ok (pth (q.take j)) := pad_len (by omega)
      obtain ⟨pre, post, v, ob, hlk, ho, hpm, hups, hrow, hsub⟩ := rows_at (pth (q.take j)) rows2 hK2
      obtain ⟨A, c, rfl⟩ := ho.form
      have hrl : (rowK (pth (q.take j)) rows2).length ≤ 1000000 := by
        have h1 := hr2 (pth (q.take j))
        rw [if_pos hnv] at h1
        have h2 := addDown_ge (j + 1) (fun k => rowK k rows2) q (pth (q.take j))
        rw [h1] at h2
        have h3 := kidsF_len (selE es (seen ++ [i])) (fun e he => hP e (selE_sub e he)) (pth (q.take j))
        have hnd : (seen ++ [i]).Nodup := by rw [List.nodup_append]; exact ⟨hsn, by simp, fun a ha b hb e => hni (by simp at hb; subst hb; subst e; exact ha)⟩
        have hlts : ∀ j ∈ seen ++ [i], j < es.length := fun j hj => (List.mem_append.1 hj).elim (hsl j) (fun h => by simp at h; subst h; exact hil)
        have hle := nodup_lt es.length _ hnd hlts
        rw [selE_len hlts] at h3
        omega
      (repeat (first | refine Jc ?_ | (apply s_evb; (case hg => rfl); (case hd => rfl); (case hn => rfl); (case he => ((apply ev_binV; (case hx => rfl); (case hy => rfl); (case hb => (apply bv_pred; omega)))))) | (apply s_evb; (case hg => rfl); (case hd => rfl); (case hn => rfl); (case he => ((apply ev_idxa1; (case hx => rfl); (case hi => rfl); (case hk => (simp; omega)))))) | (apply s_evb; (case hg => rfl); (case hd => rfl); (case hn => rfl); (case he => ((apply ev_load_own; (case hx => rfl); (case hm => exact List.Mem.head _); (case h => exact hat2))))) | (apply s_store (i := j) (u := strV x) (v := strV []); (case hg => rfl); (case hx => rfl); (case hy => rfl); (case h1 => rfl); (case hL => (rw [hbl]; (repeat (first | exact Upd.head | apply Upd.tail | apply Upd.app)))); (case hu => exact hat2)) | (apply s_evb; (case hg => rfl); (case hd => rfl); (case hn => rfl); (case he => ((apply ev_load_own_ag; (case hx => rfl); (case hm => exact List.Mem.head _); (case hl => exact hpl3))))) | (apply s_evb; (case hg => rfl); (case hd => rfl); (case hn => rfl); (case he => ((apply ev_lookOv (κ := Pth) (ent := entR rows2) (key := pth (q.take j)) (entR_ok hK2) hok2 hlk; (case hx => rfl); (case hy => rfl); (case hm => (repeat (first | exact List.Mem.head _ | apply List.Mem.tail | apply List.mem_append_right))))))) | refine Jo ?_ | intro _))
      refine W.freezeB (L1 := (b5, .cells ((pad (q.take j)).map strV).toArray 87 (0, 0)) :: (r, iterGO bmo (iE es).length (seen ++ [i])) :: (b4, .cells [.map (some bmk)].toArray 111 (0, 0)) :: (bmk, mapGO (entR rows2)) :: (b2, .cells [.slice none 0 0].toArray 24 (0, 0)) :: (b1, .cells [.map (some bmo)].toArray 78 (0, 0)) :: (bmo, mapGO (iE es)) :: (kbR pre ++ kbR post)) ho ?_ fun S8 hle8 hs8 hz8 => ?_
      · exact List.Perm.trans (((((((hpm.cons _).cons _).cons _).cons _).cons _).cons _).cons _) (pmc (fun p => by (repeat (first | rw [List.countP_append] | rw [List.countP_cons] | rw [List.countP_nil])); (all_goals (first | rfl | omega))))
      obtain ⟨A', c', e8, hc8, hA8⟩ := hs8
      injection e8 with e8 _ e9
      subst e8; subst e9
      have hp12 : q.take j ++ [x] <+: q := htk ▸ List.take_prefix _ _
      cases hany : (rowK (pth (q.take j)) rows2).any fun y => x == y.b
      rotate_left
      · (repeat (first | refine Jc ?_ | ((apply s_call; (case hg => rfl); (case hd => rfl); (case ha => rfl); (case hc => exact pfContains_t (rowK (pth (q.take j)) rows2) x A c _ hA8 hrl hany); (case hL => (repeat (first | exact pm_nil _ | exact pm_refl _ _ | exact pm_self _ | apply pm_cons | apply pm_app))); rintro _ _ _ hle9 ⟨rfl, rfl, rfl⟩); refine W.thawB ho (hz8.le hle9) fun S9 => ?_) | (apply s_evb; (case hg => rfl); (case hd => rfl); (case hn => rfl); (case he => ((apply ev_binV; (case hx => rfl); (case hy => rfl); (case hb => (apply bv_pred; omega)))))) | refine Jo ?_ | intro _))
        refine W.perm (L' := (b5, .cells ((pad (q.take j)).map strV).toArray 87 (0, 0)) :: (r, iterGO bmo (iE es).length (seen ++ [i])) :: (b4, .cells [.map (some bmk)].toArray 111 (0, 0)) :: (bmk, mapGO (entR rows2)) :: (b2, .cells [.slice none 0 0].toArray 24 (0, 0)) :: (b1, .cells [.map (some bmo)].toArray 78 (0, 0)) :: (bmo, mapGO (iE es)) :: kbR rows2) ?_ ?_
        · refine q_back (m' := j) (L' := (b5, .cells ((pad (q.take j)).map strV).toArray 87 (0, 0)) :: (r, iterGO bmo (iE es).length (seen ++ [i])) :: (b4, .cells [.map (some bmk)].toArray 111 (0, 0)) :: (bmk, mapGO (entR rows2)) :: (b2, .cells [.slice none 0 0].toArray 24 (0, 0)) :: (b1, .cells [.map (some bmo)].toArray 78 (0, 0)) :: (bmo, mapGO (iE es)) :: kbR rows2) ⟨j, rows2, rfl, by omega, hK2, fun k => ?_, rfl, rfl⟩ (by omega) sbF sbL
          rw [← hr2 k, if_pos hnv, if_pos hnv, addDown]
          congr 1
          funext k
          unfold addName
          by_cases hk : k = pth (q.take j)
          · rw [if_pos hk, if_pos (by simpa [List.getD_eq_getElem?_getD, hx] using hany), hk]
          · rw [if_neg hk]
        · exact List.Perm.trans (pmc (fun p => by (repeat (first | rw [List.countP_append] | rw [List.countP_cons] | rw [List.countP_nil])); (all_goals (first | rfl | omega)))) (((((((hpm.symm.cons _).cons _).cons _).cons _).cons _).cons _).cons _)
      · (repeat (first | refine Jc ?_ | ((apply s_call; (case hg => rfl); (case hd => rfl); (case ha => rfl); (case hc => exact pfContains_t (rowK (pth (q.take j)) rows2) x A c _ hA8 hrl hany); (case hL => (repeat (first | exact pm_nil _ | exact pm_refl _ _ | exact pm_self _ | apply pm_cons | apply pm_app))); rintro _ _ _ hle9 ⟨rfl, rfl, rfl⟩); refine W.thawB ho (hz8.le hle9) fun S9 => ?_) | (apply s_evb; (case hg => rfl); (case hd => rfl); (case hn => rfl); (case he => ((apply ev_load_own_ag; (case hx => rfl); (case hm => (repeat (first | exact List.Mem.head _ | apply List.Mem.tail | apply List.mem_append_right))); (case hl => exact hpl3))))) | (apply s_buildSlice; (case hg => rfl); (case hd => rfl); (case hp => rfl); (case hq => rfl); (case hm => rfl); (case hv => rfl); (case hl => rfl); intro b0) | (apply s_mapEntryG (κ := Pth) (z := .slice none 0 0) (ent := entR rows2) (key := pth (q.take j)); (case hg => rfl); (case hd => rfl); (case hx => rfl); (case hy => rfl); (case hE => exact entR_ok hK2); (case hl => exact hok2); (case hL => (rw [hlk]; (repeat (first | exact Upd.head | apply Upd.tail | apply Upd.app)))); rw [hlk]; intro je hje) | (apply s_append (ms := [(⟨x⟩ : Str)]); (case hg => rfl); (case hd => rfl); (case hx => rfl); (case ho => exact ho); (case hL => (repeat (first | exact pm_nil _ | exact pm_refl _ _ | exact pm_self _ | apply pm_cons | apply pm_app))); (case hy => rfl); (case hm => rfl); (case hs => (apply Src.own; (repeat (first | exact List.Mem.head _ | apply List.Mem.tail | apply List.mem_append_right)))); (case hzs => rfl); (case h0 => decide); (case hb => (simp; omega)); (case h63 => (simp; omega)); intro v' ob' ho') | (apply s_entryStoreG (κ := Pth) hje; (case hg => rfl); (case hx => rfl); (case hy => rfl); (case hz => rfl); (case hL => (rw [upsG_ups]; (repeat (first | exact Upd.head | apply Upd.tail | apply Upd.app))))) | (apply s_evb; (case hg => rfl); (case hd => rfl); (case hn => rfl); (case he => ((apply ev_binV; (case hx => rfl); (case hy => rfl); (case hb => (apply bv_pred; omega)))))) | refine Jo ?_ | intro _))
        rw [hups v']
        have hrows : ∀ k, rowK k (pre ++ ⟨pth (q.take j), v', rowK (pth (q.take j)) rows2 ++ [⟨x⟩], ob'⟩ :: post) = addName (fun k => rowK k rows2) (pth (q.take j)) ⟨x⟩ k := fun k => by
          rw [hrow]
          unfold addName
          by_cases hk : k = pth (q.take j)
          · rw [if_pos hk, if_pos hk, if_neg (by simpa using hany)]
          · rw [if_neg hk, if_neg hk]
        have hK3 : KOk (pre ++ ⟨pth (q.take j), v', rowK (pth (q.take j)) rows2 ++ [⟨x⟩], ob'⟩ :: post) := by
          have hin : ∀ r ∈ pre ++ (⟨pth (q.take j), v', rowK (pth (q.take j)) rows2 ++ [⟨x⟩], ob'⟩ : KR) :: post, r = ⟨pth (q.take j), v', rowK (pth (q.take j)) rows2 ++ [⟨x⟩], ob'⟩ ∨ r ∈ rows2 := fun r hr => by
            rcases List.mem_append.1 hr with h | h
            · exact .inr (hsub r (List.mem_append_left _ h))
            · rcases List.mem_cons.1 h with h | h
              · exact .inl h
              · exact .inr (hsub r (List.mem_append_right _ h))
          refine ⟨fun r hr => ?_, fun r hr => ?_⟩
          · rcases hin r hr with rfl | h
            · exact ho'
            · exact hK2.own r h
          · rcases hin r hr with rfl | h
            · exact hok2
            · exact hK2.key r h
        have hent : entR (pre ++ (⟨pth (q.take j), v', [], []⟩ : KR) :: post) = entR (pre ++ (⟨pth (q.take j), v', rowK (pth (q.take j)) rows2 ++ [⟨x⟩], ob'⟩ : KR) :: post) := by rw [entR_mid, entR_mid]
        rw [hent]
        generalize hR3 : pre ++ (⟨pth (q.take j), v', rowK (pth (q.take j)) rows2 ++ [⟨x⟩], ob'⟩ : KR) :: post = rows3 at *
        refine W.perm (L' := (b5, .cells ((pad (q.take j)).map strV).toArray 87 (0, 0)) :: (r, iterGO bmo (iE es).length (seen ++ [i])) :: (b4, .cells [.map (some bmk)].toArray 111 (0, 0)) :: (bmk, mapGO (entR rows3)) :: (b2, .cells [.slice none 0 0].toArray 24 (0, 0)) :: (b1, .cells [.map (some bmo)].toArray 78 (0, 0)) :: (bmo, mapGO (iE es)) :: (kbR rows3 ++ [(b0, .cells (([strV x] : List Value).flatMap (fun x => x.cells.toList)).toArray 9 (0, 0))])) ?_ ?_
        · refine q_back (m' := j) (L' := (b5, .cells ((pad (q.take j)).map strV).toArray 87 (0, 0)) :: (r, iterGO bmo (iE es).length (seen ++ [i])) :: (b4, .cells [.map (some bmk)].toArray 111 (0, 0)) :: (bmk, mapGO (entR rows3)) :: (b2, .cells [.slice none 0 0].toArray 24 (0, 0)) :: (b1, .cells [.map (some bmo)].toArray 78 (0, 0)) :: (bmo, mapGO (iE es)) :: kbR rows3) ⟨j, rows3, rfl, by omega, hK3, fun k => ?_, rfl, rfl⟩ (by omega) sbF sbL
          rw [← hr2 k, if_pos hnv, if_pos hnv, addDown]
          rw [show (fun k => rowK k rows3) = addName (fun k => rowK k rows2) (pth (q.take j)) ⟨x⟩ from funext hrows]
          simp [List.getD_eq_getElem?_getD, hx]
        · have hkb : kbR rows3 = kbR pre ++ (ob' ++ kbR post) := by rw [← hR3, kbR_mid]
          rw [hkb]
          exact (pmc (fun p => by (repeat (first | rw [List.countP_append] | rw [List.countP_cons] | rw [List.countP_nil])); (all_goals (first | rfl | omega))))
end Go.Proofs.YtcnfchchanlepaaGreat
namespace Go.Proofs.YtcnfchchanlepaaGreat
open Go Go.X
theorem plt_irr (p : List Bs) : ¬ p < p := List.lt_irrefl p
theorem plt_trans {p q r : List Bs} (h1 : p < q) (h2 : q < r) : p < r := List.lt_trans h1 h2
theorem plt_asymm {p q : List Bs} (h : p < q) : ¬ q < p := List.lt_asymm h
theorem plt_tri (a b : List Bs) : a < b ∨ a = b ∨ b < a := by
  rcases Decidable.em (a < b) with h | h
  · exact .inl h
  · rcases Decidable.em (b < a) with h2 | h2
    · exact .inr (.inr h2)
    · exact .inr (.inl (List.le_antisymm (List.not_lt.1 h2) (List.not_lt.1 h)))
theorem plt_cons {a b : Bs} {p q : List Bs} : a :: p < b :: q ↔ a < b ∨ a = b ∧ p < q := List.cons_lt_cons_iff
theorem cmpP_lt : ∀ p q : List Bs, cmpP p q = if p < q then -1 else if q < p then 1 else 0
  | [], [] => by simp [cmpP]
  | [], b :: q => by simp [cmpP]
  | a :: p, [] => by simp [cmpP]
  | a :: p, b :: q => by
    have ih := cmpP_lt p q
    unfold cmpP cmpS
    rw [ih]
    simp only [plt_cons]
    rcases lt_tri a b with h | h | h
    · have h2 : ¬ b < a := List.lt_asymm h
      have h3 : ¬ a = b := fun e => by subst e; exact List.lt_irrefl a h
      simp [h]
    · subst h
      have h2 : ¬ a < a := List.lt_irrefl a
      simp [h2]
    · have h2 : ¬ a < b := List.lt_asymm h
      have h3 : ¬ a = b := fun e => by subst e; exact List.lt_irrefl a h
      simp [h, h2, h3]
end Go.Proofs.YtcnfchchanlepaaGreat
namespace Go.Proofs.YtcnfchchanlepaaGreat
open Go Go.X
theorem app_lt (q : List Bs) {a b : List Bs} (h : a < b) : q ++ a < q ++ b := by
  induction q with
  | nil => exact h
  | cons x q ih => exact plt_cons.2 (.inr ⟨rfl, ih⟩)
theorem lt_app (q : List Bs) (k : Bs) (t : List Bs) : q < q ++ k :: t := by
  have := app_lt q (a := []) (b := k :: t) (List.nil_lt_cons _ _)
  simpa using this
theorem kid_lt {q : List Bs} {a b : Bs} (h : a < b) {x y : List Bs} (hx : q ++ [a] <+: x) (hy : q ++ [b] <+: y) : x < y := by
  obtain ⟨s, rfl⟩ := hx
  obtain ⟨t, rfl⟩ := hy
  simp only [List.append_assoc]
  exact app_lt q (plt_cons.2 (.inl h))
theorem kid_one {q : List Bs} {a b : Bs} {x : List Bs} (hx : q ++ [a] <+: x) (hy : q ++ [b] <+: x) : a = b := by
  obtain ⟨s, rfl⟩ := hx
  obtain ⟨t, h⟩ := hy
  have := congrArg (fun l : List Bs => l[q.length]?) h
  simpa using this.symm
theorem kid_of {q p : List Bs} (h : q <+: p) (hne : p ≠ q) : ∃ k, q ++ [k] <+: p := by
  obtain ⟨t, rfl⟩ := h
  cases t with
  | nil => simp at hne
  | cons k t => exact ⟨k, t, by simp⟩
/-- The paths of a path's block: itself, and what is below it. -/
def growP (ks : List Bs → List Bs) : Nat → List Bs → List (List Bs)
  | 0, q => [q]
  | m + 1, q => q :: (ks q).flatMap fun k => growP ks m (q ++ [k])
structure Ks (w : List Bs → Int) (ks : List Bs → List Bs) : Prop where
  srt : ∀ q, VQ q → (ks q).Pairwise (· < ·)
  mem : ∀ q, VQ q → ∀ k, k ∈ ks q ↔ ∃ p, VQ p ∧ 0 < w p ∧ q ++ [k] <+: p
def Live (w : List Bs → Int) (p : List Bs) : Prop := ∃ p', VQ p' ∧ 0 < w p' ∧ p <+: p'
theorem VQ.pre {p q : List Bs} (h : VQ q) (hp : p <+: q) : VQ p := ⟨Nat.le_trans hp.length_le h.1, fun x hx => h.2 x (hp.subset hx)⟩
theorem Live.vq {w : List Bs → Int} {p : List Bs} (h : Live w p) : VQ p := by
  obtain ⟨p', hv, _, hp⟩ := h
  exact hv.pre hp
theorem Live.pre {w : List Bs → Int} {p q : List Bs} (h : Live w q) (hp : p <+: q) : Live w p := by
  obtain ⟨p', hv, h0, h1⟩ := h
  exact ⟨p', hv, h0, hp.trans h1⟩
theorem growP_mem {w : List Bs → Int} {ks : List Bs → List Bs} (hk : Ks w ks) : ∀ (m : Nat) (q : List Bs), VQ q → q.length + m = 12 → ∀ p, p ∈ growP ks m q ↔ p = q ∨ (q <+: p ∧ Live w p)
  | 0, q, hq, hm, p => by
    simp only [growP, List.mem_singleton]
    refine ⟨.inl, fun h => h.elim id fun ⟨h1, h2⟩ => ?_⟩
    have := h2.vq.1
    exact (h1.eq_of_length (by have := h1.length_le; omega)).symm
  | m + 1, q, hq, hm, p => by
    simp only [growP, List.mem_cons, List.mem_flatMap]
    constructor
    · rintro (h | ⟨k, hk1, hk2⟩)
      · exact .inl h
      · have hkl : Live w (q ++ [k]) := (hk.mem q hq k).1 hk1
        rcases (growP_mem hk m _ hkl.vq (by simp; omega) p).1 hk2 with h | ⟨h1, h2⟩
        · exact .inr ⟨h ▸ List.prefix_append _ _, h ▸ hkl⟩
        · exact .inr ⟨(List.prefix_append _ _).trans h1, h2⟩
    · rintro (h | ⟨h1, h2⟩)
      · exact .inl h
      · by_cases he : p = q
        · exact .inl he
        · obtain ⟨k, hkp⟩ := kid_of h1 he
          have hkl := h2.pre hkp
          exact .inr ⟨k, (hk.mem q hq k).2 hkl, (growP_mem hk m _ hkl.vq (by simp; omega) p).2 (.inr ⟨hkp, h2⟩)⟩
theorem growP_pre {w : List Bs → Int} {ks : List Bs → List Bs} (hk : Ks w ks) {m : Nat} {q : List Bs} (hq : VQ q) (hm : q.length + m = 12) {p : List Bs} (h : p ∈ growP ks m q) : q <+: p := by
  rcases (growP_mem hk m q hq hm p).1 h with h | h
  · exact h ▸ List.prefix_refl _
  · exact h.1
theorem growP_srt {w : List Bs → Int} {ks : List Bs → List Bs} (hk : Ks w ks) : ∀ (m : Nat) (q : List Bs), VQ q → q.length + m = 12 → (growP ks m q).Pairwise (· < ·)
  | 0, q, _, _ => List.pairwise_singleton _ _
  | m + 1, q, hq, hm => by
    have hlv : ∀ k ∈ ks q, VQ (q ++ [k]) := fun k h => Live.vq (w := w) ((hk.mem q hq k).1 h)
    refine List.pairwise_cons.2 ⟨fun p hp => ?_, ?_⟩
    · obtain ⟨k, hk1, hk2⟩ := List.mem_flatMap.1 hp
      obtain ⟨t, rfl⟩ := growP_pre hk (hlv k hk1) (by simp; omega) hk2
      rw [List.append_assoc]
      exact lt_app q k t
    · rw [List.pairwise_flatMap]
      refine ⟨fun k hk1 => growP_srt hk m _ (hlv k hk1) (by simp; omega), (List.Pairwise.and_mem.1 (hk.srt q hq)).imp ?_⟩
      rintro a b ⟨ha, hb, hab⟩ x hx y hy
      exact kid_lt hab (growP_pre hk (hlv a ha) (by simp; omega) hx) (growP_pre hk (hlv b hb) (by simp; omega) hy)
/-- The paths of the nodes of a tree: in order, and none else than what leads to a weight. -/
structure Can (w : List Bs → Int) (L : List (List Bs)) : Prop where
  srt : L.Pairwise (· < ·)
  mem : ∀ p, p ∈ L ↔ p = [] ∨ Live w p
theorem grow_can {w : List Bs → Int} {ks : List Bs → List Bs} (hk : Ks w ks) : Can w (growP ks 12 []) :=
  ⟨growP_srt hk 12 [] VQ.nil rfl, fun p => by rw [growP_mem hk 12 [] VQ.nil rfl]; simp⟩
theorem srt_nodup {L : List (List Bs)} (h : L.Pairwise (· < ·)) : L.Nodup := h.imp fun hab e => by subst e; exact plt_irr _ hab
theorem srt_eq : ∀ {L M : List (List Bs)}, L.Pairwise (· < ·) → M.Pairwise (· < ·) → (∀ p, p ∈ L ↔ p ∈ M) → L = M
  | [], M, _, _, h => by
    cases M with
    | nil => rfl
    | cons a M => exact absurd ((h a).2 List.mem_cons_self) List.not_mem_nil
  | a :: L, M, h1, h2, h => by
    cases M with
    | nil => exact absurd ((h a).1 List.mem_cons_self) List.not_mem_nil
    | cons b M =>
      obtain ⟨ha, h1'⟩ := List.pairwise_cons.1 h1
      obtain ⟨hb, h2'⟩ := List.pairwise_cons.1 h2
      have hab : a = b := by
        rcases List.mem_cons.1 ((h a).1 List.mem_cons_self) with e | e
        · exact e
        · rcases List.mem_cons.1 ((h b).2 List.mem_cons_self) with e2 | e2
          · exact e2.symm
          · exact absurd (hb a e) (plt_asymm (ha b e2))
      subst hab
      rw [srt_eq h1' h2' fun p => ?_]
      constructor
      · intro hp
        rcases List.mem_cons.1 ((h p).1 (List.mem_cons_of_mem _ hp)) with e | e
        · exact absurd (ha p hp) (e ▸ plt_irr _)
        · exact e
      · intro hp
        rcases List.mem_cons.1 ((h p).2 (List.mem_cons_of_mem _ hp)) with e | e
        · exact absurd (hb p hp) (e ▸ plt_irr _)
        · exact e
theorem Can.eq {w u : List Bs → Int} {L M : List (List Bs)} (h1 : Can w L) (h2 : Can u M) (h : ∀ p, VQ p → w p = u p) : L = M := by
  refine srt_eq h1.srt h2.srt fun p => ?_
  rw [h1.mem, h2.mem]
  unfold Live
  constructor
  · rintro (e | ⟨p', hv, h0, hp⟩)
    · exact .inl e
    · exact .inr ⟨p', hv, by rw [← h p' hv]; exact h0, hp⟩
  · rintro (e | ⟨p', hv, h0, hp⟩)
    · exact .inl e
    · exact .inr ⟨p', hv, by rw [h p' hv]; exact h0, hp⟩
end Go.Proofs.YtcnfchchanlepaaGreat
namespace Go.Proofs.YtcnfchchanlepaaGreat
open Go Go.X
set_option linter.unusedVariables false
/-- The weights of what begins with a path. -/
def totL (w : List Bs → Int) (B : List (List Bs)) (q : List Bs) : Int := (B.map fun p => if q <+: p then w p else 0).sum
def sumL (w : List Bs → Int) (B : List (List Bs)) : Int := (B.map w).sum
theorem totL_nil (w : List Bs → Int) (q : List Bs) : totL w [] q = 0 := rfl
theorem totL_app (w : List Bs → Int) (A B : List (List Bs)) (q : List Bs) : totL w (A ++ B) q = totL w A q + totL w B q := by simp [totL]
theorem totL_cons (w : List Bs → Int) (p : List Bs) (B : List (List Bs)) (q : List Bs) : totL w (p :: B) q = (if q <+: p then w p else 0) + totL w B q := by simp [totL]
theorem sumL_app (w : List Bs → Int) (A B : List (List Bs)) : sumL w (A ++ B) = sumL w A + sumL w B := by simp [sumL]
theorem sumL_cons (w : List Bs → Int) (p : List Bs) (B : List (List Bs)) : sumL w (p :: B) = w p + sumL w B := by simp [sumL]
theorem totL_none {w : List Bs → Int} {q : List Bs} : ∀ {B : List (List Bs)}, (∀ p ∈ B, ¬ q <+: p) → totL w B q = 0
  | [], _ => rfl
  | p :: B, h => by
    rw [totL_cons, if_neg (h p List.mem_cons_self), totL_none fun x hx => h x (List.mem_cons_of_mem _ hx)]; rfl
theorem totL_all {w : List Bs → Int} {q : List Bs} : ∀ {B : List (List Bs)}, (∀ p ∈ B, q <+: p) → totL w B q = sumL w B
  | [], _ => rfl
  | p :: B, h => by
    rw [totL_cons, sumL_cons, if_pos (h p List.mem_cons_self), totL_all fun x hx => h x (List.mem_cons_of_mem _ hx)]
theorem sumL_nonneg {w : List Bs → Int} (h0 : ∀ p, 0 ≤ w p) : ∀ B : List (List Bs), 0 ≤ sumL w B
  | [] => Int.le_refl _
  | p :: B => by rw [sumL_cons]; have := sumL_nonneg h0 B; have := h0 p; omega
/-- The node of a path, in a block that begins at a place, whose first path hangs at a parent. -/
def nodeP (w : List Bs → Int) (B : List (List Bs)) (at_ : Nat) (q : List Bs) (parent : Int) (p : List Bs) : Nd :=
  ⟨if p = q then parent else ((at_ + B.idxOf p.dropLast : Nat) : Int), nameOf p, w p, totL w B p⟩
def kidL (own : Pth → Int) (kids : Pth → List Str) (q : List Bs) : List Bs := (sortS (kids (pth q))).map Str.b
theorem growN_zero (own : Pth → Int) (kids : Pth → List Str) (q : List Bs) (parent : Int) (a : Nat) : growN own kids 0 q parent a = ([⟨parent, nameOf q, own (pth q), own (pth q)⟩], own (pth q)) := rfl
theorem growN_succ (own : Pth → Int) (kids : Pth → List Str) (m : Nat) (q : List Bs) (parent : Int) (a : Nat) : growN own kids (m + 1) q parent a =
    (⟨parent, nameOf q, own (pth q), (growK (fun n k => growN own kids m (q ++ [k]) (a : Nat) (a + 1 + n)) (sortS (kids (pth q))) ([], own (pth q))).2⟩ :: (growK (fun n k => growN own kids m (q ++ [k]) (a : Nat) (a + 1 + n)) (sortS (kids (pth q))) ([], own (pth q))).1,
      (growK (fun n k => growN own kids m (q ++ [k]) (a : Nat) (a + 1 + n)) (sortS (kids (pth q))) ([], own (pth q))).2) := rfl
theorem growK_length {g : Nat → Bs → List Nd × Int} {f : Bs → List (List Bs)} (hg : ∀ n k, (g n k).1.length = (f k).length) : ∀ (l : List Str) (acc : List Nd × Int), (growK g l acc).1.length = acc.1.length + ((l.map Str.b).flatMap f).length
  | [], acc => by simp [growK]
  | k :: r, acc => by
    rw [growK, growK_length hg r]
    simp [hg]; omega
theorem growN_length (own : Pth → Int) (kids : Pth → List Str) : ∀ (m : Nat) (q : List Bs) (parent : Int) (a : Nat), (growN own kids m q parent a).1.length = (growP (kidL own kids) m q).length
  | 0, q, _, _ => rfl
  | m + 1, q, parent, a => by
    rw [growN_succ, growP, List.length_cons, List.length_cons, growK_length (f := fun k => growP (kidL own kids) m (q ++ [k])) (fun n k => growN_length own kids m _ _ _)]
    simp [kidL]
/-- The total of a block: its sum, or more than there may be. -/
def Near (t s : Int) : Prop := (s ≤ 1125899906842624 → t = s) ∧ (1125899906842624 < s → 1125899906842624 < t)
theorem growK_near {g : Nat → Bs → List Nd × Int} {f : Bs → List (List Bs)} {w : List Bs → Int} (h0 : ∀ p, 0 ≤ w p) (hg : ∀ n k, Near (g n k).2 (sumL w (f k))) (hp : ∀ n k, 0 ≤ (g n k).2) : ∀ (l : List Str) (acc : List Nd × Int) (s : Int), 0 ≤ acc.2 → 0 ≤ s → Near acc.2 s → Near (growK g l acc).2 (s + sumL w ((l.map Str.b).flatMap f))
  | [], acc, s, _, _, h => by simpa [growK, sumL] using h
  | k :: r, acc, s, ha, hs, h => by
    rw [growK, List.map_cons, List.flatMap_cons, sumL_app, ← Int.add_assoc]
    have hgk := hg acc.1.length k.b
    have hpk := hp acc.1.length k.b
    have hsk := sumL_nonneg h0 (f k.b)
    refine growK_near h0 hg hp r _ _ ?_ (by omega) ?_
    · simp only; unfold capI; split <;> omega
    · simp only
      unfold Near capI at *
      refine ⟨fun hh => ?_, fun hh => ?_⟩
      · have := h.1 (by omega); have := hgk.1 (by omega)
        rw [if_neg (by omega)]; omega
      · split
        · omega
        · rename_i hcap
          by_cases h1 : s ≤ 1125899906842624
          · have := h.1 h1
            by_cases h2 : sumL w (f k.b) ≤ 1125899906842624
            · have := hgk.1 h2; omega
            · have := hgk.2 (by omega); omega
          · have := h.2 (by omega); omega
theorem growN_pos {own : Pth → Int} {kids : Pth → List Str} (h0 : ∀ k, 0 ≤ own k) : ∀ (m : Nat) (q : List Bs) (parent : Int) (a : Nat), 0 ≤ (growN own kids m q parent a).2
  | 0, q, _, _ => h0 _
  | m + 1, q, parent, a => by
    rw [growN_succ]
    simp only
    suffices h : ∀ (l : List Str) (acc : List Nd × Int), 0 ≤ acc.2 → 0 ≤ (growK (fun n k => growN own kids m (q ++ [k]) (a : Nat) (a + 1 + n)) l acc).2 from h _ _ (h0 _)
    intro l
    induction l with
    | nil => intro acc h; exact h
    | cons k r ih =>
      intro acc h
      rw [growK]
      refine ih _ ?_
      have := growN_pos (kids := kids) h0 m (q ++ [k.b]) (a : Nat) (a + 1 + acc.1.length)
      simp only; unfold capI; split <;> omega
theorem growN_near {own : Pth → Int} {kids : Pth → List Str} (h0 : ∀ k, 0 ≤ own k) : ∀ (m : Nat) (q : List Bs) (parent : Int) (a : Nat), Near (growN own kids m q parent a).2 (sumL (fun p => own (pth p)) (growP (kidL own kids) m q))
  | 0, q, _, _ => by simp [growN_zero, growP, sumL, Near]
  | m + 1, q, parent, a => by
    rw [growN_succ, growP, sumL_cons]
    have := growK_near (g := fun n k => growN own kids m (q ++ [k]) (a : Nat) (a + 1 + n)) (f := fun k => growP (kidL own kids) m (q ++ [k])) (w := fun p => own (pth p)) (fun p => h0 _) (fun n k => growN_near h0 m _ _ _) (fun n k => growN_pos h0 m _ _ _) (sortS (kids (pth q))) ([], own (pth q)) (own (pth q)) (h0 _) (h0 _) ⟨fun _ => rfl, fun h => h⟩
    simpa [kidL] using this
end Go.Proofs.YtcnfchchanlepaaGreat
namespace Go.Proofs.YtcnfchchanlepaaGreat
open Go Go.X
theorem dropLast_pre {q p : List Bs} {k : Bs} (h : q ++ [k] <+: p) (hne : p ≠ q ++ [k]) : q ++ [k] <+: p.dropLast := by
  obtain ⟨t, rfl⟩ := h
  have ht : t ≠ [] := fun e => hne (by simp [e])
  rw [List.dropLast_append_of_ne_nil ht]
  exact List.prefix_append _ _
theorem sumL_sub {w : List Bs → Int} (h0 : ∀ p, 0 ≤ w p) {A B C : List (List Bs)} : sumL w B ≤ sumL w (A ++ (B ++ C)) := by
  rw [sumL_app, sumL_app]
  have := sumL_nonneg h0 A
  have := sumL_nonneg h0 C
  omega
theorem idxOf_ne {a b : List Bs} {l : List (List Bs)} (h : b ≠ a) : (b :: l).idxOf a = l.idxOf a + 1 := by
  rw [List.idxOf_cons]
  have : (b == a) = false := by simpa using h
  rw [this]; rfl
section
variable {own : Pth → Int} {kids : Pth → List Str}
theorem kid_vq {w : List Bs → Int} {ks : List Bs → List Bs} (hk : Ks w ks) {q : List Bs} (hq : VQ q) {k : Bs} (h : k ∈ ks q) : VQ (q ++ [k]) := Live.vq (w := w) ((hk.mem q hq k).1 h)
theorem growK_nodes (m : Nat) (q : List Bs) (parent : Int) (a : Nat) (hq : VQ q) (hm : q.length + (m + 1) = 12) (h0 : ∀ k, 0 ≤ own k) (hk : Ks (fun p => own (pth p)) (kidL own kids))
    (ih : ∀ k parent a', VQ (q ++ [k]) → sumL (fun p => own (pth p)) (growP (kidL own kids) m (q ++ [k])) ≤ 1125899906842624 → (growN own kids m (q ++ [k]) parent a').1 = (growP (kidL own kids) m (q ++ [k])).map (nodeP (fun p => own (pth p)) (growP (kidL own kids) m (q ++ [k])) a' (q ++ [k]) parent))
    (hs : sumL (fun p => own (pth p)) (growP (kidL own kids) (m + 1) q) ≤ 1125899906842624) :
    ∀ (l : List Str) (pre : List Bs) (acc : List Nd × Int), kidL own kids q = pre ++ l.map Str.b → acc.1.length = (pre.flatMap fun k => growP (kidL own kids) m (q ++ [k])).length →
      (growK (fun n k => growN own kids m (q ++ [k]) (a : Nat) (a + 1 + n)) l acc).1 = acc.1 ++ ((l.map Str.b).flatMap fun k => growP (kidL own kids) m (q ++ [k])).map (nodeP (fun p => own (pth p)) (growP (kidL own kids) (m + 1) q) a q parent)
  | [], pre, acc, _, _ => by simp [growK]
  | k :: r, pre, acc, hl, hlen => by
    have hkin : k.b ∈ kidL own kids q := by rw [hl]; simp
    have hkv := kid_vq hk hq hkin
    have hB : growP (kidL own kids) (m + 1) q = q :: ((pre.flatMap fun k => growP (kidL own kids) m (q ++ [k])) ++ (growP (kidL own kids) m (q ++ [k.b]) ++ ((r.map Str.b).flatMap fun k => growP (kidL own kids) m (q ++ [k])))) := by
      rw [growP, hl]; simp
    have hsk : sumL (fun p => own (pth p)) (growP (kidL own kids) m (q ++ [k.b])) ≤ 1125899906842624 := by
      have h1 := sumL_sub (w := fun p => own (pth p)) (fun p => h0 _) (A := q :: (pre.flatMap fun k => growP (kidL own kids) m (q ++ [k]))) (B := growP (kidL own kids) m (q ++ [k.b])) (C := (r.map Str.b).flatMap fun k => growP (kidL own kids) m (q ++ [k]))
      rw [List.cons_append, ← hB] at h1
      omega
    have hsrt := hk.srt q hq
    rw [hl, List.map_cons] at hsrt
    obtain ⟨_, hs2, hs3⟩ := List.pairwise_append.1 hsrt
    obtain ⟨hs4, _⟩ := List.pairwise_cons.1 hs2
    have hdis : ∀ k', (k' ∈ pre ∨ k' ∈ r.map Str.b) → k' ≠ k.b := fun k' h e => by
      subst e
      rcases h with h | h
      · exact List.lt_irrefl _ (hs3 _ h _ List.mem_cons_self)
      · exact List.lt_irrefl _ (hs4 _ h)
    have hin : ∀ k', (k' ∈ pre ∨ k' ∈ r.map Str.b) → k' ∈ kidL own kids q := fun k' h => by
      rw [hl, List.map_cons]
      rcases h with h | h
      · exact List.mem_append_left _ h
      · exact List.mem_append_right _ (List.mem_cons_of_mem _ h)
    have hoth : ∀ k' , (k' ∈ pre ∨ k' ∈ r.map Str.b) → ∀ x ∈ growP (kidL own kids) m (q ++ [k']), ¬ q ++ [k.b] <+: x := fun k' h x hx hp =>
      hdis k' h (kid_one (growP_pre hk (kid_vq hk hq (hin k' h)) (by simp; omega) hx) hp)
    have hnode : ∀ p ∈ growP (kidL own kids) m (q ++ [k.b]), nodeP (fun p => own (pth p)) (growP (kidL own kids) m (q ++ [k.b])) (a + 1 + acc.1.length) (q ++ [k.b]) (a : Nat) p = nodeP (fun p => own (pth p)) (growP (kidL own kids) (m + 1) q) a q parent p := fun p hp => by
      have hpre := growP_pre hk hkv (by simp; omega) hp
      have hpq : p ≠ q := fun e => by
        have := hpre.length_le; rw [e] at this; simp at this; omega
      have htot : totL (fun p => own (pth p)) (growP (kidL own kids) (m + 1) q) p = totL (fun p => own (pth p)) (growP (kidL own kids) m (q ++ [k.b])) p := by
        rw [hB, totL_cons, totL_app, totL_app, if_neg, totL_none (B := pre.flatMap _), totL_none (B := (r.map Str.b).flatMap _)]
        · omega
        · intro x hx h
          obtain ⟨k', hk', hx'⟩ := List.mem_flatMap.1 hx
          exact hoth k' (.inr hk') x hx' (hpre.trans h)
        · intro x hx h
          obtain ⟨k', hk', hx'⟩ := List.mem_flatMap.1 hx
          exact hoth k' (.inl hk') x hx' (hpre.trans h)
        · intro h
          have h1 := hpre.length_le
          have h2 := h.length_le
          simp at h1; omega
      unfold nodeP
      rw [htot, if_neg hpq]
      congr 1
      by_cases he : p = q ++ [k.b]
      · rw [if_pos he, he, hB]; simp
      · rw [if_neg he]
        have hd := dropLast_pre hpre he
        have hdin : p.dropLast ∈ growP (kidL own kids) m (q ++ [k.b]) := by
          rw [growP_mem hk m _ hkv (by simp; omega)] at hp ⊢
          rcases hp with h | ⟨_, h⟩
          · exact absurd h he
          · exact .inr ⟨hd, h.pre (List.dropLast_prefix _)⟩
        have hdq : q ≠ p.dropLast := fun e => by
          have := hd.length_le; rw [← e] at this; simp at this; omega
        have hnot : p.dropLast ∉ pre.flatMap fun k => growP (kidL own kids) m (q ++ [k]) := fun hx => by
          obtain ⟨k', hk', hx'⟩ := List.mem_flatMap.1 hx
          exact hoth k' (.inl hk') _ hx' hd
        rw [hB, idxOf_ne hdq, List.idxOf_append, if_neg hnot, List.idxOf_append, if_pos hdin, hlen]
        congr 1; omega
    rw [growK, growK_nodes m q parent a hq hm h0 hk ih hs r (pre ++ [k.b]) _ (by rw [hl]; simp) (by simp [growN_length, hlen]), ih k.b _ _ hkv hsk]
    rw [List.map_cons, List.flatMap_cons, List.map_append, ← List.append_assoc]
    simp only
    rw [List.map_congr_left hnode]
theorem growN_nodes (h0 : ∀ k, 0 ≤ own k) (hk : Ks (fun p => own (pth p)) (kidL own kids)) : ∀ (m : Nat) (q : List Bs) (parent : Int) (a : Nat), VQ q → q.length + m = 12 → sumL (fun p => own (pth p)) (growP (kidL own kids) m q) ≤ 1125899906842624 →
    (growN own kids m q parent a).1 = (growP (kidL own kids) m q).map (nodeP (fun p => own (pth p)) (growP (kidL own kids) m q) a q parent)
  | 0, q, parent, a, _, _, _ => by simp [growN_zero, growP, nodeP, totL]
  | m + 1, q, parent, a, hq, hm, hs => by
    have hn := (growN_near h0 (m + 1) q parent a).1 hs
    have hgk := growK_nodes m q parent a hq hm h0 hk (fun k parent a' hv hs' => growN_nodes h0 hk m _ parent a' hv (by simp; omega) hs') hs (sortS (kids (pth q))) [] ([], own (pth q)) (by simp [kidL]) rfl
    rw [growN_succ] at hn ⊢
    simp only at hn ⊢
    rw [hgk, hn]
    have hall : totL (fun p => own (pth p)) (growP (kidL own kids) (m + 1) q) q = sumL (fun p => own (pth p)) (growP (kidL own kids) (m + 1) q) := totL_all fun p hp => growP_pre hk hq hm hp
    rw [List.nil_append]
    conv => rhs; rw [growP, List.map_cons]
    rw [← growP]
    congr 1
    unfold nodeP
    rw [if_pos rfl, hall]
end
end Go.Proofs.YtcnfchchanlepaaGreat
namespace Go.Proofs.YtcnfchchanlepaaGreat
open Go Go.X
set_option linter.unusedVariables false
/-- The node of a path among all paths of a tree, and all nodes. -/
def nodeC (w : List Bs → Int) (L : List (List Bs)) (p : List Bs) : Nd := ⟨if p = [] then -1 else ((L.idxOf p.dropLast : Nat) : Int), nameOf p, w p, totL w L p⟩
def nodesC (w : List Bs → Int) (L : List (List Bs)) : List Nd := L.map (nodeC w L)
theorem nodesC_len (w : List Bs → Int) (L : List (List Bs)) : (nodesC w L).length = L.length := by simp [nodesC]
theorem nodeP_C (w : List Bs → Int) (L : List (List Bs)) : L.map (nodeP w L 0 [] (-1)) = nodesC w L := by
  unfold nodesC
  refine List.map_congr_left fun p _ => ?_
  unfold nodeP nodeC
  rw [Nat.zero_add]
theorem nodup_sub_len {α : Type} [DecidableEq α] : ∀ {L M : List α}, L.Nodup → (∀ x ∈ L, x ∈ M) → L.length ≤ M.length
  | [], _, _, _ => Nat.zero_le _
  | a :: L, M, hn, h => by
    obtain ⟨h1, h2⟩ := List.nodup_cons.1 hn
    have hm := h a List.mem_cons_self
    have := nodup_sub_len (M := M.erase a) h2 fun x hx => (List.mem_erase_of_ne (fun e => h1 (by subst e; exact hx))).2 (h x (List.mem_cons_of_mem _ hx))
    have h3 := List.length_erase_of_mem hm
    have h4 : 0 < M.length := List.length_pos_of_mem hm
    rw [List.length_cons]; omega
theorem sortS_srt {l : List Str} (h : l.Nodup) : ((sortS l).map Str.b).Pairwise (· < ·) := by
  have hb : (l.map Str.b).Nodup := by
    rw [List.nodup_iff_pairwise_ne] at h ⊢
    rw [List.pairwise_map]
    exact h.imp fun hab e => hab (by rename_i a b; cases a; cases b; simp at e; rw [e])
  have e : (sortS l).map Str.b = (l.map Str.b).mergeSort fun x y => decide (x ≤ y) := by simp [sortS, Function.comp_def]
  rw [e]
  have h1 : ((l.map Str.b).mergeSort fun x y => decide (x ≤ y)).Pairwise (fun a b => decide (a ≤ b) = true) := List.pairwise_mergeSort (fun a b c h1 h2 => by simp only [decide_eq_true_eq] at *; exact List.le_trans h1 h2) (fun a b => by simp only [Bool.or_eq_true, decide_eq_true_eq]; exact List.le_total a b) _
  have h2 : ((l.map Str.b).mergeSort fun x y => decide (x ≤ y)).Nodup := (List.mergeSort_perm _ _).nodup_iff.2 hb
  rw [List.nodup_iff_pairwise_ne] at h2
  refine (h1.and h2).imp ?_
  rintro a b ⟨hab, hne⟩
  rcases lt_tri a b with h | h | h
  · exact h
  · exact absurd h hne
  · exact absurd h (List.not_lt.2 (by simpa using hab))
theorem pos_mem {es es' : List (Pth × Int)} (hW : WE es) (hp : es'.Perm es) (hP : PE es) (p : List Bs) : (VQ p ∧ 0 < wI (pth p) es) ↔ ∃ n, (pth p, n) ∈ es' ∧ VQ p ∧ 0 < n := by
  constructor
  · rintro ⟨hv, h0⟩
    by_cases hk : pth p ∈ es.map (·.1)
    · obtain ⟨⟨k', v⟩, he, hk'⟩ := List.mem_map.1 hk
      simp only at hk'
      subst hk'
      rw [wI_mem hW.nodup he] at h0
      exact ⟨v, hp.mem_iff.2 he, hv, h0⟩
    · rw [wI_none hk] at h0; exact absurd h0 (Int.lt_irrefl _)
  · rintro ⟨n, he, hv, h0⟩
    exact ⟨hv, by rw [wI_mem hW.nodup (hp.mem_iff.1 he)]; exact h0⟩
theorem kidsF_ks {es es' : List (Pth × Int)} (hW : WE es) (hp : es'.Perm es) (hP : PE es) : Ks (fun p => wI (pth p) es) (kidL (fun k => wI k es) (kidsF es')) := by
  have hP' : PE es' := fun e he => hP e (hp.mem_iff.1 he)
  refine ⟨fun q _ => sortS_srt (kidsF_nodup _ _), fun q hq k => ?_⟩
  unfold kidL
  have h1 : k ∈ (sortS (kidsF es' (pth q))).map Str.b ↔ (⟨k⟩ : Str) ∈ kidsF es' (pth q) := by
    rw [← sortS_mem]
    constructor
    · intro h
      obtain ⟨y, hy, rfl⟩ := List.mem_map.1 h
      exact hy
    · exact fun h => List.mem_map.2 ⟨_, h, rfl⟩
  rw [h1, kidsF_kid hP' hq]
  constructor
  · rintro ⟨p, n, he, hv, h0, hpre⟩
    obtain ⟨_, h2⟩ := (pos_mem hW hp hP p).2 ⟨n, he, hv, h0⟩
    exact ⟨p, hv, h2, hpre⟩
  · rintro ⟨p, hv, h0, hpre⟩
    obtain ⟨n, he, _, h2⟩ := (pos_mem hW hp hP p).1 ⟨hv, h0⟩
    exact ⟨p, n, he, hv, h2, hpre⟩
theorem can_len {es : List (Pth × Int)} (hW : WE es) (hP : PE es) {L : List (List Bs)} (hL : Can (fun p => wI (pth p) es) L) : L.length ≤ 1 + 12 * es.length := by
  have h := nodup_sub_len (M := [] :: es.flatMap fun e => (List.range 12).map fun i => (strip e.1).take (i + 1)) (srt_nodup hL.srt) fun p hp => ?_
  · refine Nat.le_trans h ?_
    rw [List.length_cons, List.length_flatMap]
    have : ∀ l : List (Pth × Int), (l.map fun e => ((List.range 12).map fun i => (strip e.1).take (i + 1)).length).sum = 12 * l.length := by
      intro l
      induction l with
      | nil => rfl
      | cons a l ih => rw [List.map_cons, List.sum_cons, ih, List.length_map, List.length_range, List.length_cons]; omega
    rw [this]; omega
  · rcases (hL.mem p).1 hp with h | ⟨p', hv, h0, hpre⟩
    · exact h ▸ List.mem_cons_self
    · obtain ⟨n, he, _, _⟩ := (pos_mem hW (List.Perm.refl _) hP p').1 ⟨hv, h0⟩
      by_cases hn : p = []
      · exact hn ▸ List.mem_cons_self
      · refine List.mem_cons_of_mem _ (List.mem_flatMap.2 ⟨_, he, List.mem_map.2 ⟨p.length - 1, List.mem_range.2 ?_, ?_⟩⟩)
        · have := hv.1; have := hpre.length_le; have : 0 < p.length := List.length_pos_iff.2 hn; omega
        · have : 0 < p.length := List.length_pos_iff.2 hn
          rw [strip_pth hv, show p.length - 1 + 1 = p.length by omega]
          exact (List.prefix_iff_eq_take.1 hpre).symm
theorem treeT_can {es es' : List (Pth × Int)} (hW : WE es) (hp : es'.Perm es) (hP : PE es) (h0 : ∀ e ∈ es, 0 ≤ e.2) : ∃ L, Can (fun p => wI (pth p) es) L ∧ (TreeT es es').1.length = L.length ∧ ((TreeT es es').2 ≤ 1125899906842624 ↔ sumL (fun p => wI (pth p) es) L ≤ 1125899906842624) ∧ (sumL (fun p => wI (pth p) es) L ≤ 1125899906842624 → (TreeT es es').1 = nodesC (fun p => wI (pth p) es) L) := by
  have hk := kidsF_ks hW hp hP
  have hn : ∀ k, 0 ≤ wI k es := fun k => by
    by_cases hk : k ∈ es.map (·.1)
    · obtain ⟨⟨k', v⟩, he, rfl⟩ := List.mem_map.1 hk
      rw [wI_mem hW.nodup he]; exact h0 _ he
    · rw [wI_none hk]; exact Int.le_refl _
  refine ⟨_, grow_can hk, growN_length _ _ _ _ _ _, ?_, fun hs => ?_⟩
  · have h1 := growN_near (kids := kidsF es') hn 12 [] (-1) 0
    unfold TreeT
    constructor
    · intro h
      by_cases h2 : sumL (fun p => wI (pth p) es) (growP (kidL (fun k => wI k es) (kidsF es')) 12 []) ≤ 1125899906842624
      · exact h2
      · have := h1.2 (by omega); omega
    · intro h
      rw [h1.1 h]; exact h
  · have := growN_nodes (own := fun k => wI k es) hn hk 12 [] (-1) 0 VQ.nil rfl hs
    unfold TreeT
    rw [this, nodeP_C]
def fits (w : List Bs → Int) (L : List (List Bs)) : Prop := sumL w L ≤ 1125899906842624 ∧ L.length ≤ 2000
theorem tree_can (bmo : Nat) (es : List (Pth × Int)) (S : SH) (hWE : WE es) (hl : es.length ≤ 8000) (hP : PE es) (hb : ∀ e ∈ es, e.2 ≤ 1152921504606846976) :
    Con Tryz.prog 51 #[.map (some bmo)] S [(bmo, mapGO (iE es))] (fun _ L' r => ∃ v ok, r = .tuple #[.agg #[v], .bool ok] ∧
      ((∃ e ∈ es, e.2 < 0) ∧ ok = false ∧ v = .slice none 0 0 ∧ L' = [] ∨ (∀ e ∈ es, 0 ≤ e.2) ∧ ∃ M, Can (fun p => wI (pth p) es) M ∧ (fits (fun p => wI (pth p) es) M ∧ ok = true ∧ Ows 51 v (nodesC (fun p => wI (pth p) es) M) L' ∨ ¬ fits (fun p => wI (pth p) es) M ∧ ok = false ∧ v = .slice none 0 0 ∧ L' = []))) := by
  have hN : (∀ e ∈ es, 0 ≤ e.2) → ∀ es', es'.Perm es → (TreeT es es').1.length ≤ 1000000 := fun h0 es' hp => by
    obtain ⟨L, h1, h2, _⟩ := treeT_can hWE hp hP h0
    have := can_len hWE hP h1
    omega
  refine (tree_con bmo es S hWE hl hP hb hN).mono fun S' L' r _ hr => ?_
  obtain ⟨v, ok, rfl, h | ⟨h0, es', hp, h⟩⟩ := hr
  · exact ⟨v, ok, rfl, .inl h⟩
  · obtain ⟨M, h1, h2, h3, h4⟩ := treeT_can hWE hp hP h0
    refine ⟨v, ok, rfl, .inr ⟨h0, M, h1, ?_⟩⟩
    have hiff : TreeOk (TreeT es es') ↔ fits (fun p => wI (pth p) es) M := by unfold TreeOk fits; rw [h3, h2]
    rcases h with ⟨ha, hb, hc⟩ | ⟨ha, hb⟩
    · exact .inl ⟨hiff.1 ha, hb, by rw [← h4 (hiff.1 ha).1]; exact hc⟩
    · exact .inr ⟨fun h => ha (hiff.2 h), hb⟩
end Go.Proofs.YtcnfchchanlepaaGreat
namespace Go.Proofs.YtcnfchchanlepaaGreat
open Go Go.X
set_option linter.unusedVariables false
def pathOf (l : List Sym) (y : Sk) : List Bs := y.frames.map (namedV l y.version)
def stkE (l : List Sym) (ys : List Sk) : List (Pth × Int) := ys.map fun y => (pth (pathOf l y), y.weight)
/-- The own weights of a fold. -/
def wS (l : List Sym) (ys : List Sk) (p : List Bs) : Int := wI (pth p) (stkE l ys)
theorem namedV_ne {l : List Sym} (h : SymsOk l) (v a : Int) : namedV l v a ≠ [] := by
  unfold namedV
  cases hf : l.find? (symB v a) with
  | none => simp
  | some s =>
    simp only
    obtain ⟨i, hi⟩ := List.mem_iff_getElem?.1 (List.mem_of_find?_eq_some hf)
    have := (h.1 i s (List.getElem?_eq_some_iff.1 hi).1 hi).1.2.2.2
    intro e
    rw [e] at this
    revert this; decide
theorem sks_at {ys : List Sk} (h : sksB ys = true) {y : Sk} (hy : y ∈ ys) : y.frames.length ≤ 12 ∧ 1 ≤ y.weight ∧ y.weight ≤ 1000000 := by
  unfold sksB at h
  rw [Bool.and_eq_true, List.all_eq_true] at h
  have := h.1 y hy
  unfold skB inB at this
  simp only [Bool.and_eq_true, decide_eq_true_eq] at this
  exact ⟨this.1.1.2, this.1.2.1, this.1.2.2⟩
theorem sks_len {ys : List Sk} (h : sksB ys = true) : ys.length ≤ 100 := by
  unfold sksB at h
  rw [Bool.and_eq_true, decide_eq_true_eq] at h
  exact h.2
theorem pathOf_vq {l : List Sym} {ys : List Sk} (hl : SymsOk l) (hs : sksB ys = true) {y : Sk} (hy : y ∈ ys) : VQ (pathOf l y) :=
  ⟨by unfold pathOf; rw [List.length_map]; exact (sks_at hs hy).1, fun x hx => by
    obtain ⟨a, _, rfl⟩ := List.mem_map.1 hx
    exact namedV_ne hl _ _⟩
theorem sumL_wI {M : List (List Bs)} (hn : M.Nodup) (hv : ∀ p ∈ M, VQ p) : ∀ {E : List (Pth × Int)}, (∀ e ∈ E, 0 ≤ e.2) → sumL (fun p => wI (pth p) E) M ≤ (E.map (·.2)).sum
  | [], _ => by
    have : ∀ B : List (List Bs), sumL (fun p => wI (pth p) []) B = 0 := by
      intro B
      induction B with
      | nil => rfl
      | cons p B ih => rw [sumL_cons, ih]; rfl
    rw [this]; simp
  | e :: E, h0 => by
    have ih := sumL_wI hn hv (E := E) fun x hx => h0 x (List.mem_cons_of_mem _ hx)
    have he := h0 e List.mem_cons_self
    have h1 : ∀ B : List (List Bs), sumL (fun p => wI (pth p) (e :: E)) B = (B.map fun p => if e.1 = pth p then e.2 else 0).sum + sumL (fun p => wI (pth p) E) B := by
      intro B
      induction B with
      | nil => rfl
      | cons p B ih => rw [sumL_cons, sumL_cons, ih, List.map_cons, List.sum_cons, wI_cons]; omega
    have h2 : ∀ B : List (List Bs), B.Nodup → (∀ p ∈ B, VQ p) → (B.map fun p => if e.1 = pth p then e.2 else 0).sum ≤ e.2 ∧ ((∀ p ∈ B, e.1 ≠ pth p) → (B.map fun p => if e.1 = pth p then e.2 else 0).sum = 0) := by
      intro B
      induction B with
      | nil => intro _ _; exact ⟨by simpa using he, fun _ => rfl⟩
      | cons p B ih =>
        intro hn hv
        obtain ⟨n1, n2⟩ := List.nodup_cons.1 hn
        obtain ⟨i1, i2⟩ := ih n2 fun x hx => hv x (List.mem_cons_of_mem _ hx)
        rw [List.map_cons, List.sum_cons]
        refine ⟨?_, fun h => ?_⟩
        · by_cases hp : e.1 = pth p
          · rw [if_pos hp, i2 fun x hx e2 => n1 (pth_inj (hv p List.mem_cons_self) (hv x (List.mem_cons_of_mem _ hx)) (hp.symm.trans e2) ▸ hx)]; omega
          · rw [if_neg hp]; omega
        · rw [if_neg (h p List.mem_cons_self), i2 fun x hx => h x (List.mem_cons_of_mem _ hx)]; rfl
    rw [h1, List.map_cons, List.sum_cons]
    have := (h2 M hn hv).1
    omega
theorem Can.vq {w : List Bs → Int} {M : List (List Bs)} (h : Can w M) : ∀ p ∈ M, VQ p := fun p hp => by
  rcases (h.mem p).1 hp with e | e
  · exact e ▸ VQ.nil
  · exact e.vq
theorem stk_sum {l : List Sym} : ∀ {ys : List Sk}, (∀ y ∈ ys, y.weight ≤ 1000000) → ((stkE l ys).map (·.2)).sum ≤ 1000000 * (ys.length : Int)
  | [], _ => by simp [stkE]
  | y :: ys, h => by
    have := stk_sum (l := l) (ys := ys) fun x hx => h x (List.mem_cons_of_mem _ hx)
    have := h y List.mem_cons_self
    simp only [stkE, List.map_cons, List.sum_cons, List.length_cons] at *
    omega
theorem fold_fits {l : List Sym} {ys : List Sk} (hl : SymsOk l) (hs : sksB ys = true) {es : List (Pth × Int)} (hW : WE es) (hP : PE es) (hlen : es.length ≤ ys.length) (hw : ∀ k, wI k es = wI k (stkE l ys)) {M : List (List Bs)} (hM : Can (fun p => wI (pth p) es) M) : fits (fun p => wI (pth p) es) M := by
  have h100 := sks_len hs
  refine ⟨?_, by have := can_len hW hP hM; omega⟩
  have e : (fun p => wI (pth p) es) = fun p => wI (pth p) (stkE l ys) := funext fun p => hw _
  rw [e]
  have h1 := sumL_wI (srt_nodup hM.srt) hM.vq (E := stkE l ys) fun x hx => by
    obtain ⟨y, hy, rfl⟩ := List.mem_map.1 hx
    have := (sks_at hs hy).2.1
    simp only; omega
  have h2 := stk_sum (l := l) (ys := ys) fun y hy => (sks_at hs hy).2.2
  omega
theorem wI_sum (k : Pth) : ∀ {E : List (Pth × Int)}, (∀ e ∈ E, 0 ≤ e.2) → 0 ≤ wI k E ∧ wI k E ≤ (E.map (·.2)).sum
  | [], _ => by simp [wI_nil]
  | e :: E, h => by
    have ih := wI_sum k (E := E) fun x hx => h x (List.mem_cons_of_mem _ hx)
    have he := h e List.mem_cons_self
    rw [wI_cons, List.map_cons, List.sum_cons]
    split <;> omega
theorem stk_bd {l : List Sym} {ys zs : List Sk} (hs : sksB ys = true) (hz : ∀ y ∈ zs, y ∈ ys) (k : Pth) : 0 ≤ wI k (stkE l zs) ∧ wI k (stkE l zs) ≤ 1000000 * (zs.length : Int) := by
  have h1 := wI_sum k (E := stkE l zs) fun x hx => by
    obtain ⟨y, hy, rfl⟩ := List.mem_map.1 hx
    have := (sks_at hs (hz y hy)).2.1
    simp only; omega
  have h2 := stk_sum (l := l) (ys := zs) fun y hy => (sks_at hs (hz y hy)).2.2
  omega
theorem es_bd {l : List Sym} {ys zs : List Sk} (hs : sksB ys = true) (hz : ∀ y ∈ zs, y ∈ ys) (hl : zs.length ≤ 100) {es : List (Pth × Int)} (hW : WE es) (hw : ∀ k, wI k es = wI k (stkE l zs)) : ∀ e ∈ es, 0 ≤ e.2 ∧ e.2 ≤ 1152921504606846976 := fun e he => by
  obtain ⟨k, n⟩ := e
  have h1 := wI_mem hW.nodup he
  have h2 := stk_bd (l := l) hs hz k
  rw [← hw, h1] at h2
  simp only
  omega
theorem ups_pe {es : List (Pth × Int)} (hP : PE es) {q : List Bs} (hq : VQ q) (v : Int) : PE (upsI (pth q) v es) := fun e he => by
  have h : e.1 ∈ (upsI (pth q) v es).map (·.1) := List.mem_map_of_mem he
  rw [ups_keys] at h
  have hes : e.1 ∈ es.map (·.1) → ∃ q, VQ q ∧ e.1 = pth q := fun h => by
    obtain ⟨x, hx, e2⟩ := List.mem_map.1 h
    obtain ⟨q, h1, h2⟩ := hP x hx
    exact ⟨q, h1, by rw [← e2, h2]⟩
  split at h
  · exact hes h
  · rcases List.mem_append.1 h with h | h
    · exact hes h
    · simp at h; exact ⟨q, hq, h⟩
theorem ups_stk {l : List Sym} {ys : List Sk} {j : Nat} {y : Sk} {es : List (Pth × Int)} (hW : WE es) (hw : ∀ k, wI k es = wI k (stkE l (ys.take j))) (hy : ys[j]? = some y) : ∀ k, wI k (upsI (pth (pathOf l y)) (wI (pth (pathOf l y)) es + y.weight) es) = wI k (stkE l (ys.take (j + 1))) := fun k => by
  rw [wI_ups _ _ _ hW.nodup, take_at hy]
  unfold stkE
  rw [List.map_append, wI_app]
  have h1 := hw k
  unfold stkE at h1
  rw [← h1]
  simp only [List.map_cons, List.map_nil, wI_cons, wI_nil]
  by_cases hk : k = pth (pathOf l y)
  · subst hk; rw [if_pos rfl, if_pos rfl]; omega
  · rw [if_neg hk, if_neg (fun e => hk e.symm)]; omega
theorem areSymbols_t (l : List Sym) (A : Option Addr) (c : Nat) (S : SH) (hA : At S A l) (hl : l.length ≤ 1000000) (b : Bool) (hb : b = true ↔ SymsOk l) :
    Con Tryz.prog 48 #[.slice A l.length c] S [] (fun S' L' r => L' = [] ∧ r = .bool b) :=
  (areSymbols_con l A c S hA hl).mono fun S' L' r _ h => by
    obtain ⟨h1, ⟨h2, h3⟩ | ⟨h2, h3⟩⟩ := h
    · exact ⟨h1, by rw [h2, hb.2 h3]⟩
    · exact ⟨h1, by rw [h2]; cases b; rfl; exact absurd (hb.1 rfl) h3⟩
theorem areStacks_t (xs : List Stk) (ys : List Sk) (A : Option Addr) (c : Nat) (S : SH) (hA : At S A xs) (hl : xs.length ≤ 1000000) (hy : SkL S xs ys) (b : Bool) (hb : sksB ys = b) :
    Con Tryz.prog 49 #[.slice A xs.length c] S [] (X.Pure S (.bool b)) := hb ▸ areStacks_con xs ys A c S hA hl hy
def FoldR (l : List Sym) (ys : List Sk) (v : Value) (ec : Int) (L' : Blocks) : Prop :=
  (SymsOk l ∧ sksB ys = true) ∧ ec = 0 ∧ (∃ M, Can (wS l ys) M ∧ Ows 51 v (nodesC (wS l ys) M) L') ∨ ¬(SymsOk l ∧ sksB ys = true) ∧ ec = 180 ∧ v = .slice none 0 0 ∧ L' = []
set_option maxHeartbeats 3200000 in
set_option maxRecDepth 10000
set_option linter.unusedVariables false
attribute [local irreducible] Code.wpIn wpListIn Exit.then Exit.inBlock X.Out X.Back X.W X.Ev X.Con X.BinV X.Wh X.Wn X.Wq
theorem fold_con (l : List Sym) (xs : List Stk) (ys : List Sk) (A B : Option Addr) (c d : Nat) (S : SH) (hA : At S A l) (hl : l.length ≤ 1000000) (hB : At S B xs) (hx : xs.length ≤ 1000000) (hy : SkL S xs ys) :
    Con Tryz.prog 20 #[.slice A l.length c, .slice B xs.length d] S [] (fun _ L' r => ∃ v ec, r = .tuple #[.agg #[v], .int .i64 ec] ∧ FoldR l ys v ec L') := by
  refine con_of (args := [.slice A l.length c, .slice B xs.length d]) Tryz.func20 rfl Tryz.ntmps20 rfl fun w => ?_
  have hxy := hy.1
  by_cases hs : SymsOk l
  rotate_left
  · (repeat (first | refine Jc ?_ | (apply s_call; (case hg => rfl); (case hd => rfl); (case ha => rfl); (case hc => exact areSymbols_t l A c _ hA hl false ⟨fun h => absurd h Bool.false_ne_true, fun h => absurd h hs⟩); (case hL => (repeat (first | exact pm_nil _ | exact pm_refl _ _ | exact pm_self _ | apply pm_cons | apply pm_app))); rintro S1 _ _ hle1 ⟨rfl, rfl⟩) | refine Jo ?_ | intro _))
    exact o_ret_c2 (L' := []) (sz := 1) (cs := [.slice none 0 0]) Tryz.results20 rfl rfl (by (repeat (first | exact List.Mem.head _ | apply List.Mem.tail | apply List.mem_append_right))) rfl (List.nil_sublist _) ⟨_, _, rfl, .inr ⟨fun h => hs h.1, rfl, rfl, rfl⟩⟩
  cases hk : sksB ys
  · (repeat (first | refine Jc ?_ | (apply s_call; (case hg => rfl); (case hd => rfl); (case ha => rfl); (case hc => exact areSymbols_t l A c _ hA hl true ⟨fun _ => hs, fun _ => rfl⟩); (case hL => (repeat (first | exact pm_nil _ | exact pm_refl _ _ | exact pm_self _ | apply pm_cons | apply pm_app))); rintro S1 _ _ hle1 ⟨rfl, rfl⟩) | (apply s_call; (case hg => rfl); (case hd => rfl); (case ha => rfl); (case hc => exact areStacks_t xs ys B d _ (hB.le hle1) hx (hy.le hle1) _ hk); (case hL => (repeat (first | exact pm_nil _ | exact pm_refl _ _ | exact pm_self _ | apply pm_cons | apply pm_app))); rintro _ _ _ hle2 ⟨rfl, rfl, rfl⟩) | refine Jo ?_ | intro _))
    exact o_ret_c2 (L' := []) (sz := 1) (cs := [.slice none 0 0]) Tryz.results20 rfl rfl (by (repeat (first | exact List.Mem.head _ | apply List.Mem.tail | apply List.mem_append_right))) rfl (List.nil_sublist _) ⟨_, _, rfl, .inr ⟨fun h => Bool.false_ne_true (hk.symm.trans h.2), rfl, rfl, rfl⟩⟩
  (repeat (first | refine Jc ?_ | (apply s_call; (case hg => rfl); (case hd => rfl); (case ha => rfl); (case hc => exact areSymbols_t l A c _ hA hl true ⟨fun _ => hs, fun _ => rfl⟩); (case hL => (repeat (first | exact pm_nil _ | exact pm_refl _ _ | exact pm_self _ | apply pm_cons | apply pm_app))); rintro S1 _ _ hle1 ⟨rfl, rfl⟩) | (apply s_call; (case hg => rfl); (case hd => rfl); (case ha => rfl); (case hc => exact areStacks_t xs ys B d _ (hB.le hle1) hx (hy.le hle1) _ hk); (case hL => (repeat (first | exact pm_nil _ | exact pm_refl _ _ | exact pm_self _ | apply pm_cons | apply pm_app))); rintro _ _ _ hle2 ⟨rfl, rfl, rfl⟩) | (apply s_makeMap; (case hg => rfl); (case hd => rfl); intro bm) | refine Jo ?_ | intro _))
  rename_i b4
  have h100 := sks_len hk
  refine c_loop (fun m S' L F => Le S1 S' ∧ ∃ (j : Nat) (es : List (Pth × Int)), m = xs.length - j ∧ j ≤ xs.length ∧ WE es ∧ PE es ∧ es.length ≤ j ∧ (∀ k, wI k es = wI k (stkE l (ys.take j))) ∧
      L = [(bm, mapGO (iE es)), (b4, .cells [.slice none 0 0].toArray 24 (0, 0))] ∧
      F = [(0, .slice A l.length c), (4, .pointer (some ⟨b4, 0, none⟩)), (6, .map (some bm)), (24, .slice B xs.length d), (25, .int .i64 xs.length), (26, .int .i64 j)]) ⟨Le.refl _, 0, [], rfl, by omega, WE.nil, (fun e h => absurd h List.not_mem_nil), Nat.le_refl _, (fun k => rfl), rfl, rfl⟩ sbF (List.Sublist.refl _) ?_
  rintro m S' L F ⟨hle3, j, es, rfl, hj, hW, hP, hel, hw, rfl, rfl⟩
  have hA3 := (hA.le hle1).le hle3
  have hB3 := (hB.le hle1).le hle3
  have hy3 := (hy.le hle1).le hle3
  by_cases hlt : j < xs.length
  rotate_left
  · have hb : ∀ e ∈ es, 0 ≤ e.2 ∧ e.2 ≤ 1152921504606846976 := es_bd hk (fun y hy => List.mem_of_mem_take hy) (by rw [List.length_take]; omega) hW hw
    rw [List.take_of_length_le (by omega)] at hw
    have hwe : (fun p => wI (pth p) es) = wS l ys := funext fun p => hw _
    have hfin : ∀ (v : Value) (ok : Bool) (L5 : Blocks), ((∃ e ∈ es, e.2 < 0) ∧ ok = false ∧ v = .slice none 0 0 ∧ L5 = [] ∨ (∀ e ∈ es, 0 ≤ e.2) ∧ ∃ M, Can (fun p => wI (pth p) es) M ∧ (fits (fun p => wI (pth p) es) M ∧ ok = true ∧ Ows 51 v (nodesC (fun p => wI (pth p) es) M) L5 ∨ ¬ fits (fun p => wI (pth p) es) M ∧ ok = false ∧ v = .slice none 0 0 ∧ L5 = [])) → ok = true ∧ ∃ M, Can (wS l ys) M ∧ Ows 51 v (nodesC (wS l ys) M) L5 := fun v ok L5 hres => by
      rcases hres with ⟨⟨e, he, hneg⟩, _⟩ | ⟨_, M, hM, h | ⟨h, _⟩⟩
      · have := (hb e he).1; omega
      · obtain ⟨_, h2, h3⟩ := h
        rw [hwe] at h3 hM
        exact ⟨h2, M, hM, h3⟩
      · exact absurd (fold_fits hs hk hW hP (by omega) hw hM) h
    (repeat (first | refine Jc ?_ | (apply s_call; (case hg => rfl); (case hd => rfl); (case ha => rfl); (case hc => exact tree_can bm es _ hW (by omega) hP (fun e he => (hb e he).2)); (case hL => (repeat (first | exact pm_nil _ | exact pm_refl _ _ | exact pm_self _ | apply pm_cons | apply pm_app))); rintro S5 L5 _ hle5 ⟨v, ok, rfl, hres⟩); obtain ⟨rfl, M, hM, ho⟩ := hfin v ok L5 hres; obtain ⟨Av, cv, rfl⟩ := ho.form | refine Jo ?_ | intro _))
    exact o_ret_c2 (L' := L5) (sz := 1) (cs := [.slice Av (nodesC (wS l ys) M).length cv]) Tryz.results20 rfl rfl (by (repeat (first | exact List.Mem.head _ | apply List.Mem.tail | apply List.mem_append_right))) rfl sbL ⟨_, _, rfl, .inl ⟨⟨hs, hk⟩, rfl, M, hM, ho⟩⟩
  obtain ⟨x, hx1⟩ : ∃ x, xs[j]? = some x := ⟨_, List.getElem?_eq_getElem hlt⟩
  obtain ⟨y, hy1⟩ : ∃ y, ys[j]? = some y := ⟨_, List.getElem?_eq_getElem (by omega)⟩
  obtain ⟨r1, r2, r3, r4, r5⟩ := hy3.2 j x y hx1 hy1
  have hym := List.mem_of_getElem? hy1
  have hvq := pathOf_vq hs hk hym
  obtain ⟨w1, w2, w3⟩ := sks_at hk hym
  have hpl : (pathOf l y).length = y.frames.length := by simp [pathOf]
  obtain ⟨xv, ⟨xa, xm, xc⟩, xw⟩ := x
  simp only at r1 r2 r3 r4 r5
  subst r1; subst r2; subst r3
  (repeat (first | refine Jc ?_ | (apply s_idx hB3; (case hg => rfl); (case hd => rfl); (case hx => rfl); (case hi => rfl); (case hm => rfl); (case hu => exact hx1); intro q (hq : Pts _ q [.int .i64 y.version, .slice xa y.frames.length xc, .int .i64 y.weight])) | (apply s_load_ag; (case hg => rfl); (case hd => rfl); (case hx => rfl); (case hv => exact hq); (case hl => rfl)) | refine Jo ?_ | intro _))
  rename_i bs bp
  refine c_loop (fun m S2 L F => Le S' S2 ∧ ∃ (k : Nat), m = y.frames.length - k ∧ k ≤ y.frames.length ∧
      L = [(bp, .cells ((pad ((pathOf l y).take k)).map strV).toArray 87 (0, 0)), (bs, .cells [.int .i64 y.version, .slice xa y.frames.length xc, .int .i64 y.weight].toArray 49 (0, 0)), (bm, mapGO (iE es)), (b4, .cells [.slice none 0 0].toArray 24 (0, 0))] ∧
      F = [(0, .slice A l.length c), (4, .pointer (some ⟨b4, 0, none⟩)), (6, .map (some bm)), (8, .pointer (some ⟨bs, 0, none⟩)), (9, .pointer (some ⟨bp, 0, none⟩)), (24, .slice B xs.length d), (25, .int .i64 xs.length), (26, .int .i64 j), (31, .slice xa y.frames.length xc), (32, .int .i64 y.frames.length), (33, .int .i64 k)]) ⟨Le.refl _, 0, rfl, by omega, rfl, rfl⟩ sbF (List.Sublist.refl _) ?_
  rintro m S2 L F ⟨hle4, k, rfl, hk1, rfl, rfl⟩
  by_cases hkl : k < y.frames.length
  · obtain ⟨a, ha⟩ : ∃ a, y.frames[k]? = some a := ⟨_, List.getElem?_eq_getElem hkl⟩
    have hpa : (pathOf l y)[k]? = some (namedV l y.version a) := by simp [pathOf, ha]
    have htl : ((pathOf l y).take k).length = k := by rw [List.length_take]; omega
    have htk := take_at hpa
    have hset : ((pad ((pathOf l y).take k)).map strV).set k (strV (namedV l y.version a)) = (pad ((pathOf l y).take (k + 1))).map strV := by
      have := pad_setV (q := (pathOf l y).take k) (by omega) (namedV l y.version a)
      rw [htl] at this; rw [this, htk]
    have hfree : ((pad ((pathOf l y).take k)).map strV)[k]? = some (strV []) := by
      have := pad_free (q := (pathOf l y).take k) (by omega)
      rwa [htl] at this
    (repeat (first | refine Jc ?_ | (apply s_idx (r5.le hle4); (case hg => rfl); (case hd => rfl); (case hx => rfl); (case hi => rfl); (case hm => rfl); (case hu => exact ha); intro q2 (hq2 : Pts _ q2 [.int .i64 a])) | (apply s_load1; (case hg => rfl); (case hd => rfl); (case hx => rfl); (case hv => exact hq2)) | (apply s_call; (case hg => rfl); (case hd => rfl); (case ha => rfl); (case hc => exact named_con l A c y.version a _ (hA3.le hle4) hl); (case hL => (repeat (first | exact pm_nil _ | exact pm_refl _ _ | exact pm_self _ | apply pm_cons | apply pm_app))); rintro S6 _ _ hle6 ⟨rfl, rfl⟩) | (apply s_evb; (case hg => rfl); (case hd => rfl); (case hn => rfl); (case he => ((apply ev_idxa1; (case hx => rfl); (case hi => rfl); (case hk => omega))))) | (apply s_store (u := strV []); (case hg => rfl); (case hx => rfl); (case hy => rfl); (case h1 => rfl); (case hL => (rw [hset]; (repeat (first | exact Upd.head | apply Upd.tail | apply Upd.app)))); (case hu => exact hfree)) | refine Jo ?_ | intro _))
    exact q_back (m' := y.frames.length - (k + 1)) (L' := [(bp, .cells ((pad ((pathOf l y).take (k + 1))).map strV).toArray 87 (0, 0)), (bs, .cells [.int .i64 y.version, .slice xa y.frames.length xc, .int .i64 y.weight].toArray 49 (0, 0)), (bm, mapGO (iE es)), (b4, .cells [.slice none 0 0].toArray 24 (0, 0))]) ⟨hle4.trans hle6, k + 1, rfl, by omega, rfl, rfl⟩ (by omega) sbF sbL
  · obtain rfl : k = y.frames.length := by omega
    rw [List.take_of_length_le (by omega)]
    have hpl3 : ((pad (pathOf l y)).map strV).length = 12 := pad_lenV hvq.1
    have hok : KC.ok (pth (pathOf l y)) := pad_len hvq.1
    have hbd := stk_bd (l := l) hk (zs := ys.take j) (fun y hy => List.mem_of_mem_take hy) (pth (pathOf l y))
    rw [← hw] at hbd
    have htl : (ys.take j).length ≤ 100 := by rw [List.length_take]; omega
    (repeat (first | refine Jz ?_ | intro _))
    ((apply c_held ([(bp, .cells ((pad (pathOf l y)).map strV).toArray 87 (0, 0)), (bs, .cells [.int .i64 y.version, .slice xa y.frames.length xc, .int .i64 y.weight].toArray 49 (0, 0))]); (case hL => (exact sbT))); refine Jf 0 ?_; (apply h_first 1; (case hi => rfl); (case hr => kernel_rfl); (case hfr => kernel_rfl); (case hsel => kernel_rfl); (case hg => rfl); (case hd => rfl); (case he => (apply ev_load_own_ag; (case hx => rfl); (case hm => (repeat (first | exact List.Mem.head _ | apply List.Mem.tail | apply List.mem_append_right))); (case hl => exact hpl3)))); refine Jf 3 ?_; refine Jf 4 ?_; (apply h_two 2 6; (case hr => kernel_rfl)); (case k1 => ((first | (apply n_ev; (case hi => rfl); (case hg => rfl); (case hd => rfl); (case he => (apply ev_lookI (κ := Pth) (es := es) (key := pth (pathOf l y)) (v := wI (pth (pathOf l y)) es) hW hok rfl; (case hx => rfl); (case hy => rfl); (case hm => (repeat (first | exact List.Mem.head _ | apply List.Mem.tail | apply List.mem_append_right)))))) | (apply n_ev; (case hi => rfl); (case hg => rfl); (case hd => rfl); (case he => (apply ev_lookI (κ := Pth) (es := upsI (pth (pathOf l y)) (wI (pth (pathOf l y)) es) es) (key := pth (pathOf l y)) (v := wI (pth (pathOf l y)) es) (hW.ups hok _) hok (by rw [wI_ups _ _ _ hW.nodup, if_pos rfl]); (case hx => rfl); (case hy => rfl); (case hm => (repeat (first | exact List.Mem.head _ | apply List.Mem.tail | apply List.mem_append_right))))))); refine Jf 5 ?_; (apply h_one 6; (case hr => kernel_rfl)); (apply n_mapEntryI (κ := Pth) (es := es) (key := pth (pathOf l y)) (v := wI (pth (pathOf l y)) es) hW hok rfl; (case hi => rfl); (case i1 => infer_instance); (case i2 => infer_instance); (case hz => infer_instance); (case hg => rfl); (case hd => rfl); (case hx => rfl); (case hy => rfl); (case hL => (repeat (first | exact Upd.head | apply Upd.tail | apply Upd.app))); (case hsub => (intros; (exact sbT))); intro je hje); refine Jf 7 ?_; (apply h_one 8; (case hr => kernel_rfl)); (apply n_entryStoreI (κ := Pth) hje; (case hi => rfl); (case hg => rfl); (case hx => rfl); (case hy => rfl); (case hz => rfl); (case hL => (repeat (first | exact Upd.head | apply Upd.tail | apply Upd.app))); (case hsub => (intros; (exact sbT)))); (apply h_end; (case hr => kernel_rfl)); (((repeat (first | refine Jz ?_ | intro _))); exact q_back (L' := [(bm, mapGO (iE (upsI (pth (pathOf l y)) (wI (pth (pathOf l y)) es + y.weight) es))), (b4, .cells [.slice none 0 0].toArray 24 (0, 0))]) (m' := xs.length - (j + 1)) (⟨hle3.trans hle4, j + 1, _, rfl, by omega, hW.ups hok _, (ups_pe hP hvq _), (by have := ups_len (pth (pathOf l y)) (wI (pth (pathOf l y)) es + y.weight) es; omega), (ups_stk hW hw hy1), rfl, rfl⟩) (by omega) sbF sbL))); (case k2 => ((apply n_mapEntryI (κ := Pth) (es := es) (key := pth (pathOf l y)) (v := wI (pth (pathOf l y)) es) hW hok rfl; (case hi => rfl); (case i1 => infer_instance); (case i2 => infer_instance); (case hz => infer_instance); (case hg => rfl); (case hd => rfl); (case hx => rfl); (case hy => rfl); (case hL => (repeat (first | exact Upd.head | apply Upd.tail | apply Upd.app))); (case hsub => (intros; (exact sbT))); intro je hje); refine Jf 7 ?_; (apply h_one 2; (case hr => kernel_rfl)); (first | (apply n_ev; (case hi => rfl); (case hg => rfl); (case hd => rfl); (case he => (apply ev_lookI (κ := Pth) (es := es) (key := pth (pathOf l y)) (v := wI (pth (pathOf l y)) es) hW hok rfl; (case hx => rfl); (case hy => rfl); (case hm => (repeat (first | exact List.Mem.head _ | apply List.Mem.tail | apply List.mem_append_right)))))) | (apply n_ev; (case hi => rfl); (case hg => rfl); (case hd => rfl); (case he => (apply ev_lookI (κ := Pth) (es := upsI (pth (pathOf l y)) (wI (pth (pathOf l y)) es) es) (key := pth (pathOf l y)) (v := wI (pth (pathOf l y)) es) (hW.ups hok _) hok (by rw [wI_ups _ _ _ hW.nodup, if_pos rfl]); (case hx => rfl); (case hy => rfl); (case hm => (repeat (first | exact List.Mem.head _ | apply List.Mem.tail | apply List.mem_append_right))))))); refine Jf 5 ?_; (apply h_one 8; (case hr => kernel_rfl)); (apply n_entryStoreI (κ := Pth) hje; (case hi => rfl); (case hg => rfl); (case hx => rfl); (case hy => rfl); (case hz => rfl); (case hL => (repeat (first | exact Upd.head | apply Upd.tail | apply Upd.app))); (case hsub => (intros; (exact sbT)))); (apply h_end; (case hr => kernel_rfl)); (((repeat (first | refine Jz ?_ | intro _))); exact q_back (L' := [(bm, mapGO (iE (upsI (pth (pathOf l y)) (wI (pth (pathOf l y)) es + y.weight) es))), (b4, .cells [.slice none 0 0].toArray 24 (0, 0))]) (m' := xs.length - (j + 1)) (⟨hle3.trans hle4, j + 1, _, rfl, by omega, hW.ups hok _, (ups_pe hP hvq _), (by have := ups_len (pth (pathOf l y)) (wI (pth (pathOf l y)) es + y.weight) es; omega), (ups_stk hW hw hy1), rfl, rfl⟩) (by omega) sbF sbL))))
end Go.Proofs.YtcnfchchanlepaaGreat
namespace Go.Proofs.YtcnfchchanlepaaGreat
open Go Go.X
set_option maxRecDepth 10000
set_option linter.unusedVariables false
attribute [local irreducible] Code.wpIn wpListIn Exit.then Exit.inBlock X.Out X.Back X.W X.Ev X.Con X.BinV X.Wh X.Wn X.Wq
instance : Nd4 Tryz.prog 51 := ⟨_, _, _, _, Tryz.underlying51, by kernel_rfl, ⟨by decide, by decide, by decide, by decide⟩, ⟨rfl, rfl, rfl, rfl⟩, Tryz.underlying3, Tryz.underlying9, Tryz.underlying3, Tryz.underlying3⟩
instance : Ng Tryz.prog 51 := ⟨by kernel_rfl⟩
instance : Ng Tryz.prog 87 := ⟨by kernel_rfl⟩
def ndB (a b : Nd) : Bool := eq4 a.parent a.name a.own a.total b.parent b.name b.own b.total
theorem ndB_iff (a b : Nd) : ndB a b = true ↔ a = b := by
  obtain ⟨p, s, o, u⟩ := a
  obtain ⟨p', s', o', u'⟩ := b
  simp [ndB, eq4]
theorem equal_con (a b : List Nd) (A B : Option Addr) (c d : Nat) (S : SH) (hA : At S A a) (hB : At S B b) (ha : a.length ≤ 1000000) (hb : b.length ≤ 1000000) (r : Bool) (hr : r = true ↔ a = b) :
    Con Tryz.prog 47 #[.slice A a.length c, .slice B b.length d] S [] (X.Pure S (.bool r)) := by
  refine con_of (args := [.slice A a.length c, .slice B b.length d]) Tryz.func47 rfl Tryz.ntmps47 rfl fun w => ?_
  by_cases hl : a.length = b.length
  rotate_left
  · obtain rfl : r = false := by cases r; rfl; exact absurd (congrArg List.length (hr.1 rfl)) hl
    (repeat (first | refine Jz ?_ | intro _))
    exact o_ret Tryz.results47 rfl (List.nil_sublist _) ⟨rfl, rfl, rfl⟩
  (repeat (first | refine Jz ?_ | intro _))
  refine c_loop (fun m S' L F => S' = S ∧ L = [] ∧ ∃ (k : Nat), m = a.length - k ∧ k ≤ a.length ∧ a.take k = b.take k ∧
      F = [(0, .slice A a.length c), (1, .slice B b.length d), (12, .int .i64 a.length), (13, .int .i64 k)]) ⟨rfl, rfl, 0, rfl, by omega, rfl, rfl⟩ sbF (List.nil_sublist _) ?_
  rintro m S' L F ⟨rfl, rfl, k, rfl, hk, hi, rfl⟩
  by_cases hlt : k < a.length
  rotate_left
  · obtain rfl : r = true := hr.2 (by rw [List.take_of_length_le (by omega), List.take_of_length_le (by omega)] at hi; exact hi)
    (repeat (first | refine Jz ?_ | intro _))
    exact o_ret Tryz.results47 rfl (List.nil_sublist _) ⟨rfl, rfl, rfl⟩
  obtain ⟨x, hx⟩ := at_lt hlt
  obtain ⟨y, hy⟩ : ∃ y, b[k]? = some y := at_lt (by omega)
  cases he : ndB x y
  all_goals (repeat (first | refine Jz ?_ | intro _))
  all_goals ((apply c_held ([]); (case hL => (exact sbT))); refine Jf 0 ?_; refine Jf 1 ?_; (apply h_idx hA 2; (case hi => rfl); (case hr => kernel_rfl); (case hfr => kernel_rfl); (case hsel => kernel_rfl); (case hg => rfl); (case hd => rfl); (case i1 => infer_instance); (case i2 => infer_instance); (case hx => rfl); (case hy => rfl); (case hm => rfl); (case hu => exact hx); intro q (hq : Pts _ q [.int .i64 x.parent, strV x.name, .int .i64 x.own, .int .i64 x.total])); (apply h_first 3; (case hi => rfl); (case hr => kernel_rfl); (case hfr => kernel_rfl); (case hsel => kernel_rfl); (case hg => rfl); (case hd => rfl); (case he => (apply ev_load_ag; (case hx => rfl); (case h => exact hq); (case hl => rfl)))); refine Jf 4 ?_; refine Jf 5 ?_; (apply h_idx hB 6; (case hi => rfl); (case hr => kernel_rfl); (case hfr => kernel_rfl); (case hsel => kernel_rfl); (case hg => rfl); (case hd => rfl); (case i1 => infer_instance); (case i2 => infer_instance); (case hx => rfl); (case hy => rfl); (case hm => rfl); (case hu => exact hy); intro q2 (hq2 : Pts _ q2 [.int .i64 y.parent, strV y.name, .int .i64 y.own, .int .i64 y.total])); (apply h_first 7; (case hi => rfl); (case hr => kernel_rfl); (case hfr => kernel_rfl); (case hsel => kernel_rfl); (case hg => rfl); (case hd => rfl); (case he => (apply ev_load_ag; (case hx => rfl); (case h => exact hq2); (case hl => rfl)))); (apply h_first 8; (case hi => rfl); (case hr => kernel_rfl); (case hfr => kernel_rfl); (case hsel => kernel_rfl); (case hg => rfl); (case hd => rfl); (case he => (apply ev_neq4; (case hx => rfl); (case hy => rfl); (case hr => (rw [show eq4 x.parent x.name x.own x.total y.parent y.name y.own y.total = _ from he]))))); (apply h_end; (case hr => kernel_rfl)))
  all_goals (repeat (first | refine Jz ?_ | intro _))
  · obtain rfl : r = false := by
      cases r; rfl
      have hab := hr.1 rfl
      rw [hab, hy] at hx
      exact absurd ((ndB_iff x y).2 (Option.some.inj hx).symm) (by rw [he]; exact Bool.false_ne_true)
    exact o_ret Tryz.results47 rfl (List.nil_sublist _) ⟨rfl, rfl, rfl⟩
  · exact q_back (L' := []) (m' := a.length - (k + 1)) ⟨rfl, rfl, k + 1, rfl, by omega, by rw [take_at hx, take_at hy, hi, (ndB_iff x y).1 he], rfl⟩ (by omega) sbF (List.nil_sublist _)
theorem same_con (a b : List Nd) (A B : Option Addr) (c d : Nat) (S : SH) (hA : At S A a) (hB : At S B b) (ha : a.length ≤ 1000000) (hb : b.length ≤ 1000000) (r : Bool) (hr : r = true ↔ a = b) :
    Con Tryz.prog 19 #[.agg #[.slice A a.length c], .agg #[.slice B b.length d]] S [] (X.Pure S (.bool r)) := by
  refine con_of (args := [.agg #[.slice A a.length c], .agg #[.slice B b.length d]]) Tryz.func19 rfl Tryz.ntmps19 rfl fun w => ?_
  (repeat (first | refine Jc ?_ | (apply z_call; rfl; rfl; rfl; exact equal_con a b A B c d _ hA hB ha hb r hr; rintro _ _ _ - ⟨rfl, rfl, rfl⟩) | refine Jo ?_ | intro _))
  exact o_ret Tryz.results19 rfl (List.nil_sublist _) ⟨rfl, rfl, rfl⟩
end Go.Proofs.YtcnfchchanlepaaGreat
namespace Go.Proofs.YtcnfchchanlepaaGreat
open Go Go.X
/-- A path that lies in a slice of paths. -/
structure P12 where
  l : List Bs
  h : l.length = 12
instance : Inhabited P12 := ⟨⟨List.replicate 12 [], by simp⟩⟩
instance : Cl P12 := ⟨12, fun x => x.l.map strV, fun x => by rw [List.length_map]; exact x.h, fun x u hu => by obtain ⟨y, _, rfl⟩ := List.mem_map.1 hu; rfl⟩
def p12 (q : List Bs) : P12 := ⟨(pad q).take 12, by rw [List.length_take]; simp [pad]; omega⟩
theorem p12_l {q : List Bs} (h : q.length ≤ 12) : (p12 q).l = pad q := by
  unfold p12
  simp only
  exact List.take_of_length_le (by rw [pad_len h]; exact Nat.le_refl _)
theorem p12_cells {q : List Bs} (h : q.length ≤ 12) : Cl.cells (p12 q) = (pad q).map strV := by
  show (p12 q).l.map strV = _
  rw [p12_l h]
theorem rep_lt : ∀ (p q : List Bs) (m n : Nat), (∀ x ∈ p, x ≠ []) → (∀ x ∈ q, x ≠ []) → p.length + m = q.length + n → (p ++ List.replicate m [] < q ++ List.replicate n [] ↔ p < q)
  | [], [], m, n, _, _, h => by
    obtain rfl : m = n := by simpa using h
    exact ⟨fun h => absurd h (plt_irr _), fun h => absurd h (plt_irr _)⟩
  | [], b :: q, m, n, _, hq, h => by
    obtain ⟨m', rfl⟩ : ∃ m', m = m' + 1 := ⟨m - 1, by simp at h; omega⟩
    have hb := hq b List.mem_cons_self
    refine ⟨fun _ => List.nil_lt_cons _ _, fun _ => ?_⟩
    rw [List.nil_append, List.replicate_succ, List.cons_append]
    refine plt_cons.2 (.inl ?_)
    cases b with
    | nil => exact absurd rfl hb
    | cons c b => exact List.nil_lt_cons _ _
  | a :: p, [], m, n, hp, _, h => by
    obtain ⟨n', rfl⟩ : ∃ n', n = n' + 1 := ⟨n - 1, by simp at h; omega⟩
    have ha := hp a List.mem_cons_self
    refine ⟨fun h => ?_, fun h => absurd h (List.not_lt_nil _)⟩
    rw [List.nil_append, List.replicate_succ, List.cons_append] at h
    rcases plt_cons.1 h with h | ⟨h, _⟩
    · exact absurd h (List.not_lt_nil _)
    · exact absurd h ha
  | a :: p, b :: q, m, n, hp, hq, h => by
    rw [List.cons_append, List.cons_append, plt_cons, plt_cons, rep_lt p q m n (fun x hx => hp x (List.mem_cons_of_mem _ hx)) (fun x hx => hq x (List.mem_cons_of_mem _ hx)) (by simp at h; omega)]
theorem pad_lt {p q : List Bs} (hp : VQ p) (hq : VQ q) : pad p < pad q ↔ p < q := rep_lt p q _ _ hp.2 hq.2 (by have := hp.1; have := hq.1; omega)
theorem pad_cmp {p q : List Bs} (hp : VQ p) (hq : VQ q) : cmpP (pad p) (pad q) < 0 ↔ p < q := by
  rw [cmpP_lt, ← pad_lt hp hq]
  by_cases h : pad p < pad q
  · simp [h]
  · by_cases h2 : pad q < pad p <;> simp [h, h2]
/-- Whether a node's numbers can be. -/
def rdOk (i : Nat) (n : Nd) : Bool := inB n.own 0 1125899906842624 && (inB n.total (if i = 0 then 0 else 1) 1125899906842624 && decide (n.own ≤ n.total))
/-- One node is read: the paths so far, and what of each total is not given to a kid yet. -/
def rdNext (i : Nat) (n : Nd) (ps : List (List Bs)) (rs : List Int) : Option (List (List Bs) × List Int) :=
  if rdOk i n = false then none
  else if i = 0 then some (ps, rs ++ [n.total - n.own])
  else if n.parent < 0 ∨ (i : Int) ≤ n.parent then none
  else if n.name ≠ [63] ∧ nameB n.name = false then none
  else if (rs ++ [n.total - n.own]).getD n.parent.toNat 0 < n.total then none
  else if 12 ≤ (ps.getD n.parent.toNat []).length then none
  else if ps.getD (i - 1) [] < ps.getD n.parent.toNat [] ++ [n.name] then
    some (ps ++ [ps.getD n.parent.toNat [] ++ [n.name]], (rs ++ [n.total - n.own]).set n.parent.toNat ((rs ++ [n.total - n.own]).getD n.parent.toNat 0 - n.total))
  else none
def rdAll : List Nd → Nat → List (List Bs) → List Int → Option (List (List Bs) × List Int)
  | [], _, ps, rs => some (ps, rs)
  | n :: r, i, ps, rs => (rdNext i n ps rs).bind fun st => rdAll r (i + 1) st.1 st.2
def rdTop (ns : List Nd) : Prop := 1 ≤ ns.length ∧ ns.length ≤ 2000 ∧ (ns.getD 0 ⟨0, [], 0, 0⟩).parent = -1 ∧ (ns.getD 0 ⟨0, [], 0, 0⟩).name = []
instance (ns : List Nd) : Decidable (rdTop ns) := by unfold rdTop; infer_instance
def readF (ns : List Nd) : Option (List (List Bs) × List Int) := if rdTop ns then rdAll ns 0 [[]] [] else none
/-- The state of a scan after k nodes. -/
structure RdSt (k : Nat) (ps : List (List Bs)) (rs : List Int) : Prop where
  lp : ps.length = max k 1
  lr : rs.length = k
  vq : ∀ p ∈ ps, VQ p
  bd : ∀ r ∈ rs, 0 ≤ r ∧ r ≤ 1125899906842624
theorem rd_name {s : Bs} (h : ¬ (s ≠ [63] ∧ nameB s = false)) : s ≠ [] := fun e => h (by subst e; exact ⟨by simp, by decide⟩)
theorem rdNext_st {k : Nat} {n : Nd} {ps ps' : List (List Bs)} {rs rs' : List Int} (h : RdSt k ps rs) (hn : rdNext k n ps rs = some (ps', rs')) : RdSt (k + 1) ps' rs' := by
  unfold rdNext at hn
  split at hn
  · cases hn
  rename_i h1
  have hok : inB n.own 0 1125899906842624 = true ∧ inB n.total (if k = 0 then 0 else 1) 1125899906842624 = true ∧ n.own ≤ n.total := by
    simp only [Bool.not_eq_false] at h1
    unfold rdOk at h1
    simpa only [Bool.and_eq_true, decide_eq_true_eq] using h1
  obtain ⟨o1, o2, o3⟩ := hok
  unfold inB at o1 o2
  simp only [decide_eq_true_eq] at o1 o2
  have hbd : ∀ r ∈ rs ++ [n.total - n.own], 0 ≤ r ∧ r ≤ 1125899906842624 := fun r hr => by
    rcases List.mem_append.1 hr with hr | hr
    · exact h.bd r hr
    · simp at hr; subst hr; omega
  have hlp := h.lp
  have hlr := h.lr
  split at hn
  · rename_i hk
    simp only [Option.some.injEq, Prod.mk.injEq] at hn
    obtain ⟨rfl, rfl⟩ := hn
    exact ⟨by omega, by simp [hlr], h.vq, hbd⟩
  rename_i hk
  split at hn
  · cases hn
  rename_i h2
  split at hn
  · cases hn
  rename_i h3
  split at hn
  · cases hn
  rename_i h4
  split at hn
  · cases hn
  rename_i h5
  split at hn
  rotate_left
  · cases hn
  simp only [Option.some.injEq, Prod.mk.injEq] at hn
  obtain ⟨rfl, rfl⟩ := hn
  have hj : n.parent.toNat < ps.length := by omega
  have hpv : VQ (ps.getD n.parent.toNat []) := by
    rw [List.getD_eq_getElem?_getD, List.getElem?_eq_getElem hj]
    exact h.vq _ (List.getElem_mem hj)
  refine ⟨by simp; omega, by simp [hlr], fun p hp => ?_, fun r hr => ?_⟩
  · rcases List.mem_append.1 hp with hp | hp
    · exact h.vq p hp
    · simp only [List.mem_singleton] at hp
      subst hp
      exact hpv.snoc (by omega) (rd_name h3)
  · rcases List.mem_or_eq_of_mem_set hr with hr | hr
    · exact hbd r hr
    · have hj2 : n.parent.toNat < (rs ++ [n.total - n.own]).length := by simp; omega
      have := hbd _ (List.getElem_mem hj2)
      rw [List.getD_eq_getElem?_getD, List.getElem?_eq_getElem hj2] at hr h4
      simp only [Option.getD_some] at hr h4
      have := o2.1
      have : 0 ≤ n.total := by split at this <;> omega
      omega
end Go.Proofs.YtcnfchchanlepaaGreat
