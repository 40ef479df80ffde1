/- Contracts of functions of this program, each proved by a walk through its code, and plain lemmas on what they compute; on no condition beyond those that each theorem states. -/
import Derived.Test.YtdbkjegpeoopaaaBa
import Derived.Test.YtdbkjegpeoopaaaX
import Derived.Test.YtdbkjegpeoopaaaPShelf
namespace Go.Proofs.Ytdbkjegpeoopaaa
open Go Go.X
set_option maxRecDepth 10000
set_option linter.unusedVariables false
attribute [local irreducible] Code.wpIn wpListIn Exit.then Exit.inBlock X.Out X.Back X.W X.Ev X.Con X.BinV X.Wh X.Wn X.Wq
abbrev le_ : Int → Int → Bool := fun x y => decide (x ≤ y)
theorem take_at {α : Type} {l : List α} {k : Nat} {x : α} (h : l[k]? = some x) : l.take (k + 1) = l.take k ++ [x] := by rw [List.take_add_one, h]; rfl
theorem at_lt {α : Type} {l : List α} {k : Nat} (h : k < l.length) : ∃ x, l[k]? = some x := ⟨l[k], List.getElem?_eq_getElem h⟩
theorem Values_con (ks : List Int) (A : Option Addr) (c : Nat) (S : SH) : Con Try.prog 40 #[.slice A ks.length c] S [] (fun S' L' v => L' = [] ∧ ∃ p, v = .func (.func 47) #[] #[.pointer (some p)] ∧ Pts S' p [.slice A ks.length c]) := by
  refine con_of (args := [.slice A ks.length c]) Try.func40 rfl Try.ntmps40 rfl fun w => ?_
  (repeat (first | refine Jz ?_ | intro _))
  refine W.freeze fun S1 hle1 hb1 => ?_
  exact o_ret Try.results40 rfl (by repeat (first | exact List.Sublist.refl _ | exact List.Sublist.slnil | exact List.nil_sublist _ | exact List.sublist_append_left _ _ | refine List.Sublist.cons_cons _ ?_ | refine List.Sublist.append (List.Sublist.refl _) ?_ | refine List.Sublist.cons _ ?_ | refine List.Sublist.trans ?_ (List.sublist_append_right _ _))) ⟨rfl, _, rfl, pts_block hb1 (by simp)⟩
theorem vals_con {l r : Nat} {fn : FuncId} {tmps : Array Value} {ps : Array Tmp} {assign body : Code} (hps : ps.size = 1) (I : List Int → Blocks → Prop) (hI : ∀ x L, I x L → (l, rec0 fn tmps ps assign body r .ready none) ∈ L)
    (ks : List Int) (A : Option Addr) (c : Nat) (S : SH) (p : Addr) (hp : Pts S p [.slice A ks.length c]) (hA : At S A ks) (hk : ks.length ≤ 1000000)
    (hR : ∀ x L t, I x L → x.length < ks.length → RdR Try.prog l fn ((ps.zip #[.int .i64 t]).foldl (fun t (p : Tmp × Value) => t.setIfInBounds p.1 p.2) tmps) assign body S L (fun S' L' => S' = S ∧ I (x ++ [t]) L') true) (L0 : Blocks) (h0 : I [] L0) :
    Con Try.prog 47 #[.func (.yield l) #[] #[], .pointer (some p)] S L0 (fun S' L' v => S' = S ∧ I ks L') := by
  refine con_of (args := [.func (.yield l) #[] #[], .pointer (some p)]) Try.func47 rfl Try.ntmps47 rfl fun w => ?_
  (repeat (first | refine Jc ?_ | (apply s_load1; (case hg => rfl); (case hd => rfl); (case hx => rfl); (case hv => exact hp)) | refine Jo ?_ | intro _))
  refine c_loop (fun m S' L F => S' = S ∧ ∃ (k : Nat), m = ks.length - k ∧ k ≤ ks.length ∧ I (ks.take k) L ∧
      F = [(0, .func (.yield l) #[] #[]), (1, .pointer (some p)), (5, .slice A ks.length c), (6, .int .i64 ks.length), (7, .int .i64 k)]) ⟨rfl, 0, rfl, by omega, by simpa using h0, rfl⟩ (by repeat (first | exact Sub.nil rfl | exact Sub.marked rfl | refine Sub.cons rfl ?_)) (List.Sublist.refl _) ?_
  rintro m S' L F ⟨rfl, k, rfl, hk1, hi, rfl⟩
  by_cases hlt : k < ks.length
  rotate_left
  · (repeat (first | refine Jz ?_ | intro _))
    rw [List.take_of_length_le (by omega)] at hi
    exact o_ret0 (.inr rfl) Try.results47 (List.Sublist.refl _) ⟨rfl, hi⟩
  obtain ⟨t, hx⟩ := at_lt hlt
  have hlen : (ks.take k).length < ks.length := by simp; omega
  (repeat (first | refine Jc ?_ | (apply s_idx hA; (case hg => rfl); (case hd => rfl); (case hx => rfl); (case hi => rfl); (case hm => rfl); (case hu => exact hx); intro q (hq : Pts _ q [.int .i64 t])) | (apply s_load1; (case hg => rfl); (case hd => rfl); (case hx => rfl); (case hv => exact hq)) | refine Jo ?_ | intro _))
  apply s_yieldR; (case hg => rfl); (case hd => rfl); (case hx => rfl); (case ha => rfl); (case hL => exact pm_self _); (case hm => exact hI _ _ hi); (case hp => exact hps.symm); (case hc => exact hR _ _ t hi hlen); rintro S2 L2 ⟨rfl, hi2⟩
  rw [← take_at hx] at hi2
  (repeat (first | refine Jz ?_ | intro _))
  exact q_back (L' := L2) (m' := ks.length - (k + 1)) ⟨rfl, k + 1, rfl, by omega, hi2, rfl⟩ (by omega) (by repeat (first | exact Sub.nil rfl | exact Sub.marked rfl | refine Sub.cons rfl ?_)) (by simp)
theorem AppendSeq_con (ks : List Int) (A : Option Addr) (c : Nat) (S : SH) (p : Addr) (hp : Pts S p [.slice A ks.length c]) (hA : At S A ks) (hk : ks.length ≤ 1000000) :
    Con Try.prog 49 #[.slice none 0 0, .func (.func 47) #[] #[.pointer (some p)]] S [] (fun S' L' v => S' = S ∧ Ows 3 v ks L') := by
  refine con_of (args := [.slice none 0 0, .func (.func 47) #[] #[.pointer (some p)]]) Try.func49 rfl Try.ntmps49 rfl fun w => ?_
  (repeat (first | refine Jz ?_ | intro _))
  rename_i b2
  refine W.trim (F' := [(2, .pointer (some ⟨b2, 0, none⟩)), (6, .func (.func 47) #[] #[.pointer (some p)])]) (L' := [(b2, .cells [.slice none 0 0].toArray 37 (0, 0))]) (by repeat (first | exact Sub.nil rfl | exact Sub.marked rfl | refine Sub.cons rfl ?_)) (by repeat (first | exact List.Sublist.refl _ | exact List.Sublist.slnil | exact List.nil_sublist _ | exact List.sublist_append_left _ _ | refine List.Sublist.cons_cons _ ?_ | refine List.Sublist.append (List.Sublist.refl _) ?_ | refine List.Sublist.cons _ ?_ | refine List.Sublist.trans ?_ (List.sublist_append_right _ _))) ?_
  refine c_rangeFunc (caps := [.pointer (some p)]) rfl rfl fun r l fn tmps hfm => ?_
  generalize hrec : rec0 fn tmps _ _ _ r LoopState.ready none = o
  obtain ⟨I, hI⟩ : ∃ I : List Int → Blocks → Prop, I = fun x L => ∃ v ob, Ows 3 v x ob ∧ L = (l, o) :: (b2, .cells [v].toArray 37 (0, 0)) :: ob := ⟨_, rfl⟩
  have hmem : ∀ x L, I x L → (l, o) ∈ L := fun x L h => by rw [hI] at h; obtain ⟨v, ob, -, rfl⟩ := h; exact List.mem_cons_self
  rw [← hrec] at hmem
  refine ⟨(l, o) :: [(b2, .cells [.slice none 0 0].toArray 37 (0, 0))], [(r, .deferred (some []))], fun S' L' v => S' = S ∧ I ks L', ?_, ?_, ?_⟩
  · exact (List.Perm.swap _ _ _).cons _
  · refine vals_con rfl I hmem ks A c S p hp hA hk ?_ _ (by rw [hI]; exact ⟨_, _, Ows.nil 3, rfl⟩)
    intro x L t hx hxl
    rw [hI] at hx
    obtain ⟨v, ob, ho, rfl⟩ := hx
    have hfm' := hfm.put (d := 7) (.int .i64 t) rfl
    have hfm2 : Fm 13 { tmps := (#[7].zip #[Value.int .i64 t]).foldl (fun t (p : Tmp × Value) => t.setIfInBounds p.1 p.2) tmps, defers := [] } [(7, .int .i64 t), (2, .pointer (some ⟨b2, 0, none⟩)), (6, .func (.func 47) #[] #[.pointer (some p)])] := by simpa [Act.put] using hfm'
    rw [← hrec]
    refine rd_ofR hfm2 fun w' => ?_
    (repeat (first | refine Jz ?_ | intro _))
    apply r_begin
    (repeat (first | refine Jc ?_ | (apply s_append (ms := [t]); (case hg => rfl); (case hd => rfl); (case hx => rfl); (case ho => exact ho); (case hL => (repeat (first | exact pm_nil _ | exact pm_refl _ _ | exact pm_self _ | apply pm_cons | apply pm_app))); (case hy => rfl); (case hm => rfl); (case hs => (apply Src.own; (repeat (first | exact List.Mem.head _ | apply List.Mem.tail | apply List.mem_append_right)))); (case hzs => rfl); (case h0 => decide); (case hb => (simp; omega)); (case h63 => (simp; omega)); intro v' ob' ho'; obtain ⟨A', c', rfl⟩ := ho'.form) | refine Jo ?_ | intro _))
    refine W.perm ?_ (List.perm_append_comm.trans (List.Perm.swap _ _ _))
    refine r_end (L' := (b2, .cells [.slice A' (x ++ [t]).length c'].toArray 37 (0, 0)) :: ob') ((List.Sublist.refl _).cons _) fun w'' hs => ⟨rfl, S, _, ⟨rfl, by rw [hI]; exact ⟨_, _, ho', rfl⟩⟩, ?_⟩
    rw [hrec] at hs
    exact hs
  · rintro S' L1' v hle ⟨rfl, hi⟩
    rw [hI] at hi
    obtain ⟨v1, ob, ho, rfl⟩ := hi
    rw [← hrec]
    refine ⟨.ready, none, (b2, .cells [v1].toArray 37 (0, 0)) :: (ob ++ [(r, .deferred (some []))]), List.Perm.refl _, by decide, ?_⟩
    obtain ⟨A', c', rfl⟩ := ho.form
    (repeat (first | refine Jz ?_ | intro _))
    refine o_ret1m (L' := ob) (L1 := (b2, .cells [.slice A' ks.length c'].toArray 37 (0, 0)) :: ob) Try.results49 rfl rfl ?_ ((List.Sublist.refl _).cons _) ⟨rfl, ho⟩
    exact List.perm_append_comm (l₁ := (b2, Obj.cells [.slice A' ks.length c'].toArray 37 (0, 0)) :: ob) (l₂ := [(r, Obj.deferred (some []))])
theorem Collect_con (ks : List Int) (A : Option Addr) (c : Nat) (S : SH) (p : Addr) (hp : Pts S p [.slice A ks.length c]) (hA : At S A ks) (hk : ks.length ≤ 1000000) :
    Con Try.prog 45 #[.func (.func 47) #[] #[.pointer (some p)]] S [] (fun S' L' v => S' = S ∧ Ows 3 v ks L') := by
  refine con_of (args := [.func (.func 47) #[] #[.pointer (some p)]]) Try.func45 rfl Try.ntmps45 rfl fun w => ?_
  (repeat (first | refine Jc ?_ | (apply s_call; (case hg => rfl); (case hd => rfl); (case ha => rfl); (case hc => exact AppendSeq_con ks A c _ p hp hA hk); (case hL => (repeat (first | exact pm_nil _ | exact pm_refl _ _ | exact pm_self _ | apply pm_cons | apply pm_app))); rintro S2 L2 v - ⟨rfl, ho⟩) | refine Jo ?_ | intro _))
  exact o_ret Try.results45 rfl (List.Sublist.refl _) ⟨rfl, by simpa using ho⟩
theorem Sorted_con (ks : List Int) (A : Option Addr) (c : Nat) (S : SH) (p : Addr) (hp : Pts S p [.slice A ks.length c]) (hA : At S A ks) (hk : ks.length ≤ 1000000) :
    Con Try.prog 39 #[.func (.func 47) #[] #[.pointer (some p)]] S [] (fun S' L' v => Ows 3 v (ks.mergeSort le_) L') := by
  refine con_of (args := [.func (.func 47) #[] #[.pointer (some p)]]) Try.func39 rfl Try.ntmps39 rfl fun w => ?_
  (repeat (first | refine Jc ?_ | (apply s_call; (case hg => rfl); (case hd => rfl); (case ha => rfl); (case hc => exact Collect_con ks A c _ p hp hA hk); (case hL => (repeat (first | exact pm_nil _ | exact pm_refl _ _ | exact pm_self _ | apply pm_cons | apply pm_app))); rintro S2 L2 v - ⟨rfl, ho⟩) | (apply s_call; (case hg => rfl); (case hd => rfl); (case ha => rfl); (case hc => exact sort_con Try.slices_Sort_int Try.slices_Sort_int_none ho (by omega)); (case hL => (repeat (first | exact pm_nil _ | exact pm_refl _ _ | exact pm_self _ | apply pm_cons | apply pm_app))); rintro S1 L1 r hle ⟨rfl, ho1⟩) | refine Jo ?_ | intro _))
  exact o_ret Try.results39 rfl (List.Sublist.refl _) (by simpa using ho1)
end Go.Proofs.Ytdbkjegpeoopaaa
namespace Go.Proofs.Ytdbkjegpeoopaaa
open Go Go.X
set_option maxRecDepth 10000
set_option linter.unusedVariables false
attribute [local irreducible] Code.wpIn wpListIn Exit.then Exit.inBlock X.Out X.Back X.W X.Ev X.Con X.BinV X.Wh X.Wn X.Wq
/-- What a condition on an int costs and answers: nothing changes. -/
def PredC (f : FuncId) (caps : List Value) (LP : Blocks) (q : Int → Bool) : Prop := ∀ (i : Int) (S : SH), i64 i → Con Try.prog f ([Value.int .i64 i] ++ caps).toArray S LP (fun S' L' r => S' = S ∧ L' = LP ∧ r = .bool (q i))
def gone (m : Nat) (i : Int) : Bool := decide (i < 0) || decide ((m : Int) ≤ i)
theorem crash1_con {bx b g1 g2 N : Nat} {pv : Value} {ob : Blocks} {D : Dk} (ho : Ows 69 pv D.pend ob) : PredC 42 [.pointer (some ⟨bx, 0, none⟩)] ((bx, .cells [.pointer (some ⟨b, 0, none⟩)].toArray 23 (0, 0)) :: dkB b g1 g2 N pv ob D) (gone D.pend.length) := by
  intro i S hi
  refine con_of (args := [.int .i64 i, .pointer (some ⟨bx, 0, none⟩)]) Try.func42 rfl Try.ntmps42 rfl fun w => ?_
  obtain ⟨A, c, rfl⟩ := ho.form
  unfold dkB
  by_cases c1 : i < 0
  · (repeat (first | refine Jz ?_ | intro _))
    exact o_ret Try.results42 rfl (List.Sublist.refl _) ⟨rfl, rfl, by simp [gone, c1]⟩
  by_cases c2 : (D.pend.length : Int) ≤ i
  all_goals
    (repeat (first | refine Jz ?_ | intro _))
    exact o_ret Try.results42 rfl (List.Sublist.refl _) ⟨rfl, rfl, by simp [gone, c1, c2]⟩
def FirstAt (q : Int → Bool) (o : List Int) (r : Int) : Prop := (r = -1 ∧ ∀ x ∈ o, q x = false) ∨ ∃ k : Nat, r = k ∧ k < o.length ∧ (∀ x ∈ o.take k, q x = false) ∧ ∀ x, o[k]? = some x → q x = true
theorem IndexFunc_con {f : FuncId} [Fun Try.prog f] {caps : List Value} {LP : Blocks} {q : Int → Bool} (hq : PredC f caps LP q) {v : Value} {o : List Int} {ob : Blocks} (ho : Ows 3 v o ob) (h64 : ∀ x ∈ o, i64 x) (hl : o.length ≤ 1000000) (S : SH) :
    Con Try.prog 48 #[v, .func (.func f) #[] caps.toArray] S (ob ++ LP) (fun S' L' r => S' = S ∧ L' = ob ++ LP ∧ ∃ i, r = .int .i64 i ∧ FirstAt q o i) := by
  refine con_of (args := [v, .func (.func f) #[] caps.toArray]) Try.func48 rfl Try.ntmps48 rfl fun w => ?_
  obtain ⟨A, c, rfl⟩ := ho.form
  (repeat (first | refine Jz ?_ | intro _))
  refine c_loop (fun m S' L F => S' = S ∧ ∃ (k : Nat), m = o.length - k ∧ k ≤ o.length ∧ (∀ x ∈ o.take k, q x = false) ∧ L = ob ++ LP ∧
      F = [(0, .slice A o.length c), (1, .func (.func f) #[] caps.toArray), (7, .int .i64 o.length), (8, .int .i64 k)]) ⟨rfl, 0, rfl, by omega, by simp, rfl, rfl⟩ (by repeat (first | exact Sub.nil rfl | exact Sub.marked rfl | refine Sub.cons rfl ?_)) (List.Sublist.refl _) ?_
  rintro m S' L F ⟨rfl, k, rfl, hk1, hi, rfl, rfl⟩
  by_cases hlt : k < o.length
  rotate_left
  · (repeat (first | refine Jz ?_ | intro _))
    rw [List.take_of_length_le (by omega)] at hi
    exact o_ret Try.results48 rfl (List.Sublist.refl _) ⟨rfl, rfl, _, rfl, .inl ⟨rfl, hi⟩⟩
  obtain ⟨t, hx⟩ := at_lt hlt
  have ht := h64 t (List.mem_of_getElem? hx)
  cases hqt : q t
  · (repeat (first | refine Jc ?_ | (apply s_idxq ho (List.Perm.refl _); (case hg => rfl); (case hd => rfl); (case hx => rfl); (case hi => rfl); (case hu => exact hx); intro p hp) | (apply s_evb; (case hg => rfl); (case hd => rfl); (case hn => rfl); (case he => ((apply ev_load_src1; (case hx => rfl); (case h => exact hp))))) | (apply s_callv (f := f) (caps := caps) (vs := [.int .i64 t]); (case hg => rfl); (case hd => rfl); (case hx => rfl); (case ha => rfl); (case hL => exact List.perm_append_comm); (case hc => exact hq t _ ht); rintro S2 L2 _ - ⟨rfl, e2, rfl⟩; rw [e2, hqt]) | refine Jo ?_ | intro _))
    refine W.perm ?_ List.perm_append_comm
    (repeat (first | refine Jz ?_ | intro _))
    refine q_back (L' := ob ++ LP) (m' := o.length - (k + 1)) ⟨rfl, k + 1, rfl, by omega, ?_, rfl, rfl⟩ (by omega) (by repeat (first | exact Sub.nil rfl | exact Sub.marked rfl | refine Sub.cons rfl ?_)) (List.Sublist.refl _)
    rw [take_at hx]
    intro x hxx
    simp only [List.mem_append, List.mem_singleton] at hxx
    rcases hxx with hxx | rfl
    · exact hi x hxx
    · exact hqt
  · (repeat (first | refine Jc ?_ | (apply s_idxq ho (List.Perm.refl _); (case hg => rfl); (case hd => rfl); (case hx => rfl); (case hi => rfl); (case hu => exact hx); intro p hp) | (apply s_evb; (case hg => rfl); (case hd => rfl); (case hn => rfl); (case he => ((apply ev_load_src1; (case hx => rfl); (case h => exact hp))))) | (apply s_callv (f := f) (caps := caps) (vs := [.int .i64 t]); (case hg => rfl); (case hd => rfl); (case hx => rfl); (case ha => rfl); (case hL => exact List.perm_append_comm); (case hc => exact hq t _ ht); rintro S2 L2 _ - ⟨rfl, e2, rfl⟩; rw [e2, hqt]) | refine Jo ?_ | intro _))
    refine W.perm ?_ List.perm_append_comm
    (repeat (first | refine Jz ?_ | intro _))
    refine o_ret Try.results48 rfl (List.Sublist.refl _) ⟨rfl, rfl, _, rfl, .inr ⟨k, rfl, hlt, hi, fun x h => ?_⟩⟩
    rw [hx] at h; cases h; exact hqt
theorem ints_tail (c : List Int) (tl : List Value) (k : Nat) (x : Int) (h : c[k]? = some x) : (cellsOf c ++ tl)[k]? = some (.int .i64 x) := by
  have hk := (List.getElem?_eq_some_iff.1 h).1
  rw [cells_int, List.getElem?_append_left (by simpa using hk)]
  simp [h]
theorem ints_tset (c : List Int) (tl : List Value) (k : Nat) (x : Int) (h : k < c.length) : (cellsOf c ++ tl).set k (.int .i64 x) = cellsOf (c.set k x) ++ tl := by
  rw [cells_int, cells_int, List.set_append_left _ _ (by simpa using h), List.map_set]
theorem DeleteFunc_con {f : FuncId} [Fun Try.prog f] {caps : List Value} {LP : Blocks} {q : Int → Bool} (hq : PredC f caps LP q) {v : Value} {o : List Int} {ob : Blocks} (ho : Ows 3 v o ob) (h64 : ∀ x ∈ o, i64 x) (hl : o.length ≤ 1000000) (S : SH) :
    Con Try.prog 41 #[v, .func (.func f) #[] caps.toArray] S (ob ++ LP) (fun S' L' r => S' = S ∧ ∃ ob', Ows 3 r (o.filter fun x => !q x) ob' ∧ L' = ob' ++ LP) := by
  refine con_of (args := [v, .func (.func f) #[] caps.toArray]) Try.func41 rfl Try.ntmps41 rfl fun w => ?_
  (repeat (first | refine Jc ?_ | (apply s_call; (case hg => rfl); (case hd => rfl); (case ha => rfl); (case hc => exact IndexFunc_con hq ho h64 hl _); (case hL => (repeat (first | exact pm_nil _ | exact pm_refl _ _ | exact pm_self _ | apply pm_cons | apply pm_app))); rintro S1 L1 _ - ⟨rfl, e1, i, rfl, hF⟩; rw [e1, List.append_nil]) | refine Jo ?_ | intro _))
  rcases hF with ⟨rfl, hall⟩ | ⟨k, rfl, hk, htk, hat⟩
  · (repeat (first | refine Jz ?_ | intro _))
    refine o_ret Try.results41 rfl (List.Sublist.refl _) ⟨rfl, ob, ?_, rfl⟩
    rw [List.filter_eq_self.2 (fun x hx => by simp [hall x hx])]
    exact ho
  obtain ⟨x0, hx0⟩ := at_lt hk
  rcases ho with ⟨rfl, rfl, _⟩ | ⟨g, cap, cur, rfl, rfl, h1, h2, h3, h4⟩
  · simp at hk
  have h3' : cur.size = cap * 1 := h3
  have h4' : cur.toList.take o.length = cellsOf o := by simpa [Cl.size] using h4
  obtain ⟨tl, htl⟩ : ∃ tl, cur = (cellsOf o ++ tl).toArray := ⟨cur.toList.drop o.length, by rw [← h4', List.take_append_drop]⟩
  have htl2 : (cellsOf o ++ tl).length = cap := by rw [htl] at h3'; simpa using h3'
  have hol : (cellsOf o).length = o.length := by rw [cells_int]; simp
  rw [List.length_append, hol] at htl2
  subst htl
  clear h1 h3 h3' h4 h4'
  (repeat (first | refine Jz ?_ | intro _))
  refine c_loop (fun m S' L F => S' = S1 ∧ ∃ (j i : Nat) (c : List Int), m = o.length - j ∧ i < j ∧ j ≤ o.length ∧ c.length = o.length ∧ c.take i = (o.take j).filter (fun x => !q x) ∧ c.drop j = o.drop j ∧ L = (g, .cells (cellsOf c ++ tl).toArray 3 (0, 0)) :: LP ∧
      F = [(0, .slice (some ⟨g, 0, none⟩) o.length cap), (1, .func (.func f) #[] caps.toArray), (5, .int .i64 i), (6, .int .i64 j)]) ⟨rfl, k + 1, k, o, rfl, by omega, by omega, rfl, ?_, rfl, rfl, rfl⟩ (by repeat (first | exact Sub.nil rfl | exact Sub.marked rfl | refine Sub.cons rfl ?_)) (List.Sublist.refl _) ?_
  · rw [take_at hx0, List.filter_append, List.filter_eq_self.2 (fun x hx => by simp [htk x hx])]
    simp [hat x0 hx0]
  rintro m S' L F ⟨rfl, j, i, c, rfl, hij, hj, hc, hci, hcj, rfl, rfl⟩
  by_cases hlt : j < o.length
  rotate_left
  · obtain rfl : j = o.length := by omega
    rw [List.take_of_length_le (Nat.le_refl _)] at hci
    have hil : (o.filter fun x => !q x).length = i := by rw [← hci]; simp; omega
    have hcl : (cellsOf c).length = c.length := by rw [cells_int]; simp
    have hlen : (cellsOf c ++ tl).length = cap := by rw [List.length_append, hcl]; omega
    (repeat (first | refine Jc ?_ | (apply s_evb; (case hg => rfl); (case hd => rfl); (case hn => rfl); (case he => ((apply ev_sub_lo; (case hx => rfl); (case hy => rfl); (case hmc => omega); (case hi => omega))))) | (apply s_clear (cs := cellsOf c ++ tl) (m := o.length - i) (L1 := LP); (case hg => rfl); (case hz1 => rfl); (case hzs => rfl); (case hx => rfl); (case hl => (rw [hlen]; split <;> omega)); (case hL => exact pm1); (intro vs hvs)) | (apply s_evb; (case hg => rfl); (case hd => rfl); (case hn => rfl); (case he => ((apply ev_sub_hi; (case hx => rfl); (case hy => rfl); (case hmc => omega))))) | refine Jo ?_ | intro _))
    refine o_ret Try.results41 rfl (List.Sublist.refl _) ⟨rfl, [_], .inr ⟨g, cap, _, by rw [hil], rfl, by omega, by omega, ?_, ?_⟩, rfl⟩
    · have := lset_len (B := cellsOf c ++ tl) (s := vs) (o := if cap = i then 0 else i) (by rw [hlen]; split <;> omega)
      simp only [List.size_toArray, this, hlen]
      exact (Nat.mul_one _).symm
    · rw [hil]
      show ((lset (cellsOf c ++ tl) (if cap = i then 0 else i) vs)).take (i * 1) = _
      rw [← hci, Nat.mul_one]
      have e4 : (cellsOf c ++ tl).take i = cellsOf (c.take i) := by
        rw [List.take_append_of_le_length (by rw [hcl]; omega)]
        have := cellsOf_take c i
        simpa [Cl.size] using this
      rw [← e4]
      split
      · have : vs = [] := List.eq_nil_of_length_eq_zero (by omega)
        rw [this, lset_nil]
      · simp only [lset, List.append_assoc]
        rw [List.take_append_of_le_length (by simp [hcl] at hlen ⊢; omega), List.take_take]
        simp
  obtain ⟨x, hx⟩ := at_lt hlt
  have hx64 := h64 x (List.mem_of_getElem? hx)
  have hcx : c[j]? = some x := by
    have := congrArg (fun l => l[0]?) hcj
    simpa [List.getElem?_drop, hx] using this
  cases hqt : q x
  · have hix : i < c.length := by omega
    (repeat (first | refine Jc ?_ | (apply s_load_own; (case hg => rfl); (case hd => rfl); (case hx => rfl); (case hm => exact List.Mem.head _); (case hv => exact ints_tail c tl j x hcx)) | (apply s_callv (f := f) (caps := caps) (vs := [.int .i64 x]); (case hg => rfl); (case hd => rfl); (case hx => rfl); (case ha => rfl); (case hL => exact List.perm_append_comm (l₁ := [_]) (l₂ := LP)); (case hc => exact hq x _ hx64); rintro S2 L2 _ - ⟨rfl, e2, rfl⟩; rw [e2, hqt]) | refine Jo ?_ | intro _))
    refine W.perm ?_ (List.perm_append_comm (l₁ := LP) (l₂ := [_]))
    (repeat (first | refine Jc ?_ | (apply s_store; (case hg => rfl); (case hx => rfl); (case hy => rfl); (case h1 => rfl); (case hL => exact Upd.head); (case hu => exact ints_tail c tl i _ (List.getElem?_eq_getElem hix))) | refine Jo ?_ | intro _))
    rw [ints_tset c tl i x hix]
    refine q_back (L' := (g, .cells (cellsOf (c.set i x) ++ tl).toArray 3 (0, 0)) :: LP) (m' := o.length - (j + 1)) ⟨rfl, j + 1, i + 1, c.set i x, rfl, by omega, by omega, by simpa using hc, ?_, ?_, rfl, rfl⟩ (by omega) (by repeat (first | exact Sub.nil rfl | exact Sub.marked rfl | refine Sub.cons rfl ?_)) (List.Sublist.refl _)
    · rw [take_at hx, List.filter_append, ← hci]
      rw [List.take_succ_eq_append_getElem (by simpa using hix), List.take_set_of_le (Nat.le_refl _)]
      simp [hqt]
    · rw [List.drop_set_of_lt (by omega)]
      have := congrArg (List.drop 1) hcj
      simpa [List.drop_drop] using this
  · (repeat (first | refine Jc ?_ | (apply s_load_own; (case hg => rfl); (case hd => rfl); (case hx => rfl); (case hm => exact List.Mem.head _); (case hv => exact ints_tail c tl j x hcx)) | (apply s_callv (f := f) (caps := caps) (vs := [.int .i64 x]); (case hg => rfl); (case hd => rfl); (case hx => rfl); (case ha => rfl); (case hL => exact List.perm_append_comm (l₁ := [_]) (l₂ := LP)); (case hc => exact hq x _ hx64); rintro S2 L2 _ - ⟨rfl, e2, rfl⟩; rw [e2, hqt]) | refine Jo ?_ | intro _))
    refine W.perm ?_ (List.perm_append_comm (l₁ := LP) (l₂ := [_]))
    (repeat (first | refine Jz ?_ | intro _))
    refine q_back (L' := (g, .cells (cellsOf c ++ tl).toArray 3 (0, 0)) :: LP) (m' := o.length - (j + 1)) ⟨rfl, j + 1, i, c, rfl, by omega, by omega, hc, ?_, ?_, rfl, rfl⟩ (by omega) (by repeat (first | exact Sub.nil rfl | exact Sub.marked rfl | refine Sub.cons rfl ?_)) (List.Sublist.refl _)
    · rw [take_at hx, List.filter_append, ← hci]
      simp [hqt]
    · have := congrArg (List.drop 1) hcj
      simpa [List.drop_drop] using this
end Go.Proofs.Ytdbkjegpeoopaaa
namespace Go.Proofs.Ytdbkjegpeoopaaa
open Go Go.X
set_option maxRecDepth 10000
set_option linter.unusedVariables false
attribute [local irreducible] Code.wpIn wpListIn Exit.then Exit.inBlock X.Out X.Back X.W X.Ev X.Con X.BinV X.Wh X.Wn X.Wq
theorem sorted_le {zs : List Int} (h : zs.Pairwise (· ≤ ·)) {i j : Nat} (hij : i ≤ j) (hj : j < zs.length) : zs.toArray[i]! ≤ zs.toArray[j]! := by
  have hi : i < zs.length := by omega
  simp only [List.getElem!_toArray, getElem!_pos zs i hi, getElem!_pos zs j hj]
  rcases Nat.lt_or_eq_of_le hij with hlt | rfl
  · exact List.pairwise_iff_getElem.1 h i j hi hj hlt
  · exact Int.le_refl _
theorem cut_sorted (zs : List Int) (hs : zs.Pairwise (· ≤ ·)) : ∀ m, m ≤ zs.length → (Lib.compactUpTo zs.toArray m).Pairwise (· < ·) ∧ (∀ x, x ∈ Lib.compactUpTo zs.toArray m ↔ ∃ j, j < m ∧ zs.toArray[j]! = x)
  | 0, _ => by simp [Lib.compactUpTo]
  | m + 1, hm => by
    obtain ⟨h1, h2⟩ := cut_sorted zs hs m (by omega)
    rw [Lib.compactUpTo_succ]
    cases hk : Lib.keeps zs.toArray m
    · have hm0 : m ≠ 0 := fun e => by subst e; simp [Lib.keeps] at hk
      have heq : zs.toArray[m]! = zs.toArray[m - 1]! := Classical.byContradiction fun hne => by
        rw [Lib.keeps_pos hne] at hk; cases hk
      simp only [Bool.false_eq_true, if_false, List.append_nil]
      refine ⟨h1, fun x => (h2 x).trans ⟨fun ⟨j, hj, e⟩ => ⟨j, by omega, e⟩, fun ⟨j, hj, e⟩ => ?_⟩⟩
      rcases Nat.lt_or_eq_of_le (Nat.lt_succ_iff.1 hj) with hlt | rfl
      · exact ⟨j, hlt, e⟩
      · exact ⟨j - 1, by omega, heq.symm.trans e⟩
    · simp only [if_true]
      constructor
      · rw [List.pairwise_append]
        refine ⟨h1, by simp, fun x hx y hy => ?_⟩
        simp only [List.mem_singleton] at hy
        subst hy
        obtain ⟨j, hj, rfl⟩ := (h2 x).1 hx
        have hne : zs.toArray[m]! ≠ zs.toArray[m - 1]! := fun e => by
          rw [Lib.keeps_neg (by omega) e] at hk; cases hk
        have a1 := sorted_le hs (show j ≤ m - 1 by omega) (by omega)
        have a2 := sorted_le hs (show m - 1 ≤ m by omega) (by omega)
        omega
      · intro x
        rw [List.mem_append, h2, List.mem_singleton]
        constructor
        · rintro (⟨j, hj, e⟩ | rfl)
          · exact ⟨j, by omega, e⟩
          · exact ⟨m, by omega, rfl⟩
        · rintro ⟨j, hj, e⟩
          rcases Nat.lt_or_eq_of_le (Nat.lt_succ_iff.1 hj) with hlt | rfl
          · exact .inl ⟨j, hlt, e⟩
          · exact .inr e.symm
theorem compact_sorted (zs : List Int) (hs : zs.Pairwise (· ≤ ·)) : (Lib.compact zs).Pairwise (· < ·) ∧ ∀ x, x ∈ Lib.compact zs ↔ x ∈ zs := by
  obtain ⟨h1, h2⟩ := cut_sorted zs hs zs.length (Nat.le_refl _)
  refine ⟨h1, fun x => (h2 x).trans ?_⟩
  rw [List.mem_iff_getElem]
  constructor
  · rintro ⟨j, hj, e⟩; exact ⟨j, hj, by simpa [getElem!_pos zs j hj] using e⟩
  · rintro ⟨j, hj, e⟩; exact ⟨j, hj, by simpa [getElem!_pos zs j hj] using e⟩
theorem sorted_spec (ks : List Int) : (Lib.compact (ks.mergeSort le_)).Pairwise (· < ·) ∧ ∀ x, x ∈ Lib.compact (ks.mergeSort le_) ↔ x ∈ ks := by
  have hs : (ks.mergeSort le_).Pairwise (· ≤ ·) := by
    have := List.pairwise_mergeSort (le := le_) (fun a b c h1 h2 => by simp [le_] at *; omega) (fun a b => by simp [le_]; omega) ks
    exact this.imp fun h => by simpa [le_] using h
  obtain ⟨h1, h2⟩ := compact_sorted _ hs
  exact ⟨h1, fun x => (h2 x).trans (List.mergeSort_perm _ _).mem_iff⟩
def tear (torn : Int) (w : Wr) : Wr := if 0 ≤ torn then ⟨w.off, w.s.take torn.toNat⟩ else w
def survAt (pend : List Wr) (torn : Int) (o : List Int) (k : Nat) : Wr := if k + 1 = o.length then tear torn (pend[(o[k]!).toNat]!) else pend[(o[k]!).toNat]!
def surv (pend : List Wr) (torn : Int) (o : List Int) : List Wr := (List.range o.length).map (survAt pend torn o)
def applyL (B : Bs) (ws : List Wr) : Bs := ws.foldl (fun b w => lset b w.off w.s) B
def orderOf (m : Nat) (keep : List Int) : List Int := (Lib.compact (keep.mergeSort le_)).filter fun i => !gone m i
def crB (D : Dk) (keep : List Int) (torn : Int) : Bs := applyL D.dur (surv D.pend torn (orderOf D.pend.length keep))
def crD (D : Dk) (keep : List Int) (torn : Int) : Dk := ⟨false, 0, crB D keep torn, crB D keep torn, []⟩
theorem applyL_len {N : Nat} : ∀ (ws : List Wr) (B : Bs), B.length = N → (∀ w ∈ ws, w.off + w.s.length ≤ N) → (applyL B ws).length = N
  | [], B, h, _ => h
  | w :: ws, B, h, hw => applyL_len ws (lset B w.off w.s) (by rw [lset_len (by have := hw w List.mem_cons_self; omega), h]) fun x hx => hw x (List.mem_cons_of_mem _ hx)
theorem applyL_snoc (B : Bs) (ws : List Wr) (w : Wr) : applyL B (ws ++ [w]) = lset (applyL B ws) w.off w.s := by simp [applyL]
theorem surv_len (pend : List Wr) (torn : Int) (o : List Int) : (surv pend torn o).length = o.length := by simp [surv]
theorem surv_at (pend : List Wr) (torn : Int) (o : List Int) {k : Nat} (h : k < o.length) : (surv pend torn o)[k]? = some (survAt pend torn o k) := by simp [surv, h]
theorem order_in {m : Nat} {keep : List Int} {x : Int} (h : x ∈ orderOf m keep) : 0 ≤ x ∧ x < m := by
  simp only [orderOf, List.mem_filter, gone, Bool.not_eq_true', Bool.or_eq_false_iff, decide_eq_false_iff_not] at h
  omega
theorem tear_fit {N : Nat} {w : Wr} (torn : Int) (h : w.off + w.s.length ≤ N) : (tear torn w).off + (tear torn w).s.length ≤ N := by
  unfold tear
  split
  · simp only [List.length_take]; omega
  · exact h
theorem survAt_eq {pend : List Wr} {torn : Int} {o : List Int} {k : Nat} {x : Int} {w : Wr} (hx : o[k]? = some x) (hw : pend[x.toNat]? = some w) : survAt pend torn o k = if k + 1 = o.length then tear torn w else w := by
  have e1 : o[k]! = x := by rw [List.getElem!_eq_getElem?_getD, hx]; rfl
  have e2 : pend[x.toNat]! = w := by rw [List.getElem!_eq_getElem?_getD, hw]; rfl
  simp [survAt, e1, e2]
theorem surv_fit {N : Nat} {D : Dk} (hw : Wf N D) (keep : List Int) (torn : Int) : ∀ w ∈ surv D.pend torn (orderOf D.pend.length keep), w.off + w.s.length ≤ N := by
  intro w hm
  simp only [surv, List.mem_map, List.mem_range] at hm
  obtain ⟨k, hk, rfl⟩ := hm
  obtain ⟨x, hx⟩ := at_lt hk
  obtain ⟨h1, h2⟩ := order_in (List.mem_of_getElem? hx)
  obtain ⟨y, hy⟩ := at_lt (l := D.pend) (k := x.toNat) (by omega)
  have hf := hw.fit y (List.mem_of_getElem? hy)
  rw [survAt_eq hx hy]
  split
  · exact tear_fit torn hf
  · exact hf
end Go.Proofs.Ytdbkjegpeoopaaa
namespace Go.Proofs.Ytdbkjegpeoopaaa
open Go Go.X
set_option maxRecDepth 10000
set_option linter.unusedVariables false
attribute [local irreducible] Code.wpIn wpListIn Exit.then Exit.inBlock X.Out X.Back X.W X.Ev X.Con X.BinV X.Wh X.Wn X.Wq
theorem pmx {bw bx bb p : Nat × Obj} {V Y : Blocks} : (bw :: (V ++ bx :: bb :: p :: Y)).Perm ([p] ++ (bw :: (V ++ bx :: bb :: Y))) := pm_cons (pm_app (pm_cons (pm_cons pm1)))
theorem pmy {bx : Nat × Obj} {V X : Blocks} : (V ++ bx :: X).Perm (X ++ (V ++ [bx])) := by
  have h : (V ++ [bx] ++ X).Perm (X ++ (V ++ [bx])) := List.perm_append_comm
  simpa using h
theorem Crash_con {v : Value} {D : Dk} {L : Blocks} (h : OwD v D L) (S : SH) (keep : List Int) (A : Option Addr) (c : Nat) (torn : Int) (hA : At S A keep) (hk : keep.length ≤ 1000000) (hk64 : ∀ x ∈ keep, i64 x) (h64 : i64 torn) (hpl : D.pend.length ≤ 2000000) :
    Con Try.prog 25 #[v, .slice A keep.length c, .int .i64 torn] S L (fun S' L' r => OwD v (crD D keep torn) L' ∧ r = .int .i64 0) := by
  obtain ⟨b, g1, g2, N, pv, ob, rfl, hp, ho, hw⟩ := h
  refine con_of (args := [.pointer (some ⟨b, 0, none⟩), .slice A keep.length c, .int .i64 torn]) Try.func25 rfl Try.ntmps25 rfl fun w => W.perm ?_ hp
  have w1 := hw.dur
  have w2 := hw.vis
  obtain ⟨hs1, hs2⟩ := sorted_spec keep
  have hcl := Lib.compact_length_le (keep.mergeSort le_)
  rw [List.length_mergeSort] at hcl
  (repeat (first | refine Jc ?_ | (apply s_evb; (case hg => rfl); (case hd => rfl); (case hn => rfl); (case he => (apply ev_eql_p; (case hx => rfl); (case hy => rfl)))) | (apply s_call; (case hg => rfl); (case hd => rfl); (case ha => rfl); (case hc => exact Values_con keep A c _); (case hL => (repeat (first | exact pm_nil _ | exact pm_refl _ _ | exact pm_self _ | apply pm_cons | apply pm_app))); rintro S1 L1 _ hle1 ⟨rfl, p1, rfl, hp1⟩) | (apply s_call; (case hg => rfl); (case hd => rfl); (case ha => rfl); (case hc => exact Sorted_con keep A c _ p1 hp1 (hA.le hle1) hk); (case hL => (repeat (first | exact pm_nil _ | exact pm_refl _ _ | exact pm_self _ | apply pm_cons | apply pm_app))); rintro S2 L2 v2 hle2 ho2) | (apply s_call; (case hg => rfl); (case hd => rfl); (case ha => rfl); (case hc => exact compact_con Try.slices_Compact_int Try.slices_Compact_int_empty (Lib.compact_length_le _) ho2); (case hL => (repeat (first | exact pm_nil _ | exact pm_refl _ _ | exact pm_self _ | apply pm_cons | apply pm_app))); rintro S3 L3 v3 hle3 ho3) | refine Jo ?_ | intro _))
  rename_i bx
  have hm64 : ∀ x ∈ Lib.compact (keep.mergeSort le_), i64 x := fun x hx => hk64 x ((hs2 x).1 hx)
  (repeat (first | refine Jc ?_ | (apply s_call; (case hg => rfl); (case hd => rfl); (case ha => rfl); (case hL => exact pm_self _); (case hc => exact DeleteFunc_con (f := 42) (caps := [.pointer (some ⟨bx, 0, none⟩)]) (LP := (bx, .cells [.pointer (some ⟨b, 0, none⟩)].toArray 23 (0, 0)) :: dkB b g1 g2 N pv ob D) (crash1_con ho) ho3 hm64 (by omega) _); rintro S4 L4 v4 - ⟨rfl, ob4, ho4, e4⟩; rw [e4, List.append_nil]) | refine Jo ?_ | intro _))
  generalize hord : (Lib.compact (keep.mergeSort le_)).filter (fun x => !gone D.pend.length x) = o at ho4
  have hord' : orderOf D.pend.length keep = o := hord
  have hin : ∀ x ∈ o, 0 ≤ x ∧ x < D.pend.length := fun x hx => order_in (keep := keep) (by rw [hord']; exact hx)
  have hol : o.length ≤ 1000000 := by
    have := List.length_filter_le (fun x => !gone D.pend.length x) (Lib.compact (keep.mergeSort le_))
    rw [hord] at this
    omega
  have hfit := surv_fit hw keep torn
  rw [hord'] at hfit
  have hsl := surv_len D.pend torn o
  obtain ⟨A4, c4, rfl⟩ := ho4.form
  have hcr : crB D keep torn = applyL D.dur (surv D.pend torn o) := by rw [crB, hord']
  generalize hsv : surv D.pend torn o = sv at hfit hsl hcr
  (repeat (first | refine Jz ?_ | intro _))
  refine c_loop (fun m S' L F => S' = S4 ∧ ∃ (k : Nat), m = o.length - k ∧ k ≤ o.length ∧
      L = ob4 ++ (bx, .cells [.pointer (some ⟨b, 0, none⟩)].toArray 23 (0, 0)) :: dkB b g1 g2 N pv ob { D with dur := applyL D.dur (sv.take k) } ∧
      F = [(2, .int .i64 torn), (3, .pointer (some ⟨bx, 0, none⟩)), (7, .slice A4 o.length c4), (20, .slice A4 o.length c4), (21, .int .i64 o.length), (22, .int .i64 k)]) ⟨rfl, 0, rfl, by omega, by simp [applyL], rfl⟩ (by repeat (first | exact Sub.nil rfl | exact Sub.marked rfl | refine Sub.cons rfl ?_)) (List.Sublist.refl _) ?_
  rintro m S' L F ⟨rfl, k, rfl, hk1, rfl, rfl⟩
  have hdl : (applyL D.dur (sv.take k)).length = N := applyL_len _ _ w1 fun x hx => hfit x (List.mem_of_mem_take hx)
  by_cases hlt : k < o.length
  rotate_left
  · obtain rfl : k = o.length := by omega
    rw [List.take_of_length_le (by omega)] at hdl ⊢
    rw [← hcr] at hdl ⊢
    unfold dkB
    (repeat (first | refine Jz ?_ | intro _))
    refine c_meet (fun S2 L2 F2 => S2 = S' ∧ ∃ pv' ob', Ows (α := Wr) 69 pv' [] ob' ∧ L2 = ((b, .cells [.bool D.off, .int .i64 D.left, .slice (some ⟨g1, 0, none⟩) N N, .slice (some ⟨g2, 0, none⟩) N N, pv'].toArray 65 (0, 0)) :: (g1, .cells (cellsOf (crB D keep torn)).toArray 5 (0, 0)) :: (g2, .cells (cellsOf (crB D keep torn)).toArray 5 (0, 0)) :: ob') ++ (ob4 ++ [(bx, .cells [.pointer (some ⟨b, 0, none⟩)].toArray 23 (0, 0))]) ∧ F2 = [(3, .pointer (some ⟨bx, 0, none⟩))]) ?_ ?_
    · ((apply c_held ([(bx, .cells [.pointer (some ⟨b, 0, none⟩)].toArray 23 (0, 0))]); (case hL => (repeat (first | exact List.Sublist.refl _ | exact List.Sublist.slnil | exact List.nil_sublist _ | exact List.sublist_append_left _ _ | apply List.Sublist.cons_cons | (apply List.Sublist.append; exact List.Sublist.refl _) | apply List.Sublist.cons | refine List.Sublist.trans ?_ (List.sublist_append_right _ _))))); refine Jf 0 ?_; refine Jf 1 ?_; refine Jf 2 ?_; refine Jf 3 ?_; refine Jf 5 ?_; refine Jf 6 ?_; refine Jf 7 ?_; (apply h_two 4 8; (case hr => kernel_rfl)); (case k1 => ((first | (apply n_call; (case hi => rfl); (case i1 => infer_instance); (case hg => rfl); (case hd => rfl); (case ha => rfl); (case hc => exact settle_con b g1 g2 N (.bool D.off) (.int .i64 D.left) (.slice (some ⟨g1, 0, none⟩) N N) (.slice (some ⟨g2, 0, none⟩) N N) pv (crB D keep torn) D.vis D.pend ob _ ho hdl w2); (case hL => exact pmy); (case hsub => (intro _ _; exact ((List.sublist_append_right _ _).trans (List.sublist_append_right _ _)))); rintro _ _ _ - ⟨rfl, pv', ob', ho', rfl⟩) | (refine Jn ?_; try intro _)); (apply h_one 8; (case hr => kernel_rfl)); (first | (apply n_call; (case hi => rfl); (case i1 => infer_instance); (case hg => rfl); (case hd => rfl); (case ha => rfl); (case hc => exact settle_con b g1 g2 N (.bool D.off) (.int .i64 D.left) (.slice (some ⟨g1, 0, none⟩) N N) (.slice (some ⟨g2, 0, none⟩) N N) pv (crB D keep torn) D.vis D.pend ob _ ho hdl w2); (case hL => exact pmy); (case hsub => (intro _ _; exact ((List.sublist_append_right _ _).trans (List.sublist_append_right _ _)))); rintro _ _ _ - ⟨rfl, pv', ob', ho', rfl⟩) | (refine Jn ?_; try intro _)); (apply h_one 9; (case hr => kernel_rfl)); (first | (apply n_call; (case hi => rfl); (case i1 => infer_instance); (case hg => rfl); (case hd => rfl); (case ha => rfl); (case hc => exact settle_con b g1 g2 N (.bool D.off) (.int .i64 D.left) (.slice (some ⟨g1, 0, none⟩) N N) (.slice (some ⟨g2, 0, none⟩) N N) pv (crB D keep torn) D.vis D.pend ob _ ho hdl w2); (case hL => exact pmy); (case hsub => (intro _ _; exact ((List.sublist_append_right _ _).trans (List.sublist_append_right _ _)))); rintro _ _ _ - ⟨rfl, pv', ob', ho', rfl⟩) | (refine Jn ?_; try intro _)); (apply h_end; (case hr => kernel_rfl)); (apply q_then; exact q_cut ⟨rfl, pv', ob', ho', rfl, rfl⟩ (by repeat (first | exact Sub.nil rfl | exact Sub.marked rfl | refine Sub.cons rfl ?_)) (List.Sublist.refl _)))); (case k2 => ((first | (apply n_call; (case hi => rfl); (case i1 => infer_instance); (case hg => rfl); (case hd => rfl); (case ha => rfl); (case hc => exact settle_con b g1 g2 N (.bool D.off) (.int .i64 D.left) (.slice (some ⟨g1, 0, none⟩) N N) (.slice (some ⟨g2, 0, none⟩) N N) pv (crB D keep torn) D.vis D.pend ob _ ho hdl w2); (case hL => exact pmy); (case hsub => (intro _ _; exact ((List.sublist_append_right _ _).trans (List.sublist_append_right _ _)))); rintro _ _ _ - ⟨rfl, pv', ob', ho', rfl⟩) | (refine Jn ?_; try intro _)); (apply h_one 4; (case hr => kernel_rfl)); (first | (apply n_call; (case hi => rfl); (case i1 => infer_instance); (case hg => rfl); (case hd => rfl); (case ha => rfl); (case hc => exact settle_con b g1 g2 N (.bool D.off) (.int .i64 D.left) (.slice (some ⟨g1, 0, none⟩) N N) (.slice (some ⟨g2, 0, none⟩) N N) pv (crB D keep torn) D.vis D.pend ob _ ho hdl w2); (case hL => exact pmy); (case hsub => (intro _ _; exact ((List.sublist_append_right _ _).trans (List.sublist_append_right _ _)))); rintro _ _ _ - ⟨rfl, pv', ob', ho', rfl⟩) | (refine Jn ?_; try intro _)); (apply h_one 9; (case hr => kernel_rfl)); (first | (apply n_call; (case hi => rfl); (case i1 => infer_instance); (case hg => rfl); (case hd => rfl); (case ha => rfl); (case hc => exact settle_con b g1 g2 N (.bool D.off) (.int .i64 D.left) (.slice (some ⟨g1, 0, none⟩) N N) (.slice (some ⟨g2, 0, none⟩) N N) pv (crB D keep torn) D.vis D.pend ob _ ho hdl w2); (case hL => exact pmy); (case hsub => (intro _ _; exact ((List.sublist_append_right _ _).trans (List.sublist_append_right _ _)))); rintro _ _ _ - ⟨rfl, pv', ob', ho', rfl⟩) | (refine Jn ?_; try intro _)); (apply h_end; (case hr => kernel_rfl)); (apply q_then; exact q_cut ⟨rfl, pv', ob', ho', rfl, rfl⟩ (by repeat (first | exact Sub.nil rfl | exact Sub.marked rfl | refine Sub.cons rfl ?_)) (List.Sublist.refl _)))))
    rintro S2 L2 F2 ⟨rfl, pv', ob', ho', rfl, rfl⟩
    (repeat (first | refine Jc ?_ | (apply s_store_part; (case hg => rfl); (case hx => rfl); (case hy => rfl); (case h1 => rfl); (case hv => rfl); (case hc => rfl); (case hL => (repeat (first | exact Upd.head | apply Upd.tail | apply Upd.app))); (case hu => rfl)) | refine Jo ?_ | intro _))
    refine o_ret (L' := (b, .cells [.bool false, .int .i64 0, .slice (some ⟨g1, 0, none⟩) N N, .slice (some ⟨g2, 0, none⟩) N N, pv'].toArray 65 (0, 0)) :: (g1, .cells (cellsOf (crB D keep torn)).toArray 5 (0, 0)) :: (g2, .cells (cellsOf (crB D keep torn)).toArray 5 (0, 0)) :: ob') Try.results25 rfl (List.sublist_append_left _ _) ⟨OwD.mk' (D := crD D keep torn) (N := N) ho' ⟨hdl, hdl, hw.pos, hw.max, ⟨by simp [crD], by simp [crD]⟩, by simp [crD]⟩ (List.Perm.refl _), rfl⟩
  obtain ⟨x, hx⟩ := at_lt hlt
  obtain ⟨q1, q2⟩ := hin x (List.mem_of_getElem? hx)
  obtain ⟨xn, rfl⟩ : ∃ xn : Nat, x = xn := ⟨x.toNat, by omega⟩
  obtain ⟨⟨wo, ws⟩, hy⟩ := at_lt (l := D.pend) (k := xn) (by omega)
  have hsa := surv_at D.pend torn o hlt
  rw [survAt_eq hx (by simpa using hy), hsv] at hsa
  have hwf := hw.fit _ (List.mem_of_getElem? hy)
  simp only at hwf
  by_cases t1 : k + 1 = o.length
  by_cases t2 : 0 ≤ torn
  · obtain ⟨tn, rfl⟩ : ∃ tn : Nat, torn = tn := ⟨torn.toNat, by omega⟩
    unfold dkB
    have hsa' : sv[k]? = some ⟨wo, ws.take tn⟩ := by rw [hsa, if_pos t1, tear, if_pos t2]; rfl
    have hmin : ws.take (min tn ws.length) = ws.take tn := by rw [List.take_eq_take_iff]; omega
    have htk := take_at hsa'
    (repeat (first | refine Jc ?_ | (apply s_idxq ho4 (List.Perm.refl _); (case hg => rfl); (case hd => rfl); (case hx => rfl); (case hi => rfl); (case hu => exact hx); intro p5 hp5) | (apply s_evb; (case hg => rfl); (case hd => rfl); (case hn => rfl); (case he => ((apply ev_load_src1; (case hx => rfl); (case h => exact hp5))))) | (apply s_idxq ho; (case hL => (repeat (first | exact pm_nil _ | exact pm_refl _ _ | exact pm_self _ | apply pm_cons | apply pm_app))); (case hg => rfl); (case hd => rfl); (case hx => rfl); (case hi => rfl); (case hu => exact hy); intro p6 (hp6 : Src _ _ _ p6 [.int .i64 (wo : Nat), strV ws])) | (apply s_evb; (case hg => rfl); (case hd => rfl); (case hn => rfl); (case he => ((apply ev_load_src_ag; (case hx => rfl); (case h => exact hp6); (case hl => rfl))))) | (apply s_evb; (case hg => rfl); (case hd => rfl); (case hn => rfl); (case he => (apply ev_len_b; rfl))) | (apply s_minn; (case hg => rfl); (case hd => rfl); (case hx => rfl); (case hy => rfl)) | (apply s_evb; (case hg => rfl); (case hd => rfl); (case hn => rfl); (case he => ((apply ev_slice_bh; (case hx => rfl); (case hz => rfl); (case hj => omega))))) | refine Jo ?_ | intro _))
    rename_i bw
    ((apply c_held ([(bw, .cells [.int .i64 (wo : Nat), strV (ws.take (min tn ws.length))].toArray 69 (0, 0)), (bx, .cells [.pointer (some ⟨b, 0, none⟩)].toArray 23 (0, 0)), (b, .cells [.bool D.off, .int .i64 D.left, .slice (some ⟨g1, 0, none⟩) N N, .slice (some ⟨g2, 0, none⟩) N N, pv].toArray 65 (0, 0))]); (case hL => (repeat (first | exact List.Sublist.refl _ | exact List.Sublist.slnil | exact List.nil_sublist _ | exact List.sublist_append_left _ _ | apply List.Sublist.cons_cons | (apply List.Sublist.append; exact List.Sublist.refl _) | apply List.Sublist.cons | refine List.Sublist.trans ?_ (List.sublist_append_right _ _))))); refine Jf 0 ?_; refine Jf 1 ?_; refine Jf 2 ?_; refine Jf 3 ?_; refine Jf 4 ?_; (apply h_one 5; (case hr => kernel_rfl)); (first | (apply n_call; (case hi => rfl); (case i1 => infer_instance); (case hg => rfl); (case hd => rfl); (case ha => rfl); (case hc => exact onto_con g1 N wo (applyL D.dur (sv.take k)) (ws.take (min tn ws.length)) _ hdl (by simp only [List.length_take]; omega)); (case hL => exact pmx); (case hsub => (intro _ _; exact (List.Sublist.trans (by repeat (first | exact List.Sublist.refl _ | exact List.Sublist.slnil | exact List.nil_sublist _ | exact List.sublist_append_left _ _ | refine List.Sublist.cons_cons _ ?_ | refine List.Sublist.append (List.Sublist.refl _) ?_ | refine List.Sublist.cons _ ?_ | refine List.Sublist.trans ?_ (List.sublist_append_right _ _))) (List.sublist_append_right _ _)))); rintro _ _ _ - ⟨rfl, rfl⟩) | (refine Jn ?_; try intro _)); (apply h_end; (case hr => kernel_rfl)); (refine W.perm ?_ pmx.symm; (repeat (first | refine Jz ?_ | intro _)); refine q_back (L' := ob4 ++ (bx, .cells [.pointer (some ⟨b, 0, none⟩)].toArray 23 (0, 0)) :: dkB b g1 g2 N pv ob { D with dur := applyL D.dur (sv.take (k + 1)) }) (m' := o.length - (k + 1)) ⟨rfl, k + 1, rfl, by omega, rfl, rfl⟩ (by omega) (by repeat (first | exact Sub.nil rfl | exact Sub.marked rfl | refine Sub.cons rfl ?_)) ?_; rw [htk, applyL_snoc]; simp only [hmin, dkB]; exact (List.Sublist.refl _).cons _))
  · unfold dkB
    have hsa' : sv[k]? = some ⟨wo, ws⟩ := by rw [hsa, if_pos t1, tear, if_neg t2]
    have htk := take_at hsa'
    (repeat (first | refine Jc ?_ | (apply s_idxq ho4 (List.Perm.refl _); (case hg => rfl); (case hd => rfl); (case hx => rfl); (case hi => rfl); (case hu => exact hx); intro p5 hp5) | (apply s_evb; (case hg => rfl); (case hd => rfl); (case hn => rfl); (case he => ((apply ev_load_src1; (case hx => rfl); (case h => exact hp5))))) | (apply s_idxq ho; (case hL => (repeat (first | exact pm_nil _ | exact pm_refl _ _ | exact pm_self _ | apply pm_cons | apply pm_app))); (case hg => rfl); (case hd => rfl); (case hx => rfl); (case hi => rfl); (case hu => exact hy); intro p6 (hp6 : Src _ _ _ p6 [.int .i64 (wo : Nat), strV ws])) | (apply s_evb; (case hg => rfl); (case hd => rfl); (case hn => rfl); (case he => ((apply ev_load_src_ag; (case hx => rfl); (case h => exact hp6); (case hl => rfl))))) | (apply s_evb; (case hg => rfl); (case hd => rfl); (case hn => rfl); (case he => (apply ev_len_b; rfl))) | (apply s_minn; (case hg => rfl); (case hd => rfl); (case hx => rfl); (case hy => rfl)) | (apply s_evb; (case hg => rfl); (case hd => rfl); (case hn => rfl); (case he => ((apply ev_slice_bh; (case hx => rfl); (case hz => rfl); (case hj => omega))))) | refine Jo ?_ | intro _))
    rename_i bw
    ((apply c_held ([(bw, .cells [.int .i64 (wo : Nat), strV (ws)].toArray 69 (0, 0)), (bx, .cells [.pointer (some ⟨b, 0, none⟩)].toArray 23 (0, 0)), (b, .cells [.bool D.off, .int .i64 D.left, .slice (some ⟨g1, 0, none⟩) N N, .slice (some ⟨g2, 0, none⟩) N N, pv].toArray 65 (0, 0))]); (case hL => (repeat (first | exact List.Sublist.refl _ | exact List.Sublist.slnil | exact List.nil_sublist _ | exact List.sublist_append_left _ _ | apply List.Sublist.cons_cons | (apply List.Sublist.append; exact List.Sublist.refl _) | apply List.Sublist.cons | refine List.Sublist.trans ?_ (List.sublist_append_right _ _))))); refine Jf 0 ?_; refine Jf 1 ?_; refine Jf 2 ?_; refine Jf 3 ?_; refine Jf 4 ?_; (apply h_one 5; (case hr => kernel_rfl)); (first | (apply n_call; (case hi => rfl); (case i1 => infer_instance); (case hg => rfl); (case hd => rfl); (case ha => rfl); (case hc => exact onto_con g1 N wo (applyL D.dur (sv.take k)) (ws) _ hdl hwf); (case hL => exact pmx); (case hsub => (intro _ _; exact (List.Sublist.trans (by repeat (first | exact List.Sublist.refl _ | exact List.Sublist.slnil | exact List.nil_sublist _ | exact List.sublist_append_left _ _ | refine List.Sublist.cons_cons _ ?_ | refine List.Sublist.append (List.Sublist.refl _) ?_ | refine List.Sublist.cons _ ?_ | refine List.Sublist.trans ?_ (List.sublist_append_right _ _))) (List.sublist_append_right _ _)))); rintro _ _ _ - ⟨rfl, rfl⟩) | (refine Jn ?_; try intro _)); (apply h_end; (case hr => kernel_rfl)); (refine W.perm ?_ pmx.symm; (repeat (first | refine Jz ?_ | intro _)); refine q_back (L' := ob4 ++ (bx, .cells [.pointer (some ⟨b, 0, none⟩)].toArray 23 (0, 0)) :: dkB b g1 g2 N pv ob { D with dur := applyL D.dur (sv.take (k + 1)) }) (m' := o.length - (k + 1)) ⟨rfl, k + 1, rfl, by omega, rfl, rfl⟩ (by omega) (by repeat (first | exact Sub.nil rfl | exact Sub.marked rfl | refine Sub.cons rfl ?_)) ?_; rw [htk, applyL_snoc]; simp only [dkB]; exact (List.Sublist.refl _).cons _))
  · unfold dkB
    have hsa' : sv[k]? = some ⟨wo, ws⟩ := by rw [hsa, if_neg t1]
    have htk := take_at hsa'
    (repeat (first | refine Jc ?_ | (apply s_idxq ho4 (List.Perm.refl _); (case hg => rfl); (case hd => rfl); (case hx => rfl); (case hi => rfl); (case hu => exact hx); intro p5 hp5) | (apply s_evb; (case hg => rfl); (case hd => rfl); (case hn => rfl); (case he => ((apply ev_load_src1; (case hx => rfl); (case h => exact hp5))))) | (apply s_idxq ho; (case hL => (repeat (first | exact pm_nil _ | exact pm_refl _ _ | exact pm_self _ | apply pm_cons | apply pm_app))); (case hg => rfl); (case hd => rfl); (case hx => rfl); (case hi => rfl); (case hu => exact hy); intro p6 (hp6 : Src _ _ _ p6 [.int .i64 (wo : Nat), strV ws])) | (apply s_evb; (case hg => rfl); (case hd => rfl); (case hn => rfl); (case he => ((apply ev_load_src_ag; (case hx => rfl); (case h => exact hp6); (case hl => rfl))))) | (apply s_evb; (case hg => rfl); (case hd => rfl); (case hn => rfl); (case he => (apply ev_len_b; rfl))) | (apply s_minn; (case hg => rfl); (case hd => rfl); (case hx => rfl); (case hy => rfl)) | (apply s_evb; (case hg => rfl); (case hd => rfl); (case hn => rfl); (case he => ((apply ev_slice_bh; (case hx => rfl); (case hz => rfl); (case hj => omega))))) | refine Jo ?_ | intro _))
    rename_i bw
    ((apply c_held ([(bw, .cells [.int .i64 (wo : Nat), strV (ws)].toArray 69 (0, 0)), (bx, .cells [.pointer (some ⟨b, 0, none⟩)].toArray 23 (0, 0)), (b, .cells [.bool D.off, .int .i64 D.left, .slice (some ⟨g1, 0, none⟩) N N, .slice (some ⟨g2, 0, none⟩) N N, pv].toArray 65 (0, 0))]); (case hL => (repeat (first | exact List.Sublist.refl _ | exact List.Sublist.slnil | exact List.nil_sublist _ | exact List.sublist_append_left _ _ | apply List.Sublist.cons_cons | (apply List.Sublist.append; exact List.Sublist.refl _) | apply List.Sublist.cons | refine List.Sublist.trans ?_ (List.sublist_append_right _ _))))); refine Jf 0 ?_; refine Jf 1 ?_; refine Jf 2 ?_; refine Jf 3 ?_; refine Jf 4 ?_; (apply h_one 5; (case hr => kernel_rfl)); (first | (apply n_call; (case hi => rfl); (case i1 => infer_instance); (case hg => rfl); (case hd => rfl); (case ha => rfl); (case hc => exact onto_con g1 N wo (applyL D.dur (sv.take k)) (ws) _ hdl hwf); (case hL => exact pmx); (case hsub => (intro _ _; exact (List.Sublist.trans (by repeat (first | exact List.Sublist.refl _ | exact List.Sublist.slnil | exact List.nil_sublist _ | exact List.sublist_append_left _ _ | refine List.Sublist.cons_cons _ ?_ | refine List.Sublist.append (List.Sublist.refl _) ?_ | refine List.Sublist.cons _ ?_ | refine List.Sublist.trans ?_ (List.sublist_append_right _ _))) (List.sublist_append_right _ _)))); rintro _ _ _ - ⟨rfl, rfl⟩) | (refine Jn ?_; try intro _)); (apply h_end; (case hr => kernel_rfl)); (refine W.perm ?_ pmx.symm; (repeat (first | refine Jz ?_ | intro _)); refine q_back (L' := ob4 ++ (bx, .cells [.pointer (some ⟨b, 0, none⟩)].toArray 23 (0, 0)) :: dkB b g1 g2 N pv ob { D with dur := applyL D.dur (sv.take (k + 1)) }) (m' := o.length - (k + 1)) ⟨rfl, k + 1, rfl, by omega, rfl, rfl⟩ (by omega) (by repeat (first | exact Sub.nil rfl | exact Sub.marked rfl | refine Sub.cons rfl ?_)) ?_; rw [htk, applyL_snoc]; simp only [dkB]; exact (List.Sublist.refl _).cons _))
end Go.Proofs.Ytdbkjegpeoopaaa
namespace Go.Proofs.Ytdbkjegpeoopaaa
open Go Go.X
set_option maxRecDepth 10000
set_option linter.unusedVariables false
attribute [local irreducible] Code.wpIn wpListIn Exit.then Exit.inBlock X.Out X.Back X.W X.Ev X.Con X.BinV X.Wh X.Wn X.Wq
theorem sorted_ext : ∀ (a b : List Int), a.Pairwise (· < ·) → b.Pairwise (· < ·) → (∀ x, x ∈ a ↔ x ∈ b) → a = b
  | [], b, _, _, h => (List.eq_nil_iff_forall_not_mem.2 fun x hx => by simpa using (h x).2 hx).symm
  | x :: a, [], _, _, h => by have := (h x).1 List.mem_cons_self; simp at this
  | x :: a, y :: b, ha, hb, h => by
    rw [List.pairwise_cons] at ha hb
    have hxy : x = y := Classical.byContradiction fun hne => by
      have h1 := (h x).1 List.mem_cons_self
      have h2 := (h y).2 List.mem_cons_self
      simp only [List.mem_cons] at h1 h2
      rcases h1 with h1 | h1
      · exact hne h1
      rcases h2 with h2 | h2
      · exact hne h2.symm
      have := hb.1 x h1
      have := ha.1 y h2
      omega
    subst hxy
    rw [sorted_ext a b ha.2 hb.2 fun z => ⟨fun hz => ?_, fun hz => ?_⟩]
    · have h1 := (h z).1 (List.mem_cons_of_mem _ hz)
      have h2 := ha.1 z hz
      simp only [List.mem_cons] at h1
      rcases h1 with h1 | h1
      · omega
      · exact h1
    · have h1 := (h z).2 (List.mem_cons_of_mem _ hz)
      have h2 := hb.1 z hz
      simp only [List.mem_cons] at h1
      rcases h1 with h1 | h1
      · omega
      · exact h1
/-- Which of the numbers below m are in a list. -/
def kept (m : Nat) (keep : List Int) : List Nat := (List.range m).filter fun (i : Nat) => decide ((i : Int) ∈ keep)
theorem orderOf_eq (m : Nat) (keep : List Int) : orderOf m keep = (kept m keep).map fun (i : Nat) => (i : Int) := by
  obtain ⟨h1, h2⟩ := sorted_spec keep
  refine sorted_ext _ _ (h1.filter _) ?_ fun x => ?_
  · rw [List.pairwise_map]
    exact (List.pairwise_lt_range.filter _).imp fun h => by omega
  · simp only [orderOf, kept, List.mem_filter, h2, gone, List.mem_map, List.mem_range, decide_eq_true_eq]
    simp only [Bool.not_eq_true', Bool.or_eq_false_iff, decide_eq_false_iff_not]
    constructor
    · rintro ⟨h3, h4, h5⟩
      exact ⟨x.toNat, ⟨by omega, by rw [Int.toNat_of_nonneg (by omega)]; exact h3⟩, by omega⟩
    · rintro ⟨i, ⟨h3, h4⟩, rfl⟩
      exact ⟨h4, by omega, by omega⟩
def tearLast (torn : Int) : List Wr → List Wr
  | [] => []
  | [w] => [tear torn w]
  | w :: v :: r => w :: tearLast torn (v :: r)
theorem tearLast_len (torn : Int) : ∀ ws : List Wr, (tearLast torn ws).length = ws.length
  | [] => rfl
  | [w] => rfl
  | w :: v :: r => by simp only [tearLast, List.length_cons, tearLast_len torn (v :: r)]
theorem tearLast_at (torn : Int) : ∀ (ws : List Wr) (k : Nat) (w : Wr), ws[k]? = some w → (tearLast torn ws)[k]? = some (if k + 1 = ws.length then tear torn w else w)
  | [], k, w, h => by simp at h
  | [v], k, w, h => by
    cases k with
    | zero => simp at h; subst h; simp [tearLast]
    | succ k => simp at h
  | u :: v :: r, k, w, h => by
    cases k with
    | zero => simp at h; subst h; simp [tearLast]
    | succ k =>
      simp only [List.getElem?_cons_succ] at h
      have := tearLast_at torn (v :: r) k w h
      simp only [tearLast, List.getElem?_cons_succ, this, List.length_cons]
      congr 1
      by_cases e : k + 1 = r.length + 1
      · rw [if_pos e, if_pos (by omega)]
      · rw [if_neg e, if_neg (by omega)]
def keepW (pend : List Wr) (keep : List Int) : List Wr := (kept pend.length keep).map fun i => pend[i]!
theorem surv_eq (pend : List Wr) (torn : Int) (keep : List Int) : surv pend torn (orderOf pend.length keep) = tearLast torn (keepW pend keep) := by
  rw [orderOf_eq]
  apply List.ext_getElem?
  intro k
  by_cases hk : k < (kept pend.length keep).length
  · obtain ⟨i, hi⟩ := at_lt hk
    have hm := List.mem_of_getElem? hi
    simp only [kept, List.mem_filter, List.mem_range] at hm
    obtain ⟨w, hw⟩ := at_lt hm.1
    have e2 : pend[i]! = w := by rw [List.getElem!_eq_getElem?_getD, hw]; rfl
    rw [surv_at _ _ _ (by simpa using hk), survAt_eq (x := (i : Int)) (w := w) (by simp [hi]) (by simpa using hw), tearLast_at torn _ k w (by simp [keepW, hi, hw])]
    simp [keepW]
  · rw [List.getElem?_eq_none (by simp [surv]; omega), List.getElem?_eq_none (by rw [tearLast_len]; simp [keepW]; omega)]
theorem crB_eq (D : Dk) (keep : List Int) (torn : Int) : crB D keep torn = applyL D.dur (tearLast torn (keepW D.pend keep)) := by rw [crB, surv_eq]
end Go.Proofs.Ytdbkjegpeoopaaa
namespace Go.Proofs.Ytdbkjegpeoopaaa
open Go Go.X
set_option maxRecDepth 10000
set_option linter.unusedVariables false
attribute [local irreducible] Code.wpIn wpListIn Exit.then Exit.inBlock X.Out X.Back X.W X.Ev X.Con X.BinV X.Wh X.Wn X.Wq
def pick (c n : Int) : Int := (if c < 0 then -(c + 1) else c) % n
theorem pick_con (c n : Int) (S : SH) (hc : i64 c) (hn : 0 < n) : Con Try.prog 15 #[.int .i64 c, .int .i64 n] S [] (Pure S (.int .i64 (pick c n))) := by
  refine con_of (args := [.int .i64 c, .int .i64 n]) Try.func15 rfl Try.ntmps15 rfl fun w => ?_
  unfold i64 at hc
  by_cases h1 : c < 0
  all_goals (repeat (first | refine Jz ?_ | intro _))
  all_goals
    refine o_ret Try.results15 rfl (by repeat (first | exact List.Sublist.refl _ | exact List.Sublist.slnil | exact List.nil_sublist _ | exact List.sublist_append_left _ _ | refine List.Sublist.cons_cons _ ?_ | refine List.Sublist.append (List.Sublist.refl _) ?_ | refine List.Sublist.cons _ ?_ | refine List.Sublist.trans ?_ (List.sublist_append_right _ _))) ⟨rfl, rfl, ?_⟩
    simp [pick, h1]
theorem pick_lt (c n : Int) (hn : 0 < n) : 0 ≤ pick c n ∧ pick c n < n := by
  unfold pick; exact ⟨Int.emod_nonneg _ (by omega), Int.emod_lt_of_pos _ hn⟩
theorem pick_v {c n : Int} {S : SH} {m : Int} (hc : i64 c) (hn : 0 < n) (h : pick c n = m) : Con Try.prog 15 #[.int .i64 c, .int .i64 n] S [] (Pure S (.int .i64 m)) := h ▸ pick_con c n S hc hn
structure Wp where
  off : Int
  s : Bs
  sync : Bool
instance : Cl Wp := ⟨3, fun w => [.int .i64 w.off, strV w.s, .bool w.sync], fun _ => rfl, fun _ u hu => by simp at hu; rcases hu with rfl | rfl | rfl <;> rfl⟩
def fitO (w : Wp) (N : Nat) : Nat := (pick w.off (N + 1)).toNat
def fitS (w : Wp) (N : Nat) : Bs := w.s.take (N - fitO w N)
theorem fitO_le (w : Wp) (N : Nat) : fitO w N ≤ N := by have := pick_lt w.off (N + 1) (by omega); unfold fitO; omega
theorem fitS_le (w : Wp) (N : Nat) : fitO w N + (fitS w N).length ≤ N := by have := fitO_le w N; simp only [fitS, List.length_take]; omega
theorem fits_con (y : Wp) (N : Nat) (S : SH) (hw : i64 y.off) (hN : N ≤ 4194304) : Con Try.prog 26 #[.agg [.int .i64 y.off, strV y.s, .bool y.sync].toArray, .int .i64 N] S [] (Pure S (.agg [.int .i64 (fitO y N), strV (fitS y N), .bool y.sync].toArray)) := by
  refine con_of (args := [.agg [.int .i64 y.off, strV y.s, .bool y.sync].toArray, .int .i64 N]) Try.func26 rfl Try.ntmps26 rfl fun w => ?_
  have hp := pick_lt y.off (N + 1) (by omega)
  have hle := fitO_le y N
  have hpe : pick y.off (N + 1) = (fitO y N : Nat) := by unfold fitO; omega
  (repeat (first | refine Jc ?_ | (apply s_call; (case hg => rfl); (case hd => rfl); (case ha => rfl); (case hc => exact pick_v hw (by omega) hpe); (case hL => (repeat (first | exact pm_nil _ | exact pm_refl _ _ | exact pm_self _ | apply pm_cons | apply pm_app))); rintro _ _ _ - ⟨rfl, rfl, rfl⟩) | (apply s_bin; (case hg => rfl); (case hd => rfl); (case hx => rfl); (case hy => rfl); (case hb => (apply bv_subn; omega))) | (apply s_call; (case hg => rfl); (case hd => rfl); (case ha => rfl); (case hc => exact cut_con y.s (N - fitO y N) _); (case hL => (repeat (first | exact pm_nil _ | exact pm_refl _ _ | exact pm_self _ | apply pm_cons | apply pm_app))); rintro _ _ _ - ⟨rfl, rfl, rfl⟩) | refine Jo ?_ | intro _))
  exact o_ret_cell (cs := [.int .i64 (fitO y N), strV (fitS y N), .bool y.sync]) Try.results26 rfl (by repeat (first | exact List.Mem.head _ | refine List.Mem.tail _ ?_ | exact List.mem_append_right _ (List.Mem.head _))) rfl (by repeat (first | exact List.Sublist.refl _ | exact List.Sublist.slnil | exact List.nil_sublist _ | exact List.sublist_append_left _ _ | refine List.Sublist.cons_cons _ ?_ | refine List.Sublist.append (List.Sublist.refl _) ?_ | refine List.Sublist.cons _ ?_ | refine List.Sublist.trans ?_ (List.sublist_append_right _ _))) ⟨rfl, rfl, rfl⟩
theorem lset_snoc {α : Type} (B t : List α) (o : Nat) (c : α) (h : o + t.length < B.length) : (lset B o t).set (o + t.length) c = lset B o (t ++ [c]) := by
  have h1 : (B.take o ++ t).length = o + t.length := by simp; omega
  have h2 : B.drop (o + t.length) = B[o + t.length] :: B.drop (o + t.length + 1) := List.drop_eq_getElem_cons h
  simp only [lset]
  rw [List.set_append_right _ _ (by omega), h1, Nat.sub_self, h2, List.set_cons_zero]
  simp [Nat.add_assoc]
theorem bytes_set (B : Bs) (i : Nat) (c : UInt8) : (cellsOf B).set i (.int .u8 (c.toNat : Int)) = cellsOf (B.set i c) := by
  rw [cellsOf_u8, cellsOf_u8, List.map_set]
theorem put_con (g N o : Nat) (B s : Bs) (S : SH) (h : B.length = N) (ho : o + s.length ≤ N) (hN : N ≤ 4194304) : Con Try.prog 27 #[.slice (some ⟨g, 0, none⟩) N N, .int .i64 o, strV s] S [(g, .cells (cellsOf B).toArray 5 (0, 0))]
    (fun S' L' r => S' = S ∧ L' = [(g, .cells (cellsOf (lset B o s)).toArray 5 (0, 0))]) := by
  refine con_of (args := [.slice (some ⟨g, 0, none⟩) N N, .int .i64 o, strV s]) Try.func27 rfl Try.ntmps27 rfl fun w => ?_
  (repeat (first | refine Jz ?_ | intro _))
  refine c_loop (fun m S' L F => S' = S ∧ ∃ (k : Nat), m = s.length - k ∧ k ≤ s.length ∧ L = [(g, .cells (cellsOf (lset B o (s.take k))).toArray 5 (0, 0))] ∧
      F = [(0, .slice (some ⟨g, 0, none⟩) N N), (1, .int .i64 o), (2, strV s), (6, .int .i64 k)]) ⟨rfl, 0, rfl, by omega, by rw [List.take_zero, lset_nil], rfl⟩ (by repeat (first | exact Sub.nil rfl | exact Sub.marked rfl | refine Sub.cons rfl ?_)) (List.Sublist.refl _) ?_
  rintro m S' L F ⟨rfl, k, rfl, hk1, rfl, rfl⟩
  by_cases hlt : k < s.length
  rotate_left
  · (repeat (first | refine Jc ?_ | (apply s_evb; (case hg => rfl); (case hd => rfl); (case hn => rfl); (case he => (apply ev_len_b; rfl))) | refine Jo ?_ | intro _))
    rw [List.take_of_length_le (by omega)]
    exact o_ret0 (.inr rfl) Try.results27 (List.Sublist.refl _) ⟨rfl, rfl⟩
  obtain ⟨c, hc⟩ := at_lt hlt
  have hl : (lset B o (s.take k)).length = N := by rw [lset_len (by simp; omega), h]
  have hc2 : (cellsOf (lset B o (s.take k)))[o + k]? = some (.int .u8 (((lset B o (s.take k))[o + k]'(by omega)).toNat : Int)) := by
    rw [cellsOf_u8, List.getElem?_map, List.getElem?_eq_getElem (by omega)]; rfl
  (repeat (first | refine Jc ?_ | (apply s_evb; (case hg => rfl); (case hd => rfl); (case hn => rfl); (case he => (apply ev_len_b; rfl))) | (apply s_bin; (case hg => rfl); (case hd => rfl); (case hx => rfl); (case hy => rfl); (case hb => (apply bv_addn; omega))) | (apply s_evb; (case hg => rfl); (case hd => rfl); (case hn => rfl); (case he => ((apply ev_index_b; (case hx => rfl); (case hi => rfl); (case hu => exact hc))))) | (apply s_store; (case hg => rfl); (case hx => rfl); (case hy => rfl); (case h1 => rfl); (case hL => exact Upd.head); (case hu => exact hc2)) | refine Jo ?_ | intro _))
  have e1 : (s.take k).length = k := by simp; omega
  have e2 := lset_snoc B (s.take k) o c (by omega)
  rw [e1, ← take_at hc] at e2
  rw [bytes_set, e2]
  exact q_back (m' := s.length - (k + 1)) ⟨rfl, k + 1, rfl, by omega, rfl, rfl⟩ (by omega) (by repeat (first | exact Sub.nil rfl | exact Sub.marked rfl | refine Sub.cons rfl ?_)) (List.Sublist.refl _)
end Go.Proofs.Ytdbkjegpeoopaaa
namespace Go.Proofs.Ytdbkjegpeoopaaa
open Go Go.X
set_option maxRecDepth 10000
set_option linter.unusedVariables false
attribute [local irreducible] Code.wpIn wpListIn Exit.then Exit.inBlock X.Out X.Back X.W X.Ev X.Con X.BinV X.Wh X.Wn X.Wq
theorem OwD.form {v : Value} {D : Dk} {L : Blocks} (h : OwD v D L) : ∃ b, v = .pointer (some ⟨b, 0, none⟩) := by obtain ⟨b, _, _, _, _, _, rfl, _⟩ := h; exact ⟨b, rfl⟩
def Chg (v : Value) (D' : Dk) (S : SH) (e : Int) : SH → Blocks → Value → Prop := fun S' L' r => S' = S ∧ OwD v D' L' ∧ r = .int .i64 e
theorem Write_v {v : Value} {D D' : Dk} {L : Blocks} (h : OwD v D L) {S : SH} {off e : Int} {s : Bs} (h1 : i64 off) (hs : s.length ≤ 9223372036854775807) (hl : D.pend.length ≤ 1000000) (hd : wrD D off s = D') (he : wrE D off s = e) : Con Try.prog 21 #[v, .int .i64 off, strV s] S L (Chg v D' S e) := by
  subst hd; subst he; exact Write_con h S off s h1 hs hl
theorem Sync_v {v : Value} {D D' : Dk} {L : Blocks} (h : OwD v D L) {S : SH} {e : Int} (hd : syncD D = D') (he : (if D.off then 321 else 0) = e) : Con Try.prog 23 #[v] S L (Chg v D' S e) := by
  subst hd; subst he; exact Sync_con h S
theorem Cut_v {v : Value} {D D' : Dk} {L : Blocks} (h : OwD v D L) {S : SH} {n e : Int} (h1 : i64 n) (hd : cutD D n = D') (he : cutE D n = e) : Con Try.prog 24 #[v, .int .i64 n] S L (Chg v D' S e) := by
  subst hd; subst he; exact Cut_con h S n h1
theorem Read_v {v : Value} {D : Dk} {L : Blocks} (h : OwD v D L) {S : SH} {off n e : Int} {t : Bs} (h1 : i64 off) (h2 : i64 n) (he : readV D off n = .tuple #[strV t, .int .i64 e]) : Con Try.prog 14 #[v, .int .i64 off, .int .i64 n] S L (Kp v D S (.tuple #[strV t, .int .i64 e])) := he ▸ Read_con h S off n h1 h2
theorem Size_v {v : Value} {D : Dk} {L : Blocks} (h : OwD v D L) {S : SH} {n : Int} (he : (D.dur.length : Int) = n) : Con Try.prog 16 #[v] S L (Kp v D S (.int .i64 n)) := he ▸ Size_con h S
theorem Pending_v {v : Value} {D : Dk} {L : Blocks} (h : OwD v D L) {S : SH} {n : Int} (he : (D.pend.length : Int) = n) : Con Try.prog 17 #[v] S L (Kp v D S (.int .i64 n)) := he ▸ Pending_con h S
theorem Crash_v {v : Value} {D D' : Dk} {L : Blocks} (h : OwD v D L) {S : SH} {keep : List Int} {A : Option Addr} {m c : Nat} {torn : Int} (hA : At S A keep) (hm : keep.length = m) (hk : keep.length ≤ 1000000) (hk64 : ∀ x ∈ keep, i64 x) (h64 : i64 torn) (hpl : D.pend.length ≤ 2000000) (hd : crD D keep torn = D') :
    Con Try.prog 25 #[v, .slice A m c, .int .i64 torn] S L (fun S' L' r => OwD v D' L' ∧ r = .int .i64 0) := by
  subst hd; subst hm; exact Crash_con h S keep A c torn hA hk hk64 h64 hpl
theorem New_v {N : Nat} {n : Int} {S : SH} (hn : n = N) (h : 1 ≤ N ∧ N ≤ 4194304) : Con Try.prog 13 #[.int .i64 n] S [] (fun S' L' r => S' = S ∧ ∃ v, OwD v (newD N) L' ∧ r = .tuple #[v, .int .i64 0]) := by
  subst hn; exact New_con N S h
theorem New_n {n : Int} {S : SH} (h : n < 1 ∨ 4194304 < n) (h64 : i64 n) : Con Try.prog 13 #[.int .i64 n] S [] (Pure S (.tuple #[.pointer none, .int .i64 2])) := New_bad n S h h64
theorem i64_d {n : Int} (h : (decide (-9223372036854775808 ≤ n) && decide (n ≤ 9223372036854775807)) = true) : i64 n := by simpa [i64] using h
def D1 : Dk := ⟨false, 0, [0, 0, 0, 0], [97, 98, 0, 0], [⟨0, [97, 98]⟩]⟩
def D2 : Dk := ⟨false, 0, [0, 0, 0, 0], [97, 120, 121, 0], [⟨0, [97, 98]⟩, ⟨1, [120, 121]⟩]⟩
def D4 : Dk := ⟨false, 0, [97, 120, 0, 0], [97, 120, 0, 0], []⟩
def D5 : Dk := ⟨false, 1, [97, 120, 0, 0], [97, 120, 0, 0], []⟩
def D6 : Dk := ⟨true, 0, [97, 120, 0, 0], [97, 120, 0, 113], [⟨3, [113]⟩]⟩
theorem sane_4 : crD D2 [1, 0] 1 = D4 := by
  rw [crD, crB_eq]
  rfl
theorem sane_k : ∀ x ∈ ([1, 0] : List Int), i64 x := by
  intro x hx
  simp only [List.mem_cons, List.not_mem_nil, or_false] at hx
  rcases hx with rfl | rfl <;> exact i64_d rfl
theorem sane_con (S : SH) : Con Try.prog 12 #[] S [] (fun _ L' r => L' = [] ∧ r = .bool true) := by
  refine con_of (args := []) Try.func12 rfl Try.ntmps12 rfl fun w => ?_
  (repeat (first | refine Jc ?_ | (apply s_call; (case hg => rfl); (case hd => rfl); (case ha => rfl); (case hc => exact New_v (N := 4) rfl (by decide)); (case hL => (repeat (first | exact pm_nil _ | exact pm_refl _ _ | exact pm_self _ | apply pm_cons | apply pm_app))); rintro S1 L1 _ - ⟨rfl, v, hO, rfl⟩; obtain ⟨b, rfl⟩ := hO.form) | (apply s_call; (case hg => rfl); (case hd => rfl); (case ha => rfl); (case hc => exact New_n (.inl (by decide)) (i64_d rfl)); (case hL => (repeat (first | exact pm_nil _ | exact pm_refl _ _ | exact pm_self _ | apply pm_cons | apply pm_app))); rintro _ _ _ - ⟨rfl, rfl, rfl⟩) | (apply s_evb; (case hg => rfl); (case hd => rfl); (case hn => rfl); (case he => (apply ev_eql_p; (case hx => rfl); (case hy => rfl)))) | (apply s_call; (case hg => rfl); (case hd => rfl); (case ha => rfl); (case hc => exact Write_v hO (off := 0) (s := [97, 98]) (i64_d rfl) (by decide) (by decide) (D' := D1) (e := 0) rfl rfl); (case hL => (repeat (first | exact pm_nil _ | exact pm_refl _ _ | exact pm_self _ | apply pm_cons | apply pm_app))); rintro _ L2 _ - ⟨rfl, hO1, rfl⟩) | (apply s_call; (case hg => rfl); (case hd => rfl); (case ha => rfl); (case hc => exact Write_v hO1 (off := 1) (s := [120, 121]) (i64_d rfl) (by decide) (by decide) (D' := D2) (e := 0) rfl rfl); (case hL => (repeat (first | exact pm_nil _ | exact pm_refl _ _ | exact pm_self _ | apply pm_cons | apply pm_app))); rintro _ L3 _ - ⟨rfl, hO2, rfl⟩) | (apply s_call; (case hg => rfl); (case hd => rfl); (case ha => rfl); (case hc => exact Write_v hO2 (off := 3) (s := [122, 122]) (i64_d rfl) (by decide) (by decide) (D' := D2) (e := 320) rfl rfl); (case hL => (repeat (first | exact pm_nil _ | exact pm_refl _ _ | exact pm_self _ | apply pm_cons | apply pm_app))); rintro _ L4 _ - ⟨rfl, hO3, rfl⟩) | (apply s_call; (case hg => rfl); (case hd => rfl); (case ha => rfl); (case hc => exact Read_v hO3 (i64_d rfl) (i64_d rfl) (t := [97, 120, 121, 0]) (e := 0) rfl); (case hL => (repeat (first | exact pm_nil _ | exact pm_refl _ _ | exact pm_self _ | apply pm_cons | apply pm_app))); rintro _ L5 _ - ⟨rfl, hO4, rfl⟩) | (apply s_call; (case hg => rfl); (case hd => rfl); (case ha => rfl); (case hc => exact Pending_v hO4 (n := 2) rfl); (case hL => (repeat (first | exact pm_nil _ | exact pm_refl _ _ | exact pm_self _ | apply pm_cons | apply pm_app))); rintro _ L6 _ - ⟨rfl, hO5, rfl⟩) | (apply s_buildSlice; (case hg => rfl); (case hd => rfl); (case hp => rfl); (case hq => rfl); (case hm => rfl); (case hv => rfl); (case hl => rfl); intro b0; refine W.freeze fun S0 hle0 hb0 => ?_) | (apply s_call; (case hg => rfl); (case hd => rfl); (case ha => rfl); (case hc => exact Crash_v hO5 (keep := [1, 0]) (A := some ⟨b0, 0, none⟩) (fun _ => ⟨_, rfl, pts_block hb0 rfl⟩) rfl (by decide) sane_k (i64_d rfl) (by decide) sane_4); (case hL => (repeat (first | exact pm_nil _ | exact pm_refl _ _ | exact pm_self _ | apply pm_cons | apply pm_app))); rintro S7 L7 _ hle7 ⟨hO7, rfl⟩) | (apply s_call; (case hg => rfl); (case hd => rfl); (case ha => rfl); (case hc => exact Read_v hO7 (i64_d rfl) (i64_d rfl) (t := [97, 120, 0, 0]) (e := 0) rfl); (case hL => (repeat (first | exact pm_nil _ | exact pm_refl _ _ | exact pm_self _ | apply pm_cons | apply pm_app))); rintro _ L8 _ - ⟨rfl, hO8, rfl⟩) | (apply s_call; (case hg => rfl); (case hd => rfl); (case ha => rfl); (case hc => exact Cut_v hO8 (i64_d rfl) (D' := D5) (e := 0) rfl rfl); (case hL => (repeat (first | exact pm_nil _ | exact pm_refl _ _ | exact pm_self _ | apply pm_cons | apply pm_app))); rintro _ L9 _ - ⟨rfl, hO9, rfl⟩) | (apply s_call; (case hg => rfl); (case hd => rfl); (case ha => rfl); (case hc => exact Write_v hO9 (off := 3) (s := [113]) (i64_d rfl) (by decide) (by decide) (D' := D6) (e := 0) rfl rfl); (case hL => (repeat (first | exact pm_nil _ | exact pm_refl _ _ | exact pm_self _ | apply pm_cons | apply pm_app))); rintro _ L10 _ - ⟨rfl, hO10, rfl⟩) | (apply s_call; (case hg => rfl); (case hd => rfl); (case ha => rfl); (case hc => exact Sync_v hO10 (D' := D6) (e := 321) rfl rfl); (case hL => (repeat (first | exact pm_nil _ | exact pm_refl _ _ | exact pm_self _ | apply pm_cons | apply pm_app))); rintro _ L11 _ - ⟨rfl, hO11, rfl⟩) | (apply s_call; (case hg => rfl); (case hd => rfl); (case ha => rfl); (case hc => exact Size_v hO11 (n := 4) rfl); (case hL => (repeat (first | exact pm_nil _ | exact pm_refl _ _ | exact pm_self _ | apply pm_cons | apply pm_app))); rintro _ L12 _ - ⟨rfl, hO12, rfl⟩) | (apply s_evb; (case hg => rfl); (case hd => rfl); (case hn => rfl); (case he => (apply ev_eql_bv (r := true); (case hx => rfl); (case hy => rfl); (case h => first | decide | assumption | (simp; done))))) | (apply s_evb; (case hg => rfl); (case hd => rfl); (case hn => rfl); (case he => (apply ev_eql_bv (r := false); (case hx => rfl); (case hy => rfl); (case h => first | decide | assumption | (simp; done))))) | refine Jo ?_ | intro _))
  exact o_ret Try.results12 rfl (by repeat (first | exact List.Sublist.refl _ | exact List.Sublist.slnil | exact List.nil_sublist _ | exact List.sublist_append_left _ _ | refine List.Sublist.cons_cons _ ?_ | refine List.Sublist.append (List.Sublist.refl _) ?_ | refine List.Sublist.cons _ ?_ | refine List.Sublist.trans ?_ (List.sublist_append_right _ _))) ⟨rfl, rfl⟩
end Go.Proofs.Ytdbkjegpeoopaaa
namespace Go.Proofs.Ytdbkjegpeoopaaa
open Go Go.X
theorem own : ownKnob Try.prog.godebug = none := by kernel_rfl
theorem laidOut : laidOutB Try.prog = true := by kernel_rfl
theorem rdb_Wp : Rdb (α := Wp) Try.prog 53 (fun _ x => i64 x.off ∧ x.s.length ≤ maxLen) := fun H enc w fuel cs x h => by
  have hl : cs.length = 3 := len_s (by kernel_rfl) Try.underlying53 h
  match cs, hl with
  | [c0, c1, c2], _ =>
  obtain ⟨a0, e0, o0⟩ := (rdb_int Try.underlying3).at_ (part_f 0 h)
  obtain ⟨a1, e1, o1⟩ := (rdb_str Try.underlying9).at_ (part_f 1 h)
  obtain ⟨a2, e2, o2⟩ := (rdb_bool Try.underlying4).at_ (part_f 2 h)
  simp [Cl.cells] at e0 e1 e2
  subst e0 e1 e2
  exact ⟨⟨a0, a1.b, a2⟩, rfl, o0, o1⟩
instance : Inhabited Wp := ⟨⟨0, [], false⟩⟩
end Go.Proofs.Ytdbkjegpeoopaaa
