/- Contracts of functions of this program, each proved by a walk through its code, and plain lemmas on what they compute; on no condition beyond those that each theorem states. -/
import Derived.Test.YtnlfohlngapkfaaGreatDoorBc
import Derived.Test.YtnlfohlngapkfaaGreatDoorXB
import Derived.Test.YtnlfohlngapkfaaGreatDoorXA
namespace Go.Proofs.YtnlfohlngapkfaaGreatDoor
open Go Go.X
set_option maxRecDepth 10000
set_option linter.unusedVariables false
attribute [local irreducible] Code.wpIn wpListIn Exit.then Exit.inBlock X.Out X.Back X.W X.Ev X.Con X.BinV X.Wh X.Wn X.Wq
attribute [local irreducible] sumK chain stw group stored
set_option maxHeartbeats 3200000 in
theorem load_con {T : TypeId} {rest : List Value} {b : Nat} {h0 : Bs} {LT0 : Blocks} (hT0 : OwT T rest b [] h0 0 LT0) (K : List UInt32) (l : List Str) (tail s : Bs) (S : SH) (hs : s = (group K h0 l).1 ++ tail)
    (hh : h0.length = 32) (hsh : ∀ r ∈ l, r.b.length ≤ 65536) (hl : l.length ≤ 100000) (hlen : s.length ≤ 1000000000) (htl : ∀ c, tail[0]? = some c → c = 0) (hK : Pts S ⟨4, 0, none⟩ (cellsOf K)) (hKl : K.length = 64) :
    Con Tryz.prog 101 #[.pointer (some ⟨b, 0, none⟩), strV s] S LT0 (fun S' L' r => OwT T rest b l (group K h0 l).2 (group K h0 l).1.length L' ∧ r = .tuple #[]) := by
  refine con_of (args := [.pointer (some ⟨b, 0, none⟩), strV s]) Tryz.func101 rfl Tryz.ntmps101 rfl fun w => ?_
  (repeat (first | refine Jz ?_ | intro _))
  refine c_loop (fun m S' L F => Le S S' ∧ ∃ (d t : List Str) (pre h : Bs), m = t.length ∧ l = d ++ t ∧ s = pre ++ ((group K h t).1 ++ tail) ∧ (group K h0 l).2 = (group K h t).2 ∧ h.length = 32 ∧ OwT T rest b d h pre.length L ∧ F = [(0, .pointer (some ⟨b, 0, none⟩)), (1, strV s)]) ⟨Le.refl _, [], l, [], h0, rfl, rfl, (show s = [] ++ _ from hs), rfl, hh, hT0, rfl⟩ sbF (List.Sublist.refl _) ?_
  rintro m S' L F ⟨hle', d, t, pre, h, rfl, hdt, hpre, hg2, hh', hT, rfl⟩
  have hKS := hK.le hle'
  cases t with
  | nil =>
    rw [group_nil] at hpre hg2
    have hout : pre = (group K h0 l).1 := by rw [hpre] at hs; exact List.append_cancel_right hs
    rw [List.append_nil] at hdt
    have hfin : OwT T rest b l (group K h0 l).2 (group K h0 l).1.length L := by rw [hg2, ← hout, hdt]; exact hT
    have hT2 := hT
    obtain ⟨rv, ob, rfl, ho⟩ := hT
    obtain ⟨A, c, rfl⟩ := ho.form
    cases tail with
    | nil =>
      have e1 : s.length = pre.length := by rw [hpre]; simp
      (repeat (first | refine Jc ?_ | (apply s_evb; (case hg => rfl); (case hd => rfl); (case hn => rfl); (case he => (apply ev_len_b; rfl))) | (apply s_evb; (case hg => rfl); (case hd => rfl); (case hn => rfl); (case he => (apply ev_nilCheck; rfl))) | refine Jo ?_ | intro _))
      exact o_ret0 (.inr rfl) Tryz.results101 (List.Sublist.refl _) ⟨hfin, rfl⟩
    | cons x tl =>
      have e1 : pre.length < s.length := by rw [hpre]; simp
      have e2 : s[pre.length]? = some 0 := by rw [hpre, List.getElem?_append_right (Nat.le_refl _)]; simp [htl x rfl]
      (repeat (first | refine Jc ?_ | (apply s_evb; (case hg => rfl); (case hd => rfl); (case hn => rfl); (case he => (apply ev_len_b; rfl))) | (apply s_evb; (case hg => rfl); (case hd => rfl); (case hn => rfl); (case he => (apply ev_nilCheck; rfl))) | (apply s_evb; (case hg => rfl); (case hd => rfl); (case hn => rfl); (case he => ((apply ev_index_b (k := pre.length); (case hx => rfl); (case hi => rfl); (case hu => exact e2))))) | refine Jo ?_ | intro _))
      exact o_ret0 (.inr rfl) Tryz.results101 (List.Sublist.refl _) ⟨hfin, rfl⟩
  | cons r t =>
    rw [group_cons] at hpre hg2
    have hrl := hsh r (by rw [hdt]; simp)
    have hsl := stored_len (K := K) (h := h) hrl
    have hcl := chain_len K h r.b
    obtain ⟨st, hst⟩ : ∃ st, st = stored K h r.b := ⟨_, rfl⟩
    obtain ⟨rs, hrs⟩ : ∃ rs, rs = (group K (chain K h r.b) t).1 ++ tail := ⟨_, rfl⟩
    have hst2 : st = [1] ++ stw r.b ++ chain K h r.b := by rw [hst]; unfold stored; rfl
    have hpre2 : s = pre ++ (st ++ rs) := by rw [hpre, hst, hrs]; simp
    have hstl : st.length = 1 + (stw r.b).length + 32 := by rw [hst2]; simp [hcl]; omega
    have hslen : s.length = pre.length + (st.length + rs.length) := by rw [hpre2]; simp
    have e1 : pre.length < s.length := by omega
    have e2 : s[pre.length]? = some 1 := by rw [hpre2, List.getElem?_append_right (Nat.le_refl _), hst2]; simp
    have e3 : s.drop (pre.length + 1) = stw r.b ++ (chain K h r.b ++ rs) := by rw [hpre2, hst2, ← List.drop_drop]; simp
    have hsv : strgV s ((pre.length : Int) + 1) = .tuple #[strV r.b, .int .i64 ((pre.length : Int) + 1 + ((stw r.b).length : Nat)), .int .i64 0] := by
      unfold strgV
      rw [if_neg (by omega), show ((pre.length : Int) + 1).toNat = pre.length + 1 by omega, e3, decS_stw hrl]
    have hcs : ∀ S'', Con Tryz.prog 141 #[strV s, .int .i64 ((pre.length : Int) + 1)] S'' [] (X.Pure S'' (.tuple #[strV r.b, .int .i64 ((pre.length : Int) + 1 + ((stw r.b).length : Nat)), .int .i64 0])) := fun S'' => (wString_con s _ S'' (by omega)).eq hsv
    have hta := tadd_con hT r.b K S' hrl hh' (by omega) (by have := congrArg List.length hdt; simp at this; omega) hKS hKl
    rw [← hst] at hta
    have hsub : (s.take (pre.length + st.length)).drop pre.length = st := by rw [hpre2]; simp [List.take_append]
    obtain ⟨rv, ob, rfl, ho⟩ := hT
    obtain ⟨A, c, rfl⟩ := ho.form
    (repeat (first | refine Jc ?_ | (apply s_evb; (case hg => rfl); (case hd => rfl); (case hn => rfl); (case he => (apply ev_len_b; rfl))) | (apply s_evb; (case hg => rfl); (case hd => rfl); (case hn => rfl); (case he => (apply ev_nilCheck; rfl))) | (apply s_evb; (case hg => rfl); (case hd => rfl); (case hn => rfl); (case he => ((apply ev_index_b (k := pre.length); (case hx => rfl); (case hi => rfl); (case hu => exact e2))))) | ((apply z_call; rfl; rfl; rfl; exact check_con_t S'; rintro S8 _ _ - ⟨rfl, rfl, rfl⟩)) | ((apply z_call; rfl; rfl; rfl; exact hcs _; rintro _ _ _ - ⟨rfl, rfl, rfl⟩)) | refine Jo ?_ | intro _))
    refine W.trim (F' := [(6, .int .i64 ((pre.length : Int) + 1 + ((stw r.b).length : Nat))), (5, strV r.b), (4, .int .i64 (pre.length : Nat)), (0, .pointer (some ⟨b, 0, none⟩)), (1, strV s)]) (L' := (b, .cells (.slice A d.length c :: strV h :: .int .i64 pre.length :: rest).toArray T (0, 0)) :: ob) sbF (List.Sublist.refl _) ?_
    have hj : ((pre.length : Int) + 1 + ((stw r.b).length : Nat) + 32) = ((pre.length + st.length : Nat) : Int) := by omega
    ((apply c_held ([]); (case hL => (exact sbT))); refine Jf 0 ?_; refine Jf 1 ?_; refine Jf 3 ?_; refine Jf 4 ?_; refine Jf 5 ?_; refine Jf 6 ?_; (apply h_first 7; (case hi => rfl); (case hr => kernel_rfl); (case hfr => kernel_rfl); (case hsel => kernel_rfl); (case hg => rfl); (case hd => rfl); (case he => (apply ev_slice_b (i := pre.length) (j := pre.length + st.length); (case hx => rfl); (case hy => rfl); (case hz => exact congrArg (fun z => some (Value.int .i64 z)) hj); (case hj => exact ⟨by omega, by omega⟩)))); (apply h_one 2; (case hr => kernel_rfl)); (apply n_call; (case hi => rfl); (case i1 => infer_instance); (case hg => rfl); (case hd => rfl); (case ha => rfl); (case hc => exact hta); (case hL => (repeat (first | exact pm_nil _ | exact pm_refl _ _ | exact pm_self _ | apply pm_cons | apply pm_app))); (case hsub => (intros; (exact sbT))); rintro S9 L9 v9 hle9 ⟨hT9, rfl⟩); (apply h_first 8; (case hi => rfl); (case hr => kernel_rfl); (case hfr => kernel_rfl); (case hsel => kernel_rfl); (case hg => rfl); (case hd => rfl); (case he => (apply ev_eql_bs' (r := true) (a := st) (b := (s.take (pre.length + st.length)).drop pre.length); (case hx => rfl); (case hy => rfl); (case h => (rw [hsub]; exact beq_self_eq_true st))))); (apply h_one 9; (case hr => kernel_rfl)); (apply n_call; (case hi => rfl); (case i1 => infer_instance); (case hg => rfl); (case hd => rfl); (case ha => rfl); (case hc => exact check_con_t S9); (case hL => (repeat (first | exact pm_nil _ | exact pm_refl _ _ | exact pm_self _ | apply pm_cons | apply pm_app))); (case hsub => (intros; (exact sbT))); rintro S10 _ _ - ⟨rfl, rfl, rfl⟩); (apply h_end; (case hr => kernel_rfl)))
    (repeat (first | refine Jz ?_ | intro _))
    rw [List.nil_append, List.append_nil]
    refine q_back (L' := L9) (m' := t.length) ⟨hle'.trans hle9, d ++ [r], t, pre ++ st, chain K h r.b, rfl, (by rw [hdt]; simp), (by rw [hpre2, hrs]; simp), hg2, hcl, (by rw [List.length_append]; exact hT9), rfl⟩ (Nat.lt_succ_self _) sbF (List.Sublist.refl _)
end Go.Proofs.YtnlfohlngapkfaaGreatDoor
namespace Go.Proofs.YtnlfohlngapkfaaGreatDoor
open Go Go.X
set_option maxRecDepth 10000
set_option linter.unusedVariables false
attribute [local irreducible] Code.wpIn wpListIn Exit.then Exit.inBlock X.Out X.Back X.W X.Ev X.Con X.BinV X.Wh X.Wn X.Wq
theorem asrt (w : World) : (Instr.typeAssert Value.nilIface 20 98 true).run Tryz.prog w = .ok (.tuple #[.nilIface, .bool false]) w := by
  first | rfl | kernel_rfl | simp [Instr.typeAssert, go_sem]
/-- The deferred closure of journal.open, nothing having panicked: it does nothing. -/
theorem open1_conD (a4 a5 : Value) (S : SH) (L : Blocks) : ConD Tryz.prog 99 #[a4, a5] S L (fun S' L' => S' = S ∧ L' = L) := by
  intro cx w hs
  refine callsDIn_of_wpSIn Tryz.func99 rfl trivial fun c₀ cs hu => ?_
  apply wpSIn_seq
  apply wpSIn_region
  simp [wpOpsSIn, go_sem, recoverD, hu, asrt, Tryz.ntmps99, Exit.thenS]
  apply wpSIn_seq
  apply wpSIn_region
  simp [wpOpsSIn, go_sem, Exit.thenS]
  refine wpSIn_cond (t := false) (by simp [Act.eval]) ?_
  refine wpSIn_of_wpIn (by simp) ?_
  simp only [Bool.false_eq_true, if_false]
  refine wpIn_skip ?_
  refine ⟨rfl, .returning, by rw [← hu], .tuple #[], by simp [results, Tryz.results99], ⟨_, rfl⟩, rfl, S, L, ⟨rfl, rfl⟩, hs⟩
end Go.Proofs.YtnlfohlngapkfaaGreatDoor
namespace Go.Proofs.YtnlfohlngapkfaaGreatDoor
open Go Go.X
set_option maxRecDepth 10000
set_option linter.unusedVariables false
attribute [local irreducible] Code.wpIn wpListIn Exit.then Exit.inBlock X.Out X.Back X.W X.Ev X.Con X.BinV X.Wh X.Wn X.Wq
attribute [local irreducible] sumK chain stw group stored
def head0 : Bs := List.replicate 32 0
theorem open_con (p : Addr) (K : List UInt32) (l : List Str) (tail s : Bs) (S : SH) (hs : s = (group K head0 l).1 ++ tail)
    (hsh : ∀ r ∈ l, r.b.length ≤ 65536) (hl : l.length ≤ 100000) (hlen : s.length ≤ 1000000000) (htl : ∀ c, tail[0]? = some c → c = 0) (hK : Pts S ⟨4, 0, none⟩ (cellsOf K)) (hKl : K.length = 64) :
    Con Tryz.prog 62 #[.pointer (some p), strV s] S [] (fun S' L' r => ∃ jv, r = .tuple #[jv, .int .i64 0] ∧ OwJ jv (.pointer (some p)) ⟨l, (group K head0 l).2, (group K head0 l).1.length, false⟩ L') := by
  refine con_of (args := [.pointer (some p), strV s]) Tryz.func62 rfl Tryz.ntmps62 rfl fun w => ?_
  (repeat (first | refine Jc ?_ | (apply s_evb; (case hg => rfl); (case hd => rfl); (case hn => rfl); (case he => ((apply ev_build (cells := [.slice none 0 0, strV head0, .int .i64 0, .pointer (some p), .bool false].toArray); (case hp => rfl); (case hc => rfl))))) | (apply s_defer; (case hk => rfl); (case hg => rfl); (case hx => rfl)) | (apply s_evb; (case hg => rfl); (case hd => rfl); (case hn => rfl); (case he => (apply ev_nilCheck; rfl))) | (apply s_make1 (m := 32); (case hg => rfl); (case hd => rfl); (case hx => rfl); (case hy => rfl); (case hzc => rfl); (case hb => omega); (case h63 => omega); intro _) | (apply s_evb; (case hg => rfl); (case hd => rfl); (case hn => rfl); (case he => ((apply ev_str_own (B := head0); (case hx => rfl); (case hm => exact List.Mem.head _); (case hk => exact Nat.le_refl _))))) | (apply s_call; (case hg => rfl); (case hd => rfl); (case ha => rfl); (case hc => exact load_con (T := 92) (rest := [.pointer (some p), .bool false]) (h0 := head0) ⟨_, [], rfl, Ows.nil 9⟩ K l tail s S hs rfl hsh hl hlen htl hK hKl); (case hL => exact List.Perm.refl _); rintro S3 L3 v3 hle3 ⟨hT3, rfl⟩) | refine Jo ?_ | intro _))
  rename_i b4 b5 b8 b12
  refine out_retd (fix := []) (caps := [.pointer (some ⟨b4, 0, none⟩), .pointer (some ⟨b5, 0, none⟩)]) inferInstance (.inl rfl) rfl (open1_conD _ _ _ _) ?_
  rintro S' L1 ⟨rfl, rfl⟩
  refine ⟨.tuple #[.pointer (some ⟨b12, 0, none⟩), .int .i64 0], L3, List.sublist_append_left _ _, ⟨_, rfl, b12, rfl, hT3⟩, fun a w hf hst => ?_⟩
  have e4 := hf.slot 4 (.pointer (some ⟨b4, 0, none⟩)) rfl
  have e5 := hf.slot 5 (.pointer (some ⟨b5, 0, none⟩)) rfl
  have c4 : w.cell? ⟨b4, 0, none⟩ = some (.pointer (some ⟨b12, 0, none⟩)) := by
    rw [own_cell hst (List.mem_append_right _ (List.mem_cons_of_mem _ (List.mem_cons_of_mem _ List.mem_cons_self)))]; rfl
  have c5 : w.cell? ⟨b5, 0, none⟩ = some (.int .i64 0) := by
    rw [own_cell hst (List.mem_append_right _ (List.mem_cons_of_mem _ List.mem_cons_self))]; rfl
  have r4 : (loadVar 28 ⟨b4, 0, none⟩).run Tryz.prog w = .ok (.pointer (some ⟨b12, 0, none⟩)) w := run_loadVar_sc c4
  have r5 : (loadVar 33 ⟨b5, 0, none⟩).run Tryz.prog w = .ok (.int .i64 0) w := run_loadVar_sc c5
  simp [results, Tryz.results62, Array.getD_eq_getD_getElem?, e4, e5, asAddr, r4, r5]
end Go.Proofs.YtnlfohlngapkfaaGreatDoor
namespace Go.Proofs.YtnlfohlngapkfaaGreatDoor
open Go Go.X
set_option maxRecDepth 10000
set_option linter.unusedVariables false
attribute [local irreducible] Code.wpIn wpListIn Exit.then Exit.inBlock X.Out X.Back X.W X.Ev X.Con X.BinV X.Wh X.Wn X.Wq
def pickI (c n : Int) : Int := (if c < 0 then -(c + 1) else c) % n
theorem pickI_bd (c n : Int) (hn : 0 < n) : 0 ≤ pickI c n ∧ pickI c n ≤ n - 1 := by
  have h1 := Int.emod_nonneg (if c < 0 then -(c + 1) else c) (show n ≠ 0 by omega)
  have h2 := Int.emod_lt_of_pos (if c < 0 then -(c + 1) else c) hn
  unfold pickI
  omega
theorem lpick_con (c n : Int) (S : SH) (hc : i64 c) (hn : 0 < n) : Con Tryz.prog 15 #[.int .i64 c, .int .i64 n] S [] (X.Pure S (.int .i64 (pickI c n))) := by
  unfold i64 at hc
  refine con_of (args := [.int .i64 c, .int .i64 n]) Tryz.func15 rfl Tryz.ntmps15 rfl fun w => ?_
  unfold pickI
  by_cases h : c < 0
  · rw [if_pos h]
    (repeat (first | refine Jz ?_ | intro _))
    exact o_ret Tryz.results15 rfl (List.Sublist.refl _) (pure_mk _ _)
  · rw [if_neg h]
    (repeat (first | refine Jz ?_ | intro _))
    exact o_ret Tryz.results15 rfl (List.Sublist.refl _) (pure_mk _ _)
def sizeN (n : Int) : Nat := (1 + pickI n 1500).toNat
theorem sizeN_bd (n : Int) : 1 ≤ sizeN n ∧ sizeN n ≤ 1500 := by
  have := pickI_bd n 1500 (by decide)
  unfold sizeN
  omega
theorem size_con (n : Int) (S : SH) (hn : i64 n) : Con Tryz.prog 16 #[.int .i64 n] S [] (X.Pure S (.int .i64 (sizeN n))) := by
  refine con_of (args := [.int .i64 n]) Tryz.func16 rfl Tryz.ntmps16 rfl fun w => ?_
  have hb := pickI_bd n 1500 (by decide)
  have e : ((sizeN n : Nat) : Int) = 1 + pickI n 1500 := by unfold sizeN; omega
  rw [e]
  (repeat (first | refine Jc ?_ | ((apply z_call; rfl; rfl; rfl; exact lpick_con n 1500 S hn (by decide); rintro _ _ _ - ⟨rfl, rfl, rfl⟩)) | refine Jo ?_ | intro _))
  exact o_ret Tryz.results16 rfl (List.nil_sublist _) (pure_mk _ _)
/-- few: at most six strings, of at most 100 bytes. -/
def cut1 (s : Str) : Str := ⟨s.b.take (min s.b.length 100)⟩
def fewL (l : List Str) : List Str := (l.take 6).map cut1
theorem few_con (l : List Str) (A : Option Addr) (c : Nat) (S : SH) (hA : At S A l) :
    Con Tryz.prog 12 #[.slice A l.length c] S [] (fun S' L' r => S' = S ∧ Ows 9 r (fewL l) L') := by
  refine con_of (args := [.slice A l.length c]) Tryz.func12 rfl Tryz.ntmps12 rfl fun w => ?_
  (repeat (first | refine Jz ?_ | intro _))
  refine c_loop (fun m S' L F => S' = S ∧ ∃ (k : Nat) (v : Value), m = 6 - k ∧ k ≤ l.length ∧ k ≤ 6 ∧ Ows 9 v ((l.take k).map cut1) L ∧ F = [(0, .slice A l.length c), (3, v), (4, .int .i64 k)]) ⟨rfl, 0, _, rfl, by omega, by omega, Ows.nil _, rfl⟩ sbF (List.Sublist.refl _) ?_
  rintro m S' L F ⟨rfl, k, v, rfl, hk1, hk6, ho, rfl⟩
  by_cases hlt : k < l.length ∧ k < 6
  rotate_left
  · have hfin : (l.take k).map cut1 = fewL l := by
      unfold fewL
      congr 1
      by_cases h6 : k = 6
      · rw [h6]
      · rw [List.take_of_length_le (by omega), List.take_of_length_le (by omega)]
    rw [hfin] at ho
    by_cases h2 : k < l.length
    all_goals (repeat (first | refine Jz ?_ | intro _))
    all_goals exact o_ret Tryz.results12 rfl (List.Sublist.refl _) ⟨rfl, ho⟩
  obtain ⟨h1, h6⟩ := hlt
  obtain ⟨x, hx⟩ : ∃ x, l[k]? = some x := ⟨_, List.getElem?_eq_getElem h1⟩
  have hkl : ((l.take k).map cut1).length = k := by simp; omega
  have hsn : (l.take (k + 1)).map cut1 = (l.take k).map cut1 ++ [cut1 x] := by rw [List.take_add_one, hx]; simp
  obtain ⟨ls, hls⟩ : ∃ ls, ls = (l.take k).map cut1 := ⟨_, rfl⟩
  rw [← hls] at ho hkl hsn
  obtain ⟨A1, c1, rfl⟩ := ho.form
  have hmin : min (x.b.length : Int) 100 = ((min x.b.length 100 : Nat) : Int) := by omega
  (repeat (first | refine Jz ?_ | intro _))
  ((apply c_held ([]); (case hL => (exact sbT))); refine Jf 0 ?_; refine Jf 1 ?_; refine Jf 2 ?_; (apply h_idx hA 3; (case hi => rfl); (case hr => kernel_rfl); (case hfr => kernel_rfl); (case hsel => kernel_rfl); (case hg => rfl); (case hd => rfl); (case i1 => infer_instance); (case i2 => infer_instance); (case hx => rfl); (case hy => rfl); (case hm => rfl); (case hu => exact hx); intro q (hq : Pts _ q [strV x.b])); (apply h_first 4; (case hi => rfl); (case hr => kernel_rfl); (case hfr => kernel_rfl); (case hsel => kernel_rfl); (case hg => rfl); (case hd => rfl); (case he => (apply ev_load1; (case hx => rfl); (case h => exact hq)))); refine Jf 5 ?_; refine Jf 6 ?_; (apply h_idx hA 7; (case hi => rfl); (case hr => kernel_rfl); (case hfr => kernel_rfl); (case hsel => kernel_rfl); (case hg => rfl); (case hd => rfl); (case i1 => infer_instance); (case i2 => infer_instance); (case hx => rfl); (case hy => rfl); (case hm => rfl); (case hu => exact hx); intro q (hq : Pts _ q [strV x.b])); (apply h_first 8; (case hi => rfl); (case hr => kernel_rfl); (case hfr => kernel_rfl); (case hsel => kernel_rfl); (case hg => rfl); (case hd => rfl); (case he => (apply ev_load1; (case hx => rfl); (case h => exact hq)))); (apply h_first 9; (case hi => rfl); (case hr => kernel_rfl); (case hfr => kernel_rfl); (case hsel => kernel_rfl); (case hg => rfl); (case hd => rfl); (case he => (apply ev_len_b; rfl))); (apply h_first 10; (case hi => rfl); (case hr => kernel_rfl); (case hfr => kernel_rfl); (case hsel => kernel_rfl); (case hg => rfl); (case hd => rfl); (case he => (apply ev_minn (j := 100); (case hx => rfl); (case hy => rfl)))); (apply h_first 11; (case hi => rfl); (case hr => kernel_rfl); (case hfr => kernel_rfl); (case hsel => kernel_rfl); (case hg => rfl); (case hd => rfl); (case he => (apply ev_slice_bh (j := min x.b.length 100); (case hx => rfl); (case hz => rfl); (case hj => exact Nat.min_le_left _ _)))); (apply h_one 12; (case hr => kernel_rfl)); (apply n_buildSlice; (case hi => rfl); (case hg => rfl); (case hd => rfl); (case i1 => infer_instance); (case i2 => infer_instance); (case i3 => infer_instance); (case hp => rfl); (case hq => rfl); (case hm => rfl); (case hv => rfl); (case hl => rfl); intro bl); (apply h_one 13; (case hr => kernel_rfl)); (apply n_append (ms := [cut1 x]); (case hi => rfl); (case hT => infer_instance); (case hsz => infer_instance); (case hz => infer_instance); (case hby => infer_instance); (case hg => rfl); (case hd => rfl); (case hx => rfl); (case ho => exact ho); (case hL => (repeat (first | exact pm_nil _ | exact pm_refl _ _ | exact pm_self _ | apply pm_cons | apply pm_app))); (case hy => rfl); (case hm => rfl); (case hs => (apply Src.own; (repeat (first | exact List.Mem.head _ | apply List.Mem.tail | apply List.mem_append_right)))); (case hzs => rfl); (case h0 => decide); (case hb => (simp; omega)); (case h63 => (simp; omega)); (case hsub => (intros; (exact sbT))); intro v' ob' ho'); refine Jf 14 ?_; (apply h_end; (case hr => kernel_rfl)))
  (repeat (first | refine Jz ?_ | intro _))
  refine q_back (L' := ob') (m' := 6 - (k + 1)) ⟨rfl, k + 1, v', rfl, by omega, by omega, (by rw [hsn]; exact ho'), rfl⟩ (by omega) sbF (List.sublist_append_left _ _)
end Go.Proofs.YtnlfohlngapkfaaGreatDoor
namespace Go.Proofs.YtnlfohlngapkfaaGreatDoor
open Go Go.X
set_option maxRecDepth 10000
set_option linter.unusedVariables false
attribute [local irreducible] Code.wpIn wpListIn Exit.then Exit.inBlock X.Out X.Back X.W X.Ev X.Con X.BinV X.Wh X.Wn X.Wq
theorem content_con {v : Value} {D : Dk} {L : Blocks} (h : OwD v D L) (S : SH) (hoff : D.off = false) (hvl : D.vis.length = D.dur.length) (hd : D.dur.length ≤ 1000000000) : Con Tryz.prog 23 #[v] S L (Kp v D S (strV D.vis)) := by
  refine con_of (args := [v]) Tryz.func23 rfl Tryz.ntmps23 rfl fun w => ?_
  have hrv : readV D 0 (D.dur.length : Nat) = .tuple #[strV D.vis, .int .i64 0] := by
    unfold readV insideB
    rw [hoff]
    simp [← hvl]
  (repeat (first | refine Jc ?_ | (apply s_call (L2 := []); (case hg => rfl); (case hd => rfl); (case ha => rfl); (case hc => exact Size_con h S); (case hL => exact (List.Perm.of_eq (List.append_nil _).symm)); rintro S3 L3 v3 hle3 ⟨rfl, hD3, rfl⟩; rw [List.append_nil]) | (apply s_call (L2 := []); (case hg => rfl); (case hd => rfl); (case ha => rfl); (case hc => (have hr := Read_con hD3 S3 0 (D.dur.length : Nat) (by unfold i64; omega) (by unfold i64; omega); rw [hrv] at hr; exact hr)); (case hL => exact (List.Perm.of_eq (List.append_nil _).symm)); rintro S4 L4 v4 hle4 ⟨rfl, hD4, rfl⟩; rw [List.append_nil]) | refine Jo ?_ | intro _))
  exact o_ret Tryz.results23 rfl (List.Sublist.refl _) ⟨rfl, hD4, rfl⟩
theorem same_con (l r : List Str) (A B : Option Addr) (c c2 : Nat) (S : SH) (hA : At S A l) (hB : At S B r) (hl : l.length ≤ 1000000000) (hr : r.length ≤ 1000000000) :
    Con Tryz.prog 19 #[.slice A l.length c, .slice B r.length c2] S [] (X.Pure S (.bool (decide (l.map Str.b = r.map Str.b)))) := by
  refine con_of (args := [.slice A l.length c, .slice B r.length c2]) Tryz.func19 rfl Tryz.ntmps19 rfl fun w => ?_
  by_cases hlen : l.length = r.length
  rotate_left
  · have hne : ¬ l.map Str.b = r.map Str.b := fun e => hlen (by simpa using congrArg List.length e)
    rw [decide_eq_false hne]
    (repeat (first | refine Jz ?_ | intro _))
    exact o_ret Tryz.results19 rfl (List.nil_sublist _) (pure_mk _ _)
  (repeat (first | refine Jz ?_ | intro _))
  refine c_loop (fun m S' L F => S' = S ∧ L = [] ∧ ∃ k : Nat, m = l.length - k ∧ k ≤ l.length ∧ (l.take k).map Str.b = (r.take k).map Str.b ∧ F = [(0, .slice A l.length c), (1, .slice B r.length c2), (5, .int .i64 k)]) ⟨rfl, rfl, 0, rfl, by omega, rfl, rfl⟩ sbF (List.nil_sublist _) ?_
  rintro m S' L F ⟨rfl, rfl, k, rfl, hk1, hi, rfl⟩
  by_cases hlt : k < l.length
  rotate_left
  · rw [List.take_of_length_le (by omega), List.take_of_length_le (by omega)] at hi
    rw [decide_eq_true hi]
    (repeat (first | refine Jz ?_ | intro _))
    exact o_ret Tryz.results19 rfl (List.nil_sublist _) (pure_mk _ _)
  obtain ⟨x, hx⟩ : ∃ x, l[k]? = some x := ⟨_, List.getElem?_eq_getElem hlt⟩
  obtain ⟨y, hy⟩ : ∃ y, r[k]? = some y := ⟨_, List.getElem?_eq_getElem (by omega)⟩
  by_cases hxy : x.b = y.b
  · (repeat (first | refine Jz ?_ | intro _))
    ((apply c_held ([]); (case hL => (exact sbT))); refine Jf 0 ?_; refine Jf 1 ?_; (apply h_idx hA 2; (case hi => rfl); (case hr => kernel_rfl); (case hfr => kernel_rfl); (case hsel => kernel_rfl); (case hg => rfl); (case hd => rfl); (case i1 => infer_instance); (case i2 => infer_instance); (case hx => rfl); (case hy => rfl); (case hm => rfl); (case hu => exact hx); intro q (hq : Pts _ q [strV x.b])); (apply h_first 3; (case hi => rfl); (case hr => kernel_rfl); (case hfr => kernel_rfl); (case hsel => kernel_rfl); (case hg => rfl); (case hd => rfl); (case he => (apply ev_load1; (case hx => rfl); (case h => exact hq)))); refine Jf 4 ?_; refine Jf 5 ?_; (apply h_idx hB 6; (case hi => rfl); (case hr => kernel_rfl); (case hfr => kernel_rfl); (case hsel => kernel_rfl); (case hg => rfl); (case hd => rfl); (case i1 => infer_instance); (case i2 => infer_instance); (case hx => rfl); (case hy => rfl); (case hm => rfl); (case hu => exact hy); intro q2 (hq2 : Pts _ q2 [strV y.b])); (apply h_first 7; (case hi => rfl); (case hr => kernel_rfl); (case hfr => kernel_rfl); (case hsel => kernel_rfl); (case hg => rfl); (case hd => rfl); (case he => (apply ev_load1; (case hx => rfl); (case h => exact hq2)))); (apply h_first 8; (case hi => rfl); (case hr => kernel_rfl); (case hfr => kernel_rfl); (case hsel => kernel_rfl); (case hg => rfl); (case hd => rfl); (case he => (apply ev_neq_bs' (r := false); (case hx => rfl); (case hy => rfl); (case h => (rw [hxy]; simp))))); (apply h_end; (case hr => kernel_rfl)))
    (repeat (first | refine Jz ?_ | intro _))
    refine q_back (L' := []) (m' := l.length - (k + 1)) ⟨rfl, rfl, k + 1, rfl, by omega, ?_, rfl⟩ (by omega) sbF (List.nil_sublist _)
    rw [List.take_add_one, List.take_add_one, hx, hy, List.map_append, List.map_append, hi]
    simp [hxy]
  · have hne : ¬ l.map Str.b = r.map Str.b := fun e => hxy (by
      have := congrArg (·[k]?) e
      simp only [List.getElem?_map, hx, hy, Option.map_some, Option.some.injEq] at this
      exact this)
    rw [decide_eq_false hne]
    (repeat (first | refine Jz ?_ | intro _))
    ((apply c_held ([]); (case hL => (exact sbT))); refine Jf 0 ?_; refine Jf 1 ?_; (apply h_idx hA 2; (case hi => rfl); (case hr => kernel_rfl); (case hfr => kernel_rfl); (case hsel => kernel_rfl); (case hg => rfl); (case hd => rfl); (case i1 => infer_instance); (case i2 => infer_instance); (case hx => rfl); (case hy => rfl); (case hm => rfl); (case hu => exact hx); intro q (hq : Pts _ q [strV x.b])); (apply h_first 3; (case hi => rfl); (case hr => kernel_rfl); (case hfr => kernel_rfl); (case hsel => kernel_rfl); (case hg => rfl); (case hd => rfl); (case he => (apply ev_load1; (case hx => rfl); (case h => exact hq)))); refine Jf 4 ?_; refine Jf 5 ?_; (apply h_idx hB 6; (case hi => rfl); (case hr => kernel_rfl); (case hfr => kernel_rfl); (case hsel => kernel_rfl); (case hg => rfl); (case hd => rfl); (case i1 => infer_instance); (case i2 => infer_instance); (case hx => rfl); (case hy => rfl); (case hm => rfl); (case hu => exact hy); intro q2 (hq2 : Pts _ q2 [strV y.b])); (apply h_first 7; (case hi => rfl); (case hr => kernel_rfl); (case hfr => kernel_rfl); (case hsel => kernel_rfl); (case hg => rfl); (case hd => rfl); (case he => (apply ev_load1; (case hx => rfl); (case h => exact hq2)))); (apply h_first 8; (case hi => rfl); (case hr => kernel_rfl); (case hfr => kernel_rfl); (case hsel => kernel_rfl); (case hg => rfl); (case hd => rfl); (case he => (apply ev_neq_bs' (r := true); (case hx => rfl); (case hy => rfl); (case h => (simp [hxy]))))); (apply h_end; (case hr => kernel_rfl)))
    (repeat (first | refine Jz ?_ | intro _))
    exact o_ret Tryz.results19 rfl (List.nil_sublist _) (pure_mk _ _)
end Go.Proofs.YtnlfohlngapkfaaGreatDoor
namespace Go.Proofs.YtnlfohlngapkfaaGreatDoor
open Go Go.X
set_option maxRecDepth 10000
set_option linter.unusedVariables false
attribute [local irreducible] Code.wpIn wpListIn Exit.then Exit.inBlock X.Out X.Back X.W X.Ev X.Con X.BinV X.Wh X.Wn X.Wq
attribute [local irreducible] sumK chain stw group stored
theorem OpenNil_con (S : SH) : Con Tryz.prog 26 #[.pointer none] S [] (X.Pure S (.tuple #[.pointer none, .int .i64 1])) := by
  refine con_of (args := [.pointer none]) Tryz.func26 rfl Tryz.ntmps26 rfl fun w => ?_
  (repeat (first | refine Jc ?_ | (apply s_evb; (case hg => rfl); (case hd => rfl); (case hn => rfl); (case he => (apply ev_eql_p; (case hx => rfl); (case hy => rfl)))) | refine Jo ?_ | intro _))
  exact o_ret2 Tryz.results26 rfl rfl (List.nil_sublist _) ⟨rfl, rfl, rfl⟩
/-- Open on a disk whose power failed. -/
theorem OpenOff_con {v : Value} {D : Dk} {L : Blocks} (h : OwD v D L) (S : SH) (hoff : D.off = true) (hd : D.dur.length ≤ 1000000000) : Con Tryz.prog 26 #[v] S L (Kp v D S (.tuple #[.pointer none, .int .i64 321])) := by
  have hv := h
  obtain ⟨b, g1, g2, N, pv, ob, rfl, -⟩ := hv
  refine con_of (args := [.pointer (some ⟨b, 0, none⟩)]) Tryz.func26 rfl Tryz.ntmps26 rfl fun w => ?_
  have hrv : readV D 0 (D.dur.length : Nat) = .tuple #[strV [], .int .i64 321] := by
    unfold readV
    rw [hoff]; rfl
  (repeat (first | refine Jc ?_ | (apply s_evb; (case hg => rfl); (case hd => rfl); (case hn => rfl); (case he => (apply ev_eql_p; (case hx => rfl); (case hy => rfl)))) | (apply s_call (L2 := []); (case hg => rfl); (case hd => rfl); (case ha => rfl); (case hc => exact Size_con h S); (case hL => exact (List.Perm.of_eq (List.append_nil _).symm)); rintro S3 L3 v3 hle3 ⟨rfl, hD3, rfl⟩; rw [List.append_nil]) | (apply s_call (L2 := []); (case hg => rfl); (case hd => rfl); (case ha => rfl); (case hc => (have hr := Read_con hD3 S3 0 (D.dur.length : Nat) (by unfold i64; omega) (by unfold i64; omega); rw [hrv] at hr; exact hr)); (case hL => exact (List.Perm.of_eq (List.append_nil _).symm)); rintro S4 L4 v4 hle4 ⟨rfl, hD4, rfl⟩; rw [List.append_nil]) | refine Jo ?_ | intro _))
  exact o_ret2 Tryz.results26 rfl rfl (List.Sublist.refl _) ⟨rfl, hD4, rfl⟩
end Go.Proofs.YtnlfohlngapkfaaGreatDoor
