/- Contracts of functions of this program, each proved by a walk through its code, and plain lemmas on what they compute; on no condition beyond those that each theorem states. -/
import Derived.Test.YtnlfohlngapkfaaGreatDoorBd
import Derived.Test.YtnlfohlngapkfaaGreatDoorXB
import Derived.Test.YtnlfohlngapkfaaGreatDoorXA
import Derived.Test.YtnlfohlngapkfaaGreatDoorRows
import Derived.Lib.LaidTab
import Derived.LaidSub
import Derived.Deep.DeepHandedRow
import Derived.OpenShut
import Derived.ProofKit
import Derived.Test.YtnlfohlngapkfaaGreatDoorBb
import Derived.Test.YtnlfohlngapkfaaGreatDoorPFacts
namespace Go.Proofs.YtnlfohlngapkfaaGreatDoor
open Go Go.X
set_option maxRecDepth 10000
set_option linter.unusedVariables false
attribute [local irreducible] Code.wpIn wpListIn Exit.then Exit.inBlock X.Out X.Back X.W X.Ev X.Con X.BinV X.Wh X.Wn X.Wq
attribute [local irreducible] sumK chain stw group stored
theorem inside_t {N o n : Nat} (h : o + n ≤ N) : insideB N (o : Int) (n : Int) = true := by
  unfold insideB
  simp only [Bool.and_eq_true, decide_eq_true_eq]
  omega
theorem firstP4 {σ : Type} (run : Nat → σ → σ × Int) (s : σ) : firstP run 4 0 s =
    if (run 0 s).2 ≠ 0 then run 0 s else if (run 1 (run 0 s).1).2 ≠ 0 then run 1 (run 0 s).1 else if (run 2 (run 1 (run 0 s).1).1).2 ≠ 0 then run 2 (run 1 (run 0 s).1).1
    else if (run 3 (run 2 (run 1 (run 0 s).1).1).1).2 ≠ 0 then run 3 (run 2 (run 1 (run 0 s).1).1).1 else ((run 3 (run 2 (run 1 (run 0 s).1).1).1).1, 0) := rfl
theorem wrD_on {left : Int} {dur vis : Bs} {pend : List Wr} {o : Nat} {s : Bs} (h : o + s.length ≤ dur.length) :
    wrD ⟨false, left, dur, vis, pend⟩ (o : Nat) s = ⟨(usedP false left).1, (usedP false left).2, dur, lset vis o s, pend ++ [⟨o, s⟩]⟩ ∧ wrE ⟨false, left, dur, vis, pend⟩ (o : Nat) s = 0 := by
  have hi := inside_t h
  unfold wrD wrE okW
  simp [hi]
/-- The four calls on a disk of which all is durable. -/
theorem four_law {size : Nat} {x : UInt8} {t : Bs} {left : Int} {B : Bs} (hf : size + (t.length + 1) ≤ B.length) (hl : 0 ≤ left) :
    firstP (app4 size (x :: t)) 4 0 ⟨false, left, B, B, []⟩ =
      if left = 1 then (⟨true, 0, B, lset B (size + 1) t, [⟨size + 1, t⟩]⟩, 321)
      else if left = 2 then (⟨true, 0, lset B (size + 1) t, lset (lset B (size + 1) t) size [x], [⟨size, [x]⟩]⟩, 321)
      else (⟨false, if left = 0 then 0 else left - 2, lset (lset B (size + 1) t) size [x], lset (lset B (size + 1) t) size [x], []⟩, 0) := by
  have hl1 : (lset B (size + 1) t).length = B.length := lset_length _ _ _ (by omega)
  have e0 : ∀ D, app4 size (x :: t) 0 D = (wrD D (size + 1 : Nat) t, wrE D (size + 1 : Nat) t) := fun D => rfl
  have e1 : ∀ D, app4 size (x :: t) 1 D = (syncD D, if D.off then 321 else 0) := fun D => rfl
  have e2 : ∀ D, app4 size (x :: t) 2 D = (wrD D (size : Nat) [x], wrE D (size : Nat) [x]) := fun D => rfl
  have e3 : ∀ D, app4 size (x :: t) 3 D = (syncD D, if D.off then 321 else 0) := fun D => rfl
  have w1 := wrD_on (left := left) (dur := B) (vis := B) (pend := []) (o := size + 1) (s := t) (by omega)
  rw [firstP4]
  simp only [e0, e1, e2, e3, w1.1, w1.2]
  by_cases h1 : left = 1
  · subst h1
    simp [usedP, syncD]
  by_cases h0 : left = 0
  · subst h0
    have w2 := wrD_on (left := 0) (dur := lset B (size + 1) t) (vis := lset B (size + 1) t) (pend := []) (o := size) (s := [x]) (by simp; omega)
    simp [usedP, syncD, w2.1, w2.2]
  have hu : usedP false left = (false, left - 1) := by unfold usedP; rw [if_neg h0, decide_eq_false (by omega)]
  have w2 := wrD_on (left := left - 1) (dur := lset B (size + 1) t) (vis := lset B (size + 1) t) (pend := []) (o := size) (s := [x]) (by simp; omega)
  by_cases h2 : left = 2
  · subst h2
    have w2' := wrD_on (left := 1) (dur := lset B (size + 1) t) (vis := lset B (size + 1) t) (pend := []) (o := size) (s := [x]) (by simp; omega)
    simp [usedP, syncD, w2'.1, w2'.2]
  have hu2 : usedP false (left - 1) = (false, left - 1 - 1) := by unfold usedP; rw [if_neg (by omega), decide_eq_false (by omega)]
  rw [hu]
  simp [syncD, w2.1, w2.2, hu2, h0, h1, h2]
  omega
/-- Appending to a journal whose disk has power and keeps it. -/
theorem app_settled {K : List UInt32} {N : Nat} {a l : List Str} (ha : Short a) (hl : Short l) (hN : (recB K a).length ≤ N) :
    appJ K (jnK K a) (setD (Good K N a)) l = if N < (recB K (a ++ l)).length then (jnK K a, setD (Good K N a), 331) else (jnK K (a ++ l), setD (Good K N (a ++ l)), 0) := by
  have hra := recB_append K a l
  have hgl := Good_len (K := K) (N := N) (l := a) hN
  have hlen : (recB K (a ++ l)).length = (recB K a).length + (group K (group K head0 a).2 l).1.length := by rw [hra, List.length_append]
  unfold appJ jnK setD
  dsimp only
  rw [hgl]
  by_cases hr : N < (recB K (a ++ l)).length
  · rw [if_pos (by omega), if_pos hr]
  rw [if_neg (by omega), if_neg hr]
  by_cases hn : l = []
  · rw [if_pos ((grp_nil hl).2 hn), hn, List.append_nil]
  have hne : (group K (group K head0 a).2 l).1 ≠ [] := fun e => hn ((grp_nil hl).1 e)
  rw [if_neg hne]
  obtain ⟨x, t, hxt⟩ : ∃ x t, (group K (group K head0 a).2 l).1 = x :: t := by
    cases hc : (group K (group K head0 a).2 l).1 with
    | nil => exact absurd hc hne
    | cons x t => exact ⟨x, t, rfl⟩
  have hxl : (group K (group K head0 a).2 l).1.length = t.length + 1 := by rw [hxt]; rfl
  have hw2 := w2_eq (K := K) (N := N) (l := a) (g := l) hxt (by omega)
  have hf := four_law (size := (recB K a).length) (x := x) (t := t) (left := 0) (B := Good K N a) (by omega) (by omega)
  rw [if_neg (by decide : ¬(0 : Int) = 1), if_neg (by decide : ¬(0 : Int) = 2), if_pos rfl, hw2] at hf
  rw [hxt, hf]
  simp only [ne_eq, not_true_eq_false, if_false]
  rw [group_append, hra, hxt, List.length_append]
end Go.Proofs.YtnlfohlngapkfaaGreatDoor
namespace Go.Proofs.YtnlfohlngapkfaaGreatDoor
open Go Go.X
set_option maxRecDepth 10000
set_option linter.unusedVariables false
attribute [local irreducible] Code.wpIn wpListIn Exit.then Exit.inBlock X.Out X.Back X.W X.Ev X.Con X.BinV X.Wh X.Wn X.Wq
attribute [local irreducible] sumK chain stw group stored
/-- The error that says that a disk is damaged. -/
def errV (p : Addr) : Value := .iface 314 (.pointer (some p))
theorem asrtE (p : Addr) (w : World) : (Instr.typeAssert (errV p) 20 98 true).run Tryz.prog w = .ok (.tuple #[errV p, .bool true]) w := by
  unfold errV; kernel_rfl
theorem asrtI (p : Addr) (w : World) : (binOp .eql 98 (errV p) .nilIface).run Tryz.prog w = .ok (.bool false) w := by
  unfold errV; kernel_rfl
noncomputable def typV : Value := .iface 245 (.agg #[typeHandle Tryz.prog 314])
theorem typE (p : Addr) (w : World) : (callFunc 138 #[errV p]).run Tryz.prog w = .ok (.value typV) w := by
  unfold errV typV; kernel_rfl
theorem cmpE (w : World) : (invoke (.fn (.method "Comparable") #[]) #[typV]).run Tryz.prog w = .ok (.value (.bool true)) w := by
  unfold typV; kernel_rfl
theorem errors_is_con (p : Addr) (S : SH) : Con Tryz.prog 139 #[errV p, errV p, .bool true] S [] (X.Pure S (.bool true)) := by
  refine con_of (args := [errV p, errV p, .bool true]) Tryz.func139 rfl Tryz.ntmps139 rfl fun w => ?_
  (repeat (first | refine Jz ?_ | intro _))
  refine c_loop (fun m S' L F => S' = S ∧ L = [] ∧ m = 0 ∧ F = [(0, errV p), (1, errV p), (2, .bool true)]) ⟨rfl, rfl, rfl, rfl⟩ sbF (List.Sublist.refl _) ?_
  rintro m S' L F ⟨rfl, rfl, rfl, rfl⟩
  (repeat (first | refine Jc ?_ | (apply s_evb; (case hg => rfl); (case hd => rfl); (case hn => rfl); (case he => ((apply ev_eql_ifp (t := 314) (p := p) Tryz.underlying98 Tryz.underlying314; (case h3 => kernel_rfl); (case h4 => kernel_rfl); (case hx => rfl); (case hy => rfl))))) | refine Jo ?_ | intro _))
  exact o_ret Tryz.results139 rfl (List.nil_sublist _) (pure_mk _ _)
theorem errors_Is_con (p : Addr) (S : SH) : Con Tryz.prog 100 #[errV p, errV p] S [] (X.Pure S (.bool true)) := by
  refine con_of (args := [errV p, errV p]) Tryz.func100 rfl Tryz.ntmps100 rfl fun w => ?_
  (repeat (first | refine Jc ?_ | (apply s_evb; (case hg => rfl); (case hd => rfl); (case hn => rfl); (case he => ((apply ev_eql_ifnil; (case hx => rfl); (case hy => rfl); (case hv => exact asrtI p))))) | (apply s_evb; (case hg => rfl); (case hd => rfl); (case hn => rfl); (case he => ((apply ev_ext; (case hx => rfl); (case h => exact typE p))))) | (apply s_evb; (case hg => rfl); (case hd => rfl); (case hn => rfl); (case he => ((apply ev_method; (case hx => rfl); (case h => exact cmpE))))) | ((apply z_call; rfl; rfl; rfl; exact errors_is_con p _; rintro _ _ _ - ⟨rfl, rfl, rfl⟩)) | refine Jo ?_ | intro _))
  exact o_ret Tryz.results100 rfl (List.nil_sublist _) (pure_mk _ _)
/-- The chain that check raises. -/
def chE (p : Addr) : List PanicEntry := [{ v := errV p, recovered := false }]
theorem check_conX (p : Addr) (S : SH) (hE : Pts S ⟨0, 0, none⟩ [errV p]) : ConX Tryz.prog 140 #[.bool false] S [] (fun S' L' c => S' = S ∧ L' = [] ∧ c = chE p) := by
  refine conX_of (args := [.bool false]) Tryz.func140 rfl Tryz.ntmps140 rfl fun w => ?_
  (repeat (first | refine Jc ?_ | (apply s_load1; (case hg => rfl); (case hd => rfl); (case hx => rfl); (case hv => exact hE)) | (apply s_panic; (case hg => rfl); (case hx => rfl)) | apply q_then_panic | apply q_in_panic | refine Jo ?_ | intro _))
  exact o_panic (List.nil_sublist _) ⟨rfl, rfl, rfl⟩
end Go.Proofs.YtnlfohlngapkfaaGreatDoor
namespace Go.Proofs.YtnlfohlngapkfaaGreatDoor
open Go Go.X
set_option maxRecDepth 10000
set_option linter.unusedVariables false
attribute [local irreducible] Code.wpIn wpListIn Exit.then Exit.inBlock X.Out X.Back X.W X.Ev X.Con X.BinV X.Wh X.Wn X.Wq
attribute [local irreducible] sumK chain stw group stored
theorem decS_some {l r : Bs} {k : Nat} (h : decS l = some (r, k)) : r.length ≤ 65536 ∧ k ≤ l.length := by
  unfold decS at h
  split at h
  · cases h
  · rename_i n k' hd
    split at h
    · rename_i hg
      simp only [Option.some.injEq, Prod.mk.injEq] at h
      obtain ⟨h1, h2⟩ := h
      subst h1 h2
      rw [List.length_take, List.length_drop]
      omega
    · cases h
/-- What lies behind the records begins with a byte that is not 0, but not with a further record. -/
def Bad (K : List UInt32) (h tail : Bs) : Prop := (∃ c, tail[0]? = some c ∧ c ≠ 0) ∧ ¬∃ r rest : Bs, r.length ≤ 65536 ∧ tail = stored K h r ++ rest
set_option maxHeartbeats 3200000 in
theorem load_conX {T : TypeId} {rest : List Value} {b : Nat} {h0 : Bs} {LT0 : Blocks} (hT0 : OwT T rest b [] h0 0 LT0) (K : List UInt32) (l : List Str) (tail s : Bs) (S : SH) (hs : s = (group K h0 l).1 ++ tail)
    (hh : h0.length = 32) (hsh : ∀ r ∈ l, r.b.length ≤ 65536) (hl : l.length ≤ 100000) (hlen : s.length ≤ 1000000000) (htl : Bad K (group K h0 l).2 tail) (hK : Pts S ⟨4, 0, none⟩ (cellsOf K)) (hKl : K.length = 64) (p : Addr) (hE : Pts S ⟨0, 0, none⟩ [errV p]) :
    ConX Tryz.prog 101 #[.pointer (some ⟨b, 0, none⟩), strV s] S LT0 (fun S' L' c => c = chE p) := by
  refine conX_of (args := [.pointer (some ⟨b, 0, none⟩), strV s]) Tryz.func101 rfl Tryz.ntmps101 rfl fun w => ?_
  (repeat (first | refine Jz ?_ | intro _))
  refine c_loop (fun m S' L F => Le S S' ∧ ∃ (d t : List Str) (pre h : Bs), m = t.length ∧ l = d ++ t ∧ s = pre ++ ((group K h t).1 ++ tail) ∧ (group K h0 l).2 = (group K h t).2 ∧ h.length = 32 ∧ OwT T rest b d h pre.length L ∧ F = [(0, .pointer (some ⟨b, 0, none⟩)), (1, strV s)]) ⟨Le.refl _, [], l, [], h0, rfl, rfl, (show s = [] ++ _ from hs), rfl, hh, hT0, rfl⟩ sbF (List.Sublist.refl _) ?_
  rintro m S' L F ⟨hle', d, t, pre, h, rfl, hdt, hpre, hg2, hh', hT, rfl⟩
  have hKS := hK.le hle'
  have hES := hE.le hle'
  cases t with
  | nil =>
    rw [group_nil] at hpre hg2
    rw [hg2] at htl
    obtain ⟨⟨c, hc, hc0⟩, hno⟩ := htl
    simp only at hpre hno
    have hpre : s = pre ++ tail := hpre
    obtain ⟨hdl, -⟩ : d.length ≤ 100000 ∧ True := ⟨by have := congrArg List.length hdt; simp at this; omega, trivial⟩
    have htpos : 0 < tail.length := (List.getElem?_eq_some_iff.1 hc).1
    have hslen : s.length = pre.length + tail.length := by rw [hpre]; simp
    have e1 : pre.length < s.length := by omega
    have e2 : s[pre.length]? = some c := by rw [hpre, List.getElem?_append_right (Nat.le_refl _), Nat.sub_self]; exact hc
    have hcn0 : (c.toNat : Int) ≠ 0 := fun e => hc0 (UInt8.toNat_inj.1 (by simpa using e))
    have hdrop : s.drop (pre.length + 1) = tail.drop 1 := by rw [hpre, ← List.drop_drop]; simp
    have hT2 := hT
    obtain ⟨rv, ob, rfl, ho⟩ := hT
    obtain ⟨A, c0, rfl⟩ := ho.form
    by_cases hc1 : c = 1
    rotate_left
    · have hcn1 : (c.toNat : Int) ≠ 1 := fun e => hc1 (UInt8.toNat_inj.1 (show c.toNat = 1 by omega))
      (repeat (first | refine Jc ?_ | (apply s_evb; (case hg => rfl); (case hd => rfl); (case hn => rfl); (case he => (apply ev_len_b; rfl))) | (apply s_evb; (case hg => rfl); (case hd => rfl); (case hn => rfl); (case he => (apply ev_nilCheck; rfl))) | (apply s_evb; (case hg => rfl); (case hd => rfl); (case hn => rfl); (case he => ((apply ev_index_b (k := pre.length); (case hx => rfl); (case hi => rfl); (case hu => exact e2))))) | (apply s_callX; (case hg => rfl); (case ha => rfl); (case hc => exact check_conX p _ hES); (case hL => (repeat (first | exact pm_nil _ | exact pm_refl _ _ | exact pm_self _ | apply pm_cons | apply pm_app))); rintro S9 L9 c9 hle9 ⟨rfl, rfl, rfl⟩) | apply q_then_panic | apply q_in_panic | refine Jo ?_ | intro _))
      exact o_panic (List.Sublist.refl _) rfl
    have hcn1 : (c.toNat : Int) = 1 := by rw [hc1]; rfl
    rcases hds : decS (tail.drop 1) with _ | ⟨r, k⟩
    · have hsv : strgV s ((pre.length : Int) + 1) = .tuple #[strV [], .int .i64 0, .int .i64 10] := by
        unfold strgV
        rw [if_neg (by omega), show ((pre.length : Int) + 1).toNat = pre.length + 1 by omega, hdrop, hds]
      have hcs : ∀ S'', Con Tryz.prog 141 #[strV s, .int .i64 ((pre.length : Int) + 1)] S'' [] (X.Pure S'' (.tuple #[strV [], .int .i64 0, .int .i64 10])) := fun S'' => (wString_con s _ S'' (by omega)).eq hsv
      (repeat (first | refine Jc ?_ | (apply s_evb; (case hg => rfl); (case hd => rfl); (case hn => rfl); (case he => (apply ev_len_b; rfl))) | (apply s_evb; (case hg => rfl); (case hd => rfl); (case hn => rfl); (case he => (apply ev_nilCheck; rfl))) | (apply s_evb; (case hg => rfl); (case hd => rfl); (case hn => rfl); (case he => ((apply ev_index_b (k := pre.length); (case hx => rfl); (case hi => rfl); (case hu => exact e2))))) | ((apply z_call; rfl; rfl; rfl; exact check_con_t S'; rintro S8 _ _ - ⟨rfl, rfl, rfl⟩)) | ((apply z_call; rfl; rfl; rfl; exact hcs _; rintro _ _ _ - ⟨rfl, rfl, rfl⟩)) | (apply s_callX; (case hg => rfl); (case ha => rfl); (case hc => exact check_conX p _ hES); (case hL => (repeat (first | exact pm_nil _ | exact pm_refl _ _ | exact pm_self _ | apply pm_cons | apply pm_app))); rintro S9 L9 c9 hle9 ⟨rfl, rfl, rfl⟩) | apply q_then_panic | apply q_in_panic | refine Jo ?_ | intro _))
      exact o_panic (List.Sublist.refl _) rfl
    obtain ⟨hr1, hk1⟩ := decS_some hds
    rw [List.length_drop] at hk1
    have hsv : strgV s ((pre.length : Int) + 1) = .tuple #[strV r, .int .i64 ((pre.length : Int) + 1 + (k : Nat)), .int .i64 0] := by
      unfold strgV
      rw [if_neg (by omega), show ((pre.length : Int) + 1).toNat = pre.length + 1 by omega, hdrop, hds]
    have hcs : ∀ S'', Con Tryz.prog 141 #[strV s, .int .i64 ((pre.length : Int) + 1)] S'' [] (X.Pure S'' (.tuple #[strV r, .int .i64 ((pre.length : Int) + 1 + (k : Nat)), .int .i64 0])) := fun S'' => (wString_con s _ S'' (by omega)).eq hsv
    by_cases hfit : 1 + k + 32 ≤ tail.length
    rotate_left
    · (repeat (first | refine Jc ?_ | (apply s_evb; (case hg => rfl); (case hd => rfl); (case hn => rfl); (case he => (apply ev_len_b; rfl))) | (apply s_evb; (case hg => rfl); (case hd => rfl); (case hn => rfl); (case he => (apply ev_nilCheck; rfl))) | (apply s_evb; (case hg => rfl); (case hd => rfl); (case hn => rfl); (case he => ((apply ev_index_b (k := pre.length); (case hx => rfl); (case hi => rfl); (case hu => exact e2))))) | ((apply z_call; rfl; rfl; rfl; exact check_con_t S'; rintro S8 _ _ - ⟨rfl, rfl, rfl⟩)) | ((apply z_call; rfl; rfl; rfl; exact hcs _; rintro _ _ _ - ⟨rfl, rfl, rfl⟩)) | (apply s_callX; (case hg => rfl); (case ha => rfl); (case hc => exact check_conX p _ hES); (case hL => (repeat (first | exact pm_nil _ | exact pm_refl _ _ | exact pm_self _ | apply pm_cons | apply pm_app))); rintro S9 L9 c9 hle9 ⟨rfl, rfl, rfl⟩) | apply q_then_panic | apply q_in_panic | refine Jo ?_ | intro _))
      exact o_panic (List.Sublist.refl _) rfl
    have hta := tadd_con hT2 r K S' hr1 hh' (by omega) (by omega) hKS hKl
    obtain ⟨st, hst⟩ : ∃ st, st = stored K h r := ⟨_, rfl⟩
    rw [← hst] at hta
    have hj : ((pre.length : Int) + 1 + (k : Nat) + 32) = ((pre.length + (1 + k + 32) : Nat) : Int) := by omega
    have hsub : (s.take (pre.length + (1 + k + 32))).drop pre.length = tail.take (1 + k + 32) := by
      rw [hpre, List.take_append, List.drop_append, List.take_of_length_le (by omega), List.drop_of_length_le (by omega), Nat.add_sub_cancel_left]
      simp
    have hne : (st == (s.take (pre.length + (1 + k + 32))).drop pre.length) = false := by
      rw [hsub, beq_eq_false_iff_ne]
      intro e
      exact hno ⟨r, tail.drop (1 + k + 32), hr1, by rw [← hst, e, List.take_append_drop]⟩
    (repeat (first | refine Jc ?_ | (apply s_evb; (case hg => rfl); (case hd => rfl); (case hn => rfl); (case he => (apply ev_len_b; rfl))) | (apply s_evb; (case hg => rfl); (case hd => rfl); (case hn => rfl); (case he => (apply ev_nilCheck; rfl))) | (apply s_evb; (case hg => rfl); (case hd => rfl); (case hn => rfl); (case he => ((apply ev_index_b (k := pre.length); (case hx => rfl); (case hi => rfl); (case hu => exact e2))))) | ((apply z_call; rfl; rfl; rfl; exact check_con_t S'; rintro S8 _ _ - ⟨rfl, rfl, rfl⟩)) | ((apply z_call; rfl; rfl; rfl; exact hcs _; rintro _ _ _ - ⟨rfl, rfl, rfl⟩)) | refine Jo ?_ | intro _))
    refine W.trim (F' := [(6, .int .i64 ((pre.length : Int) + 1 + (k : Nat))), (5, strV r), (4, .int .i64 (pre.length : Nat)), (0, .pointer (some ⟨b, 0, none⟩)), (1, strV s)]) (L' := (b, .cells (.slice A d.length c0 :: strV h :: .int .i64 pre.length :: rest).toArray T (0, 0)) :: ob) sbF (List.Sublist.refl _) ?_
    ((apply c_held ([]); (case hL => (exact sbT))); refine Jf 0 ?_; refine Jf 1 ?_; refine Jf 3 ?_; refine Jf 4 ?_; refine Jf 5 ?_; refine Jf 6 ?_; (apply h_first 7; (case hi => rfl); (case hr => kernel_rfl); (case hfr => kernel_rfl); (case hsel => kernel_rfl); (case hg => rfl); (case hd => rfl); (case he => (apply ev_slice_b (i := pre.length) (j := pre.length + (1 + k + 32)); (case hx => rfl); (case hy => rfl); (case hz => exact congrArg (fun z => some (Value.int .i64 z)) hj); (case hj => exact ⟨by omega, by omega⟩)))); (apply h_one 2; (case hr => kernel_rfl)); (apply n_call; (case hi => rfl); (case i1 => infer_instance); (case hg => rfl); (case hd => rfl); (case ha => rfl); (case hc => exact hta); (case hL => (repeat (first | exact pm_nil _ | exact pm_refl _ _ | exact pm_self _ | apply pm_cons | apply pm_app))); (case hsub => (intros; (exact sbT))); rintro S9 L9 v9 hle9 ⟨hT9, rfl⟩); (apply h_first 8; (case hi => rfl); (case hr => kernel_rfl); (case hfr => kernel_rfl); (case hsel => kernel_rfl); (case hg => rfl); (case hd => rfl); (case he => (apply ev_eql_bs' (r := false) (a := st) (b := (s.take (pre.length + (1 + k + 32))).drop pre.length); (case hx => rfl); (case hy => rfl); (case h => exact hne)))); (apply h_one 9; (case hr => kernel_rfl)); (apply n_callX; (case hi => rfl); (case i1 => infer_instance); (case hg => rfl); (case hk => rfl); (case ha => rfl); (case hc => exact check_conX p _ (hES.le hle9)); (case hL => (repeat (first | exact pm_nil _ | exact pm_refl _ _ | exact pm_self _ | apply pm_cons | apply pm_app))); rintro S11 L11 c11 hle11 ⟨rfl, rfl, rfl⟩))
    repeat (first | apply q_then_panic | apply q_in_panic)
    exact o_panic (List.Sublist.refl _) rfl
  | cons r t =>
    rw [group_cons] at hpre hg2
    have hrl := hsh r (by rw [hdt]; simp)
    have hsl := stored_len (K := K) (h := h) hrl
    have hcl := chain_len K h r.b
    obtain ⟨st, hst⟩ : ∃ st, st = stored K h r.b := ⟨_, rfl⟩
    obtain ⟨rs, hrs⟩ : ∃ rs, rs = (group K (chain K h r.b) t).1 ++ tail := ⟨_, rfl⟩
    have hst2 : st = [1] ++ stw r.b ++ chain K h r.b := by rw [hst]; unfold stored; rfl
    have hpre2 : s = pre ++ (st ++ rs) := by rw [hpre, hst, hrs]; simp
    have hstl : st.length = 1 + (stw r.b).length + 32 := by rw [hst2]; simp [hcl]; omega
    have hslen : s.length = pre.length + (st.length + rs.length) := by rw [hpre2]; simp
    have e1 : pre.length < s.length := by omega
    have e2 : s[pre.length]? = some 1 := by rw [hpre2, List.getElem?_append_right (Nat.le_refl _), hst2]; simp
    have e3 : s.drop (pre.length + 1) = stw r.b ++ (chain K h r.b ++ rs) := by rw [hpre2, hst2, ← List.drop_drop]; simp
    have hsv : strgV s ((pre.length : Int) + 1) = .tuple #[strV r.b, .int .i64 ((pre.length : Int) + 1 + ((stw r.b).length : Nat)), .int .i64 0] := by
      unfold strgV
      rw [if_neg (by omega), show ((pre.length : Int) + 1).toNat = pre.length + 1 by omega, e3, decS_stw hrl]
    have hcs : ∀ S'', Con Tryz.prog 141 #[strV s, .int .i64 ((pre.length : Int) + 1)] S'' [] (X.Pure S'' (.tuple #[strV r.b, .int .i64 ((pre.length : Int) + 1 + ((stw r.b).length : Nat)), .int .i64 0])) := fun S'' => (wString_con s _ S'' (by omega)).eq hsv
    have hta := tadd_con hT r.b K S' hrl hh' (by omega) (by have := congrArg List.length hdt; simp at this; omega) hKS hKl
    rw [← hst] at hta
    have hsub : (s.take (pre.length + st.length)).drop pre.length = st := by rw [hpre2]; simp [List.take_append]
    obtain ⟨rv, ob, rfl, ho⟩ := hT
    obtain ⟨A, c, rfl⟩ := ho.form
    (repeat (first | refine Jc ?_ | (apply s_evb; (case hg => rfl); (case hd => rfl); (case hn => rfl); (case he => (apply ev_len_b; rfl))) | (apply s_evb; (case hg => rfl); (case hd => rfl); (case hn => rfl); (case he => (apply ev_nilCheck; rfl))) | (apply s_evb; (case hg => rfl); (case hd => rfl); (case hn => rfl); (case he => ((apply ev_index_b (k := pre.length); (case hx => rfl); (case hi => rfl); (case hu => exact e2))))) | ((apply z_call; rfl; rfl; rfl; exact check_con_t S'; rintro S8 _ _ - ⟨rfl, rfl, rfl⟩)) | ((apply z_call; rfl; rfl; rfl; exact hcs _; rintro _ _ _ - ⟨rfl, rfl, rfl⟩)) | refine Jo ?_ | intro _))
    refine W.trim (F' := [(6, .int .i64 ((pre.length : Int) + 1 + ((stw r.b).length : Nat))), (5, strV r.b), (4, .int .i64 (pre.length : Nat)), (0, .pointer (some ⟨b, 0, none⟩)), (1, strV s)]) (L' := (b, .cells (.slice A d.length c :: strV h :: .int .i64 pre.length :: rest).toArray T (0, 0)) :: ob) sbF (List.Sublist.refl _) ?_
    have hj : ((pre.length : Int) + 1 + ((stw r.b).length : Nat) + 32) = ((pre.length + st.length : Nat) : Int) := by omega
    ((apply c_held ([]); (case hL => (exact sbT))); refine Jf 0 ?_; refine Jf 1 ?_; refine Jf 3 ?_; refine Jf 4 ?_; refine Jf 5 ?_; refine Jf 6 ?_; (apply h_first 7; (case hi => rfl); (case hr => kernel_rfl); (case hfr => kernel_rfl); (case hsel => kernel_rfl); (case hg => rfl); (case hd => rfl); (case he => (apply ev_slice_b (i := pre.length) (j := pre.length + st.length); (case hx => rfl); (case hy => rfl); (case hz => exact congrArg (fun z => some (Value.int .i64 z)) hj); (case hj => exact ⟨by omega, by omega⟩)))); (apply h_one 2; (case hr => kernel_rfl)); (apply n_call; (case hi => rfl); (case i1 => infer_instance); (case hg => rfl); (case hd => rfl); (case ha => rfl); (case hc => exact hta); (case hL => (repeat (first | exact pm_nil _ | exact pm_refl _ _ | exact pm_self _ | apply pm_cons | apply pm_app))); (case hsub => (intros; (exact sbT))); rintro S9 L9 v9 hle9 ⟨hT9, rfl⟩); (apply h_first 8; (case hi => rfl); (case hr => kernel_rfl); (case hfr => kernel_rfl); (case hsel => kernel_rfl); (case hg => rfl); (case hd => rfl); (case he => (apply ev_eql_bs' (r := true) (a := st) (b := (s.take (pre.length + st.length)).drop pre.length); (case hx => rfl); (case hy => rfl); (case h => (rw [hsub]; exact beq_self_eq_true st))))); (apply h_one 9; (case hr => kernel_rfl)); (apply n_call; (case hi => rfl); (case i1 => infer_instance); (case hg => rfl); (case hd => rfl); (case ha => rfl); (case hc => exact check_con_t S9); (case hL => (repeat (first | exact pm_nil _ | exact pm_refl _ _ | exact pm_self _ | apply pm_cons | apply pm_app))); (case hsub => (intros; (exact sbT))); rintro S10 _ _ - ⟨rfl, rfl, rfl⟩); (apply h_end; (case hr => kernel_rfl)))
    (repeat (first | refine Jz ?_ | intro _))
    rw [List.nil_append, List.append_nil]
    refine q_back (L' := L9) (m' := t.length) ⟨hle'.trans hle9, d ++ [r], t, pre ++ st, chain K h r.b, rfl, (by rw [hdt]; simp), (by rw [hpre2, hrs]; simp), hg2, hcl, (by rw [List.length_append]; exact hT9), rfl⟩ (Nat.lt_succ_self _) sbF (List.Sublist.refl _)
end Go.Proofs.YtnlfohlngapkfaaGreatDoor
namespace Go.Proofs.YtnlfohlngapkfaaGreatDoor
open Go Go.X
set_option maxRecDepth 10000
set_option linter.unusedVariables false
attribute [local irreducible] Code.wpIn wpListIn Exit.then Exit.inBlock X.Out X.Back X.W X.Ev X.Con X.BinV X.Wh X.Wn X.Wq
attribute [local irreducible] sumK chain stw group stored
/-- The deferred closure of journal.open where the disk is damaged: no journal, and the error. -/
theorem open1_conR (p : Addr) (b4 b5 : Nat) (v4 v5 : Value) (S : SH) (L2 : Blocks) (hE : Pts S ⟨0, 0, none⟩ [errV p]) :
    ConR Tryz.prog 99 #[.pointer (some ⟨b4, 0, none⟩), .pointer (some ⟨b5, 0, none⟩)] (chE p) S ((b5, .cells [v5].toArray 33 (0, 0)) :: (b4, .cells [v4].toArray 28 (0, 0)) :: L2)
      (fun S' L' => S' = S ∧ L' = (b5, .cells [.int .i64 332].toArray 33 (0, 0)) :: (b4, .cells [.pointer none].toArray 28 (0, 0)) :: L2) := by
  refine conR_of (args := [.pointer (some ⟨b4, 0, none⟩), .pointer (some ⟨b5, 0, none⟩)]) Tryz.func99 rfl Tryz.ntmps99 rfl fun cx c₀ cs hr => ?_
  apply ws_seq
  apply ws_region
  apply ws_recover (hr := hr); rfl; rfl; rfl
  apply ws_ev; rfl; rfl; rfl; (apply ev_typeAssert; (case hx => rfl); (case hv => exact asrtE p))
  apply ws_ev; rfl; rfl; rfl; (apply ev_move; rfl)
  apply ws_ev; rfl; rfl; rfl; (apply ev_extract'; rfl; rfl)
  apply ws_ev; rfl; rfl; rfl; (apply ev_extract'; rfl; rfl)
  apply ws_ev; rfl; rfl; rfl; (apply ev_assign; rfl)
  apply ws_ev; rfl; rfl; rfl; (apply ev_assign; rfl)
  apply ws_end
  apply ws_then
  apply ws_to
  (repeat (first | refine Jc ?_ | (apply s_load1; (case hg => rfl); (case hd => rfl); (case hx => rfl); (case hv => exact hE)) | ((apply z_call; rfl; rfl; rfl; exact errors_Is_con p _; rintro _ _ _ - ⟨rfl, rfl, rfl⟩)) | refine Jo ?_ | intro _))
  exact ws_ret (.inr rfl) rfl Tryz.results99 fun w hs => ⟨⟨_, rfl⟩, rfl, S, _, ⟨rfl, rfl⟩, hs⟩
theorem open_bad_con (q p : Addr) (K : List UInt32) (l : List Str) (tail s : Bs) (S : SH) (hs : s = (group K head0 l).1 ++ tail)
    (hsh : ∀ r ∈ l, r.b.length ≤ 65536) (hl : l.length ≤ 100000) (hlen : s.length ≤ 1000000000) (htl : Bad K (group K head0 l).2 tail) (hK : Pts S ⟨4, 0, none⟩ (cellsOf K)) (hKl : K.length = 64) (hE : Pts S ⟨0, 0, none⟩ [errV p]) :
    Con Tryz.prog 62 #[.pointer (some q), strV s] S [] (fun S' L' r => L' = [] ∧ r = .tuple #[.pointer none, .int .i64 332]) := by
  refine con_of (args := [.pointer (some q), strV s]) Tryz.func62 rfl Tryz.ntmps62 rfl fun w => ?_
  (repeat (first | refine Jc ?_ | (apply s_evb; (case hg => rfl); (case hd => rfl); (case hn => rfl); (case he => ((apply ev_build (cells := [.slice none 0 0, strV head0, .int .i64 0, .pointer (some q), .bool false].toArray); (case hp => rfl); (case hc => rfl))))) | (apply s_defer; (case hk => rfl); (case hg => rfl); (case hx => rfl)) | (apply s_evb; (case hg => rfl); (case hd => rfl); (case hn => rfl); (case he => (apply ev_nilCheck; rfl))) | (apply s_make1 (m := 32); (case hg => rfl); (case hd => rfl); (case hx => rfl); (case hy => rfl); (case hzc => rfl); (case hb => omega); (case h63 => omega); intro _) | (apply s_evb; (case hg => rfl); (case hd => rfl); (case hn => rfl); (case he => ((apply ev_str_own (B := head0); (case hx => rfl); (case hm => exact List.Mem.head _); (case hk => exact Nat.le_refl _))))) | (apply s_callX; (case hg => rfl); (case ha => rfl); (case hc => exact load_conX (T := 92) (rest := [.pointer (some q), .bool false]) (h0 := head0) ⟨_, [], rfl, Ows.nil 9⟩ K l tail s S hs rfl hsh hl hlen htl hK hKl p hE); (case hL => exact List.Perm.refl _); rintro S3 L3 v3 hle3 rfl) | apply q_then_panic | apply q_in_panic | refine Jo ?_ | intro _))
  rename_i b4 b5 b8 b12
  refine W.weaken (F' := [(4, .pointer (some ⟨b4, 0, none⟩)), (5, .pointer (some ⟨b5, 0, none⟩)), (kM, .func (.func 99) #[] #[.pointer (some ⟨b4, 0, none⟩), .pointer (some ⟨b5, 0, none⟩)])]) (L' := [(b5, .cells [.int .i64 0].toArray 33 (0, 0)), (b4, .cells [.pointer (some ⟨b12, 0, none⟩)].toArray 28 (0, 0))]) ?_ sbF sbL
  refine out_panicd (fix := []) (caps := [.pointer (some ⟨b4, 0, none⟩), .pointer (some ⟨b5, 0, none⟩)]) inferInstance rfl (open1_conR p b4 b5 _ _ _ [] (hE.le hle3)) ?_
  rintro S' L1 ⟨rfl, rfl⟩
  refine ⟨.tuple #[.pointer none, .int .i64 332], [], List.nil_sublist _, ⟨rfl, rfl⟩, fun a w hf hst => ?_⟩
  have e4 := hf.slot 4 (.pointer (some ⟨b4, 0, none⟩)) rfl
  have e5 := hf.slot 5 (.pointer (some ⟨b5, 0, none⟩)) rfl
  have c4 : w.cell? ⟨b4, 0, none⟩ = some (.pointer none) := by
    rw [own_cell hst (List.mem_cons_of_mem _ List.mem_cons_self)]; rfl
  have c5 : w.cell? ⟨b5, 0, none⟩ = some (.int .i64 332) := by
    rw [own_cell hst List.mem_cons_self]; rfl
  have r4 : (loadVar 28 ⟨b4, 0, none⟩).run Tryz.prog w = .ok (.pointer none) w := run_loadVar_sc c4
  have r5 : (loadVar 33 ⟨b5, 0, none⟩).run Tryz.prog w = .ok (.int .i64 332) w := run_loadVar_sc c5
  simp [results, Tryz.results62, Array.getD_eq_getD_getElem?, e4, e5, asAddr, r4, r5]
/-- Open where the disk is damaged. -/
theorem OpenBad_con {v : Value} {D : Dk} {LD : Blocks} (h : OwD v D LD) (K : List UInt32) (l : List Str) (tail : Bs) (S : SH) (p : Addr) (hoff : D.off = false) (hvl : D.vis.length = D.dur.length) (hd : D.dur.length ≤ 1000000) (hvis : D.vis = (group K head0 l).1 ++ tail)
    (hsh : ∀ r ∈ l, r.b.length ≤ 65536) (hl : l.length ≤ 100000) (htl : Bad K (group K head0 l).2 tail) (hK : Pts S ⟨4, 0, none⟩ (cellsOf K)) (hKl : K.length = 64) (hE : Pts S ⟨0, 0, none⟩ [errV p]) :
    Con Tryz.prog 26 #[v] S LD (fun S' L' r => OwD v D L' ∧ r = .tuple #[.pointer none, .int .i64 332]) := by
  have hv := h
  obtain ⟨b, g1, g2, N, pv, ob, rfl, -⟩ := hv
  refine con_of (args := [.pointer (some ⟨b, 0, none⟩)]) Tryz.func26 rfl Tryz.ntmps26 rfl fun w => ?_
  have hrv : readV D 0 (D.dur.length : Nat) = .tuple #[strV D.vis, .int .i64 0] := by
    unfold readV insideB
    rw [hoff]
    simp [← hvl]
  have hlen : D.vis.length ≤ 1000000000 := by omega
  (repeat (first | refine Jc ?_ | (apply s_evb; (case hg => rfl); (case hd => rfl); (case hn => rfl); (case he => (apply ev_eql_p; (case hx => rfl); (case hy => rfl)))) | (apply s_call (L2 := []); (case hg => rfl); (case hd => rfl); (case ha => rfl); (case hc => exact Size_con h S); (case hL => exact (List.Perm.of_eq (List.append_nil _).symm)); rintro S3 L3 v3 hle3 ⟨rfl, hD3, rfl⟩; rw [List.append_nil]) | (apply s_call (L2 := []); (case hg => rfl); (case hd => rfl); (case ha => rfl); (case hc => (have hr := Read_con hD3 S3 0 (D.dur.length : Nat) (by unfold i64; omega) (by unfold i64; omega); rw [hrv] at hr; exact hr)); (case hL => exact (List.Perm.of_eq (List.append_nil _).symm)); rintro S4 L4 v4 hle4 ⟨rfl, hD4, rfl⟩; rw [List.append_nil]) | (apply s_call (L2 := L4); (case hg => rfl); (case hd => rfl); (case ha => rfl); (case hc => exact open_bad_con ⟨b, 0, none⟩ p K l tail D.vis _ hvis hsh hl hlen htl hK hKl hE); (case hL => exact List.Perm.refl _); rintro S5 L5 v5 hle5 ⟨rfl, rfl⟩) | refine Jo ?_ | intro _))
  exact o_ret2 Tryz.results26 rfl rfl (List.Sublist.refl _) ⟨hD4, rfl⟩
end Go.Proofs.YtnlfohlngapkfaaGreatDoor
namespace Go.Proofs.YtnlfohlngapkfaaGreatDoor
open Go Go.X
set_option maxRecDepth 10000
set_option linter.unusedVariables false
attribute [local irreducible] Code.wpIn wpListIn Exit.then Exit.inBlock X.Out X.Back X.W X.Ev X.Con X.BinV X.Wh X.Wn X.Wq
attribute [local irreducible] sumK chain stw group stored
theorem dropWhile_nil {p : UInt8 → Bool} : ∀ l : Bs, l.dropWhile p = [] ↔ ∀ x ∈ l, p x = true
  | [] => by simp
  | a :: l => by
    rw [List.dropWhile_cons]
    cases h : p a with
    | true => simp [h, dropWhile_nil l]
    | false => simp [h]
theorem trimB_nil (t : Bs) : Lib.trimB t 0 = [] ↔ t = zs t.length := by
  have h1 : Lib.trimRightB t 0 = [] ↔ ∀ x ∈ t, x = 0 := by
    unfold Lib.trimRightB
    rw [List.reverse_eq_nil_iff, dropWhile_nil]
    simp
  constructor
  · intro h
    unfold Lib.trimB Lib.trimLeftB at h
    rw [dropWhile_nil] at h
    have h2 : ∀ x ∈ t, x = 0 := h1.1 (by
      rcases List.eq_nil_or_concat (Lib.trimRightB t 0) with e | ⟨a, b, e⟩
      · exact e
      · exfalso
        -- what is left from the right ends with a byte that is not 0
        have hd : ∃ y r, t.reverse.dropWhile (· == 0) = y :: r ∧ (y == 0) = false := by
          cases hc : t.reverse.dropWhile (· == 0) with
          | nil => rw [Lib.trimRightB, hc] at e; simp at e
          | cons y r =>
            refine ⟨y, r, rfl, ?_⟩
            have h5 : t.reverse.dropWhile (fun x : UInt8 => x == 0) ≠ [] := by rw [hc]; simp
            have := List.head_dropWhile_not (fun x : UInt8 => x == 0) h5
            simpa [hc] using this
        obtain ⟨y, r, e2, e3⟩ := hd
        have hy : y ∈ Lib.trimRightB t 0 := by rw [Lib.trimRightB, e2]; simp
        have := h y hy
        rw [e3] at this; cases this)
    exact List.eq_replicate_iff.2 ⟨rfl, h2⟩
  · intro h
    have hz : ∀ x ∈ t, x = 0 := fun x hx => by rw [h] at hx; exact (List.mem_replicate.1 hx).2
    have := h1.2 hz
    rw [Lib.trimB, this]; rfl
theorem firstP2 {σ : Type} (run : Nat → σ → σ × Int) (s : σ) : firstP run 2 0 s = if (run 0 s).2 ≠ 0 then run 0 s else if (run 1 (run 0 s).1).2 ≠ 0 then run 1 (run 0 s).1 else ((run 1 (run 0 s).1).1, 0) := rfl
theorem openE_set {size q : Nat} {B : Bs} (h : size + q = B.length) : openE size q (setD B) = (setD (B.take size ++ zs q), 0) := by
  unfold openE
  have e0 : ∀ D, app2 size (List.replicate q 0) 0 D = (wrD D (size : Nat) (List.replicate q 0), wrE D (size : Nat) (List.replicate q 0)) := fun D => rfl
  have e1 : ∀ D, app2 size (List.replicate q 0) 1 D = (syncD D, if D.off then 321 else 0) := fun D => rfl
  have w := wrD_on (left := 0) (dur := B) (vis := B) (pend := []) (o := size) (s := List.replicate q 0) (by simp; omega)
  rw [firstP2]
  unfold setD
  rw [e0, w.1, w.2, e1]
  have hl : lset B size (List.replicate q 0) = B.take size ++ zs q := by
    unfold lset zs
    rw [List.drop_of_length_le (by simp; omega), List.append_nil]
  simp [usedP, syncD, hl]
/-- Open of a disk that has power and all of whose writes are durable: its records, and the rest is zeros then. -/
theorem OpenR_con {v : Value} {B : Bs} {LD : Blocks} (h : OwD v (setD B) LD) {K : List UInt32} {N : Nat} {l : List Str} (hm : Mess K N l B) (hN : N ≤ 1000000) (hs : Short l) (S : SH) (hK : Pts S ⟨4, 0, none⟩ (cellsOf K)) (hKl : K.length = 64) :
    Con Tryz.prog 26 #[v] S LD (fun S' L' r => ∃ jv LJ LD', L' = LJ ++ LD' ∧ OwJ jv v (jnK K l) LJ ∧ OwD v (setD (Good K N l)) LD' ∧ r = .tuple #[jv, .int .i64 0]) := by
  have hle := hm.le
  have hrl := recB_len (K := K) hs
  obtain ⟨hBl, tail, hB, ht⟩ := hm
  have hlen : (recB K l).length + tail.length = N := by rw [← hBl, hB, List.length_append]
  have hg : recB K l = (group K head0 l).1 := rfl
  by_cases htr : Lib.trimB tail 0 = []
  · have hG : B = Good K N l := by
      rw [hB, Good, (trimB_nil tail).1 htr]
      congr 2
      omega
    have := OpenOk_con h K l tail S rfl rfl (show B.length ≤ _ by omega) hB hs (by omega) ht htr hK hKl
    rw [← hG]
    exact this
  · have := OpenFix_con h K l tail S rfl rfl (show B.length ≤ _ by omega) (Nat.zero_le _) hB hs (by omega) ht htr hK hKl
    have hE := openE_set (size := (group K head0 l).1.length) (q := tail.length) (B := B) (by rw [← hg]; omega)
    have hG : B.take (group K head0 l).1.length ++ zs tail.length = Good K N l := by
      rw [hB, ← hg, List.take_left, Good]
      congr 2
      omega
    rw [hG] at hE
    rw [hE] at this
    refine this.mono fun S' L' r _ h => ?_
    obtain ⟨jv, LJ, LD', h | h⟩ := h
    · obtain ⟨e1, -, e3, e4, e5⟩ := h
      exact ⟨jv, LJ, LD', e1, e3, e4, e5⟩
    · exact absurd rfl h.1
theorem AppS_con {jv v : Value} {K : List UInt32} {N : Nat} {a : List Str} {LJ LD : Blocks} (hJ : OwJ jv v (jnK K a) LJ) (hD : OwD v (setD (Good K N a)) LD) (l : List Str) (A : Option Addr) (c : Nat) (S : SH) (hA : At S A l) (hl : l.length ≤ 1000) (ha : Short a) (hls : Short l) (hle : (recB K a).length ≤ N) (hN : N ≤ 1000000)
    (hK : Pts S ⟨4, 0, none⟩ (cellsOf K)) (hKl : K.length = 64) :
    Con Tryz.prog 11 #[jv, .slice A l.length c] S (LJ ++ LD) (fun S' L' r => ∃ LJ' LD', L' = LJ' ++ LD' ∧
      (N < (recB K (a ++ l)).length ∧ OwJ jv v (jnK K a) LJ' ∧ OwD v (setD (Good K N a)) LD' ∧ r = .int .i64 331 ∨ (recB K (a ++ l)).length ≤ N ∧ OwJ jv v (jnK K (a ++ l)) LJ' ∧ OwD v (setD (Good K N (a ++ l))) LD' ∧ r = .int .i64 0)) := by
  have hrl := recB_len (K := K) ha
  have hgl := Good_len hle
  have h := Append_con hJ hD K l A c S hA hl rfl (List.any_eq_false.2 fun r hr => by have := hls r hr; simp only [isLong, decide_eq_true_eq]; omega) (group_head (by unfold head0; simp) a) (show (recB K a).length ≤ _ by omega) (show a.length ≤ _ by omega) (show (Good K N a).length ≤ _ by omega) (Nat.zero_le _) hK hKl
  rw [app_settled ha hls hle] at h
  refine h.mono fun S' L' r _ ⟨LJ', LD', e1, e2, e3, e4⟩ => ⟨LJ', LD', e1, ?_⟩
  by_cases hc : N < (recB K (a ++ l)).length
  · rw [if_pos hc] at e2 e3 e4
    exact .inl ⟨hc, e2, e3, e4⟩
  · rw [if_neg hc] at e2 e3 e4
    exact .inr ⟨by omega, e2, e3, e4⟩
end Go.Proofs.YtnlfohlngapkfaaGreatDoor
namespace Go.Proofs.YtnlfohlngapkfaaGreatDoor
open Go Go.X
set_option maxRecDepth 10000
set_option linter.unusedVariables false
attribute [local irreducible] Code.wpIn wpListIn Exit.then Exit.inBlock X.Out X.Back X.W X.Ev X.Con X.BinV X.Wh X.Wn X.Wq
attribute [local irreducible] sumK chain stw group stored
theorem OwJ.form {jv v : Value} {J : Jn} {L : Blocks} (h : OwJ jv v J L) : ∃ b, jv = .pointer (some ⟨b, 0, none⟩) := by obtain ⟨b, e, _⟩ := h; exact ⟨b, e⟩
theorem OwD.form {v : Value} {D : Dk} {L : Blocks} (h : OwD v D L) : ∃ b, v = .pointer (some ⟨b, 0, none⟩) := by obtain ⟨b, _, _, _, _, _, rfl, _⟩ := h; exact ⟨b, rfl⟩
theorem ibs_small {n : Nat} (h : n < 64) : (ibs (n : Int)).length = 1 := by
  have hz : zig (n : Int) = 2 * n := by unfold zig; split <;> omega
  unfold ibs
  rw [hz, enc_lt (by omega)]; rfl
theorem ibs_mid {n : Nat} (h : 64 ≤ n) (h2 : n < 8192) : (ibs (n : Int)).length = 2 := by
  have hz : zig (n : Int) = 2 * n := by unfold zig; split <;> omega
  unfold ibs
  rw [hz, enc_ge (by omega), enc_lt (by omega)]; rfl
theorem stw_leq (s : Bs) : (stw s).length = (ibs (s.length : Int)).length + s.length := by unfold stw; rw [List.length_append]
theorem stored_leq (K : List UInt32) (h r : Bs) : (stored K h r).length = 33 + (stw r).length := by
  unfold stored
  simp only [List.length_append, List.length_cons, List.length_nil, chain_len]
  omega
theorem group_sum (K : List UInt32) : ∀ (l : List Str) (h : Bs), (group K h l).1.length = (l.map fun r => 33 + (stw r.b).length).sum
  | [], h => by rw [group_nil]; rfl
  | r :: t, h => by
    rw [group_cons]
    simp only [List.length_append, List.map_cons, List.sum_cons, group_sum K t, stored_leq]
theorem recB_sum (K : List UInt32) (l : List Str) : (recB K l).length = (l.map fun r => 33 + (stw r.b).length).sum := group_sum K l head0
theorem RoomS_con {jv v : Value} {K : List UInt32} {N : Nat} {a : List Str} {B : Bs} {LJ LD : Blocks} (hJ : OwJ jv v (jnK K a) LJ) (hD : OwD v (setD B) LD) (S : SH) (hB : B.length = N) (hle : (recB K a).length ≤ N) (hN : N ≤ 1000000) :
    Con Tryz.prog 21 #[jv] S (LJ ++ LD) (fun S' L' r => S' = S ∧ ∃ LD', L' = LJ ++ LD' ∧ OwD v (setD B) LD' ∧ r = .int .i64 ((N : Int) - (recB K a).length)) := by
  have h := Room_con hJ hD S (show (recB K a).length ≤ _ by omega) (show B.length ≤ _ by omega)
  rw [show ((setD B).dur.length : Int) - (jnK K a).size = (N : Int) - (recB K a).length by simp [setD, jnK, hB]] at h
  exact h
def sA : List Str := [⟨[97, 98]⟩, ⟨[]⟩]
def sZ (n : Nat) : Str := ⟨((List.replicate n (0 : UInt8)).drop 0).take n⟩
theorem sZ_len (n : Nat) : (sZ n).b.length = n := by unfold sZ; simp
theorem len_sA (K : List UInt32) : (recB K sA).length = 70 := by
  rw [recB_sum]
  simp only [sA, List.map_cons, List.map_nil, List.sum_cons, List.sum_nil, stw_leq, List.length_cons, List.length_nil]
  rw [ibs_small (by omega), ibs_small (by omega)]
  rfl
theorem len_sAZ (K : List UInt32) {n : Nat} (h : 64 ≤ n) (h2 : n < 8192) : (recB K (sA ++ [sZ n])).length = 105 + n := by
  rw [recB_append, List.length_append, len_sA, group_sum]
  simp only [List.map_cons, List.map_nil, List.sum_cons, List.sum_nil, stw_leq, sZ_len]
  rw [ibs_mid h h2]
  omega
theorem short_sA : Short sA := by
  intro r hr
  simp only [sA, List.mem_cons, List.not_mem_nil, or_false] at hr
  rcases hr with rfl | rfl <;> simp
theorem short_sZ {n : Nat} (h : n ≤ 65536) : Short [sZ n] := by
  intro r hr
  simp only [List.mem_singleton] at hr
  subst hr
  rw [sZ_len]; exact h
theorem bad2 (K : List UInt32) (h B : Bs) (hB : 1 ≤ B.length) : Bad K h (lset B 0 [2]) := by
  have e : lset B 0 [2] = 2 :: B.drop 1 := by simp [lset]
  rw [e]
  refine ⟨⟨2, rfl, by decide⟩, ?_⟩
  rintro ⟨r, rest, -, e2⟩
  unfold stored at e2
  simp at e2
set_option maxHeartbeats 1600000 in
/-- The fixed examples. -/
theorem sane_con (K : List UInt32) (p : Addr) (S : SH) (hK : Pts S ⟨4, 0, none⟩ (cellsOf K)) (hKl : K.length = 64) (hE : Pts S ⟨0, 0, none⟩ [errV p]) :
    Con Tryz.prog 9 #[] S [] (fun S' L' r => L' = [] ∧ r = .bool true) := by
  refine con_of (args := []) Tryz.func9 rfl Tryz.ntmps9 rfl fun w => ?_
  have h0 : (recB K []).length = 0 := by rw [recB_nil]; rfl
  have h70 := len_sA K
  have h201 := len_sAZ K (n := 96) (by omega) (by omega)
  have h200 := len_sAZ K (n := 95) (by omega) (by omega)
  (repeat (first | refine Jc ?_ | (apply s_call (L2 := []); (case hg => rfl); (case hd => rfl); (case ha => rfl); (case hc => exact New_con 200 S (by omega)); (case hL => (exact pmc (fun p => by first | rfl | ((repeat rw [List.countP_append]); (repeat rw [List.countP_cons]); (repeat rw [List.countP_nil]); (all_goals (first | rfl | omega)))))); rintro S1 L1 v1 - ⟨rfl, v, hD, rfl⟩; rw [newD_eq K] at hD; obtain ⟨bd, rfl⟩ := hD.form) | refine Jo ?_ | intro _))
  (repeat (first | refine Jc ?_ | (apply s_call (L2 := []); (case hg => rfl); (case hd => rfl); (case ha => rfl); (case hc => exact OpenR_con hD (Good_mess (by omega)) (by omega) Short.nil S1 hK hKl); (case hL => (exact pmc (fun p => by first | rfl | ((repeat rw [List.countP_append]); (repeat rw [List.countP_cons]); (repeat rw [List.countP_nil]); (all_goals (first | rfl | omega)))))); rintro S2 L2 v2 hle2 ⟨jv, LJ, LD, rfl, hJ, hD2, rfl⟩; obtain ⟨bj, rfl⟩ := hJ.form) | refine Jo ?_ | intro _))
  (repeat (first | refine Jc ?_ | (apply s_evb; (case hg => rfl); (case hd => rfl); (case hn => rfl); (case he => (apply ev_eql_p; (case hx => rfl); (case hy => rfl)))) | (apply s_call (L2 := LD); (case hg => rfl); (case hd => rfl); (case ha => rfl); (case hc => exact Records_con hJ S2 (show ([] : List Str).length ≤ _ by decide)); (case hL => (exact pmc (fun p => by first | rfl | ((repeat rw [List.countP_append]); (repeat rw [List.countP_cons]); (repeat rw [List.countP_nil]); (all_goals (first | rfl | omega)))))); rintro S3 L3 v3 - ⟨rfl, ob3, rfl, ho3⟩; obtain ⟨A3, c3, rfl⟩ := ho3.form) | refine Jo ?_ | intro _))
  (repeat (first | refine Jc ?_ | (apply s_call (L2 := ob3); (case hg => rfl); (case hd => rfl); (case ha => rfl); (case hc => exact RoomS_con hJ hD2 _ (Good_len (by omega)) (by omega) (by omega)); (case hL => (exact pmc (fun p => by first | rfl | ((repeat rw [List.countP_append]); (repeat rw [List.countP_cons]); (repeat rw [List.countP_nil]); (all_goals (first | rfl | omega)))))); rintro S4 L4 v4 - ⟨rfl, LD4, rfl, hD4, rfl⟩) | refine Jo ?_ | intro _))
  rename_i b5
  refine W.freeze fun S5 hle5 hb5 => ?_
  (repeat (first | refine Jc ?_ | (apply s_call (L2 := ob3); (case hg => rfl); (case hd => rfl); (case ha => rfl); (case hc => exact AppS_con hJ hD4 sA (some ⟨b5, 0, none⟩) 2 S5 (fun _ => ⟨_, rfl, pts_block hb5 rfl⟩) (by decide) Short.nil short_sA (by omega) (by omega) (hK.le (by repeat (first | exact Le.refl _ | assumption | refine Le.trans ?_ (by assumption)))) hKl); (case hL => (exact pmc (fun p => by first | rfl | ((repeat rw [List.countP_append]); (repeat rw [List.countP_cons]); (repeat rw [List.countP_nil]); (all_goals (first | rfl | omega)))))); rintro S6 L6 v6 hle6 ⟨LJ6, LD6, rfl, h6⟩; have h6' := h6.resolve_left (fun h => (by have := h.1; rw [List.nil_append] at this; omega)); rw [List.nil_append] at h6'; obtain ⟨-, hJ6, hD6, rfl⟩ := h6') | (apply s_make1 (m := 96); (case hg => rfl); (case hd => rfl); (case hx => rfl); (case hy => rfl); (case hzc => rfl); (case hb => omega); (case h63 => omega); intro _) | (apply s_evb; (case hg => rfl); (case hd => rfl); (case hn => rfl); (case he => ((apply ev_str_own (B := List.replicate 96 0); (case hx => rfl); (case hm => (rw [← cellsOf_zero]; exact List.Mem.head _)); (case hk => simp))))) | refine Jo ?_ | intro _))
  rename_i bz7 b7
  refine W.freeze fun S7 hle7 hb7 => W.weaken (L' := LJ6 ++ LD6) ?_ (X.Sub.refl _) sbL
  (repeat (first | refine Jc ?_ | (apply s_call (L2 := []); (case hg => rfl); (case hd => rfl); (case ha => rfl); (case hc => exact AppS_con hJ6 hD6 [sZ 96] (some ⟨b7, 0, none⟩) 1 S7 (fun _ => ⟨_, rfl, pts_block hb7 rfl⟩) (by decide) short_sA (short_sZ (by decide)) (by omega) (by omega) (hK.le (by repeat (first | exact Le.refl _ | assumption | refine Le.trans ?_ (by assumption)))) hKl); (case hL => (exact pmc (fun p => by first | rfl | ((repeat rw [List.countP_append]); (repeat rw [List.countP_cons]); (repeat rw [List.countP_nil]); (all_goals (first | rfl | omega)))))); rintro S8 L8 v8 hle8 ⟨LJ8, LD8, rfl, h8⟩; have h8' := h8.resolve_right (fun h => (by have := h.1; omega)); obtain ⟨-, hJ8, hD8, rfl⟩ := h8') | refine Jo ?_ | intro _))
  (repeat (first | refine Jc ?_ | (apply s_call (L2 := []); (case hg => rfl); (case hd => rfl); (case ha => rfl); (case hc => exact RoomS_con hJ8 hD8 _ (Good_len (by omega)) (by omega) (by omega)); (case hL => (exact pmc (fun p => by first | rfl | ((repeat rw [List.countP_append]); (repeat rw [List.countP_cons]); (repeat rw [List.countP_nil]); (all_goals (first | rfl | omega)))))); rintro S9 L9 v9 - ⟨rfl, LD9, rfl, hD9, rfl⟩) | (apply s_make1 (m := 95); (case hg => rfl); (case hd => rfl); (case hx => rfl); (case hy => rfl); (case hzc => rfl); (case hb => omega); (case h63 => omega); intro _) | (apply s_evb; (case hg => rfl); (case hd => rfl); (case hn => rfl); (case he => ((apply ev_str_own (B := List.replicate 95 0); (case hx => rfl); (case hm => (rw [← cellsOf_zero]; exact List.Mem.head _)); (case hk => simp))))) | refine Jo ?_ | intro _))
  rename_i bz10 b10
  refine W.freeze fun S10 hle10 hb10 => W.weaken (L' := LJ8 ++ LD9) ?_ (X.Sub.refl _) sbL
  (repeat (first | refine Jc ?_ | (apply s_call (L2 := []); (case hg => rfl); (case hd => rfl); (case ha => rfl); (case hc => exact AppS_con hJ8 hD9 [sZ 95] (some ⟨b10, 0, none⟩) 1 S10 (fun _ => ⟨_, rfl, pts_block hb10 rfl⟩) (by decide) short_sA (short_sZ (by decide)) (by omega) (by omega) (hK.le (by repeat (first | exact Le.refl _ | assumption | refine Le.trans ?_ (by assumption)))) hKl); (case hL => (exact pmc (fun p => by first | rfl | ((repeat rw [List.countP_append]); (repeat rw [List.countP_cons]); (repeat rw [List.countP_nil]); (all_goals (first | rfl | omega)))))); rintro S11 L11 v11 hle11 ⟨LJ11, LD11, rfl, h11⟩; have h11' := h11.resolve_left (fun h => (by have := h.1; omega)); obtain ⟨-, hJ11, hD11, rfl⟩ := h11') | refine Jo ?_ | intro _))
  have hSh : Short (sA ++ [sZ 95]) := short_sA.app (short_sZ (by decide))
  have hG := Good_len (K := K) (N := 200) (l := sA ++ [sZ 95]) (by omega)
  (repeat (first | refine Jc ?_ | (apply s_call (L2 := LJ11); (case hg => rfl); (case hd => rfl); (case ha => rfl); (case hc => exact OpenR_con hD11 (Good_mess (by omega)) (by omega) hSh _ (hK.le (by repeat (first | exact Le.refl _ | assumption | refine Le.trans ?_ (by assumption)))) hKl); (case hL => (exact pmc (fun p => by first | rfl | ((repeat rw [List.countP_append]); (repeat rw [List.countP_cons]); (repeat rw [List.countP_nil]); (all_goals (first | rfl | omega)))))); rintro S12 L12 v12 hle12 ⟨kv, LK, LD12, rfl, hJk, hD12, rfl⟩; obtain ⟨bk, rfl⟩ := hJk.form) | refine Jo ?_ | intro _))
  (repeat (first | refine Jc ?_ | (apply s_evb; (case hg => rfl); (case hd => rfl); (case hn => rfl); (case he => (apply ev_eql_p; (case hx => rfl); (case hy => rfl)))) | (apply s_call (L2 := LK ++ LJ11); (case hg => rfl); (case hd => rfl); (case ha => rfl); (case hc => exact Write_con hD12 S12 0 [2] (by unfold i64; omega) (by decide) (Nat.zero_le _)); (case hL => (exact pmc (fun p => by first | rfl | ((repeat rw [List.countP_append]); (repeat rw [List.countP_cons]); (repeat rw [List.countP_nil]); (all_goals (first | rfl | omega)))))); rintro S13 L13 v13 - ⟨rfl, hD13, rfl⟩) | refine Jo ?_ | intro _))
  have e2 := (wrD_on (left := 0) (dur := Good K 200 (sA ++ [sZ 95])) (vis := Good K 200 (sA ++ [sZ 95])) (pend := []) (o := 0) (s := [2]) (by simp; omega)).1
  change OwD _ (wrD ⟨false, 0, Good K 200 (sA ++ [sZ 95]), Good K 200 (sA ++ [sZ 95]), []⟩ ((0 : Nat) : Int) [2]) _ at hD13
  rw [e2] at hD13
  have hl2 : (lset (Good K 200 (sA ++ [sZ 95])) 0 [2]).length = 200 := by rw [lset_length _ _ _ (by simp; omega)]; exact hG
  (repeat (first | refine Jc ?_ | (apply s_call (L2 := LK ++ LJ11); (case hg => rfl); (case hd => rfl); (case ha => rfl); (case hc => exact OpenBad_con hD13 K [] (lset (Good K 200 (sA ++ [sZ 95])) 0 [2]) _ p rfl (hl2.trans hG.symm) (show (Good K 200 (sA ++ [sZ 95])).length ≤ _ by omega) (by rw [group_nil]; rfl) Short.nil (by decide) (bad2 K _ _ (by omega)) (hK.le (by repeat (first | exact Le.refl _ | assumption | refine Le.trans ?_ (by assumption)))) hKl (hE.le (by repeat (first | exact Le.refl _ | assumption | refine Le.trans ?_ (by assumption))))); (case hL => (exact pmc (fun p => by first | rfl | ((repeat rw [List.countP_append]); (repeat rw [List.countP_cons]); (repeat rw [List.countP_nil]); (all_goals (first | rfl | omega)))))); rintro S14 L14 v14 hle14 ⟨hD14, rfl⟩) | (apply z_call; rfl; rfl; rfl; exact OpenNil_con _; rintro _ _ _ - ⟨rfl, rfl, rfl⟩) | refine Jo ?_ | intro _))
  have hRm : Con Tryz.prog 21 #[.pointer (some ⟨bj, 0, none⟩)] S14 (LJ11 ++ L14) (fun S' L' r => S' = S14 ∧ ∃ LD', L' = LJ11 ++ LD' ∧ r = .int .i64 0) :=
    (Room_con hJ11 hD14 S14 (show (recB K (sA ++ [sZ 95])).length ≤ _ by omega) (show (Good K 200 (sA ++ [sZ 95])).length ≤ _ by omega)).mono fun S' L' r _ ⟨e1, LD', e3, _, e4⟩ => ⟨e1, LD', e3, by
      rw [e4, show ((((⟨(usedP false 0).1, (usedP false 0).2, Good K 200 (sA ++ [sZ 95]), lset (Good K 200 (sA ++ [sZ 95])) 0 [2], [] ++ [⟨0, [2]⟩]⟩ : Dk).dur.length : Int) - (jnK K (sA ++ [sZ 95])).size) = 0) by simp only [jnK]; omega]⟩
  (repeat (first | refine Jc ?_ | (apply s_call (L2 := LK); (case hg => rfl); (case hd => rfl); (case ha => rfl); (case hc => exact hRm); (case hL => (exact pmc (fun p => by first | rfl | ((repeat rw [List.countP_append]); (repeat rw [List.countP_cons]); (repeat rw [List.countP_nil]); (all_goals (first | rfl | omega)))))); rintro S15 L15 v15 - ⟨rfl, LD15, rfl, rfl⟩) | refine Jo ?_ | intro _))
  (repeat (first | refine Jc ?_ | (apply s_call (L2 := LJ11 ++ LD15); (case hg => rfl); (case hd => rfl); (case ha => rfl); (case hc => exact Records_con hJk _ (show (sA ++ [sZ 95]).length ≤ _ by decide)); (case hL => (exact pmc (fun p => by first | rfl | ((repeat rw [List.countP_append]); (repeat rw [List.countP_cons]); (repeat rw [List.countP_nil]); (all_goals (first | rfl | omega)))))); rintro S16 L16 v16 - ⟨rfl, ob16, rfl, ho16⟩; refine W.freezeOws (L1 := LK ++ (LJ11 ++ LD15)) ho16 (pmc (fun p => by first | rfl | ((repeat rw [List.countP_append]); (repeat rw [List.countP_cons]); (repeat rw [List.countP_nil]); (all_goals (first | rfl | omega))))) fun S17 hle17 hs17 => ?_; obtain ⟨A17, c17, rfl, -, hA17⟩ := hs17) | (apply s_idx hA17; (case hg => rfl); (case hd => rfl); (case hx => rfl); (case hi => rfl); (case hm => rfl); (case hu => exact (show (jnK K (sA ++ [sZ 95])).recs[0]? = some ⟨[97, 98]⟩ from rfl)); intro q (hq : Pts _ q [strV [97, 98]])) | (apply s_load1; (case hg => rfl); (case hd => rfl); (case hx => rfl); (case hv => exact hq)) | (apply s_evb; (case hg => rfl); (case hd => rfl); (case hn => rfl); (case he => ((apply ev_eql_bs' (r := true) (a := [97, 98]) (b := [97, 98]); (case hx => rfl); (case hy => rfl); (case h => rfl))))) | refine Jo ?_ | intro _))
  exact o_ret Tryz.results9 rfl (List.nil_sublist _) ⟨rfl, rfl⟩
end Go.Proofs.YtnlfohlngapkfaaGreatDoor
namespace Go.Proofs.YtnlfohlngapkfaaGreatDoor
open Go Go.X
set_option maxRecDepth 10000
set_option linter.unusedVariables false
attribute [local irreducible] Code.wpIn wpListIn Exit.then Exit.inBlock X.Out X.Back X.W X.Ev X.Con X.BinV X.Wh X.Wn X.Wq
attribute [local irreducible] sumK chain stw group stored
/-- A field or an element that is a slice of strings. -/
def slOk (S : SH) (x : Sv) : Prop := ∃ l : List Str, x.m = l.length ∧ l.length ≤ x.c ∧ At S x.a l ∧ ∀ y ∈ l, y.b.length ≤ maxLen
theorem slOk.le {S T : SH} (h : Le S T) {x : Sv} (k : slOk S x) : slOk T x := by
  obtain ⟨l, h1, h2, h3, h4⟩ := k
  exact ⟨l, h1, h2, h3.le h, h4⟩
theorem few_short (l : List Str) : Short (fewL l) := by
  intro r hr
  unfold fewL at hr
  obtain ⟨x, -, rfl⟩ := List.mem_map.1 hr
  unfold cut1
  simp only [List.length_take]
  omega
theorem few_len (l : List Str) : (fewL l).length ≤ 6 := by
  unfold fewL; simp only [List.length_map, List.length_take]; omega
/-- Two equal lists. -/
theorem same_con_t {l r : List Str} {A B : Option Addr} {c c2 : Nat} {S : SH} (hA : At S A l) (hB : At S B r) (hl : l.length ≤ 1000000000) (he : l.map Str.b = r.map Str.b) :
    Con Tryz.prog 19 #[.slice A l.length c, .slice B r.length c2] S [] (X.Pure S (.bool true)) := by
  have hlen : l.length = r.length := by simpa using congrArg List.length he
  have h := same_con l r A B c c2 S hA hB hl (by omega)
  rw [decide_eq_true he] at h
  exact h
end Go.Proofs.YtnlfohlngapkfaaGreatDoor
namespace Go.Proofs.YtnlfohlngapkfaaGreatDoor
open Go Go.X
open Go.ChangeShapes Go.WideShapes Go.ChangeAt Go.RowKit
theorem own : ownKnob Tryz.prog.godebug = none := by kernel_rfl
theorem laidOut : laidOutB Tryz.prog = true := by kernel_rfl
/-- The words that digest.round holds. -/
def roundI : List Int := [1116352408, 1899447441, 3049323471, 3921009573, 961987163, 1508970993, 2453635748, 2870763221, 3624381080, 310598401, 607225278, 1426881987, 1925078388, 2162078206, 2614888103, 3248222580, 3835390401, 4022224774, 264347078, 604807628, 770255983, 1249150122, 1555081692, 1996064986, 2554220882, 2821834349, 2952996808, 3210313671, 3336571891, 3584528711, 113926993, 338241895, 666307205, 773529912, 1294757372, 1396182291, 1695183700, 1986661051, 2177026350, 2456956037, 2730485921, 2820302411, 3259730800, 3345764771, 3516065817, 3600352804, 4094571909, 275423344, 430227734, 506948616, 659060556, 883997877, 958139571, 1322822218, 1537002063, 1747873779, 1955562222, 2024104815, 2227730452, 2361852424, 2428436474, 2756734187, 3204031479, 3329325298]
def roundK : List UInt32 := [1116352408, 1899447441, 3049323471, 3921009573, 961987163, 1508970993, 2453635748, 2870763221, 3624381080, 310598401, 607225278, 1426881987, 1925078388, 2162078206, 2614888103, 3248222580, 3835390401, 4022224774, 264347078, 604807628, 770255983, 1249150122, 1555081692, 1996064986, 2554220882, 2821834349, 2952996808, 3210313671, 3336571891, 3584528711, 113926993, 338241895, 666307205, 773529912, 1294757372, 1396182291, 1695183700, 1986661051, 2177026350, 2456956037, 2730485921, 2820302411, 3259730800, 3345764771, 3516065817, 3600352804, 4094571909, 275423344, 430227734, 506948616, 659060556, 883997877, 958139571, 1322822218, 1537002063, 1747873779, 1955562222, 2024104815, 2227730452, 2361852424, 2428436474, 2756734187, 3204031479, 3329325298]
theorem roundK_cells : cellsOf roundK = roundI.map fun z => Value.int .u32 z := by kernel_rfl
def laid4 : List (String × DataW Unit) := [("unicode/utf8.acceptRanges", Rows.laid_unicode_utf8_acceptRanges), ("latecomer/digest.round", Rows.laid_latecomer_digest_round), ("latecomer/journal.errDamaged", Rows.laid_latecomer_journal_errDamaged), ("unicode/utf8.first", Rows.laid_unicode_utf8_first)]
theorem gRound : Tryz.prog.globalNamed "latecomer/digest.round" = some 4 := by kernel_rfl
theorem gRoundType : (Tryz.prog.globals[4]?).map (·.type) = some 299 := by kernel_rfl
theorem cellsRound : Tryz.prog.cellsOf 299 = 64 := by kernel_rfl
theorem cellsU32 : Tryz.prog.cellsOf 126 = 1 := by kernel_rfl
theorem gErr : Tryz.prog.globalNamed "latecomer/journal.errDamaged" = some 0 := by kernel_rfl
theorem gErrType : (Tryz.prog.globals[0]?).map (·.type) = some 98 := by kernel_rfl
theorem starE : "*" ++ "errors.errorString" = "*errors.errorString" := by decide
theorem rowE (u : TypeId) (h : Tryz.prog.typeName? 3 u = some "*errors.errorString") : u = 314 :=
  typeName_ptr_named (nm := "errors.errorString") (by rw [starE]; kernel_rfl) (by kernel_rfl) (by decide) u (by rw [starE]; exact h)
theorem laid_one {W : World} (h : laidMetH Tryz.prog laid4 W) (n : String) (d : DataW Unit) (hf : laid4.filter (fun x => x.1 == n) = [(n, d)]) (hd : d.handleName? = none) : laidMet Tryz.prog [(n, d)] W := by
  have h1 := h.filter (fun x => x.1 == n)
  rw [hf] at h1
  unfold laidMetH at h1
  simpa [hd] using h1
theorem laid_f1 : laid4.filter (fun x => x.1 == "latecomer/digest.round") = [("latecomer/digest.round", Lib.tabData .u32 roundI)] := by kernel_rfl
theorem laid_f2 : laid4.filter (fun x => x.1 == "latecomer/journal.errDamaged") = [("latecomer/journal.errDamaged", Rows.laid_latecomer_journal_errDamaged)] := by kernel_rfl
theorem round_laid {W : World} (h : laidMetH Tryz.prog laid4 W) : Pts (allOf W) ⟨4, 0, none⟩ (cellsOf roundK) := by
  have h1 := laid_one h "latecomer/digest.round" _ laid_f1 rfl
  have ht : Lib.TabIs Tryz.prog W "latecomer/digest.round" .u32 roundI := Lib.tabIs_of_head (rest := []) gRound gRoundType Tryz.underlying299 Tryz.underlying126 cellsU32 cellsRound h1
  intro j u hj
  rw [roundK_cells] at hj
  have h2 := World.var?_cell gRound ht j
  have h3 : W.cell? ⟨4, j, none⟩ = some u := by rw [h2]; simpa using hj
  have e : (⟨4, 0, none⟩ : Addr).add j = ⟨4, j, none⟩ := by unfold Addr.add; split <;> simp_all
  rw [e]
  exact cell_all h3
set_option maxRecDepth 100000 in
theorem err_laid {W : World} (h : laidMetH Tryz.prog laid4 W) : ∃ p, Pts (allOf W) ⟨0, 0, none⟩ [errV p] := by
  have h1 := laid_one h "latecomer/journal.errDamaged" _ laid_f2 rfl
  obtain ⟨ps, ⟨g0, t0, cs0, f0, p0, q0, hg0, ht0, hv0, hd0, hq, e0⟩, hnd, hrows⟩ := h1
  obtain rfl := Option.some.inj (gErr.symm.trans hg0)
  obtain rfl := Option.some.inj (gErrType.symm.trans ht0)
  have hq' : q0 = [] := hq
  subst hq'
  subst e0
  obtain ⟨l0⟩ := cs0
  have ok0 : ∀ u v, l0 = [.iface u v] → Value.okWide Tryz.prog W .any 0 u v := fun u v e => by
    subst e
    exact (hrows 0 0 (by simp [MemPlace.row])).2 u v (by simpa using World.var?_cell hg0 hv0 0)
  obtain ⟨a0, s0, rfl, hc0, hs0, hz0, rfl⟩ := errorString_of_trod Tryz.underlying98 rowE Tryz.underlying314 Tryz.underlying336 rfl rfl Tryz.underlying9 (by kernel_rfl) (by kernel_rfl) hd0 ok0
  refine ⟨a0, fun j u hj => ?_⟩
  have h2 := World.var?_cell hg0 hv0 0
  match j, hj with
  | 0, hj =>
    simp only [List.getElem?_cons_zero, Option.some.injEq] at hj
    subst hj
    have h3 : W.cell? ⟨0, 0, none⟩ = some (errV a0) := by rw [h2]; rfl
    exact cell_all h3
  | j + 1, hj => simp at hj
/-- A world that has them. -/
def lit1 : DataW Unit → List Value
  | .lit (.int k z) => [.int k z]
  | _ => []
def agg1 : DataW Unit → List Value
  | .agg l => l.flatMap lit1
  | _ => []
def agg2 : DataW Unit → List Value
  | .agg l => l.flatMap agg1
  | _ => []
noncomputable def low : Nat := (World.holding Tryz.prog default ⟨#[], #[], []⟩).heap.size
def setCells (cs : Array Value) : Obj → Obj
  | .cells _ t fz => .cells cs t fz
  | o => o
noncomputable def laidWorld (os : Os) : World :=
  let w0 := World.holding Tryz.prog os ⟨#[.cells #[.string ⟨#[100, 97, 109, 97, 103, 101, 100]⟩] 336], #[], []⟩
  { w0 with heap := (((w0.heap.modify 3 (setCells (agg2 Rows.laid_unicode_utf8_acceptRanges).toArray)).modify 4 (setCells (agg1 Rows.laid_latecomer_digest_round).toArray)).modify 0 (setCells #[.iface 314 (.pointer (some ⟨low, 0, none⟩))])).modify 2 (setCells (agg1 Rows.laid_unicode_utf8_first).toArray) }
end Go.Proofs.YtnlfohlngapkfaaGreatDoor
namespace Go.Proofs.YtnlfohlngapkfaaGreatDoor
open Go Go.X
set_option maxRecDepth 10000
set_option linter.unusedVariables false
attribute [local irreducible] Code.wpIn wpListIn Exit.then Exit.inBlock X.Out X.Back X.W X.Ev X.Con X.BinV X.Wh X.Wn X.Wq
attribute [local irreducible] sumK chain stw group stored
theorem crB_nil {D : Dk} (h : D.pend = []) (keep : List Int) (torn : Int) : crB D keep torn = D.dur := by
  rw [crB_eq, h]
  rfl
/-- A journal that is broken: the disk has no power; whatever survives, either the records are there, or a group more. -/
structure JB (K : List UInt32) (N : Nat) (J : Jn) (g : List Str) (D : Dk) : Prop where
  w : JW K N J
  br : J.broken = true
  off : D.off = true
  dl : D.dur.length = N
  vl : D.vis.length = N
  pend : D.pend.length ≤ 1
  short : Short g
  cr : ∀ keep torn, Mess K N J.recs (crB D keep torn) ∨ Mess K N (J.recs ++ g) (crB D keep torn)
end Go.Proofs.YtnlfohlngapkfaaGreatDoor
namespace Go.Proofs.YtnlfohlngapkfaaGreatDoor
open Go Go.X
set_option maxRecDepth 10000
set_option linter.unusedVariables false
attribute [local irreducible] Code.wpIn wpListIn Exit.then Exit.inBlock X.Out X.Back X.W X.Ev X.Con X.BinV X.Wh X.Wn X.Wq
attribute [local irreducible] sumK chain stw group stored
/-- Whatever survives, one of two lists of records lies on the disk. -/
def Fin (K : List UInt32) (N : Nat) (was want : List Str) (D : Dk) : Prop := Short was ∧ Short want ∧ D.pend.length ≤ 1 ∧ (recB K was).length ≤ N ∧ ∀ keep torn, Mess K N was (crB D keep torn) ∨ Mess K N want (crB D keep torn)
theorem Fin.of {K : List UInt32} {N : Nat} {l : List Str} {D : Dk} (hs : Short l) (hp : D.pend = []) (hd : D.dur = Good K N l) (hle : (recB K l).length ≤ N) : Fin K N l l D :=
  ⟨hs, hs, by rw [hp]; exact Nat.zero_le _, hle, fun keep torn => .inl (by rw [crB_nil hp, hd]; exact Good_mess hle)⟩
end Go.Proofs.YtnlfohlngapkfaaGreatDoor
namespace Go.Proofs.YtnlfohlngapkfaaGreatDoor
open Go Go.X
set_option maxRecDepth 10000
set_option linter.unusedVariables false
attribute [local irreducible] Code.wpIn wpListIn Exit.then Exit.inBlock X.Out X.Back X.W X.Ev X.Con X.BinV X.Wh X.Wn X.Wq
theorem rot_or (c : Nat) (x : UInt32) : shr c x ||| shl (32 - c) x = rot c x := UInt32.or_comm _ _
theorem rotated_con (x : UInt32) (c : Nat) (hc : c ≤ 32) (S : SH) : Con Tryz.prog 110 #[.int .u32 (x.toNat : Int), .int .i64 (c : Nat)] S [] (X.Pure S (.int .u32 ((rot c x).toNat : Int))) := by
  refine con_of (args := [.int .u32 (x.toNat : Int), .int .i64 (c : Nat)]) Tryz.func110 rfl Tryz.ntmps110 rfl fun w => ?_
  (repeat (first | refine Jz ?_ | intro _))
  ((apply c_held ([]); (case hL => (exact sbT))); refine Jf 0 ?_; refine Jf 1 ?_; (apply h_first 2; (case hi => rfl); (case hr => kernel_rfl); (case hfr => kernel_rfl); (case hsel => kernel_rfl); (case hg => rfl); (case hd => rfl); (case he => (apply ev_shr32 (c := c); (case hx => rfl); (case hy => rfl); (case hc => exact hc)))); refine Jf 3 ?_; refine Jf 4 ?_; refine Jf 5 ?_; (apply h_first 6; (case hi => rfl); (case hr => kernel_rfl); (case hfr => kernel_rfl); (case hsel => kernel_rfl); (case hg => rfl); (case hd => rfl); (case he => (apply ev_shl32 (c := 32 - c); (case hx => rfl); (case hy => exact congrArg (fun z => some (Value.int .i64 z)) (show (32 : Int) - (c : Int) = ((32 - c : Nat) : Int) by omega)); (case hc => exact Nat.sub_le _ _)))); (apply h_first 7; (case hi => rfl); (case hr => kernel_rfl); (case hfr => kernel_rfl); (case hsel => kernel_rfl); (case hg => rfl); (case hd => rfl); (case he => (apply ev_binV; (case hx => rfl); (case hy => rfl); (case hb => exact bv_or32)))); refine Jf 8 ?_; (apply h_end; (case hr => kernel_rfl)))
  (repeat (first | refine Jz ?_ | intro _))
  exact o_ret Tryz.results110 rfl (List.nil_sublist _) ⟨rfl, rfl, by rw [rot_or]⟩
theorem constants_con (S : SH) : Con Tryz.prog 111 #[] S [] (fun S' L' r => S' = S ∧ Ows 126 r shaK L') := by
  refine con_of (args := []) Tryz.func111 rfl Tryz.ntmps111 rfl fun w => ?_
  (repeat (first | refine Jz ?_ | intro _))
  rename_i b
  exact o_ret Tryz.results111 rfl (List.Sublist.refl _) ⟨rfl, Ows.full (α := UInt32) (l := shaK) rfl (by decide)⟩
end Go.Proofs.YtnlfohlngapkfaaGreatDoor
namespace Go.Proofs.YtnlfohlngapkfaaGreatDoor
open Go Go.X
set_option maxRecDepth 10000
set_option linter.unusedVariables false
attribute [local irreducible] Code.wpIn wpListIn Exit.then Exit.inBlock X.Out X.Back X.W X.Ev X.Con X.BinV X.Wh X.Wn X.Wq
attribute [local irreducible] padded
theorem padded_eq' (s : Bs) : padded s = s ++ [128] ++ List.replicate (zeros s.length) 0 ++ len8 s.length := by unfold padded; rfl
theorem extended_con (s : Bs) (S : SH) (hs : s.length ≤ 1000000000) : Con Tryz.prog 66 #[strV s] S [] (fun S' L' r => S' = S ∧ Ows 5 r (padded s) L') := by
  refine con_of (args := [strV s]) Tryz.func66 rfl Tryz.ntmps66 rfl fun w => ?_
  (repeat (first | refine Jz ?_ | intro _))
  refine c_meetB (fun S' L F => S' = S ∧ ∃ (A : Option Addr) (c : Nat), Ows 5 (.slice A s.length c) s L ∧ F = [(0, strV s), (3, .slice A s.length c)]) ?_ ?_
  · refine c_loop (fun m S' L F => S' = S ∧ ∃ (v : Value) (k : Nat), m = s.length - k ∧ k ≤ s.length ∧ Ows 5 v (s.take k) L ∧ F = [(0, strV s), (3, v), (4, .int .i64 k)]) ⟨rfl, _, 0, rfl, by omega, by rw [List.take_zero]; exact Ows.nil _, rfl⟩ sbF (List.Sublist.refl _) ?_
    rintro m S' L F ⟨rfl, v, k, rfl, hk, ho, rfl⟩
    by_cases hlt : k < s.length
    rotate_left
    · rw [List.take_of_length_le (by omega)] at ho
      obtain ⟨A, c, rfl⟩ := ho.form
      (repeat (first | refine Jc ?_ | (apply s_evb; (case hg => rfl); (case hd => rfl); (case hn => rfl); (case he => (apply ev_len_b; rfl))) | refine Jo ?_ | intro _))
      exact q_cut ⟨rfl, A, c, ho, rfl⟩ sbF (List.Sublist.refl _)
    obtain ⟨x, hx⟩ : ∃ x, s[k]? = some x := ⟨_, List.getElem?_eq_getElem hlt⟩
    have hkl : (s.take k).length = k := by rw [List.length_take]; omega
    have hsn : s.take (k + 1) = s.take k ++ [x] := by rw [List.take_add_one, hx]; rfl
    obtain ⟨T, hT⟩ : ∃ T, T = s.take k := ⟨_, rfl⟩
    rw [← hT] at ho hkl hsn
    obtain ⟨A, c, rfl⟩ := ho.form
    (repeat (first | refine Jc ?_ | (apply s_evb; (case hg => rfl); (case hd => rfl); (case hn => rfl); (case he => (apply ev_len_b; rfl))) | (apply s_evb; (case hg => rfl); (case hd => rfl); (case hn => rfl); (case he => ((apply ev_index_b (k := k); (case hx => rfl); (case hi => rfl); (case hu => exact hx))))) | (apply s_append (ms := ([x] : Bs)); (case hg => rfl); (case hd => rfl); (case hx => rfl); (case ho => exact ho); (case hL => (repeat (first | exact pm_nil _ | exact pm_refl _ _ | exact pm_self _ | apply pm_cons | apply pm_app))); (case hy => rfl); (case hm => rfl); (case hs => (apply Src.own; (repeat (first | exact List.Mem.head _ | apply List.Mem.tail | apply List.mem_append_right)))); (case hzs => rfl); (case h0 => decide); (case hb => (simp; omega)); (case h63 => (simp; omega)); intro v2 ob2 ho2) | refine Jo ?_ | intro _))
    refine q_back (L' := ob2) (m' := s.length - (k + 1)) ⟨rfl, v2, k + 1, rfl, by omega, by rw [hsn]; exact ho2, rfl⟩ (by omega) sbF (List.sublist_append_left _ _)
  rintro S1 L F ⟨rfl, A, c, ho, rfl⟩
  (repeat (first | refine Jc ?_ | (apply s_append (ms := ([128] : Bs)); (case hg => rfl); (case hd => rfl); (case hx => rfl); (case ho => exact ho); (case hL => (repeat (first | exact pm_nil _ | exact pm_refl _ _ | exact pm_self _ | apply pm_cons | apply pm_app))); (case hy => rfl); (case hm => rfl); (case hs => (apply Src.own; (repeat (first | exact List.Mem.head _ | apply List.Mem.tail | apply List.mem_append_right)))); (case hzs => rfl); (case h0 => decide); (case hb => (simp; omega)); (case h63 => (simp; omega)); intro v2 ob2 ho2) | refine Jo ?_ | intro _))
  refine W.weaken (L' := ob2) ?_ (X.Sub.refl _) (List.sublist_append_left _ _)
  refine c_meetB (fun S' L F => S' = S1 ∧ ∃ (A : Option Addr) (c : Nat) (T : Bs), T = s ++ [128] ++ List.replicate (zeros s.length) 0 ∧ Ows 5 (.slice A T.length c) T L ∧ F = [(0, strV s), (3, .slice A T.length c)]) ?_ ?_
  · obtain ⟨A1, c1, rfl⟩ := ho2.form
    refine c_loop (fun m S' L F => S' = S1 ∧ ∃ (A : Option Addr) (c : Nat) (T : Bs) (z : Nat), m = zeros s.length - z ∧ z ≤ zeros s.length ∧ T = s ++ [128] ++ List.replicate z 0 ∧ Ows 5 (.slice A T.length c) T L ∧ F = [(0, strV s), (3, .slice A T.length c)])
      ⟨rfl, A1, c1, s ++ [128], 0, rfl, by omega, by simp, ho2, rfl⟩ sbF (List.Sublist.refl _) ?_
    rintro m S' L F ⟨rfl, A, c, T, z, rfl, hz, hT, hoT, rfl⟩
    have hTl : T.length = s.length + 1 + z := by rw [hT]; simp; omega
    have hzd : zeros s.length = (119 - s.length % 64) % 64 := rfl
    by_cases hlt : z < zeros s.length
    rotate_left
    · obtain rfl : z = zeros s.length := by omega
      (repeat (first | refine Jz ?_ | intro _))
      exact q_cut ⟨rfl, A, c, T, hT, hoT, rfl⟩ sbF (List.Sublist.refl _)
    (repeat (first | refine Jc ?_ | (apply s_append (ms := ([0] : Bs)); (case hg => rfl); (case hd => rfl); (case hx => rfl); (case ho => exact hoT); (case hL => (repeat (first | exact pm_nil _ | exact pm_refl _ _ | exact pm_self _ | apply pm_cons | apply pm_app))); (case hy => rfl); (case hm => rfl); (case hs => (apply Src.own; (repeat (first | exact List.Mem.head _ | apply List.Mem.tail | apply List.mem_append_right)))); (case hzs => rfl); (case h0 => decide); (case hb => (simp; omega)); (case h63 => (simp; omega)); intro v2 ob2 ho2; obtain ⟨A2, c2, rfl⟩ := ho2.form) | refine Jo ?_ | intro _))
    exact q_back (L' := ob2) (m' := zeros s.length - (z + 1)) ⟨rfl, A2, c2, T ++ [0], z + 1, rfl, by omega, by rw [hT, List.replicate_succ']; simp, ho2, rfl⟩ (by omega) sbF (List.sublist_append_left _ _)
  rintro S2 L F ⟨rfl, A, c, T, hT, hoT, rfl⟩
  have hTl : T.length = s.length + 1 + zeros s.length := by rw [hT]; simp; omega
  have hzb : zeros s.length < 64 := Nat.mod_lt _ (by decide)
  (repeat (first | refine Jz ?_ | intro _))
  refine c_loop (fun m S' L F => S' = S2 ∧ ∃ (A : Option Addr) (c : Nat) (U : Bs) (q : Nat), m = 8 - q ∧ q ≤ 8 ∧ U = T ++ (len8 s.length).take q ∧ Ows 5 (.slice A U.length c) U L ∧ F = [(0, strV s), (3, .slice A U.length c), (5, .int .i64 (7 - (q : Int)))])
    ⟨rfl, A, c, T, 0, rfl, by omega, by simp, hoT, rfl⟩ sbF (List.Sublist.refl _) ?_
  rintro m S' L F ⟨rfl, A, c, U, q, rfl, hq, hU, hoU, rfl⟩
  have hl8 : (len8 s.length).length = 8 := rfl
  have hUl : U.length = s.length + 1 + zeros s.length + q := by rw [hU, List.length_append, hTl, List.length_take, hl8]; omega
  by_cases hlt : q < 8
  rotate_left
  · obtain rfl : q = 8 := by omega
    have hp : U = padded s := by rw [hU, hT, List.take_of_length_le (by rw [hl8]; decide), padded_eq']
    rw [hp] at hoU ⊢
    (repeat (first | refine Jz ?_ | intro _))
    exact o_ret Tryz.results66 rfl (List.Sublist.refl _) ⟨rfl, hoU⟩
  obtain ⟨x, hx, hxl⟩ : ∃ x : UInt8, x = UInt8.ofNat (8 * s.length / 2 ^ (8 * (7 - q))) ∧ (len8 s.length)[q]? = some x := by
    refine ⟨_, rfl, ?_⟩
    have hq' : q = 0 ∨ q = 1 ∨ q = 2 ∨ q = 3 ∨ q = 4 ∨ q = 5 ∨ q = 6 ∨ q = 7 := by omega
    rcases hq' with rfl | rfl | rfl | rfl | rfl | rfl | rfl | rfl <;> rfl
  have htk : (len8 s.length).take (q + 1) = (len8 s.length).take q ++ [x] := by
    rw [List.take_succ_eq_append_getElem (by rw [hl8]; exact hlt), (List.getElem?_eq_some_iff.1 hxl).2]
  obtain ⟨y, hy⟩ : ∃ y : Nat, y = 8 * s.length / 2 ^ (8 * (7 - q)) := ⟨_, rfl⟩
  have hsh : (8 * (s.length : Int)) / 2 ^ (8 * (7 - q)) = (y : Int) := by rw [hy, Int.natCast_ediv]; simp
  have hw : IntKind.u8.wrap (y : Int) = (x.toNat : Int) := by
    rw [wrap_u8, hx, ← hy]; simp
  (repeat (first | refine Jc ?_ | (apply s_evb; (case hg => rfl); (case hd => rfl); (case hn => rfl); (case he => (apply ev_len_b; rfl))) | (apply s_evb; (case hg => rfl); (case hd => rfl); (case hn => rfl); (case he => (apply ev_shr (c := 8 * (7 - q)); (case hx => rfl); (case hy => exact congrArg (fun z => some (Value.int .i64 z)) (show (8 : Int) * (7 - (q : Int)) = ((8 * (7 - q) : Nat) : Int) by omega)); (case hc => (show 8 * (7 - q) ≤ 64; omega)); (case hr => exact hsh)))) | (apply s_evb; (case hg => rfl); (case hd => rfl); (case hn => rfl); (case he => (apply ev_convw; (case hx => rfl); (case hw => exact hw)))) | (apply s_append (ms := ([x] : Bs)); (case hg => rfl); (case hd => rfl); (case hx => rfl); (case ho => exact hoU); (case hL => (repeat (first | exact pm_nil _ | exact pm_refl _ _ | exact pm_self _ | apply pm_cons | apply pm_app))); (case hy => rfl); (case hm => rfl); (case hs => (apply Src.own; (repeat (first | exact List.Mem.head _ | apply List.Mem.tail | apply List.mem_append_right)))); (case hzs => rfl); (case h0 => decide); (case hb => (simp; omega)); (case h63 => (simp; omega)); intro v2 ob2 ho2; obtain ⟨A2, c2, rfl⟩ := ho2.form) | refine Jo ?_ | intro _))
  refine q_back (L' := ob2) (m' := 8 - (q + 1)) ⟨rfl, A2, c2, U ++ [x], q + 1, rfl, by omega, by rw [hU, htk, List.append_assoc], ho2, rfl⟩ (by omega) ?_ (List.sublist_append_left _ _)
  rw [show (7 : Int) - ((q + 1 : Nat) : Int) = 7 - (q : Int) - 1 by omega]
  exact sbF
end Go.Proofs.YtnlfohlngapkfaaGreatDoor
