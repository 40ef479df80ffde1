/- DiskCut returns true for every input, and each argument reads afterwards as it read before; no condition. -/
import Derived.Test.YtdbkjegpeoopaaaBb
namespace Go.Proofs.Ytdbkjegpeoopaaa
open Go Go.X
set_option maxRecDepth 10000
set_option linter.unusedVariables false
attribute [local irreducible] Code.wpIn wpListIn Exit.then Exit.inBlock X.Out X.Back X.W X.Ev X.Con X.BinV X.Wh X.Wn X.Wq
structure Rdy (N k : Nat) (D : Dk) : Prop where
  off : D.off = false
  left : D.left = 0
  dur : D.dur.length = N
  vis : D.vis.length = N
  pend : D.pend.length ≤ k
def addW (D : Dk) (o : Nat) (s : Bs) : Dk := ⟨false, 0, D.dur, lset D.vis o s, D.pend ++ [⟨o, s⟩]⟩
def synced (D : Dk) : Dk := ⟨false, 0, D.vis, D.vis, []⟩
theorem inside_t {N o n : Nat} (h : o + n ≤ N) : insideB N o n = true := by simp [insideB]; omega
theorem Rdy.new (N : Nat) : Rdy N 0 (newD N) := ⟨rfl, rfl, by simp [newD], by simp [newD], Nat.le_refl _⟩
theorem Rdy.wr {N k : Nat} {D : Dk} (h : Rdy N k D) {o : Nat} {s : Bs} (ho : o + s.length ≤ N) : wrD D o s = addW D o s := by
  simp [wrD, okW, h.off, h.left, h.dur, inside_t ho, addW, usedP]
theorem Rdy.wrE {N k : Nat} {D : Dk} (h : Rdy N k D) {o : Nat} {s : Bs} (ho : o + s.length ≤ N) : wrE D o s = 0 := by
  simp [Go.Proofs.Ytdbkjegpeoopaaa.wrE, h.off, h.dur, inside_t ho]
theorem Rdy.add {N k : Nat} {D : Dk} (h : Rdy N k D) {o : Nat} {s : Bs} (ho : o + s.length ≤ N) : Rdy N (k + 1) (addW D o s) :=
  ⟨rfl, rfl, h.dur, by have := h.vis; simp only [addW]; rw [lset_len (by omega), h.vis], by have := h.pend; simp [addW]; omega⟩
theorem Rdy.sy {N k : Nat} {D : Dk} (h : Rdy N k D) : syncD D = synced D := by simp [syncD, h.off, h.left, synced]
theorem Rdy.syE {N k : Nat} {D : Dk} (h : Rdy N k D) : (if D.off then (321 : Int) else 0) = 0 := by simp [h.off]
theorem Rdy.syd {N k : Nat} {D : Dk} (h : Rdy N k D) : Rdy N k (synced D) := ⟨rfl, rfl, h.vis, h.vis, Nat.zero_le _⟩
theorem Rdy.read {N k : Nat} {D : Dk} (h : Rdy N k D) : readV D 0 N = .tuple #[strV D.vis, .int .i64 0] := by
  have := inside_t (N := N) (o := 0) (n := N) (by omega)
  simp only [readV, h.off, h.dur]
  rw [show ((0 : Int)) = ((0 : Nat) : Int) from rfl, this]
  simp [List.take_of_length_le (Nat.le_of_eq h.vis)]
theorem pback {p : Nat × Obj} {X : Blocks} : (p :: (X ++ [])).Perm (X ++ [p]) := by simpa using (List.perm_append_comm (l₁ := [p]) (l₂ := X))
theorem str_all {B : Bs} {N : Nat} (h : B.length = N) : (B.drop 0).take N = B := by rw [List.drop_zero, List.take_of_length_le (by omega)]
theorem size_at {c n : Int} {N : Nat} (h : pick c n = (N : Nat) - 1) : (1 : Int) + pick c n = N := by omega
end Go.Proofs.Ytdbkjegpeoopaaa
namespace Go.Proofs.Ytdbkjegpeoopaaa
open Go Go.X
set_option maxRecDepth 10000
set_option linter.unusedVariables false
attribute [local irreducible] Code.wpIn wpListIn Exit.then Exit.inBlock X.Out X.Back X.W X.Ev X.Con X.BinV X.Wh X.Wn X.Wq
theorem i64_n {n : Nat} (h : n ≤ 9223372036854775807) : i64 n := ⟨by omega, by omega⟩
theorem f6_law (size : Int) (ys : List Wp) (A : Option Addr) (c : Nat) (S : SH) (h0 : i64 size) (hA0 : At S A ys) (hl : ys.length ≤ c) (hys : ∀ y ∈ ys, i64 y.off ∧ y.s.length ≤ maxLen) : Con Try.prog 6 #[.int .i64 size, .slice A ys.length c] S [] (fun _ _ v => v = .bool true) := by
  refine con_of (args := [.int .i64 size, .slice A ys.length c]) Try.func6 rfl Try.ntmps6 rfl fun w => ?_
  have hp := pick_lt size 300 (by omega)
  generalize hpp : pick size 300 = p at hp
  obtain ⟨N, hN⟩ : ∃ N : Nat, (1 : Int) + p = N := ⟨(1 + p).toNat, by omega⟩
  have hN4 : N ≤ 4194304 := by omega
  (repeat (first | refine Jc ?_ | (apply s_call; (case hg => rfl); (case hd => rfl); (case ha => rfl); (case hc => exact sane_con _); (case hL => (repeat (first | exact pm_nil _ | exact pm_refl _ _ | exact pm_self _ | apply pm_cons | apply pm_app))); rintro S1 _ _ hle1 ⟨rfl, rfl⟩) | (apply s_call; (case hg => rfl); (case hd => rfl); (case ha => rfl); (case hc => exact pick_v h0 (by omega) hpp); (case hL => (repeat (first | exact pm_nil _ | exact pm_refl _ _ | exact pm_self _ | apply pm_cons | apply pm_app))); rintro _ _ _ - ⟨rfl, rfl, rfl⟩) | (apply s_bin (v := .int .i64 (N : Nat)); (case hg => rfl); (case hd => rfl); (case hx => rfl); (case hy => rfl); (case hb => exact hN ▸ bv_add (by omega))) | (apply s_call; (case hg => rfl); (case hd => rfl); (case ha => rfl); (case hc => exact New_con N _ (by omega)); (case hL => (repeat (first | exact pm_nil _ | exact pm_refl _ _ | exact pm_self _ | apply pm_cons | apply pm_app))); rintro S2 LD _ - ⟨rfl, v, hO, rfl⟩; obtain ⟨b, rfl⟩ := hO.form) | refine Jo ?_ | intro _))
  rename_i g
  rw [cellsOf_zero]
  have hA := hA0.le hle1
  refine W.perm ?_ pback
  refine c_loop (fun m S' L F => S' = S2 ∧ ∃ (k : Nat) (D : Dk) (LD : Blocks), m = ys.length - k ∧ k ≤ ys.length ∧ k ≤ 60 ∧ Rdy N k D ∧ OwD (.pointer (some ⟨b, 0, none⟩)) D LD ∧ L = LD ++ [(g, .cells (cellsOf D.vis).toArray 5 (0, 0))] ∧
      F = [(0, .int .i64 N), (1, .slice A ys.length c), (5, .bool true), (6, .pointer (some ⟨b, 0, none⟩)), (8, .slice (some ⟨g, 0, none⟩) N N), (9, .int .i64 k)]) ⟨rfl, 0, newD N, LD, rfl, by omega, by omega, Rdy.new N, hO, rfl, rfl⟩ (by repeat (first | exact Sub.nil rfl | exact Sub.marked rfl | refine Sub.cons rfl ?_)) (List.Sublist.refl _) ?_
  rintro m S' L F ⟨rfl, k, D, LD, rfl, hk, hk60, hr, hO, rfl, rfl⟩
  by_cases hlt : k < ys.length
  rotate_left
  · (repeat (first | refine Jz ?_ | intro _))
    exact o_ret Try.results6 rfl (by repeat (first | exact List.Sublist.refl _ | exact List.Sublist.slnil | exact List.nil_sublist _ | exact List.sublist_append_left _ _ | refine List.Sublist.cons_cons _ ?_ | refine List.Sublist.append (List.Sublist.refl _) ?_ | refine List.Sublist.cons _ ?_ | refine List.Sublist.trans ?_ (List.sublist_append_right _ _))) rfl
  by_cases h60 : k < 60
  rotate_left
  · (repeat (first | refine Jz ?_ | intro _))
    exact o_ret Try.results6 rfl (by repeat (first | exact List.Sublist.refl _ | exact List.Sublist.slnil | exact List.nil_sublist _ | exact List.sublist_append_left _ _ | refine List.Sublist.cons_cons _ ?_ | refine List.Sublist.append (List.Sublist.refl _) ?_ | refine List.Sublist.cons _ ?_ | refine List.Sublist.trans ?_ (List.sublist_append_right _ _))) rfl
  obtain ⟨y, hx⟩ := at_lt hlt
  have hy := hys y (List.mem_of_getElem? hx)
  have hfit := fitS_le y N
  have hr1 := hr.add hfit
  have e1 : (D.vis != D.vis) = false := by simp
  obtain ⟨yo, ysb, ysy⟩ := y
  cases ysy
  · (repeat (first | refine Jc ?_ | (apply s_idx hA; (case hg => rfl); (case hd => rfl); (case hx => rfl); (case hi => rfl); (case hm => rfl); (case hu => exact hx); intro q hq) | (apply s_load_ag; (case hg => rfl); (case hd => rfl); (case hx => rfl); (case hv => exact hq); (case hl => rfl)) | (apply s_call; (case hg => rfl); (case hd => rfl); (case ha => rfl); (case hc => exact fits_con ⟨yo, ysb, false⟩ N _ hy.1 hN4); (case hL => (repeat (first | exact pm_nil _ | exact pm_refl _ _ | exact pm_self _ | apply pm_cons | apply pm_app))); rintro _ _ _ - ⟨rfl, rfl, rfl⟩) | (apply s_call; (case hg => rfl); (case hd => rfl); (case ha => rfl); (case hc => exact put_con g N (fitO ⟨yo, ysb, false⟩ N) D.vis (fitS ⟨yo, ysb, false⟩ N) _ hr.vis hfit hN4); (case hL => (repeat (first | exact pm_nil _ | exact pm_refl _ _ | exact pm_self _ | apply pm_cons | apply pm_app))); rintro _ _ _ - ⟨rfl, rfl⟩) | (apply s_call; (case hg => rfl); (case hd => rfl); (case ha => rfl); (case hc => exact Write_v hO (i64_n (by omega)) (by omega) (by have := hr.pend; omega) (hr.wr hfit) (hr.wrE hfit)); (case hL => (repeat (first | exact pm_nil _ | exact pm_refl _ _ | exact pm_self _ | apply pm_cons | apply pm_app))); rintro _ LD1 _ - ⟨rfl, hO1, rfl⟩) | (apply s_call; (case hg => rfl); (case hd => rfl); (case ha => rfl); (case hc => exact Read_v hO1 (i64_d rfl) (i64_n (by omega)) hr1.read); (case hL => (repeat (first | exact pm_nil _ | exact pm_refl _ _ | exact pm_self _ | apply pm_cons | apply pm_app))); rintro _ LD3 _ - ⟨rfl, hO3, rfl⟩) | (apply s_evb; (case hg => rfl); (case hd => rfl); (case hn => rfl); (case he => ((apply ev_str_own (B := (addW D (fitO ⟨yo, ysb, false⟩ N) (fitS ⟨yo, ysb, false⟩ N)).vis); (case hx => rfl); (case hm => (repeat (first | exact List.Mem.head _ | apply List.Mem.tail | apply List.mem_append_right))); (case hk => (rw [hr1.vis]; omega)))))) | (apply s_evb; (case hg => rfl); (case hd => rfl); (case hn => rfl); (case he => ((apply ev_neq_bv (r := false); (case hx => rfl); (case hy => rfl); (case h => (rw [str_all hr1.vis]; simp)))))) | refine Jo ?_ | intro _))
    exact q_back (L' := LD3 ++ [(g, .cells (cellsOf (lset D.vis (fitO ⟨yo, ysb, false⟩ N) (fitS ⟨yo, ysb, false⟩ N))).toArray 5 (0, 0))]) (m' := ys.length - (k + 1)) ⟨rfl, k + 1, _, LD3, rfl, by omega, by omega, hr1, hO3, rfl, rfl⟩ (by omega) (by repeat (first | exact Sub.nil rfl | exact Sub.marked rfl | refine Sub.cons rfl ?_)) (by repeat (first | exact List.Sublist.refl _ | exact List.Sublist.slnil | exact List.nil_sublist _ | exact List.sublist_append_left _ _ | refine List.Sublist.cons_cons _ ?_ | refine List.Sublist.append (List.Sublist.refl _) ?_ | refine List.Sublist.cons _ ?_ | refine List.Sublist.trans ?_ (List.sublist_append_right _ _)))
  · (repeat (first | refine Jc ?_ | (apply s_idx hA; (case hg => rfl); (case hd => rfl); (case hx => rfl); (case hi => rfl); (case hm => rfl); (case hu => exact hx); intro q hq) | (apply s_load_ag; (case hg => rfl); (case hd => rfl); (case hx => rfl); (case hv => exact hq); (case hl => rfl)) | (apply s_call; (case hg => rfl); (case hd => rfl); (case ha => rfl); (case hc => exact fits_con ⟨yo, ysb, true⟩ N _ hy.1 hN4); (case hL => (repeat (first | exact pm_nil _ | exact pm_refl _ _ | exact pm_self _ | apply pm_cons | apply pm_app))); rintro _ _ _ - ⟨rfl, rfl, rfl⟩) | (apply s_call; (case hg => rfl); (case hd => rfl); (case ha => rfl); (case hc => exact put_con g N (fitO ⟨yo, ysb, true⟩ N) D.vis (fitS ⟨yo, ysb, true⟩ N) _ hr.vis hfit hN4); (case hL => (repeat (first | exact pm_nil _ | exact pm_refl _ _ | exact pm_self _ | apply pm_cons | apply pm_app))); rintro _ _ _ - ⟨rfl, rfl⟩) | (apply s_call; (case hg => rfl); (case hd => rfl); (case ha => rfl); (case hc => exact Write_v hO (i64_n (by omega)) (by omega) (by have := hr.pend; omega) (hr.wr hfit) (hr.wrE hfit)); (case hL => (repeat (first | exact pm_nil _ | exact pm_refl _ _ | exact pm_self _ | apply pm_cons | apply pm_app))); rintro _ LD1 _ - ⟨rfl, hO1, rfl⟩) | (apply s_call; (case hg => rfl); (case hd => rfl); (case ha => rfl); (case hc => exact Sync_v hO1 hr1.sy hr1.syE); (case hL => (repeat (first | exact pm_nil _ | exact pm_refl _ _ | exact pm_self _ | apply pm_cons | apply pm_app))); rintro _ LD2 _ - ⟨rfl, hO2, rfl⟩) | (apply s_call; (case hg => rfl); (case hd => rfl); (case ha => rfl); (case hc => exact Read_v hO2 (i64_d rfl) (i64_n (by omega)) hr1.syd.read); (case hL => (repeat (first | exact pm_nil _ | exact pm_refl _ _ | exact pm_self _ | apply pm_cons | apply pm_app))); rintro _ LD3 _ - ⟨rfl, hO3, rfl⟩) | (apply s_evb; (case hg => rfl); (case hd => rfl); (case hn => rfl); (case he => ((apply ev_str_own (B := (synced (addW D (fitO ⟨yo, ysb, true⟩ N) (fitS ⟨yo, ysb, true⟩ N))).vis); (case hx => rfl); (case hm => (repeat (first | exact List.Mem.head _ | apply List.Mem.tail | apply List.mem_append_right))); (case hk => (rw [hr1.syd.vis]; omega)))))) | (apply s_evb; (case hg => rfl); (case hd => rfl); (case hn => rfl); (case he => ((apply ev_neq_bv (r := false); (case hx => rfl); (case hy => rfl); (case h => (rw [str_all hr1.syd.vis]; simp)))))) | refine Jo ?_ | intro _))
    exact q_back (L' := LD3 ++ [(g, .cells (cellsOf (lset D.vis (fitO ⟨yo, ysb, true⟩ N) (fitS ⟨yo, ysb, true⟩ N))).toArray 5 (0, 0))]) (m' := ys.length - (k + 1)) ⟨rfl, k + 1, _, LD3, rfl, by omega, by omega, hr1.syd, hO3, rfl, rfl⟩ (by omega) (by repeat (first | exact Sub.nil rfl | exact Sub.marked rfl | refine Sub.cons rfl ?_)) (by repeat (first | exact List.Sublist.refl _ | exact List.Sublist.slnil | exact List.nil_sublist _ | exact List.sublist_append_left _ _ | refine List.Sublist.cons_cons _ ?_ | refine List.Sublist.append (List.Sublist.refl _) ?_ | refine List.Sublist.cons _ ?_ | refine List.Sublist.trans ?_ (List.sublist_append_right _ _)))
end Go.Proofs.Ytdbkjegpeoopaaa
namespace Go.Proofs.Ytdbkjegpeoopaaa
open Go Go.X
set_option maxRecDepth 10000
set_option linter.unusedVariables false
attribute [local irreducible] Code.wpIn wpListIn Exit.then Exit.inBlock X.Out X.Back X.W X.Ev X.Con X.BinV X.Wh X.Wn X.Wq
theorem crB_nil (D : Dk) (torn : Int) : crB D [] torn = D.dur := by
  rw [crB_eq]
  have : keepW D.pend [] = [] := by simp [keepW, kept]
  rw [this]; rfl
theorem f7_law (size : Int) (ys : List Wp) (A : Option Addr) (c : Nat) (torn : Int) (S : SH) (h0 : i64 size) (hA0 : At S A ys) (hl : ys.length ≤ c) (hys : ∀ y ∈ ys, i64 y.off ∧ y.s.length ≤ maxLen) (ht : i64 torn) : Con Try.prog 7 #[.int .i64 size, .slice A ys.length c, .int .i64 torn] S [] (fun _ _ v => v = .bool true) := by
  refine con_of (args := [.int .i64 size, .slice A ys.length c, .int .i64 torn]) Try.func7 rfl Try.ntmps7 rfl fun w => ?_
  have hp := pick_lt size 300 (by omega)
  generalize hpp : pick size 300 = p at hp
  obtain ⟨N, hN⟩ : ∃ N : Nat, (1 : Int) + p = N := ⟨(1 + p).toNat, by omega⟩
  have hN4 : N ≤ 4194304 := by omega
  (repeat (first | refine Jc ?_ | (apply s_call; (case hg => rfl); (case hd => rfl); (case ha => rfl); (case hc => exact sane_con _); (case hL => (repeat (first | exact pm_nil _ | exact pm_refl _ _ | exact pm_self _ | apply pm_cons | apply pm_app))); rintro S1 _ _ hle1 ⟨rfl, rfl⟩) | (apply s_call; (case hg => rfl); (case hd => rfl); (case ha => rfl); (case hc => exact pick_v h0 (by omega) hpp); (case hL => (repeat (first | exact pm_nil _ | exact pm_refl _ _ | exact pm_self _ | apply pm_cons | apply pm_app))); rintro _ _ _ - ⟨rfl, rfl, rfl⟩) | (apply s_bin (v := .int .i64 (N : Nat)); (case hg => rfl); (case hd => rfl); (case hx => rfl); (case hy => rfl); (case hb => exact hN ▸ bv_add (by omega))) | (apply s_call; (case hg => rfl); (case hd => rfl); (case ha => rfl); (case hc => exact New_con N _ (by omega)); (case hL => (repeat (first | exact pm_nil _ | exact pm_refl _ _ | exact pm_self _ | apply pm_cons | apply pm_app))); rintro S2 LD _ - ⟨rfl, v, hO, rfl⟩; obtain ⟨b, rfl⟩ := hO.form) | (apply s_evb; (case hg => rfl); (case hd => rfl); (case hn => rfl); (case he => ((apply ev_str_own (B := List.replicate N (0 : UInt8)); (case hx => rfl); (case hm => (rw [cellsOf_zero]; (repeat (first | exact List.Mem.head _ | apply List.Mem.tail | apply List.mem_append_right)))); (case hk => simp))))) | refine Jo ?_ | intro _))
  rename_i g
  rw [cellsOf_zero, str_all (by simp)]
  have hA := hA0.le hle1
  refine W.perm ?_ pback
  refine c_loop (fun m S' L F => S' = S2 ∧ ∃ (k : Nat) (D : Dk) (LD : Blocks), m = ys.length - k ∧ k ≤ ys.length ∧ k ≤ 60 ∧ Rdy N k D ∧ OwD (.pointer (some ⟨b, 0, none⟩)) D LD ∧ L = LD ++ [(g, .cells (cellsOf D.vis).toArray 5 (0, 0))] ∧
      F = [(0, .int .i64 N), (1, .slice A ys.length c), (2, .int .i64 torn), (7, .bool true), (8, .pointer (some ⟨b, 0, none⟩)), (10, .slice (some ⟨g, 0, none⟩) N N), (11, strV D.dur), (12, .int .i64 k)]) ⟨rfl, 0, newD N, LD, rfl, by omega, by omega, Rdy.new N, hO, rfl, rfl⟩ (by repeat (first | exact Sub.nil rfl | exact Sub.marked rfl | refine Sub.cons rfl ?_)) (List.Sublist.refl _) ?_
  rintro m S' L F ⟨rfl, k, D, LD, rfl, hk, hk60, hr, hO, rfl, rfl⟩
  by_cases hend : k < ys.length ∧ k < 60
  rotate_left
  · have hcr : crD D [] torn = ⟨false, 0, D.dur, D.dur, []⟩ := by rw [crD, crB_nil]
    have hrc : Rdy N 0 ⟨false, 0, D.dur, D.dur, []⟩ := ⟨rfl, rfl, hr.dur, hr.dur, Nat.le_refl _⟩
    by_cases hlt : k < ys.length
    all_goals
      (repeat (first | refine Jc ?_ | (apply s_call; (case hg => rfl); (case hd => rfl); (case ha => rfl); (case hc => exact Crash_v hO (keep := []) (At.nil _ _) rfl (by simp) (by simp) ht (by have := hr.pend; omega) hcr); (case hL => (repeat (first | exact pm_nil _ | exact pm_refl _ _ | exact pm_self _ | apply pm_cons | apply pm_app))); rintro S5 LD5 _ hle5 ⟨hO5, rfl⟩) | (apply s_call; (case hg => rfl); (case hd => rfl); (case ha => rfl); (case hc => exact Read_v hO5 (i64_d rfl) (i64_n (by omega)) hrc.read); (case hL => (repeat (first | exact pm_nil _ | exact pm_refl _ _ | exact pm_self _ | apply pm_cons | apply pm_app))); rintro _ LD6 _ - ⟨rfl, hO6, rfl⟩) | (apply s_call; (case hg => rfl); (case hd => rfl); (case ha => rfl); (case hc => exact Pending_v hO6 (n := 0) rfl); (case hL => (repeat (first | exact pm_nil _ | exact pm_refl _ _ | exact pm_self _ | apply pm_cons | apply pm_app))); rintro _ LD7 _ - ⟨rfl, hO7, rfl⟩) | (apply s_evb; (case hg => rfl); (case hd => rfl); (case hn => rfl); (case he => (apply ev_eql_bv (r := true); (case hx => rfl); (case hy => rfl); (case h => first | decide | assumption | (simp; done))))) | (apply s_evb; (case hg => rfl); (case hd => rfl); (case hn => rfl); (case he => (apply ev_eql_bv (r := false); (case hx => rfl); (case hy => rfl); (case h => first | decide | assumption | (simp; done))))) | refine Jo ?_ | intro _))
      exact o_ret Try.results7 rfl (by repeat (first | exact List.Sublist.refl _ | exact List.Sublist.slnil | exact List.nil_sublist _ | exact List.sublist_append_left _ _ | refine List.Sublist.cons_cons _ ?_ | refine List.Sublist.append (List.Sublist.refl _) ?_ | refine List.Sublist.cons _ ?_ | refine List.Sublist.trans ?_ (List.sublist_append_right _ _))) rfl
  obtain ⟨hlt, h60⟩ := hend
  obtain ⟨y, hx⟩ := at_lt hlt
  have hy := hys y (List.mem_of_getElem? hx)
  have hfit := fitS_le y N
  have hr1 := hr.add hfit
  obtain ⟨yo, ysb, ysy⟩ := y
  cases ysy
  · (repeat (first | refine Jc ?_ | (apply s_idx hA; (case hg => rfl); (case hd => rfl); (case hx => rfl); (case hi => rfl); (case hm => rfl); (case hu => exact hx); intro q hq) | (apply s_load_ag; (case hg => rfl); (case hd => rfl); (case hx => rfl); (case hv => exact hq); (case hl => rfl)) | (apply s_call; (case hg => rfl); (case hd => rfl); (case ha => rfl); (case hc => exact fits_con ⟨yo, ysb, false⟩ N _ hy.1 hN4); (case hL => (repeat (first | exact pm_nil _ | exact pm_refl _ _ | exact pm_self _ | apply pm_cons | apply pm_app))); rintro _ _ _ - ⟨rfl, rfl, rfl⟩) | (apply s_call; (case hg => rfl); (case hd => rfl); (case ha => rfl); (case hc => exact put_con g N (fitO ⟨yo, ysb, false⟩ N) D.vis (fitS ⟨yo, ysb, false⟩ N) _ hr.vis hfit hN4); (case hL => (repeat (first | exact pm_nil _ | exact pm_refl _ _ | exact pm_self _ | apply pm_cons | apply pm_app))); rintro _ _ _ - ⟨rfl, rfl⟩) | (apply s_call; (case hg => rfl); (case hd => rfl); (case ha => rfl); (case hc => exact Write_v hO (i64_n (by omega)) (by omega) (by have := hr.pend; omega) (hr.wr hfit) (hr.wrE hfit)); (case hL => (repeat (first | exact pm_nil _ | exact pm_refl _ _ | exact pm_self _ | apply pm_cons | apply pm_app))); rintro _ LD1 _ - ⟨rfl, hO1, rfl⟩) | refine Jo ?_ | intro _))
    exact q_back (L' := LD1 ++ [(g, .cells (cellsOf (lset D.vis (fitO ⟨yo, ysb, false⟩ N) (fitS ⟨yo, ysb, false⟩ N))).toArray 5 (0, 0))]) (m' := ys.length - (k + 1)) ⟨rfl, k + 1, _, LD1, rfl, by omega, by omega, hr1, hO1, rfl, rfl⟩ (by omega) (by repeat (first | exact Sub.nil rfl | exact Sub.marked rfl | refine Sub.cons rfl ?_)) (by repeat (first | exact List.Sublist.refl _ | exact List.Sublist.slnil | exact List.nil_sublist _ | exact List.sublist_append_left _ _ | refine List.Sublist.cons_cons _ ?_ | refine List.Sublist.append (List.Sublist.refl _) ?_ | refine List.Sublist.cons _ ?_ | refine List.Sublist.trans ?_ (List.sublist_append_right _ _)))
  · (repeat (first | refine Jc ?_ | (apply s_idx hA; (case hg => rfl); (case hd => rfl); (case hx => rfl); (case hi => rfl); (case hm => rfl); (case hu => exact hx); intro q hq) | (apply s_load_ag; (case hg => rfl); (case hd => rfl); (case hx => rfl); (case hv => exact hq); (case hl => rfl)) | (apply s_call; (case hg => rfl); (case hd => rfl); (case ha => rfl); (case hc => exact fits_con ⟨yo, ysb, true⟩ N _ hy.1 hN4); (case hL => (repeat (first | exact pm_nil _ | exact pm_refl _ _ | exact pm_self _ | apply pm_cons | apply pm_app))); rintro _ _ _ - ⟨rfl, rfl, rfl⟩) | (apply s_call; (case hg => rfl); (case hd => rfl); (case ha => rfl); (case hc => exact put_con g N (fitO ⟨yo, ysb, true⟩ N) D.vis (fitS ⟨yo, ysb, true⟩ N) _ hr.vis hfit hN4); (case hL => (repeat (first | exact pm_nil _ | exact pm_refl _ _ | exact pm_self _ | apply pm_cons | apply pm_app))); rintro _ _ _ - ⟨rfl, rfl⟩) | (apply s_call; (case hg => rfl); (case hd => rfl); (case ha => rfl); (case hc => exact Write_v hO (i64_n (by omega)) (by omega) (by have := hr.pend; omega) (hr.wr hfit) (hr.wrE hfit)); (case hL => (repeat (first | exact pm_nil _ | exact pm_refl _ _ | exact pm_self _ | apply pm_cons | apply pm_app))); rintro _ LD1 _ - ⟨rfl, hO1, rfl⟩) | (apply s_call; (case hg => rfl); (case hd => rfl); (case ha => rfl); (case hc => exact Sync_v hO1 hr1.sy hr1.syE); (case hL => (repeat (first | exact pm_nil _ | exact pm_refl _ _ | exact pm_self _ | apply pm_cons | apply pm_app))); rintro _ LD2 _ - ⟨rfl, hO2, rfl⟩) | (apply s_evb; (case hg => rfl); (case hd => rfl); (case hn => rfl); (case he => ((apply ev_str_own (B := (synced (addW D (fitO ⟨yo, ysb, true⟩ N) (fitS ⟨yo, ysb, true⟩ N))).vis); (case hx => rfl); (case hm => (repeat (first | exact List.Mem.head _ | apply List.Mem.tail | apply List.mem_append_right))); (case hk => (rw [hr1.syd.vis]; omega)))))) | refine Jo ?_ | intro _))
    rw [str_all hr1.syd.vis]
    exact q_back (L' := LD2 ++ [(g, .cells (cellsOf (lset D.vis (fitO ⟨yo, ysb, true⟩ N) (fitS ⟨yo, ysb, true⟩ N))).toArray 5 (0, 0))]) (m' := ys.length - (k + 1)) ⟨rfl, k + 1, _, LD2, rfl, by omega, by omega, hr1.syd, hO2, rfl, rfl⟩ (by omega) (by repeat (first | exact Sub.nil rfl | exact Sub.marked rfl | refine Sub.cons rfl ?_)) (by repeat (first | exact List.Sublist.refl _ | exact List.Sublist.slnil | exact List.nil_sublist _ | exact List.sublist_append_left _ _ | refine List.Sublist.cons_cons _ ?_ | refine List.Sublist.append (List.Sublist.refl _) ?_ | refine List.Sublist.cons _ ?_ | refine List.Sublist.trans ?_ (List.sublist_append_right _ _)))
end Go.Proofs.Ytdbkjegpeoopaaa
namespace Go.Proofs.Ytdbkjegpeoopaaa
open Go Go.X
set_option maxRecDepth 10000
set_option linter.unusedVariables false
attribute [local irreducible] Code.wpIn wpListIn Exit.then Exit.inBlock X.Out X.Back X.W X.Ev X.Con X.BinV X.Wh X.Wn X.Wq
theorem tearLast_neg (torn : Int) (h : torn < 0) : ∀ ws : List Wr, tearLast torn ws = ws
  | [] => rfl
  | [w] => by simp [tearLast, tear, show ¬ 0 ≤ torn by omega]
  | w :: v :: r => by simp only [tearLast, tearLast_neg torn h (v :: r)]
def upto (m : Nat) : List Int := (List.range m).map fun (i : Nat) => (i : Int)
theorem upto_succ (m : Nat) : upto (m + 1) = upto m ++ [(m : Int)] := by simp [upto, List.range_succ]
theorem upto_len (m : Nat) : (upto m).length = m := by simp [upto]
theorem upto_i64 {m : Nat} (h : m ≤ 1000000) : ∀ x ∈ upto m, i64 x := by
  intro x hx
  simp only [upto, List.mem_map, List.mem_range] at hx
  obtain ⟨i, hi, rfl⟩ := hx
  exact i64_n (by omega)
theorem keepW_all (pend : List Wr) : keepW pend (upto pend.length) = pend := by
  have h1 : kept pend.length (upto pend.length) = List.range pend.length := by
    rw [kept, List.filter_eq_self]
    intro i hi
    simp only [upto, List.mem_map, decide_eq_true_eq]
    exact ⟨i, hi, rfl⟩
  rw [keepW, h1]
  apply List.ext_getElem
  · simp
  · intro i h1 h2
    simp [List.getElem?_eq_getElem h2]
theorem crB_all (D : Dk) (torn : Int) (h : torn < 0) : crB D (upto D.pend.length) torn = applyL D.dur D.pend := by rw [crB_eq, keepW_all, tearLast_neg torn h]
theorem f9_law (size : Int) (ys : List Wp) (A : Option Addr) (c : Nat) (S : SH) (h0 : i64 size) (hA0 : At S A ys) (hl : ys.length ≤ c) (hys : ∀ y ∈ ys, i64 y.off ∧ y.s.length ≤ maxLen) : Con Try.prog 9 #[.int .i64 size, .slice A ys.length c] S [] (fun _ _ v => v = .bool true) := by
  refine con_of (args := [.int .i64 size, .slice A ys.length c]) Try.func9 rfl Try.ntmps9 rfl fun w => ?_
  have hp := pick_lt size 300 (by omega)
  generalize hpp : pick size 300 = p at hp
  obtain ⟨N, hN⟩ : ∃ N : Nat, (1 : Int) + p = N := ⟨(1 + p).toNat, by omega⟩
  have hN4 : N ≤ 4194304 := by omega
  (repeat (first | refine Jc ?_ | (apply s_call; (case hg => rfl); (case hd => rfl); (case ha => rfl); (case hc => exact sane_con _); (case hL => (repeat (first | exact pm_nil _ | exact pm_refl _ _ | exact pm_self _ | apply pm_cons | apply pm_app))); rintro S1 _ _ hle1 ⟨rfl, rfl⟩) | (apply s_call; (case hg => rfl); (case hd => rfl); (case ha => rfl); (case hc => exact pick_v h0 (by omega) hpp); (case hL => (repeat (first | exact pm_nil _ | exact pm_refl _ _ | exact pm_self _ | apply pm_cons | apply pm_app))); rintro _ _ _ - ⟨rfl, rfl, rfl⟩) | (apply s_bin (v := .int .i64 (N : Nat)); (case hg => rfl); (case hd => rfl); (case hx => rfl); (case hy => rfl); (case hb => exact hN ▸ bv_add (by omega))) | (apply s_call; (case hg => rfl); (case hd => rfl); (case ha => rfl); (case hc => exact New_con N _ (by omega)); (case hL => (repeat (first | exact pm_nil _ | exact pm_refl _ _ | exact pm_self _ | apply pm_cons | apply pm_app))); rintro S2 LD _ - ⟨rfl, v, hO, rfl⟩; obtain ⟨b, rfl⟩ := hO.form) | refine Jo ?_ | intro _))
  have hA := hA0.le hle1
  refine c_loop (fun m S' L F => S' = S2 ∧ ∃ (k : Nat) (D : Dk), m = ys.length - k ∧ k ≤ ys.length ∧ k ≤ 60 ∧ Rdy N k D ∧ OwD (.pointer (some ⟨b, 0, none⟩)) D L ∧ D.vis = applyL D.dur D.pend ∧
      F = [(0, .int .i64 N), (1, .slice A ys.length c), (5, .bool true), (6, .pointer (some ⟨b, 0, none⟩)), (8, .int .i64 k)]) ⟨rfl, 0, newD N, rfl, by omega, by omega, Rdy.new N, hO, rfl, rfl⟩ (by repeat (first | exact Sub.nil rfl | exact Sub.marked rfl | refine Sub.cons rfl ?_)) (List.sublist_append_left _ _) ?_
  rintro m S' LD F ⟨rfl, k, D, rfl, hk, hk60, hr, hO, hv, rfl⟩
  by_cases hend : k < ys.length ∧ k < 60
  rotate_left
  · have hcr : crD D (upto D.pend.length) (-1) = ⟨false, 0, D.vis, D.vis, []⟩ := by rw [crD, crB_all D (-1) (by decide), hv]
    have hrc : Rdy N 0 ⟨false, 0, D.vis, D.vis, []⟩ := ⟨rfl, rfl, hr.vis, hr.vis, Nat.le_refl _⟩
    have hcr2 : crD ⟨false, 0, D.vis, D.vis, []⟩ [] 0 = ⟨false, 0, D.vis, D.vis, []⟩ := by rw [crD, crB_nil]
    have hpl := hr.pend
    by_cases hlt : k < ys.length
    all_goals
      (repeat (first | refine Jc ?_ | (apply s_call; (case hg => rfl); (case hd => rfl); (case ha => rfl); (case hc => exact Read_v hO (i64_d rfl) (i64_n (by omega)) hr.read); (case hL => (repeat (first | exact pm_nil _ | exact pm_refl _ _ | exact pm_self _ | apply pm_cons | apply pm_app))); rintro _ LD5 _ - ⟨rfl, hO5, rfl⟩) | refine Jo ?_ | intro _))
      refine c_loop (fun m S3 L F => S3 = _ ∧ ∃ (j : Nat) (LD6 : Blocks) (v : Value) (ob : Blocks), m = D.pend.length - j ∧ j ≤ D.pend.length ∧ OwD (.pointer (some ⟨b, 0, none⟩)) D LD6 ∧ Ows 3 v (upto j) ob ∧ L = LD6 ++ ob ∧
        F = [(0, .int .i64 N), (5, .bool true), (6, .pointer (some ⟨b, 0, none⟩)), (10, strV D.vis), (11, .int .i64 0), (12, v), (13, .int .i64 j)]) ⟨rfl, 0, LD5, _, _, rfl, by omega, hO5, Ows.nil 3, rfl, rfl⟩ (by repeat (first | exact Sub.nil rfl | exact Sub.marked rfl | refine Sub.cons rfl ?_)) (List.Sublist.refl _) ?_
      rintro m S3 L F ⟨rfl, j, LD6, v, ob, rfl, hj, hO6, ho, rfl, rfl⟩
      by_cases hjl : j < D.pend.length
      · have hul := upto_len j
        (repeat (first | refine Jc ?_ | (apply s_call; (case hg => rfl); (case hd => rfl); (case ha => rfl); (case hc => exact Pending_v hO6 rfl); (case hL => (repeat (first | exact pm_nil _ | exact pm_refl _ _ | exact pm_self _ | apply pm_cons | apply pm_app))); rintro _ LD7 _ - ⟨rfl, hO7, rfl⟩) | (apply s_append (ms := [(j : Int)]); (case hg => rfl); (case hd => rfl); (case hx => rfl); (case ho => exact ho); (case hL => (repeat (first | exact pm_nil _ | exact pm_refl _ _ | exact pm_self _ | apply pm_cons | apply pm_app))); (case hy => rfl); (case hm => rfl); (case hs => (apply Src.own; (repeat (first | exact List.Mem.head _ | apply List.Mem.tail | apply List.mem_append_right)))); (case hzs => rfl); (case h0 => decide); (case hb => (simp; omega)); (case h63 => (simp; omega)); intro v' ob' ho') | refine Jo ?_ | intro _))
        refine W.perm ?_ pmy
        exact q_back (L' := LD7 ++ ob') (m' := D.pend.length - (j + 1)) ⟨rfl, j + 1, LD7, v', ob', rfl, by omega, hO7, by rw [upto_succ]; exact ho', rfl, rfl⟩ (by omega) (by repeat (first | exact Sub.nil rfl | exact Sub.marked rfl | refine Sub.cons rfl ?_)) (List.Sublist.append (by simp) (List.sublist_append_left _ _))
      · obtain rfl : j = D.pend.length := by omega
        (repeat (first | refine Jc ?_ | (apply s_call; (case hg => rfl); (case hd => rfl); (case ha => rfl); (case hc => exact Pending_v hO6 rfl); (case hL => (repeat (first | exact pm_nil _ | exact pm_refl _ _ | exact pm_self _ | apply pm_cons | apply pm_app))); rintro _ LD7 _ - ⟨rfl, hO7, rfl⟩) | refine Jo ?_ | intro _))
        refine W.freezeOws (L1 := LD7) ho List.perm_append_comm fun S4 hle4 hsr => ?_
        obtain ⟨A4, c4, rfl, hc4, hA4⟩ := hsr
        (repeat (first | refine Jc ?_ | (apply s_call; (case hg => rfl); (case hd => rfl); (case ha => rfl); (case hc => exact Crash_v hO7 (keep := upto D.pend.length) hA4 rfl (by rw [upto_len]; omega) (upto_i64 (by omega)) (i64_d rfl) (by omega) hcr); (case hL => (repeat (first | exact pm_nil _ | exact pm_refl _ _ | exact pm_self _ | apply pm_cons | apply pm_app))); rintro S5 LD8 _ hle5 ⟨hO8, rfl⟩) | (apply s_call; (case hg => rfl); (case hd => rfl); (case ha => rfl); (case hc => exact Read_v hO8 (i64_d rfl) (i64_n (by omega)) hrc.read); (case hL => (repeat (first | exact pm_nil _ | exact pm_refl _ _ | exact pm_self _ | apply pm_cons | apply pm_app))); rintro _ LD9 _ - ⟨rfl, hO9, rfl⟩) | (apply s_call; (case hg => rfl); (case hd => rfl); (case ha => rfl); (case hc => exact Crash_v hO9 (keep := []) (At.nil _ _) rfl (by simp) (by simp) (i64_d rfl) (by simp) hcr2); (case hL => (repeat (first | exact pm_nil _ | exact pm_refl _ _ | exact pm_self _ | apply pm_cons | apply pm_app))); rintro S6 LD10 _ hle6 ⟨hO10, rfl⟩) | (apply s_call; (case hg => rfl); (case hd => rfl); (case ha => rfl); (case hc => exact Read_v hO10 (i64_d rfl) (i64_n (by omega)) hrc.read); (case hL => (repeat (first | exact pm_nil _ | exact pm_refl _ _ | exact pm_self _ | apply pm_cons | apply pm_app))); rintro _ LD11 _ - ⟨rfl, hO11, rfl⟩) | (apply s_evb; (case hg => rfl); (case hd => rfl); (case hn => rfl); (case he => (apply ev_eql_bv (r := true); (case hx => rfl); (case hy => rfl); (case h => first | decide | assumption | (simp; done))))) | (apply s_evb; (case hg => rfl); (case hd => rfl); (case hn => rfl); (case he => (apply ev_eql_bv (r := false); (case hx => rfl); (case hy => rfl); (case h => first | decide | assumption | (simp; done))))) | refine Jo ?_ | intro _))
        exact o_ret Try.results9 rfl (by repeat (first | exact List.Sublist.refl _ | exact List.Sublist.slnil | exact List.nil_sublist _ | exact List.sublist_append_left _ _ | refine List.Sublist.cons_cons _ ?_ | refine List.Sublist.append (List.Sublist.refl _) ?_ | refine List.Sublist.cons _ ?_ | refine List.Sublist.trans ?_ (List.sublist_append_right _ _))) rfl
  obtain ⟨hlt, h60⟩ := hend
  obtain ⟨y, hx⟩ := at_lt hlt
  have hy := hys y (List.mem_of_getElem? hx)
  have hfit := fitS_le y N
  have hr1 := hr.add hfit
  obtain ⟨yo, ysb, ysy⟩ := y
  cases ysy
  · (repeat (first | refine Jc ?_ | (apply s_idx hA; (case hg => rfl); (case hd => rfl); (case hx => rfl); (case hi => rfl); (case hm => rfl); (case hu => exact hx); intro q hq) | (apply s_load_ag; (case hg => rfl); (case hd => rfl); (case hx => rfl); (case hv => exact hq); (case hl => rfl)) | (apply s_call; (case hg => rfl); (case hd => rfl); (case ha => rfl); (case hc => exact fits_con ⟨yo, ysb, false⟩ N _ hy.1 hN4); (case hL => (repeat (first | exact pm_nil _ | exact pm_refl _ _ | exact pm_self _ | apply pm_cons | apply pm_app))); rintro _ _ _ - ⟨rfl, rfl, rfl⟩) | (apply s_call; (case hg => rfl); (case hd => rfl); (case ha => rfl); (case hc => exact Write_v hO (i64_n (by omega)) (by omega) (by have := hr.pend; omega) (hr.wr hfit) (hr.wrE hfit)); (case hL => (repeat (first | exact pm_nil _ | exact pm_refl _ _ | exact pm_self _ | apply pm_cons | apply pm_app))); rintro _ LD1 _ - ⟨rfl, hO1, rfl⟩) | refine Jo ?_ | intro _))
    exact q_back (L' := LD1) (m' := ys.length - (k + 1)) ⟨rfl, k + 1, _, rfl, by omega, by omega, hr1, hO1, by simp only [addW, applyL_snoc]; rw [hv], rfl⟩ (by omega) (by repeat (first | exact Sub.nil rfl | exact Sub.marked rfl | refine Sub.cons rfl ?_)) (List.sublist_append_left _ _)
  · (repeat (first | refine Jc ?_ | (apply s_idx hA; (case hg => rfl); (case hd => rfl); (case hx => rfl); (case hi => rfl); (case hm => rfl); (case hu => exact hx); intro q hq) | (apply s_load_ag; (case hg => rfl); (case hd => rfl); (case hx => rfl); (case hv => exact hq); (case hl => rfl)) | (apply s_call; (case hg => rfl); (case hd => rfl); (case ha => rfl); (case hc => exact fits_con ⟨yo, ysb, true⟩ N _ hy.1 hN4); (case hL => (repeat (first | exact pm_nil _ | exact pm_refl _ _ | exact pm_self _ | apply pm_cons | apply pm_app))); rintro _ _ _ - ⟨rfl, rfl, rfl⟩) | (apply s_call; (case hg => rfl); (case hd => rfl); (case ha => rfl); (case hc => exact Write_v hO (i64_n (by omega)) (by omega) (by have := hr.pend; omega) (hr.wr hfit) (hr.wrE hfit)); (case hL => (repeat (first | exact pm_nil _ | exact pm_refl _ _ | exact pm_self _ | apply pm_cons | apply pm_app))); rintro _ LD1 _ - ⟨rfl, hO1, rfl⟩) | (apply s_call; (case hg => rfl); (case hd => rfl); (case ha => rfl); (case hc => exact Sync_v hO1 hr1.sy hr1.syE); (case hL => (repeat (first | exact pm_nil _ | exact pm_refl _ _ | exact pm_self _ | apply pm_cons | apply pm_app))); rintro _ LD2 _ - ⟨rfl, hO2, rfl⟩) | refine Jo ?_ | intro _))
    exact q_back (L' := LD2) (m' := ys.length - (k + 1)) ⟨rfl, k + 1, _, rfl, by omega, by omega, hr1.syd, hO2, rfl, rfl⟩ (by omega) (by repeat (first | exact Sub.nil rfl | exact Sub.marked rfl | refine Sub.cons rfl ?_)) (List.sublist_append_left _ _)
end Go.Proofs.Ytdbkjegpeoopaaa
namespace Go.Proofs.Ytdbkjegpeoopaaa
open Go Go.X
set_option maxRecDepth 10000
set_option linter.unusedVariables false
attribute [local irreducible] Code.wpIn wpListIn Exit.then Exit.inBlock X.Out X.Back X.W X.Ev X.Con X.BinV X.Wh X.Wn X.Wq
/-- A disk that loses power after n writes, after k calls of Write. -/
structure Cd (N n k : Nat) (D : Dk) : Prop where
  off : D.off = decide (n ≤ k)
  left : D.left = ((n - k : Nat) : Int)
  dur : D.dur.length = N
  vis : D.vis.length = N
  pend : D.pend.length = min k n
  app : D.vis = applyL D.dur D.pend
def cdW (n k : Nat) (D : Dk) (o : Nat) (s : Bs) : Dk := ⟨decide (n ≤ k + 1), ((n - (k + 1) : Nat) : Int), D.dur, lset D.vis o s, D.pend ++ [⟨o, s⟩]⟩
theorem Cd.wr {N n k : Nat} {D : Dk} (h : Cd N n k D) {o : Nat} {s : Bs} (ho : o + s.length ≤ N) (hk : k < n) : wrD D o s = cdW n k D o s := by
  have h1 : D.off = false := by rw [h.off]; simp; omega
  have h2 : ¬ ((n - k : Nat) : Int) = 0 := by omega
  simp only [wrD, okW, h1, h.dur, inside_t ho, h.left, usedP, if_neg h2, cdW]
  simp
  omega
theorem Cd.wrE {N n k : Nat} {D : Dk} (h : Cd N n k D) {o : Nat} {s : Bs} (ho : o + s.length ≤ N) (hk : k < n) : wrE D o s = 0 := by
  have h1 : D.off = false := by rw [h.off]; simp; omega
  simp [Go.Proofs.Ytdbkjegpeoopaaa.wrE, h1, h.dur, inside_t ho]
theorem Cd.add {N n k : Nat} {D : Dk} (h : Cd N n k D) {o : Nat} {s : Bs} (ho : o + s.length ≤ N) (hk : k < n) : Cd N n (k + 1) (cdW n k D o s) :=
  ⟨rfl, rfl, h.dur, by have := h.vis; simp only [cdW]; rw [lset_len (by omega), h.vis], by have := h.pend; simp [cdW]; omega, by simp only [cdW, applyL_snoc]; rw [← h.app]⟩
theorem Cd.no {N n k : Nat} {D : Dk} (h : Cd N n k D) (hk : n ≤ k) : D.off = true := by rw [h.off]; simpa using hk
theorem Cd.stay {N n k : Nat} {D : Dk} (h : Cd N n k D) (hk : n ≤ k) : Cd N n (k + 1) D :=
  ⟨by rw [h.no hk]; simp; omega, by rw [h.left]; omega, h.dur, h.vis, by rw [h.pend]; omega, h.app⟩
theorem f10_law (size n : Int) (ys : List Wp) (A : Option Addr) (c : Nat) (S : SH) (h0 : i64 size) (hn0 : i64 n) (hA0 : At S A ys) (hl : ys.length ≤ c) (hys : ∀ y ∈ ys, i64 y.off ∧ y.s.length ≤ maxLen) : Con Try.prog 10 #[.int .i64 size, .int .i64 n, .slice A ys.length c] S [] (fun _ _ v => v = .bool true) := by
  refine con_of (args := [.int .i64 size, .int .i64 n, .slice A ys.length c]) Try.func10 rfl Try.ntmps10 rfl fun w => ?_
  have hp := pick_lt size 100 (by omega)
  generalize hpp : pick size 100 = p at hp
  have hq := pick_lt n 20 (by omega)
  obtain ⟨nn, hnn⟩ : ∃ nn : Nat, pick n 20 = nn := ⟨(pick n 20).toNat, by omega⟩
  obtain ⟨N, hN⟩ : ∃ N : Nat, (1 : Int) + p = N := ⟨(1 + p).toNat, by omega⟩
  have hN4 : N ≤ 4194304 := by omega
  have hN1 : 1 ≤ N := by omega
  have hn20 : nn < 20 := by omega
  have c1 : cutD (newD N) (nn + 5) = ⟨false, nn + 5, (newD N).dur, (newD N).vis, []⟩ := by
    have e1 : ¬ ((newD N).off = true ∨ (nn : Int) + 5 < 0) := by simp [newD]; omega
    have e2 : ¬ ((nn : Int) + 5 = 0) := by omega
    rw [cutD, if_neg e1]; simp [newD, e2]
  have c2 : cutE (newD N) (nn + 5) = 0 := by
    have e2 : ¬ ((nn : Int) + 5 < 0) := by omega
    simp [cutE, newD, e2]
  have c3 : cutD ⟨false, (nn : Int) + 5, (newD N).dur, (newD N).vis, []⟩ nn = ⟨decide (nn ≤ 0), ((nn - 0 : Nat) : Int), (newD N).dur, (newD N).vis, []⟩ := by
    have e1 : ¬ ((nn : Int) < 0) := by omega
    simp [cutD, e1]
  have c4 : cutE ⟨false, (nn : Int) + 5, (newD N).dur, (newD N).vis, []⟩ nn = 0 := by
    have e1 : ¬ ((nn : Int) < 0) := by omega
    simp [cutE, e1]
  (repeat (first | refine Jc ?_ | (apply s_call; (case hg => rfl); (case hd => rfl); (case ha => rfl); (case hc => exact sane_con _); (case hL => (repeat (first | exact pm_nil _ | exact pm_refl _ _ | exact pm_self _ | apply pm_cons | apply pm_app))); rintro S1 _ _ hle1 ⟨rfl, rfl⟩) | (apply s_call; (case hg => rfl); (case hd => rfl); (case ha => rfl); (case hc => exact pick_v h0 (by omega) hpp); (case hL => (repeat (first | exact pm_nil _ | exact pm_refl _ _ | exact pm_self _ | apply pm_cons | apply pm_app))); rintro _ _ _ - ⟨rfl, rfl, rfl⟩) | (apply s_call; (case hg => rfl); (case hd => rfl); (case ha => rfl); (case hc => exact pick_v hn0 (by omega) hnn); (case hL => (repeat (first | exact pm_nil _ | exact pm_refl _ _ | exact pm_self _ | apply pm_cons | apply pm_app))); rintro _ _ _ - ⟨rfl, rfl, rfl⟩) | (apply s_bin (v := .int .i64 (N : Nat)); (case hg => rfl); (case hd => rfl); (case hx => rfl); (case hy => rfl); (case hb => exact hN ▸ bv_add (by omega))) | (apply s_call; (case hg => rfl); (case hd => rfl); (case ha => rfl); (case hc => exact New_con N _ (by omega)); (case hL => (repeat (first | exact pm_nil _ | exact pm_refl _ _ | exact pm_self _ | apply pm_cons | apply pm_app))); rintro S2 LD _ - ⟨rfl, v, hO, rfl⟩; obtain ⟨b, rfl⟩ := hO.form) | (apply s_call; (case hg => rfl); (case hd => rfl); (case ha => rfl); (case hc => exact Cut_v hO ⟨by omega, by omega⟩ c1 c2); (case hL => (repeat (first | exact pm_nil _ | exact pm_refl _ _ | exact pm_self _ | apply pm_cons | apply pm_app))); rintro _ LD1 _ - ⟨rfl, hO1, rfl⟩) | (apply s_call; (case hg => rfl); (case hd => rfl); (case ha => rfl); (case hc => exact Cut_v hO1 ⟨by omega, by omega⟩ c3 c4); (case hL => (repeat (first | exact pm_nil _ | exact pm_refl _ _ | exact pm_self _ | apply pm_cons | apply pm_app))); rintro _ LD2 _ - ⟨rfl, hO2, rfl⟩) | refine Jo ?_ | intro _))
  rename_i g
  rw [cellsOf_zero]
  have hA := hA0.le hle1
  have hcd : Cd N nn 0 ⟨decide (nn ≤ 0), ((nn - 0 : Nat) : Int), (newD N).dur, (newD N).vis, []⟩ := ⟨rfl, rfl, by simp [newD], by simp [newD], by simp, rfl⟩
  refine c_loop (fun m S' L F => S' = _ ∧ ∃ (k : Nat) (D : Dk) (LD : Blocks) (v : Value) (ob : Blocks), m = ys.length - k ∧ k ≤ ys.length ∧ k ≤ 40 ∧ Cd N nn k D ∧ OwD (.pointer (some ⟨b, 0, none⟩)) D LD ∧ Ows 3 v (upto (min k nn)) ob ∧ L = ob ++ ((g, .cells (cellsOf D.vis).toArray 5 (0, 0)) :: LD) ∧
      F = [(0, .int .i64 N), (1, .int .i64 nn), (2, .slice A ys.length c), (7, .bool true), (8, .pointer (some ⟨b, 0, none⟩)), (10, .slice (some ⟨g, 0, none⟩) N N), (11, v), (12, .int .i64 k)]) ⟨rfl, 0, _, LD2, _, _, rfl, by omega, by omega, hcd, hO2, Ows.nil 3, rfl, rfl⟩ (by repeat (first | exact Sub.nil rfl | exact Sub.marked rfl | refine Sub.cons rfl ?_)) (by repeat (first | exact List.Sublist.refl _ | exact List.Sublist.slnil | exact List.nil_sublist _ | exact List.sublist_append_left _ _ | refine List.Sublist.cons_cons _ ?_ | refine List.Sublist.append (List.Sublist.refl _) ?_ | refine List.Sublist.cons _ ?_ | refine List.Sublist.trans ?_ (List.sublist_append_right _ _))) ?_
  rintro m S' L F ⟨rfl, k, D, LD, v, ob, rfl, hk, hk40, hr, hO, ho, rfl, rfl⟩
  have hul := upto_len (min k nn)
  obtain ⟨A3, c3', rfl⟩ := ho.form
  by_cases hend : k < ys.length ∧ k < 40
  rotate_left
  · by_cases hkn : k < nn
    · have h1 : D.off = false := by rw [hr.off]; simp; omega
      have hmin : ((min k nn : Nat) : Int) = k := by omega
      have hlt : ¬ k < ys.length := by omega
      · (repeat (first | refine Jc ?_ | (apply s_call; (case hg => rfl); (case hd => rfl); (case ha => rfl); (case hc => exact Sync_v hO (D' := syncD D) (e := 0) rfl (by simp [h1])); (case hL => (repeat (first | exact pm_nil _ | exact pm_refl _ _ | exact pm_self _ | apply pm_cons | apply pm_app))); rintro _ LD1 _ - ⟨rfl, hO1, rfl⟩) | refine Jo ?_ | intro _))
        exact o_ret Try.results10 rfl (by repeat (first | exact List.Sublist.refl _ | exact List.Sublist.slnil | exact List.nil_sublist _ | exact List.sublist_append_left _ _ | refine List.Sublist.cons_cons _ ?_ | refine List.Sublist.append (List.Sublist.refl _) ?_ | refine List.Sublist.cons _ ?_ | refine List.Sublist.trans ?_ (List.sublist_append_right _ _))) rfl
    · have h1 := hr.no (by omega)
      have hmin : min k nn = nn := by omega
      have hpn : D.pend.length = nn := by rw [hr.pend]; omega
      rw [show min k nn = D.pend.length by omega] at ho hul ⊢
      have r0 : readV D 0 0 = .tuple #[strV [], .int .i64 321] := by simp [readV, h1]
      have s0 : syncD D = D := by simp [syncD, h1]
      have u0 : cutD D 3 = D := by simp [cutD, h1]
      have hcr : crD D (upto D.pend.length) (-1) = ⟨false, 0, D.vis, D.vis, []⟩ := by rw [crD, crB_all D (-1) (by decide), hr.app]
      have hrc : Rdy N 0 ⟨false, 0, D.vis, D.vis, []⟩ := ⟨rfl, rfl, hr.vis, hr.vis, Nat.le_refl _⟩
      have hfx : 0 + ([120] : Bs).length ≤ N := by simp; omega
      have hrx := hrc.add hfx
      by_cases hlt : k < ys.length
      all_goals
        (repeat (first | refine Jc ?_ | (apply s_call; (case hg => rfl); (case hd => rfl); (case ha => rfl); (case hc => exact Read_v hO (i64_d rfl) (i64_d rfl) r0); (case hL => (repeat (first | exact pm_nil _ | exact pm_refl _ _ | exact pm_self _ | apply pm_cons | apply pm_app))); rintro _ LD1 _ - ⟨rfl, hO1, rfl⟩) | (apply s_call; (case hg => rfl); (case hd => rfl); (case ha => rfl); (case hc => exact Sync_v hO1 (e := 321) s0 (by simp [h1])); (case hL => (repeat (first | exact pm_nil _ | exact pm_refl _ _ | exact pm_self _ | apply pm_cons | apply pm_app))); rintro _ LD2 _ - ⟨rfl, hO2, rfl⟩) | (apply s_call; (case hg => rfl); (case hd => rfl); (case ha => rfl); (case hc => exact Cut_v hO2 (i64_d rfl) (e := 321) u0 (by simp [cutE, h1])); (case hL => (repeat (first | exact pm_nil _ | exact pm_refl _ _ | exact pm_self _ | apply pm_cons | apply pm_app))); rintro _ LD3 _ - ⟨rfl, hO3, rfl⟩) | (apply s_call; (case hg => rfl); (case hd => rfl); (case ha => rfl); (case hc => exact Pending_v hO3 (n := nn) (by omega)); (case hL => (repeat (first | exact pm_nil _ | exact pm_refl _ _ | exact pm_self _ | apply pm_cons | apply pm_app))); rintro _ LD4 _ - ⟨rfl, hO4, rfl⟩) | (apply s_call; (case hg => rfl); (case hd => rfl); (case ha => rfl); (case hc => exact Size_v hO4 (n := N) (by rw [hr.dur])); (case hL => (repeat (first | exact pm_nil _ | exact pm_refl _ _ | exact pm_self _ | apply pm_cons | apply pm_app))); rintro _ LD5 _ - ⟨rfl, hO5, rfl⟩) | refine Jo ?_ | intro _))
        refine W.freezeOws (L1 := LD5 ++ [(g, .cells (cellsOf D.vis).toArray 5 (0, 0))]) ho (pm_app (pm_refl _ _)) fun S4 hle4 hsr => ?_
        obtain ⟨A4, c4, e4, hc4, hA4⟩ := hsr
        cases e4
        (repeat (first | refine Jc ?_ | (apply s_call; (case hg => rfl); (case hd => rfl); (case ha => rfl); (case hc => exact Crash_v hO5 (keep := upto D.pend.length) hA4 rfl (by rw [upto_len]; omega) (upto_i64 (by omega)) (i64_d rfl) (by omega) hcr); (case hL => (repeat (first | exact pm_nil _ | exact pm_refl _ _ | exact pm_self _ | apply pm_cons | apply pm_app))); rintro S5 LD8 _ hle5 ⟨hO8, rfl⟩) | (apply s_call; (case hg => rfl); (case hd => rfl); (case ha => rfl); (case hc => exact Read_v hO8 (i64_d rfl) (i64_n (by omega)) hrc.read); (case hL => (repeat (first | exact pm_nil _ | exact pm_refl _ _ | exact pm_self _ | apply pm_cons | apply pm_app))); rintro _ LD9 _ - ⟨rfl, hO9, rfl⟩) | (apply s_evb; (case hg => rfl); (case hd => rfl); (case hn => rfl); (case he => ((apply ev_str_own (B := D.vis); (case hx => rfl); (case hm => (repeat (first | exact List.Mem.head _ | apply List.Mem.tail | apply List.mem_append_right))); (case hk => (rw [hr.vis]; omega)))))) | (apply s_evb; (case hg => rfl); (case hd => rfl); (case hn => rfl); (case he => ((apply ev_eql_bv (r := true); (case hx => rfl); (case hy => rfl); (case h => (rw [str_all hr.vis]; simp)))))) | (apply s_call; (case hg => rfl); (case hd => rfl); (case ha => rfl); (case hc => exact Write_v hO9 (off := 0) (s := [120]) (i64_d rfl) (by simp) (by simp) (hrc.wr hfx) (hrc.wrE hfx)); (case hL => (repeat (first | exact pm_nil _ | exact pm_refl _ _ | exact pm_self _ | apply pm_cons | apply pm_app))); rintro _ LD10 _ - ⟨rfl, hO10, rfl⟩) | (apply s_call; (case hg => rfl); (case hd => rfl); (case ha => rfl); (case hc => exact Sync_v hO10 hrx.sy hrx.syE); (case hL => (repeat (first | exact pm_nil _ | exact pm_refl _ _ | exact pm_self _ | apply pm_cons | apply pm_app))); rintro _ LD11 _ - ⟨rfl, hO11, rfl⟩) | refine Jo ?_ | intro _))
        exact o_ret Try.results10 rfl (by repeat (first | exact List.Sublist.refl _ | exact List.Sublist.slnil | exact List.nil_sublist _ | exact List.sublist_append_left _ _ | refine List.Sublist.cons_cons _ ?_ | refine List.Sublist.append (List.Sublist.refl _) ?_ | refine List.Sublist.cons _ ?_ | refine List.Sublist.trans ?_ (List.sublist_append_right _ _))) rfl
  obtain ⟨hlt, h40⟩ := hend
  obtain ⟨y, hx⟩ := at_lt hlt
  have hy := hys y (List.mem_of_getElem? hx)
  have hfit := fitS_le y N
  obtain ⟨yo, ysb, ysy⟩ := y
  by_cases hkn : k < nn
  · have hm1 : min k nn = k := by omega
    have hm2 : min (k + 1) nn = k + 1 := by omega
    rw [hm1] at ho hul ⊢
    (repeat (first | refine Jc ?_ | (apply s_idx hA; (case hg => rfl); (case hd => rfl); (case hx => rfl); (case hi => rfl); (case hm => rfl); (case hu => exact hx); intro q hq) | (apply s_load_ag; (case hg => rfl); (case hd => rfl); (case hx => rfl); (case hv => exact hq); (case hl => rfl)) | (apply s_call; (case hg => rfl); (case hd => rfl); (case ha => rfl); (case hc => exact fits_con ⟨yo, ysb, ysy⟩ N _ hy.1 hN4); (case hL => (repeat (first | exact pm_nil _ | exact pm_refl _ _ | exact pm_self _ | apply pm_cons | apply pm_app))); rintro _ _ _ - ⟨rfl, rfl, rfl⟩) | (apply s_call; (case hg => rfl); (case hd => rfl); (case ha => rfl); (case hc => exact Write_v hO (i64_n (by omega)) (by omega) (by have := hr.pend; omega) (hr.wr hfit hkn) (hr.wrE hfit hkn)); (case hL => (repeat (first | exact pm_nil _ | exact pm_refl _ _ | exact pm_self _ | apply pm_cons | apply pm_app))); rintro _ LD1 _ - ⟨rfl, hO1, rfl⟩) | (apply s_call; (case hg => rfl); (case hd => rfl); (case ha => rfl); (case hc => exact put_con g N (fitO ⟨yo, ysb, ysy⟩ N) D.vis (fitS ⟨yo, ysb, ysy⟩ N) _ hr.vis hfit hN4); (case hL => (repeat (first | exact pm_nil _ | exact pm_refl _ _ | exact pm_self _ | apply pm_cons | apply pm_app))); rintro _ _ _ - ⟨rfl, rfl⟩) | (apply s_append (ms := [(k : Int)]); (case hg => rfl); (case hd => rfl); (case hx => rfl); (case ho => exact ho); (case hL => (repeat (first | exact pm_nil _ | exact pm_refl _ _ | exact pm_self _ | apply pm_cons | apply pm_app))); (case hy => rfl); (case hm => rfl); (case hs => (apply Src.own; (repeat (first | exact List.Mem.head _ | apply List.Mem.tail | apply List.mem_append_right)))); (case hzs => rfl); (case h0 => decide); (case hb => (simp; omega)); (case h63 => (simp; omega)); intro v' ob' ho') | refine Jo ?_ | intro _))
    rw [← upto_succ, ← hm2] at ho'
    exact q_back (L' := ob' ++ ((g, .cells (cellsOf (lset D.vis (fitO ⟨yo, ysb, ysy⟩ N) (fitS ⟨yo, ysb, ysy⟩ N))).toArray 5 (0, 0)) :: LD1)) (m' := ys.length - (k + 1)) ⟨rfl, k + 1, _, LD1, v', ob', rfl, by omega, by omega, hr.add hfit hkn, hO1, ho', rfl, rfl⟩ (by omega) (by repeat (first | exact Sub.nil rfl | exact Sub.marked rfl | refine Sub.cons rfl ?_)) (by repeat (first | exact List.Sublist.refl _ | exact List.Sublist.slnil | exact List.nil_sublist _ | exact List.sublist_append_left _ _ | refine List.Sublist.cons_cons _ ?_ | refine List.Sublist.append (List.Sublist.refl _) ?_ | refine List.Sublist.cons _ ?_ | refine List.Sublist.trans ?_ (List.sublist_append_right _ _)))
  · have h1 := hr.no (by omega)
    have hm1 : min k nn = nn := by omega
    have hm2 : min (k + 1) nn = nn := by omega
    rw [show min k nn = min (k + 1) nn by omega] at ho hul ⊢
    have w0 : wrD D (fitO ⟨yo, ysb, ysy⟩ N) (fitS ⟨yo, ysb, ysy⟩ N) = D := by simp [wrD, okW, h1]
    (repeat (first | refine Jc ?_ | (apply s_idx hA; (case hg => rfl); (case hd => rfl); (case hx => rfl); (case hi => rfl); (case hm => rfl); (case hu => exact hx); intro q hq) | (apply s_load_ag; (case hg => rfl); (case hd => rfl); (case hx => rfl); (case hv => exact hq); (case hl => rfl)) | (apply s_call; (case hg => rfl); (case hd => rfl); (case ha => rfl); (case hc => exact fits_con ⟨yo, ysb, ysy⟩ N _ hy.1 hN4); (case hL => (repeat (first | exact pm_nil _ | exact pm_refl _ _ | exact pm_self _ | apply pm_cons | apply pm_app))); rintro _ _ _ - ⟨rfl, rfl, rfl⟩) | (apply s_call; (case hg => rfl); (case hd => rfl); (case ha => rfl); (case hc => exact Write_v hO (i64_n (by omega)) (by omega) (by have := hr.pend; omega) w0 (e := 321) (by simp [wrE, h1])); (case hL => (repeat (first | exact pm_nil _ | exact pm_refl _ _ | exact pm_self _ | apply pm_cons | apply pm_app))); rintro _ LD1 _ - ⟨rfl, hO1, rfl⟩) | refine Jo ?_ | intro _))
    refine W.perm ?_ pmy
    refine q_back (L' := ob ++ ((g, .cells (cellsOf D.vis).toArray 5 (0, 0)) :: LD1)) (m' := ys.length - (k + 1)) ⟨rfl, k + 1, D, LD1, _, ob, rfl, by omega, by omega, hr.stay (by omega), hO1, ho, rfl, rfl⟩ (by omega) (by repeat (first | exact Sub.nil rfl | exact Sub.marked rfl | refine Sub.cons rfl ?_)) ?_
    simp
end Go.Proofs.Ytdbkjegpeoopaaa
namespace Go.Proofs.Ytdbkjegpeoopaaa
open Go Go.X
open Go.ChangeShapes Go.WideShapes Go.ChangeAt Go.RowKit
set_option linter.unusedVariables false
set_option maxRecDepth 100000 in
theorem lifted10 (os : Os) (started : os.Started) (H : Type) (enc : TypeId × Value → H) :
    ReturnsInHanded {} Try.checked os 10 .any (Rows.diskCutSpec.pre6 enc Try.prog Try.f10 Rows.diskCutRow.domain false) (Rows.diskCutSpec.post enc Try.prog Try.f10 false true false false) := by
  refine returnsInHanded_of_change (C := Try.checked) own started (by kernel_rfl) Try.func10
    (ChangeSpec.witness6 (enc := enc) (C := Try.checked) false ⟨#[], #[.int .i64 0, .int .i64 0, .slice none 0 0], []⟩ 8 (by kernel_rfl) (by kernel_rfl) (by kernel_rfl) (by kernel_rfl)) ?_
  intro W base args ds gs before hval0 hW hcnd _
  have hval : ∀ (j : Nat) t v, Try.f10.params[j]? = some t → args[j]? = some v → Value.okWide Try.prog W .any base t v := hval0
  have hW' := hW
  obtain ⟨p, q, hA0, hV, rfl, hfz, hnd⟩ := hW
  have hA : DataW.TrodAll enc Try.prog W 0 (fun _ => true) true Try.f10.params.toList args.toList ds p := hA0
  rw [Try.params10] at hA hval
  obtain ⟨v0, vs0, d0, ds0, p0, q0, hargs, rfl, rfl, h0, r0⟩ := trodAll_cons hA
  obtain ⟨v1, vs1, d1, ds1, p1, q1, rfl, rfl, rfl, h1, r1⟩ := trodAll_cons r0
  obtain ⟨v2, vs2, d2, ds2, p2, q2, rfl, rfl, rfl, h2, r2⟩ := trodAll_cons r1
  obtain ⟨rfl, rfl, rfl⟩ := trodAll_nil r2
  obtain rfl : args = #[v0, v1, v2] := by cases args; simp_all
  obtain ⟨rfl, rfl⟩ := trodVars_none hV
  have k0 := h0
  have lt0 : ∀ x ∈ p0, x.block < W.heap.size := by obtain ⟨m, hm⟩ := k0; exact DataW.trod_lt m _ _ _ hm
  have k1 := h1
  have lt1 : ∀ x ∈ p1, x.block < W.heap.size := by obtain ⟨m, hm⟩ := k1; exact DataW.trod_lt m _ _ _ hm
  have k2 := h2
  have lt2 : ∀ x ∈ p2, x.block < W.heap.size := by obtain ⟨m, hm⟩ := k2; exact DataW.trod_lt m _ _ _ hm
  obtain ⟨a0, rfl, e1_0, e2_0, w0⟩ := open_int Try.underlying3 (hval 0 3 v0 rfl rfl) h0
  obtain ⟨a1, rfl, e1_1, e2_1, w1⟩ := open_int Try.underlying3 (hval 1 3 v1 rfl rfl) h1
  obtain ⟨a2, len2, cap2, rfl⟩ := okWide_slice Try.underlying51 (hval 2 51 v2 rfl rfl)
  obtain ⟨xs2, rfl, gl2, gA2, gx2⟩ := open_sl (α := Wp) Try.underlying51 (by kernel_rfl) rdb_Wp rfl h2
  refine (calls_of_con (f10_law a0 a1 xs2 a2 cap2 (allOf W) (i64_wf w0) (i64_wf w1) gA2 gl2 gx2) fun _ _ _ h => h).mono fun e W' ⟨he, bel⟩ => ?_
  subst he
  exact ⟨_, rfl, _, _, _, [], _, [], hW', trodAll_mk1 (shut_bool Try.underlying4 _), (trodAll_cons_mk (Below.trod laidOut (by kernel_rfl) (of_decide_eq_true (by kernel_rfl)) k0 bel lt0) (trodAll_cons_mk (Below.trod laidOut (by kernel_rfl) (of_decide_eq_true (by kernel_rfl)) k1 bel lt1) (trodAll_cons_mk (Below.trod laidOut (by kernel_rfl) (of_decide_eq_true (by kernel_rfl)) k2 bel lt2) trodAll_mk0))), rfl, bel.frame _, fun h => by cases h⟩
theorem over10 : Rows.diskCutRow.holds Try.pinned (OpenSpec.ofChange Rows.diskCutSpec) :=
  OpenClaim.holds_of_wide 10 Try.f10 rfl rfl rfl rfl rfl rfl rfl ⟨rfl, rfl, rfl, rfl, rfl⟩ rfl rfl rfl rfl rfl (by kernel_rfl) Try.func10 (by kernel_rfl)
    (of_decide_eq_true (by kernel_rfl)) (by unfold Func.isWrapper; rw [if_neg (of_decide_eq_false (by kernel_rfl))]; exact ⟨rfl, rfl⟩)
    (fun os started H enc _ => lifted10 os started H enc)
theorem diskCut_holds : Rows.DiskCutSaid := over10
#print axioms diskCut_holds
end Go.Proofs.Ytdbkjegpeoopaaa
