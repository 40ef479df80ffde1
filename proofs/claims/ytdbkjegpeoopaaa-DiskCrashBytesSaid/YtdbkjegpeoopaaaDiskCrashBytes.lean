/- DiskCrashBytes returns true for every input, and each argument reads afterwards as it read before; no condition. -/
import Derived.Test.YtdbkjegpeoopaaaBb
import Derived.Test.YtdbkjegpeoopaaaX
namespace Go.Proofs.Ytdbkjegpeoopaaa
open Go Go.X
set_option maxRecDepth 10000
set_option linter.unusedVariables false
attribute [local irreducible] Code.wpIn wpListIn Exit.then Exit.inBlock X.Out X.Back X.W X.Ev X.Con X.BinV X.Wh X.Wn X.Wq
structure Rdy (N k : Nat) (D : Dk) : Prop where
  off : D.off = false
  left : D.left = 0
  dur : D.dur.length = N
  vis : D.vis.length = N
  pend : D.pend.length ≤ k
def addW (D : Dk) (o : Nat) (s : Bs) : Dk := ⟨false, 0, D.dur, lset D.vis o s, D.pend ++ [⟨o, s⟩]⟩
def synced (D : Dk) : Dk := ⟨false, 0, D.vis, D.vis, []⟩
theorem inside_t {N o n : Nat} (h : o + n ≤ N) : insideB N o n = true := by simp [insideB]; omega
theorem Rdy.new (N : Nat) : Rdy N 0 (newD N) := ⟨rfl, rfl, by simp [newD], by simp [newD], Nat.le_refl _⟩
theorem Rdy.wr {N k : Nat} {D : Dk} (h : Rdy N k D) {o : Nat} {s : Bs} (ho : o + s.length ≤ N) : wrD D o s = addW D o s := by
  simp [wrD, okW, h.off, h.left, h.dur, inside_t ho, addW, usedP]
theorem Rdy.wrE {N k : Nat} {D : Dk} (h : Rdy N k D) {o : Nat} {s : Bs} (ho : o + s.length ≤ N) : wrE D o s = 0 := by
  simp [Go.Proofs.Ytdbkjegpeoopaaa.wrE, h.off, h.dur, inside_t ho]
theorem Rdy.add {N k : Nat} {D : Dk} (h : Rdy N k D) {o : Nat} {s : Bs} (ho : o + s.length ≤ N) : Rdy N (k + 1) (addW D o s) :=
  ⟨rfl, rfl, h.dur, by have := h.vis; simp only [addW]; rw [lset_len (by omega), h.vis], by have := h.pend; simp [addW]; omega⟩
theorem Rdy.sy {N k : Nat} {D : Dk} (h : Rdy N k D) : syncD D = synced D := by simp [syncD, h.off, h.left, synced]
theorem Rdy.syE {N k : Nat} {D : Dk} (h : Rdy N k D) : (if D.off then (321 : Int) else 0) = 0 := by simp [h.off]
theorem Rdy.syd {N k : Nat} {D : Dk} (h : Rdy N k D) : Rdy N k (synced D) := ⟨rfl, rfl, h.vis, h.vis, Nat.zero_le _⟩
theorem Rdy.read {N k : Nat} {D : Dk} (h : Rdy N k D) : readV D 0 N = .tuple #[strV D.vis, .int .i64 0] := by
  have := inside_t (N := N) (o := 0) (n := N) (by omega)
  simp only [readV, h.off, h.dur]
  rw [show ((0 : Int)) = ((0 : Nat) : Int) from rfl, this]
  simp [List.take_of_length_le (Nat.le_of_eq h.vis)]
theorem pback {p : Nat × Obj} {X : Blocks} : (p :: (X ++ [])).Perm (X ++ [p]) := by simpa using (List.perm_append_comm (l₁ := [p]) (l₂ := X))
theorem str_all {B : Bs} {N : Nat} (h : B.length = N) : (B.drop 0).take N = B := by rw [List.drop_zero, List.take_of_length_le (by omega)]
theorem size_at {c n : Int} {N : Nat} (h : pick c n = (N : Nat) - 1) : (1 : Int) + pick c n = N := by omega
end Go.Proofs.Ytdbkjegpeoopaaa
namespace Go.Proofs.Ytdbkjegpeoopaaa
open Go Go.X
set_option maxRecDepth 10000
set_option linter.unusedVariables false
attribute [local irreducible] Code.wpIn wpListIn Exit.then Exit.inBlock X.Out X.Back X.W X.Ev X.Con X.BinV X.Wh X.Wn X.Wq
theorem i64_n {n : Nat} (h : n ≤ 9223372036854775807) : i64 n := ⟨by omega, by omega⟩
theorem f6_law (size : Int) (ys : List Wp) (A : Option Addr) (c : Nat) (S : SH) (h0 : i64 size) (hA0 : At S A ys) (hl : ys.length ≤ c) (hys : ∀ y ∈ ys, i64 y.off ∧ y.s.length ≤ maxLen) : Con Try.prog 6 #[.int .i64 size, .slice A ys.length c] S [] (fun _ _ v => v = .bool true) := by
  refine con_of (args := [.int .i64 size, .slice A ys.length c]) Try.func6 rfl Try.ntmps6 rfl fun w => ?_
  have hp := pick_lt size 300 (by omega)
  generalize hpp : pick size 300 = p at hp
  obtain ⟨N, hN⟩ : ∃ N : Nat, (1 : Int) + p = N := ⟨(1 + p).toNat, by omega⟩
  have hN4 : N ≤ 4194304 := by omega
  (repeat (first | refine Jc ?_ | (apply s_call; (case hg => rfl); (case hd => rfl); (case ha => rfl); (case hc => exact sane_con _); (case hL => (repeat (first | exact pm_nil _ | exact pm_refl _ _ | exact pm_self _ | apply pm_cons | apply pm_app))); rintro S1 _ _ hle1 ⟨rfl, rfl⟩) | (apply s_call; (case hg => rfl); (case hd => rfl); (case ha => rfl); (case hc => exact pick_v h0 (by omega) hpp); (case hL => (repeat (first | exact pm_nil _ | exact pm_refl _ _ | exact pm_self _ | apply pm_cons | apply pm_app))); rintro _ _ _ - ⟨rfl, rfl, rfl⟩) | (apply s_bin (v := .int .i64 (N : Nat)); (case hg => rfl); (case hd => rfl); (case hx => rfl); (case hy => rfl); (case hb => exact hN ▸ bv_add (by omega))) | (apply s_call; (case hg => rfl); (case hd => rfl); (case ha => rfl); (case hc => exact New_con N _ (by omega)); (case hL => (repeat (first | exact pm_nil _ | exact pm_refl _ _ | exact pm_self _ | apply pm_cons | apply pm_app))); rintro S2 LD _ - ⟨rfl, v, hO, rfl⟩; obtain ⟨b, rfl⟩ := hO.form) | refine Jo ?_ | intro _))
  rename_i g
  rw [cellsOf_zero]
  have hA := hA0.le hle1
  refine W.perm ?_ pback
  refine c_loop (fun m S' L F => S' = S2 ∧ ∃ (k : Nat) (D : Dk) (LD : Blocks), m = ys.length - k ∧ k ≤ ys.length ∧ k ≤ 60 ∧ Rdy N k D ∧ OwD (.pointer (some ⟨b, 0, none⟩)) D LD ∧ L = LD ++ [(g, .cells (cellsOf D.vis).toArray 5 (0, 0))] ∧
      F = [(0, .int .i64 N), (1, .slice A ys.length c), (5, .bool true), (6, .pointer (some ⟨b, 0, none⟩)), (8, .slice (some ⟨g, 0, none⟩) N N), (9, .int .i64 k)]) ⟨rfl, 0, newD N, LD, rfl, by omega, by omega, Rdy.new N, hO, rfl, rfl⟩ (by repeat (first | exact Sub.nil rfl | exact Sub.marked rfl | refine Sub.cons rfl ?_)) (List.Sublist.refl _) ?_
  rintro m S' L F ⟨rfl, k, D, LD, rfl, hk, hk60, hr, hO, rfl, rfl⟩
  by_cases hlt : k < ys.length
  rotate_left
  · (repeat (first | refine Jz ?_ | intro _))
    exact o_ret Try.results6 rfl (by repeat (first | exact List.Sublist.refl _ | exact List.Sublist.slnil | exact List.nil_sublist _ | exact List.sublist_append_left _ _ | refine List.Sublist.cons_cons _ ?_ | refine List.Sublist.append (List.Sublist.refl _) ?_ | refine List.Sublist.cons _ ?_ | refine List.Sublist.trans ?_ (List.sublist_append_right _ _))) rfl
  by_cases h60 : k < 60
  rotate_left
  · (repeat (first | refine Jz ?_ | intro _))
    exact o_ret Try.results6 rfl (by repeat (first | exact List.Sublist.refl _ | exact List.Sublist.slnil | exact List.nil_sublist _ | exact List.sublist_append_left _ _ | refine List.Sublist.cons_cons _ ?_ | refine List.Sublist.append (List.Sublist.refl _) ?_ | refine List.Sublist.cons _ ?_ | refine List.Sublist.trans ?_ (List.sublist_append_right _ _))) rfl
  obtain ⟨y, hx⟩ := at_lt hlt
  have hy := hys y (List.mem_of_getElem? hx)
  have hfit := fitS_le y N
  have hr1 := hr.add hfit
  have e1 : (D.vis != D.vis) = false := by simp
  obtain ⟨yo, ysb, ysy⟩ := y
  cases ysy
  · (repeat (first | refine Jc ?_ | (apply s_idx hA; (case hg => rfl); (case hd => rfl); (case hx => rfl); (case hi => rfl); (case hm => rfl); (case hu => exact hx); intro q hq) | (apply s_load_ag; (case hg => rfl); (case hd => rfl); (case hx => rfl); (case hv => exact hq); (case hl => rfl)) | (apply s_call; (case hg => rfl); (case hd => rfl); (case ha => rfl); (case hc => exact fits_con ⟨yo, ysb, false⟩ N _ hy.1 hN4); (case hL => (repeat (first | exact pm_nil _ | exact pm_refl _ _ | exact pm_self _ | apply pm_cons | apply pm_app))); rintro _ _ _ - ⟨rfl, rfl, rfl⟩) | (apply s_call; (case hg => rfl); (case hd => rfl); (case ha => rfl); (case hc => exact put_con g N (fitO ⟨yo, ysb, false⟩ N) D.vis (fitS ⟨yo, ysb, false⟩ N) _ hr.vis hfit hN4); (case hL => (repeat (first | exact pm_nil _ | exact pm_refl _ _ | exact pm_self _ | apply pm_cons | apply pm_app))); rintro _ _ _ - ⟨rfl, rfl⟩) | (apply s_call; (case hg => rfl); (case hd => rfl); (case ha => rfl); (case hc => exact Write_v hO (i64_n (by omega)) (by omega) (by have := hr.pend; omega) (hr.wr hfit) (hr.wrE hfit)); (case hL => (repeat (first | exact pm_nil _ | exact pm_refl _ _ | exact pm_self _ | apply pm_cons | apply pm_app))); rintro _ LD1 _ - ⟨rfl, hO1, rfl⟩) | (apply s_call; (case hg => rfl); (case hd => rfl); (case ha => rfl); (case hc => exact Read_v hO1 (i64_d rfl) (i64_n (by omega)) hr1.read); (case hL => (repeat (first | exact pm_nil _ | exact pm_refl _ _ | exact pm_self _ | apply pm_cons | apply pm_app))); rintro _ LD3 _ - ⟨rfl, hO3, rfl⟩) | (apply s_evb; (case hg => rfl); (case hd => rfl); (case hn => rfl); (case he => ((apply ev_str_own (B := (addW D (fitO ⟨yo, ysb, false⟩ N) (fitS ⟨yo, ysb, false⟩ N)).vis); (case hx => rfl); (case hm => (repeat (first | exact List.Mem.head _ | apply List.Mem.tail | apply List.mem_append_right))); (case hk => (rw [hr1.vis]; omega)))))) | (apply s_evb; (case hg => rfl); (case hd => rfl); (case hn => rfl); (case he => ((apply ev_neq_bv (r := false); (case hx => rfl); (case hy => rfl); (case h => (rw [str_all hr1.vis]; simp)))))) | refine Jo ?_ | intro _))
    exact q_back (L' := LD3 ++ [(g, .cells (cellsOf (lset D.vis (fitO ⟨yo, ysb, false⟩ N) (fitS ⟨yo, ysb, false⟩ N))).toArray 5 (0, 0))]) (m' := ys.length - (k + 1)) ⟨rfl, k + 1, _, LD3, rfl, by omega, by omega, hr1, hO3, rfl, rfl⟩ (by omega) (by repeat (first | exact Sub.nil rfl | exact Sub.marked rfl | refine Sub.cons rfl ?_)) (by repeat (first | exact List.Sublist.refl _ | exact List.Sublist.slnil | exact List.nil_sublist _ | exact List.sublist_append_left _ _ | refine List.Sublist.cons_cons _ ?_ | refine List.Sublist.append (List.Sublist.refl _) ?_ | refine List.Sublist.cons _ ?_ | refine List.Sublist.trans ?_ (List.sublist_append_right _ _)))
  · (repeat (first | refine Jc ?_ | (apply s_idx hA; (case hg => rfl); (case hd => rfl); (case hx => rfl); (case hi => rfl); (case hm => rfl); (case hu => exact hx); intro q hq) | (apply s_load_ag; (case hg => rfl); (case hd => rfl); (case hx => rfl); (case hv => exact hq); (case hl => rfl)) | (apply s_call; (case hg => rfl); (case hd => rfl); (case ha => rfl); (case hc => exact fits_con ⟨yo, ysb, true⟩ N _ hy.1 hN4); (case hL => (repeat (first | exact pm_nil _ | exact pm_refl _ _ | exact pm_self _ | apply pm_cons | apply pm_app))); rintro _ _ _ - ⟨rfl, rfl, rfl⟩) | (apply s_call; (case hg => rfl); (case hd => rfl); (case ha => rfl); (case hc => exact put_con g N (fitO ⟨yo, ysb, true⟩ N) D.vis (fitS ⟨yo, ysb, true⟩ N) _ hr.vis hfit hN4); (case hL => (repeat (first | exact pm_nil _ | exact pm_refl _ _ | exact pm_self _ | apply pm_cons | apply pm_app))); rintro _ _ _ - ⟨rfl, rfl⟩) | (apply s_call; (case hg => rfl); (case hd => rfl); (case ha => rfl); (case hc => exact Write_v hO (i64_n (by omega)) (by omega) (by have := hr.pend; omega) (hr.wr hfit) (hr.wrE hfit)); (case hL => (repeat (first | exact pm_nil _ | exact pm_refl _ _ | exact pm_self _ | apply pm_cons | apply pm_app))); rintro _ LD1 _ - ⟨rfl, hO1, rfl⟩) | (apply s_call; (case hg => rfl); (case hd => rfl); (case ha => rfl); (case hc => exact Sync_v hO1 hr1.sy hr1.syE); (case hL => (repeat (first | exact pm_nil _ | exact pm_refl _ _ | exact pm_self _ | apply pm_cons | apply pm_app))); rintro _ LD2 _ - ⟨rfl, hO2, rfl⟩) | (apply s_call; (case hg => rfl); (case hd => rfl); (case ha => rfl); (case hc => exact Read_v hO2 (i64_d rfl) (i64_n (by omega)) hr1.syd.read); (case hL => (repeat (first | exact pm_nil _ | exact pm_refl _ _ | exact pm_self _ | apply pm_cons | apply pm_app))); rintro _ LD3 _ - ⟨rfl, hO3, rfl⟩) | (apply s_evb; (case hg => rfl); (case hd => rfl); (case hn => rfl); (case he => ((apply ev_str_own (B := (synced (addW D (fitO ⟨yo, ysb, true⟩ N) (fitS ⟨yo, ysb, true⟩ N))).vis); (case hx => rfl); (case hm => (repeat (first | exact List.Mem.head _ | apply List.Mem.tail | apply List.mem_append_right))); (case hk => (rw [hr1.syd.vis]; omega)))))) | (apply s_evb; (case hg => rfl); (case hd => rfl); (case hn => rfl); (case he => ((apply ev_neq_bv (r := false); (case hx => rfl); (case hy => rfl); (case h => (rw [str_all hr1.syd.vis]; simp)))))) | refine Jo ?_ | intro _))
    exact q_back (L' := LD3 ++ [(g, .cells (cellsOf (lset D.vis (fitO ⟨yo, ysb, true⟩ N) (fitS ⟨yo, ysb, true⟩ N))).toArray 5 (0, 0))]) (m' := ys.length - (k + 1)) ⟨rfl, k + 1, _, LD3, rfl, by omega, by omega, hr1.syd, hO3, rfl, rfl⟩ (by omega) (by repeat (first | exact Sub.nil rfl | exact Sub.marked rfl | refine Sub.cons rfl ?_)) (by repeat (first | exact List.Sublist.refl _ | exact List.Sublist.slnil | exact List.nil_sublist _ | exact List.sublist_append_left _ _ | refine List.Sublist.cons_cons _ ?_ | refine List.Sublist.append (List.Sublist.refl _) ?_ | refine List.Sublist.cons _ ?_ | refine List.Sublist.trans ?_ (List.sublist_append_right _ _)))
end Go.Proofs.Ytdbkjegpeoopaaa
namespace Go.Proofs.Ytdbkjegpeoopaaa
open Go Go.X
set_option maxRecDepth 10000
set_option linter.unusedVariables false
attribute [local irreducible] Code.wpIn wpListIn Exit.then Exit.inBlock X.Out X.Back X.W X.Ev X.Con X.BinV X.Wh X.Wn X.Wq
theorem crB_nil (D : Dk) (torn : Int) : crB D [] torn = D.dur := by
  rw [crB_eq]
  have : keepW D.pend [] = [] := by simp [keepW, kept]
  rw [this]; rfl
theorem f7_law (size : Int) (ys : List Wp) (A : Option Addr) (c : Nat) (torn : Int) (S : SH) (h0 : i64 size) (hA0 : At S A ys) (hl : ys.length ≤ c) (hys : ∀ y ∈ ys, i64 y.off ∧ y.s.length ≤ maxLen) (ht : i64 torn) : Con Try.prog 7 #[.int .i64 size, .slice A ys.length c, .int .i64 torn] S [] (fun _ _ v => v = .bool true) := by
  refine con_of (args := [.int .i64 size, .slice A ys.length c, .int .i64 torn]) Try.func7 rfl Try.ntmps7 rfl fun w => ?_
  have hp := pick_lt size 300 (by omega)
  generalize hpp : pick size 300 = p at hp
  obtain ⟨N, hN⟩ : ∃ N : Nat, (1 : Int) + p = N := ⟨(1 + p).toNat, by omega⟩
  have hN4 : N ≤ 4194304 := by omega
  (repeat (first | refine Jc ?_ | (apply s_call; (case hg => rfl); (case hd => rfl); (case ha => rfl); (case hc => exact sane_con _); (case hL => (repeat (first | exact pm_nil _ | exact pm_refl _ _ | exact pm_self _ | apply pm_cons | apply pm_app))); rintro S1 _ _ hle1 ⟨rfl, rfl⟩) | (apply s_call; (case hg => rfl); (case hd => rfl); (case ha => rfl); (case hc => exact pick_v h0 (by omega) hpp); (case hL => (repeat (first | exact pm_nil _ | exact pm_refl _ _ | exact pm_self _ | apply pm_cons | apply pm_app))); rintro _ _ _ - ⟨rfl, rfl, rfl⟩) | (apply s_bin (v := .int .i64 (N : Nat)); (case hg => rfl); (case hd => rfl); (case hx => rfl); (case hy => rfl); (case hb => exact hN ▸ bv_add (by omega))) | (apply s_call; (case hg => rfl); (case hd => rfl); (case ha => rfl); (case hc => exact New_con N _ (by omega)); (case hL => (repeat (first | exact pm_nil _ | exact pm_refl _ _ | exact pm_self _ | apply pm_cons | apply pm_app))); rintro S2 LD _ - ⟨rfl, v, hO, rfl⟩; obtain ⟨b, rfl⟩ := hO.form) | (apply s_evb; (case hg => rfl); (case hd => rfl); (case hn => rfl); (case he => ((apply ev_str_own (B := List.replicate N (0 : UInt8)); (case hx => rfl); (case hm => (rw [cellsOf_zero]; (repeat (first | exact List.Mem.head _ | apply List.Mem.tail | apply List.mem_append_right)))); (case hk => simp))))) | refine Jo ?_ | intro _))
  rename_i g
  rw [cellsOf_zero, str_all (by simp)]
  have hA := hA0.le hle1
  refine W.perm ?_ pback
  refine c_loop (fun m S' L F => S' = S2 ∧ ∃ (k : Nat) (D : Dk) (LD : Blocks), m = ys.length - k ∧ k ≤ ys.length ∧ k ≤ 60 ∧ Rdy N k D ∧ OwD (.pointer (some ⟨b, 0, none⟩)) D LD ∧ L = LD ++ [(g, .cells (cellsOf D.vis).toArray 5 (0, 0))] ∧
      F = [(0, .int .i64 N), (1, .slice A ys.length c), (2, .int .i64 torn), (7, .bool true), (8, .pointer (some ⟨b, 0, none⟩)), (10, .slice (some ⟨g, 0, none⟩) N N), (11, strV D.dur), (12, .int .i64 k)]) ⟨rfl, 0, newD N, LD, rfl, by omega, by omega, Rdy.new N, hO, rfl, rfl⟩ (by repeat (first | exact Sub.nil rfl | exact Sub.marked rfl | refine Sub.cons rfl ?_)) (List.Sublist.refl _) ?_
  rintro m S' L F ⟨rfl, k, D, LD, rfl, hk, hk60, hr, hO, rfl, rfl⟩
  by_cases hend : k < ys.length ∧ k < 60
  rotate_left
  · have hcr : crD D [] torn = ⟨false, 0, D.dur, D.dur, []⟩ := by rw [crD, crB_nil]
    have hrc : Rdy N 0 ⟨false, 0, D.dur, D.dur, []⟩ := ⟨rfl, rfl, hr.dur, hr.dur, Nat.le_refl _⟩
    by_cases hlt : k < ys.length
    all_goals
      (repeat (first | refine Jc ?_ | (apply s_call; (case hg => rfl); (case hd => rfl); (case ha => rfl); (case hc => exact Crash_v hO (keep := []) (At.nil _ _) rfl (by simp) (by simp) ht (by have := hr.pend; omega) hcr); (case hL => (repeat (first | exact pm_nil _ | exact pm_refl _ _ | exact pm_self _ | apply pm_cons | apply pm_app))); rintro S5 LD5 _ hle5 ⟨hO5, rfl⟩) | (apply s_call; (case hg => rfl); (case hd => rfl); (case ha => rfl); (case hc => exact Read_v hO5 (i64_d rfl) (i64_n (by omega)) hrc.read); (case hL => (repeat (first | exact pm_nil _ | exact pm_refl _ _ | exact pm_self _ | apply pm_cons | apply pm_app))); rintro _ LD6 _ - ⟨rfl, hO6, rfl⟩) | (apply s_call; (case hg => rfl); (case hd => rfl); (case ha => rfl); (case hc => exact Pending_v hO6 (n := 0) rfl); (case hL => (repeat (first | exact pm_nil _ | exact pm_refl _ _ | exact pm_self _ | apply pm_cons | apply pm_app))); rintro _ LD7 _ - ⟨rfl, hO7, rfl⟩) | (apply s_evb; (case hg => rfl); (case hd => rfl); (case hn => rfl); (case he => (apply ev_eql_bv (r := true); (case hx => rfl); (case hy => rfl); (case h => first | decide | assumption | (simp; done))))) | (apply s_evb; (case hg => rfl); (case hd => rfl); (case hn => rfl); (case he => (apply ev_eql_bv (r := false); (case hx => rfl); (case hy => rfl); (case h => first | decide | assumption | (simp; done))))) | refine Jo ?_ | intro _))
      exact o_ret Try.results7 rfl (by repeat (first | exact List.Sublist.refl _ | exact List.Sublist.slnil | exact List.nil_sublist _ | exact List.sublist_append_left _ _ | refine List.Sublist.cons_cons _ ?_ | refine List.Sublist.append (List.Sublist.refl _) ?_ | refine List.Sublist.cons _ ?_ | refine List.Sublist.trans ?_ (List.sublist_append_right _ _))) rfl
  obtain ⟨hlt, h60⟩ := hend
  obtain ⟨y, hx⟩ := at_lt hlt
  have hy := hys y (List.mem_of_getElem? hx)
  have hfit := fitS_le y N
  have hr1 := hr.add hfit
  obtain ⟨yo, ysb, ysy⟩ := y
  cases ysy
  · (repeat (first | refine Jc ?_ | (apply s_idx hA; (case hg => rfl); (case hd => rfl); (case hx => rfl); (case hi => rfl); (case hm => rfl); (case hu => exact hx); intro q hq) | (apply s_load_ag; (case hg => rfl); (case hd => rfl); (case hx => rfl); (case hv => exact hq); (case hl => rfl)) | (apply s_call; (case hg => rfl); (case hd => rfl); (case ha => rfl); (case hc => exact fits_con ⟨yo, ysb, false⟩ N _ hy.1 hN4); (case hL => (repeat (first | exact pm_nil _ | exact pm_refl _ _ | exact pm_self _ | apply pm_cons | apply pm_app))); rintro _ _ _ - ⟨rfl, rfl, rfl⟩) | (apply s_call; (case hg => rfl); (case hd => rfl); (case ha => rfl); (case hc => exact put_con g N (fitO ⟨yo, ysb, false⟩ N) D.vis (fitS ⟨yo, ysb, false⟩ N) _ hr.vis hfit hN4); (case hL => (repeat (first | exact pm_nil _ | exact pm_refl _ _ | exact pm_self _ | apply pm_cons | apply pm_app))); rintro _ _ _ - ⟨rfl, rfl⟩) | (apply s_call; (case hg => rfl); (case hd => rfl); (case ha => rfl); (case hc => exact Write_v hO (i64_n (by omega)) (by omega) (by have := hr.pend; omega) (hr.wr hfit) (hr.wrE hfit)); (case hL => (repeat (first | exact pm_nil _ | exact pm_refl _ _ | exact pm_self _ | apply pm_cons | apply pm_app))); rintro _ LD1 _ - ⟨rfl, hO1, rfl⟩) | refine Jo ?_ | intro _))
    exact q_back (L' := LD1 ++ [(g, .cells (cellsOf (lset D.vis (fitO ⟨yo, ysb, false⟩ N) (fitS ⟨yo, ysb, false⟩ N))).toArray 5 (0, 0))]) (m' := ys.length - (k + 1)) ⟨rfl, k + 1, _, LD1, rfl, by omega, by omega, hr1, hO1, rfl, rfl⟩ (by omega) (by repeat (first | exact Sub.nil rfl | exact Sub.marked rfl | refine Sub.cons rfl ?_)) (by repeat (first | exact List.Sublist.refl _ | exact List.Sublist.slnil | exact List.nil_sublist _ | exact List.sublist_append_left _ _ | refine List.Sublist.cons_cons _ ?_ | refine List.Sublist.append (List.Sublist.refl _) ?_ | refine List.Sublist.cons _ ?_ | refine List.Sublist.trans ?_ (List.sublist_append_right _ _)))
  · (repeat (first | refine Jc ?_ | (apply s_idx hA; (case hg => rfl); (case hd => rfl); (case hx => rfl); (case hi => rfl); (case hm => rfl); (case hu => exact hx); intro q hq) | (apply s_load_ag; (case hg => rfl); (case hd => rfl); (case hx => rfl); (case hv => exact hq); (case hl => rfl)) | (apply s_call; (case hg => rfl); (case hd => rfl); (case ha => rfl); (case hc => exact fits_con ⟨yo, ysb, true⟩ N _ hy.1 hN4); (case hL => (repeat (first | exact pm_nil _ | exact pm_refl _ _ | exact pm_self _ | apply pm_cons | apply pm_app))); rintro _ _ _ - ⟨rfl, rfl, rfl⟩) | (apply s_call; (case hg => rfl); (case hd => rfl); (case ha => rfl); (case hc => exact put_con g N (fitO ⟨yo, ysb, true⟩ N) D.vis (fitS ⟨yo, ysb, true⟩ N) _ hr.vis hfit hN4); (case hL => (repeat (first | exact pm_nil _ | exact pm_refl _ _ | exact pm_self _ | apply pm_cons | apply pm_app))); rintro _ _ _ - ⟨rfl, rfl⟩) | (apply s_call; (case hg => rfl); (case hd => rfl); (case ha => rfl); (case hc => exact Write_v hO (i64_n (by omega)) (by omega) (by have := hr.pend; omega) (hr.wr hfit) (hr.wrE hfit)); (case hL => (repeat (first | exact pm_nil _ | exact pm_refl _ _ | exact pm_self _ | apply pm_cons | apply pm_app))); rintro _ LD1 _ - ⟨rfl, hO1, rfl⟩) | (apply s_call; (case hg => rfl); (case hd => rfl); (case ha => rfl); (case hc => exact Sync_v hO1 hr1.sy hr1.syE); (case hL => (repeat (first | exact pm_nil _ | exact pm_refl _ _ | exact pm_self _ | apply pm_cons | apply pm_app))); rintro _ LD2 _ - ⟨rfl, hO2, rfl⟩) | (apply s_evb; (case hg => rfl); (case hd => rfl); (case hn => rfl); (case he => ((apply ev_str_own (B := (synced (addW D (fitO ⟨yo, ysb, true⟩ N) (fitS ⟨yo, ysb, true⟩ N))).vis); (case hx => rfl); (case hm => (repeat (first | exact List.Mem.head _ | apply List.Mem.tail | apply List.mem_append_right))); (case hk => (rw [hr1.syd.vis]; omega)))))) | refine Jo ?_ | intro _))
    rw [str_all hr1.syd.vis]
    exact q_back (L' := LD2 ++ [(g, .cells (cellsOf (lset D.vis (fitO ⟨yo, ysb, true⟩ N) (fitS ⟨yo, ysb, true⟩ N))).toArray 5 (0, 0))]) (m' := ys.length - (k + 1)) ⟨rfl, k + 1, _, LD2, rfl, by omega, by omega, hr1.syd, hO2, rfl, rfl⟩ (by omega) (by repeat (first | exact Sub.nil rfl | exact Sub.marked rfl | refine Sub.cons rfl ?_)) (by repeat (first | exact List.Sublist.refl _ | exact List.Sublist.slnil | exact List.nil_sublist _ | exact List.sublist_append_left _ _ | refine List.Sublist.cons_cons _ ?_ | refine List.Sublist.append (List.Sublist.refl _) ?_ | refine List.Sublist.cons _ ?_ | refine List.Sublist.trans ?_ (List.sublist_append_right _ _)))
end Go.Proofs.Ytdbkjegpeoopaaa
namespace Go.Proofs.Ytdbkjegpeoopaaa
open Go Go.X
set_option maxRecDepth 10000
set_option linter.unusedVariables false
attribute [local irreducible] Code.wpIn wpListIn Exit.then Exit.inBlock X.Out X.Back X.W X.Ev X.Con X.BinV X.Wh X.Wn X.Wq
theorem tearLast_neg (torn : Int) (h : torn < 0) : ∀ ws : List Wr, tearLast torn ws = ws
  | [] => rfl
  | [w] => by simp [tearLast, tear, show ¬ 0 ≤ torn by omega]
  | w :: v :: r => by simp only [tearLast, tearLast_neg torn h (v :: r)]
def upto (m : Nat) : List Int := (List.range m).map fun (i : Nat) => (i : Int)
theorem upto_succ (m : Nat) : upto (m + 1) = upto m ++ [(m : Int)] := by simp [upto, List.range_succ]
theorem upto_len (m : Nat) : (upto m).length = m := by simp [upto]
theorem upto_i64 {m : Nat} (h : m ≤ 1000000) : ∀ x ∈ upto m, i64 x := by
  intro x hx
  simp only [upto, List.mem_map, List.mem_range] at hx
  obtain ⟨i, hi, rfl⟩ := hx
  exact i64_n (by omega)
theorem keepW_all (pend : List Wr) : keepW pend (upto pend.length) = pend := by
  have h1 : kept pend.length (upto pend.length) = List.range pend.length := by
    rw [kept, List.filter_eq_self]
    intro i hi
    simp only [upto, List.mem_map, decide_eq_true_eq]
    exact ⟨i, hi, rfl⟩
  rw [keepW, h1]
  apply List.ext_getElem
  · simp
  · intro i h1 h2
    simp [List.getElem?_eq_getElem h2]
theorem crB_all (D : Dk) (torn : Int) (h : torn < 0) : crB D (upto D.pend.length) torn = applyL D.dur D.pend := by rw [crB_eq, keepW_all, tearLast_neg torn h]
theorem f9_law (size : Int) (ys : List Wp) (A : Option Addr) (c : Nat) (S : SH) (h0 : i64 size) (hA0 : At S A ys) (hl : ys.length ≤ c) (hys : ∀ y ∈ ys, i64 y.off ∧ y.s.length ≤ maxLen) : Con Try.prog 9 #[.int .i64 size, .slice A ys.length c] S [] (fun _ _ v => v = .bool true) := by
  refine con_of (args := [.int .i64 size, .slice A ys.length c]) Try.func9 rfl Try.ntmps9 rfl fun w => ?_
  have hp := pick_lt size 300 (by omega)
  generalize hpp : pick size 300 = p at hp
  obtain ⟨N, hN⟩ : ∃ N : Nat, (1 : Int) + p = N := ⟨(1 + p).toNat, by omega⟩
  have hN4 : N ≤ 4194304 := by omega
  (repeat (first | refine Jc ?_ | (apply s_call; (case hg => rfl); (case hd => rfl); (case ha => rfl); (case hc => exact sane_con _); (case hL => (repeat (first | exact pm_nil _ | exact pm_refl _ _ | exact pm_self _ | apply pm_cons | apply pm_app))); rintro S1 _ _ hle1 ⟨rfl, rfl⟩) | (apply s_call; (case hg => rfl); (case hd => rfl); (case ha => rfl); (case hc => exact pick_v h0 (by omega) hpp); (case hL => (repeat (first | exact pm_nil _ | exact pm_refl _ _ | exact pm_self _ | apply pm_cons | apply pm_app))); rintro _ _ _ - ⟨rfl, rfl, rfl⟩) | (apply s_bin (v := .int .i64 (N : Nat)); (case hg => rfl); (case hd => rfl); (case hx => rfl); (case hy => rfl); (case hb => exact hN ▸ bv_add (by omega))) | (apply s_call; (case hg => rfl); (case hd => rfl); (case ha => rfl); (case hc => exact New_con N _ (by omega)); (case hL => (repeat (first | exact pm_nil _ | exact pm_refl _ _ | exact pm_self _ | apply pm_cons | apply pm_app))); rintro S2 LD _ - ⟨rfl, v, hO, rfl⟩; obtain ⟨b, rfl⟩ := hO.form) | refine Jo ?_ | intro _))
  have hA := hA0.le hle1
  refine c_loop (fun m S' L F => S' = S2 ∧ ∃ (k : Nat) (D : Dk), m = ys.length - k ∧ k ≤ ys.length ∧ k ≤ 60 ∧ Rdy N k D ∧ OwD (.pointer (some ⟨b, 0, none⟩)) D L ∧ D.vis = applyL D.dur D.pend ∧
      F = [(0, .int .i64 N), (1, .slice A ys.length c), (5, .bool true), (6, .pointer (some ⟨b, 0, none⟩)), (8, .int .i64 k)]) ⟨rfl, 0, newD N, rfl, by omega, by omega, Rdy.new N, hO, rfl, rfl⟩ (by repeat (first | exact Sub.nil rfl | exact Sub.marked rfl | refine Sub.cons rfl ?_)) (List.sublist_append_left _ _) ?_
  rintro m S' LD F ⟨rfl, k, D, rfl, hk, hk60, hr, hO, hv, rfl⟩
  by_cases hend : k < ys.length ∧ k < 60
  rotate_left
  · have hcr : crD D (upto D.pend.length) (-1) = ⟨false, 0, D.vis, D.vis, []⟩ := by rw [crD, crB_all D (-1) (by decide), hv]
    have hrc : Rdy N 0 ⟨false, 0, D.vis, D.vis, []⟩ := ⟨rfl, rfl, hr.vis, hr.vis, Nat.le_refl _⟩
    have hcr2 : crD ⟨false, 0, D.vis, D.vis, []⟩ [] 0 = ⟨false, 0, D.vis, D.vis, []⟩ := by rw [crD, crB_nil]
    have hpl := hr.pend
    by_cases hlt : k < ys.length
    all_goals
      (repeat (first | refine Jc ?_ | (apply s_call; (case hg => rfl); (case hd => rfl); (case ha => rfl); (case hc => exact Read_v hO (i64_d rfl) (i64_n (by omega)) hr.read); (case hL => (repeat (first | exact pm_nil _ | exact pm_refl _ _ | exact pm_self _ | apply pm_cons | apply pm_app))); rintro _ LD5 _ - ⟨rfl, hO5, rfl⟩) | refine Jo ?_ | intro _))
      refine c_loop (fun m S3 L F => S3 = _ ∧ ∃ (j : Nat) (LD6 : Blocks) (v : Value) (ob : Blocks), m = D.pend.length - j ∧ j ≤ D.pend.length ∧ OwD (.pointer (some ⟨b, 0, none⟩)) D LD6 ∧ Ows 3 v (upto j) ob ∧ L = LD6 ++ ob ∧
        F = [(0, .int .i64 N), (5, .bool true), (6, .pointer (some ⟨b, 0, none⟩)), (10, strV D.vis), (11, .int .i64 0), (12, v), (13, .int .i64 j)]) ⟨rfl, 0, LD5, _, _, rfl, by omega, hO5, Ows.nil 3, rfl, rfl⟩ (by repeat (first | exact Sub.nil rfl | exact Sub.marked rfl | refine Sub.cons rfl ?_)) (List.Sublist.refl _) ?_
      rintro m S3 L F ⟨rfl, j, LD6, v, ob, rfl, hj, hO6, ho, rfl, rfl⟩
      by_cases hjl : j < D.pend.length
      · have hul := upto_len j
        (repeat (first | refine Jc ?_ | (apply s_call; (case hg => rfl); (case hd => rfl); (case ha => rfl); (case hc => exact Pending_v hO6 rfl); (case hL => (repeat (first | exact pm_nil _ | exact pm_refl _ _ | exact pm_self _ | apply pm_cons | apply pm_app))); rintro _ LD7 _ - ⟨rfl, hO7, rfl⟩) | (apply s_append (ms := [(j : Int)]); (case hg => rfl); (case hd => rfl); (case hx => rfl); (case ho => exact ho); (case hL => (repeat (first | exact pm_nil _ | exact pm_refl _ _ | exact pm_self _ | apply pm_cons | apply pm_app))); (case hy => rfl); (case hm => rfl); (case hs => (apply Src.own; (repeat (first | exact List.Mem.head _ | apply List.Mem.tail | apply List.mem_append_right)))); (case hzs => rfl); (case h0 => decide); (case hb => (simp; omega)); (case h63 => (simp; omega)); intro v' ob' ho') | refine Jo ?_ | intro _))
        refine W.perm ?_ pmy
        exact q_back (L' := LD7 ++ ob') (m' := D.pend.length - (j + 1)) ⟨rfl, j + 1, LD7, v', ob', rfl, by omega, hO7, by rw [upto_succ]; exact ho', rfl, rfl⟩ (by omega) (by repeat (first | exact Sub.nil rfl | exact Sub.marked rfl | refine Sub.cons rfl ?_)) (List.Sublist.append (by simp) (List.sublist_append_left _ _))
      · obtain rfl : j = D.pend.length := by omega
        (repeat (first | refine Jc ?_ | (apply s_call; (case hg => rfl); (case hd => rfl); (case ha => rfl); (case hc => exact Pending_v hO6 rfl); (case hL => (repeat (first | exact pm_nil _ | exact pm_refl _ _ | exact pm_self _ | apply pm_cons | apply pm_app))); rintro _ LD7 _ - ⟨rfl, hO7, rfl⟩) | refine Jo ?_ | intro _))
        refine W.freezeOws (L1 := LD7) ho List.perm_append_comm fun S4 hle4 hsr => ?_
        obtain ⟨A4, c4, rfl, hc4, hA4⟩ := hsr
        (repeat (first | refine Jc ?_ | (apply s_call; (case hg => rfl); (case hd => rfl); (case ha => rfl); (case hc => exact Crash_v hO7 (keep := upto D.pend.length) hA4 rfl (by rw [upto_len]; omega) (upto_i64 (by omega)) (i64_d rfl) (by omega) hcr); (case hL => (repeat (first | exact pm_nil _ | exact pm_refl _ _ | exact pm_self _ | apply pm_cons | apply pm_app))); rintro S5 LD8 _ hle5 ⟨hO8, rfl⟩) | (apply s_call; (case hg => rfl); (case hd => rfl); (case ha => rfl); (case hc => exact Read_v hO8 (i64_d rfl) (i64_n (by omega)) hrc.read); (case hL => (repeat (first | exact pm_nil _ | exact pm_refl _ _ | exact pm_self _ | apply pm_cons | apply pm_app))); rintro _ LD9 _ - ⟨rfl, hO9, rfl⟩) | (apply s_call; (case hg => rfl); (case hd => rfl); (case ha => rfl); (case hc => exact Crash_v hO9 (keep := []) (At.nil _ _) rfl (by simp) (by simp) (i64_d rfl) (by simp) hcr2); (case hL => (repeat (first | exact pm_nil _ | exact pm_refl _ _ | exact pm_self _ | apply pm_cons | apply pm_app))); rintro S6 LD10 _ hle6 ⟨hO10, rfl⟩) | (apply s_call; (case hg => rfl); (case hd => rfl); (case ha => rfl); (case hc => exact Read_v hO10 (i64_d rfl) (i64_n (by omega)) hrc.read); (case hL => (repeat (first | exact pm_nil _ | exact pm_refl _ _ | exact pm_self _ | apply pm_cons | apply pm_app))); rintro _ LD11 _ - ⟨rfl, hO11, rfl⟩) | (apply s_evb; (case hg => rfl); (case hd => rfl); (case hn => rfl); (case he => (apply ev_eql_bv (r := true); (case hx => rfl); (case hy => rfl); (case h => first | decide | assumption | (simp; done))))) | (apply s_evb; (case hg => rfl); (case hd => rfl); (case hn => rfl); (case he => (apply ev_eql_bv (r := false); (case hx => rfl); (case hy => rfl); (case h => first | decide | assumption | (simp; done))))) | refine Jo ?_ | intro _))
        exact o_ret Try.results9 rfl (by repeat (first | exact List.Sublist.refl _ | exact List.Sublist.slnil | exact List.nil_sublist _ | exact List.sublist_append_left _ _ | refine List.Sublist.cons_cons _ ?_ | refine List.Sublist.append (List.Sublist.refl _) ?_ | refine List.Sublist.cons _ ?_ | refine List.Sublist.trans ?_ (List.sublist_append_right _ _))) rfl
  obtain ⟨hlt, h60⟩ := hend
  obtain ⟨y, hx⟩ := at_lt hlt
  have hy := hys y (List.mem_of_getElem? hx)
  have hfit := fitS_le y N
  have hr1 := hr.add hfit
  obtain ⟨yo, ysb, ysy⟩ := y
  cases ysy
  · (repeat (first | refine Jc ?_ | (apply s_idx hA; (case hg => rfl); (case hd => rfl); (case hx => rfl); (case hi => rfl); (case hm => rfl); (case hu => exact hx); intro q hq) | (apply s_load_ag; (case hg => rfl); (case hd => rfl); (case hx => rfl); (case hv => exact hq); (case hl => rfl)) | (apply s_call; (case hg => rfl); (case hd => rfl); (case ha => rfl); (case hc => exact fits_con ⟨yo, ysb, false⟩ N _ hy.1 hN4); (case hL => (repeat (first | exact pm_nil _ | exact pm_refl _ _ | exact pm_self _ | apply pm_cons | apply pm_app))); rintro _ _ _ - ⟨rfl, rfl, rfl⟩) | (apply s_call; (case hg => rfl); (case hd => rfl); (case ha => rfl); (case hc => exact Write_v hO (i64_n (by omega)) (by omega) (by have := hr.pend; omega) (hr.wr hfit) (hr.wrE hfit)); (case hL => (repeat (first | exact pm_nil _ | exact pm_refl _ _ | exact pm_self _ | apply pm_cons | apply pm_app))); rintro _ LD1 _ - ⟨rfl, hO1, rfl⟩) | refine Jo ?_ | intro _))
    exact q_back (L' := LD1) (m' := ys.length - (k + 1)) ⟨rfl, k + 1, _, rfl, by omega, by omega, hr1, hO1, by simp only [addW, applyL_snoc]; rw [hv], rfl⟩ (by omega) (by repeat (first | exact Sub.nil rfl | exact Sub.marked rfl | refine Sub.cons rfl ?_)) (List.sublist_append_left _ _)
  · (repeat (first | refine Jc ?_ | (apply s_idx hA; (case hg => rfl); (case hd => rfl); (case hx => rfl); (case hi => rfl); (case hm => rfl); (case hu => exact hx); intro q hq) | (apply s_load_ag; (case hg => rfl); (case hd => rfl); (case hx => rfl); (case hv => exact hq); (case hl => rfl)) | (apply s_call; (case hg => rfl); (case hd => rfl); (case ha => rfl); (case hc => exact fits_con ⟨yo, ysb, true⟩ N _ hy.1 hN4); (case hL => (repeat (first | exact pm_nil _ | exact pm_refl _ _ | exact pm_self _ | apply pm_cons | apply pm_app))); rintro _ _ _ - ⟨rfl, rfl, rfl⟩) | (apply s_call; (case hg => rfl); (case hd => rfl); (case ha => rfl); (case hc => exact Write_v hO (i64_n (by omega)) (by omega) (by have := hr.pend; omega) (hr.wr hfit) (hr.wrE hfit)); (case hL => (repeat (first | exact pm_nil _ | exact pm_refl _ _ | exact pm_self _ | apply pm_cons | apply pm_app))); rintro _ LD1 _ - ⟨rfl, hO1, rfl⟩) | (apply s_call; (case hg => rfl); (case hd => rfl); (case ha => rfl); (case hc => exact Sync_v hO1 hr1.sy hr1.syE); (case hL => (repeat (first | exact pm_nil _ | exact pm_refl _ _ | exact pm_self _ | apply pm_cons | apply pm_app))); rintro _ LD2 _ - ⟨rfl, hO2, rfl⟩) | refine Jo ?_ | intro _))
    exact q_back (L' := LD2) (m' := ys.length - (k + 1)) ⟨rfl, k + 1, _, rfl, by omega, by omega, hr1.syd, hO2, rfl, rfl⟩ (by omega) (by repeat (first | exact Sub.nil rfl | exact Sub.marked rfl | refine Sub.cons rfl ?_)) (List.sublist_append_left _ _)
end Go.Proofs.Ytdbkjegpeoopaaa
namespace Go.Proofs.Ytdbkjegpeoopaaa
open Go Go.X
set_option maxRecDepth 10000
set_option linter.unusedVariables false
attribute [local irreducible] Code.wpIn wpListIn Exit.then Exit.inBlock X.Out X.Back X.W X.Ev X.Con X.BinV X.Wh X.Wn X.Wq
/-- A disk that loses power after n writes, after k calls of Write. -/
structure Cd (N n k : Nat) (D : Dk) : Prop where
  off : D.off = decide (n ≤ k)
  left : D.left = ((n - k : Nat) : Int)
  dur : D.dur.length = N
  vis : D.vis.length = N
  pend : D.pend.length = min k n
  app : D.vis = applyL D.dur D.pend
def cdW (n k : Nat) (D : Dk) (o : Nat) (s : Bs) : Dk := ⟨decide (n ≤ k + 1), ((n - (k + 1) : Nat) : Int), D.dur, lset D.vis o s, D.pend ++ [⟨o, s⟩]⟩
theorem Cd.wr {N n k : Nat} {D : Dk} (h : Cd N n k D) {o : Nat} {s : Bs} (ho : o + s.length ≤ N) (hk : k < n) : wrD D o s = cdW n k D o s := by
  have h1 : D.off = false := by rw [h.off]; simp; omega
  have h2 : ¬ ((n - k : Nat) : Int) = 0 := by omega
  simp only [wrD, okW, h1, h.dur, inside_t ho, h.left, usedP, if_neg h2, cdW]
  simp
  omega
theorem Cd.wrE {N n k : Nat} {D : Dk} (h : Cd N n k D) {o : Nat} {s : Bs} (ho : o + s.length ≤ N) (hk : k < n) : wrE D o s = 0 := by
  have h1 : D.off = false := by rw [h.off]; simp; omega
  simp [Go.Proofs.Ytdbkjegpeoopaaa.wrE, h1, h.dur, inside_t ho]
theorem Cd.add {N n k : Nat} {D : Dk} (h : Cd N n k D) {o : Nat} {s : Bs} (ho : o + s.length ≤ N) (hk : k < n) : Cd N n (k + 1) (cdW n k D o s) :=
  ⟨rfl, rfl, h.dur, by have := h.vis; simp only [cdW]; rw [lset_len (by omega), h.vis], by have := h.pend; simp [cdW]; omega, by simp only [cdW, applyL_snoc]; rw [← h.app]⟩
theorem Cd.no {N n k : Nat} {D : Dk} (h : Cd N n k D) (hk : n ≤ k) : D.off = true := by rw [h.off]; simpa using hk
theorem Cd.stay {N n k : Nat} {D : Dk} (h : Cd N n k D) (hk : n ≤ k) : Cd N n (k + 1) D :=
  ⟨by rw [h.no hk]; simp; omega, by rw [h.left]; omega, h.dur, h.vis, by rw [h.pend]; omega, h.app⟩
theorem f10_law (size n : Int) (ys : List Wp) (A : Option Addr) (c : Nat) (S : SH) (h0 : i64 size) (hn0 : i64 n) (hA0 : At S A ys) (hl : ys.length ≤ c) (hys : ∀ y ∈ ys, i64 y.off ∧ y.s.length ≤ maxLen) : Con Try.prog 10 #[.int .i64 size, .int .i64 n, .slice A ys.length c] S [] (fun _ _ v => v = .bool true) := by
  refine con_of (args := [.int .i64 size, .int .i64 n, .slice A ys.length c]) Try.func10 rfl Try.ntmps10 rfl fun w => ?_
  have hp := pick_lt size 100 (by omega)
  generalize hpp : pick size 100 = p at hp
  have hq := pick_lt n 20 (by omega)
  obtain ⟨nn, hnn⟩ : ∃ nn : Nat, pick n 20 = nn := ⟨(pick n 20).toNat, by omega⟩
  obtain ⟨N, hN⟩ : ∃ N : Nat, (1 : Int) + p = N := ⟨(1 + p).toNat, by omega⟩
  have hN4 : N ≤ 4194304 := by omega
  have hN1 : 1 ≤ N := by omega
  have hn20 : nn < 20 := by omega
  have c1 : cutD (newD N) (nn + 5) = ⟨false, nn + 5, (newD N).dur, (newD N).vis, []⟩ := by
    have e1 : ¬ ((newD N).off = true ∨ (nn : Int) + 5 < 0) := by simp [newD]; omega
    have e2 : ¬ ((nn : Int) + 5 = 0) := by omega
    rw [cutD, if_neg e1]; simp [newD, e2]
  have c2 : cutE (newD N) (nn + 5) = 0 := by
    have e2 : ¬ ((nn : Int) + 5 < 0) := by omega
    simp [cutE, newD, e2]
  have c3 : cutD ⟨false, (nn : Int) + 5, (newD N).dur, (newD N).vis, []⟩ nn = ⟨decide (nn ≤ 0), ((nn - 0 : Nat) : Int), (newD N).dur, (newD N).vis, []⟩ := by
    have e1 : ¬ ((nn : Int) < 0) := by omega
    simp [cutD, e1]
  have c4 : cutE ⟨false, (nn : Int) + 5, (newD N).dur, (newD N).vis, []⟩ nn = 0 := by
    have e1 : ¬ ((nn : Int) < 0) := by omega
    simp [cutE, e1]
  (repeat (first | refine Jc ?_ | (apply s_call; (case hg => rfl); (case hd => rfl); (case ha => rfl); (case hc => exact sane_con _); (case hL => (repeat (first | exact pm_nil _ | exact pm_refl _ _ | exact pm_self _ | apply pm_cons | apply pm_app))); rintro S1 _ _ hle1 ⟨rfl, rfl⟩) | (apply s_call; (case hg => rfl); (case hd => rfl); (case ha => rfl); (case hc => exact pick_v h0 (by omega) hpp); (case hL => (repeat (first | exact pm_nil _ | exact pm_refl _ _ | exact pm_self _ | apply pm_cons | apply pm_app))); rintro _ _ _ - ⟨rfl, rfl, rfl⟩) | (apply s_call; (case hg => rfl); (case hd => rfl); (case ha => rfl); (case hc => exact pick_v hn0 (by omega) hnn); (case hL => (repeat (first | exact pm_nil _ | exact pm_refl _ _ | exact pm_self _ | apply pm_cons | apply pm_app))); rintro _ _ _ - ⟨rfl, rfl, rfl⟩) | (apply s_bin (v := .int .i64 (N : Nat)); (case hg => rfl); (case hd => rfl); (case hx => rfl); (case hy => rfl); (case hb => exact hN ▸ bv_add (by omega))) | (apply s_call; (case hg => rfl); (case hd => rfl); (case ha => rfl); (case hc => exact New_con N _ (by omega)); (case hL => (repeat (first | exact pm_nil _ | exact pm_refl _ _ | exact pm_self _ | apply pm_cons | apply pm_app))); rintro S2 LD _ - ⟨rfl, v, hO, rfl⟩; obtain ⟨b, rfl⟩ := hO.form) | (apply s_call; (case hg => rfl); (case hd => rfl); (case ha => rfl); (case hc => exact Cut_v hO ⟨by omega, by omega⟩ c1 c2); (case hL => (repeat (first | exact pm_nil _ | exact pm_refl _ _ | exact pm_self _ | apply pm_cons | apply pm_app))); rintro _ LD1 _ - ⟨rfl, hO1, rfl⟩) | (apply s_call; (case hg => rfl); (case hd => rfl); (case ha => rfl); (case hc => exact Cut_v hO1 ⟨by omega, by omega⟩ c3 c4); (case hL => (repeat (first | exact pm_nil _ | exact pm_refl _ _ | exact pm_self _ | apply pm_cons | apply pm_app))); rintro _ LD2 _ - ⟨rfl, hO2, rfl⟩) | refine Jo ?_ | intro _))
  rename_i g
  rw [cellsOf_zero]
  have hA := hA0.le hle1
  have hcd : Cd N nn 0 ⟨decide (nn ≤ 0), ((nn - 0 : Nat) : Int), (newD N).dur, (newD N).vis, []⟩ := ⟨rfl, rfl, by simp [newD], by simp [newD], by simp, rfl⟩
  refine c_loop (fun m S' L F => S' = _ ∧ ∃ (k : Nat) (D : Dk) (LD : Blocks) (v : Value) (ob : Blocks), m = ys.length - k ∧ k ≤ ys.length ∧ k ≤ 40 ∧ Cd N nn k D ∧ OwD (.pointer (some ⟨b, 0, none⟩)) D LD ∧ Ows 3 v (upto (min k nn)) ob ∧ L = ob ++ ((g, .cells (cellsOf D.vis).toArray 5 (0, 0)) :: LD) ∧
      F = [(0, .int .i64 N), (1, .int .i64 nn), (2, .slice A ys.length c), (7, .bool true), (8, .pointer (some ⟨b, 0, none⟩)), (10, .slice (some ⟨g, 0, none⟩) N N), (11, v), (12, .int .i64 k)]) ⟨rfl, 0, _, LD2, _, _, rfl, by omega, by omega, hcd, hO2, Ows.nil 3, rfl, rfl⟩ (by repeat (first | exact Sub.nil rfl | exact Sub.marked rfl | refine Sub.cons rfl ?_)) (by repeat (first | exact List.Sublist.refl _ | exact List.Sublist.slnil | exact List.nil_sublist _ | exact List.sublist_append_left _ _ | refine List.Sublist.cons_cons _ ?_ | refine List.Sublist.append (List.Sublist.refl _) ?_ | refine List.Sublist.cons _ ?_ | refine List.Sublist.trans ?_ (List.sublist_append_right _ _))) ?_
  rintro m S' L F ⟨rfl, k, D, LD, v, ob, rfl, hk, hk40, hr, hO, ho, rfl, rfl⟩
  have hul := upto_len (min k nn)
  obtain ⟨A3, c3', rfl⟩ := ho.form
  by_cases hend : k < ys.length ∧ k < 40
  rotate_left
  · by_cases hkn : k < nn
    · have h1 : D.off = false := by rw [hr.off]; simp; omega
      have hmin : ((min k nn : Nat) : Int) = k := by omega
      have hlt : ¬ k < ys.length := by omega
      · (repeat (first | refine Jc ?_ | (apply s_call; (case hg => rfl); (case hd => rfl); (case ha => rfl); (case hc => exact Sync_v hO (D' := syncD D) (e := 0) rfl (by simp [h1])); (case hL => (repeat (first | exact pm_nil _ | exact pm_refl _ _ | exact pm_self _ | apply pm_cons | apply pm_app))); rintro _ LD1 _ - ⟨rfl, hO1, rfl⟩) | refine Jo ?_ | intro _))
        exact o_ret Try.results10 rfl (by repeat (first | exact List.Sublist.refl _ | exact List.Sublist.slnil | exact List.nil_sublist _ | exact List.sublist_append_left _ _ | refine List.Sublist.cons_cons _ ?_ | refine List.Sublist.append (List.Sublist.refl _) ?_ | refine List.Sublist.cons _ ?_ | refine List.Sublist.trans ?_ (List.sublist_append_right _ _))) rfl
    · have h1 := hr.no (by omega)
      have hmin : min k nn = nn := by omega
      have hpn : D.pend.length = nn := by rw [hr.pend]; omega
      rw [show min k nn = D.pend.length by omega] at ho hul ⊢
      have r0 : readV D 0 0 = .tuple #[strV [], .int .i64 321] := by simp [readV, h1]
      have s0 : syncD D = D := by simp [syncD, h1]
      have u0 : cutD D 3 = D := by simp [cutD, h1]
      have hcr : crD D (upto D.pend.length) (-1) = ⟨false, 0, D.vis, D.vis, []⟩ := by rw [crD, crB_all D (-1) (by decide), hr.app]
      have hrc : Rdy N 0 ⟨false, 0, D.vis, D.vis, []⟩ := ⟨rfl, rfl, hr.vis, hr.vis, Nat.le_refl _⟩
      have hfx : 0 + ([120] : Bs).length ≤ N := by simp; omega
      have hrx := hrc.add hfx
      by_cases hlt : k < ys.length
      all_goals
        (repeat (first | refine Jc ?_ | (apply s_call; (case hg => rfl); (case hd => rfl); (case ha => rfl); (case hc => exact Read_v hO (i64_d rfl) (i64_d rfl) r0); (case hL => (repeat (first | exact pm_nil _ | exact pm_refl _ _ | exact pm_self _ | apply pm_cons | apply pm_app))); rintro _ LD1 _ - ⟨rfl, hO1, rfl⟩) | (apply s_call; (case hg => rfl); (case hd => rfl); (case ha => rfl); (case hc => exact Sync_v hO1 (e := 321) s0 (by simp [h1])); (case hL => (repeat (first | exact pm_nil _ | exact pm_refl _ _ | exact pm_self _ | apply pm_cons | apply pm_app))); rintro _ LD2 _ - ⟨rfl, hO2, rfl⟩) | (apply s_call; (case hg => rfl); (case hd => rfl); (case ha => rfl); (case hc => exact Cut_v hO2 (i64_d rfl) (e := 321) u0 (by simp [cutE, h1])); (case hL => (repeat (first | exact pm_nil _ | exact pm_refl _ _ | exact pm_self _ | apply pm_cons | apply pm_app))); rintro _ LD3 _ - ⟨rfl, hO3, rfl⟩) | (apply s_call; (case hg => rfl); (case hd => rfl); (case ha => rfl); (case hc => exact Pending_v hO3 (n := nn) (by omega)); (case hL => (repeat (first | exact pm_nil _ | exact pm_refl _ _ | exact pm_self _ | apply pm_cons | apply pm_app))); rintro _ LD4 _ - ⟨rfl, hO4, rfl⟩) | (apply s_call; (case hg => rfl); (case hd => rfl); (case ha => rfl); (case hc => exact Size_v hO4 (n := N) (by rw [hr.dur])); (case hL => (repeat (first | exact pm_nil _ | exact pm_refl _ _ | exact pm_self _ | apply pm_cons | apply pm_app))); rintro _ LD5 _ - ⟨rfl, hO5, rfl⟩) | refine Jo ?_ | intro _))
        refine W.freezeOws (L1 := LD5 ++ [(g, .cells (cellsOf D.vis).toArray 5 (0, 0))]) ho (pm_app (pm_refl _ _)) fun S4 hle4 hsr => ?_
        obtain ⟨A4, c4, e4, hc4, hA4⟩ := hsr
        cases e4
        (repeat (first | refine Jc ?_ | (apply s_call; (case hg => rfl); (case hd => rfl); (case ha => rfl); (case hc => exact Crash_v hO5 (keep := upto D.pend.length) hA4 rfl (by rw [upto_len]; omega) (upto_i64 (by omega)) (i64_d rfl) (by omega) hcr); (case hL => (repeat (first | exact pm_nil _ | exact pm_refl _ _ | exact pm_self _ | apply pm_cons | apply pm_app))); rintro S5 LD8 _ hle5 ⟨hO8, rfl⟩) | (apply s_call; (case hg => rfl); (case hd => rfl); (case ha => rfl); (case hc => exact Read_v hO8 (i64_d rfl) (i64_n (by omega)) hrc.read); (case hL => (repeat (first | exact pm_nil _ | exact pm_refl _ _ | exact pm_self _ | apply pm_cons | apply pm_app))); rintro _ LD9 _ - ⟨rfl, hO9, rfl⟩) | (apply s_evb; (case hg => rfl); (case hd => rfl); (case hn => rfl); (case he => ((apply ev_str_own (B := D.vis); (case hx => rfl); (case hm => (repeat (first | exact List.Mem.head _ | apply List.Mem.tail | apply List.mem_append_right))); (case hk => (rw [hr.vis]; omega)))))) | (apply s_evb; (case hg => rfl); (case hd => rfl); (case hn => rfl); (case he => ((apply ev_eql_bv (r := true); (case hx => rfl); (case hy => rfl); (case h => (rw [str_all hr.vis]; simp)))))) | (apply s_call; (case hg => rfl); (case hd => rfl); (case ha => rfl); (case hc => exact Write_v hO9 (off := 0) (s := [120]) (i64_d rfl) (by simp) (by simp) (hrc.wr hfx) (hrc.wrE hfx)); (case hL => (repeat (first | exact pm_nil _ | exact pm_refl _ _ | exact pm_self _ | apply pm_cons | apply pm_app))); rintro _ LD10 _ - ⟨rfl, hO10, rfl⟩) | (apply s_call; (case hg => rfl); (case hd => rfl); (case ha => rfl); (case hc => exact Sync_v hO10 hrx.sy hrx.syE); (case hL => (repeat (first | exact pm_nil _ | exact pm_refl _ _ | exact pm_self _ | apply pm_cons | apply pm_app))); rintro _ LD11 _ - ⟨rfl, hO11, rfl⟩) | refine Jo ?_ | intro _))
        exact o_ret Try.results10 rfl (by repeat (first | exact List.Sublist.refl _ | exact List.Sublist.slnil | exact List.nil_sublist _ | exact List.sublist_append_left _ _ | refine List.Sublist.cons_cons _ ?_ | refine List.Sublist.append (List.Sublist.refl _) ?_ | refine List.Sublist.cons _ ?_ | refine List.Sublist.trans ?_ (List.sublist_append_right _ _))) rfl
  obtain ⟨hlt, h40⟩ := hend
  obtain ⟨y, hx⟩ := at_lt hlt
  have hy := hys y (List.mem_of_getElem? hx)
  have hfit := fitS_le y N
  obtain ⟨yo, ysb, ysy⟩ := y
  by_cases hkn : k < nn
  · have hm1 : min k nn = k := by omega
    have hm2 : min (k + 1) nn = k + 1 := by omega
    rw [hm1] at ho hul ⊢
    (repeat (first | refine Jc ?_ | (apply s_idx hA; (case hg => rfl); (case hd => rfl); (case hx => rfl); (case hi => rfl); (case hm => rfl); (case hu => exact hx); intro q hq) | (apply s_load_ag; (case hg => rfl); (case hd => rfl); (case hx => rfl); (case hv => exact hq); (case hl => rfl)) | (apply s_call; (case hg => rfl); (case hd => rfl); (case ha => rfl); (case hc => exact fits_con ⟨yo, ysb, ysy⟩ N _ hy.1 hN4); (case hL => (repeat (first | exact pm_nil _ | exact pm_refl _ _ | exact pm_self _ | apply pm_cons | apply pm_app))); rintro _ _ _ - ⟨rfl, rfl, rfl⟩) | (apply s_call; (case hg => rfl); (case hd => rfl); (case ha => rfl); (case hc => exact Write_v hO (i64_n (by omega)) (by omega) (by have := hr.pend; omega) (hr.wr hfit hkn) (hr.wrE hfit hkn)); (case hL => (repeat (first | exact pm_nil _ | exact pm_refl _ _ | exact pm_self _ | apply pm_cons | apply pm_app))); rintro _ LD1 _ - ⟨rfl, hO1, rfl⟩) | (apply s_call; (case hg => rfl); (case hd => rfl); (case ha => rfl); (case hc => exact put_con g N (fitO ⟨yo, ysb, ysy⟩ N) D.vis (fitS ⟨yo, ysb, ysy⟩ N) _ hr.vis hfit hN4); (case hL => (repeat (first | exact pm_nil _ | exact pm_refl _ _ | exact pm_self _ | apply pm_cons | apply pm_app))); rintro _ _ _ - ⟨rfl, rfl⟩) | (apply s_append (ms := [(k : Int)]); (case hg => rfl); (case hd => rfl); (case hx => rfl); (case ho => exact ho); (case hL => (repeat (first | exact pm_nil _ | exact pm_refl _ _ | exact pm_self _ | apply pm_cons | apply pm_app))); (case hy => rfl); (case hm => rfl); (case hs => (apply Src.own; (repeat (first | exact List.Mem.head _ | apply List.Mem.tail | apply List.mem_append_right)))); (case hzs => rfl); (case h0 => decide); (case hb => (simp; omega)); (case h63 => (simp; omega)); intro v' ob' ho') | refine Jo ?_ | intro _))
    rw [← upto_succ, ← hm2] at ho'
    exact q_back (L' := ob' ++ ((g, .cells (cellsOf (lset D.vis (fitO ⟨yo, ysb, ysy⟩ N) (fitS ⟨yo, ysb, ysy⟩ N))).toArray 5 (0, 0)) :: LD1)) (m' := ys.length - (k + 1)) ⟨rfl, k + 1, _, LD1, v', ob', rfl, by omega, by omega, hr.add hfit hkn, hO1, ho', rfl, rfl⟩ (by omega) (by repeat (first | exact Sub.nil rfl | exact Sub.marked rfl | refine Sub.cons rfl ?_)) (by repeat (first | exact List.Sublist.refl _ | exact List.Sublist.slnil | exact List.nil_sublist _ | exact List.sublist_append_left _ _ | refine List.Sublist.cons_cons _ ?_ | refine List.Sublist.append (List.Sublist.refl _) ?_ | refine List.Sublist.cons _ ?_ | refine List.Sublist.trans ?_ (List.sublist_append_right _ _)))
  · have h1 := hr.no (by omega)
    have hm1 : min k nn = nn := by omega
    have hm2 : min (k + 1) nn = nn := by omega
    rw [show min k nn = min (k + 1) nn by omega] at ho hul ⊢
    have w0 : wrD D (fitO ⟨yo, ysb, ysy⟩ N) (fitS ⟨yo, ysb, ysy⟩ N) = D := by simp [wrD, okW, h1]
    (repeat (first | refine Jc ?_ | (apply s_idx hA; (case hg => rfl); (case hd => rfl); (case hx => rfl); (case hi => rfl); (case hm => rfl); (case hu => exact hx); intro q hq) | (apply s_load_ag; (case hg => rfl); (case hd => rfl); (case hx => rfl); (case hv => exact hq); (case hl => rfl)) | (apply s_call; (case hg => rfl); (case hd => rfl); (case ha => rfl); (case hc => exact fits_con ⟨yo, ysb, ysy⟩ N _ hy.1 hN4); (case hL => (repeat (first | exact pm_nil _ | exact pm_refl _ _ | exact pm_self _ | apply pm_cons | apply pm_app))); rintro _ _ _ - ⟨rfl, rfl, rfl⟩) | (apply s_call; (case hg => rfl); (case hd => rfl); (case ha => rfl); (case hc => exact Write_v hO (i64_n (by omega)) (by omega) (by have := hr.pend; omega) w0 (e := 321) (by simp [wrE, h1])); (case hL => (repeat (first | exact pm_nil _ | exact pm_refl _ _ | exact pm_self _ | apply pm_cons | apply pm_app))); rintro _ LD1 _ - ⟨rfl, hO1, rfl⟩) | refine Jo ?_ | intro _))
    refine W.perm ?_ pmy
    refine q_back (L' := ob ++ ((g, .cells (cellsOf D.vis).toArray 5 (0, 0)) :: LD1)) (m' := ys.length - (k + 1)) ⟨rfl, k + 1, D, LD1, _, ob, rfl, by omega, by omega, hr.stay (by omega), hO1, ho, rfl, rfl⟩ (by omega) (by repeat (first | exact Sub.nil rfl | exact Sub.marked rfl | refine Sub.cons rfl ?_)) ?_
    simp
end Go.Proofs.Ytdbkjegpeoopaaa
namespace Go.Proofs.Ytdbkjegpeoopaaa
open Go Go.X
set_option maxRecDepth 10000
set_option linter.unusedVariables false
attribute [local irreducible] Code.wpIn wpListIn Exit.then Exit.inBlock X.Out X.Back X.W X.Ev X.Con X.BinV X.Wh X.Wn X.Wq
def crashed (D : Dk) : Dk := ⟨false, 0, D.dur, D.dur, []⟩
theorem crashed_eq (D : Dk) (t : Int) : crD D [] t = crashed D := by rw [crD, crB_nil]; rfl
theorem Rdy.cr {N k : Nat} {D : Dk} (h : Rdy N k D) : Rdy N k (crashed D) := ⟨rfl, rfl, h.dur, h.dur, Nat.zero_le _⟩
theorem pm_od {X Y Z : Blocks} {b : Nat × Obj} : (X ++ b :: (Y ++ Z)).Perm (b :: (Y ++ (X ++ Z))) := by
  refine List.perm_middle.trans (List.Perm.cons b ?_)
  have := (List.perm_append_comm (l₁ := X) (l₂ := Y)).append_right Z
  simpa using this
theorem pm_ev {X Y Z : Blocks} {b : Nat × Obj} : (X ++ (Y ++ b :: (Z ++ []))).Perm (b :: (X ++ (Z ++ Y))) := by
  have h1 : (X ++ (Y ++ b :: Z)).Perm (X ++ (b :: Z ++ Y)) := List.perm_append_comm.append_left X
  have h2 : (X ++ (b :: Z ++ Y)).Perm (b :: (X ++ (Z ++ Y))) := List.perm_middle
  simpa using h1.trans h2
theorem f11_law (size : Int) (ys : List Wp) (A : Option Addr) (c : Nat) (S : SH) (h0 : i64 size) (hA0 : At S A ys) (hl : ys.length ≤ c) (hys : ∀ y ∈ ys, i64 y.off ∧ y.s.length ≤ maxLen) : Con Try.prog 11 #[.int .i64 size, .slice A ys.length c] S [] (fun _ _ v => v = .bool true) := by
  refine con_of (args := [.int .i64 size, .slice A ys.length c]) Try.func11 rfl Try.ntmps11 rfl fun w => ?_
  have hp := pick_lt size 100 (by omega)
  generalize hpp : pick size 100 = p at hp
  obtain ⟨N, hN⟩ : ∃ N : Nat, (1 : Int) + p = N := ⟨(1 + p).toNat, by omega⟩
  have hN4 : N ≤ 4194304 := by omega
  (repeat (first | refine Jc ?_ | (apply s_call; (case hg => rfl); (case hd => rfl); (case ha => rfl); (case hc => exact sane_con _); (case hL => (repeat (first | exact pm_nil _ | exact pm_refl _ _ | exact pm_self _ | apply pm_cons | apply pm_app))); rintro S1 _ _ hle1 ⟨rfl, rfl⟩) | (apply s_call; (case hg => rfl); (case hd => rfl); (case ha => rfl); (case hc => exact pick_v h0 (by omega) hpp); (case hL => (repeat (first | exact pm_nil _ | exact pm_refl _ _ | exact pm_self _ | apply pm_cons | apply pm_app))); rintro _ _ _ - ⟨rfl, rfl, rfl⟩) | (apply s_bin (v := .int .i64 (N : Nat)); (case hg => rfl); (case hd => rfl); (case hx => rfl); (case hy => rfl); (case hb => exact hN ▸ bv_add (by omega))) | (apply s_call; (case hg => rfl); (case hd => rfl); (case ha => rfl); (case hc => exact New_con N _ (by omega)); (case hL => (repeat (first | exact pm_nil _ | exact pm_refl _ _ | exact pm_self _ | apply pm_cons | apply pm_app))); rintro S2 LD _ - ⟨rfl, v, hO, rfl⟩; obtain ⟨b, rfl⟩ := hO.form) | refine Jo ?_ | intro _))
  rename_i Lc bc hOc Ld bd hOd
  have hA := hA0.le hle1
  refine c_loop (fun m S' L F => Le S2 S' ∧ ∃ (k : Nat) (C D : Dk) (La Ld Lc : Blocks), m = ys.length - k ∧ k ≤ ys.length ∧ k ≤ 30 ∧ Rdy N k C ∧ Rdy N k D ∧ OwD (.pointer (some ⟨bc, 0, none⟩)) C Lc ∧ OwD (.pointer (some ⟨bd, 0, none⟩)) D Ld ∧ OwD (.pointer (some ⟨b, 0, none⟩)) C La ∧ L = La ++ (Ld ++ Lc) ∧
      F = [(0, .int .i64 N), (1, .slice A ys.length c), (5, .bool true), (6, .pointer (some ⟨bc, 0, none⟩)), (8, .pointer (some ⟨bd, 0, none⟩)), (10, .pointer (some ⟨b, 0, none⟩)), (12, .int .i64 k)]) ⟨Le.refl _, 0, newD N, newD N, LD, Ld, Lc, rfl, by omega, by omega, Rdy.new N, Rdy.new N, hOc, hOd, hO, rfl, rfl⟩ (by repeat (first | exact Sub.nil rfl | exact Sub.marked rfl | refine Sub.cons rfl ?_)) (by simp) ?_
  clear hOc hOd hO
  rintro m S' L F ⟨hle, k, C, D, La, Ld, Lc, rfl, hk, hk30, hrc, hrd, hOc, hOd, hOa, rfl, rfl⟩
  have hA' := hA.le hle
  by_cases hend : k < ys.length ∧ k < 30
  rotate_left
  · by_cases hlt : k < ys.length
    all_goals
      (repeat (first | refine Jc ?_ | (apply s_call; (case hg => rfl); (case hd => rfl); (case ha => rfl); (case hc => exact Read_v hOc (i64_d rfl) (i64_n (by omega)) hrc.read); (case hL => (repeat (first | exact pm_nil _ | exact pm_refl _ _ | exact pm_self _ | apply pm_cons | apply pm_app))); rintro _ Lc1 _ - ⟨rfl, hOc1, rfl⟩) | (apply s_call; (case hg => rfl); (case hd => rfl); (case ha => rfl); (case hc => exact Read_v hOa (i64_d rfl) (i64_n (by omega)) hrc.read); (case hL => (repeat (first | exact pm_nil _ | exact pm_refl _ _ | exact pm_self _ | apply pm_cons | apply pm_app))); rintro _ La1 _ - ⟨rfl, hOa1, rfl⟩) | (apply s_evb; (case hg => rfl); (case hd => rfl); (case hn => rfl); (case he => (apply ev_eql_bv (r := true); (case hx => rfl); (case hy => rfl); (case h => first | decide | assumption | (simp; done))))) | (apply s_evb; (case hg => rfl); (case hd => rfl); (case hn => rfl); (case he => (apply ev_eql_bv (r := false); (case hx => rfl); (case hy => rfl); (case h => first | decide | assumption | (simp; done))))) | (apply s_call; (case hg => rfl); (case hd => rfl); (case ha => rfl); (case hc => exact Pending_v hOc1 rfl); (case hL => (repeat (first | exact pm_nil _ | exact pm_refl _ _ | exact pm_self _ | apply pm_cons | apply pm_app))); rintro _ Lc2 _ - ⟨rfl, hOc2, rfl⟩) | (apply s_call; (case hg => rfl); (case hd => rfl); (case ha => rfl); (case hc => exact Pending_v hOa1 rfl); (case hL => (repeat (first | exact pm_nil _ | exact pm_refl _ _ | exact pm_self _ | apply pm_cons | apply pm_app))); rintro _ La2 _ - ⟨rfl, hOa2, rfl⟩) | refine Jo ?_ | intro _))
      exact o_ret Try.results11 rfl (by repeat (first | exact List.Sublist.refl _ | exact List.Sublist.slnil | exact List.nil_sublist _ | exact List.sublist_append_left _ _ | refine List.Sublist.cons_cons _ ?_ | refine List.Sublist.append (List.Sublist.refl _) ?_ | refine List.Sublist.cons _ ?_ | refine List.Sublist.trans ?_ (List.sublist_append_right _ _))) rfl
  obtain ⟨hlt, h30⟩ := hend
  obtain ⟨y, hx⟩ := at_lt hlt
  have hy := hys y (List.mem_of_getElem? hx)
  have hfit := fitS_le y N
  have hrc1 := hrc.add hfit
  have hrd1 := hrd.add hfit
  obtain ⟨yo, ysb, ysy⟩ := y
  by_cases hodd : k % 2 = 1
  · by_cases h7 : fitO ⟨yo, ysb, ysy⟩ N % 7 = 3
    all_goals cases ysy
    · (repeat (first | refine Jc ?_ | (apply s_idx hA'; (case hg => rfl); (case hd => rfl); (case hx => rfl); (case hi => rfl); (case hm => rfl); (case hu => exact hx); intro q hq) | (apply s_load_ag; (case hg => rfl); (case hd => rfl); (case hx => rfl); (case hv => exact hq); (case hl => rfl)) | (apply s_call; (case hg => rfl); (case hd => rfl); (case ha => rfl); (case hc => exact fits_con ⟨yo, ysb, false⟩ N _ hy.1 hN4); (case hL => (repeat (first | exact pm_nil _ | exact pm_refl _ _ | exact pm_self _ | apply pm_cons | apply pm_app))); rintro _ _ _ - ⟨rfl, rfl, rfl⟩) | (apply s_call; (case hg => rfl); (case hd => rfl); (case ha => rfl); (case hc => exact Write_v hOd (i64_n (by omega)) (by omega) (by have := hrd.pend; omega) (hrd.wr hfit) (hrd.wrE hfit)); (case hL => (repeat (first | exact pm_nil _ | exact pm_refl _ _ | exact pm_self _ | apply pm_cons | apply pm_app))); rintro _ Ld1 _ - ⟨rfl, hOd1, rfl⟩) | (apply s_call; (case hg => rfl); (case hd => rfl); (case ha => rfl); (case hc => exact Crash_v hOd1 (keep := []) (At.nil _ _) rfl (by simp) (by simp) (i64_d rfl) (by have := hrd1.pend; omega) (crashed_eq _ _)); (case hL => (repeat (first | exact pm_nil _ | exact pm_refl _ _ | exact pm_self _ | apply pm_cons | apply pm_app))); rintro S5 Ld3 _ hle5 ⟨hOd3, rfl⟩) | refine Jo ?_ | intro _))
      refine W.perm ?_ (pm_od (X := Ld3) (Y := La) (Z := Lc))
      exact q_back (L' := La ++ (Ld3 ++ Lc)) (m' := ys.length - (k + 1)) ⟨hle.trans hle5, k + 1, C, _, La, Ld3, Lc, rfl, by omega, by omega, ⟨hrc.off, hrc.left, hrc.dur, hrc.vis, by have := hrc.pend; omega⟩, hrd1.cr, hOc, hOd3, hOa, rfl, rfl⟩ (by omega) (by repeat (first | exact Sub.nil rfl | exact Sub.marked rfl | refine Sub.cons rfl ?_)) ((List.Sublist.refl _).cons _)
    · (repeat (first | refine Jc ?_ | (apply s_idx hA'; (case hg => rfl); (case hd => rfl); (case hx => rfl); (case hi => rfl); (case hm => rfl); (case hu => exact hx); intro q hq) | (apply s_load_ag; (case hg => rfl); (case hd => rfl); (case hx => rfl); (case hv => exact hq); (case hl => rfl)) | (apply s_call; (case hg => rfl); (case hd => rfl); (case ha => rfl); (case hc => exact fits_con ⟨yo, ysb, true⟩ N _ hy.1 hN4); (case hL => (repeat (first | exact pm_nil _ | exact pm_refl _ _ | exact pm_self _ | apply pm_cons | apply pm_app))); rintro _ _ _ - ⟨rfl, rfl, rfl⟩) | (apply s_call; (case hg => rfl); (case hd => rfl); (case ha => rfl); (case hc => exact Write_v hOd (i64_n (by omega)) (by omega) (by have := hrd.pend; omega) (hrd.wr hfit) (hrd.wrE hfit)); (case hL => (repeat (first | exact pm_nil _ | exact pm_refl _ _ | exact pm_self _ | apply pm_cons | apply pm_app))); rintro _ Ld1 _ - ⟨rfl, hOd1, rfl⟩) | (apply s_call; (case hg => rfl); (case hd => rfl); (case ha => rfl); (case hc => exact Sync_v hOd1 hrd1.sy hrd1.syE); (case hL => (repeat (first | exact pm_nil _ | exact pm_refl _ _ | exact pm_self _ | apply pm_cons | apply pm_app))); rintro _ Ld2 _ - ⟨rfl, hOd2, rfl⟩) | (apply s_call; (case hg => rfl); (case hd => rfl); (case ha => rfl); (case hc => exact Crash_v hOd2 (keep := []) (At.nil _ _) rfl (by simp) (by simp) (i64_d rfl) (by have := hrd1.syd.pend; omega) (crashed_eq _ _)); (case hL => (repeat (first | exact pm_nil _ | exact pm_refl _ _ | exact pm_self _ | apply pm_cons | apply pm_app))); rintro S5 Ld3 _ hle5 ⟨hOd3, rfl⟩) | refine Jo ?_ | intro _))
      refine W.perm ?_ (pm_od (X := Ld3) (Y := La) (Z := Lc))
      exact q_back (L' := La ++ (Ld3 ++ Lc)) (m' := ys.length - (k + 1)) ⟨hle.trans hle5, k + 1, C, _, La, Ld3, Lc, rfl, by omega, by omega, ⟨hrc.off, hrc.left, hrc.dur, hrc.vis, by have := hrc.pend; omega⟩, hrd1.syd.cr, hOc, hOd3, hOa, rfl, rfl⟩ (by omega) (by repeat (first | exact Sub.nil rfl | exact Sub.marked rfl | refine Sub.cons rfl ?_)) ((List.Sublist.refl _).cons _)
    · (repeat (first | refine Jc ?_ | (apply s_idx hA'; (case hg => rfl); (case hd => rfl); (case hx => rfl); (case hi => rfl); (case hm => rfl); (case hu => exact hx); intro q hq) | (apply s_load_ag; (case hg => rfl); (case hd => rfl); (case hx => rfl); (case hv => exact hq); (case hl => rfl)) | (apply s_call; (case hg => rfl); (case hd => rfl); (case ha => rfl); (case hc => exact fits_con ⟨yo, ysb, false⟩ N _ hy.1 hN4); (case hL => (repeat (first | exact pm_nil _ | exact pm_refl _ _ | exact pm_self _ | apply pm_cons | apply pm_app))); rintro _ _ _ - ⟨rfl, rfl, rfl⟩) | (apply s_call; (case hg => rfl); (case hd => rfl); (case ha => rfl); (case hc => exact Write_v hOd (i64_n (by omega)) (by omega) (by have := hrd.pend; omega) (hrd.wr hfit) (hrd.wrE hfit)); (case hL => (repeat (first | exact pm_nil _ | exact pm_refl _ _ | exact pm_self _ | apply pm_cons | apply pm_app))); rintro _ Ld1 _ - ⟨rfl, hOd1, rfl⟩) | refine Jo ?_ | intro _))
      refine W.perm ?_ (pm_od (X := Ld1) (Y := La) (Z := Lc))
      exact q_back (L' := La ++ (Ld1 ++ Lc)) (m' := ys.length - (k + 1)) ⟨hle, k + 1, C, _, La, Ld1, Lc, rfl, by omega, by omega, ⟨hrc.off, hrc.left, hrc.dur, hrc.vis, by have := hrc.pend; omega⟩, hrd1, hOc, hOd1, hOa, rfl, rfl⟩ (by omega) (by repeat (first | exact Sub.nil rfl | exact Sub.marked rfl | refine Sub.cons rfl ?_)) ((List.Sublist.refl _).cons _)
    · (repeat (first | refine Jc ?_ | (apply s_idx hA'; (case hg => rfl); (case hd => rfl); (case hx => rfl); (case hi => rfl); (case hm => rfl); (case hu => exact hx); intro q hq) | (apply s_load_ag; (case hg => rfl); (case hd => rfl); (case hx => rfl); (case hv => exact hq); (case hl => rfl)) | (apply s_call; (case hg => rfl); (case hd => rfl); (case ha => rfl); (case hc => exact fits_con ⟨yo, ysb, true⟩ N _ hy.1 hN4); (case hL => (repeat (first | exact pm_nil _ | exact pm_refl _ _ | exact pm_self _ | apply pm_cons | apply pm_app))); rintro _ _ _ - ⟨rfl, rfl, rfl⟩) | (apply s_call; (case hg => rfl); (case hd => rfl); (case ha => rfl); (case hc => exact Write_v hOd (i64_n (by omega)) (by omega) (by have := hrd.pend; omega) (hrd.wr hfit) (hrd.wrE hfit)); (case hL => (repeat (first | exact pm_nil _ | exact pm_refl _ _ | exact pm_self _ | apply pm_cons | apply pm_app))); rintro _ Ld1 _ - ⟨rfl, hOd1, rfl⟩) | (apply s_call; (case hg => rfl); (case hd => rfl); (case ha => rfl); (case hc => exact Sync_v hOd1 hrd1.sy hrd1.syE); (case hL => (repeat (first | exact pm_nil _ | exact pm_refl _ _ | exact pm_self _ | apply pm_cons | apply pm_app))); rintro _ Ld2 _ - ⟨rfl, hOd2, rfl⟩) | refine Jo ?_ | intro _))
      refine W.perm ?_ (pm_od (X := Ld2) (Y := La) (Z := Lc))
      exact q_back (L' := La ++ (Ld2 ++ Lc)) (m' := ys.length - (k + 1)) ⟨hle, k + 1, C, _, La, Ld2, Lc, rfl, by omega, by omega, ⟨hrc.off, hrc.left, hrc.dur, hrc.vis, by have := hrc.pend; omega⟩, hrd1.syd, hOc, hOd2, hOa, rfl, rfl⟩ (by omega) (by repeat (first | exact Sub.nil rfl | exact Sub.marked rfl | refine Sub.cons rfl ?_)) ((List.Sublist.refl _).cons _)
  · cases ysy
    · (repeat (first | refine Jc ?_ | (apply s_idx hA'; (case hg => rfl); (case hd => rfl); (case hx => rfl); (case hi => rfl); (case hm => rfl); (case hu => exact hx); intro q hq) | (apply s_load_ag; (case hg => rfl); (case hd => rfl); (case hx => rfl); (case hv => exact hq); (case hl => rfl)) | (apply s_call; (case hg => rfl); (case hd => rfl); (case ha => rfl); (case hc => exact fits_con ⟨yo, ysb, false⟩ N _ hy.1 hN4); (case hL => (repeat (first | exact pm_nil _ | exact pm_refl _ _ | exact pm_self _ | apply pm_cons | apply pm_app))); rintro _ _ _ - ⟨rfl, rfl, rfl⟩) | refine Jo ?_ | intro _))
      rename_i bw
      refine c_meet (fun S2 L2 F2 => S2 = S' ∧ ∃ E La1 Lc1, OwD (.pointer (some ⟨bc, 0, none⟩)) E Lc1 ∧ OwD (.pointer (some ⟨b, 0, none⟩)) E La1 ∧ Rdy N (k + 1) E ∧ L2 = La1 ++ (Lc1 ++ (bw, .cells [.int .i64 (fitO ⟨yo, ysb, false⟩ N), strV (fitS ⟨yo, ysb, false⟩ N), .bool false].toArray 53 (0, 0)) :: (Ld ++ [])) ∧ F2 = [(0, .int .i64 N), (1, .slice A ys.length c), (5, .bool true), (6, .pointer (some ⟨bc, 0, none⟩)), (8, .pointer (some ⟨bd, 0, none⟩)), (10, .pointer (some ⟨b, 0, none⟩)), (12, .int .i64 k), (116, .bool false)]) ?_ ?_
      · ((apply c_held ([(bw, .cells [.int .i64 (fitO ⟨yo, ysb, false⟩ N), strV (fitS ⟨yo, ysb, false⟩ N), .bool false].toArray 53 (0, 0))]); (case hL => (repeat (first | exact List.Sublist.refl _ | exact List.Sublist.slnil | exact List.nil_sublist _ | exact List.sublist_append_left _ _ | apply List.Sublist.cons_cons | (apply List.Sublist.append; exact List.Sublist.refl _) | apply List.Sublist.cons | refine List.Sublist.trans ?_ (List.sublist_append_right _ _))))); refine Jf 0 ?_; refine Jf 1 ?_; refine Jf 2 ?_; refine Jf 3 ?_; refine Jf 4 ?_; refine Jf 6 ?_; refine Jf 7 ?_; refine Jf 8 ?_; refine Jf 9 ?_; refine Jf 10 ?_; (apply h_one 5; (case hr => kernel_rfl)); (first | (apply n_call; (case hi => rfl); (case i1 => infer_instance); (case hg => rfl); (case hd => rfl); (case ha => rfl); (case hc => exact Write_v hOc (i64_n (by omega)) (by omega) (by have := hrc.pend; omega) (hrc.wr hfit) (hrc.wrE hfit)); (case hL => (repeat (first | exact pm_nil _ | exact pm_refl _ _ | exact pm_self _ | apply pm_cons | apply pm_app))); (case hsub => (intros; (repeat (first | exact List.Sublist.refl _ | exact List.Sublist.slnil | exact List.nil_sublist _ | exact List.sublist_append_left _ _ | apply List.Sublist.cons_cons | (apply List.Sublist.append; exact List.Sublist.refl _) | apply List.Sublist.cons | refine List.Sublist.trans ?_ (List.sublist_append_right _ _))))); rintro _ Lc1 _ - ⟨rfl, hOc1, rfl⟩) | (apply n_call; (case hi => rfl); (case i1 => infer_instance); (case hg => rfl); (case hd => rfl); (case ha => rfl); (case hc => exact Write_v hOa (i64_n (by omega)) (by omega) (by have := hrc.pend; omega) (hrc.wr hfit) (hrc.wrE hfit)); (case hL => (repeat (first | exact pm_nil _ | exact pm_refl _ _ | exact pm_self _ | apply pm_cons | apply pm_app))); (case hsub => (intros; (repeat (first | exact List.Sublist.refl _ | exact List.Sublist.slnil | exact List.nil_sublist _ | exact List.sublist_append_left _ _ | apply List.Sublist.cons_cons | (apply List.Sublist.append; exact List.Sublist.refl _) | apply List.Sublist.cons | refine List.Sublist.trans ?_ (List.sublist_append_right _ _))))); rintro _ La1 _ - ⟨rfl, hOa1, rfl⟩) | (refine Jn ?_; try intro _)); (apply h_one 11; (case hr => kernel_rfl)); (first | (apply n_call; (case hi => rfl); (case i1 => infer_instance); (case hg => rfl); (case hd => rfl); (case ha => rfl); (case hc => exact Write_v hOc (i64_n (by omega)) (by omega) (by have := hrc.pend; omega) (hrc.wr hfit) (hrc.wrE hfit)); (case hL => (repeat (first | exact pm_nil _ | exact pm_refl _ _ | exact pm_self _ | apply pm_cons | apply pm_app))); (case hsub => (intros; (repeat (first | exact List.Sublist.refl _ | exact List.Sublist.slnil | exact List.nil_sublist _ | exact List.sublist_append_left _ _ | apply List.Sublist.cons_cons | (apply List.Sublist.append; exact List.Sublist.refl _) | apply List.Sublist.cons | refine List.Sublist.trans ?_ (List.sublist_append_right _ _))))); rintro _ Lc1 _ - ⟨rfl, hOc1, rfl⟩) | (apply n_call; (case hi => rfl); (case i1 => infer_instance); (case hg => rfl); (case hd => rfl); (case ha => rfl); (case hc => exact Write_v hOa (i64_n (by omega)) (by omega) (by have := hrc.pend; omega) (hrc.wr hfit) (hrc.wrE hfit)); (case hL => (repeat (first | exact pm_nil _ | exact pm_refl _ _ | exact pm_self _ | apply pm_cons | apply pm_app))); (case hsub => (intros; (repeat (first | exact List.Sublist.refl _ | exact List.Sublist.slnil | exact List.nil_sublist _ | exact List.sublist_append_left _ _ | apply List.Sublist.cons_cons | (apply List.Sublist.append; exact List.Sublist.refl _) | apply List.Sublist.cons | refine List.Sublist.trans ?_ (List.sublist_append_right _ _))))); rintro _ La1 _ - ⟨rfl, hOa1, rfl⟩) | (refine Jn ?_; try intro _)); refine Jf 12 ?_; refine Jf 13 ?_; refine Jf 14 ?_; refine Jf 15 ?_; refine Jf 16 ?_; refine Jf 17 ?_; refine Jf 19 ?_; (apply h_one 18; (case hr => kernel_rfl)); (first | (apply n_call; (case hi => rfl); (case i1 => infer_instance); (case hg => rfl); (case hd => rfl); (case ha => rfl); (case hc => exact Write_v hOc (i64_n (by omega)) (by omega) (by have := hrc.pend; omega) (hrc.wr hfit) (hrc.wrE hfit)); (case hL => (repeat (first | exact pm_nil _ | exact pm_refl _ _ | exact pm_self _ | apply pm_cons | apply pm_app))); (case hsub => (intros; (repeat (first | exact List.Sublist.refl _ | exact List.Sublist.slnil | exact List.nil_sublist _ | exact List.sublist_append_left _ _ | apply List.Sublist.cons_cons | (apply List.Sublist.append; exact List.Sublist.refl _) | apply List.Sublist.cons | refine List.Sublist.trans ?_ (List.sublist_append_right _ _))))); rintro _ Lc1 _ - ⟨rfl, hOc1, rfl⟩) | (apply n_call; (case hi => rfl); (case i1 => infer_instance); (case hg => rfl); (case hd => rfl); (case ha => rfl); (case hc => exact Write_v hOa (i64_n (by omega)) (by omega) (by have := hrc.pend; omega) (hrc.wr hfit) (hrc.wrE hfit)); (case hL => (repeat (first | exact pm_nil _ | exact pm_refl _ _ | exact pm_self _ | apply pm_cons | apply pm_app))); (case hsub => (intros; (repeat (first | exact List.Sublist.refl _ | exact List.Sublist.slnil | exact List.nil_sublist _ | exact List.sublist_append_left _ _ | apply List.Sublist.cons_cons | (apply List.Sublist.append; exact List.Sublist.refl _) | apply List.Sublist.cons | refine List.Sublist.trans ?_ (List.sublist_append_right _ _))))); rintro _ La1 _ - ⟨rfl, hOa1, rfl⟩) | (refine Jn ?_; try intro _)); (apply h_one 20; (case hr => kernel_rfl)); (first | (apply n_call; (case hi => rfl); (case i1 => infer_instance); (case hg => rfl); (case hd => rfl); (case ha => rfl); (case hc => exact Write_v hOc (i64_n (by omega)) (by omega) (by have := hrc.pend; omega) (hrc.wr hfit) (hrc.wrE hfit)); (case hL => (repeat (first | exact pm_nil _ | exact pm_refl _ _ | exact pm_self _ | apply pm_cons | apply pm_app))); (case hsub => (intros; (repeat (first | exact List.Sublist.refl _ | exact List.Sublist.slnil | exact List.nil_sublist _ | exact List.sublist_append_left _ _ | apply List.Sublist.cons_cons | (apply List.Sublist.append; exact List.Sublist.refl _) | apply List.Sublist.cons | refine List.Sublist.trans ?_ (List.sublist_append_right _ _))))); rintro _ Lc1 _ - ⟨rfl, hOc1, rfl⟩) | (apply n_call; (case hi => rfl); (case i1 => infer_instance); (case hg => rfl); (case hd => rfl); (case ha => rfl); (case hc => exact Write_v hOa (i64_n (by omega)) (by omega) (by have := hrc.pend; omega) (hrc.wr hfit) (hrc.wrE hfit)); (case hL => (repeat (first | exact pm_nil _ | exact pm_refl _ _ | exact pm_self _ | apply pm_cons | apply pm_app))); (case hsub => (intros; (repeat (first | exact List.Sublist.refl _ | exact List.Sublist.slnil | exact List.nil_sublist _ | exact List.sublist_append_left _ _ | apply List.Sublist.cons_cons | (apply List.Sublist.append; exact List.Sublist.refl _) | apply List.Sublist.cons | refine List.Sublist.trans ?_ (List.sublist_append_right _ _))))); rintro _ La1 _ - ⟨rfl, hOa1, rfl⟩) | (refine Jn ?_; try intro _)); refine Jf 21 ?_; refine Jf 22 ?_; refine Jf 23 ?_; (apply h_end; (case hr => kernel_rfl)); (apply q_then; exact q_cut ⟨rfl, _, La1, Lc1, hOc1, hOa1, hrc1, rfl, rfl⟩ (by repeat (first | exact Sub.nil rfl | exact Sub.marked rfl | refine Sub.cons rfl ?_)) (List.Sublist.refl _)))
      rintro S3 L3 F3 ⟨rfl, E, La1, Lc1, hOc1, hOa1, hE, rfl, rfl⟩
      (repeat (first | refine Jz ?_ | intro _))
      refine W.perm ?_ pm_ev
      exact q_back (L' := La1 ++ (Ld ++ Lc1)) (m' := ys.length - (k + 1)) ⟨hle, k + 1, E, D, La1, Ld, Lc1, rfl, by omega, by omega, hE, ⟨hrd.off, hrd.left, hrd.dur, hrd.vis, by have := hrd.pend; omega⟩, hOc1, hOd, hOa1, rfl, rfl⟩ (by omega) (by repeat (first | exact Sub.nil rfl | exact Sub.marked rfl | refine Sub.cons rfl ?_)) ((List.Sublist.refl _).cons _)
    · (repeat (first | refine Jc ?_ | (apply s_idx hA'; (case hg => rfl); (case hd => rfl); (case hx => rfl); (case hi => rfl); (case hm => rfl); (case hu => exact hx); intro q hq) | (apply s_load_ag; (case hg => rfl); (case hd => rfl); (case hx => rfl); (case hv => exact hq); (case hl => rfl)) | (apply s_call; (case hg => rfl); (case hd => rfl); (case ha => rfl); (case hc => exact fits_con ⟨yo, ysb, true⟩ N _ hy.1 hN4); (case hL => (repeat (first | exact pm_nil _ | exact pm_refl _ _ | exact pm_self _ | apply pm_cons | apply pm_app))); rintro _ _ _ - ⟨rfl, rfl, rfl⟩) | refine Jo ?_ | intro _))
      rename_i bw
      refine c_meet (fun S2 L2 F2 => S2 = S' ∧ ∃ E La1 Lc1, OwD (.pointer (some ⟨bc, 0, none⟩)) E Lc1 ∧ OwD (.pointer (some ⟨b, 0, none⟩)) E La1 ∧ Rdy N (k + 1) E ∧ L2 = La1 ++ (Lc1 ++ (bw, .cells [.int .i64 (fitO ⟨yo, ysb, true⟩ N), strV (fitS ⟨yo, ysb, true⟩ N), .bool true].toArray 53 (0, 0)) :: (Ld ++ [])) ∧ F2 = [(0, .int .i64 N), (1, .slice A ys.length c), (5, .bool true), (6, .pointer (some ⟨bc, 0, none⟩)), (8, .pointer (some ⟨bd, 0, none⟩)), (10, .pointer (some ⟨b, 0, none⟩)), (12, .int .i64 k), (116, .bool false)]) ?_ ?_
      · ((apply c_held ([(bw, .cells [.int .i64 (fitO ⟨yo, ysb, true⟩ N), strV (fitS ⟨yo, ysb, true⟩ N), .bool true].toArray 53 (0, 0))]); (case hL => (repeat (first | exact List.Sublist.refl _ | exact List.Sublist.slnil | exact List.nil_sublist _ | exact List.sublist_append_left _ _ | apply List.Sublist.cons_cons | (apply List.Sublist.append; exact List.Sublist.refl _) | apply List.Sublist.cons | refine List.Sublist.trans ?_ (List.sublist_append_right _ _))))); refine Jf 0 ?_; refine Jf 1 ?_; refine Jf 2 ?_; refine Jf 3 ?_; refine Jf 4 ?_; refine Jf 6 ?_; refine Jf 7 ?_; refine Jf 8 ?_; refine Jf 9 ?_; refine Jf 10 ?_; (apply h_one 5; (case hr => kernel_rfl)); (first | (apply n_call; (case hi => rfl); (case i1 => infer_instance); (case hg => rfl); (case hd => rfl); (case ha => rfl); (case hc => exact Write_v hOc (i64_n (by omega)) (by omega) (by have := hrc.pend; omega) (hrc.wr hfit) (hrc.wrE hfit)); (case hL => (repeat (first | exact pm_nil _ | exact pm_refl _ _ | exact pm_self _ | apply pm_cons | apply pm_app))); (case hsub => (intros; (repeat (first | exact List.Sublist.refl _ | exact List.Sublist.slnil | exact List.nil_sublist _ | exact List.sublist_append_left _ _ | apply List.Sublist.cons_cons | (apply List.Sublist.append; exact List.Sublist.refl _) | apply List.Sublist.cons | refine List.Sublist.trans ?_ (List.sublist_append_right _ _))))); rintro _ Lc1 _ - ⟨rfl, hOc1, rfl⟩) | (apply n_call; (case hi => rfl); (case i1 => infer_instance); (case hg => rfl); (case hd => rfl); (case ha => rfl); (case hc => exact Write_v hOa (i64_n (by omega)) (by omega) (by have := hrc.pend; omega) (hrc.wr hfit) (hrc.wrE hfit)); (case hL => (repeat (first | exact pm_nil _ | exact pm_refl _ _ | exact pm_self _ | apply pm_cons | apply pm_app))); (case hsub => (intros; (repeat (first | exact List.Sublist.refl _ | exact List.Sublist.slnil | exact List.nil_sublist _ | exact List.sublist_append_left _ _ | apply List.Sublist.cons_cons | (apply List.Sublist.append; exact List.Sublist.refl _) | apply List.Sublist.cons | refine List.Sublist.trans ?_ (List.sublist_append_right _ _))))); rintro _ La1 _ - ⟨rfl, hOa1, rfl⟩) | (apply n_call; (case hi => rfl); (case i1 => infer_instance); (case hg => rfl); (case hd => rfl); (case ha => rfl); (case hc => exact Sync_v hOc1 hrc1.sy hrc1.syE); (case hL => (repeat (first | exact pm_nil _ | exact pm_refl _ _ | exact pm_self _ | apply pm_cons | apply pm_app))); (case hsub => (intros; (repeat (first | exact List.Sublist.refl _ | exact List.Sublist.slnil | exact List.nil_sublist _ | exact List.sublist_append_left _ _ | apply List.Sublist.cons_cons | (apply List.Sublist.append; exact List.Sublist.refl _) | apply List.Sublist.cons | refine List.Sublist.trans ?_ (List.sublist_append_right _ _))))); rintro _ Lc2 _ - ⟨rfl, hOc2, rfl⟩) | (apply n_call; (case hi => rfl); (case i1 => infer_instance); (case hg => rfl); (case hd => rfl); (case ha => rfl); (case hc => exact Sync_v hOa1 hrc1.sy hrc1.syE); (case hL => (repeat (first | exact pm_nil _ | exact pm_refl _ _ | exact pm_self _ | apply pm_cons | apply pm_app))); (case hsub => (intros; (repeat (first | exact List.Sublist.refl _ | exact List.Sublist.slnil | exact List.nil_sublist _ | exact List.sublist_append_left _ _ | apply List.Sublist.cons_cons | (apply List.Sublist.append; exact List.Sublist.refl _) | apply List.Sublist.cons | refine List.Sublist.trans ?_ (List.sublist_append_right _ _))))); rintro _ La2 _ - ⟨rfl, hOa2, rfl⟩) | (refine Jn ?_; try intro _)); (apply h_one 11; (case hr => kernel_rfl)); (first | (apply n_call; (case hi => rfl); (case i1 => infer_instance); (case hg => rfl); (case hd => rfl); (case ha => rfl); (case hc => exact Write_v hOc (i64_n (by omega)) (by omega) (by have := hrc.pend; omega) (hrc.wr hfit) (hrc.wrE hfit)); (case hL => (repeat (first | exact pm_nil _ | exact pm_refl _ _ | exact pm_self _ | apply pm_cons | apply pm_app))); (case hsub => (intros; (repeat (first | exact List.Sublist.refl _ | exact List.Sublist.slnil | exact List.nil_sublist _ | exact List.sublist_append_left _ _ | apply List.Sublist.cons_cons | (apply List.Sublist.append; exact List.Sublist.refl _) | apply List.Sublist.cons | refine List.Sublist.trans ?_ (List.sublist_append_right _ _))))); rintro _ Lc1 _ - ⟨rfl, hOc1, rfl⟩) | (apply n_call; (case hi => rfl); (case i1 => infer_instance); (case hg => rfl); (case hd => rfl); (case ha => rfl); (case hc => exact Write_v hOa (i64_n (by omega)) (by omega) (by have := hrc.pend; omega) (hrc.wr hfit) (hrc.wrE hfit)); (case hL => (repeat (first | exact pm_nil _ | exact pm_refl _ _ | exact pm_self _ | apply pm_cons | apply pm_app))); (case hsub => (intros; (repeat (first | exact List.Sublist.refl _ | exact List.Sublist.slnil | exact List.nil_sublist _ | exact List.sublist_append_left _ _ | apply List.Sublist.cons_cons | (apply List.Sublist.append; exact List.Sublist.refl _) | apply List.Sublist.cons | refine List.Sublist.trans ?_ (List.sublist_append_right _ _))))); rintro _ La1 _ - ⟨rfl, hOa1, rfl⟩) | (apply n_call; (case hi => rfl); (case i1 => infer_instance); (case hg => rfl); (case hd => rfl); (case ha => rfl); (case hc => exact Sync_v hOc1 hrc1.sy hrc1.syE); (case hL => (repeat (first | exact pm_nil _ | exact pm_refl _ _ | exact pm_self _ | apply pm_cons | apply pm_app))); (case hsub => (intros; (repeat (first | exact List.Sublist.refl _ | exact List.Sublist.slnil | exact List.nil_sublist _ | exact List.sublist_append_left _ _ | apply List.Sublist.cons_cons | (apply List.Sublist.append; exact List.Sublist.refl _) | apply List.Sublist.cons | refine List.Sublist.trans ?_ (List.sublist_append_right _ _))))); rintro _ Lc2 _ - ⟨rfl, hOc2, rfl⟩) | (apply n_call; (case hi => rfl); (case i1 => infer_instance); (case hg => rfl); (case hd => rfl); (case ha => rfl); (case hc => exact Sync_v hOa1 hrc1.sy hrc1.syE); (case hL => (repeat (first | exact pm_nil _ | exact pm_refl _ _ | exact pm_self _ | apply pm_cons | apply pm_app))); (case hsub => (intros; (repeat (first | exact List.Sublist.refl _ | exact List.Sublist.slnil | exact List.nil_sublist _ | exact List.sublist_append_left _ _ | apply List.Sublist.cons_cons | (apply List.Sublist.append; exact List.Sublist.refl _) | apply List.Sublist.cons | refine List.Sublist.trans ?_ (List.sublist_append_right _ _))))); rintro _ La2 _ - ⟨rfl, hOa2, rfl⟩) | (refine Jn ?_; try intro _)); refine Jf 12 ?_; refine Jf 13 ?_; refine Jf 14 ?_; refine Jf 15 ?_; refine Jf 16 ?_; refine Jf 17 ?_; refine Jf 19 ?_; (apply h_one 18; (case hr => kernel_rfl)); (first | (apply n_call; (case hi => rfl); (case i1 => infer_instance); (case hg => rfl); (case hd => rfl); (case ha => rfl); (case hc => exact Write_v hOc (i64_n (by omega)) (by omega) (by have := hrc.pend; omega) (hrc.wr hfit) (hrc.wrE hfit)); (case hL => (repeat (first | exact pm_nil _ | exact pm_refl _ _ | exact pm_self _ | apply pm_cons | apply pm_app))); (case hsub => (intros; (repeat (first | exact List.Sublist.refl _ | exact List.Sublist.slnil | exact List.nil_sublist _ | exact List.sublist_append_left _ _ | apply List.Sublist.cons_cons | (apply List.Sublist.append; exact List.Sublist.refl _) | apply List.Sublist.cons | refine List.Sublist.trans ?_ (List.sublist_append_right _ _))))); rintro _ Lc1 _ - ⟨rfl, hOc1, rfl⟩) | (apply n_call; (case hi => rfl); (case i1 => infer_instance); (case hg => rfl); (case hd => rfl); (case ha => rfl); (case hc => exact Write_v hOa (i64_n (by omega)) (by omega) (by have := hrc.pend; omega) (hrc.wr hfit) (hrc.wrE hfit)); (case hL => (repeat (first | exact pm_nil _ | exact pm_refl _ _ | exact pm_self _ | apply pm_cons | apply pm_app))); (case hsub => (intros; (repeat (first | exact List.Sublist.refl _ | exact List.Sublist.slnil | exact List.nil_sublist _ | exact List.sublist_append_left _ _ | apply List.Sublist.cons_cons | (apply List.Sublist.append; exact List.Sublist.refl _) | apply List.Sublist.cons | refine List.Sublist.trans ?_ (List.sublist_append_right _ _))))); rintro _ La1 _ - ⟨rfl, hOa1, rfl⟩) | (apply n_call; (case hi => rfl); (case i1 => infer_instance); (case hg => rfl); (case hd => rfl); (case ha => rfl); (case hc => exact Sync_v hOc1 hrc1.sy hrc1.syE); (case hL => (repeat (first | exact pm_nil _ | exact pm_refl _ _ | exact pm_self _ | apply pm_cons | apply pm_app))); (case hsub => (intros; (repeat (first | exact List.Sublist.refl _ | exact List.Sublist.slnil | exact List.nil_sublist _ | exact List.sublist_append_left _ _ | apply List.Sublist.cons_cons | (apply List.Sublist.append; exact List.Sublist.refl _) | apply List.Sublist.cons | refine List.Sublist.trans ?_ (List.sublist_append_right _ _))))); rintro _ Lc2 _ - ⟨rfl, hOc2, rfl⟩) | (apply n_call; (case hi => rfl); (case i1 => infer_instance); (case hg => rfl); (case hd => rfl); (case ha => rfl); (case hc => exact Sync_v hOa1 hrc1.sy hrc1.syE); (case hL => (repeat (first | exact pm_nil _ | exact pm_refl _ _ | exact pm_self _ | apply pm_cons | apply pm_app))); (case hsub => (intros; (repeat (first | exact List.Sublist.refl _ | exact List.Sublist.slnil | exact List.nil_sublist _ | exact List.sublist_append_left _ _ | apply List.Sublist.cons_cons | (apply List.Sublist.append; exact List.Sublist.refl _) | apply List.Sublist.cons | refine List.Sublist.trans ?_ (List.sublist_append_right _ _))))); rintro _ La2 _ - ⟨rfl, hOa2, rfl⟩) | (refine Jn ?_; try intro _)); (apply h_one 20; (case hr => kernel_rfl)); (first | (apply n_call; (case hi => rfl); (case i1 => infer_instance); (case hg => rfl); (case hd => rfl); (case ha => rfl); (case hc => exact Write_v hOc (i64_n (by omega)) (by omega) (by have := hrc.pend; omega) (hrc.wr hfit) (hrc.wrE hfit)); (case hL => (repeat (first | exact pm_nil _ | exact pm_refl _ _ | exact pm_self _ | apply pm_cons | apply pm_app))); (case hsub => (intros; (repeat (first | exact List.Sublist.refl _ | exact List.Sublist.slnil | exact List.nil_sublist _ | exact List.sublist_append_left _ _ | apply List.Sublist.cons_cons | (apply List.Sublist.append; exact List.Sublist.refl _) | apply List.Sublist.cons | refine List.Sublist.trans ?_ (List.sublist_append_right _ _))))); rintro _ Lc1 _ - ⟨rfl, hOc1, rfl⟩) | (apply n_call; (case hi => rfl); (case i1 => infer_instance); (case hg => rfl); (case hd => rfl); (case ha => rfl); (case hc => exact Write_v hOa (i64_n (by omega)) (by omega) (by have := hrc.pend; omega) (hrc.wr hfit) (hrc.wrE hfit)); (case hL => (repeat (first | exact pm_nil _ | exact pm_refl _ _ | exact pm_self _ | apply pm_cons | apply pm_app))); (case hsub => (intros; (repeat (first | exact List.Sublist.refl _ | exact List.Sublist.slnil | exact List.nil_sublist _ | exact List.sublist_append_left _ _ | apply List.Sublist.cons_cons | (apply List.Sublist.append; exact List.Sublist.refl _) | apply List.Sublist.cons | refine List.Sublist.trans ?_ (List.sublist_append_right _ _))))); rintro _ La1 _ - ⟨rfl, hOa1, rfl⟩) | (apply n_call; (case hi => rfl); (case i1 => infer_instance); (case hg => rfl); (case hd => rfl); (case ha => rfl); (case hc => exact Sync_v hOc1 hrc1.sy hrc1.syE); (case hL => (repeat (first | exact pm_nil _ | exact pm_refl _ _ | exact pm_self _ | apply pm_cons | apply pm_app))); (case hsub => (intros; (repeat (first | exact List.Sublist.refl _ | exact List.Sublist.slnil | exact List.nil_sublist _ | exact List.sublist_append_left _ _ | apply List.Sublist.cons_cons | (apply List.Sublist.append; exact List.Sublist.refl _) | apply List.Sublist.cons | refine List.Sublist.trans ?_ (List.sublist_append_right _ _))))); rintro _ Lc2 _ - ⟨rfl, hOc2, rfl⟩) | (apply n_call; (case hi => rfl); (case i1 => infer_instance); (case hg => rfl); (case hd => rfl); (case ha => rfl); (case hc => exact Sync_v hOa1 hrc1.sy hrc1.syE); (case hL => (repeat (first | exact pm_nil _ | exact pm_refl _ _ | exact pm_self _ | apply pm_cons | apply pm_app))); (case hsub => (intros; (repeat (first | exact List.Sublist.refl _ | exact List.Sublist.slnil | exact List.nil_sublist _ | exact List.sublist_append_left _ _ | apply List.Sublist.cons_cons | (apply List.Sublist.append; exact List.Sublist.refl _) | apply List.Sublist.cons | refine List.Sublist.trans ?_ (List.sublist_append_right _ _))))); rintro _ La2 _ - ⟨rfl, hOa2, rfl⟩) | (refine Jn ?_; try intro _)); refine Jf 21 ?_; refine Jf 22 ?_; refine Jf 23 ?_; (apply h_end; (case hr => kernel_rfl)); (apply q_then; exact q_cut ⟨rfl, _, La2, Lc2, hOc2, hOa2, hrc1.syd, rfl, rfl⟩ (by repeat (first | exact Sub.nil rfl | exact Sub.marked rfl | refine Sub.cons rfl ?_)) (List.Sublist.refl _)))
      rintro S3 L3 F3 ⟨rfl, E, La1, Lc1, hOc1, hOa1, hE, rfl, rfl⟩
      (repeat (first | refine Jz ?_ | intro _))
      refine W.perm ?_ pm_ev
      exact q_back (L' := La1 ++ (Ld ++ Lc1)) (m' := ys.length - (k + 1)) ⟨hle, k + 1, E, D, La1, Ld, Lc1, rfl, by omega, by omega, hE, ⟨hrd.off, hrd.left, hrd.dur, hrd.vis, by have := hrd.pend; omega⟩, hOc1, hOd, hOa1, rfl, rfl⟩ (by omega) (by repeat (first | exact Sub.nil rfl | exact Sub.marked rfl | refine Sub.cons rfl ?_)) ((List.Sublist.refl _).cons _)
end Go.Proofs.Ytdbkjegpeoopaaa
namespace Go.Proofs.Ytdbkjegpeoopaaa
open Go Go.X
set_option maxRecDepth 10000
set_option linter.unusedVariables false
attribute [local irreducible] Code.wpIn wpListIn Exit.then Exit.inBlock X.Out X.Back X.W X.Ev X.Con X.BinV X.Wh X.Wn X.Wq
/-- Which of the first m numbers are flagged, and the last of them. -/
def flg (f : Nat → Bool) (m : Nat) : List Nat := (List.range m).filter f
def lastF (f : Nat → Bool) : Nat → Int
  | 0 => -1
  | k + 1 => if f k then k else lastF f k
theorem flg_succ (f : Nat → Bool) (m : Nat) : flg f (m + 1) = if f m then flg f m ++ [m] else flg f m := by
  simp only [flg, List.range_succ, List.filter_append]
  cases h : f m <;> simp [h]
theorem flg_mem {f : Nat → Bool} {m i : Nat} : i ∈ flg f m ↔ i < m ∧ f i = true := by simp [flg]
theorem tearLast_snoc (torn : Int) : ∀ (ws : List Wr) (w : Wr), tearLast torn (ws ++ [w]) = ws ++ [tear torn w]
  | [], w => rfl
  | [v], w => rfl
  | u :: v :: r, w => by
    have := tearLast_snoc torn (v :: r) w
    simp only [List.cons_append] at this ⊢
    simp only [tearLast, this]
def tornAt (torn : Int) (w : Nat → Wr) (last : Int) (i : Nat) : Wr := if (i : Int) = last then tear torn (w i) else w i
theorem tear_all (torn : Int) (w : Nat → Wr) (f : Nat → Bool) : ∀ m : Nat, tearLast torn ((flg f m).map w) = (flg f m).map (tornAt torn w (lastF f m))
  | 0 => rfl
  | m + 1 => by
    rw [flg_succ]
    cases h : f m
    · simp only [lastF, h]
      exact tear_all torn w f m
    · simp only [lastF, h, if_true, List.map_append, List.map_cons, List.map_nil]
      rw [tearLast_snoc]
      congr 1
      · apply List.map_congr_left
        intro i hi
        have := (flg_mem.1 hi).1
        simp only [tornAt]
        rw [if_neg (by omega)]
      · simp [tornAt]
def numsOf (f : Nat → Bool) (m : Nat) : List Int := (flg f m).reverse.map fun (i : Nat) => (i : Int)
theorem numsOf_succ (f : Nat → Bool) (m : Nat) : numsOf f (m + 1) = if f m then (m : Int) :: numsOf f m else numsOf f m := by
  simp only [numsOf, flg_succ]
  cases f m <;> simp
theorem kept_nums (f : Nat → Bool) (m : Nat) : kept m (numsOf f m) = flg f m := by
  simp only [kept, flg]
  apply List.filter_congr
  intro i hi
  have hi' : i < m := by simpa using hi
  cases h : f i
  · have : ¬ (i : Int) ∈ numsOf f m := by
      simp only [numsOf, List.mem_map, List.mem_reverse, flg_mem]
      rintro ⟨j, ⟨h1, h2⟩, h3⟩
      obtain rfl : j = i := by omega
      rw [h] at h2; cases h2
    simp [this]
  · have : (i : Int) ∈ numsOf f m := by
      simp only [numsOf, List.mem_map, List.mem_reverse, flg_mem]
      exact ⟨i, ⟨hi', h⟩, rfl⟩
    simp [this]
theorem numsOf_len (f : Nat → Bool) (m : Nat) : (numsOf f m).length ≤ m := by
  simp only [numsOf, List.length_map, List.length_reverse, flg]
  have := List.length_filter_le f (List.range m)
  simpa using this
theorem numsOf_i64 {f : Nat → Bool} {m : Nat} (h : m ≤ 1000000) : ∀ x ∈ numsOf f m, i64 x := by
  intro x hx
  simp only [numsOf, List.mem_map, List.mem_reverse, flg_mem] at hx
  obtain ⟨i, ⟨hi, _⟩, rfl⟩ := hx
  exact i64_n (by omega)
def pendOf (w : Nat → Wr) (k : Nat) : List Wr := (List.range k).map w
theorem pendOf_succ (w : Nat → Wr) (k : Nat) : pendOf w (k + 1) = pendOf w k ++ [w k] := by simp [pendOf, List.range_succ]
theorem crB_nums (D : Dk) (w : Nat → Wr) (f : Nat → Bool) (m : Nat) (torn : Int) (h : D.pend = pendOf w m) : crB D (numsOf f m) torn = applyL D.dur ((flg f m).map (tornAt torn w (lastF f m))) := by
  have hl : D.pend.length = m := by rw [h]; simp [pendOf]
  have hk : keepW D.pend (numsOf f m) = (flg f m).map w := by
    rw [keepW, hl, kept_nums]
    apply List.map_congr_left
    intro i hi
    have := (flg_mem.1 hi).1
    rw [List.getElem!_eq_getElem?_getD, h]
    simp [pendOf, this]
  rw [crB_eq, hk, tear_all]
end Go.Proofs.Ytdbkjegpeoopaaa
namespace Go.Proofs.Ytdbkjegpeoopaaa
open Go Go.X
set_option maxRecDepth 10000
set_option linter.unusedVariables false
attribute [local irreducible] Code.wpIn wpListIn Exit.then Exit.inBlock X.Out X.Back X.W X.Ev X.Con X.BinV X.Wh X.Wn X.Wq
def fl (ks : List Bool) (i : Nat) : Bool := (ks[i]?).getD false
def fw (ys : List Wp) (N i : Nat) : Wr := match ys[i]? with | some y => ⟨fitO y N, fitS y N⟩ | none => ⟨0, []⟩
theorem fw_fit (ys : List Wp) (N i : Nat) : (fw ys N i).off + (fw ys N i).s.length ≤ N := by
  unfold fw
  cases ys[i]? with
  | none => simp
  | some y => exact fitS_le y N
theorem tornAt_fit (torn : Int) (ys : List Wp) (N : Nat) (last : Int) (i : Nat) : (tornAt torn (fw ys N) last i).off + (tornAt torn (fw ys N) last i).s.length ≤ N := by
  unfold tornAt
  split
  · exact tear_fit torn (fw_fit ys N i)
  · exact fw_fit ys N i
theorem u8_lit (k : Nat) : (48 : Int) + (k : Int) % 10 = ((UInt8.ofNat (48 + k % 10)).toNat : Int) := by
  show _ = (((48 + k % 10) % 256 : Nat) : Int)
  omega
theorem lset_all {B0 B : Bs} {N : Nat} (h0 : B0.length = N) (h : B.length = N) : lset B0 0 B = B := by
  simp only [lset, List.take_zero, List.nil_append]
  rw [List.drop_of_length_le (by omega), List.append_nil]
set_option maxHeartbeats 1600000 in
theorem f8_law (size : Int) (ys : List Wp) (A : Option Addr) (c : Nat) (ks : List Bool) (A2 : Option Addr) (c2 : Nat) (torn : Int) (S : SH) (h0 : i64 size) (hA0 : At S A ys) (hl : ys.length ≤ c) (hys : ∀ y ∈ ys, i64 y.off ∧ y.s.length ≤ maxLen) (hK0 : At S A2 ks) (hl2 : ks.length ≤ c2) (hks : ∀ b ∈ ks, True) (ht : i64 torn) :
    Con Try.prog 8 #[.int .i64 size, .slice A ys.length c, .slice A2 ks.length c2, .int .i64 torn] S [] (fun _ _ v => v = .bool true) := by
  refine con_of (args := [.int .i64 size, .slice A ys.length c, .slice A2 ks.length c2, .int .i64 torn]) Try.func8 rfl Try.ntmps8 rfl fun w => ?_
  have hp := pick_lt size 100 (by omega)
  generalize hpp : pick size 100 = p at hp
  obtain ⟨N, hN⟩ : ∃ N : Nat, (1 : Int) + p = N := ⟨(1 + p).toNat, by omega⟩
  have hN4 : N ≤ 4194304 := by omega
  (repeat (first | refine Jc ?_ | (apply s_call; (case hg => rfl); (case hd => rfl); (case ha => rfl); (case hc => exact sane_con _); (case hL => (repeat (first | exact pm_nil _ | exact pm_refl _ _ | exact pm_self _ | apply pm_cons | apply pm_app))); rintro S1 _ _ hle1 ⟨rfl, rfl⟩) | (apply s_call; (case hg => rfl); (case hd => rfl); (case ha => rfl); (case hc => exact pick_v h0 (by omega) hpp); (case hL => (repeat (first | exact pm_nil _ | exact pm_refl _ _ | exact pm_self _ | apply pm_cons | apply pm_app))); rintro _ _ _ - ⟨rfl, rfl, rfl⟩) | (apply s_bin (v := .int .i64 (N : Nat)); (case hg => rfl); (case hd => rfl); (case hx => rfl); (case hy => rfl); (case hb => exact hN ▸ bv_add (by omega))) | (apply s_call; (case hg => rfl); (case hd => rfl); (case ha => rfl); (case hc => exact New_con N _ (by omega)); (case hL => (repeat (first | exact pm_nil _ | exact pm_refl _ _ | exact pm_self _ | apply pm_cons | apply pm_app))); rintro S2 LD _ - ⟨rfl, v, hO, rfl⟩; obtain ⟨b, rfl⟩ := hO.form) | refine Jo ?_ | intro _))
  rename_i g
  rw [cellsOf_zero]
  have hA := hA0.le hle1
  have hK := hK0.le hle1
  refine c_loop (fun m S' L F => S' = S2 ∧ ∃ (i : Nat) (B : Bs), m = N - i ∧ i ≤ N ∧ B.length = N ∧ L = (g, .cells (cellsOf B).toArray 5 (0, 0)) :: LD ∧
      F = [(0, .int .i64 N), (1, .slice A ys.length c), (2, .slice A2 ks.length c2), (3, .int .i64 torn), (9, .bool true), (10, .pointer (some ⟨b, 0, none⟩)), (12, .slice (some ⟨g, 0, none⟩) N N), (13, .int .i64 i)]) ⟨rfl, 0, List.replicate N 0, rfl, by omega, by simp, rfl, rfl⟩ (by repeat (first | exact Sub.nil rfl | exact Sub.marked rfl | refine Sub.cons rfl ?_)) (by simp) ?_
  rintro m S' L F ⟨rfl, i, B, rfl, hi, hB, rfl, rfl⟩
  by_cases hiN : i < N
  · have hc2 : (cellsOf B)[i]? = some (.int .u8 ((B[i]'(by omega)).toNat : Int)) := by
      rw [cellsOf_u8, List.getElem?_map, List.getElem?_eq_getElem (by omega)]; rfl
    (repeat (first | refine Jc ?_ | (apply s_evb; (case hg => rfl); (case hd => rfl); (case hn => rfl); (case he => ((apply ev_conv_u8; (case hx => rfl); (case hc => exact u8_lit i))))) | (apply s_store; (case hg => rfl); (case hx => rfl); (case hy => rfl); (case h1 => rfl); (case hL => exact Upd.head); (case hu => exact hc2)) | refine Jo ?_ | intro _))
    rw [bytes_set]
    exact q_back (m' := N - (i + 1)) ⟨rfl, i + 1, _, rfl, by omega, by simpa using hB, rfl, rfl⟩ (by omega) (by repeat (first | exact Sub.nil rfl | exact Sub.marked rfl | refine Sub.cons rfl ?_)) (List.Sublist.refl _)
  have hr0 := Rdy.new N
  have hs0 : (B.drop 0).take N = B := str_all hB
  have hf0 : 0 + B.length ≤ N := by omega
  have hr1 := hr0.add hf0
  have hsd : synced (addW (newD N) 0 B) = ⟨false, 0, B, B, []⟩ := by
    simp only [synced, addW]
    rw [lset_all hr0.vis hB]
  have hrs : Rdy N 0 ⟨false, 0, B, B, []⟩ := ⟨rfl, rfl, hB, hB, Nat.le_refl _⟩
  (repeat (first | refine Jc ?_ | (apply s_evb; (case hg => rfl); (case hd => rfl); (case hn => rfl); (case he => ((apply ev_str_own (B := B); (case hx => rfl); (case hm => exact List.Mem.head _); (case hk => omega))))) | refine Jo ?_ | intro _))
  rw [hs0]
  (repeat (first | refine Jc ?_ | (apply s_call; (case hg => rfl); (case hd => rfl); (case ha => rfl); (case hc => exact Write_v hO (off := 0) (s := B) (i64_d rfl) (by omega) (by simp [newD]) (hr0.wr hf0) (hr0.wrE hf0)); (case hL => (repeat (first | exact pm_nil _ | exact pm_refl _ _ | exact pm_self _ | apply pm_cons | apply pm_app))); rintro _ LD1 _ - ⟨rfl, hO1, rfl⟩) | (apply s_call; (case hg => rfl); (case hd => rfl); (case ha => rfl); (case hc => exact Sync_v hO1 (hr1.sy.trans hsd) hr1.syE); (case hL => (repeat (first | exact pm_nil _ | exact pm_refl _ _ | exact pm_self _ | apply pm_cons | apply pm_app))); rintro S5 LD2 _ - ⟨rfl, hO2, rfl⟩) | refine Jo ?_ | intro _))
  generalize hM : min ys.length 20 = M
  refine c_loop (fun m S' L F => S' = S5 ∧ ∃ (k : Nat), m = M - k ∧ k ≤ M ∧ L = LD2 ++ [(g, .cells (cellsOf B).toArray 5 (0, 0))] ∧
      F = [(0, .int .i64 N), (1, .slice A ys.length c), (2, .slice A2 ks.length c2), (3, .int .i64 torn), (9, .bool true), (10, .pointer (some ⟨b, 0, none⟩)), (12, .slice (some ⟨g, 0, none⟩) N N), (14, .int .i64 (lastF (fl ks) k)), (15, .int .i64 k)]) ⟨rfl, 0, rfl, by omega, rfl, rfl⟩ (by repeat (first | exact Sub.nil rfl | exact Sub.marked rfl | refine Sub.cons rfl ?_)) (by repeat (first | exact List.Sublist.refl _ | exact List.Sublist.slnil | exact List.nil_sublist _ | exact List.sublist_append_left _ _ | refine List.Sublist.cons_cons _ ?_ | refine List.Sublist.append (List.Sublist.refl _) ?_ | refine List.Sublist.cons _ ?_ | refine List.Sublist.trans ?_ (List.sublist_append_right _ _))) ?_
  rintro m S' L F ⟨rfl, k, rfl, hk, rfl, rfl⟩
  by_cases hkM : k < M
  · have hlt : k < ys.length := by omega
    have h20 : k < 20 := by omega
    by_cases hkk : k < ks.length
    · obtain ⟨bb, hb⟩ := at_lt hkk
      have hfl : fl ks k = bb := by simp [fl, hb]
      cases bb
      · (repeat (first | refine Jc ?_ | (apply s_idx hK; (case hg => rfl); (case hd => rfl); (case hx => rfl); (case hi => rfl); (case hm => rfl); (case hu => exact hb); intro qb (hqb : Pts _ qb [.bool false])) | (apply s_load1; (case hg => rfl); (case hd => rfl); (case hx => rfl); (case hv => exact hqb)) | refine Jo ?_ | intro _))
        exact q_back (m' := M - (k + 1)) ⟨rfl, k + 1, rfl, by omega, rfl, by simp only [lastF, hfl]; rfl⟩ (by omega) (by repeat (first | exact Sub.nil rfl | exact Sub.marked rfl | refine Sub.cons rfl ?_)) (List.Sublist.refl _)
      · (repeat (first | refine Jc ?_ | (apply s_idx hK; (case hg => rfl); (case hd => rfl); (case hx => rfl); (case hi => rfl); (case hm => rfl); (case hu => exact hb); intro qb (hqb : Pts _ qb [.bool true])) | (apply s_load1; (case hg => rfl); (case hd => rfl); (case hx => rfl); (case hv => exact hqb)) | refine Jo ?_ | intro _))
        exact q_back (m' := M - (k + 1)) ⟨rfl, k + 1, rfl, by omega, rfl, by simp only [lastF, hfl]; rfl⟩ (by omega) (by repeat (first | exact Sub.nil rfl | exact Sub.marked rfl | refine Sub.cons rfl ?_)) (List.Sublist.refl _)
    · have hfl : fl ks k = false := by simp [fl, List.getElem?_eq_none (by omega : ks.length ≤ k)]
      (repeat (first | refine Jz ?_ | intro _))
      exact q_back (m' := M - (k + 1)) ⟨rfl, k + 1, rfl, by omega, rfl, by simp only [lastF, hfl]; rfl⟩ (by omega) (by repeat (first | exact Sub.nil rfl | exact Sub.marked rfl | refine Sub.cons rfl ?_)) (List.Sublist.refl _)
  obtain rfl : k = M := by omega
  have hexit : ¬ (k < ys.length ∧ k < 20) := by omega
  have hMy : k = min ys.length 20 := by omega
  clear hM hk hkM hr1 hr0 hO hO1 hsd hf0 hs0
  by_cases hky : k < ys.length
  all_goals
    (repeat (first | refine Jz ?_ | intro _))
    refine c_loop (fun m S9 L F => Le S' S9 ∧ ∃ (j : Nat) (D : Dk) (LD : Blocks) (v : Value), m = k - j ∧ j ≤ k ∧ Rdy N j D ∧ D.dur = B ∧ D.pend = pendOf (fw ys N) j ∧ OwD (.pointer (some ⟨b, 0, none⟩)) D LD ∧ Sr S9 v (numsOf (fl ks) j) ∧ L = LD ++ [(g, .cells (cellsOf (applyL B ((flg (fl ks) j).map (tornAt torn (fw ys N) (lastF (fl ks) k))))).toArray 5 (0, 0))] ∧
      F = [(0, .int .i64 N), (1, .slice A ys.length c), (2, .slice A2 ks.length c2), (3, .int .i64 torn), (9, .bool true), (10, .pointer (some ⟨b, 0, none⟩)), (12, .slice (some ⟨g, 0, none⟩) N N), (14, .int .i64 (lastF (fl ks) k)), (16, v), (17, .int .i64 j)]) ⟨Le.refl _, 0, _, LD2, _, rfl, by omega, hrs, rfl, rfl, hO2, Sr.nil _, rfl, rfl⟩ (by repeat (first | exact Sub.nil rfl | exact Sub.marked rfl | refine Sub.cons rfl ?_)) (List.Sublist.refl _) ?_
    rintro m S9 L F ⟨hle, j, D, LD, v, rfl, hj, hr, hdu, hpe, hO, hsr, rfl, rfl⟩
    have hBl : (applyL B ((flg (fl ks) j).map (tornAt torn (fw ys N) (lastF (fl ks) k)))).length = N := applyL_len _ _ hB fun x hx => by
      obtain ⟨i, _, rfl⟩ := List.mem_map.1 hx
      exact tornAt_fit torn ys N _ i
    have hA' := hA.le hle
    have hK' := hK.le hle
    by_cases hjk : j < k
    rotate_left
    · obtain rfl : j = k := by omega
      obtain ⟨Av, cv, rfl, hcv, hAv⟩ := hsr
      have hnl := numsOf_len (fl ks) j
      have hcr : crD D (numsOf (fl ks) j) torn = ⟨false, 0, applyL B ((flg (fl ks) j).map (tornAt torn (fw ys N) (lastF (fl ks) j))), applyL B ((flg (fl ks) j).map (tornAt torn (fw ys N) (lastF (fl ks) j))), []⟩ := by rw [crD, crB_nums D (fw ys N) (fl ks) j torn hpe, hdu]
      generalize hX : applyL B ((flg (fl ks) j).map (tornAt torn (fw ys N) (lastF (fl ks) j))) = X at hBl hcr ⊢
      have hrc : Rdy N 0 ⟨false, 0, X, X, []⟩ := ⟨rfl, rfl, hBl, hBl, Nat.le_refl _⟩
      (repeat (first | refine Jc ?_ | (apply s_call; (case hg => rfl); (case hd => rfl); (case ha => rfl); (case hc => exact Crash_v hO (keep := numsOf (fl ks) j) hAv rfl (by omega) (numsOf_i64 (by omega)) ht (by have := hr.pend; omega) hcr); (case hL => (repeat (first | exact pm_nil _ | exact pm_refl _ _ | exact pm_self _ | apply pm_cons | apply pm_app))); rintro S6 LD5 _ hle5 ⟨hO5, rfl⟩) | (apply s_call; (case hg => rfl); (case hd => rfl); (case ha => rfl); (case hc => exact Read_v hO5 (i64_d rfl) (i64_n (by omega)) hrc.read); (case hL => (repeat (first | exact pm_nil _ | exact pm_refl _ _ | exact pm_self _ | apply pm_cons | apply pm_app))); rintro _ LD6 _ - ⟨rfl, hO6, rfl⟩) | (apply s_evb; (case hg => rfl); (case hd => rfl); (case hn => rfl); (case he => ((apply ev_str_own (B := X); (case hx => rfl); (case hm => (repeat (first | exact List.Mem.head _ | apply List.Mem.tail | apply List.mem_append_right))); (case hk => omega))))) | (apply s_evb; (case hg => rfl); (case hd => rfl); (case hn => rfl); (case he => ((apply ev_eql_bv (r := true); (case hx => rfl); (case hy => rfl); (case h => (rw [str_all hBl]; simp)))))) | refine Jo ?_ | intro _))
      exact o_ret Try.results8 rfl (by repeat (first | exact List.Sublist.refl _ | exact List.Sublist.slnil | exact List.nil_sublist _ | exact List.sublist_append_left _ _ | refine List.Sublist.cons_cons _ ?_ | refine List.Sublist.append (List.Sublist.refl _) ?_ | refine List.Sublist.cons _ ?_ | refine List.Sublist.trans ?_ (List.sublist_append_right _ _))) rfl
    have hlt : j < ys.length := by omega
    have h20 : j < 20 := by omega
    obtain ⟨y, hx⟩ := at_lt hlt
    have hy := hys y (List.mem_of_getElem? hx)
    have hfit := fitS_le y N
    have hr1 := hr.add hfit
    have hfw : fw ys N j = ⟨fitO y N, fitS y N⟩ := by simp [fw, hx]
    have hpe1 : (addW D (fitO y N) (fitS y N)).pend = pendOf (fw ys N) (j + 1) := by rw [pendOf_succ, hfw, ← hpe]; rfl
    have hsuc := flg_succ (fl ks) j
    have hnsu := numsOf_succ (fl ks) j
    obtain ⟨yo, ysb, ysy⟩ := y
    by_cases hkk : j < ks.length
    rotate_left
    · have hfl : fl ks j = false := by simp [fl, List.getElem?_eq_none (by omega : ks.length ≤ j)]
      (repeat (first | refine Jc ?_ | (apply s_idx hA'; (case hg => rfl); (case hd => rfl); (case hx => rfl); (case hi => rfl); (case hm => rfl); (case hu => exact hx); intro q hq) | (apply s_load_ag; (case hg => rfl); (case hd => rfl); (case hx => rfl); (case hv => exact hq); (case hl => rfl)) | (apply s_call; (case hg => rfl); (case hd => rfl); (case ha => rfl); (case hc => exact fits_con ⟨yo, ysb, ysy⟩ N _ hy.1 hN4); (case hL => (repeat (first | exact pm_nil _ | exact pm_refl _ _ | exact pm_self _ | apply pm_cons | apply pm_app))); rintro _ _ _ - ⟨rfl, rfl, rfl⟩) | (apply s_call; (case hg => rfl); (case hd => rfl); (case ha => rfl); (case hc => exact Write_v hO (i64_n (by omega)) (by omega) (by have := hr.pend; omega) (hr.wr hfit) (hr.wrE hfit)); (case hL => (repeat (first | exact pm_nil _ | exact pm_refl _ _ | exact pm_self _ | apply pm_cons | apply pm_app))); rintro _ LD1 _ - ⟨rfl, hO1, rfl⟩) | refine Jo ?_ | intro _))
      rw [hfl] at hsuc hnsu
      simp only [Bool.false_eq_true, if_false] at hsuc hnsu
      exact q_back (L' := LD1 ++ [(g, .cells (cellsOf (applyL B ((flg (fl ks) j).map (tornAt torn (fw ys N) (lastF (fl ks) k))))).toArray 5 (0, 0))]) (m' := k - (j + 1)) ⟨hle, j + 1, addW D (fitO ⟨yo, ysb, ysy⟩ N) (fitS ⟨yo, ysb, ysy⟩ N), LD1, v, rfl, by omega, hr1, hdu, hpe1, hO1, by rw [hnsu]; exact hsr, by rw [hsuc], rfl⟩ (by omega) (by repeat (first | exact Sub.nil rfl | exact Sub.marked rfl | refine Sub.cons rfl ?_)) (by repeat (first | exact List.Sublist.refl _ | exact List.Sublist.slnil | exact List.nil_sublist _ | exact List.sublist_append_left _ _ | refine List.Sublist.cons_cons _ ?_ | refine List.Sublist.append (List.Sublist.refl _) ?_ | refine List.Sublist.cons _ ?_ | refine List.Sublist.trans ?_ (List.sublist_append_right _ _)))
    obtain ⟨bb, hb⟩ := at_lt hkk
    have hfl : fl ks j = bb := by simp [fl, hb]
    cases bb
    · (repeat (first | refine Jc ?_ | (apply s_idx hA'; (case hg => rfl); (case hd => rfl); (case hx => rfl); (case hi => rfl); (case hm => rfl); (case hu => exact hx); intro q hq) | (apply s_load_ag; (case hg => rfl); (case hd => rfl); (case hx => rfl); (case hv => exact hq); (case hl => rfl)) | (apply s_call; (case hg => rfl); (case hd => rfl); (case ha => rfl); (case hc => exact fits_con ⟨yo, ysb, ysy⟩ N _ hy.1 hN4); (case hL => (repeat (first | exact pm_nil _ | exact pm_refl _ _ | exact pm_self _ | apply pm_cons | apply pm_app))); rintro _ _ _ - ⟨rfl, rfl, rfl⟩) | (apply s_call; (case hg => rfl); (case hd => rfl); (case ha => rfl); (case hc => exact Write_v hO (i64_n (by omega)) (by omega) (by have := hr.pend; omega) (hr.wr hfit) (hr.wrE hfit)); (case hL => (repeat (first | exact pm_nil _ | exact pm_refl _ _ | exact pm_self _ | apply pm_cons | apply pm_app))); rintro _ LD1 _ - ⟨rfl, hO1, rfl⟩) | (apply s_idx hK'; (case hg => rfl); (case hd => rfl); (case hx => rfl); (case hi => rfl); (case hm => rfl); (case hu => exact hb); intro qb (hqb : Pts _ qb [.bool false])) | (apply s_load1; (case hg => rfl); (case hd => rfl); (case hx => rfl); (case hv => exact hqb)) | refine Jo ?_ | intro _))
      rw [hfl] at hsuc hnsu
      simp only [Bool.false_eq_true, if_false] at hsuc hnsu
      exact q_back (L' := LD1 ++ [(g, .cells (cellsOf (applyL B ((flg (fl ks) j).map (tornAt torn (fw ys N) (lastF (fl ks) k))))).toArray 5 (0, 0))]) (m' := k - (j + 1)) ⟨hle, j + 1, addW D (fitO ⟨yo, ysb, ysy⟩ N) (fitS ⟨yo, ysb, ysy⟩ N), LD1, v, rfl, by omega, hr1, hdu, hpe1, hO1, by rw [hnsu]; exact hsr, by rw [hsuc], rfl⟩ (by omega) (by repeat (first | exact Sub.nil rfl | exact Sub.marked rfl | refine Sub.cons rfl ?_)) (by repeat (first | exact List.Sublist.refl _ | exact List.Sublist.slnil | exact List.nil_sublist _ | exact List.sublist_append_left _ _ | refine List.Sublist.cons_cons _ ?_ | refine List.Sublist.append (List.Sublist.refl _) ?_ | refine List.Sublist.cons _ ?_ | refine List.Sublist.trans ?_ (List.sublist_append_right _ _)))
    · obtain ⟨Av, cv, rfl, hcv, hAv⟩ := hsr
      have hnl := numsOf_len (fl ks) j
      rw [hfl] at hsuc hnsu
      simp only [if_true] at hsuc hnsu
      by_cases t1 : (j : Int) = lastF (fl ks) k
      by_cases t2 : 0 ≤ torn
      · obtain ⟨tn, rfl⟩ : ∃ tn : Nat, torn = tn := ⟨torn.toNat, by omega⟩
        have htor : tornAt tn (fw ys N) (lastF (fl ks) k) j = ⟨fitO ⟨yo, ysb, ysy⟩ N, (fitS ⟨yo, ysb, ysy⟩ N).take tn⟩ := by rw [tornAt, if_pos t1, hfw, tear, if_pos t2]; rfl
        (repeat (first | refine Jc ?_ | (apply s_idx hA'; (case hg => rfl); (case hd => rfl); (case hx => rfl); (case hi => rfl); (case hm => rfl); (case hu => exact hx); intro q hq) | (apply s_load_ag; (case hg => rfl); (case hd => rfl); (case hx => rfl); (case hv => exact hq); (case hl => rfl)) | (apply s_call; (case hg => rfl); (case hd => rfl); (case ha => rfl); (case hc => exact fits_con ⟨yo, ysb, ysy⟩ N _ hy.1 hN4); (case hL => (repeat (first | exact pm_nil _ | exact pm_refl _ _ | exact pm_self _ | apply pm_cons | apply pm_app))); rintro _ _ _ - ⟨rfl, rfl, rfl⟩) | (apply s_call; (case hg => rfl); (case hd => rfl); (case ha => rfl); (case hc => exact Write_v hO (i64_n (by omega)) (by omega) (by have := hr.pend; omega) (hr.wr hfit) (hr.wrE hfit)); (case hL => (repeat (first | exact pm_nil _ | exact pm_refl _ _ | exact pm_self _ | apply pm_cons | apply pm_app))); rintro _ LD1 _ - ⟨rfl, hO1, rfl⟩) | (apply s_idx hK'; (case hg => rfl); (case hd => rfl); (case hx => rfl); (case hi => rfl); (case hm => rfl); (case hu => exact hb); intro qb (hqb : Pts _ qb [.bool true])) | (apply s_load1; (case hg => rfl); (case hd => rfl); (case hx => rfl); (case hv => exact hqb)) | (apply s_append_st (ms := numsOf (fl ks) j) hAv; (case hg => rfl); (case hd => rfl); (case hx => rfl); (case ho => exact Ows.full (l := [(j : Int)]) (g := _) rfl (by simp [maxLen])); (case hL => (repeat (first | exact pm_nil _ | exact pm_refl _ _ | exact pm_self _ | apply pm_cons | apply pm_app))); (case hy => rfl); (case hm => first | rfl | simp); (case hzs => rfl); (case h0 => decide); (case hb => first | (simp; omega) | simp); (case h63 => first | (simp; omega) | simp); intro v' ob' ho') | refine Jo ?_ | intro _))
        refine W.freezeOws ho' (List.Perm.refl _) fun S7 hle7 hsr7 => ?_
        have hsr8 : Sr S7 v' (numsOf (fl ks) (j + 1)) := by rw [hnsu]; exact hsr7
        (repeat (first | refine Jc ?_ | (apply s_call; (case hg => rfl); (case hd => rfl); (case ha => rfl); (case hc => exact cut_con (fitS ⟨yo, ysb, ysy⟩ N) tn _); (case hL => (repeat (first | exact pm_nil _ | exact pm_refl _ _ | exact pm_self _ | apply pm_cons | apply pm_app))); rintro _ _ _ - ⟨rfl, rfl, rfl⟩) | (apply s_call; (case hg => rfl); (case hd => rfl); (case ha => rfl); (case hc => exact put_con g N (fitO ⟨yo, ysb, ysy⟩ N) (applyL B ((flg (fl ks) j).map (tornAt tn (fw ys N) (lastF (fl ks) k)))) ((fitS ⟨yo, ysb, ysy⟩ N).take tn) _ hBl (by simp only [List.length_take]; omega) hN4); (case hL => (repeat (first | exact pm_nil _ | exact pm_refl _ _ | exact pm_self _ | apply pm_cons | apply pm_app))); rintro _ _ _ - ⟨rfl, rfl⟩) | refine Jo ?_ | intro _))
        refine W.perm ?_ (List.perm_middle (l₁ := LD1)).symm
        refine q_back (L' := LD1 ++ [(g, .cells (cellsOf (lset (applyL B ((flg (fl ks) j).map (tornAt tn (fw ys N) (lastF (fl ks) k)))) (fitO ⟨yo, ysb, ysy⟩ N) ((fitS ⟨yo, ysb, ysy⟩ N).take tn))).toArray 5 (0, 0))]) (m' := k - (j + 1)) ⟨hle.trans hle7, j + 1, addW D (fitO ⟨yo, ysb, ysy⟩ N) (fitS ⟨yo, ysb, ysy⟩ N), LD1, v', rfl, by omega, hr1, hdu, hpe1, hO1, hsr8, ?_, rfl⟩ (by omega) (by repeat (first | exact Sub.nil rfl | exact Sub.marked rfl | refine Sub.cons rfl ?_)) (by repeat (first | exact List.Sublist.refl _ | exact List.Sublist.slnil | exact List.nil_sublist _ | exact List.sublist_append_left _ _ | refine List.Sublist.cons_cons _ ?_ | refine List.Sublist.append (List.Sublist.refl _) ?_ | refine List.Sublist.cons _ ?_ | refine List.Sublist.trans ?_ (List.sublist_append_right _ _)))
        rw [hsuc, List.map_append, List.map_cons, List.map_nil, applyL_snoc]
        rw [htor]
      · have htor : tornAt torn (fw ys N) (lastF (fl ks) k) j = ⟨fitO ⟨yo, ysb, ysy⟩ N, fitS ⟨yo, ysb, ysy⟩ N⟩ := by rw [tornAt, if_pos t1, hfw, tear, if_neg t2]
        (repeat (first | refine Jc ?_ | (apply s_idx hA'; (case hg => rfl); (case hd => rfl); (case hx => rfl); (case hi => rfl); (case hm => rfl); (case hu => exact hx); intro q hq) | (apply s_load_ag; (case hg => rfl); (case hd => rfl); (case hx => rfl); (case hv => exact hq); (case hl => rfl)) | (apply s_call; (case hg => rfl); (case hd => rfl); (case ha => rfl); (case hc => exact fits_con ⟨yo, ysb, ysy⟩ N _ hy.1 hN4); (case hL => (repeat (first | exact pm_nil _ | exact pm_refl _ _ | exact pm_self _ | apply pm_cons | apply pm_app))); rintro _ _ _ - ⟨rfl, rfl, rfl⟩) | (apply s_call; (case hg => rfl); (case hd => rfl); (case ha => rfl); (case hc => exact Write_v hO (i64_n (by omega)) (by omega) (by have := hr.pend; omega) (hr.wr hfit) (hr.wrE hfit)); (case hL => (repeat (first | exact pm_nil _ | exact pm_refl _ _ | exact pm_self _ | apply pm_cons | apply pm_app))); rintro _ LD1 _ - ⟨rfl, hO1, rfl⟩) | (apply s_idx hK'; (case hg => rfl); (case hd => rfl); (case hx => rfl); (case hi => rfl); (case hm => rfl); (case hu => exact hb); intro qb (hqb : Pts _ qb [.bool true])) | (apply s_load1; (case hg => rfl); (case hd => rfl); (case hx => rfl); (case hv => exact hqb)) | (apply s_append_st (ms := numsOf (fl ks) j) hAv; (case hg => rfl); (case hd => rfl); (case hx => rfl); (case ho => exact Ows.full (l := [(j : Int)]) (g := _) rfl (by simp [maxLen])); (case hL => (repeat (first | exact pm_nil _ | exact pm_refl _ _ | exact pm_self _ | apply pm_cons | apply pm_app))); (case hy => rfl); (case hm => first | rfl | simp); (case hzs => rfl); (case h0 => decide); (case hb => first | (simp; omega) | simp); (case h63 => first | (simp; omega) | simp); intro v' ob' ho') | refine Jo ?_ | intro _))
        refine W.freezeOws ho' (List.Perm.refl _) fun S7 hle7 hsr7 => ?_
        have hsr8 : Sr S7 v' (numsOf (fl ks) (j + 1)) := by rw [hnsu]; exact hsr7
        (repeat (first | refine Jc ?_ | (apply s_call; (case hg => rfl); (case hd => rfl); (case ha => rfl); (case hc => exact put_con g N (fitO ⟨yo, ysb, ysy⟩ N) (applyL B ((flg (fl ks) j).map (tornAt torn (fw ys N) (lastF (fl ks) k)))) (fitS ⟨yo, ysb, ysy⟩ N) _ hBl hfit hN4); (case hL => (repeat (first | exact pm_nil _ | exact pm_refl _ _ | exact pm_self _ | apply pm_cons | apply pm_app))); rintro _ _ _ - ⟨rfl, rfl⟩) | refine Jo ?_ | intro _))
        refine W.perm ?_ (List.perm_middle (l₁ := LD1)).symm
        refine q_back (L' := LD1 ++ [(g, .cells (cellsOf (lset (applyL B ((flg (fl ks) j).map (tornAt torn (fw ys N) (lastF (fl ks) k)))) (fitO ⟨yo, ysb, ysy⟩ N) (fitS ⟨yo, ysb, ysy⟩ N))).toArray 5 (0, 0))]) (m' := k - (j + 1)) ⟨hle.trans hle7, j + 1, addW D (fitO ⟨yo, ysb, ysy⟩ N) (fitS ⟨yo, ysb, ysy⟩ N), LD1, v', rfl, by omega, hr1, hdu, hpe1, hO1, hsr8, ?_, rfl⟩ (by omega) (by repeat (first | exact Sub.nil rfl | exact Sub.marked rfl | refine Sub.cons rfl ?_)) (by repeat (first | exact List.Sublist.refl _ | exact List.Sublist.slnil | exact List.nil_sublist _ | exact List.sublist_append_left _ _ | refine List.Sublist.cons_cons _ ?_ | refine List.Sublist.append (List.Sublist.refl _) ?_ | refine List.Sublist.cons _ ?_ | refine List.Sublist.trans ?_ (List.sublist_append_right _ _)))
        rw [hsuc, List.map_append, List.map_cons, List.map_nil, applyL_snoc]
        rw [htor]
      · have htor : tornAt torn (fw ys N) (lastF (fl ks) k) j = ⟨fitO ⟨yo, ysb, ysy⟩ N, fitS ⟨yo, ysb, ysy⟩ N⟩ := by rw [tornAt, if_neg t1, hfw]
        (repeat (first | refine Jc ?_ | (apply s_idx hA'; (case hg => rfl); (case hd => rfl); (case hx => rfl); (case hi => rfl); (case hm => rfl); (case hu => exact hx); intro q hq) | (apply s_load_ag; (case hg => rfl); (case hd => rfl); (case hx => rfl); (case hv => exact hq); (case hl => rfl)) | (apply s_call; (case hg => rfl); (case hd => rfl); (case ha => rfl); (case hc => exact fits_con ⟨yo, ysb, ysy⟩ N _ hy.1 hN4); (case hL => (repeat (first | exact pm_nil _ | exact pm_refl _ _ | exact pm_self _ | apply pm_cons | apply pm_app))); rintro _ _ _ - ⟨rfl, rfl, rfl⟩) | (apply s_call; (case hg => rfl); (case hd => rfl); (case ha => rfl); (case hc => exact Write_v hO (i64_n (by omega)) (by omega) (by have := hr.pend; omega) (hr.wr hfit) (hr.wrE hfit)); (case hL => (repeat (first | exact pm_nil _ | exact pm_refl _ _ | exact pm_self _ | apply pm_cons | apply pm_app))); rintro _ LD1 _ - ⟨rfl, hO1, rfl⟩) | (apply s_idx hK'; (case hg => rfl); (case hd => rfl); (case hx => rfl); (case hi => rfl); (case hm => rfl); (case hu => exact hb); intro qb (hqb : Pts _ qb [.bool true])) | (apply s_load1; (case hg => rfl); (case hd => rfl); (case hx => rfl); (case hv => exact hqb)) | (apply s_append_st (ms := numsOf (fl ks) j) hAv; (case hg => rfl); (case hd => rfl); (case hx => rfl); (case ho => exact Ows.full (l := [(j : Int)]) (g := _) rfl (by simp [maxLen])); (case hL => (repeat (first | exact pm_nil _ | exact pm_refl _ _ | exact pm_self _ | apply pm_cons | apply pm_app))); (case hy => rfl); (case hm => first | rfl | simp); (case hzs => rfl); (case h0 => decide); (case hb => first | (simp; omega) | simp); (case h63 => first | (simp; omega) | simp); intro v' ob' ho') | refine Jo ?_ | intro _))
        refine W.freezeOws ho' (List.Perm.refl _) fun S7 hle7 hsr7 => ?_
        have hsr8 : Sr S7 v' (numsOf (fl ks) (j + 1)) := by rw [hnsu]; exact hsr7
        (repeat (first | refine Jc ?_ | (apply s_call; (case hg => rfl); (case hd => rfl); (case ha => rfl); (case hc => exact put_con g N (fitO ⟨yo, ysb, ysy⟩ N) (applyL B ((flg (fl ks) j).map (tornAt torn (fw ys N) (lastF (fl ks) k)))) (fitS ⟨yo, ysb, ysy⟩ N) _ hBl hfit hN4); (case hL => (repeat (first | exact pm_nil _ | exact pm_refl _ _ | exact pm_self _ | apply pm_cons | apply pm_app))); rintro _ _ _ - ⟨rfl, rfl⟩) | refine Jo ?_ | intro _))
        refine W.perm ?_ (List.perm_middle (l₁ := LD1)).symm
        refine q_back (L' := LD1 ++ [(g, .cells (cellsOf (lset (applyL B ((flg (fl ks) j).map (tornAt torn (fw ys N) (lastF (fl ks) k)))) (fitO ⟨yo, ysb, ysy⟩ N) (fitS ⟨yo, ysb, ysy⟩ N))).toArray 5 (0, 0))]) (m' := k - (j + 1)) ⟨hle.trans hle7, j + 1, addW D (fitO ⟨yo, ysb, ysy⟩ N) (fitS ⟨yo, ysb, ysy⟩ N), LD1, v', rfl, by omega, hr1, hdu, hpe1, hO1, hsr8, ?_, rfl⟩ (by omega) (by repeat (first | exact Sub.nil rfl | exact Sub.marked rfl | refine Sub.cons rfl ?_)) (by repeat (first | exact List.Sublist.refl _ | exact List.Sublist.slnil | exact List.nil_sublist _ | exact List.sublist_append_left _ _ | refine List.Sublist.cons_cons _ ?_ | refine List.Sublist.append (List.Sublist.refl _) ?_ | refine List.Sublist.cons _ ?_ | refine List.Sublist.trans ?_ (List.sublist_append_right _ _)))
        rw [hsuc, List.map_append, List.map_cons, List.map_nil, applyL_snoc]
        rw [htor]
end Go.Proofs.Ytdbkjegpeoopaaa
namespace Go.Proofs.Ytdbkjegpeoopaaa
open Go Go.X
open Go.ChangeShapes Go.WideShapes Go.ChangeAt Go.RowKit
set_option linter.unusedVariables false
set_option maxRecDepth 100000 in
theorem lifted8 (os : Os) (started : os.Started) (H : Type) (enc : TypeId × Value → H) :
    ReturnsInHanded {} Try.checked os 8 .any (Rows.diskCrashBytesSpec.pre6 enc Try.prog Try.f8 Rows.diskCrashBytesRow.domain false) (Rows.diskCrashBytesSpec.post enc Try.prog Try.f8 false true false false) := by
  refine returnsInHanded_of_change (C := Try.checked) own started (by kernel_rfl) Try.func8
    (ChangeSpec.witness6 (enc := enc) (C := Try.checked) false ⟨#[], #[.int .i64 0, .slice none 0 0, .slice none 0 0, .int .i64 0], []⟩ 8 (by kernel_rfl) (by kernel_rfl) (by kernel_rfl) (by kernel_rfl)) ?_
  intro W base args ds gs before hval0 hW hcnd _
  have hval : ∀ (j : Nat) t v, Try.f8.params[j]? = some t → args[j]? = some v → Value.okWide Try.prog W .any base t v := hval0
  have hW' := hW
  obtain ⟨p, q, hA0, hV, rfl, hfz, hnd⟩ := hW
  have hA : DataW.TrodAll enc Try.prog W 0 (fun _ => true) true Try.f8.params.toList args.toList ds p := hA0
  rw [Try.params8] at hA hval
  obtain ⟨v0, vs0, d0, ds0, p0, q0, hargs, rfl, rfl, h0, r0⟩ := trodAll_cons hA
  obtain ⟨v1, vs1, d1, ds1, p1, q1, rfl, rfl, rfl, h1, r1⟩ := trodAll_cons r0
  obtain ⟨v2, vs2, d2, ds2, p2, q2, rfl, rfl, rfl, h2, r2⟩ := trodAll_cons r1
  obtain ⟨v3, vs3, d3, ds3, p3, q3, rfl, rfl, rfl, h3, r3⟩ := trodAll_cons r2
  obtain ⟨rfl, rfl, rfl⟩ := trodAll_nil r3
  obtain rfl : args = #[v0, v1, v2, v3] := by cases args; simp_all
  obtain ⟨rfl, rfl⟩ := trodVars_none hV
  have k0 := h0
  have lt0 : ∀ x ∈ p0, x.block < W.heap.size := by obtain ⟨m, hm⟩ := k0; exact DataW.trod_lt m _ _ _ hm
  have k1 := h1
  have lt1 : ∀ x ∈ p1, x.block < W.heap.size := by obtain ⟨m, hm⟩ := k1; exact DataW.trod_lt m _ _ _ hm
  have k2 := h2
  have lt2 : ∀ x ∈ p2, x.block < W.heap.size := by obtain ⟨m, hm⟩ := k2; exact DataW.trod_lt m _ _ _ hm
  have k3 := h3
  have lt3 : ∀ x ∈ p3, x.block < W.heap.size := by obtain ⟨m, hm⟩ := k3; exact DataW.trod_lt m _ _ _ hm
  obtain ⟨a0, rfl, e1_0, e2_0, w0⟩ := open_int Try.underlying3 (hval 0 3 v0 rfl rfl) h0
  obtain ⟨a1, len1, cap1, rfl⟩ := okWide_slice Try.underlying51 (hval 1 51 v1 rfl rfl)
  obtain ⟨xs1, rfl, gl1, gA1, gx1⟩ := open_sl (α := Wp) Try.underlying51 (by kernel_rfl) rdb_Wp rfl h1
  obtain ⟨a2, len2, cap2, rfl⟩ := okWide_slice Try.underlying58 (hval 2 58 v2 rfl rfl)
  obtain ⟨xs2, rfl, gl2, gA2, gx2⟩ := open_sl (α := Bool) Try.underlying58 (by kernel_rfl) (rdb_bool Try.underlying4) rfl h2
  obtain ⟨a3, rfl, e1_3, e2_3, w3⟩ := open_int Try.underlying3 (hval 3 3 v3 rfl rfl) h3
  refine (calls_of_con (f8_law a0 xs1 a1 cap1 xs2 a2 cap2 a3 (allOf W) (i64_wf w0) gA1 gl1 gx1 gA2 gl2 gx2 (i64_wf w3)) fun _ _ _ h => h).mono fun e W' ⟨he, bel⟩ => ?_
  subst he
  exact ⟨_, rfl, _, _, _, [], _, [], hW', trodAll_mk1 (shut_bool Try.underlying4 _), (trodAll_cons_mk (Below.trod laidOut (by kernel_rfl) (of_decide_eq_true (by kernel_rfl)) k0 bel lt0) (trodAll_cons_mk (Below.trod laidOut (by kernel_rfl) (of_decide_eq_true (by kernel_rfl)) k1 bel lt1) (trodAll_cons_mk (Below.trod laidOut (by kernel_rfl) (of_decide_eq_true (by kernel_rfl)) k2 bel lt2) (trodAll_cons_mk (Below.trod laidOut (by kernel_rfl) (of_decide_eq_true (by kernel_rfl)) k3 bel lt3) trodAll_mk0)))), rfl, bel.frame _, fun h => by cases h⟩
theorem over8 : Rows.diskCrashBytesRow.holds Try.pinned (OpenSpec.ofChange Rows.diskCrashBytesSpec) :=
  OpenClaim.holds_of_wide 8 Try.f8 rfl rfl rfl rfl rfl rfl rfl ⟨rfl, rfl, rfl, rfl, rfl⟩ rfl rfl rfl rfl rfl (by kernel_rfl) Try.func8 (by kernel_rfl)
    (of_decide_eq_true (by kernel_rfl)) (by unfold Func.isWrapper; rw [if_neg (of_decide_eq_false (by kernel_rfl))]; exact ⟨rfl, rfl⟩)
    (fun os started H enc _ => lifted8 os started H enc)
theorem diskCrashBytes_holds : Rows.DiskCrashBytesSaid := over8
#print axioms diskCrashBytes_holds
end Go.Proofs.Ytdbkjegpeoopaaa
