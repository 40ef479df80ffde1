/- JournalRoom returns true for every input, and each argument reads afterwards as it read before; the listed package variables start as the program's text lays them, and the given tie to the text is used. -/
import Derived.Test.YtnlfohlngapkfaaDoorBa
import Derived.Test.YtnlfohlngapkfaaDoorBe
import Derived.Test.YtnlfohlngapkfaaDoorCards
import Derived.Test.YtnlfohlngapkfaaDoorTie
namespace Go.Proofs.YtnlfohlngapkfaaDoor
open Go Go.X
set_option maxRecDepth 10000
set_option linter.unusedVariables false
attribute [local irreducible] Code.wpIn wpListIn Exit.then Exit.inBlock X.Out X.Back X.W X.Ev X.Con X.BinV X.Wh X.Wn X.Wq
theorem zigzag_con (n : Int) (S : SH) (hw : wOk n) : Con Tryd.prog 50 #[.int .i64 n] S [] (Pure S (.int .u64 (zig n : Nat))) := by
  unfold wOk at hw
  refine con_of (args := [.int .i64 n]) Tryd.func50 rfl Tryd.ntmps50 rfl fun w => ?_
  by_cases h : n < 0
  · obtain ⟨m, rfl⟩ : ∃ m : Nat, n = -(m : Int) := ⟨(-n).toNat, by omega⟩
    have hc : IntKind.u64.wrap (- -(m : Int)) = (m : Int) := by rw [wrap_u64]; omega
    have hm : BinV Tryd.prog .mul .u64 (m : Int) 2 (.int .u64 ((m * 2 : Nat) : Int)) := bv_mulu64 (n := 2) (by omega)
    have hs : BinV Tryd.prog .sub .u64 ((m * 2 : Nat) : Int) 1 (.int .u64 ((zig (-(m : Int)) : Nat) : Int)) := by
      have := bv_subu64 (P := Tryd.prog) (m := m * 2) (n := 1) (by omega) (by omega)
      rw [show m * 2 - 1 = zig (-(m : Int)) by unfold zig; rw [if_pos h]; omega] at this
      exact this
    (repeat (first | refine Jc ?_ | (apply s_evb; (case hg => rfl); (case hd => rfl); (case hn => rfl); (case he => (apply ev_convw; (case hx => rfl); (case hw => exact hc)))) | (apply s_bin; (case hg => rfl); (case hd => rfl); (case hx => rfl); (case hy => rfl); (case hb => first | exact hm | exact hs)) | refine Jo ?_ | intro _))
    exact o_ret (L' := []) Tryd.results50 rfl (List.nil_sublist _) ⟨rfl, rfl, rfl⟩
  · obtain ⟨m, rfl⟩ : ∃ m : Nat, n = (m : Int) := ⟨n.toNat, by omega⟩
    have hc : IntKind.u64.wrap (m : Int) = (m : Int) := by rw [wrap_u64]; omega
    have hm : BinV Tryd.prog .mul .u64 (m : Int) 2 (.int .u64 ((zig (m : Int) : Nat) : Int)) := by
      have := bv_mulu64 (P := Tryd.prog) (m := m) (n := 2) (by omega)
      rw [show m * 2 = zig (m : Int) by unfold zig; rw [if_neg h]; omega] at this
      exact this
    (repeat (first | refine Jc ?_ | (apply s_evb; (case hg => rfl); (case hd => rfl); (case hn => rfl); (case he => (apply ev_convw; (case hx => rfl); (case hw => exact hc)))) | (apply s_bin; (case hg => rfl); (case hd => rfl); (case hx => rfl); (case hy => rfl); (case hb => first | exact hm | exact hs)) | refine Jo ?_ | intro _))
    exact o_ret (L' := []) Tryd.results50 rfl (List.nil_sublist _) ⟨rfl, rfl, rfl⟩
theorem rPutInt_con (n : Int) (S : SH) (hn : -9223372036854775808 ≤ n ∧ n ≤ 9223372036854775807) : Con Tryd.prog 27 #[.int .i64 n] S [] (Pure S (putV n)) := by
  refine con_of (args := [.int .i64 n]) Tryd.func27 rfl Tryd.ntmps27 rfl fun w => ?_
  by_cases hw : wOk n
  rotate_left
  · rw [putV, if_neg hw]
    unfold wOk at hw
    by_cases h1 : n < -4611686018427387903
    · (repeat (first | refine Jz ?_ | intro _))
      exact o_ret2 (L' := []) Tryd.results27 rfl rfl (List.nil_sublist _) ⟨rfl, rfl, rfl⟩
    · (repeat (first | refine Jz ?_ | intro _))
      exact o_ret2 (L' := []) Tryd.results27 rfl rfl (List.nil_sublist _) ⟨rfl, rfl, rfl⟩
  rw [putV, if_pos hw]
  have hw' := hw
  unfold wOk at hw'
  have hzb := zig_bd hw
  (repeat (first | refine Jc ?_ | ((apply z_call; rfl; rfl; rfl; exact zigzag_con n S hw; rintro _ _ _ - ⟨rfl, rfl, rfl⟩)) | refine Jo ?_ | intro _))
  unfold ibs
  generalize zig n = z0 at *
  refine c_loop (fun m S' L F => S' = S ∧ ∃ x v, m < 9223372036854775808 ∧ enc z0 = x ++ enc m ∧ Ows 5 v x L ∧
      F = [(4, .int .u64 m), (5, v)]) ⟨rfl, [], _, hzb, rfl, Ows.nil 5, rfl⟩ sbF sbL ?_
  rintro m S' L F ⟨rfl, x, v, hm, hx, ho, rfl⟩
  have hxl : x.length ≤ 64 := by
    have := congrArg List.length hx
    have h10 : (enc z0).length ≤ 10 := enc_len 9 z0 (Nat.lt_trans hzb (by decide))
    rw [List.length_append] at this
    omega
  by_cases hlt : m < 128
  · have hc : IntKind.u8.wrap (m : Int) = ((gby m).toNat : Int) := by rw [wrap_u8, gby, if_pos hlt, u8_nat (by omega)]; omega
    rw [enc_gby_lt hlt] at hx
    rw [hx]
    (repeat (first | refine Jc ?_ | (apply s_evb; (case hg => rfl); (case hd => rfl); (case hn => rfl); (case he => (apply ev_convw; (case hx => rfl); (case hw => exact hc)))) | (apply s_append (ms := [gby m]); (case hg => rfl); (case hd => rfl); (case hx => rfl); (case ho => exact ho); (case hL => (repeat (first | exact pm_nil _ | exact pm_refl _ _ | exact pm_self _ | apply pm_cons | apply pm_app))); (case hy => rfl); (case hm => rfl); (case hs => (apply Src.own; (repeat (first | exact List.Mem.head _ | apply List.Mem.tail | apply List.mem_append_right)))); (case hzs => rfl); (case h0 => decide); (case hb => (simp; omega)); (case h63 => (simp; omega)); intro v' ob' ho'; obtain ⟨g, cap, tl, rfl, rfl, q1, q2, q3⟩ := ho'.rowed (by simp)) | (apply s_evb; (case hg => rfl); (case hd => rfl); (case hn => rfl); (case he => (apply ev_str_row; (case hx => rfl); (case hm => (repeat (first | exact List.Mem.head _ | apply List.Mem.tail | apply List.mem_append_right))); (case hk => simp)))) | refine Jo ?_ | intro _))
    exact o_ret2 (L' := []) Tryd.results27 rfl rfl (List.nil_sublist _) ⟨rfl, rfl, by rw [List.drop_zero, List.take_length]⟩
  · have hr : BinV Tryd.prog .rem .u64 (m : Int) 128 (.int .u64 ((m % 128 : Nat) : Int)) := bv_rem64 (n := 128) (by decide)
    have ha : BinV Tryd.prog .add .u64 ((m % 128 : Nat) : Int) 128 (.int .u64 ((m % 128 + 128 : Nat) : Int)) := bv_addu64 (n := 128) (by omega)
    have hc : IntKind.u8.wrap ((m % 128 + 128 : Nat) : Int) = ((gby m).toNat : Int) := by rw [wrap_u8, gby, if_neg hlt, u8_nat (by omega)]; omega
    have hq : BinV Tryd.prog .quo .u64 (m : Int) 128 (.int .u64 ((m / 128 : Nat) : Int)) := bv_quo64 (n := 128) (by decide) (wrap_u64_in (by omega))
    rw [enc_gby_ge (z := m) (by omega)] at hx
    (repeat (first | refine Jc ?_ | (apply s_bin; (case hg => rfl); (case hd => rfl); (case hx => rfl); (case hy => rfl); (case hb => first | exact hr | exact ha | exact hq)) | (apply s_evb; (case hg => rfl); (case hd => rfl); (case hn => rfl); (case he => (apply ev_convw; (case hx => rfl); (case hw => exact hc)))) | (apply s_append (ms := [gby m]); (case hg => rfl); (case hd => rfl); (case hx => rfl); (case ho => exact ho); (case hL => (repeat (first | exact pm_nil _ | exact pm_refl _ _ | exact pm_self _ | apply pm_cons | apply pm_app))); (case hy => rfl); (case hm => rfl); (case hs => (apply Src.own; (repeat (first | exact List.Mem.head _ | apply List.Mem.tail | apply List.mem_append_right)))); (case hzs => rfl); (case h0 => decide); (case hb => (simp; omega)); (case h63 => (simp; omega)); intro v' ob' ho') | refine Jo ?_ | intro _))
    exact q_back (L' := ob') (m' := m / 128) ⟨rfl, x ++ [gby m], v', by omega, by rw [hx, List.append_assoc]; rfl, ho', rfl⟩ (by omega) sbF sbL
end Go.Proofs.YtnlfohlngapkfaaDoor
namespace Go.Proofs.YtnlfohlngapkfaaDoor
open Go Go.X
set_option maxRecDepth 10000
set_option linter.unusedVariables false
attribute [local irreducible] Code.wpIn wpListIn Exit.then Exit.inBlock X.Out X.Back X.W X.Ev X.Con X.BinV X.Wh X.Wn X.Wq
theorem rPutString_con (s : Bs) (S : SH) (hs : s.length ≤ 9223372036854775807) : Con Tryd.prog 10 #[strV s] S [] (X.Pure S (putSV s)) := by
  refine con_of (args := [strV s]) Tryd.func10 rfl Tryd.ntmps10 rfl fun w => ?_
  by_cases h : s.length ≤ 65536
  · have hw : wOk (s.length : Int) := by unfold wOk; omega
    have hl := ibs_len hw
    have hc : Con Tryd.prog 27 #[.int .i64 (s.length : Int)] S [] (X.Pure S (.tuple #[strV (ibs s.length), .int .i64 0])) := (rPutInt_con (s.length : Int) S (by omega)).eq (if_pos hw)
    (repeat (first | refine Jc ?_ | (apply s_evb; (case hg => rfl); (case hd => rfl); (case hn => rfl); (case he => (apply ev_len_b; rfl))) | ((apply z_call; rfl; rfl; rfl; exact hc; rintro _ _ _ - ⟨rfl, rfl, rfl⟩)) | (apply s_evb; (case hg => rfl); (case hd => rfl); (case hn => rfl); (case he => ((apply ev_add_bs; (case hx => rfl); (case hy => rfl); (case h => omega))))) | refine Jo ?_ | intro _))
    exact o_ret2 Tryd.results10 rfl rfl (List.nil_sublist _) ⟨rfl, rfl, (if_pos h).symm⟩
  · (repeat (first | refine Jc ?_ | (apply s_evb; (case hg => rfl); (case hd => rfl); (case hn => rfl); (case he => (apply ev_len_b; rfl))) | refine Jo ?_ | intro _))
    exact o_ret2 Tryd.results10 rfl rfl (List.nil_sublist _) ⟨rfl, rfl, (if_neg h).symm⟩
end Go.Proofs.YtnlfohlngapkfaaDoor
namespace Go.Proofs.YtnlfohlngapkfaaDoor
open Go Go.X
set_option maxRecDepth 10000
set_option linter.unusedVariables false
attribute [local irreducible] Code.wpIn wpListIn Exit.then Exit.inBlock X.Out X.Back X.W X.Ev X.Con X.BinV X.Wh X.Wn X.Wq
attribute [local irreducible] sumK chain stw group stored
/-- Append where the disk has no power. -/
theorem AppOff_con {jv v : Value} {K : List UInt32} {N : Nat} {a : List Str} {LJ LD : Blocks} (hJ : OwJ jv v (jnK K a) LJ) (hD : OwD v ⟨true, 0, Good K N a, Good K N a, []⟩ LD) (l : List Str) (A : Option Addr) (c : Nat) (S : SH) (hA : At S A l) (hl : l.length ≤ 1000) (ha : Short a) (hls : Short l) (hle : (recB K a).length ≤ N) (hN : N ≤ 1000000)
    (hK : Pts S ⟨4, 0, none⟩ (cellsOf K)) (hKl : K.length = 64) :
    Con Tryd.prog 11 #[jv, .slice A l.length c] S (LJ ++ LD) (fun S' L' r => ∃ LJ' LD', L' = LJ' ++ LD' ∧ OwD v ⟨true, 0, Good K N a, Good K N a, []⟩ LD' ∧
      (N < (recB K (a ++ l)).length ∧ OwJ jv v (jnK K a) LJ' ∧ r = .int .i64 331 ∨ (recB K (a ++ l)).length ≤ N ∧ l = [] ∧ OwJ jv v (jnK K a) LJ' ∧ r = .int .i64 0 ∨ (recB K (a ++ l)).length ≤ N ∧ l ≠ [] ∧ OwJ jv v { jnK K a with broken := true } LJ' ∧ r = .int .i64 321)) := by
  have hrl := recB_len (K := K) ha
  have hgl := Good_len hle
  have hlen : (recB K (a ++ l)).length = (recB K a).length + (group K (group K head0 a).2 l).1.length := by rw [recB_append, List.length_append]
  have h := Append_con hJ hD K l A c S hA hl rfl (List.any_eq_false.2 fun r hr => by have := hls r hr; simp only [isLong, decide_eq_true_eq]; omega) (group_head (by unfold head0; simp) a) (show (recB K a).length ≤ _ by omega) (show a.length ≤ _ by omega) (show (Good K N a).length ≤ _ by omega) (Nat.zero_le _) hK hKl
  have hap : appJ K (jnK K a) ⟨true, 0, Good K N a, Good K N a, []⟩ l = if N < (recB K (a ++ l)).length then (jnK K a, ⟨true, 0, Good K N a, Good K N a, []⟩, 331) else if l = [] then (jnK K a, ⟨true, 0, Good K N a, Good K N a, []⟩, 0) else ({ jnK K a with broken := true }, ⟨true, 0, Good K N a, Good K N a, []⟩, 321) := by
    unfold appJ jnK
    dsimp only
    rw [hgl]
    by_cases hr : N < (recB K (a ++ l)).length
    · rw [if_pos (by omega), if_pos hr]
    rw [if_neg (by omega), if_neg hr]
    by_cases hn : l = []
    · rw [if_pos ((grp_nil hls).2 hn), if_pos hn]
    · rw [if_neg (fun e => hn ((grp_nil hls).1 e)), if_neg hn, four_off]
      rfl
  rw [hap] at h
  refine h.mono fun S' L' r _ ⟨LJ', LD', e1, e2, e3, e4⟩ => ?_
  by_cases hr : N < (recB K (a ++ l)).length
  · rw [if_pos hr] at e2 e3 e4
    exact ⟨LJ', LD', e1, e3, .inl ⟨hr, e2, e4⟩⟩
  rw [if_neg hr] at e2 e3 e4
  by_cases hn : l = []
  · rw [if_pos hn] at e2 e3 e4
    exact ⟨LJ', LD', e1, e3, .inr (.inl ⟨by omega, hn, e2, e4⟩)⟩
  · rw [if_neg hn] at e2 e3 e4
    exact ⟨LJ', LD', e1, e3, .inr (.inr ⟨by omega, hn, e2, e4⟩)⟩
theorem RoomG_con {jv v : Value} {J : Jn} {N s : Nat} {D : Dk} {LJ LD : Blocks} (hJ : OwJ jv v J LJ) (hD : OwD v D LD) (S : SH) (hs : J.size = s) (hB : D.dur.length = N) (hle : s ≤ N) (hN : N ≤ 1000000) :
    Con Tryd.prog 12 #[jv] S (LJ ++ LD) (fun S' L' r => S' = S ∧ ∃ LD', L' = LJ ++ LD' ∧ OwD v D LD' ∧ r = .int .i64 ((N : Int) - s)) := by
  have h := Room_con hJ hD S (by omega) (by omega)
  rw [hB, hs] at h
  exact h
theorem sum_take {l : List Str} {k : Nat} {x : Str} (h : l[k]? = some x) : ((l.take (k + 1)).map fun r => 33 + (stw r.b).length).sum = ((l.take k).map fun r => 33 + (stw r.b).length).sum + (33 + (stw x.b).length) := by
  rw [List.take_add_one, h]
  simp
theorem len_x (K : List UInt32) (a : List Str) : (recB K (a ++ [⟨[120]⟩])).length = (recB K a).length + 35 := by
  rw [recB_append, List.length_append, group_sum]
  simp only [List.map_cons, List.map_nil, List.sum_cons, List.sum_nil, stw_leq, List.length_cons, List.length_nil]
  rw [ibs_small (by omega)]
  rfl
set_option maxHeartbeats 1600000 in
theorem room_law (n : Int) (l : List Str) (A : Option Addr) (c : Nat) (more : Int) (K : List UInt32) (p : Addr) (S : SH) (hn : i64 n) (hA : At S A l) (hm : i64 more) (hK : Pts S ⟨4, 0, none⟩ (cellsOf K)) (hKl : K.length = 64) (hE : Pts S ⟨0, 0, none⟩ [errV p]) :
    Con Tryd.prog 3 #[.int .i64 n, .slice A l.length c, .int .i64 more] S [] (fun S' L' r => r = .bool true) := by
  refine con_of (args := [.int .i64 n, .slice A l.length c, .int .i64 more]) Tryd.func3 rfl Tryd.ntmps3 rfl fun w => ?_
  have hb := sizeN_bd n
  obtain ⟨N, hN⟩ : ∃ N, N = sizeN n := ⟨_, rfl⟩
  have hsz : ∀ S, Con Tryd.prog 7 #[.int .i64 n] S [] (X.Pure S (.int .i64 (N : Nat))) := fun S => by rw [hN]; exact size_con n S hn
  have hpm := pickI_bd more 100 (by decide)
  obtain ⟨m, hmm⟩ : ∃ m : Nat, (m : Int) = pickI more 100 := ⟨(pickI more 100).toNat, by omega⟩
  have hpc : ∀ S, Con Tryd.prog 14 #[.int .i64 more, .int .i64 100] S [] (X.Pure S (.int .i64 (m : Nat))) := fun S => by rw [hmm]; exact lpick_con more 100 S hm (by decide)
  rw [← hmm] at hpm
  have h0 : (recB K []).length = 0 := by rw [recB_nil]; rfl
  have hfl := few_len l
  have hSf := few_short l
  (repeat (first | refine Jc ?_ | (apply s_call (L2 := []); (case hg => rfl); (case hd => rfl); (case ha => rfl); (case hc => exact sane_con K p S hK hKl hE); (case hL => (exact pmc (fun p => by first | rfl | ((repeat rw [List.countP_append]); (repeat rw [List.countP_cons]); (repeat rw [List.countP_nil]); (all_goals (first | rfl | omega)))))); rintro S1 L1 v1 hle1 ⟨rfl, rfl⟩) | (apply z_call; rfl; rfl; rfl; exact hsz _; rintro _ _ _ - ⟨rfl, rfl, rfl⟩) | (apply s_call (L2 := []); (case hg => rfl); (case hd => rfl); (case ha => rfl); (case hc => exact New_con N S1 (by omega)); (case hL => (exact pmc (fun p => by first | rfl | ((repeat rw [List.countP_append]); (repeat rw [List.countP_cons]); (repeat rw [List.countP_nil]); (all_goals (first | rfl | omega)))))); rintro S2 L2 v2 - ⟨rfl, v, hD, rfl⟩; rw [newD_eq K] at hD; obtain ⟨bd, rfl⟩ := hD.form) | refine Jo ?_ | intro _))
  (repeat (first | refine Jc ?_ | (apply s_call (L2 := []); (case hg => rfl); (case hd => rfl); (case ha => rfl); (case hc => exact OpenR_con hD (Good_mess (by omega)) (by omega) Short.nil S2 (hK.le hle1) hKl); (case hL => (exact pmc (fun p => by first | rfl | ((repeat rw [List.countP_append]); (repeat rw [List.countP_cons]); (repeat rw [List.countP_nil]); (all_goals (first | rfl | omega)))))); rintro S3 L3 v3 hle3 ⟨jv, LJ, LD, rfl, hJ, hD2, rfl⟩; obtain ⟨bj, rfl⟩ := hJ.form) | refine Jo ?_ | intro _))
  (repeat (first | refine Jc ?_ | (apply s_call (L2 := LJ ++ LD); (case hg => rfl); (case hd => rfl); (case ha => rfl); (case hc => exact few_con l A c _ (hA.le (hle1.trans hle3))); (case hL => (exact pmc (fun p => by first | rfl | ((repeat rw [List.countP_append]); (repeat rw [List.countP_cons]); (repeat rw [List.countP_nil]); (all_goals (first | rfl | omega)))))); rintro S4 L4 v4 - ⟨rfl, ho4⟩; refine W.freezeOws (L1 := LJ ++ LD) ho4 (pmc (fun p => by first | rfl | ((repeat rw [List.countP_append]); (repeat rw [List.countP_cons]); (repeat rw [List.countP_nil]); (all_goals (first | rfl | omega))))) fun S5 hle5 hs5 => ?_; obtain ⟨A5, c5, rfl, hc5, hA5⟩ := hs5) | refine Jo ?_ | intro _))
  obtain ⟨fl, hfe⟩ : ∃ fl, fl = fewL l := ⟨_, rfl⟩
  rw [← hfe] at hfl hSf hA5 hc5 ⊢
  have hle5' := hle1.trans (hle3.trans hle5)
  refine c_loop (fun m S' L F => S' = S5 ∧ L = LJ ++ LD ∧ ∃ (k : Nat), m = fl.length - k ∧ k ≤ fl.length ∧
      F = [(0, .int .i64 n), (1, .slice A5 fl.length c5), (2, .int .i64 more), (7, .bool true), (8, .pointer (some ⟨bd, 0, none⟩)), (10, .pointer (some ⟨bj, 0, none⟩)), (12, .int .i64 ((((fl.take k).map fun r => 33 + (stw r.b).length).sum : Nat) : Int)), (13, .int .i64 k)]) ⟨rfl, rfl, 0, rfl, by omega, rfl⟩ sbF (List.Sublist.refl _) ?_
  rintro mm S6 L F ⟨rfl, rfl, k, rfl, hk1, rfl⟩
  by_cases hlt : k < fl.length
  · obtain ⟨x, hx⟩ : ∃ x, fl[k]? = some x := ⟨_, List.getElem?_eq_getElem hlt⟩
    have hxs := hSf x (List.mem_of_getElem? hx)
    have hxl := stw_len hxs
    have hst := sum_take hx
    have hbd : ((fl.take k).map fun r => 33 + (stw r.b).length).sum ≤ 65600 * k := by
      have := (grp_len (K := K) (h := head0) (l := fl.take k) (fun r hr => hSf r (List.mem_of_mem_take hr))).2
      rw [group_sum, List.length_take] at this
      exact Nat.le_trans this (Nat.mul_le_mul_left _ (Nat.min_le_left _ _))
    obtain ⟨sm, hsm⟩ : ∃ sm, sm = ((fl.take k).map fun r => 33 + (stw r.b).length).sum := ⟨_, rfl⟩
    rw [← hsm] at hst hbd ⊢
    have hps : ∀ S, Con Tryd.prog 10 #[strV x.b] S [] (X.Pure S (.tuple #[strV (stw x.b), .int .i64 0])) := fun S => (rPutString_con x.b S (by omega)).eq (if_pos hxs)
    (repeat (first | refine Jc ?_ | (apply s_idx hA5; (case hg => rfl); (case hd => rfl); (case hx => rfl); (case hi => rfl); (case hm => rfl); (case hu => exact hx); intro q (hq : Pts _ q [strV x.b])) | (apply s_load1; (case hg => rfl); (case hd => rfl); (case hx => rfl); (case hv => exact hq)) | (apply z_call; rfl; rfl; rfl; exact hps _; rintro _ _ _ - ⟨rfl, rfl, rfl⟩) | (apply s_evb; (case hg => rfl); (case hd => rfl); (case hn => rfl); (case he => (apply ev_len_b; rfl))) | refine Jo ?_ | intro _))
    have e : (sm : Int) + 33 + ((stw x.b).length : Int) = ((sm + (33 + (stw x.b).length) : Nat) : Int) := by omega
    rw [e]
    exact q_back (m' := fl.length - (k + 1)) (F' := [(0, .int .i64 n), (1, .slice A5 fl.length c5), (2, .int .i64 more), (7, .bool true), (8, .pointer (some ⟨bd, 0, none⟩)), (10, .pointer (some ⟨bj, 0, none⟩)), (12, .int .i64 ((sm + (33 + (stw x.b).length) : Nat) : Int)), (13, .int .i64 ((k : Int) + 1))]) ⟨rfl, rfl, k + 1, rfl, by omega, by rw [hst]; rfl⟩ (by omega) sbF (List.Sublist.refl _)
  have hk : k = fl.length := by omega
  subst hk
  rw [List.take_of_length_le (Nat.le_refl _)]
  have hsum := recB_sum K fl
  rw [← hsum]
  have hKS := hK.le hle5'
  have h0a : ([] : List Str) ++ fl = fl := List.nil_append _
  (repeat (first | refine Jc ?_ | (apply s_call (L2 := []); (case hg => rfl); (case hd => rfl); (case ha => rfl); (case hc => exact AppS_con hJ hD2 fl A5 c5 S6 hA5 (by omega) Short.nil hSf (by omega) (by omega) hKS hKl); (case hL => (exact pmc (fun p => by first | rfl | ((repeat rw [List.countP_append]); (repeat rw [List.countP_cons]); (repeat rw [List.countP_nil]); (all_goals (first | rfl | omega)))))); rintro S7 L7 v7 hle7 ⟨LJ7, LD7, rfl, h7⟩; rw [h0a] at h7; have hKS7 := hKS.le hle7; have hA7 := hA5.le hle7; rcases h7 with ⟨hc7, hJ7, hD7, rfl⟩ | ⟨hc7, hJ7, hD7, rfl⟩) | refine Jo ?_ | intro _))
  · have hsa : Short [] := Short.nil
    have hra : (recB K []).length ≤ N := (by omega)
    have haN : [] ++ ([] : List Str) = [] := List.append_nil _
    have hal := recB_len (K := K) hsa
    have hG := Good_len hra
    have hlx := len_x K []
    (repeat (first | refine Jc ?_ | (apply z_call; rfl; rfl; rfl; exact hsz _; rintro _ _ _ - ⟨rfl, rfl, rfl⟩) | (apply s_call (L2 := []); (case hg => rfl); (case hd => rfl); (case ha => rfl); (case hc => exact RoomS_con hJ7 hD7 _ hG hra (by omega)); (case hL => (exact pmc (fun p => by first | rfl | ((repeat rw [List.countP_append]); (repeat rw [List.countP_cons]); (repeat rw [List.countP_nil]); (all_goals (first | rfl | omega)))))); rintro S8 L8 v8 - ⟨rfl, LD8, rfl, hD8, rfl⟩) | refine Jo ?_ | intro _))
    (apply s_call (L2 := LD8); (case hg => rfl); (case hd => rfl); (case ha => rfl); (case hc => exact Records_con hJ7 _ (show ([] : List Str).length ≤ _ by omega)); (case hL => (exact pmc (fun p => by first | rfl | ((repeat rw [List.countP_append]); (repeat rw [List.countP_cons]); (repeat rw [List.countP_nil]); (all_goals (first | rfl | omega)))))); rintro S9 L9 v9 - ⟨rfl, ob9, rfl, ho9⟩)
    refine W.freezeOws (L1 := LJ7 ++ LD8) ho9 (pmc (fun p => by first | rfl | ((repeat rw [List.countP_append]); (repeat rw [List.countP_cons]); (repeat rw [List.countP_nil]); (all_goals (first | rfl | omega))))) fun S10 hle10 hs10 => ?_
    obtain ⟨A10, c10, rfl, -, hA10⟩ := hs10
    (repeat (first | refine Jc ?_ | (apply s_append_st (ms := fl) (hA7.le hle10); (case hg => rfl); (case hd => rfl); (case hx => rfl); (case ho => exact Ows.full (α := Str) (l := []) rfl (by decide)); (case hL => (repeat (first | exact pm_nil _ | exact pm_refl _ _ | exact pm_self _ | apply pm_cons | apply pm_app))); (case hy => rfl); (case hm => first | rfl | simp); (case hzs => rfl); (case h0 => decide); (case hb => first | (simp; omega) | simp); (case h63 => first | (simp; omega) | simp); intro v11 ob11 ho11) | (apply z_call; rfl; rfl; rfl; exact hpc _; rintro _ _ _ - ⟨rfl, rfl, rfl⟩) | (apply s_make1 (m := 65537 + m); (case hg => rfl); (case hd => rfl); (case hx => exact congrArg (fun z => some (Value.int .i64 z)) (show 65537 + (m : Int) = ((65537 + m : Nat) : Int) by omega)); (case hy => exact congrArg (fun z => some (Value.int .i64 z)) (show 65537 + (m : Int) = ((65537 + m : Nat) : Int) by omega)); (case hzc => rfl); (case hb => omega); (case h63 => omega); intro _) | (apply s_evb; (case hg => rfl); (case hd => rfl); (case hn => rfl); (case he => ((apply ev_str_own (B := List.replicate (65537 + m) 0); (case hx => rfl); (case hm => (rw [← cellsOf_zero]; exact List.Mem.head _)); (case hk => simp))))) | (apply s_append (ms := [(⟨((List.replicate (65537 + m) (0 : UInt8)).drop 0).take (65537 + m)⟩ : Str)]); (case hg => rfl); (case hd => rfl); (case hx => rfl); (case ho => exact ho11); (case hL => (repeat (first | exact pm_nil _ | exact pm_refl _ _ | exact pm_self _ | apply pm_cons | apply pm_app))); (case hy => rfl); (case hm => rfl); (case hs => (apply Src.own; (repeat (first | exact List.Mem.head _ | apply List.Mem.tail | apply List.mem_append_right)))); (case hzs => rfl); (case h0 => decide); (case hb => (simp; omega)); (case h63 => (simp; omega)); intro v12 ob12 ho12) | refine Jo ?_ | intro _))
    refine W.weaken (L' := ob12 ++ (LJ7 ++ LD8)) ?_ (X.Sub.refl _) sbL
    refine W.freezeOws (L1 := LJ7 ++ LD8) ho12 (pmc (fun p => by first | rfl | ((repeat rw [List.countP_append]); (repeat rw [List.countP_cons]); (repeat rw [List.countP_nil]); (all_goals (first | rfl | omega))))) fun S13 hle13 hs13 => ?_
    obtain ⟨A13, c13, rfl, -, hA13⟩ := hs13
    have hKS13 := hKS7.le (hle10.trans hle13)
    (repeat (first | refine Jc ?_ | (apply s_call (L2 := LD8); (case hg => rfl); (case hd => rfl); (case ha => rfl); (case hc => exact AppendBad_con hJ7 _ A13 c13 S13 hA13 (by simp; omega) (.inr (List.any_eq_true.2 ⟨_, List.mem_append_right _ (List.mem_singleton.2 rfl), by simp [isLong]; omega⟩))); (case hL => (exact pmc (fun p => by first | rfl | ((repeat rw [List.countP_append]); (repeat rw [List.countP_cons]); (repeat rw [List.countP_nil]); (all_goals (first | rfl | omega)))))); rintro S14 L14 v14 - ⟨rfl, rfl, rfl⟩) | refine Jo ?_ | intro _))
    (apply s_call (L2 := []); (case hg => rfl); (case hd => rfl); (case ha => rfl); (case hc => exact AppS_con hJ7 hD8 [] none 0 S14 (At.nil _ _) (by decide) hsa Short.nil hra (by omega) hKS13 hKl); (case hL => (exact pmc (fun p => by first | rfl | ((repeat rw [List.countP_append]); (repeat rw [List.countP_cons]); (repeat rw [List.countP_nil]); (all_goals (first | rfl | omega)))))); rintro S15 L15 v15 hle15 ⟨LJ15, LD15, rfl, h15⟩)
    rw [haN] at h15
    obtain ⟨-, hJ15, hD15, rfl⟩ := h15.resolve_left (fun h => by have := h.1; omega)
    (repeat (first | refine Jc ?_ | (apply s_call (L2 := LJ15); (case hg => rfl); (case hd => rfl); (case ha => rfl); (case hc => exact Cut_con hD15 S15 0 (by unfold i64; omega)); (case hL => (exact pmc (fun p => by first | rfl | ((repeat rw [List.countP_append]); (repeat rw [List.countP_cons]); (repeat rw [List.countP_nil]); (all_goals (first | rfl | omega)))))); rintro S16 L16 v16 - ⟨rfl, hD16, rfl⟩) | refine Jo ?_ | intro _))
    have hcut : cutD (setD (Good K N [])) 0 = ⟨true, 0, Good K N [], Good K N [], []⟩ := by simp [cutD, setD]
    rw [hcut] at hD16
    rename_i bx
    refine W.freeze fun S17 hle17 hb17 => ?_
    have hxs : Short [(⟨[120]⟩ : Str)] := by intro r hr; simp only [List.mem_singleton] at hr; subst hr; decide
    (repeat (first | refine Jc ?_ | (apply s_call (L2 := []); (case hg => rfl); (case hd => rfl); (case ha => rfl); (case hc => exact AppOff_con hJ15 hD16 [(⟨[120]⟩ : Str)] (some ⟨bx, 0, none⟩) 1 S17 (fun _ => ⟨_, rfl, pts_block hb17 rfl⟩) (by decide) hsa hxs hra (by omega) (hKS13.le (hle15.trans hle17)) hKl); (case hL => (exact pmc (fun p => by first | rfl | ((repeat rw [List.countP_append]); (repeat rw [List.countP_cons]); (repeat rw [List.countP_nil]); (all_goals (first | rfl | omega)))))); rintro S18 L18 v18 hle18 ⟨LJ18, LD18, rfl, hD18, h18⟩; rw [hlx] at h18; rcases h18 with ⟨hc18, hJ18, rfl⟩ | ⟨-, hbad, -⟩ | ⟨hc18, -, hJ18, rfl⟩) | refine Jo ?_ | intro _))
    · (repeat (first | refine Jc ?_ | (apply s_call (L2 := []); (case hg => rfl); (case hd => rfl); (case ha => rfl); (case hc => exact RoomG_con hJ18 hD18 _ (s := (recB K []).length) (N := N) rfl hG hra (by omega)); (case hL => (exact pmc (fun p => by first | rfl | ((repeat rw [List.countP_append]); (repeat rw [List.countP_cons]); (repeat rw [List.countP_nil]); (all_goals (first | rfl | omega)))))); rintro S19 L19 v19 - ⟨rfl, LD19, rfl, hD19, rfl⟩) | refine Jo ?_ | intro _))
      (apply s_call (L2 := []); (case hg => rfl); (case hd => rfl); (case ha => rfl); (case hc => exact AppOff_con hJ18 hD19 [] none 0 S19 (At.nil _ _) (by decide) hsa Short.nil hra (by omega) (hKS13.le (hle15.trans (hle17.trans hle18))) hKl); (case hL => (exact pmc (fun p => by first | rfl | ((repeat rw [List.countP_append]); (repeat rw [List.countP_cons]); (repeat rw [List.countP_nil]); (all_goals (first | rfl | omega)))))); rintro S20 L20 v20 hle20 ⟨LJ20, LD20, rfl, hD20, h20⟩)
      rw [haN] at h20
      rcases h20 with ⟨hc20, -⟩ | ⟨-, -, hJ20, rfl⟩ | ⟨-, hbad, -⟩
      · omega
      · (repeat (first | refine Jc ?_ | (apply s_call (L2 := LD20); (case hg => rfl); (case hd => rfl); (case ha => rfl); (case hc => exact Records_con hJ20 _ (show ([] : List Str).length ≤ _ by omega)); (case hL => (exact pmc (fun p => by first | rfl | ((repeat rw [List.countP_append]); (repeat rw [List.countP_cons]); (repeat rw [List.countP_nil]); (all_goals (first | rfl | omega)))))); rintro S21 L21 v21 - ⟨rfl, ob21, rfl, ho21⟩; refine W.freezeOws (L1 := LJ20 ++ LD20) ho21 (pmc (fun p => by first | rfl | ((repeat rw [List.countP_append]); (repeat rw [List.countP_cons]); (repeat rw [List.countP_nil]); (all_goals (first | rfl | omega))))) fun S22 hle22 hs22 => ?_; obtain ⟨A22, c22, rfl, -, hA22⟩ := hs22) | (apply z_call; rfl; rfl; rfl; exact same_con_t (l := []) (r := []) hA22 (hA10.le (hle13.trans (hle15.trans (hle17.trans (hle18.trans (hle20.trans hle22)))))) (by omega) rfl; rintro _ _ _ - ⟨rfl, rfl, rfl⟩) | (apply z_call; rfl; rfl; rfl; exact AppendNil_con _ _ _ _; rintro _ _ _ - ⟨rfl, rfl, rfl⟩) | (apply z_call; rfl; rfl; rfl; exact RecordsNil_con _; rintro _ _ _ - ⟨rfl, rfl, rfl⟩) | (apply z_call; rfl; rfl; rfl; exact RoomNil_con _; rintro _ _ _ - ⟨rfl, rfl, rfl⟩) | refine Jo ?_ | intro _))
        refine W.trim (F' := [(6, .bool true)]) (L' := []) sbF (List.nil_sublist _) ?_
        exact o_ret Tryd.results3 rfl (List.nil_sublist _) rfl
      · exact absurd rfl hbad
    · cases hbad
    · (repeat (first | refine Jc ?_ | (apply s_call (L2 := []); (case hg => rfl); (case hd => rfl); (case ha => rfl); (case hc => exact RoomG_con hJ18 hD18 _ (s := (recB K []).length) (N := N) rfl hG hra (by omega)); (case hL => (exact pmc (fun p => by first | rfl | ((repeat rw [List.countP_append]); (repeat rw [List.countP_cons]); (repeat rw [List.countP_nil]); (all_goals (first | rfl | omega)))))); rintro S19 L19 v19 - ⟨rfl, LD19, rfl, hD19, rfl⟩) | refine Jo ?_ | intro _))
      (repeat (first | refine Jc ?_ | (apply s_call (L2 := LD19); (case hg => rfl); (case hd => rfl); (case ha => rfl); (case hc => exact AppendBad_con hJ18 [] none 0 S19 (At.nil _ _) (by decide) (.inl rfl)); (case hL => (exact pmc (fun p => by first | rfl | ((repeat rw [List.countP_append]); (repeat rw [List.countP_cons]); (repeat rw [List.countP_nil]); (all_goals (first | rfl | omega)))))); rintro S20 L20 v20 - ⟨rfl, rfl, rfl⟩) | refine Jo ?_ | intro _))
      (repeat (first | refine Jc ?_ | (apply s_call (L2 := LD19); (case hg => rfl); (case hd => rfl); (case ha => rfl); (case hc => exact Records_con hJ18 _ (show ([] : List Str).length ≤ _ by omega)); (case hL => (exact pmc (fun p => by first | rfl | ((repeat rw [List.countP_append]); (repeat rw [List.countP_cons]); (repeat rw [List.countP_nil]); (all_goals (first | rfl | omega)))))); rintro S21 L21 v21 - ⟨rfl, ob21, rfl, ho21⟩; refine W.freezeOws (L1 := L20 ++ LD19) ho21 (pmc (fun p => by first | rfl | ((repeat rw [List.countP_append]); (repeat rw [List.countP_cons]); (repeat rw [List.countP_nil]); (all_goals (first | rfl | omega))))) fun S22 hle22 hs22 => ?_; obtain ⟨A22, c22, rfl, -, hA22⟩ := hs22) | (apply z_call; rfl; rfl; rfl; exact same_con_t (l := []) (r := []) hA22 (hA10.le (hle13.trans (hle15.trans (hle17.trans (hle18.trans hle22))))) (by omega) rfl; rintro _ _ _ - ⟨rfl, rfl, rfl⟩) | (apply z_call; rfl; rfl; rfl; exact AppendNil_con _ _ _ _; rintro _ _ _ - ⟨rfl, rfl, rfl⟩) | (apply z_call; rfl; rfl; rfl; exact RecordsNil_con _; rintro _ _ _ - ⟨rfl, rfl, rfl⟩) | (apply z_call; rfl; rfl; rfl; exact RoomNil_con _; rintro _ _ _ - ⟨rfl, rfl, rfl⟩) | refine Jo ?_ | intro _))
      refine W.trim (F' := [(6, .bool true)]) (L' := []) sbF (List.nil_sublist _) ?_
      exact o_ret Tryd.results3 rfl (List.nil_sublist _) rfl
  · have hsa : Short fl := hSf
    have hra : (recB K fl).length ≤ N := hc7
    have haN : fl ++ ([] : List Str) = fl := List.append_nil _
    have hal := recB_len (K := K) hsa
    have hG := Good_len hra
    have hlx := len_x K fl
    (repeat (first | refine Jc ?_ | (apply z_call; rfl; rfl; rfl; exact hsz _; rintro _ _ _ - ⟨rfl, rfl, rfl⟩) | (apply s_call (L2 := []); (case hg => rfl); (case hd => rfl); (case ha => rfl); (case hc => exact RoomS_con hJ7 hD7 _ hG hra (by omega)); (case hL => (exact pmc (fun p => by first | rfl | ((repeat rw [List.countP_append]); (repeat rw [List.countP_cons]); (repeat rw [List.countP_nil]); (all_goals (first | rfl | omega)))))); rintro S8 L8 v8 - ⟨rfl, LD8, rfl, hD8, rfl⟩) | refine Jo ?_ | intro _))
    (apply s_call (L2 := LD8); (case hg => rfl); (case hd => rfl); (case ha => rfl); (case hc => exact Records_con hJ7 _ (show (fl : List Str).length ≤ _ by omega)); (case hL => (exact pmc (fun p => by first | rfl | ((repeat rw [List.countP_append]); (repeat rw [List.countP_cons]); (repeat rw [List.countP_nil]); (all_goals (first | rfl | omega)))))); rintro S9 L9 v9 - ⟨rfl, ob9, rfl, ho9⟩)
    refine W.freezeOws (L1 := LJ7 ++ LD8) ho9 (pmc (fun p => by first | rfl | ((repeat rw [List.countP_append]); (repeat rw [List.countP_cons]); (repeat rw [List.countP_nil]); (all_goals (first | rfl | omega))))) fun S10 hle10 hs10 => ?_
    obtain ⟨A10, c10, rfl, -, hA10⟩ := hs10
    (repeat (first | refine Jc ?_ | (apply s_append_st (ms := fl) (hA7.le hle10); (case hg => rfl); (case hd => rfl); (case hx => rfl); (case ho => exact Ows.full (α := Str) (l := []) rfl (by decide)); (case hL => (repeat (first | exact pm_nil _ | exact pm_refl _ _ | exact pm_self _ | apply pm_cons | apply pm_app))); (case hy => rfl); (case hm => first | rfl | simp); (case hzs => rfl); (case h0 => decide); (case hb => first | (simp; omega) | simp); (case h63 => first | (simp; omega) | simp); intro v11 ob11 ho11) | (apply z_call; rfl; rfl; rfl; exact hpc _; rintro _ _ _ - ⟨rfl, rfl, rfl⟩) | (apply s_make1 (m := 65537 + m); (case hg => rfl); (case hd => rfl); (case hx => exact congrArg (fun z => some (Value.int .i64 z)) (show 65537 + (m : Int) = ((65537 + m : Nat) : Int) by omega)); (case hy => exact congrArg (fun z => some (Value.int .i64 z)) (show 65537 + (m : Int) = ((65537 + m : Nat) : Int) by omega)); (case hzc => rfl); (case hb => omega); (case h63 => omega); intro _) | (apply s_evb; (case hg => rfl); (case hd => rfl); (case hn => rfl); (case he => ((apply ev_str_own (B := List.replicate (65537 + m) 0); (case hx => rfl); (case hm => (rw [← cellsOf_zero]; exact List.Mem.head _)); (case hk => simp))))) | (apply s_append (ms := [(⟨((List.replicate (65537 + m) (0 : UInt8)).drop 0).take (65537 + m)⟩ : Str)]); (case hg => rfl); (case hd => rfl); (case hx => rfl); (case ho => exact ho11); (case hL => (repeat (first | exact pm_nil _ | exact pm_refl _ _ | exact pm_self _ | apply pm_cons | apply pm_app))); (case hy => rfl); (case hm => rfl); (case hs => (apply Src.own; (repeat (first | exact List.Mem.head _ | apply List.Mem.tail | apply List.mem_append_right)))); (case hzs => rfl); (case h0 => decide); (case hb => (simp; omega)); (case h63 => (simp; omega)); intro v12 ob12 ho12) | refine Jo ?_ | intro _))
    refine W.weaken (L' := ob12 ++ (LJ7 ++ LD8)) ?_ (X.Sub.refl _) sbL
    refine W.freezeOws (L1 := LJ7 ++ LD8) ho12 (pmc (fun p => by first | rfl | ((repeat rw [List.countP_append]); (repeat rw [List.countP_cons]); (repeat rw [List.countP_nil]); (all_goals (first | rfl | omega))))) fun S13 hle13 hs13 => ?_
    obtain ⟨A13, c13, rfl, -, hA13⟩ := hs13
    have hKS13 := hKS7.le (hle10.trans hle13)
    (repeat (first | refine Jc ?_ | (apply s_call (L2 := LD8); (case hg => rfl); (case hd => rfl); (case ha => rfl); (case hc => exact AppendBad_con hJ7 _ A13 c13 S13 hA13 (by simp; omega) (.inr (List.any_eq_true.2 ⟨_, List.mem_append_right _ (List.mem_singleton.2 rfl), by simp [isLong]; omega⟩))); (case hL => (exact pmc (fun p => by first | rfl | ((repeat rw [List.countP_append]); (repeat rw [List.countP_cons]); (repeat rw [List.countP_nil]); (all_goals (first | rfl | omega)))))); rintro S14 L14 v14 - ⟨rfl, rfl, rfl⟩) | refine Jo ?_ | intro _))
    (apply s_call (L2 := []); (case hg => rfl); (case hd => rfl); (case ha => rfl); (case hc => exact AppS_con hJ7 hD8 [] none 0 S14 (At.nil _ _) (by decide) hsa Short.nil hra (by omega) hKS13 hKl); (case hL => (exact pmc (fun p => by first | rfl | ((repeat rw [List.countP_append]); (repeat rw [List.countP_cons]); (repeat rw [List.countP_nil]); (all_goals (first | rfl | omega)))))); rintro S15 L15 v15 hle15 ⟨LJ15, LD15, rfl, h15⟩)
    rw [haN] at h15
    obtain ⟨-, hJ15, hD15, rfl⟩ := h15.resolve_left (fun h => by have := h.1; omega)
    (repeat (first | refine Jc ?_ | (apply s_call (L2 := LJ15); (case hg => rfl); (case hd => rfl); (case ha => rfl); (case hc => exact Cut_con hD15 S15 0 (by unfold i64; omega)); (case hL => (exact pmc (fun p => by first | rfl | ((repeat rw [List.countP_append]); (repeat rw [List.countP_cons]); (repeat rw [List.countP_nil]); (all_goals (first | rfl | omega)))))); rintro S16 L16 v16 - ⟨rfl, hD16, rfl⟩) | refine Jo ?_ | intro _))
    have hcut : cutD (setD (Good K N fl)) 0 = ⟨true, 0, Good K N fl, Good K N fl, []⟩ := by simp [cutD, setD]
    rw [hcut] at hD16
    rename_i bx
    refine W.freeze fun S17 hle17 hb17 => ?_
    have hxs : Short [(⟨[120]⟩ : Str)] := by intro r hr; simp only [List.mem_singleton] at hr; subst hr; decide
    (repeat (first | refine Jc ?_ | (apply s_call (L2 := []); (case hg => rfl); (case hd => rfl); (case ha => rfl); (case hc => exact AppOff_con hJ15 hD16 [(⟨[120]⟩ : Str)] (some ⟨bx, 0, none⟩) 1 S17 (fun _ => ⟨_, rfl, pts_block hb17 rfl⟩) (by decide) hsa hxs hra (by omega) (hKS13.le (hle15.trans hle17)) hKl); (case hL => (exact pmc (fun p => by first | rfl | ((repeat rw [List.countP_append]); (repeat rw [List.countP_cons]); (repeat rw [List.countP_nil]); (all_goals (first | rfl | omega)))))); rintro S18 L18 v18 hle18 ⟨LJ18, LD18, rfl, hD18, h18⟩; rw [hlx] at h18; rcases h18 with ⟨hc18, hJ18, rfl⟩ | ⟨-, hbad, -⟩ | ⟨hc18, -, hJ18, rfl⟩) | refine Jo ?_ | intro _))
    · (repeat (first | refine Jc ?_ | (apply s_call (L2 := []); (case hg => rfl); (case hd => rfl); (case ha => rfl); (case hc => exact RoomG_con hJ18 hD18 _ (s := (recB K fl).length) (N := N) rfl hG hra (by omega)); (case hL => (exact pmc (fun p => by first | rfl | ((repeat rw [List.countP_append]); (repeat rw [List.countP_cons]); (repeat rw [List.countP_nil]); (all_goals (first | rfl | omega)))))); rintro S19 L19 v19 - ⟨rfl, LD19, rfl, hD19, rfl⟩) | refine Jo ?_ | intro _))
      (apply s_call (L2 := []); (case hg => rfl); (case hd => rfl); (case ha => rfl); (case hc => exact AppOff_con hJ18 hD19 [] none 0 S19 (At.nil _ _) (by decide) hsa Short.nil hra (by omega) (hKS13.le (hle15.trans (hle17.trans hle18))) hKl); (case hL => (exact pmc (fun p => by first | rfl | ((repeat rw [List.countP_append]); (repeat rw [List.countP_cons]); (repeat rw [List.countP_nil]); (all_goals (first | rfl | omega)))))); rintro S20 L20 v20 hle20 ⟨LJ20, LD20, rfl, hD20, h20⟩)
      rw [haN] at h20
      rcases h20 with ⟨hc20, -⟩ | ⟨-, -, hJ20, rfl⟩ | ⟨-, hbad, -⟩
      · omega
      · (repeat (first | refine Jc ?_ | (apply s_call (L2 := LD20); (case hg => rfl); (case hd => rfl); (case ha => rfl); (case hc => exact Records_con hJ20 _ (show (fl : List Str).length ≤ _ by omega)); (case hL => (exact pmc (fun p => by first | rfl | ((repeat rw [List.countP_append]); (repeat rw [List.countP_cons]); (repeat rw [List.countP_nil]); (all_goals (first | rfl | omega)))))); rintro S21 L21 v21 - ⟨rfl, ob21, rfl, ho21⟩; refine W.freezeOws (L1 := LJ20 ++ LD20) ho21 (pmc (fun p => by first | rfl | ((repeat rw [List.countP_append]); (repeat rw [List.countP_cons]); (repeat rw [List.countP_nil]); (all_goals (first | rfl | omega))))) fun S22 hle22 hs22 => ?_; obtain ⟨A22, c22, rfl, -, hA22⟩ := hs22) | (apply z_call; rfl; rfl; rfl; exact same_con_t (l := fl) (r := fl) hA22 (hA10.le (hle13.trans (hle15.trans (hle17.trans (hle18.trans (hle20.trans hle22)))))) (by omega) rfl; rintro _ _ _ - ⟨rfl, rfl, rfl⟩) | (apply z_call; rfl; rfl; rfl; exact AppendNil_con _ _ _ _; rintro _ _ _ - ⟨rfl, rfl, rfl⟩) | (apply z_call; rfl; rfl; rfl; exact RecordsNil_con _; rintro _ _ _ - ⟨rfl, rfl, rfl⟩) | (apply z_call; rfl; rfl; rfl; exact RoomNil_con _; rintro _ _ _ - ⟨rfl, rfl, rfl⟩) | refine Jo ?_ | intro _))
        refine W.trim (F' := [(6, .bool true)]) (L' := []) sbF (List.nil_sublist _) ?_
        exact o_ret Tryd.results3 rfl (List.nil_sublist _) rfl
      · exact absurd rfl hbad
    · cases hbad
    · (repeat (first | refine Jc ?_ | (apply s_call (L2 := []); (case hg => rfl); (case hd => rfl); (case ha => rfl); (case hc => exact RoomG_con hJ18 hD18 _ (s := (recB K fl).length) (N := N) rfl hG hra (by omega)); (case hL => (exact pmc (fun p => by first | rfl | ((repeat rw [List.countP_append]); (repeat rw [List.countP_cons]); (repeat rw [List.countP_nil]); (all_goals (first | rfl | omega)))))); rintro S19 L19 v19 - ⟨rfl, LD19, rfl, hD19, rfl⟩) | refine Jo ?_ | intro _))
      (repeat (first | refine Jc ?_ | (apply s_call (L2 := LD19); (case hg => rfl); (case hd => rfl); (case ha => rfl); (case hc => exact AppendBad_con hJ18 [] none 0 S19 (At.nil _ _) (by decide) (.inl rfl)); (case hL => (exact pmc (fun p => by first | rfl | ((repeat rw [List.countP_append]); (repeat rw [List.countP_cons]); (repeat rw [List.countP_nil]); (all_goals (first | rfl | omega)))))); rintro S20 L20 v20 - ⟨rfl, rfl, rfl⟩) | refine Jo ?_ | intro _))
      (repeat (first | refine Jc ?_ | (apply s_call (L2 := LD19); (case hg => rfl); (case hd => rfl); (case ha => rfl); (case hc => exact Records_con hJ18 _ (show (fl : List Str).length ≤ _ by omega)); (case hL => (exact pmc (fun p => by first | rfl | ((repeat rw [List.countP_append]); (repeat rw [List.countP_cons]); (repeat rw [List.countP_nil]); (all_goals (first | rfl | omega)))))); rintro S21 L21 v21 - ⟨rfl, ob21, rfl, ho21⟩; refine W.freezeOws (L1 := L20 ++ LD19) ho21 (pmc (fun p => by first | rfl | ((repeat rw [List.countP_append]); (repeat rw [List.countP_cons]); (repeat rw [List.countP_nil]); (all_goals (first | rfl | omega))))) fun S22 hle22 hs22 => ?_; obtain ⟨A22, c22, rfl, -, hA22⟩ := hs22) | (apply z_call; rfl; rfl; rfl; exact same_con_t (l := fl) (r := fl) hA22 (hA10.le (hle13.trans (hle15.trans (hle17.trans (hle18.trans hle22))))) (by omega) rfl; rintro _ _ _ - ⟨rfl, rfl, rfl⟩) | (apply z_call; rfl; rfl; rfl; exact AppendNil_con _ _ _ _; rintro _ _ _ - ⟨rfl, rfl, rfl⟩) | (apply z_call; rfl; rfl; rfl; exact RecordsNil_con _; rintro _ _ _ - ⟨rfl, rfl, rfl⟩) | (apply z_call; rfl; rfl; rfl; exact RoomNil_con _; rintro _ _ _ - ⟨rfl, rfl, rfl⟩) | refine Jo ?_ | intro _))
      refine W.trim (F' := [(6, .bool true)]) (L' := []) sbF (List.nil_sublist _) ?_
      exact o_ret Tryd.results3 rfl (List.nil_sublist _) rfl
end Go.Proofs.YtnlfohlngapkfaaDoor
namespace Go.Proofs.YtnlfohlngapkfaaDoor
open Go Go.X
open Go.ChangeShapes Go.WideShapes Go.ChangeAt Go.RowKit
set_option linter.unusedVariables false
set_option maxHeartbeats 1600000 in
set_option maxRecDepth 100000 in
theorem contractJournalRoom (H : Type) (enc : TypeId × Value → H) (W : World) (base : Nat) (args : Array Value) (ds gs : List (DataW H)) (before : List MemPlace)
    (hval0 : ∀ (j : Nat) t v, Tryd.f3.params[j]? = some t → args[j]? = some v → Value.okWide Tryd.prog W .any base t v)
    (hW : DataW.Whole enc Tryd.prog Tryd.f3.params.toList Rows.journalRoomSpec.vars false W args.toList ds gs before) (hL : laidMetH Tryd.prog Rows.journalRoomRow.laid W) :
    Calls Tryd.prog 3 args W fun e W' => ∃ v, e = .returned v ∧ Rows.journalRoomSpec.post enc Tryd.prog Tryd.f3 false true false false W args v W' := by
  have hval : ∀ (j : Nat) t v, Tryd.f3.params[j]? = some t → args[j]? = some v → Value.okWide Tryd.prog W .any base t v := hval0
  have hW' := hW
  obtain ⟨p, q, hA0, hV, rfl, hfz, hnd⟩ := hW
  have hA : DataW.TrodAll enc Tryd.prog W 0 (fun _ => true) true Tryd.f3.params.toList args.toList ds p := hA0
  rw [Tryd.params3] at hA hval
  obtain ⟨v0, vs0, d0, ds0, p0, q0, hargs, rfl, rfl, h0, r0⟩ := trodAll_cons hA
  obtain ⟨v1, vs1, d1, ds1, p1, q1, rfl, rfl, rfl, h1, r1⟩ := trodAll_cons r0
  obtain ⟨v2, vs2, d2, ds2, p2, q2, rfl, rfl, rfl, h2, r2⟩ := trodAll_cons r1
  obtain ⟨rfl, rfl, rfl⟩ := trodAll_nil r2
  obtain rfl : args = #[v0, v1, v2] := by cases args; simp_all
  obtain ⟨rfl, rfl⟩ := trodVars_none hV
  have k0 := h0
  have lt0 : ∀ x ∈ p0, x.block < W.heap.size := by obtain ⟨m, hm⟩ := k0; exact DataW.trod_lt m _ _ _ hm
  have k1 := h1
  have lt1 : ∀ x ∈ p1, x.block < W.heap.size := by obtain ⟨m, hm⟩ := k1; exact DataW.trod_lt m _ _ _ hm
  have k2 := h2
  have lt2 : ∀ x ∈ p2, x.block < W.heap.size := by obtain ⟨m, hm⟩ := k2; exact DataW.trod_lt m _ _ _ hm
  obtain ⟨a0, rfl, e1_0, e2_0, w0⟩ := open_int Tryd.underlying3 (hval 0 3 v0 rfl rfl) h0
  obtain ⟨a1, len1, cap1, rfl⟩ := okWide_slice Tryd.underlying22 (hval 1 22 v1 rfl rfl)
  obtain ⟨xs1, rfl, gl1, gm1, gA1, gx1⟩ := open_slm (α := Str) Tryd.underlying22 (by kernel_rfl) (rdb_str Tryd.underlying9) rfl h1
  obtain ⟨a2, rfl, e1_2, e2_2, w2⟩ := open_int Tryd.underlying3 (hval 2 3 v2 rfl rfl) h2
  obtain ⟨ep, hEp⟩ := err_laid hL
  refine (calls_of_con (room_law a0 xs1 a1 cap1 a2 roundK ep (allOf W) (i64_wf w0) gA1 (i64_wf w2) (round_laid hL) roundK_len hEp) fun _ _ _ h => h).mono fun e W' ⟨he, bel⟩ => ?_
  subst he
  exact ⟨_, rfl, _, _, _, [], _, [], hW', trodAll_mk1 (shut_bool Tryd.underlying4 _), (trodAll_cons_mk (Below.trod laidOut (by kernel_rfl) (of_decide_eq_true (by kernel_rfl)) k0 bel lt0) (trodAll_cons_mk (Below.trod laidOut (by kernel_rfl) (of_decide_eq_true (by kernel_rfl)) k1 bel lt1) (trodAll_cons_mk (Below.trod laidOut (by kernel_rfl) (of_decide_eq_true (by kernel_rfl)) k2 bel lt2) trodAll_mk0))), rfl, bel.frame _, fun h => by cases h⟩
theorem laid_metJournalRoom (os : Os) : laidMet Tryd.prog Rows.journalRoomRow.laid ((laidWorld os).forCall (fun _ _ => 0) ⟨#[], #[.int .i64 0, .slice none 0 0, .int .i64 0], []⟩).memory :=
  laidMet_of_run' 8 (by kernel_rfl) (by kernel_rfl)
theorem readsJournalRoom (os : Os) {H : Type} (enc : TypeId × Value → H) : ∃ places, DataW.whole enc Tryd.prog ((laidWorld os).forCall (fun _ _ => 0) ⟨#[], #[.int .i64 0, .slice none 0 0, .int .i64 0], []⟩).memory Tryd.f3.params.toList Rows.journalRoomSpec.vars false (#[.int .i64 0, .slice none 0 0, .int .i64 0] : Array Value).toList 8 = some ([.lit (.int .i64 0), .nil, .lit (.int .i64 0)], [], places) :=
  ⟨[], by kernel_rfl⟩
set_option maxRecDepth 100000 in
theorem liftedJournalRoom (os : Os) (started : os.Started) (H : Type) (enc : TypeId × Value → H) (F : Stop.Interp) :
    ReturnsInHanded {} Tryd.checked os 3 .any ((OpenSpec.ofChange Rows.journalRoomSpec).preRow enc Tryd.prog Tryd.f3 Rows.journalRoomRow.domain false Rows.journalRoomRow.laid) (((OpenSpec.ofChange Rows.journalRoomSpec).at F).post enc Tryd.prog Tryd.f3 false true false false) := by
  obtain ⟨places, hx⟩ := readsJournalRoom os enc
  refine returnsInHanded_of_row (C := Tryd.checked) (s := OpenSpec.ofChange Rows.journalRoomSpec) own started (by kernel_rfl) Tryd.func3
    (witness_row_at (enc := enc) (C := Tryd.checked) false (laidWorld os) #[.int .i64 0, .slice none 0 0, .int .i64 0] rfl (by kernel_rfl) (by kernel_rfl) (by kernel_rfl)
      (OpenSpec.preRow_of_cond 8 hx (by kernel_rfl) (fun k hk => by cases hk) (by kernel_rfl) (laid_metJournalRoom os))) ?_
  intro W base args ds gs before hval hW c1 c2 c3 hL c4 c5
  exact contractJournalRoom H enc W base args ds gs before hval hW hL
theorem saidJournalRoom : Rows.JournalRoomSaid :=
  OpenClaim.holds_of_cond 3 Tryd.f3 rfl rfl rfl rfl rfl rfl rfl ⟨rfl, rfl, rfl, rfl, rfl⟩ rfl rfl rfl rfl rfl (by kernel_rfl) Tryd.func3 (by kernel_rfl)
    (of_decide_eq_true (by kernel_rfl)) (by unfold Func.isWrapper; rw [if_neg (of_decide_eq_false (by kernel_rfl))]; exact ⟨rfl, rfl⟩)
    (fun os started H enc _ F => by rw [OpenClaim.pre_eq_preRow]; exact liftedJournalRoom os started H enc F)
theorem plainJournalRoom (f : FuncId) (fn : Func) (hf : Tryd.pinned.checked.prog.funcNamed "latecomer/latecomerlaw33.JournalRoom" = some f) (hfn : Tryd.pinned.checked.prog.funcs[f]? = some fn) :
    true = Tryd.pinned.checked.prog.looks [] ∧ ∀ (j : Nat) t, fn.params[j]? = some t → Tryd.pinned.checked.prog.wantsStandIn t = false := by
  obtain rfl : f = 3 := Option.some.inj ((show Tryd.prog.funcNamed "latecomer/latecomerlaw33.JournalRoom" = some 3 by kernel_rfl).symm.trans hf) |>.symm
  obtain rfl : fn = Tryd.f3 := (Option.some.inj (Tryd.func3.symm.trans hfn)).symm
  refine ⟨by kernel_rfl, fun j t ht => ?_⟩
  rw [Tryd.params3] at ht
  have hm := Array.mem_of_getElem? ht
  simp only [List.mem_toArray, List.mem_cons, List.not_mem_nil, or_false] at hm
  rcases hm with rfl | rfl | rfl
  · exact (show Tryd.prog.wantsStandIn 3 = false by kernel_rfl)
  · exact (show Tryd.prog.wantsStandIn 22 = false by kernel_rfl)
  · exact (show Tryd.prog.wantsStandIn 3 = false by kernel_rfl)
theorem journalRoom_holds : Rows.JournalRoomCardSaid :=
  Claim7.holds_tied_plain_at .later [] _ _ _ _ saidJournalRoom (fun _ h => by cases h) (by kernel_rfl) (fun _ h => by cases h) journalRoom_row_tie rfl ⟨rfl, rfl⟩ (by kernel_rfl) rfl plainJournalRoom (by kernel_rfl)
#print axioms journalRoom_holds
end Go.Proofs.YtnlfohlngapkfaaDoor
