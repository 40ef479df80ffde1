/- JournalReopens returns true for every input, and each argument reads afterwards as it read before; the listed package variables start as the program's text lays them, and the given tie to the text is used. -/
import Derived.Test.YtnlfohlngapkfaaDoorBe
import Derived.Test.YtnlfohlngapkfaaDoorCards
import Derived.Test.YtnlfohlngapkfaaDoorTie
namespace Go.Proofs.YtnlfohlngapkfaaDoor
open Go Go.X
set_option maxRecDepth 10000
set_option linter.unusedVariables false
attribute [local irreducible] Code.wpIn wpListIn Exit.then Exit.inBlock X.Out X.Back X.W X.Ev X.Con X.BinV X.Wh X.Wn X.Wq
attribute [local irreducible] sumK chain stw group stored
set_option maxHeartbeats 1600000 in
theorem reopens_law (n : Int) (xs : List Sv) (A : Option Addr) (c : Nat) (K : List UInt32) (p : Addr) (S : SH) (hn : i64 n) (hA : At S A xs) (hx : ∀ x ∈ xs, slOk S x) (hK : Pts S ⟨4, 0, none⟩ (cellsOf K)) (hKl : K.length = 64) (hE : Pts S ⟨0, 0, none⟩ [errV p]) :
    Con Tryd.prog 4 #[.int .i64 n, .slice A xs.length c] S [] (fun S' L' r => r = .bool true) := by
  refine con_of (args := [.int .i64 n, .slice A xs.length c]) Tryd.func4 rfl Tryd.ntmps4 rfl fun w => ?_
  have hb := sizeN_bd n
  obtain ⟨N, hN⟩ : ∃ N, N = sizeN n := ⟨_, rfl⟩
  have hsz : ∀ S, Con Tryd.prog 7 #[.int .i64 n] S [] (X.Pure S (.int .i64 (N : Nat))) := fun S => by rw [hN]; exact size_con n S hn
  have h0 : (recB K []).length = 0 := by rw [recB_nil]; rfl
  (repeat (first | refine Jc ?_ | (apply s_call (L2 := []); (case hg => rfl); (case hd => rfl); (case ha => rfl); (case hc => exact sane_con K p S hK hKl hE); (case hL => (exact pmc (fun p => by first | rfl | (simp only [List.countP_append, List.countP_cons, List.countP_nil]; done) | (simp only [List.countP_append, List.countP_cons, List.countP_nil]; omega)))); rintro S1 L1 v1 hle1 ⟨rfl, rfl⟩) | (apply z_call; rfl; rfl; rfl; exact hsz _; rintro _ _ _ - ⟨rfl, rfl, rfl⟩) | (apply s_call (L2 := []); (case hg => rfl); (case hd => rfl); (case ha => rfl); (case hc => exact New_con N S1 (by omega)); (case hL => (exact pmc (fun p => by first | rfl | (simp only [List.countP_append, List.countP_cons, List.countP_nil]; done) | (simp only [List.countP_append, List.countP_cons, List.countP_nil]; omega)))); rintro S2 L2 v2 - ⟨rfl, v, hD, rfl⟩; rw [newD_eq K] at hD; obtain ⟨bd, rfl⟩ := hD.form) | refine Jo ?_ | intro _))
  (repeat (first | refine Jc ?_ | (apply s_call (L2 := []); (case hg => rfl); (case hd => rfl); (case ha => rfl); (case hc => exact OpenR_con hD (Good_mess (by omega)) (by omega) Short.nil S2 (hK.le hle1) hKl); (case hL => (exact pmc (fun p => by first | rfl | (simp only [List.countP_append, List.countP_cons, List.countP_nil]; done) | (simp only [List.countP_append, List.countP_cons, List.countP_nil]; omega)))); rintro S3 L3 v3 hle3 ⟨jv, LJ, LD, rfl, hJ, hD2, rfl⟩; obtain ⟨bj, rfl⟩ := hJ.form) | refine Jo ?_ | intro _))
  refine c_loop (fun m S' L F => Le S S' ∧ ∃ (k : Nat) (a : List Str) (LJ LD : Blocks), m = 8 - k ∧ k ≤ 8 ∧ Short a ∧ (recB K a).length ≤ N ∧ OwJ (.pointer (some ⟨bj, 0, none⟩)) (.pointer (some ⟨bd, 0, none⟩)) (jnK K a) LJ ∧ OwD (.pointer (some ⟨bd, 0, none⟩)) (setD (Good K N a)) LD ∧ L = LJ ++ LD ∧ F = [(0, .int .i64 n), (1, .slice A xs.length c), (5, .bool true), (6, .pointer (some ⟨bd, 0, none⟩)), (8, .pointer (some ⟨bj, 0, none⟩)), (10, .int .i64 k)]) ⟨hle1.trans hle3, 0, [], LJ, LD, rfl, by omega, Short.nil, by omega, hJ, hD2, rfl, rfl⟩ sbF (List.sublist_append_left _ _) ?_
  clear hJ hD2 hD
  rintro m S4 L F ⟨hle4, k, a, LJ, LD, rfl, hk8, hsa, hra, hJ, hD, rfl, rfl⟩
  have hKS := hK.le hle4
  by_cases hlt : k < xs.length ∧ k < 8
  · obtain ⟨h1, h2⟩ := hlt
    obtain ⟨x, hxk⟩ : ∃ x, xs[k]? = some x := ⟨_, List.getElem?_eq_getElem h1⟩
    obtain ⟨xa, xm, xc⟩ := x
    obtain ⟨l, hm, hc, hAl, hyl⟩ := (hx _ (List.mem_of_getElem? hxk)).le hle4
    simp only at hm hc hAl
    subst hm
    (repeat (first | refine Jc ?_ | (apply s_idx (hA.le hle4); (case hg => rfl); (case hd => rfl); (case hx => rfl); (case hi => rfl); (case hm => rfl); (case hu => exact hxk); intro q (hq : Pts _ q [.slice xa l.length xc])) | (apply s_load1; (case hg => rfl); (case hd => rfl); (case hx => rfl); (case hv => exact hq)) | (apply s_call (L2 := LJ ++ LD); (case hg => rfl); (case hd => rfl); (case ha => rfl); (case hc => exact few_con l xa xc S4 hAl); (case hL => (exact pmc (fun p => by first | rfl | (simp only [List.countP_append, List.countP_cons, List.countP_nil]; done) | (simp only [List.countP_append, List.countP_cons, List.countP_nil]; omega)))); rintro S5 L5 v5 - ⟨rfl, ho5⟩; refine W.freezeOws (L1 := LJ ++ LD) ho5 (pmc (fun p => by first | rfl | (simp only [List.countP_append, List.countP_cons, List.countP_nil]; done) | (simp only [List.countP_append, List.countP_cons, List.countP_nil]; omega))) fun S6 hle6 hs6 => ?_; obtain ⟨A6, c6, rfl, -, hA6⟩ := hs6) | refine Jo ?_ | intro _))
    (repeat (first | refine Jc ?_ | (apply s_call (L2 := []); (case hg => rfl); (case hd => rfl); (case ha => rfl); (case hc => exact AppS_con hJ hD (fewL l) A6 c6 S6 hA6 (by have := few_len l; omega) hsa (few_short l) hra (by omega) (hKS.le hle6) hKl); (case hL => (exact pmc (fun p => by first | rfl | (simp only [List.countP_append, List.countP_cons, List.countP_nil]; done) | (simp only [List.countP_append, List.countP_cons, List.countP_nil]; omega)))); rintro S7 L7 v7 hle7 ⟨LJ7, LD7, rfl, h7⟩) | refine Jo ?_ | intro _))
    rcases h7 with ⟨-, hJ7, hD7, rfl⟩ | ⟨hf, hJ7, hD7, rfl⟩
    · (repeat (first | refine Jz ?_ | intro _))
      exact q_back (m' := 8 - (k + 1)) ⟨hle4.trans (hle6.trans hle7), k + 1, a, LJ7, LD7, rfl, by omega, hsa, hra, hJ7, hD7, rfl, rfl⟩ (by omega) sbF (List.sublist_append_left _ _)
    · (repeat (first | refine Jz ?_ | intro _))
      exact q_back (m' := 8 - (k + 1)) ⟨hle4.trans (hle6.trans hle7), k + 1, a ++ fewL l, LJ7, LD7, rfl, by omega, hsa.app (few_short l), hf, hJ7, hD7, rfl, rfl⟩ (by omega) sbF (List.sublist_append_left _ _)
  have hG := Good_len hra
  have hrl := recB_len (K := K) hsa
  by_cases h1 : k < xs.length
  all_goals
    (repeat (first | refine Jc ?_ | (apply s_call (L2 := LJ); (case hg => rfl); (case hd => rfl); (case ha => rfl); (case hc => exact Cut_con hD S4 1 (by unfold i64; omega)); (case hL => (exact pmc (fun p => by first | rfl | (simp only [List.countP_append, List.countP_cons, List.countP_nil]; done) | (simp only [List.countP_append, List.countP_cons, List.countP_nil]; omega)))); rintro S5 L5 v5 - ⟨rfl, hD5, rfl⟩) | refine Jo ?_ | intro _))
    have hcut : cutD (setD (Good K N a)) 1 = ⟨false, 1, Good K N a, Good K N a, []⟩ := by simp [cutD, setD]
    obtain ⟨D, hDe⟩ : ∃ D, D = (⟨false, 1, Good K N a, Good K N a, []⟩ : Dk) := ⟨_, rfl⟩
    rw [hcut, ← hDe] at hD5
    have d1 : D.off = false := by rw [hDe]
    have d2 : D.vis.length = N := by rw [hDe]; exact hG
    have d3 : D.dur.length = N := by rw [hDe]; exact hG
    have d4 : D.pend.length = 0 := by rw [hDe]; rfl
    have d5 : D.vis = (group K head0 a).1 ++ zs (N - (recB K a).length) := by rw [hDe]; rfl
    (repeat (first | refine Jc ?_ | (apply s_call (L2 := LJ); (case hg => rfl); (case hd => rfl); (case ha => rfl); (case hc => exact OpenOk_con hD5 K a _ S5 d1 (d2.trans d3.symm) (by omega) d5 hsa (by omega) (fun c hc => zs_at _ c hc) ((trimB_nil _).2 (by rw [zs_len])) hKS hKl); (case hL => (exact pmc (fun p => by first | rfl | (simp only [List.countP_append, List.countP_cons, List.countP_nil]; done) | (simp only [List.countP_append, List.countP_cons, List.countP_nil]; omega)))); rintro S6 L6 v6 hle6 ⟨kv, LK, LD6, rfl, hJk0, hD6, rfl⟩; obtain ⟨bk, rfl⟩ := hJk0.form; have hJk : OwJ (.pointer (some ⟨bk, 0, none⟩)) (.pointer (some ⟨bd, 0, none⟩)) (jnK K a) LK := hJk0) | (apply s_evb; (case hg => rfl); (case hd => rfl); (case hn => rfl); (case he => (apply ev_eql_p; (case hx => rfl); (case hy => rfl)))) | (apply s_evb; (case hg => rfl); (case hd => rfl); (case hn => rfl); (case he => (apply ev_neq_p; (case hx => rfl); (case hy => rfl)))) | refine Jo ?_ | intro _))
    (repeat (first | refine Jc ?_ | (apply s_call (L2 := LK ++ LD6); (case hg => rfl); (case hd => rfl); (case ha => rfl); (case hc => exact Records_con hJ S6 (show a.length ≤ _ by omega)); (case hL => (exact pmc (fun p => by first | rfl | (simp only [List.countP_append, List.countP_cons, List.countP_nil]; done) | (simp only [List.countP_append, List.countP_cons, List.countP_nil]; omega)))); rintro S7 L7 v7 - ⟨rfl, ob7, rfl, ho7⟩; refine W.freezeOws (L1 := LJ ++ (LK ++ LD6)) ho7 (pmc (fun p => by first | rfl | (simp only [List.countP_append, List.countP_cons, List.countP_nil]; done) | (simp only [List.countP_append, List.countP_cons, List.countP_nil]; omega))) fun S8 hle8 hs8 => ?_; obtain ⟨A8, c8, rfl, -, hA8⟩ := hs8) | refine Jo ?_ | intro _))
    (repeat (first | refine Jc ?_ | (apply s_call (L2 := LJ ++ LD6); (case hg => rfl); (case hd => rfl); (case ha => rfl); (case hc => exact Records_con hJk S8 (show a.length ≤ _ by omega)); (case hL => (exact pmc (fun p => by first | rfl | (simp only [List.countP_append, List.countP_cons, List.countP_nil]; done) | (simp only [List.countP_append, List.countP_cons, List.countP_nil]; omega)))); rintro S9 L9 v9 - ⟨rfl, ob9, rfl, ho9⟩; refine W.freezeOws (L1 := LK ++ (LJ ++ LD6)) ho9 (pmc (fun p => by first | rfl | (simp only [List.countP_append, List.countP_cons, List.countP_nil]; done) | (simp only [List.countP_append, List.countP_cons, List.countP_nil]; omega))) fun S10 hle10 hs10 => ?_; obtain ⟨A10, c10, rfl, -, hA10⟩ := hs10) | ((apply z_call; rfl; rfl; rfl; exact same_con_t (l := a) (r := a) (hA8.le hle10) hA10 (by omega) rfl; rintro _ _ _ - ⟨rfl, rfl, rfl⟩)) | refine Jo ?_ | intro _))
    (repeat (first | refine Jc ?_ | (apply s_call (L2 := LK); (case hg => rfl); (case hd => rfl); (case ha => rfl); (case hc => exact RoomN_con hJ hD6 _ d3 hra (by omega)); (case hL => (exact pmc (fun p => by first | rfl | (simp only [List.countP_append, List.countP_cons, List.countP_nil]; done) | (simp only [List.countP_append, List.countP_cons, List.countP_nil]; omega)))); rintro S11 L11 v11 - ⟨rfl, LD11, rfl, hD11, rfl⟩) | refine Jo ?_ | intro _))
    (repeat (first | refine Jc ?_ | (apply s_call (L2 := LJ); (case hg => rfl); (case hd => rfl); (case ha => rfl); (case hc => exact RoomN_con hJk hD11 _ d3 hra (by omega)); (case hL => (exact pmc (fun p => by first | rfl | (simp only [List.countP_append, List.countP_cons, List.countP_nil]; done) | (simp only [List.countP_append, List.countP_cons, List.countP_nil]; omega)))); rintro S12 L12 v12 - ⟨rfl, LD12, rfl, hD12, rfl⟩) | refine Jo ?_ | intro _))
    have hct := content_con hD12 S12 d1 (d2.trans d3.symm) (by omega)
    (repeat (first | refine Jc ?_ | (apply s_call (L2 := LK ++ LJ); (case hg => rfl); (case hd => rfl); (case ha => rfl); (case hc => exact Pending_con hD12 S12); (case hL => (exact pmc (fun p => by first | rfl | (simp only [List.countP_append, List.countP_cons, List.countP_nil]; done) | (simp only [List.countP_append, List.countP_cons, List.countP_nil]; omega)))); rintro S13 L13 v13 - ⟨rfl, hD13, rfl⟩) | refine Jo ?_ | intro _))
    (repeat (first | refine Jc ?_ | (apply s_call (L2 := LK ++ LJ); (case hg => rfl); (case hd => rfl); (case ha => rfl); (case hc => exact content_con hD13 _ d1 (d2.trans d3.symm) (by omega)); (case hL => (exact pmc (fun p => by first | rfl | (simp only [List.countP_append, List.countP_cons, List.countP_nil]; done) | (simp only [List.countP_append, List.countP_cons, List.countP_nil]; omega)))); rintro S14 L14 v14 - ⟨rfl, hD14, rfl⟩) | (apply s_evb; (case hg => rfl); (case hd => rfl); (case hn => rfl); (case he => (apply ev_len_b; rfl))) | (apply z_call; rfl; rfl; rfl; exact hsz _; rintro _ _ _ - ⟨rfl, rfl, rfl⟩) | refine Jo ?_ | intro _))
    exact o_ret Tryd.results4 rfl (List.nil_sublist _) rfl
end Go.Proofs.YtnlfohlngapkfaaDoor
namespace Go.Proofs.YtnlfohlngapkfaaDoor
open Go Go.X
open Go.ChangeShapes Go.WideShapes Go.ChangeAt Go.RowKit
set_option linter.unusedVariables false
set_option maxHeartbeats 1600000 in
set_option maxRecDepth 100000 in
theorem contractJournalReopens (H : Type) (enc : TypeId × Value → H) (W : World) (base : Nat) (args : Array Value) (ds gs : List (DataW H)) (before : List MemPlace)
    (hval0 : ∀ (j : Nat) t v, Tryd.f4.params[j]? = some t → args[j]? = some v → Value.okWide Tryd.prog W .any base t v)
    (hW : DataW.Whole enc Tryd.prog Tryd.f4.params.toList Rows.journalReopensSpec.vars false W args.toList ds gs before) (hL : laidMetH Tryd.prog Rows.journalReopensRow.laid W) :
    Calls Tryd.prog 4 args W fun e W' => ∃ v, e = .returned v ∧ Rows.journalReopensSpec.post enc Tryd.prog Tryd.f4 false true false false W args v W' := by
  have hval : ∀ (j : Nat) t v, Tryd.f4.params[j]? = some t → args[j]? = some v → Value.okWide Tryd.prog W .any base t v := hval0
  have hW' := hW
  obtain ⟨p, q, hA0, hV, rfl, hfz, hnd⟩ := hW
  have hA : DataW.TrodAll enc Tryd.prog W 0 (fun _ => true) true Tryd.f4.params.toList args.toList ds p := hA0
  rw [Tryd.params4] at hA hval
  obtain ⟨v0, vs0, d0, ds0, p0, q0, hargs, rfl, rfl, h0, r0⟩ := trodAll_cons hA
  obtain ⟨v1, vs1, d1, ds1, p1, q1, rfl, rfl, rfl, h1, r1⟩ := trodAll_cons r0
  obtain ⟨rfl, rfl, rfl⟩ := trodAll_nil r1
  obtain rfl : args = #[v0, v1] := by cases args; simp_all
  obtain ⟨rfl, rfl⟩ := trodVars_none hV
  have k0 := h0
  have lt0 : ∀ x ∈ p0, x.block < W.heap.size := by obtain ⟨m, hm⟩ := k0; exact DataW.trod_lt m _ _ _ hm
  have k1 := h1
  have lt1 : ∀ x ∈ p1, x.block < W.heap.size := by obtain ⟨m, hm⟩ := k1; exact DataW.trod_lt m _ _ _ hm
  obtain ⟨a0, rfl, e1_0, e2_0, w0⟩ := open_int Tryd.underlying3 (hval 0 3 v0 rfl rfl) h0
  obtain ⟨a1, len1, cap1, rfl⟩ := okWide_slice Tryd.underlying43 (hval 1 43 v1 rfl rfl)
  obtain ⟨xs1, rfl, gl1, gA1, gx1⟩ := open_sl (α := Sv) Tryd.underlying43 (by kernel_rfl) slOk_rdb rfl h1
  obtain ⟨ep, hEp⟩ := err_laid hL
  refine (calls_of_con (reopens_law a0 xs1 a1 cap1 roundK ep (allOf W) (i64_wf w0) gA1 gx1 (round_laid hL) roundK_len hEp) fun _ _ _ h => h).mono fun e W' ⟨he, bel⟩ => ?_
  subst he
  exact ⟨_, rfl, _, _, _, [], _, [], hW', trodAll_mk1 (shut_bool Tryd.underlying4 _), (trodAll_cons_mk (Below.trod laidOut (by kernel_rfl) (of_decide_eq_true (by kernel_rfl)) k0 bel lt0) (trodAll_cons_mk (Below.trod laidOut (by kernel_rfl) (of_decide_eq_true (by kernel_rfl)) k1 bel lt1) trodAll_mk0)), rfl, bel.frame _, fun h => by cases h⟩
theorem laid_metJournalReopens (os : Os) : laidMet Tryd.prog Rows.journalReopensRow.laid ((laidWorld os).forCall (fun _ _ => 0) ⟨#[], #[.int .i64 0, .slice none 0 0], []⟩).memory :=
  laidMet_of_run' 8 (by kernel_rfl) (by kernel_rfl)
theorem readsJournalReopens (os : Os) {H : Type} (enc : TypeId × Value → H) : ∃ places, DataW.whole enc Tryd.prog ((laidWorld os).forCall (fun _ _ => 0) ⟨#[], #[.int .i64 0, .slice none 0 0], []⟩).memory Tryd.f4.params.toList Rows.journalReopensSpec.vars false (#[.int .i64 0, .slice none 0 0] : Array Value).toList 8 = some ([.lit (.int .i64 0), .nil], [], places) :=
  ⟨[], by kernel_rfl⟩
set_option maxRecDepth 100000 in
theorem liftedJournalReopens (os : Os) (started : os.Started) (H : Type) (enc : TypeId × Value → H) (F : Stop.Interp) :
    ReturnsInHanded {} Tryd.checked os 4 .any ((OpenSpec.ofChange Rows.journalReopensSpec).preRow enc Tryd.prog Tryd.f4 Rows.journalReopensRow.domain false Rows.journalReopensRow.laid) (((OpenSpec.ofChange Rows.journalReopensSpec).at F).post enc Tryd.prog Tryd.f4 false true false false) := by
  obtain ⟨places, hx⟩ := readsJournalReopens os enc
  refine returnsInHanded_of_row (C := Tryd.checked) (s := OpenSpec.ofChange Rows.journalReopensSpec) own started (by kernel_rfl) Tryd.func4
    (witness_row_at (enc := enc) (C := Tryd.checked) false (laidWorld os) #[.int .i64 0, .slice none 0 0] rfl (by kernel_rfl) (by kernel_rfl) (by kernel_rfl)
      (OpenSpec.preRow_of_cond 8 hx (by kernel_rfl) (fun k hk => by cases hk) (by kernel_rfl) (laid_metJournalReopens os))) ?_
  intro W base args ds gs before hval hW c1 c2 c3 hL c4 c5
  exact contractJournalReopens H enc W base args ds gs before hval hW hL
theorem saidJournalReopens : Rows.JournalReopensSaid :=
  OpenClaim.holds_of_cond 4 Tryd.f4 rfl rfl rfl rfl rfl rfl rfl ⟨rfl, rfl, rfl, rfl, rfl⟩ rfl rfl rfl rfl rfl (by kernel_rfl) Tryd.func4 (by kernel_rfl)
    (of_decide_eq_true (by kernel_rfl)) (by unfold Func.isWrapper; rw [if_neg (of_decide_eq_false (by kernel_rfl))]; exact ⟨rfl, rfl⟩)
    (fun os started H enc _ F => by rw [OpenClaim.pre_eq_preRow]; exact liftedJournalReopens os started H enc F)
theorem plainJournalReopens (f : FuncId) (fn : Func) (hf : Tryd.pinned.checked.prog.funcNamed "latecomer/latecomerlaw33.JournalReopens" = some f) (hfn : Tryd.pinned.checked.prog.funcs[f]? = some fn) :
    true = Tryd.pinned.checked.prog.looks [] ∧ ∀ (j : Nat) t, fn.params[j]? = some t → Tryd.pinned.checked.prog.wantsStandIn t = false := by
  obtain rfl : f = 4 := Option.some.inj ((show Tryd.prog.funcNamed "latecomer/latecomerlaw33.JournalReopens" = some 4 by kernel_rfl).symm.trans hf) |>.symm
  obtain rfl : fn = Tryd.f4 := (Option.some.inj (Tryd.func4.symm.trans hfn)).symm
  refine ⟨by kernel_rfl, fun j t ht => ?_⟩
  rw [Tryd.params4] at ht
  have hm := Array.mem_of_getElem? ht
  simp only [List.mem_toArray, List.mem_cons, List.not_mem_nil, or_false] at hm
  rcases hm with rfl | rfl
  · exact (show Tryd.prog.wantsStandIn 3 = false by kernel_rfl)
  · exact (show Tryd.prog.wantsStandIn 43 = false by kernel_rfl)
theorem journalReopens_holds : Rows.JournalReopensCardSaid :=
  Claim7.holds_tied_plain_at .later [] _ _ _ _ saidJournalReopens (fun _ h => by cases h) (by kernel_rfl) (fun _ h => by cases h) journalReopens_row_tie rfl ⟨rfl, rfl⟩ (by kernel_rfl) rfl plainJournalReopens (by kernel_rfl)
#print axioms journalReopens_holds
end Go.Proofs.YtnlfohlngapkfaaDoor
