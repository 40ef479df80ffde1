/- SketchCodeMatchesReference returns true for every input, and each argument reads afterwards as it read before; the one listed package variable starts as the program's text lays it, and the given tie to the text is used. -/
import Derived.Test.YtogfficbloejcaaDoorBc
import Derived.Test.YtogfficbloejcaaDoorXA
import Derived.Test.YtogfficbloejcaaDoorRows
import Derived.Lib.LaidTab
import Derived.Deep.DeepHandedRow
import Derived.OpenShut
import Derived.ProofKit
import Derived.Test.YtogfficbloejcaaDoorBf
import Derived.Test.YtogfficbloejcaaDoorCards
import Derived.Test.YtogfficbloejcaaDoorTie
namespace Go.Proofs.YtogfficbloejcaaDoor
open Go Go.X
open Go.ChangeShapes Go.WideShapes Go.ChangeAt Go.RowKit
theorem own : ownKnob Tryd.prog.godebug = none := by kernel_rfl
theorem laidOut : laidOutB Tryd.prog = true := by kernel_rfl
theorem gTab : Tryd.prog.globalNamed "latecomer/sketch.limits" = some 0 := by kernel_rfl
theorem gTabType : (Tryd.prog.globals[0]?).map (·.type) = some 80 := by kernel_rfl
theorem cells80 : Tryd.prog.cellsOf 80 = 4 := by kernel_rfl
theorem cells3 : Tryd.prog.cellsOf 3 = 1 := by kernel_rfl
theorem gl_laid {W : World} (h : laidMetH Tryd.prog Rows.sketchMergesRow.laid W) : Gl (allOf W) := by
  have ht : Lib.TabIs Tryd.prog W "latecomer/sketch.limits" .i64 limsL := Lib.tabIs_of_head (rest := []) gTab gTabType Tryd.underlying80 Tryd.underlying3 cells3 cells80 h
  have c0 : W.cell? ⟨0, 0, none⟩ = some (.int .i64 7) := ht.cell gTab 0 (by decide)
  have c1 : W.cell? ⟨0, 1, none⟩ = some (.int .i64 9) := ht.cell gTab 1 (by decide)
  have c2 : W.cell? ⟨0, 2, none⟩ = some (.int .i64 11) := ht.cell gTab 2 (by decide)
  have c3 : W.cell? ⟨0, 3, none⟩ = some (.int .i64 99) := ht.cell gTab 3 (by decide)
  intro j u hj
  match j, hj with
  | 0, hj => simp [limsL] at hj; subst hj; exact cell_all c0
  | 1, hj => simp [limsL] at hj; subst hj; exact cell_all c1
  | 2, hj => simp [limsL] at hj; subst hj; exact cell_all c2
  | 3, hj => simp [limsL] at hj; subst hj; exact cell_all c3
  | j + 4, hj => simp [limsL] at hj
noncomputable def laidWorld (os : Os) : World :=
  { World.holding Tryd.prog os ⟨#[], #[], []⟩ with heap := (World.holding Tryd.prog os ⟨#[], #[], []⟩).heap.modify 0 fun
      | .cells _ t frozen => .cells #[.int .i64 7, .int .i64 9, .int .i64 11, .int .i64 99] t frozen
      | o => o }
theorem rdb_K4 : Rdb (α := K4) Tryd.prog 68 (fun _ x => K4ok x) := fun H enc w fuel cs x h => by
  have hl : cs.length = 4 := len_a (by kernel_rfl) Tryd.underlying68 h
  match cs, hl with
  | [c0, c1, c2, c3], _ =>
  obtain ⟨a0, e0, o0⟩ := (rdb_int Tryd.underlying3).at_ (part_a 0 h (by decide))
  obtain ⟨a1, e1, o1⟩ := (rdb_int Tryd.underlying3).at_ (part_a 1 h (by decide))
  obtain ⟨a2, e2, o2⟩ := (rdb_int Tryd.underlying3).at_ (part_a 2 h (by decide))
  obtain ⟨a3, e3, o3⟩ := (rdb_int Tryd.underlying3).at_ (part_a 3 h (by decide))
  simp [Cl.cells] at e0 e1 e2 e3
  subst e0 e1 e2 e3
  exact ⟨⟨a0, a1, a2, a3⟩, rfl, o0, o1, o2, o3⟩
end Go.Proofs.YtogfficbloejcaaDoor
namespace Go.X
open Go Go.RowKit
/-- A struct that is an argument. -/
theorem open_rd {α : Type} [Cl α] {P : Program} {t : TypeId} {fs : Array Field} {ok : SH → α → Prop} (ht : P.underlying t = some (.struct fs)) (hr : Rdb P t ok) {H : Type} {enc : TypeId × Value → H} {w : World} {base : Nat} {v : Value} {d : DataW H} {ps : List MemPlace}
    (hv : Value.okWide P w .any base t v) (h : DataW.Trod enc P w 0 (fun _ => true) true t v d ps) : ∃ a : α, v = .agg (Cl.cells a).toArray ∧ ok (allOf w) a := by
  unfold Value.okWide at hv
  rw [ht] at hv
  obtain ⟨cs, rfl, _, _⟩ := hv
  obtain ⟨fuel, hf⟩ := h
  obtain ⟨a, h1, h2⟩ := hr _ _ _ _ _ _ hf
  simp only [Value.cells] at h1
  exact ⟨a, by rw [← h1], h2⟩
end Go.X
namespace Go.Proofs.YtogfficbloejcaaDoor
open Go Go.X
set_option maxRecDepth 10000
set_option linter.unusedVariables false
attribute [local irreducible] Code.wpIn wpListIn Exit.then Exit.inBlock X.Out X.Back X.W X.Ev X.Con X.BinV X.Wh X.Wn X.Wq
theorem rdb_Ce : Rdb (α := Ce) Tryd.prog 45 rawOk := fun H enc w fuel cs x h => by
  have hl : cs.length = 10 := len_s (by kernel_rfl) Tryd.underlying45 h
  match cs, hl with
  | [c0, c1, c2, c3, c4, c5, c6, c7, c8, c9], _ =>
  obtain ⟨a0, e0, o0⟩ := (rdb_int Tryd.underlying3).at_ (part_f 0 h)
  obtain ⟨a1, e1, o1⟩ := (rdb_int Tryd.underlying3).at_ (part_f 1 h)
  obtain ⟨a2, e2, o2⟩ := (rdb_int Tryd.underlying3).at_ (part_f 2 h)
  obtain ⟨a3, e3, o3⟩ := (rdb_int Tryd.underlying3).at_ (part_f 3 h)
  obtain ⟨a4, e4, o4⟩ := (rdb_int Tryd.underlying3).at_ (part_f 4 h)
  obtain ⟨a5, e5, o5⟩ := (rdb_int Tryd.underlying3).at_ (part_f 5 h)
  obtain ⟨a6, e6, o6⟩ := (rdb_int Tryd.underlying3).at_ (part_f 6 h)
  obtain ⟨a7, e7, o7⟩ := (rdb_int Tryd.underlying3).at_ (part_f 7 h)
  obtain ⟨⟨A8, m8, k8⟩, e8, l8, hm8, hc8, hA8, hy8⟩ := (rdb_slice Tryd.underlying43 (by kernel_rfl) (rdb_int Tryd.underlying3)).at_ (part_f 8 h)
  obtain ⟨⟨A9, m9, k9⟩, e9, l9, hm9, hc9, hA9, hy9⟩ := (rdb_slice Tryd.underlying43 (by kernel_rfl) (rdb_int Tryd.underlying3)).at_ (part_f 9 h)
  simp [Cl.cells] at e0 e1 e2 e3 e4 e5 e6 e7 e8 e9
  simp only at hm8 hc8 hA8 hm9 hc9 hA9
  subst e0 e1 e2 e3 e4 e5 e6 e7 e8 e9 hm8 hm9
  exact ⟨⟨⟨a0, a1, a2, a3, ⟨a4, a5, a6, a7, l8, l9⟩⟩, A8, k8, A9, k9⟩, rfl, hA8, hA9, hc8, hc9⟩
instance : Inhabited Ce := ⟨⟨⟨0, 0, 0, 0, ⟨0, 0, 0, 0, [], []⟩⟩, none, 0, none, 0⟩⟩
theorem rdb_raw : Rdb (α := Sv) Tryd.prog 24 rawSk := fun H enc w fuel cs x h => by
  have hl : cs.length = 1 := len_s (by kernel_rfl) Tryd.underlying24 h
  match cs, hl with
  | [c0], _ =>
  obtain ⟨⟨A8, m8, k8⟩, e8, l8, hm8, hc8, hA8, hy8⟩ := (rdb_slice Tryd.underlying22 (by kernel_rfl) rdb_Ce).at_ (part_f 0 h)
  simp [Cl.cells] at e8
  subst e8
  exact ⟨⟨A8, m8, k8⟩, rfl, l8, hm8, hc8, hA8, hy8⟩
end Go.Proofs.YtogfficbloejcaaDoor
namespace Go.Proofs.YtogfficbloejcaaDoor
open Go Go.X
open Go.ChangeShapes Go.WideShapes Go.ChangeAt Go.RowKit
set_option linter.unusedVariables false
set_option maxHeartbeats 1600000 in
set_option maxRecDepth 100000 in
theorem contract8 (H : Type) (enc : TypeId × Value → H) (W : World) (base : Nat) (args : Array Value) (ds gs : List (DataW H)) (before : List MemPlace)
    (hval0 : ∀ (j : Nat) t v, Tryd.f8.params[j]? = some t → args[j]? = some v → Value.okWide Tryd.prog W .any base t v)
    (hW : DataW.Whole enc Tryd.prog Tryd.f8.params.toList Rows.sketchCodeMatchesReferenceSpec.vars false W args.toList ds gs before) (hL : laidMetH Tryd.prog Rows.sketchCodeMatchesReferenceRow.laid W) :
    Calls Tryd.prog 8 args W fun e W' => ∃ v, e = .returned v ∧ Rows.sketchCodeMatchesReferenceSpec.post enc Tryd.prog Tryd.f8 false true false false W args v W' := by
  have hval : ∀ (j : Nat) t v, Tryd.f8.params[j]? = some t → args[j]? = some v → Value.okWide Tryd.prog W .any base t v := hval0
  have hW' := hW
  obtain ⟨p, q, hA0, hV, rfl, hfz, hnd⟩ := hW
  have hA : DataW.TrodAll enc Tryd.prog W 0 (fun _ => true) true Tryd.f8.params.toList args.toList ds p := hA0
  rw [Tryd.params8] at hA hval
  obtain ⟨v0, vs0, d0, ds0, p0, q0, hargs, rfl, rfl, h0, r0⟩ := trodAll_cons hA
  obtain ⟨v1, vs1, d1, ds1, p1, q1, rfl, rfl, rfl, h1, r1⟩ := trodAll_cons r0
  obtain ⟨v2, vs2, d2, ds2, p2, q2, rfl, rfl, rfl, h2, r2⟩ := trodAll_cons r1
  obtain ⟨v3, vs3, d3, ds3, p3, q3, rfl, rfl, rfl, h3, r3⟩ := trodAll_cons r2
  obtain ⟨v4, vs4, d4, ds4, p4, q4, rfl, rfl, rfl, h4, r4⟩ := trodAll_cons r3
  obtain ⟨rfl, rfl, rfl⟩ := trodAll_nil r4
  obtain rfl : args = #[v0, v1, v2, v3, v4] := by cases args; simp_all
  obtain ⟨rfl, rfl⟩ := trodVars_none hV
  have k0 := h0
  have lt0 : ∀ x ∈ p0, x.block < W.heap.size := by obtain ⟨m, hm⟩ := k0; exact DataW.trod_lt m _ _ _ hm
  have k1 := h1
  have lt1 : ∀ x ∈ p1, x.block < W.heap.size := by obtain ⟨m, hm⟩ := k1; exact DataW.trod_lt m _ _ _ hm
  have k2 := h2
  have lt2 : ∀ x ∈ p2, x.block < W.heap.size := by obtain ⟨m, hm⟩ := k2; exact DataW.trod_lt m _ _ _ hm
  have k3 := h3
  have lt3 : ∀ x ∈ p3, x.block < W.heap.size := by obtain ⟨m, hm⟩ := k3; exact DataW.trod_lt m _ _ _ hm
  have k4 := h4
  have lt4 : ∀ x ∈ p4, x.block < W.heap.size := by obtain ⟨m, hm⟩ := k4; exact DataW.trod_lt m _ _ _ hm
  obtain ⟨a0, rfl, g0⟩ := open_rd (α := Sv) Tryd.underlying24 rdb_raw (hval 0 24 v0 rfl rfl) h0
  obtain ⟨a1, len1, cap1, rfl⟩ := okWide_slice Tryd.underlying25 (hval 1 25 v1 rfl rfl)
  obtain ⟨xs1, rfl, gl1, gA1, gx1⟩ := open_sl (α := K4) Tryd.underlying25 (by kernel_rfl) rdb_K4 rfl h1
  obtain ⟨a2, rfl, e1_2, e2_2, w2⟩ := Go.ChangeMaps.open_string Tryd.underlying9 (hval 2 9 v2 rfl rfl) h2
  obtain ⟨a3, rfl, e1_3, e2_3, w3⟩ := open_int Tryd.underlying3 (hval 3 3 v3 rfl rfl) h3
  obtain ⟨a4, rfl, e1_4, e2_4, w4⟩ := open_int Tryd.underlying5 (hval 4 5 v4 rfl rfl) h4
  refine (calls_of_con (f8_law a0 xs1 a1 cap1 a2 a3 a4 (allOf W) (gl_laid hL) g0 gA1 gl1 gx1 w2 (i64_wf w3) w4) fun _ _ _ h => h).mono fun e W' ⟨he, bel⟩ => ?_
  subst he
  exact ⟨_, rfl, _, _, _, [], _, [], hW', trodAll_mk1 (shut_bool Tryd.underlying4 _), (trodAll_cons_mk (Below.trod laidOut (by kernel_rfl) (of_decide_eq_true (by kernel_rfl)) k0 bel lt0) (trodAll_cons_mk (Below.trod laidOut (by kernel_rfl) (of_decide_eq_true (by kernel_rfl)) k1 bel lt1) (trodAll_cons_mk (Below.trod laidOut (by kernel_rfl) (of_decide_eq_true (by kernel_rfl)) k2 bel lt2) (trodAll_cons_mk (Below.trod laidOut (by kernel_rfl) (of_decide_eq_true (by kernel_rfl)) k3 bel lt3) (trodAll_cons_mk (Below.trod laidOut (by kernel_rfl) (of_decide_eq_true (by kernel_rfl)) k4 bel lt4) trodAll_mk0))))), rfl, bel.frame _, fun h => by cases h⟩
theorem laid_met8 (os : Os) : laidMet Tryd.prog Rows.sketchCodeMatchesReferenceRow.laid ((laidWorld os).forCall (fun _ _ => 0) ⟨#[], #[.agg #[.slice none 0 0], .slice none 0 0, .string ByteArray.empty, .int .i64 0, .int .u8 0], []⟩).memory :=
  laidMet_of_run' 8 (by kernel_rfl) (by kernel_rfl)
theorem reads8 (os : Os) {H : Type} (enc : TypeId × Value → H) : ∃ places, DataW.whole enc Tryd.prog ((laidWorld os).forCall (fun _ _ => 0) ⟨#[], #[.agg #[.slice none 0 0], .slice none 0 0, .string ByteArray.empty, .int .i64 0, .int .u8 0], []⟩).memory Tryd.f8.params.toList Rows.sketchCodeMatchesReferenceSpec.vars false (#[.agg #[.slice none 0 0], .slice none 0 0, .string ByteArray.empty, .int .i64 0, .int .u8 0] : Array Value).toList 8 = some ([.agg [.nil], .nil, .lit (.string []), .lit (.int .i64 0), .lit (.int .u8 0)], [], places) :=
  ⟨[], by kernel_rfl⟩
set_option maxRecDepth 100000 in
theorem lifted8 (os : Os) (started : os.Started) (H : Type) (enc : TypeId × Value → H) (F : Stop.Interp) :
    ReturnsInHanded {} Tryd.checked os 8 .any ((OpenSpec.ofChange Rows.sketchCodeMatchesReferenceSpec).preRow enc Tryd.prog Tryd.f8 Rows.sketchCodeMatchesReferenceRow.domain false Rows.sketchCodeMatchesReferenceRow.laid) (((OpenSpec.ofChange Rows.sketchCodeMatchesReferenceSpec).at F).post enc Tryd.prog Tryd.f8 false true false false) := by
  obtain ⟨places, hx⟩ := reads8 os enc
  refine returnsInHanded_of_row (C := Tryd.checked) (s := OpenSpec.ofChange Rows.sketchCodeMatchesReferenceSpec) own started (by kernel_rfl) Tryd.func8
    (witness_row_at (enc := enc) (C := Tryd.checked) false (laidWorld os) #[.agg #[.slice none 0 0], .slice none 0 0, .string ByteArray.empty, .int .i64 0, .int .u8 0] rfl (by kernel_rfl) (by kernel_rfl) (by kernel_rfl)
      (OpenSpec.preRow_of_cond 8 hx (by kernel_rfl) (fun k hk => by cases hk) (by kernel_rfl) (laid_met8 os))) ?_
  intro W base args ds gs before hval hW _ _ _ hL _ _
  exact contract8 H enc W base args ds gs before hval hW hL
theorem said8 : Rows.SketchCodeMatchesReferenceSaid :=
  OpenClaim.holds_of_cond 8 Tryd.f8 rfl rfl rfl rfl rfl rfl rfl ⟨rfl, rfl, rfl, rfl, rfl⟩ rfl rfl rfl rfl rfl (by kernel_rfl) Tryd.func8 (by kernel_rfl)
    (of_decide_eq_true (by kernel_rfl)) (by unfold Func.isWrapper; rw [if_neg (of_decide_eq_false (by kernel_rfl))]; exact ⟨rfl, rfl⟩)
    (fun os started H enc _ F => by rw [OpenClaim.pre_eq_preRow]; exact lifted8 os started H enc F)
theorem plain8 (f : FuncId) (fn : Func) (hf : Tryd.pinned.checked.prog.funcNamed "latecomer/latecomerlaw17.SketchCodeMatchesReference" = some f) (hfn : Tryd.pinned.checked.prog.funcs[f]? = some fn) :
    false = Tryd.pinned.checked.prog.looks [] ∧ ∀ (j : Nat) t, fn.params[j]? = some t → Tryd.pinned.checked.prog.wantsStandIn t = false := by
  obtain rfl : f = 8 := Option.some.inj ((show Tryd.prog.funcNamed "latecomer/latecomerlaw17.SketchCodeMatchesReference" = some 8 by kernel_rfl).symm.trans hf) |>.symm
  obtain rfl : fn = Tryd.f8 := (Option.some.inj (Tryd.func8.symm.trans hfn)).symm
  refine ⟨by kernel_rfl, fun j t ht => ?_⟩
  rw [Tryd.params8] at ht
  have hm := Array.mem_of_getElem? ht
  simp only [List.mem_toArray, List.mem_cons, List.not_mem_nil, or_false] at hm
  rcases hm with rfl | rfl | rfl | rfl | rfl
  · exact (show Tryd.prog.wantsStandIn 24 = false by kernel_rfl)
  · exact (show Tryd.prog.wantsStandIn 25 = false by kernel_rfl)
  · exact (show Tryd.prog.wantsStandIn 9 = false by kernel_rfl)
  · exact (show Tryd.prog.wantsStandIn 3 = false by kernel_rfl)
  · exact (show Tryd.prog.wantsStandIn 5 = false by kernel_rfl)
theorem sketchCodeMatchesReference_holds : Rows.SketchCodeMatchesReferenceCardSaid :=
  Claim7.holds_tied_plain_at .later [] _ _ _ _ said8 (fun _ h => by cases h) (by kernel_rfl) (fun _ h => by cases h) sketchCodeMatchesReference_row_tie rfl ⟨rfl, rfl⟩ (by kernel_rfl) rfl plain8 (by kernel_rfl)
#print axioms sketchCodeMatchesReference_holds
end Go.Proofs.YtogfficbloejcaaDoor
