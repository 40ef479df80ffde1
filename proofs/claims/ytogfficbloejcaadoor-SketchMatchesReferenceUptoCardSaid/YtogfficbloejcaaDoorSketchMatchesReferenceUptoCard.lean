/- SketchMatchesReferenceUpto returns true for every input, and each argument reads afterwards as it read before; the one listed package variable starts as the program's text lays it, and the given tie to the text is used. -/
import Derived.Test.YtogfficbloejcaaDoorBc
import Derived.Test.YtogfficbloejcaaDoorXA
import Derived.Test.YtogfficbloejcaaDoorRows
import Derived.Lib.LaidTab
import Derived.Deep.DeepHandedRow
import Derived.OpenShut
import Derived.ProofKit
import Derived.Test.YtogfficbloejcaaDoorBe
import Derived.Test.YtogfficbloejcaaDoorXB
import Derived.Test.YtogfficbloejcaaDoorCards
import Derived.Test.YtogfficbloejcaaDoorTie
namespace Go.Proofs.YtogfficbloejcaaDoor
open Go Go.X
open Go.ChangeShapes Go.WideShapes Go.ChangeAt Go.RowKit
theorem own : ownKnob Tryd.prog.godebug = none := by kernel_rfl
theorem laidOut : laidOutB Tryd.prog = true := by kernel_rfl
theorem gTab : Tryd.prog.globalNamed "latecomer/sketch.limits" = some 0 := by kernel_rfl
theorem gTabType : (Tryd.prog.globals[0]?).map (·.type) = some 80 := by kernel_rfl
theorem cells80 : Tryd.prog.cellsOf 80 = 4 := by kernel_rfl
theorem cells3 : Tryd.prog.cellsOf 3 = 1 := by kernel_rfl
theorem gl_laid {W : World} (h : laidMetH Tryd.prog Rows.sketchMergesRow.laid W) : Gl (allOf W) := by
  have ht : Lib.TabIs Tryd.prog W "latecomer/sketch.limits" .i64 limsL := Lib.tabIs_of_head (rest := []) gTab gTabType Tryd.underlying80 Tryd.underlying3 cells3 cells80 h
  have c0 : W.cell? ⟨0, 0, none⟩ = some (.int .i64 7) := ht.cell gTab 0 (by decide)
  have c1 : W.cell? ⟨0, 1, none⟩ = some (.int .i64 9) := ht.cell gTab 1 (by decide)
  have c2 : W.cell? ⟨0, 2, none⟩ = some (.int .i64 11) := ht.cell gTab 2 (by decide)
  have c3 : W.cell? ⟨0, 3, none⟩ = some (.int .i64 99) := ht.cell gTab 3 (by decide)
  intro j u hj
  match j, hj with
  | 0, hj => simp [limsL] at hj; subst hj; exact cell_all c0
  | 1, hj => simp [limsL] at hj; subst hj; exact cell_all c1
  | 2, hj => simp [limsL] at hj; subst hj; exact cell_all c2
  | 3, hj => simp [limsL] at hj; subst hj; exact cell_all c3
  | j + 4, hj => simp [limsL] at hj
noncomputable def laidWorld (os : Os) : World :=
  { World.holding Tryd.prog os ⟨#[], #[], []⟩ with heap := (World.holding Tryd.prog os ⟨#[], #[], []⟩).heap.modify 0 fun
      | .cells _ t frozen => .cells #[.int .i64 7, .int .i64 9, .int .i64 11, .int .i64 99] t frozen
      | o => o }
theorem rdb_K4 : Rdb (α := K4) Tryd.prog 68 (fun _ x => K4ok x) := fun H enc w fuel cs x h => by
  have hl : cs.length = 4 := len_a (by kernel_rfl) Tryd.underlying68 h
  match cs, hl with
  | [c0, c1, c2, c3], _ =>
  obtain ⟨a0, e0, o0⟩ := (rdb_int Tryd.underlying3).at_ (part_a 0 h (by decide))
  obtain ⟨a1, e1, o1⟩ := (rdb_int Tryd.underlying3).at_ (part_a 1 h (by decide))
  obtain ⟨a2, e2, o2⟩ := (rdb_int Tryd.underlying3).at_ (part_a 2 h (by decide))
  obtain ⟨a3, e3, o3⟩ := (rdb_int Tryd.underlying3).at_ (part_a 3 h (by decide))
  simp [Cl.cells] at e0 e1 e2 e3
  subst e0 e1 e2 e3
  exact ⟨⟨a0, a1, a2, a3⟩, rfl, o0, o1, o2, o3⟩
end Go.Proofs.YtogfficbloejcaaDoor
namespace Go.X
open Go Go.RowKit
/-- A struct that is an argument. -/
theorem open_rd {α : Type} [Cl α] {P : Program} {t : TypeId} {fs : Array Field} {ok : SH → α → Prop} (ht : P.underlying t = some (.struct fs)) (hr : Rdb P t ok) {H : Type} {enc : TypeId × Value → H} {w : World} {base : Nat} {v : Value} {d : DataW H} {ps : List MemPlace}
    (hv : Value.okWide P w .any base t v) (h : DataW.Trod enc P w 0 (fun _ => true) true t v d ps) : ∃ a : α, v = .agg (Cl.cells a).toArray ∧ ok (allOf w) a := by
  unfold Value.okWide at hv
  rw [ht] at hv
  obtain ⟨cs, rfl, _, _⟩ := hv
  obtain ⟨fuel, hf⟩ := h
  obtain ⟨a, h1, h2⟩ := hr _ _ _ _ _ _ hf
  simp only [Value.cells] at h1
  exact ⟨a, by rw [← h1], h2⟩
end Go.X
namespace Go.Proofs.YtogfficbloejcaaDoor
open Go Go.X
set_option maxRecDepth 10000
set_option linter.unusedVariables false
attribute [local irreducible] Code.wpIn wpListIn Exit.then Exit.inBlock X.Out X.Back X.W X.Ev X.Con X.BinV X.Wh X.Wn X.Wq
def rawSk (S : SH) (x : Sv) : Prop := ∃ l : List Ce, x.m = l.length ∧ l.length ≤ x.c ∧ At S x.a l ∧ ∀ y ∈ l, rawOk S y
theorem rdb_Ce : Rdb (α := Ce) Tryd.prog 45 rawOk := fun H enc w fuel cs x h => by
  have hl : cs.length = 10 := len_s (by kernel_rfl) Tryd.underlying45 h
  match cs, hl with
  | [c0, c1, c2, c3, c4, c5, c6, c7, c8, c9], _ =>
  obtain ⟨a0, e0, o0⟩ := (rdb_int Tryd.underlying3).at_ (part_f 0 h)
  obtain ⟨a1, e1, o1⟩ := (rdb_int Tryd.underlying3).at_ (part_f 1 h)
  obtain ⟨a2, e2, o2⟩ := (rdb_int Tryd.underlying3).at_ (part_f 2 h)
  obtain ⟨a3, e3, o3⟩ := (rdb_int Tryd.underlying3).at_ (part_f 3 h)
  obtain ⟨a4, e4, o4⟩ := (rdb_int Tryd.underlying3).at_ (part_f 4 h)
  obtain ⟨a5, e5, o5⟩ := (rdb_int Tryd.underlying3).at_ (part_f 5 h)
  obtain ⟨a6, e6, o6⟩ := (rdb_int Tryd.underlying3).at_ (part_f 6 h)
  obtain ⟨a7, e7, o7⟩ := (rdb_int Tryd.underlying3).at_ (part_f 7 h)
  obtain ⟨⟨A8, m8, k8⟩, e8, l8, hm8, hc8, hA8, hy8⟩ := (rdb_slice Tryd.underlying43 (by kernel_rfl) (rdb_int Tryd.underlying3)).at_ (part_f 8 h)
  obtain ⟨⟨A9, m9, k9⟩, e9, l9, hm9, hc9, hA9, hy9⟩ := (rdb_slice Tryd.underlying43 (by kernel_rfl) (rdb_int Tryd.underlying3)).at_ (part_f 9 h)
  simp [Cl.cells] at e0 e1 e2 e3 e4 e5 e6 e7 e8 e9
  simp only at hm8 hc8 hA8 hm9 hc9 hA9
  subst e0 e1 e2 e3 e4 e5 e6 e7 e8 e9 hm8 hm9
  exact ⟨⟨⟨a0, a1, a2, a3, ⟨a4, a5, a6, a7, l8, l9⟩⟩, A8, k8, A9, k9⟩, rfl, hA8, hA9, hc8, hc9⟩
instance : Inhabited Ce := ⟨⟨⟨0, 0, 0, 0, ⟨0, 0, 0, 0, [], []⟩⟩, none, 0, none, 0⟩⟩
theorem rdb_raw : Rdb (α := Sv) Tryd.prog 24 rawSk := fun H enc w fuel cs x h => by
  have hl : cs.length = 1 := len_s (by kernel_rfl) Tryd.underlying24 h
  match cs, hl with
  | [c0], _ =>
  obtain ⟨⟨A8, m8, k8⟩, e8, l8, hm8, hc8, hA8, hy8⟩ := (rdb_slice Tryd.underlying22 (by kernel_rfl) rdb_Ce).at_ (part_f 0 h)
  simp [Cl.cells] at e8
  subst e8
  exact ⟨⟨A8, m8, k8⟩, rfl, l8, hm8, hc8, hA8, hy8⟩
end Go.Proofs.YtogfficbloejcaaDoor
namespace Go.Proofs.YtogfficbloejcaaDoor
open Go Go.X
set_option maxRecDepth 10000
set_option linter.unusedVariables false
attribute [local irreducible] Code.wpIn wpListIn Exit.then Exit.inBlock X.Out X.Back X.W X.Ev X.Con X.BinV X.Wh X.Wn X.Wq
set_option maxHeartbeats 3200000 in
theorem MadeFactsO_con (xs : List K4) (A : Option Addr) (c : Nat) (S : SH) (hA : At S A xs) (hx : ∀ x ∈ xs, K4ok x) :
    Con Tryd.prog 15 #[.slice A xs.length c] S [] (fun S' L' r => ∃ (A' : Option Addr) (c' : Nat) (l : List Fa), r = .slice A' l.length c' ∧ Ows 27 (.slice A' l.length c') l L' ∧ l.length ≤ 40 ∧ ∀ x ∈ l, FactP x) := by
  refine con_of (args := [.slice A xs.length c]) Tryd.func15 rfl Tryd.ntmps15 rfl fun w => ?_
  (repeat (first | refine Jz ?_ | intro _))
  refine c_loop (fun m S2 L F => Le S S2 ∧ L = [] ∧ ∃ (i : Nat) (A2 : Option Addr) (c2 : Nat) (l : List Fa), m = xs.length - i ∧ i ≤ xs.length ∧ i ≤ 40 ∧ At S2 A2 l ∧ l.length ≤ c2 ∧ l.length ≤ i ∧ (∀ x ∈ l, FactP x) ∧ Fz (⟨w, S, ([] : Blocks).map (·.1)⟩ : Cx) S2 27 (.slice A2 l.length c2) l ∧
      F = [(0, .slice A xs.length c), (3, .slice A2 l.length c2), (4, .int .i64 i)]) ⟨Le.refl _, rfl, 0, none, 0, [], rfl, by omega, by omega, At.nil _ _, Nat.le_refl _, Nat.le_refl _, fun x hx => absurd hx List.not_mem_nil, Fz.nil 27, rfl⟩ sbF (List.Sublist.refl _) ?_
  rintro m S2 L F ⟨hle, rfl, i, A2, c2, l, rfl, hi1, hi4, hA2, hc2, hli, hok, hfz, rfl⟩
  by_cases hlt : i < xs.length
  rotate_left
  · refine W.thawFz hfz fun S9 ob9 ho9 => ?_
    (repeat (first | refine Jz ?_ | intro _))
    exact o_ret (L' := ob9) Tryd.results15 rfl (List.sublist_append_left _ _) ⟨A2, c2, l, rfl, ho9, by omega, hok⟩
  by_cases hlt4 : i < 40
  rotate_left
  · refine W.thawFz hfz fun S9 ob9 ho9 => ?_
    (repeat (first | refine Jz ?_ | intro _))
    exact o_ret (L' := ob9) Tryd.results15 rfl (List.sublist_append_left _ _) ⟨A2, c2, l, rfl, ho9, by omega, hok⟩
  obtain ⟨⟨xa, xb, xc, xd⟩, hxi⟩ := at_lt' hlt
  obtain ⟨ha, hb, hc, hd⟩ := hx _ (List.mem_of_getElem? hxi)
  simp only at ha hb hc hd
  have hA3 := hA.le hle
  obtain ⟨tr, tr0, tr1, p1⟩ := anyPick ha 30 (by decide)
  obtain ⟨sp, sp0, sp1, p2⟩ := anyPick (tdiv_in ha 30 (by decide)) 4 (by decide)
  obtain ⟨sv, sv0, sv1, p3⟩ := anyPick hb 2 (by decide)
  obtain ⟨ve, ve0, ve1, p4⟩ := anyPick (tdiv_in hb 2 (by decide)) 3 (by decide)
  obtain ⟨pe, pe0, pe1, p5⟩ := anyPick (tdiv_in hb 6 (by decide)) 5 (by decide)
  obtain ⟨lo, lo0, lo1, p6⟩ := anyPick hc 40 (by decide)
  obtain ⟨bb, bb0, bb1, p7⟩ := anyPick (tdiv_in hb 30 (by decide)) 100 (by decide)
  obtain ⟨o2, o20, o21, p8⟩ := anyPick (tdiv_in hb 3000 (by decide)) 2 (by decide)
  obtain ⟨k4, k40, k41, p9⟩ := anyPick hd 4 (by decide)
  obtain ⟨big, big0, big1, p10⟩ := anyPick hc 2199023255552 (by decide)
  obtain ⟨h3, h30, h31, p11⟩ := anyPick (tdiv_in hd 4 (by decide)) 3 (by decide)
  obtain ⟨h30_, h300, h301, p12⟩ := anyPick (tdiv_in hd 12 (by decide)) 30 (by decide)
  unfold i64 at ha hb hc hd
  (repeat (first | refine Jz ?_ | intro _))
  refine c_meet (fun S3 L3 F3 => S3 = S2 ∧ ∃ b5, L3 = [(b5, .cells [.int .i64 tr, .int .i64 sp, .int .i64 sv, .int .i64 ve, .int .i64 0, .int .i64 (pe - 1), .int .i64 0, .int .i64 lo, .int .i64 0, .int .i64 bb].toArray 27 (0, 0))] ∧
      F3 = [(0, .slice A xs.length c), (3, .slice A2 l.length c2), (4, .int .i64 i), (5, .pointer (some ⟨b5, 0, none⟩))]) ?_ ?_
  · ((apply c_held ([]); (case hL => (exact sbT))); refine Jf 0 ?_; refine Jf 1 ?_; (apply h_idx hA3 2; (case hi => rfl); (case hr => kernel_rfl); (case hfr => kernel_rfl); (case hsel => kernel_rfl); (case hg => rfl); (case hd => rfl); (case i1 => infer_instance); (case i2 => infer_instance); (case hx => rfl); (case hy => rfl); (case hm => rfl); (case hu => exact hxi); intro p (hp : Pts _ p [.int .i64 xa, .int .i64 xb, .int .i64 xc, .int .i64 xd])); refine Jf 3 ?_; (apply h_first 4; (case hi => rfl); (case hr => kernel_rfl); (case hfr => kernel_rfl); (case hsel => kernel_rfl); (case hg => rfl); (case hd => rfl); (case he => (apply ev_load_f; (case hx => rfl); (case h => exact hp); (case hv => rfl)))); refine Jf 6 ?_; refine Jf 7 ?_; (apply h_idx hA3 8; (case hi => rfl); (case hr => kernel_rfl); (case hfr => kernel_rfl); (case hsel => kernel_rfl); (case hg => rfl); (case hd => rfl); (case i1 => infer_instance); (case i2 => infer_instance); (case hx => rfl); (case hy => rfl); (case hm => rfl); (case hu => exact hxi); intro p (hp : Pts _ p [.int .i64 xa, .int .i64 xb, .int .i64 xc, .int .i64 xd])); refine Jf 9 ?_; (apply h_first 10; (case hi => rfl); (case hr => kernel_rfl); (case hfr => kernel_rfl); (case hsel => kernel_rfl); (case hg => rfl); (case hd => rfl); (case he => (apply ev_load_f; (case hx => rfl); (case h => exact hp); (case hv => rfl)))); refine Jf 11 ?_; refine Jf 13 ?_; refine Jf 14 ?_; (apply h_idx hA3 15; (case hi => rfl); (case hr => kernel_rfl); (case hfr => kernel_rfl); (case hsel => kernel_rfl); (case hg => rfl); (case hd => rfl); (case i1 => infer_instance); (case i2 => infer_instance); (case hx => rfl); (case hy => rfl); (case hm => rfl); (case hu => exact hxi); intro p (hp : Pts _ p [.int .i64 xa, .int .i64 xb, .int .i64 xc, .int .i64 xd])); refine Jf 16 ?_; (apply h_first 17; (case hi => rfl); (case hr => kernel_rfl); (case hfr => kernel_rfl); (case hsel => kernel_rfl); (case hg => rfl); (case hd => rfl); (case he => (apply ev_load_f; (case hx => rfl); (case h => exact hp); (case hv => rfl)))); refine Jf 19 ?_; refine Jf 20 ?_; (apply h_idx hA3 21; (case hi => rfl); (case hr => kernel_rfl); (case hfr => kernel_rfl); (case hsel => kernel_rfl); (case hg => rfl); (case hd => rfl); (case i1 => infer_instance); (case i2 => infer_instance); (case hx => rfl); (case hy => rfl); (case hm => rfl); (case hu => exact hxi); intro p (hp : Pts _ p [.int .i64 xa, .int .i64 xb, .int .i64 xc, .int .i64 xd])); refine Jf 22 ?_; (apply h_first 23; (case hi => rfl); (case hr => kernel_rfl); (case hfr => kernel_rfl); (case hsel => kernel_rfl); (case hg => rfl); (case hd => rfl); (case he => (apply ev_load_f; (case hx => rfl); (case h => exact hp); (case hv => rfl)))); refine Jf 24 ?_; refine Jf 26 ?_; refine Jf 27 ?_; (apply h_idx hA3 28; (case hi => rfl); (case hr => kernel_rfl); (case hfr => kernel_rfl); (case hsel => kernel_rfl); (case hg => rfl); (case hd => rfl); (case i1 => infer_instance); (case i2 => infer_instance); (case hx => rfl); (case hy => rfl); (case hm => rfl); (case hu => exact hxi); intro p (hp : Pts _ p [.int .i64 xa, .int .i64 xb, .int .i64 xc, .int .i64 xd])); refine Jf 29 ?_; (apply h_first 30; (case hi => rfl); (case hr => kernel_rfl); (case hfr => kernel_rfl); (case hsel => kernel_rfl); (case hg => rfl); (case hd => rfl); (case he => (apply ev_load_f; (case hx => rfl); (case h => exact hp); (case hv => rfl)))); refine Jf 31 ?_; refine Jf 34 ?_; refine Jf 35 ?_; (apply h_idx hA3 36; (case hi => rfl); (case hr => kernel_rfl); (case hfr => kernel_rfl); (case hsel => kernel_rfl); (case hg => rfl); (case hd => rfl); (case i1 => infer_instance); (case i2 => infer_instance); (case hx => rfl); (case hy => rfl); (case hm => rfl); (case hu => exact hxi); intro p (hp : Pts _ p [.int .i64 xa, .int .i64 xb, .int .i64 xc, .int .i64 xd])); refine Jf 37 ?_; (apply h_first 38; (case hi => rfl); (case hr => kernel_rfl); (case hfr => kernel_rfl); (case hsel => kernel_rfl); (case hg => rfl); (case hd => rfl); (case he => (apply ev_load_f; (case hx => rfl); (case h => exact hp); (case hv => rfl)))); refine Jf 40 ?_; refine Jf 41 ?_; (apply h_idx hA3 42; (case hi => rfl); (case hr => kernel_rfl); (case hfr => kernel_rfl); (case hsel => kernel_rfl); (case hg => rfl); (case hd => rfl); (case i1 => infer_instance); (case i2 => infer_instance); (case hx => rfl); (case hy => rfl); (case hm => rfl); (case hu => exact hxi); intro p (hp : Pts _ p [.int .i64 xa, .int .i64 xb, .int .i64 xc, .int .i64 xd])); refine Jf 43 ?_; (apply h_first 44; (case hi => rfl); (case hr => kernel_rfl); (case hfr => kernel_rfl); (case hsel => kernel_rfl); (case hg => rfl); (case hd => rfl); (case he => (apply ev_load_f; (case hx => rfl); (case h => exact hp); (case hv => rfl)))); refine Jf 45 ?_; (apply h_two 5 48; (case hr => kernel_rfl)); (case k1 => ((apply n_call; (case hi => rfl); (case i1 => infer_instance); (case hg => rfl); (case hd => rfl); (case ha => rfl); (case hc => exact p1 _); (case hL => (exact pmT)); (case hsub => (intros; (exact sbT))); rintro _ _ _ - ⟨rfl, rfl, rfl⟩); (apply h_two 12 48; (case hr => kernel_rfl)); (case k1 => ((apply n_call; (case hi => rfl); (case i1 => infer_instance); (case hg => rfl); (case hd => rfl); (case ha => rfl); (case hc => exact p2 _); (case hL => (exact pmT)); (case hsub => (intros; (exact sbT))); rintro _ _ _ - ⟨rfl, rfl, rfl⟩); (apply h_two 18 48; (case hr => kernel_rfl)); (case k1 => ((apply n_call; (case hi => rfl); (case i1 => infer_instance); (case hg => rfl); (case hd => rfl); (case ha => rfl); (case hc => exact p3 _); (case hL => (exact pmT)); (case hsub => (intros; (exact sbT))); rintro _ _ _ - ⟨rfl, rfl, rfl⟩); (apply h_two 25 48; (case hr => kernel_rfl)); (case k1 => ((apply n_call; (case hi => rfl); (case i1 => infer_instance); (case hg => rfl); (case hd => rfl); (case ha => rfl); (case hc => exact p4 _); (case hL => (exact pmT)); (case hsub => (intros; (exact sbT))); rintro _ _ _ - ⟨rfl, rfl, rfl⟩); (apply h_two 32 48; (case hr => kernel_rfl)); (case k1 => ((apply n_call; (case hi => rfl); (case i1 => infer_instance); (case hg => rfl); (case hd => rfl); (case ha => rfl); (case hc => exact p5 _); (case hL => (exact pmT)); (case hsub => (intros; (exact sbT))); rintro _ _ _ - ⟨rfl, rfl, rfl⟩); refine Jf 33 ?_; (apply h_two 39 48; (case hr => kernel_rfl)); (case k1 => ((apply n_call; (case hi => rfl); (case i1 => infer_instance); (case hg => rfl); (case hd => rfl); (case ha => rfl); (case hc => exact p6 _); (case hL => (exact pmT)); (case hsub => (intros; (exact sbT))); rintro _ _ _ - ⟨rfl, rfl, rfl⟩); (apply h_two 46 48; (case hr => kernel_rfl)); (case k1 => ((apply n_call; (case hi => rfl); (case i1 => infer_instance); (case hg => rfl); (case hd => rfl); (case ha => rfl); (case hc => exact p7 _); (case hL => (exact pmT)); (case hsub => (intros; (exact sbT))); rintro _ _ _ - ⟨rfl, rfl, rfl⟩); (apply h_first 47; (case hi => rfl); (case hr => kernel_rfl); (case hfr => kernel_rfl); (case hsel => kernel_rfl); (case hg => rfl); (case hd => rfl); (case he => (apply ev_buildS; (case hp => rfl); (case hz => rfl); (case h1 => rfl); (case hr => rfl)))); (apply h_one 48; (case hr => kernel_rfl)); (refine Jn ?_; try intro _); (apply h_one 49; (case hr => kernel_rfl)); (refine Jn ?_; try intro _); (apply h_end; (case hr => kernel_rfl)); (apply q_then; exact q_cut ⟨rfl, _, rfl, rfl⟩ sbF sbL))); (case k2 => ((refine Jn ?_; try intro _); (apply h_one 46; (case hr => kernel_rfl)); (apply n_call; (case hi => rfl); (case i1 => infer_instance); (case hg => rfl); (case hd => rfl); (case ha => rfl); (case hc => exact p7 _); (case hL => (exact pmT)); (case hsub => (intros; (exact sbT))); rintro _ _ _ - ⟨rfl, rfl, rfl⟩); (apply h_first 47; (case hi => rfl); (case hr => kernel_rfl); (case hfr => kernel_rfl); (case hsel => kernel_rfl); (case hg => rfl); (case hd => rfl); (case he => (apply ev_buildS; (case hp => rfl); (case hz => rfl); (case h1 => rfl); (case hr => rfl)))); (apply h_one 49; (case hr => kernel_rfl)); (refine Jn ?_; try intro _); (apply h_end; (case hr => kernel_rfl)); (apply q_then; exact q_cut ⟨rfl, _, rfl, rfl⟩ sbF sbL))))); (case k2 => ((refine Jn ?_; try intro _); (apply h_one 39; (case hr => kernel_rfl)); (apply n_call; (case hi => rfl); (case i1 => infer_instance); (case hg => rfl); (case hd => rfl); (case ha => rfl); (case hc => exact p6 _); (case hL => (exact pmT)); (case hsub => (intros; (exact sbT))); rintro _ _ _ - ⟨rfl, rfl, rfl⟩); (apply h_one 46; (case hr => kernel_rfl)); (apply n_call; (case hi => rfl); (case i1 => infer_instance); (case hg => rfl); (case hd => rfl); (case ha => rfl); (case hc => exact p7 _); (case hL => (exact pmT)); (case hsub => (intros; (exact sbT))); rintro _ _ _ - ⟨rfl, rfl, rfl⟩); (apply h_first 47; (case hi => rfl); (case hr => kernel_rfl); (case hfr => kernel_rfl); (case hsel => kernel_rfl); (case hg => rfl); (case hd => rfl); (case he => (apply ev_buildS; (case hp => rfl); (case hz => rfl); (case h1 => rfl); (case hr => rfl)))); (apply h_one 49; (case hr => kernel_rfl)); (refine Jn ?_; try intro _); (apply h_end; (case hr => kernel_rfl)); (apply q_then; exact q_cut ⟨rfl, _, rfl, rfl⟩ sbF sbL))))); (case k2 => ((refine Jn ?_; try intro _); (apply h_one 32; (case hr => kernel_rfl)); (apply n_call; (case hi => rfl); (case i1 => infer_instance); (case hg => rfl); (case hd => rfl); (case ha => rfl); (case hc => exact p5 _); (case hL => (exact pmT)); (case hsub => (intros; (exact sbT))); rintro _ _ _ - ⟨rfl, rfl, rfl⟩); refine Jf 33 ?_; (apply h_one 39; (case hr => kernel_rfl)); (apply n_call; (case hi => rfl); (case i1 => infer_instance); (case hg => rfl); (case hd => rfl); (case ha => rfl); (case hc => exact p6 _); (case hL => (exact pmT)); (case hsub => (intros; (exact sbT))); rintro _ _ _ - ⟨rfl, rfl, rfl⟩); (apply h_one 46; (case hr => kernel_rfl)); (apply n_call; (case hi => rfl); (case i1 => infer_instance); (case hg => rfl); (case hd => rfl); (case ha => rfl); (case hc => exact p7 _); (case hL => (exact pmT)); (case hsub => (intros; (exact sbT))); rintro _ _ _ - ⟨rfl, rfl, rfl⟩); (apply h_first 47; (case hi => rfl); (case hr => kernel_rfl); (case hfr => kernel_rfl); (case hsel => kernel_rfl); (case hg => rfl); (case hd => rfl); (case he => (apply ev_buildS; (case hp => rfl); (case hz => rfl); (case h1 => rfl); (case hr => rfl)))); (apply h_one 49; (case hr => kernel_rfl)); (refine Jn ?_; try intro _); (apply h_end; (case hr => kernel_rfl)); (apply q_then; exact q_cut ⟨rfl, _, rfl, rfl⟩ sbF sbL))))); (case k2 => ((refine Jn ?_; try intro _); (apply h_one 25; (case hr => kernel_rfl)); (apply n_call; (case hi => rfl); (case i1 => infer_instance); (case hg => rfl); (case hd => rfl); (case ha => rfl); (case hc => exact p4 _); (case hL => (exact pmT)); (case hsub => (intros; (exact sbT))); rintro _ _ _ - ⟨rfl, rfl, rfl⟩); (apply h_one 32; (case hr => kernel_rfl)); (apply n_call; (case hi => rfl); (case i1 => infer_instance); (case hg => rfl); (case hd => rfl); (case ha => rfl); (case hc => exact p5 _); (case hL => (exact pmT)); (case hsub => (intros; (exact sbT))); rintro _ _ _ - ⟨rfl, rfl, rfl⟩); refine Jf 33 ?_; (apply h_one 39; (case hr => kernel_rfl)); (apply n_call; (case hi => rfl); (case i1 => infer_instance); (case hg => rfl); (case hd => rfl); (case ha => rfl); (case hc => exact p6 _); (case hL => (exact pmT)); (case hsub => (intros; (exact sbT))); rintro _ _ _ - ⟨rfl, rfl, rfl⟩); (apply h_one 46; (case hr => kernel_rfl)); (apply n_call; (case hi => rfl); (case i1 => infer_instance); (case hg => rfl); (case hd => rfl); (case ha => rfl); (case hc => exact p7 _); (case hL => (exact pmT)); (case hsub => (intros; (exact sbT))); rintro _ _ _ - ⟨rfl, rfl, rfl⟩); (apply h_first 47; (case hi => rfl); (case hr => kernel_rfl); (case hfr => kernel_rfl); (case hsel => kernel_rfl); (case hg => rfl); (case hd => rfl); (case he => (apply ev_buildS; (case hp => rfl); (case hz => rfl); (case h1 => rfl); (case hr => rfl)))); (apply h_one 49; (case hr => kernel_rfl)); (refine Jn ?_; try intro _); (apply h_end; (case hr => kernel_rfl)); (apply q_then; exact q_cut ⟨rfl, _, rfl, rfl⟩ sbF sbL))))); (case k2 => ((refine Jn ?_; try intro _); (apply h_one 18; (case hr => kernel_rfl)); (apply n_call; (case hi => rfl); (case i1 => infer_instance); (case hg => rfl); (case hd => rfl); (case ha => rfl); (case hc => exact p3 _); (case hL => (exact pmT)); (case hsub => (intros; (exact sbT))); rintro _ _ _ - ⟨rfl, rfl, rfl⟩); (apply h_one 25; (case hr => kernel_rfl)); (apply n_call; (case hi => rfl); (case i1 => infer_instance); (case hg => rfl); (case hd => rfl); (case ha => rfl); (case hc => exact p4 _); (case hL => (exact pmT)); (case hsub => (intros; (exact sbT))); rintro _ _ _ - ⟨rfl, rfl, rfl⟩); (apply h_one 32; (case hr => kernel_rfl)); (apply n_call; (case hi => rfl); (case i1 => infer_instance); (case hg => rfl); (case hd => rfl); (case ha => rfl); (case hc => exact p5 _); (case hL => (exact pmT)); (case hsub => (intros; (exact sbT))); rintro _ _ _ - ⟨rfl, rfl, rfl⟩); refine Jf 33 ?_; (apply h_one 39; (case hr => kernel_rfl)); (apply n_call; (case hi => rfl); (case i1 => infer_instance); (case hg => rfl); (case hd => rfl); (case ha => rfl); (case hc => exact p6 _); (case hL => (exact pmT)); (case hsub => (intros; (exact sbT))); rintro _ _ _ - ⟨rfl, rfl, rfl⟩); (apply h_one 46; (case hr => kernel_rfl)); (apply n_call; (case hi => rfl); (case i1 => infer_instance); (case hg => rfl); (case hd => rfl); (case ha => rfl); (case hc => exact p7 _); (case hL => (exact pmT)); (case hsub => (intros; (exact sbT))); rintro _ _ _ - ⟨rfl, rfl, rfl⟩); (apply h_first 47; (case hi => rfl); (case hr => kernel_rfl); (case hfr => kernel_rfl); (case hsel => kernel_rfl); (case hg => rfl); (case hd => rfl); (case he => (apply ev_buildS; (case hp => rfl); (case hz => rfl); (case h1 => rfl); (case hr => rfl)))); (apply h_one 49; (case hr => kernel_rfl)); (refine Jn ?_; try intro _); (apply h_end; (case hr => kernel_rfl)); (apply q_then; exact q_cut ⟨rfl, _, rfl, rfl⟩ sbF sbL))))); (case k2 => ((refine Jn ?_; try intro _); (apply h_one 12; (case hr => kernel_rfl)); (apply n_call; (case hi => rfl); (case i1 => infer_instance); (case hg => rfl); (case hd => rfl); (case ha => rfl); (case hc => exact p2 _); (case hL => (exact pmT)); (case hsub => (intros; (exact sbT))); rintro _ _ _ - ⟨rfl, rfl, rfl⟩); (apply h_one 18; (case hr => kernel_rfl)); (apply n_call; (case hi => rfl); (case i1 => infer_instance); (case hg => rfl); (case hd => rfl); (case ha => rfl); (case hc => exact p3 _); (case hL => (exact pmT)); (case hsub => (intros; (exact sbT))); rintro _ _ _ - ⟨rfl, rfl, rfl⟩); (apply h_one 25; (case hr => kernel_rfl)); (apply n_call; (case hi => rfl); (case i1 => infer_instance); (case hg => rfl); (case hd => rfl); (case ha => rfl); (case hc => exact p4 _); (case hL => (exact pmT)); (case hsub => (intros; (exact sbT))); rintro _ _ _ - ⟨rfl, rfl, rfl⟩); (apply h_one 32; (case hr => kernel_rfl)); (apply n_call; (case hi => rfl); (case i1 => infer_instance); (case hg => rfl); (case hd => rfl); (case ha => rfl); (case hc => exact p5 _); (case hL => (exact pmT)); (case hsub => (intros; (exact sbT))); rintro _ _ _ - ⟨rfl, rfl, rfl⟩); refine Jf 33 ?_; (apply h_one 39; (case hr => kernel_rfl)); (apply n_call; (case hi => rfl); (case i1 => infer_instance); (case hg => rfl); (case hd => rfl); (case ha => rfl); (case hc => exact p6 _); (case hL => (exact pmT)); (case hsub => (intros; (exact sbT))); rintro _ _ _ - ⟨rfl, rfl, rfl⟩); (apply h_one 46; (case hr => kernel_rfl)); (apply n_call; (case hi => rfl); (case i1 => infer_instance); (case hg => rfl); (case hd => rfl); (case ha => rfl); (case hc => exact p7 _); (case hL => (exact pmT)); (case hsub => (intros; (exact sbT))); rintro _ _ _ - ⟨rfl, rfl, rfl⟩); (apply h_first 47; (case hi => rfl); (case hr => kernel_rfl); (case hfr => kernel_rfl); (case hsel => kernel_rfl); (case hg => rfl); (case hd => rfl); (case he => (apply ev_buildS; (case hp => rfl); (case hz => rfl); (case h1 => rfl); (case hr => rfl)))); (apply h_one 49; (case hr => kernel_rfl)); (refine Jn ?_; try intro _); (apply h_end; (case hr => kernel_rfl)); (apply q_then; exact q_cut ⟨rfl, _, rfl, rfl⟩ sbF sbL))))); (case k2 => ((refine Jn ?_; try intro _); (apply h_one 5; (case hr => kernel_rfl)); (apply n_call; (case hi => rfl); (case i1 => infer_instance); (case hg => rfl); (case hd => rfl); (case ha => rfl); (case hc => exact p1 _); (case hL => (exact pmT)); (case hsub => (intros; (exact sbT))); rintro _ _ _ - ⟨rfl, rfl, rfl⟩); (apply h_one 12; (case hr => kernel_rfl)); (apply n_call; (case hi => rfl); (case i1 => infer_instance); (case hg => rfl); (case hd => rfl); (case ha => rfl); (case hc => exact p2 _); (case hL => (exact pmT)); (case hsub => (intros; (exact sbT))); rintro _ _ _ - ⟨rfl, rfl, rfl⟩); (apply h_one 18; (case hr => kernel_rfl)); (apply n_call; (case hi => rfl); (case i1 => infer_instance); (case hg => rfl); (case hd => rfl); (case ha => rfl); (case hc => exact p3 _); (case hL => (exact pmT)); (case hsub => (intros; (exact sbT))); rintro _ _ _ - ⟨rfl, rfl, rfl⟩); (apply h_one 25; (case hr => kernel_rfl)); (apply n_call; (case hi => rfl); (case i1 => infer_instance); (case hg => rfl); (case hd => rfl); (case ha => rfl); (case hc => exact p4 _); (case hL => (exact pmT)); (case hsub => (intros; (exact sbT))); rintro _ _ _ - ⟨rfl, rfl, rfl⟩); (apply h_one 32; (case hr => kernel_rfl)); (apply n_call; (case hi => rfl); (case i1 => infer_instance); (case hg => rfl); (case hd => rfl); (case ha => rfl); (case hc => exact p5 _); (case hL => (exact pmT)); (case hsub => (intros; (exact sbT))); rintro _ _ _ - ⟨rfl, rfl, rfl⟩); refine Jf 33 ?_; (apply h_one 39; (case hr => kernel_rfl)); (apply n_call; (case hi => rfl); (case i1 => infer_instance); (case hg => rfl); (case hd => rfl); (case ha => rfl); (case hc => exact p6 _); (case hL => (exact pmT)); (case hsub => (intros; (exact sbT))); rintro _ _ _ - ⟨rfl, rfl, rfl⟩); (apply h_one 46; (case hr => kernel_rfl)); (apply n_call; (case hi => rfl); (case i1 => infer_instance); (case hg => rfl); (case hd => rfl); (case ha => rfl); (case hc => exact p7 _); (case hL => (exact pmT)); (case hsub => (intros; (exact sbT))); rintro _ _ _ - ⟨rfl, rfl, rfl⟩); (apply h_first 47; (case hi => rfl); (case hr => kernel_rfl); (case hfr => kernel_rfl); (case hsel => kernel_rfl); (case hg => rfl); (case hd => rfl); (case he => (apply ev_buildS; (case hp => rfl); (case hz => rfl); (case h1 => rfl); (case hr => rfl)))); (apply h_one 49; (case hr => kernel_rfl)); (refine Jn ?_; try intro _); (apply h_end; (case hr => kernel_rfl)); (apply q_then; exact q_cut ⟨rfl, _, rfl, rfl⟩ sbF sbL))))
  rintro S3 L3 F3 ⟨rfl, b5, rfl, rfl⟩
  apply c_seq
  refine c_meet (fun S4 L4 F4 => S4 = S3 ∧ L4 = [(b5, .cells [.int .i64 tr, .int .i64 sp, .int .i64 sv, .int .i64 ve, .int .i64 (2 * sv + o2), .int .i64 (pe - 1), .int .i64 0, .int .i64 lo, .int .i64 0, .int .i64 bb].toArray 27 (0, 0))] ∧ F4 = [(0, .slice A xs.length c), (3, .slice A2 l.length c2), (4, .int .i64 i), (5, .pointer (some ⟨b5, 0, none⟩))]) ?_ ?_
  · ((apply c_held ([]); (case hL => (exact sbT))); refine Jf 0 ?_; refine Jf 3 ?_; refine Jf 4 ?_; (apply h_idx hA3 5; (case hi => rfl); (case hr => kernel_rfl); (case hfr => kernel_rfl); (case hsel => kernel_rfl); (case hg => rfl); (case hd => rfl); (case i1 => infer_instance); (case i2 => infer_instance); (case hx => rfl); (case hy => rfl); (case hm => rfl); (case hu => exact hxi); intro p (hp : Pts _ p [.int .i64 xa, .int .i64 xb, .int .i64 xc, .int .i64 xd])); refine Jf 6 ?_; (apply h_first 7; (case hi => rfl); (case hr => kernel_rfl); (case hfr => kernel_rfl); (case hsel => kernel_rfl); (case hg => rfl); (case hd => rfl); (case he => (apply ev_load_f; (case hx => rfl); (case h => exact hp); (case hv => rfl)))); refine Jf 8 ?_; (apply h_two 1 9; (case hr => kernel_rfl)); (case k1 => ((refine Jn ?_; try intro _); refine Jf 2 ?_; (apply h_one 9; (case hr => kernel_rfl)); (apply n_call; (case hi => rfl); (case i1 => infer_instance); (case hg => rfl); (case hd => rfl); (case ha => rfl); (case hc => exact p8 _); (case hL => (exact pmT)); (case hsub => (intros; (exact sbT))); rintro _ _ _ - ⟨rfl, rfl, rfl⟩); refine Jf 10 ?_; refine Jf 11 ?_; (apply h_one 12; (case hr => kernel_rfl)); (refine Jn ?_; try intro _); (apply h_end; (case hr => kernel_rfl)); (apply q_then; exact q_cut ⟨rfl, rfl, rfl⟩ sbF sbL))); (case k2 => ((apply n_call; (case hi => rfl); (case i1 => infer_instance); (case hg => rfl); (case hd => rfl); (case ha => rfl); (case hc => exact p8 _); (case hL => (exact pmT)); (case hsub => (intros; (exact sbT))); rintro _ _ _ - ⟨rfl, rfl, rfl⟩); (apply h_one 1; (case hr => kernel_rfl)); (refine Jn ?_; try intro _); refine Jf 2 ?_; refine Jf 10 ?_; refine Jf 11 ?_; (apply h_one 12; (case hr => kernel_rfl)); (refine Jn ?_; try intro _); (apply h_end; (case hr => kernel_rfl)); (apply q_then; exact q_cut ⟨rfl, rfl, rfl⟩ sbF sbL))))
  rintro S4 L4 F4 ⟨rfl, rfl, rfl⟩
  apply c_seq
  refine c_meet (fun S5 L5 F5 => S5 = S4 ∧ ∃ lo' : Int, 0 ≤ lo' ∧ lo' ≤ 2199023255551 ∧ L5 = [(b5, .cells [.int .i64 tr, .int .i64 sp, .int .i64 sv, .int .i64 ve, .int .i64 (2 * sv + o2), .int .i64 (pe - 1), .int .i64 0, .int .i64 lo', .int .i64 0, .int .i64 bb].toArray 27 (0, 0))] ∧ F5 = [(0, .slice A xs.length c), (3, .slice A2 l.length c2), (4, .int .i64 i), (5, .pointer (some ⟨b5, 0, none⟩))]) ?_ ?_
  · by_cases hk : k4 = 3
    · (repeat (first | refine Jc ?_ | (apply s_idx hA3; (case hg => rfl); (case hd => rfl); (case hx => rfl); (case hi => rfl); (case hm => rfl); (case hu => exact hxi); intro p (hp : Pts _ p [.int .i64 xa, .int .i64 xb, .int .i64 xc, .int .i64 xd])) | (apply s_load_f; (case hg => rfl); (case hd => rfl); (case hx => rfl); (case h => exact hp); (case hv => rfl)) | (apply z_call; rfl; rfl; rfl; exact p9 _; rintro _ _ _ - ⟨rfl, rfl, rfl⟩) | (apply z_call; rfl; rfl; rfl; exact p10 _; rintro _ _ _ - ⟨rfl, rfl, rfl⟩) | refine Jo ?_ | intro _))
      exact q_cut ⟨rfl, big, big0, by omega, rfl, rfl⟩ sbF sbL
    · (repeat (first | refine Jc ?_ | (apply s_idx hA3; (case hg => rfl); (case hd => rfl); (case hx => rfl); (case hi => rfl); (case hm => rfl); (case hu => exact hxi); intro p (hp : Pts _ p [.int .i64 xa, .int .i64 xb, .int .i64 xc, .int .i64 xd])) | (apply s_load_f; (case hg => rfl); (case hd => rfl); (case hx => rfl); (case h => exact hp); (case hv => rfl)) | (apply z_call; rfl; rfl; rfl; exact p9 _; rintro _ _ _ - ⟨rfl, rfl, rfl⟩) | refine Jo ?_ | intro _))
      exact q_cut ⟨rfl, lo, lo0, by omega, rfl, rfl⟩ sbF sbL
  rintro S5 L5 F5 ⟨rfl, lo', lo0', lo1', rfl, rfl⟩
  have hm0 := Int.mul_nonneg h30 h300
  have hm1 : h3 * h30_ ≤ 2 * 29 := Int.mul_le_mul (by omega) (by omega) h300 (by decide)
  apply c_seq
  refine c_meet (fun S6 L6 F6 => S6 = S5 ∧ L6 = [(b5, .cells [.int .i64 tr, .int .i64 sp, .int .i64 sv, .int .i64 ve, .int .i64 (2 * sv + o2), .int .i64 (pe - 1), .int .i64 0, .int .i64 lo', .int .i64 (lo' + h3 * h30_), .int .i64 bb].toArray 27 (0, 0))] ∧ F6 = [(0, .slice A xs.length c), (3, .slice A2 l.length c2), (4, .int .i64 i), (5, .pointer (some ⟨b5, 0, none⟩))]) ?_ ?_
  · ((apply c_held ([]); (case hL => (exact sbT))); refine Jf 0 ?_; refine Jf 2 ?_; refine Jf 3 ?_; (apply h_idx hA3 4; (case hi => rfl); (case hr => kernel_rfl); (case hfr => kernel_rfl); (case hsel => kernel_rfl); (case hg => rfl); (case hd => rfl); (case i1 => infer_instance); (case i2 => infer_instance); (case hx => rfl); (case hy => rfl); (case hm => rfl); (case hu => exact hxi); intro p (hp : Pts _ p [.int .i64 xa, .int .i64 xb, .int .i64 xc, .int .i64 xd])); refine Jf 5 ?_; (apply h_first 6; (case hi => rfl); (case hr => kernel_rfl); (case hfr => kernel_rfl); (case hsel => kernel_rfl); (case hg => rfl); (case hd => rfl); (case he => (apply ev_load_f; (case hx => rfl); (case h => exact hp); (case hv => rfl)))); refine Jf 7 ?_; refine Jf 9 ?_; refine Jf 10 ?_; (apply h_idx hA3 11; (case hi => rfl); (case hr => kernel_rfl); (case hfr => kernel_rfl); (case hsel => kernel_rfl); (case hg => rfl); (case hd => rfl); (case i1 => infer_instance); (case i2 => infer_instance); (case hx => rfl); (case hy => rfl); (case hm => rfl); (case hu => exact hxi); intro p (hp : Pts _ p [.int .i64 xa, .int .i64 xb, .int .i64 xc, .int .i64 xd])); refine Jf 12 ?_; (apply h_first 13; (case hi => rfl); (case hr => kernel_rfl); (case hfr => kernel_rfl); (case hsel => kernel_rfl); (case hg => rfl); (case hd => rfl); (case he => (apply ev_load_f; (case hx => rfl); (case h => exact hp); (case hv => rfl)))); refine Jf 14 ?_; (apply h_two 1 8; (case hr => kernel_rfl)); (case k1 => ((refine Jn ?_; try intro _); (apply h_one 8; (case hr => kernel_rfl)); (apply n_call; (case hi => rfl); (case i1 => infer_instance); (case hg => rfl); (case hd => rfl); (case ha => rfl); (case hc => exact p11 _); (case hL => (exact pmT)); (case hsub => (intros; (exact sbT))); rintro _ _ _ - ⟨rfl, rfl, rfl⟩); (apply h_one 15; (case hr => kernel_rfl)); (apply n_call; (case hi => rfl); (case i1 => infer_instance); (case hg => rfl); (case hd => rfl); (case ha => rfl); (case hc => exact p12 _); (case hL => (exact pmT)); (case hsub => (intros; (exact sbT))); rintro _ _ _ - ⟨rfl, rfl, rfl⟩); refine Jf 16 ?_; refine Jf 17 ?_; refine Jf 18 ?_; (apply h_one 19; (case hr => kernel_rfl)); (refine Jn ?_; try intro _); (apply h_end; (case hr => kernel_rfl)); (apply q_then; exact q_cut ⟨rfl, rfl, rfl⟩ sbF sbL))); (case k2 => ((apply n_call; (case hi => rfl); (case i1 => infer_instance); (case hg => rfl); (case hd => rfl); (case ha => rfl); (case hc => exact p11 _); (case hL => (exact pmT)); (case hsub => (intros; (exact sbT))); rintro _ _ _ - ⟨rfl, rfl, rfl⟩); (apply h_two 1 15; (case hr => kernel_rfl)); (case k1 => ((refine Jn ?_; try intro _); (apply h_one 15; (case hr => kernel_rfl)); (apply n_call; (case hi => rfl); (case i1 => infer_instance); (case hg => rfl); (case hd => rfl); (case ha => rfl); (case hc => exact p12 _); (case hL => (exact pmT)); (case hsub => (intros; (exact sbT))); rintro _ _ _ - ⟨rfl, rfl, rfl⟩); refine Jf 16 ?_; refine Jf 17 ?_; refine Jf 18 ?_; (apply h_one 19; (case hr => kernel_rfl)); (refine Jn ?_; try intro _); (apply h_end; (case hr => kernel_rfl)); (apply q_then; exact q_cut ⟨rfl, rfl, rfl⟩ sbF sbL))); (case k2 => ((apply n_call; (case hi => rfl); (case i1 => infer_instance); (case hg => rfl); (case hd => rfl); (case ha => rfl); (case hc => exact p12 _); (case hL => (exact pmT)); (case hsub => (intros; (exact sbT))); rintro _ _ _ - ⟨rfl, rfl, rfl⟩); refine Jf 16 ?_; (apply h_one 1; (case hr => kernel_rfl)); (refine Jn ?_; try intro _); refine Jf 17 ?_; refine Jf 18 ?_; (apply h_one 19; (case hr => kernel_rfl)); (refine Jn ?_; try intro _); (apply h_end; (case hr => kernel_rfl)); (apply q_then; exact q_cut ⟨rfl, rfl, rfl⟩ sbF sbL))))))
  rintro S6 L6 F6 ⟨rfl, rfl, rfl⟩
  (repeat (first | refine Jz ?_ | intro _))
  refine c_meetB (fun S7 L7 F7 => S7 = S6 ∧ ∃ at_ : Nat, at_ ≤ l.length ∧ L7 = [(b5, .cells [.int .i64 tr, .int .i64 sp, .int .i64 sv, .int .i64 ve, .int .i64 (2 * sv + o2), .int .i64 (pe - 1), .int .i64 (tr / 10), .int .i64 lo', .int .i64 (lo' + h3 * h30_), .int .i64 bb].toArray 27 (0, 0))] ∧ F7 = [(0, .slice A xs.length c), (3, .slice A2 l.length c2), (4, .int .i64 i), (5, .pointer (some ⟨b5, 0, none⟩)), (6, .int .i64 at_)]) ?_ ?_
  · refine c_loop (fun m S7 L7 F7 => S7 = S6 ∧ ∃ at_ : Nat, m = l.length - at_ ∧ at_ ≤ l.length ∧ L7 = [(b5, .cells [.int .i64 tr, .int .i64 sp, .int .i64 sv, .int .i64 ve, .int .i64 (2 * sv + o2), .int .i64 (pe - 1), .int .i64 (tr / 10), .int .i64 lo', .int .i64 (lo' + h3 * h30_), .int .i64 bb].toArray 27 (0, 0))] ∧ F7 = [(0, .slice A xs.length c), (3, .slice A2 l.length c2), (4, .int .i64 i), (5, .pointer (some ⟨b5, 0, none⟩)), (6, .int .i64 at_)]) ⟨rfl, 0, rfl, by omega, rfl, rfl⟩ sbF sbL ?_
    rintro m S7 L7 F7 ⟨rfl, at_, rfl, hat, rfl, rfl⟩
    by_cases hal : at_ < l.length
    rotate_left
    · (repeat (first | refine Jc ?_ | (apply c_draw; (case hB => kernel_rfl); refine JD ?_) | refine Jo ?_ | intro _))
      exact q_cut ⟨rfl, at_, hat, rfl, rfl⟩ sbF sbL
    obtain ⟨⟨ytr, ysp, ysv, yve, yop, ype, ydy, ylo, yhi, yby⟩, hy⟩ := at_lt' hal
    by_cases y1 : ytr < tr
    · (repeat (first | refine Jc ?_ | (apply c_draw; (case hB => kernel_rfl); (repeat (first | (apply q_idx hA2; (case hg => rfl); (case hd => rfl); (case hx => rfl); (case hi => rfl); (case hm => rfl); (case hu => exact hy); intro p2 (hp2 : Pts _ p2 [.int .i64 ytr, .int .i64 ysp, .int .i64 ysv, .int .i64 yve, .int .i64 yop, .int .i64 ype, .int .i64 ydy, .int .i64 ylo, .int .i64 yhi, .int .i64 yby])) | (apply q_ev; (case hg => rfl); (case hd => rfl); (case he => (apply ev_load_f; (case hx => rfl); (case h => exact hp2); (case hv => rfl)))) | refine Jd ?_))) | refine Jo ?_ | intro _))
      exact q_back (m' := l.length - (at_ + 1)) ⟨rfl, at_ + 1, rfl, by omega, rfl, rfl⟩ (by omega) sbF sbL
    by_cases y2 : ytr = tr
    · by_cases y3 : ysp < sp
      · (repeat (first | refine Jc ?_ | (apply c_draw; (case hB => kernel_rfl); (repeat (first | (apply q_idx hA2; (case hg => rfl); (case hd => rfl); (case hx => rfl); (case hi => rfl); (case hm => rfl); (case hu => exact hy); intro p2 (hp2 : Pts _ p2 [.int .i64 ytr, .int .i64 ysp, .int .i64 ysv, .int .i64 yve, .int .i64 yop, .int .i64 ype, .int .i64 ydy, .int .i64 ylo, .int .i64 yhi, .int .i64 yby])) | (apply q_ev; (case hg => rfl); (case hd => rfl); (case he => (apply ev_load_f; (case hx => rfl); (case h => exact hp2); (case hv => rfl)))) | refine Jd ?_))) | refine Jo ?_ | intro _))
        exact q_back (m' := l.length - (at_ + 1)) ⟨rfl, at_ + 1, rfl, by omega, rfl, rfl⟩ (by omega) sbF sbL
      · (repeat (first | refine Jc ?_ | (apply c_draw; (case hB => kernel_rfl); (repeat (first | (apply q_idx hA2; (case hg => rfl); (case hd => rfl); (case hx => rfl); (case hi => rfl); (case hm => rfl); (case hu => exact hy); intro p2 (hp2 : Pts _ p2 [.int .i64 ytr, .int .i64 ysp, .int .i64 ysv, .int .i64 yve, .int .i64 yop, .int .i64 ype, .int .i64 ydy, .int .i64 ylo, .int .i64 yhi, .int .i64 yby])) | (apply q_ev; (case hg => rfl); (case hd => rfl); (case he => (apply ev_load_f; (case hx => rfl); (case h => exact hp2); (case hv => rfl)))) | refine Jd ?_))) | refine Jo ?_ | intro _))
        exact q_cut ⟨rfl, at_, hat, rfl, rfl⟩ sbF sbL
    · (repeat (first | refine Jc ?_ | (apply c_draw; (case hB => kernel_rfl); (repeat (first | (apply q_idx hA2; (case hg => rfl); (case hd => rfl); (case hx => rfl); (case hi => rfl); (case hm => rfl); (case hu => exact hy); intro p2 (hp2 : Pts _ p2 [.int .i64 ytr, .int .i64 ysp, .int .i64 ysv, .int .i64 yve, .int .i64 yop, .int .i64 ype, .int .i64 ydy, .int .i64 ylo, .int .i64 yhi, .int .i64 yby])) | (apply q_ev; (case hg => rfl); (case hd => rfl); (case he => (apply ev_load_f; (case hx => rfl); (case h => exact hp2); (case hv => rfl)))) | refine Jd ?_))) | refine Jo ?_ | intro _))
      exact q_cut ⟨rfl, at_, hat, rfl, rfl⟩ sbF sbL
  rintro S7 L7 F7 ⟨rfl, at_, hat, rfl, rfl⟩
  have hfact : FactP ⟨tr, sp, sv, ve, 2 * sv + o2, pe - 1, tr / 10, lo', lo' + h3 * h30_, bb⟩ := ⟨by simp only; omega, by simp only; omega, by simp only; omega, by simp only; omega, by simp only; omega, by simp only; omega, rfl, by simp only; omega, by simp only; omega, by simp only; omega⟩
  apply c_seq
  refine c_meet (fun S8 L8 F8 => S8 = S7 ∧ L8 = [(b5, .cells [.int .i64 tr, .int .i64 sp, .int .i64 sv, .int .i64 ve, .int .i64 (2 * sv + o2), .int .i64 (pe - 1), .int .i64 (tr / 10), .int .i64 lo', .int .i64 (lo' + h3 * h30_), .int .i64 bb].toArray 27 (0, 0))] ∧ F8 = [(0, .slice A xs.length c), (3, .slice A2 l.length c2), (4, .int .i64 i), (5, .pointer (some ⟨b5, 0, none⟩)), (6, .int .i64 at_)]) ?_ ?_
  · by_cases hal : at_ < l.length
    rotate_left
    · (repeat (first | refine Jc ?_ | (apply c_draw; (case hB => kernel_rfl); refine JD ?_) | refine Jo ?_ | intro _))
      exact q_cut ⟨rfl, rfl, rfl⟩ sbF sbL
    obtain ⟨⟨ytr, ysp, ysv, yve, yop, ype, ydy, ylo, yhi, yby⟩, hy⟩ := at_lt' hal
    by_cases y1 : ytr = tr
    · by_cases y2 : ysp = sp
      · (repeat (first | refine Jc ?_ | (apply c_draw; (case hB => kernel_rfl); (repeat (first | (apply q_idx hA2; (case hg => rfl); (case hd => rfl); (case hx => rfl); (case hi => rfl); (case hm => rfl); (case hu => exact hy); intro p2 (hp2 : Pts _ p2 [.int .i64 ytr, .int .i64 ysp, .int .i64 ysv, .int .i64 yve, .int .i64 yop, .int .i64 ype, .int .i64 ydy, .int .i64 ylo, .int .i64 yhi, .int .i64 yby])) | (apply q_ev; (case hg => rfl); (case hd => rfl); (case he => (apply ev_load_f; (case hx => rfl); (case h => exact hp2); (case hv => rfl)))) | refine Jd ?_))) | (apply s_idx hA2; (case hg => rfl); (case hd => rfl); (case hx => rfl); (case hi => rfl); (case hm => rfl); (case hu => exact hy); intro p2 (hp2 : Pts _ p2 [.int .i64 ytr, .int .i64 ysp, .int .i64 ysv, .int .i64 yve, .int .i64 yop, .int .i64 ype, .int .i64 ydy, .int .i64 ylo, .int .i64 yhi, .int .i64 yby])) | (apply s_load_f; (case hg => rfl); (case hd => rfl); (case hx => rfl); (case h => exact hp2); (case hv => rfl)) | refine Jo ?_ | intro _))
        exact q_back (m' := xs.length - (i + 1)) ⟨hle, rfl, i + 1, A2, c2, l, rfl, by omega, by omega, hA2, hc2, by omega, hok, hfz, rfl⟩ (by omega) sbF sbL
      · (repeat (first | refine Jc ?_ | (apply c_draw; (case hB => kernel_rfl); (repeat (first | (apply q_idx hA2; (case hg => rfl); (case hd => rfl); (case hx => rfl); (case hi => rfl); (case hm => rfl); (case hu => exact hy); intro p2 (hp2 : Pts _ p2 [.int .i64 ytr, .int .i64 ysp, .int .i64 ysv, .int .i64 yve, .int .i64 yop, .int .i64 ype, .int .i64 ydy, .int .i64 ylo, .int .i64 yhi, .int .i64 yby])) | (apply q_ev; (case hg => rfl); (case hd => rfl); (case he => (apply ev_load_f; (case hx => rfl); (case h => exact hp2); (case hv => rfl)))) | refine Jd ?_))) | (apply s_idx hA2; (case hg => rfl); (case hd => rfl); (case hx => rfl); (case hi => rfl); (case hm => rfl); (case hu => exact hy); intro p2 (hp2 : Pts _ p2 [.int .i64 ytr, .int .i64 ysp, .int .i64 ysv, .int .i64 yve, .int .i64 yop, .int .i64 ype, .int .i64 ydy, .int .i64 ylo, .int .i64 yhi, .int .i64 yby])) | (apply s_load_f; (case hg => rfl); (case hd => rfl); (case hx => rfl); (case h => exact hp2); (case hv => rfl)) | refine Jo ?_ | intro _))
        exact q_cut ⟨rfl, rfl, rfl⟩ sbF sbL
    · (repeat (first | refine Jc ?_ | (apply c_draw; (case hB => kernel_rfl); (repeat (first | (apply q_idx hA2; (case hg => rfl); (case hd => rfl); (case hx => rfl); (case hi => rfl); (case hm => rfl); (case hu => exact hy); intro p2 (hp2 : Pts _ p2 [.int .i64 ytr, .int .i64 ysp, .int .i64 ysv, .int .i64 yve, .int .i64 yop, .int .i64 ype, .int .i64 ydy, .int .i64 ylo, .int .i64 yhi, .int .i64 yby])) | (apply q_ev; (case hg => rfl); (case hd => rfl); (case he => (apply ev_load_f; (case hx => rfl); (case h => exact hp2); (case hv => rfl)))) | refine Jd ?_))) | (apply s_idx hA2; (case hg => rfl); (case hd => rfl); (case hx => rfl); (case hi => rfl); (case hm => rfl); (case hu => exact hy); intro p2 (hp2 : Pts _ p2 [.int .i64 ytr, .int .i64 ysp, .int .i64 ysv, .int .i64 yve, .int .i64 yop, .int .i64 ype, .int .i64 ydy, .int .i64 ylo, .int .i64 yhi, .int .i64 yby])) | (apply s_load_f; (case hg => rfl); (case hd => rfl); (case hx => rfl); (case h => exact hp2); (case hv => rfl)) | refine Jo ?_ | intro _))
      exact q_cut ⟨rfl, rfl, rfl⟩ sbF sbL
  rintro S8 L8 F8 ⟨rfl, rfl, rfl⟩
  have htk : (l.take at_).length = at_ := by rw [List.length_take]; omega
  have hdr : (l.drop at_).length = l.length - at_ := List.length_drop
  have hAt : At S8 A2 (l.take at_) := fun h0 => by
    obtain ⟨p, e1, hp⟩ := hA2 (by omega)
    refine ⟨p, e1, fun j u hj => hp j u ?_⟩
    rw [← cellsOf_take] at hj
    rw [List.getElem?_take] at hj
    split at hj
    · exact hj
    · cases hj
  ((apply c_held ([(b5, .cells [.int .i64 tr, .int .i64 sp, .int .i64 sv, .int .i64 ve, .int .i64 (2 * sv + o2), .int .i64 (pe - 1), .int .i64 (tr / 10), .int .i64 lo', .int .i64 (lo' + h3 * h30_), .int .i64 bb].toArray 27 (0, 0))]); (case hL => (exact sbT))); (first | (apply h_first 0; (case hi => rfl); (case hr => kernel_rfl); (case hfr => kernel_rfl); (case hsel => kernel_rfl); (case hg => rfl); (case hd => rfl); (case he => (apply ev_slice_33; (case hx => rfl); (case hy => rfl); (case hz => rfl); (case hj => omega)))) | (apply h_slice_lo hA2 0; (case hi => rfl); (case hr => kernel_rfl); (case hfr => kernel_rfl); (case hsel => kernel_rfl); (case hg => rfl); (case hd => rfl); (case i1 => infer_instance); (case i2 => infer_instance); (case hx => rfl); (case hy => rfl); (case hm => rfl); (case hmc => omega); (case hj => omega); intro A9 hA9) | refine Jf 0 ?_); (first | (apply h_first 1; (case hi => rfl); (case hr => kernel_rfl); (case hfr => kernel_rfl); (case hsel => kernel_rfl); (case hg => rfl); (case hd => rfl); (case he => (apply ev_slice_33; (case hx => rfl); (case hy => rfl); (case hz => rfl); (case hj => omega)))) | (apply h_slice_lo hA2 1; (case hi => rfl); (case hr => kernel_rfl); (case hfr => kernel_rfl); (case hsel => kernel_rfl); (case hg => rfl); (case hd => rfl); (case i1 => infer_instance); (case i2 => infer_instance); (case hx => rfl); (case hy => rfl); (case hm => rfl); (case hmc => omega); (case hj => omega); intro A9 hA9) | refine Jf 1 ?_); (first | (apply h_first 2; (case hi => rfl); (case hr => kernel_rfl); (case hfr => kernel_rfl); (case hsel => kernel_rfl); (case hg => rfl); (case hd => rfl); (case he => (apply ev_slice_33; (case hx => rfl); (case hy => rfl); (case hz => rfl); (case hj => omega)))) | (apply h_slice_lo hA2 2; (case hi => rfl); (case hr => kernel_rfl); (case hfr => kernel_rfl); (case hsel => kernel_rfl); (case hg => rfl); (case hd => rfl); (case i1 => infer_instance); (case i2 => infer_instance); (case hx => rfl); (case hy => rfl); (case hm => rfl); (case hmc => omega); (case hj => omega); intro A9 hA9) | refine Jf 2 ?_); (first | (apply h_first 3; (case hi => rfl); (case hr => kernel_rfl); (case hfr => kernel_rfl); (case hsel => kernel_rfl); (case hg => rfl); (case hd => rfl); (case he => (apply ev_slice_33; (case hx => rfl); (case hy => rfl); (case hz => rfl); (case hj => omega)))) | (apply h_slice_lo hA2 3; (case hi => rfl); (case hr => kernel_rfl); (case hfr => kernel_rfl); (case hsel => kernel_rfl); (case hg => rfl); (case hd => rfl); (case i1 => infer_instance); (case i2 => infer_instance); (case hx => rfl); (case hy => rfl); (case hm => rfl); (case hmc => omega); (case hj => omega); intro A9 hA9) | refine Jf 3 ?_); (first | (apply h_first 4; (case hi => rfl); (case hr => kernel_rfl); (case hfr => kernel_rfl); (case hsel => kernel_rfl); (case hg => rfl); (case hd => rfl); (case he => (apply ev_slice_33; (case hx => rfl); (case hy => rfl); (case hz => rfl); (case hj => omega)))) | (apply h_slice_lo hA2 4; (case hi => rfl); (case hr => kernel_rfl); (case hfr => kernel_rfl); (case hsel => kernel_rfl); (case hg => rfl); (case hd => rfl); (case i1 => infer_instance); (case i2 => infer_instance); (case hx => rfl); (case hy => rfl); (case hm => rfl); (case hmc => omega); (case hj => omega); intro A9 hA9) | refine Jf 4 ?_); (first | (apply h_first 6; (case hi => rfl); (case hr => kernel_rfl); (case hfr => kernel_rfl); (case hsel => kernel_rfl); (case hg => rfl); (case hd => rfl); (case he => (apply ev_slice_33; (case hx => rfl); (case hy => rfl); (case hz => rfl); (case hj => omega)))) | (apply h_slice_lo hA2 6; (case hi => rfl); (case hr => kernel_rfl); (case hfr => kernel_rfl); (case hsel => kernel_rfl); (case hg => rfl); (case hd => rfl); (case i1 => infer_instance); (case i2 => infer_instance); (case hx => rfl); (case hy => rfl); (case hm => rfl); (case hmc => omega); (case hj => omega); intro A9 hA9) | refine Jf 6 ?_); (first | (apply h_first 7; (case hi => rfl); (case hr => kernel_rfl); (case hfr => kernel_rfl); (case hsel => kernel_rfl); (case hg => rfl); (case hd => rfl); (case he => (apply ev_slice_33; (case hx => rfl); (case hy => rfl); (case hz => rfl); (case hj => omega)))) | (apply h_slice_lo hA2 7; (case hi => rfl); (case hr => kernel_rfl); (case hfr => kernel_rfl); (case hsel => kernel_rfl); (case hg => rfl); (case hd => rfl); (case i1 => infer_instance); (case i2 => infer_instance); (case hx => rfl); (case hy => rfl); (case hm => rfl); (case hmc => omega); (case hj => omega); intro A9 hA9) | refine Jf 7 ?_); (first | (apply h_first 8; (case hi => rfl); (case hr => kernel_rfl); (case hfr => kernel_rfl); (case hsel => kernel_rfl); (case hg => rfl); (case hd => rfl); (case he => (apply ev_slice_33; (case hx => rfl); (case hy => rfl); (case hz => rfl); (case hj => omega)))) | (apply h_slice_lo hA2 8; (case hi => rfl); (case hr => kernel_rfl); (case hfr => kernel_rfl); (case hsel => kernel_rfl); (case hg => rfl); (case hd => rfl); (case i1 => infer_instance); (case i2 => infer_instance); (case hx => rfl); (case hy => rfl); (case hm => rfl); (case hmc => omega); (case hj => omega); intro A9 hA9) | refine Jf 8 ?_); (apply h_one 5; (case hr => kernel_rfl)); (first | (apply n_buildSlice; (case hi => rfl); (case hg => rfl); (case hd => rfl); (case i1 => infer_instance); (case i2 => infer_instance); (case i3 => infer_instance); (case hp => rfl); (case hq => rfl); (case hm => rfl); (case hv => rfl); (case hl => rfl); intro b0) | (apply n_append_st (ms := l.drop at_) hA9; (case hi => rfl); (case hT => infer_instance); (case hsz => infer_instance); (case hz => infer_instance); (case hby => infer_instance); (case hg => rfl); (case hd => rfl); (case hx => rfl); (case ho => exact Ows.full (α := Fa) (e := 27) (g := b0) (l := [⟨tr, sp, sv, ve, 2 * sv + o2, pe - 1, tr / 10, lo', lo' + h3 * h30_, bb⟩]) rfl (by simp [maxLen])); (case hL => (exact pmT)); (case hy => rfl); (case hm => rfl); (case hzs => rfl); (case h0 => decide); (case hb => (simp; omega)); (case h63 => (simp; omega)); (case hsub => (intro _ _; exact sbL)); intro v1 ob1 ho1) | (apply n_append_grow (ls := l.take at_) (ms := ([⟨tr, sp, sv, ve, 2 * sv + o2, pe - 1, tr / 10, lo', lo' + h3 * h30_, bb⟩] : List Fa) ++ l.drop at_) hAt; (case hi => rfl); (case hT => infer_instance); (case hsz => infer_instance); (case hz => infer_instance); (case hby => infer_instance); (case hg => rfl); (case hd => rfl); (case hx => rfl); (case hm => exact htk.symm); (case hy => rfl); (case ho => exact ho1); (case hp => (simp)); (case hL => (exact pmT)); (case hcp => (rw [htk, List.length_append]; simp only [List.length_singleton]; omega)); (case hzs => rfl); (case hfit => (rw [htk, List.length_append, hdr]; unfold Builtin.nextslicecap; simp only [List.length_singleton]; split <;> (try split) <;> omega)); (case h63 => (rw [htk, List.length_append, hdr]; simp only [List.length_singleton]; omega)); (case hsub => (intro _ _; exact sbL)); intro v2 ob2 ho2) | (refine Jn ?_; try intro _)); (apply h_one 9; (case hr => kernel_rfl)); (first | (apply n_buildSlice; (case hi => rfl); (case hg => rfl); (case hd => rfl); (case i1 => infer_instance); (case i2 => infer_instance); (case i3 => infer_instance); (case hp => rfl); (case hq => rfl); (case hm => rfl); (case hv => rfl); (case hl => rfl); intro b0) | (apply n_append_st (ms := l.drop at_) hA9; (case hi => rfl); (case hT => infer_instance); (case hsz => infer_instance); (case hz => infer_instance); (case hby => infer_instance); (case hg => rfl); (case hd => rfl); (case hx => rfl); (case ho => exact Ows.full (α := Fa) (e := 27) (g := b0) (l := [⟨tr, sp, sv, ve, 2 * sv + o2, pe - 1, tr / 10, lo', lo' + h3 * h30_, bb⟩]) rfl (by simp [maxLen])); (case hL => (exact pmT)); (case hy => rfl); (case hm => rfl); (case hzs => rfl); (case h0 => decide); (case hb => (simp; omega)); (case h63 => (simp; omega)); (case hsub => (intro _ _; exact sbL)); intro v1 ob1 ho1) | (apply n_append_grow (ls := l.take at_) (ms := ([⟨tr, sp, sv, ve, 2 * sv + o2, pe - 1, tr / 10, lo', lo' + h3 * h30_, bb⟩] : List Fa) ++ l.drop at_) hAt; (case hi => rfl); (case hT => infer_instance); (case hsz => infer_instance); (case hz => infer_instance); (case hby => infer_instance); (case hg => rfl); (case hd => rfl); (case hx => rfl); (case hm => exact htk.symm); (case hy => rfl); (case ho => exact ho1); (case hp => (simp)); (case hL => (exact pmT)); (case hcp => (rw [htk, List.length_append]; simp only [List.length_singleton]; omega)); (case hzs => rfl); (case hfit => (rw [htk, List.length_append, hdr]; unfold Builtin.nextslicecap; simp only [List.length_singleton]; split <;> (try split) <;> omega)); (case h63 => (rw [htk, List.length_append, hdr]; simp only [List.length_singleton]; omega)); (case hsub => (intro _ _; exact sbL)); intro v2 ob2 ho2) | (refine Jn ?_; try intro _)); (apply h_one 10; (case hr => kernel_rfl)); (first | (apply n_buildSlice; (case hi => rfl); (case hg => rfl); (case hd => rfl); (case i1 => infer_instance); (case i2 => infer_instance); (case i3 => infer_instance); (case hp => rfl); (case hq => rfl); (case hm => rfl); (case hv => rfl); (case hl => rfl); intro b0) | (apply n_append_st (ms := l.drop at_) hA9; (case hi => rfl); (case hT => infer_instance); (case hsz => infer_instance); (case hz => infer_instance); (case hby => infer_instance); (case hg => rfl); (case hd => rfl); (case hx => rfl); (case ho => exact Ows.full (α := Fa) (e := 27) (g := b0) (l := [⟨tr, sp, sv, ve, 2 * sv + o2, pe - 1, tr / 10, lo', lo' + h3 * h30_, bb⟩]) rfl (by simp [maxLen])); (case hL => (exact pmT)); (case hy => rfl); (case hm => rfl); (case hzs => rfl); (case h0 => decide); (case hb => (simp; omega)); (case h63 => (simp; omega)); (case hsub => (intro _ _; exact sbL)); intro v1 ob1 ho1) | (apply n_append_grow (ls := l.take at_) (ms := ([⟨tr, sp, sv, ve, 2 * sv + o2, pe - 1, tr / 10, lo', lo' + h3 * h30_, bb⟩] : List Fa) ++ l.drop at_) hAt; (case hi => rfl); (case hT => infer_instance); (case hsz => infer_instance); (case hz => infer_instance); (case hby => infer_instance); (case hg => rfl); (case hd => rfl); (case hx => rfl); (case hm => exact htk.symm); (case hy => rfl); (case ho => exact ho1); (case hp => (simp)); (case hL => (exact pmT)); (case hcp => (rw [htk, List.length_append]; simp only [List.length_singleton]; omega)); (case hzs => rfl); (case hfit => (rw [htk, List.length_append, hdr]; unfold Builtin.nextslicecap; simp only [List.length_singleton]; split <;> (try split) <;> omega)); (case h63 => (rw [htk, List.length_append, hdr]; simp only [List.length_singleton]; omega)); (case hsub => (intro _ _; exact sbL)); intro v2 ob2 ho2) | (refine Jn ?_; try intro _)); (first | (apply h_first 11; (case hi => rfl); (case hr => kernel_rfl); (case hfr => kernel_rfl); (case hsel => kernel_rfl); (case hg => rfl); (case hd => rfl); (case he => (apply ev_slice_33; (case hx => rfl); (case hy => rfl); (case hz => rfl); (case hj => omega)))) | (apply h_slice_lo hA2 11; (case hi => rfl); (case hr => kernel_rfl); (case hfr => kernel_rfl); (case hsel => kernel_rfl); (case hg => rfl); (case hd => rfl); (case i1 => infer_instance); (case i2 => infer_instance); (case hx => rfl); (case hy => rfl); (case hm => rfl); (case hmc => omega); (case hj => omega); intro A9 hA9) | refine Jf 11 ?_); (apply h_end; (case hr => kernel_rfl)))
  refine W.freezeFz ho2 (by repeat (first | exact pm_nil _ | exact pm_refl _ _ | exact pm_self _ | refine pm_cons ?_ | refine pm_app ?_)) fun S9 hle9 hfz9 => ?_
  obtain ⟨A10, c10, rfl, hc10, hA10⟩ := hfz9.sr
  have hln : (l.take at_ ++ (([⟨tr, sp, sv, ve, 2 * sv + o2, pe - 1, tr / 10, lo', lo' + h3 * h30_, bb⟩] : List Fa) ++ l.drop at_)).length = l.length + 1 := by
    rw [List.length_append, List.length_append, htk, hdr]; simp only [List.length_singleton]; omega
  (repeat (first | refine Jz ?_ | intro _))
  refine q_back (m' := xs.length - (i + 1)) ⟨hle.trans hle9, rfl, i + 1, A10, c10, _, rfl, by omega, by omega, hA10, hc10, by omega, ?_, hfz9, rfl⟩ (by omega) sbF (List.nil_sublist _)
  intro y hy
  rcases List.mem_append.1 hy with hy | hy
  · exact hok y (List.mem_of_mem_take hy)
  rcases List.mem_append.1 hy with hy | hy
  · rw [List.mem_singleton.1 hy]; exact hfact
  · exact hok y (List.mem_of_mem_drop hy)
end Go.Proofs.YtogfficbloejcaaDoor
namespace Go.Proofs.YtogfficbloejcaaDoor
open Go Go.X
set_option maxRecDepth 10000
set_option linter.unusedVariables false
attribute [local irreducible] Code.wpIn wpListIn Exit.then Exit.inBlock X.Out X.Back X.W X.Ev X.Con X.BinV X.Wh X.Wn X.Wq
theorem MakeR_con (l : List Fa) (A : Option Addr) (c : Nat) (S : SH) (hG : Gl S) (hA : At S A l) (hl : l.length ≤ 1000000) :
    Con Tryd.prog 16 #[.slice A l.length c] S [] (fun S' L' r => L' = [] ∧ ∃ v, r = .tuple #[v, .int .i64 (makeR l).2] ∧ SkV S' v (makeR l).1) :=
  (Make_con l A c S hG hA hl).mono fun S' L' r _ ⟨h1, v, s, e, h2, h3, h4⟩ => by
    have h := make_ref h4
    rw [← h]; exact ⟨h1, v, h2, h3⟩
theorem MergeR_con {va vb : Value} {a b : List PC} (S : SH) (hG : Gl S) (ha : SkV S va a) (hb : SkV S vb b) :
    Con Tryd.prog 21 #[va, vb] S [] (fun S' L' r => L' = [] ∧ ∃ v, r = .tuple #[v, .int .i64 (mergeR (1) a b).2] ∧ SkV S' v (mergeR (1) a b).1) :=
  (Merge_con S hG ha hb).mono fun S' L' r _ ⟨h1, v, s, e, h2, h3, h4⟩ => by
    have h := merge_ref addB_1 h4
    rw [← h]; exact ⟨h1, v, h2, h3⟩
theorem SubR_con {va vb : Value} {a b : List PC} (S : SH) (hG : Gl S) (ha : SkV S va a) (hb : SkV S vb b) :
    Con Tryd.prog 23 #[va, vb] S [] (fun S' L' r => L' = [] ∧ ∃ v, r = .tuple #[v, .int .i64 (mergeR (-1) a b).2] ∧ SkV S' v (mergeR (-1) a b).1) :=
  (Sub_con S hG ha hb).mono fun S' L' r _ ⟨h1, v, s, e, h2, h3, h4⟩ => by
    have h := merge_ref addB_m1 h4
    rw [← h]; exact ⟨h1, v, h2, h3⟩
theorem total_det {l : List PC} {c c' : PC} {e e' : Int} (h : TotalP l c e) (k : TotalP l c' e') : c = c' ∧ e = e' := by
  rcases h with ⟨h1, h2, h3, rfl, rfl⟩ | ⟨h1, rfl, rfl⟩ <;> rcases k with ⟨k1, k2, k3, rfl, rfl⟩ | ⟨k1, rfl, rfl⟩
  · exact ⟨rfl, rfl⟩
  · exact absurd ⟨h1, h2, h3⟩ k1
  · exact absurd ⟨k1, k2, k3⟩ h1
  · exact ⟨rfl, rfl⟩
theorem quant_det {c : PC} {num den lo hi e lo' hi' e' : Int} (h : QuantP c num den lo hi e) (k : QuantP c num den lo' hi' e') : lo = lo' ∧ hi = hi' ∧ e = e' := by
  rcases h with ⟨h1, h2, h3, h4, h5, rfl, rfl, rfl⟩ | ⟨h1, rfl, rfl, rfl⟩ <;> rcases k with ⟨k1, k2, k3, k4, k5, rfl, rfl, rfl⟩ | ⟨k1, rfl, rfl, rfl⟩
  · exact ⟨rfl, rfl, rfl⟩
  · exact absurd ⟨h1, h2, h3, h4, h5⟩ k1
  · exact absurd ⟨k1, k2, k3, k4, k5⟩ h1
  · exact ⟨rfl, rfl, rfl⟩
theorem SkV.of {S : SH} {A : Option Addr} {c : Nat} {cs : List Ce} (h2 : At S A cs) (h3 : ∀ q ∈ cs, q.ok S) (h4 : cs.length ≤ 1000) : SkV S (.agg #[.slice A cs.length c]) (cs.map (·.p)) := ⟨A, c, cs, rfl, h2, h3, h4, rfl⟩
theorem SkC.of {S : SH} {A : Option Addr} {c : Nat} {cs : List Ce} (h1 : cs.length ≤ c) (h2 : At S A cs) (h3 : ∀ q ∈ cs, q.ok S) (h4 : cs.length ≤ 1000) : SkC S (.agg #[.slice A cs.length c]) (cs.map (·.p)) := ⟨A, c, cs, rfl, h1, h2, h3, h4, rfl⟩
/-- Cells in memory: where, how many, what. -/
structure CellsAt (S : SH) (A : Option Addr) (n c : Nat) (cs : List Ce) : Prop where
  n : n = cs.length
  le : cs.length ≤ c
  pts : At S A cs
  ok : ∀ q ∈ cs, q.ok S
  len : cs.length ≤ 1000
theorem CellsAt.le' {S T : SH} {A : Option Addr} {n c : Nat} {cs : List Ce} (h : CellsAt S A n c cs) (k : Le S T) : CellsAt T A n c cs := ⟨h.n, h.le, h.pts.le k, fun q hq => (h.ok q hq).le k, h.len⟩
theorem SkC.cells {S : SH} {A : Option Addr} {n c : Nat} {l : List PC} (h : SkC S (.agg #[.slice A n c]) l) : ∃ cs, CellsAt S A n c cs := by
  obtain ⟨A', c', cs, e, h1, h2, h3, h4, _⟩ := h
  injection e with e; injection e with e; injection e with e1 e2; injection e1 with e3 e4 e5
  subst e3 e4 e5
  exact ⟨cs, rfl, h1, h2, h3, h4⟩
end Go.Proofs.YtogfficbloejcaaDoor
namespace Go.Proofs.YtogfficbloejcaaDoor
open Go Go.X
set_option maxRecDepth 10000
set_option linter.unusedVariables false
attribute [local irreducible] Code.wpIn wpListIn Exit.then Exit.inBlock X.Out X.Back X.W X.Ev X.Con X.BinV X.Wh X.Wn X.Wq
set_option maxHeartbeats 12800000 in
theorem f3_law (raw : Sv) (xs : List K4) (A : Option Addr) (ca : Nat) (ys : List K4) (B : Option Addr) (cb : Nat) (odd : Fa) (d num den : Int) (S : SH) (hG : Gl S) (hraw : rawSk S raw) (hA : At S A xs) (lx : xs.length ≤ ca) (hx : ∀ x ∈ xs, K4ok x) (hB : At S B ys) (ly : ys.length ≤ cb) (hy : ∀ x ∈ ys, K4ok x) (lx2 : xs.length ≤ 1048576) (ly2 : ys.length ≤ 1048576) :
    Con Tryd.prog 3 #[.agg #[.slice raw.a raw.m raw.c], .slice A xs.length ca, .slice B ys.length cb, .agg odd.vals.toArray, .int .i64 d, .int .i64 num, .int .i64 den] S [] (fun _ _ v => v = .bool true) := by
  obtain ⟨ra, rm, rc⟩ := raw
  obtain ⟨rl, e0, hrc, hrA, hrok⟩ := hraw
  simp only at e0 hrc hrA
  subst e0
  obtain ⟨otr, osp, osv, ove, oop, ope, ody, olo, ohi, oby⟩ := odd
  refine con_of (args := [.agg [.slice ra rl.length rc].toArray, .slice A xs.length ca, .slice B ys.length cb, .agg [.int .i64 otr, .int .i64 osp, .int .i64 osv, .int .i64 ove, .int .i64 oop, .int .i64 ope, .int .i64 ody, .int .i64 olo, .int .i64 ohi, .int .i64 oby].toArray, .int .i64 d, .int .i64 num, .int .i64 den]) Tryd.func3 rfl Tryd.ntmps3 rfl fun w => ?_
  (repeat (first | refine Jc ?_ | ((apply z_call; rfl; rfl; rfl; exact sane_con S hG; rintro S1 _ _ hle1 ⟨rfl, rfl⟩)) | refine Jo ?_ | intro _))
  (repeat (first | refine Jc ?_ | ((apply z_call; rfl; rfl; rfl; exact Edges_con d S1; rintro _ _ _ - ⟨rfl, rfl, rfl⟩)) | refine Jo ?_ | intro _))
  (repeat (first | refine Jc ?_ | ((apply z_call; rfl; rfl; rfl; exact rEdges_con d S1; rintro _ _ _ - ⟨rfl, rfl, rfl⟩)) | refine Jo ?_ | intro _))
  (repeat (first | refine Jc ?_ | ((apply z_call; rfl; rfl; rfl; exact Bucket_con d S1; rintro _ _ _ - ⟨rfl, rfl, rfl⟩)) | refine Jo ?_ | intro _))
  (repeat (first | refine Jc ?_ | ((apply z_call; rfl; rfl; rfl; exact rBucket_con d S1; rintro _ _ _ - ⟨rfl, rfl, rfl⟩)) | refine Jo ?_ | intro _))
  rename_i b7 b10
  obtain ⟨ob10, hob10⟩ : ∃ o, o = Obj.cells [Value.int .i64 otr, .int .i64 osp, .int .i64 osv, .int .i64 ove, .int .i64 oop, .int .i64 ope, .int .i64 ody, .int .i64 olo, .int .i64 ohi, .int .i64 oby].toArray 27 (0, 0) := ⟨_, rfl⟩
  refine c_meet (fun S' L F => Le S1 S' ∧ ∃ (bt : Nat) (Al : Option Addr) (cl : Nat) (l : List Fa) (Am : Option Addr) (cm : Nat) (m : List Fa), At S' Al l ∧ At S' Am m ∧ l.length ≤ 1000 ∧ m.length ≤ 1000 ∧ S' bt = some (.cells #[.slice Al l.length cl, .slice Am m.length cm] 32 (0, 0)) ∧
      L = [(b7, .cells [.slice ra rl.length rc].toArray 24 (0, 0))] ∧
      F = [(1, .slice A xs.length ca), (2, .slice B ys.length cb), (4, .int .i64 d), (5, .int .i64 num), (6, .int .i64 den), (7, .pointer (some ⟨b7, 0, none⟩)), (15, .bool true), (81, .slice (some ⟨bt, 0, none⟩) 2 2), (82, .int .i64 2), (83, .int .i64 0)]) ?_ ?_
  · ((apply c_held ([(b10, .cells [.int .i64 otr, .int .i64 osp, .int .i64 osv, .int .i64 ove, .int .i64 oop, .int .i64 ope, .int .i64 ody, .int .i64 olo, .int .i64 ohi, .int .i64 oby].toArray 27 (0, 0)), (b7, .cells [.slice ra rl.length rc].toArray 24 (0, 0))]); (case hL => (exact sbT))); refine Jf 0 ?_; refine Jf 2 ?_; refine Jf 4 ?_; refine Jf 9 ?_; (apply h_two 1 5; (case hr => kernel_rfl)); (case k1 => ((apply n_call; (case hi => rfl); (case i1 => infer_instance); (case hg => rfl); (case hd => rfl); (case ha => rfl); (case hc => exact MadeFacts_con xs A ca _ (hA.le (by repeat (first | exact Le.refl _ | assumption | refine Le.trans ?_ (by assumption)))) hx); (case hL => (exact pmT)); (case hsub => (intros; (exact sbT))); rintro S2 _ _ hle2 ⟨rfl, Al, cl, l, rfl, hAl, hcl, hll, hlf⟩); (apply h_two 3 5; (case hr => kernel_rfl)); (case k1 => ((apply n_call; (case hi => rfl); (case i1 => infer_instance); (case hg => rfl); (case hd => rfl); (case ha => rfl); (case hc => exact MadeFactsO_con ys B cb _ (hB.le (by repeat (first | exact Le.refl _ | assumption | refine Le.trans ?_ (by assumption)))) hy); (case hL => (exact pmT)); (case hsub => (intros; (exact sbT))); rintro S3 _ _ hle3 ⟨Am, cm, m, rfl, hom, hlm, hmf⟩); (apply h_one 5; (case hr => kernel_rfl)); (apply n_buildSlice; (case hi => rfl); (case hg => rfl); (case hd => rfl); (case i1 => infer_instance); (case i2 => infer_instance); (case i3 => infer_instance); (case hp => rfl); (case hq => rfl); (case hm => rfl); (case hv => rfl); (case hl => rfl); intro b0); (apply h_one 6; (case hr => kernel_rfl)); (apply n_append (ms := [(⟨otr, osp, osv, ove, oop, ope, ody, olo, ohi, oby⟩ : Fa)]); (case hi => rfl); (case hT => infer_instance); (case hsz => infer_instance); (case hz => infer_instance); (case hby => infer_instance); (case hg => rfl); (case hd => rfl); (case hx => rfl); (case ho => exact hom); (case hL => (exact pmT)); (case hy => rfl); (case hm => rfl); (case hs => (apply Src.own; (repeat (first | exact List.Mem.head _ | apply List.Mem.tail | apply List.mem_append_right)))); (case hzs => rfl); (case h0 => decide); (case hb => (simp; omega)); (case h63 => (simp; omega)); (case hsub => (intros; (exact sbT))); intro v1 ob1 ho1; refine Wh.freezeOws ho1 (by repeat (first | exact pm_nil _ | exact pm_refl _ _ | exact pm_self _ | refine pm_cons ?_ | refine pm_app ?_)) sbL fun S9 hle9 hr9 => ?_; obtain ⟨A11, c11, rfl, hc11, hA11⟩ := hr9); (apply h_one 7; (case hr => kernel_rfl)); (apply n_buildSlice; (case hi => rfl); (case hg => rfl); (case hd => rfl); (case i1 => infer_instance); (case i2 => infer_instance); (case i3 => infer_instance); (case hp => rfl); (case hq => rfl); (case hm => rfl); (case hv => rfl); (case hl => rfl); intro bt); refine Jf 8 ?_; (apply h_end; (case hr => kernel_rfl)); (refine W.freeze fun S10 hle10 hb10 => ?_; apply q_then; exact q_cut ⟨(by repeat (first | exact Le.refl _ | assumption | refine Le.trans ?_ (by assumption))), bt, Al, cl, l, A11, c11, _, hAl.le (by repeat (first | exact Le.refl _ | assumption | refine Le.trans ?_ (by assumption))), hA11.le (by repeat (first | exact Le.refl _ | assumption | refine Le.trans ?_ (by assumption))), by omega, by (simp only [List.length_append, List.length_singleton]; omega), hb10, rfl, rfl⟩ sbF sbL))); (case k2 => ((apply n_buildSlice; (case hi => rfl); (case hg => rfl); (case hd => rfl); (case i1 => infer_instance); (case i2 => infer_instance); (case i3 => infer_instance); (case hp => rfl); (case hq => rfl); (case hm => rfl); (case hv => rfl); (case hl => rfl); intro b0); (apply h_one 3; (case hr => kernel_rfl)); (apply n_call; (case hi => rfl); (case i1 => infer_instance); (case hg => rfl); (case hd => rfl); (case ha => rfl); (case hc => exact MadeFactsO_con ys B cb _ (hB.le (by repeat (first | exact Le.refl _ | assumption | refine Le.trans ?_ (by assumption)))) hy); (case hL => (exact pmT)); (case hsub => (intros; (exact sbT))); rintro S3 _ _ hle3 ⟨Am, cm, m, rfl, hom, hlm, hmf⟩); (apply h_one 6; (case hr => kernel_rfl)); (apply n_append (ms := [(⟨otr, osp, osv, ove, oop, ope, ody, olo, ohi, oby⟩ : Fa)]); (case hi => rfl); (case hT => infer_instance); (case hsz => infer_instance); (case hz => infer_instance); (case hby => infer_instance); (case hg => rfl); (case hd => rfl); (case hx => rfl); (case ho => exact hom); (case hL => (exact pmT)); (case hy => rfl); (case hm => rfl); (case hs => (apply Src.own; (repeat (first | exact List.Mem.head _ | apply List.Mem.tail | apply List.mem_append_right)))); (case hzs => rfl); (case h0 => decide); (case hb => (simp; omega)); (case h63 => (simp; omega)); (case hsub => (intros; (exact sbT))); intro v1 ob1 ho1; refine Wh.freezeOws ho1 (by repeat (first | exact pm_nil _ | exact pm_refl _ _ | exact pm_self _ | refine pm_cons ?_ | refine pm_app ?_)) sbL fun S9 hle9 hr9 => ?_; obtain ⟨A11, c11, rfl, hc11, hA11⟩ := hr9); (apply h_one 7; (case hr => kernel_rfl)); (apply n_buildSlice; (case hi => rfl); (case hg => rfl); (case hd => rfl); (case i1 => infer_instance); (case i2 => infer_instance); (case i3 => infer_instance); (case hp => rfl); (case hq => rfl); (case hm => rfl); (case hv => rfl); (case hl => rfl); intro bt); refine Jf 8 ?_; (apply h_end; (case hr => kernel_rfl)); (refine W.freeze fun S10 hle10 hb10 => ?_; apply q_then; exact q_cut ⟨(by repeat (first | exact Le.refl _ | assumption | refine Le.trans ?_ (by assumption))), bt, Al, cl, l, A11, c11, _, hAl.le (by repeat (first | exact Le.refl _ | assumption | refine Le.trans ?_ (by assumption))), hA11.le (by repeat (first | exact Le.refl _ | assumption | refine Le.trans ?_ (by assumption))), by omega, by (simp only [List.length_append, List.length_singleton]; omega), hb10, rfl, rfl⟩ sbF sbL))))); (case k2 => ((apply n_buildSlice; (case hi => rfl); (case hg => rfl); (case hd => rfl); (case i1 => infer_instance); (case i2 => infer_instance); (case i3 => infer_instance); (case hp => rfl); (case hq => rfl); (case hm => rfl); (case hv => rfl); (case hl => rfl); intro b0); (apply h_one 1; (case hr => kernel_rfl)); (apply n_call; (case hi => rfl); (case i1 => infer_instance); (case hg => rfl); (case hd => rfl); (case ha => rfl); (case hc => exact MadeFacts_con xs A ca _ (hA.le (by repeat (first | exact Le.refl _ | assumption | refine Le.trans ?_ (by assumption)))) hx); (case hL => (exact pmT)); (case hsub => (intros; (exact sbT))); rintro S2 _ _ hle2 ⟨rfl, Al, cl, l, rfl, hAl, hcl, hll, hlf⟩); (apply h_one 3; (case hr => kernel_rfl)); (apply n_call; (case hi => rfl); (case i1 => infer_instance); (case hg => rfl); (case hd => rfl); (case ha => rfl); (case hc => exact MadeFactsO_con ys B cb _ (hB.le (by repeat (first | exact Le.refl _ | assumption | refine Le.trans ?_ (by assumption)))) hy); (case hL => (exact pmT)); (case hsub => (intros; (exact sbT))); rintro S3 _ _ hle3 ⟨Am, cm, m, rfl, hom, hlm, hmf⟩); (apply h_one 6; (case hr => kernel_rfl)); (apply n_append (ms := [(⟨otr, osp, osv, ove, oop, ope, ody, olo, ohi, oby⟩ : Fa)]); (case hi => rfl); (case hT => infer_instance); (case hsz => infer_instance); (case hz => infer_instance); (case hby => infer_instance); (case hg => rfl); (case hd => rfl); (case hx => rfl); (case ho => exact hom); (case hL => (exact pmT)); (case hy => rfl); (case hm => rfl); (case hs => (apply Src.own; (repeat (first | exact List.Mem.head _ | apply List.Mem.tail | apply List.mem_append_right)))); (case hzs => rfl); (case h0 => decide); (case hb => (simp; omega)); (case h63 => (simp; omega)); (case hsub => (intros; (exact sbT))); intro v1 ob1 ho1; refine Wh.freezeOws ho1 (by repeat (first | exact pm_nil _ | exact pm_refl _ _ | exact pm_self _ | refine pm_cons ?_ | refine pm_app ?_)) sbL fun S9 hle9 hr9 => ?_; obtain ⟨A11, c11, rfl, hc11, hA11⟩ := hr9); (apply h_one 7; (case hr => kernel_rfl)); (apply n_buildSlice; (case hi => rfl); (case hg => rfl); (case hd => rfl); (case i1 => infer_instance); (case i2 => infer_instance); (case i3 => infer_instance); (case hp => rfl); (case hq => rfl); (case hm => rfl); (case hv => rfl); (case hl => rfl); intro bt); refine Jf 8 ?_; (apply h_end; (case hr => kernel_rfl)); (refine W.freeze fun S10 hle10 hb10 => ?_; apply q_then; exact q_cut ⟨(by repeat (first | exact Le.refl _ | assumption | refine Le.trans ?_ (by assumption))), bt, Al, cl, l, A11, c11, _, hAl.le (by repeat (first | exact Le.refl _ | assumption | refine Le.trans ?_ (by assumption))), hA11.le (by repeat (first | exact Le.refl _ | assumption | refine Le.trans ?_ (by assumption))), by omega, by (simp only [List.length_append, List.length_singleton]; omega), hb10, rfl, rfl⟩ sbF sbL))))
  rintro S2 L2 F2 ⟨hle2, bt, Al, cl, l, Am, cm, m, hAl, hAm, hll, hlm, hbt, rfl, rfl⟩
  have hT : At S2 (some ⟨bt, 0, none⟩) [(⟨Al, l.length, cl⟩ : Sv), ⟨Am, m.length, cm⟩] := at_litB hbt rfl
  have hrows : ∀ j : Nat, j < 2 → ∃ (a : Option Addr) (c : Nat) (l1 : List Fa), [(⟨Al, l.length, cl⟩ : Sv), ⟨Am, m.length, cm⟩][j]? = some ⟨a, l1.length, c⟩ ∧ At S2 a l1 ∧ l1.length ≤ 1000 := by
    intro j hj
    match j, hj with
    | 0, _ => exact ⟨Al, cl, l, rfl, hAl, hll⟩
    | 1, _ => exact ⟨Am, cm, m, rfl, hAm, hlm⟩
  obtain ⟨svs, hsvs⟩ : ∃ svs, svs = [(⟨Al, l.length, cl⟩ : Sv), ⟨Am, m.length, cm⟩] := ⟨_, rfl⟩
  rw [← hsvs] at hT hrows
  have hsl : svs.length = 2 := by rw [hsvs]; rfl
  have hle02 : Le S S2 := hle1.trans hle2
  (repeat (first | refine Jz ?_ | intro _))
  refine c_loop (fun mm S' L F => Le S2 S' ∧ ∃ j : Nat, mm = 2 - j ∧ j ≤ 2 ∧ L = [(b7, .cells [.slice ra rl.length rc].toArray 24 (0, 0))] ∧
      F = [(1, .slice A xs.length ca), (2, .slice B ys.length cb), (5, .int .i64 num), (6, .int .i64 den), (7, .pointer (some ⟨b7, 0, none⟩)), (15, .bool true), (81, .slice (some ⟨bt, 0, none⟩) 2 2), (82, .int .i64 2), (83, .int .i64 j)])
    ⟨Le.refl _, 0, rfl, by omega, rfl, rfl⟩ sbF sbL ?_
  rintro mm S3 L F ⟨hle3, j, rfl, hj, rfl, rfl⟩
  by_cases hj2 : j < 2
  · obtain ⟨a, c, l1, hsv, hl1, hl1l⟩ := hrows j hj2
    have hG3 : Gl S3 := (hG.le hle02).le hle3
    have hl3 := hl1.le hle3
    have mk1 := MakeR_con l1 a c S3 hG3 hl3 (by omega)
    have mk2 := fun S4 (h : Le S3 S4) => rMake_con l1 a c S4 (hl3.le h) (by omega)
    have hT3 := hT.le hle3
    have hsl2 : 2 = svs.length := hsl.symm
    obtain ⟨⟨mm1, ee1⟩, hmm⟩ : ∃ p, p = makeR l1 := ⟨_, rfl⟩
    simp only [← hmm] at mk1 mk2
    (repeat (first | refine Jc ?_ | (apply s_idx hT3; (case hg => rfl); (case hd => rfl); (case hx => rfl); (case hi => rfl); (case hm => exact hsl2); (case hu => exact hsv); intro p2 (hp2 : Pts _ p2 [.slice a l1.length c])) | (apply s_load1; (case hg => rfl); (case hd => rfl); (case hx => rfl); (case hv => exact hp2)) | ((apply z_call; rfl; rfl; rfl; exact mk1; rintro S4 _ _ hle4 ⟨rfl, v4, rfl, hs4⟩; obtain ⟨B4, n4, c4, rfl⟩ := hs4.form)) | refine Jo ?_ | intro _))
    (repeat (first | refine Jc ?_ | ((apply z_call; rfl; rfl; rfl; exact mk2 S4 hle4; rintro S5 _ _ hle5 ⟨rfl, v5, rfl, hs5⟩; obtain ⟨B5, n5, c5, rfl⟩ := hs5.form)) | refine Jo ?_ | intro _))
    have sm := rSame_con S5 (hs4.le hle5) hs5
    rw [bP_t rfl] at sm
    (repeat (first | refine Jc ?_ | ((apply z_call; rfl; rfl; rfl; exact sm; rintro _ _ _ - ⟨rfl, rfl, rfl⟩)) | refine Jo ?_ | intro _))
    exact q_back (m' := 2 - (j + 1)) ⟨(hle3.trans hle4).trans hle5, j + 1, rfl, by omega, rfl, rfl⟩ (by omega) sbF sbL
  obtain rfl : j = 2 := by omega
  clear hT hrows hsvs hsl svs hAl hAm hbt
  have hle13 : Le S S3 := hle02.trans hle3
  (repeat (first | refine Jc ?_ | ((apply z_call; rfl; rfl; rfl; exact fewC_con rl ra rc S3 (hrA.le hle13) (fun q hq => (hrok q hq).le hle13); rintro S4 _ _ hle4 ⟨rfl, l1, hs1⟩; obtain ⟨A1, n1, c1, rfl⟩ := hs1.sk.form)) | refine Jo ?_ | intro _))
  (repeat (first | refine Jc ?_ | ((apply z_call; rfl; rfl; rfl; exact madeC_con xs A ca S4 ((hA.le hle13).le hle4) hx; rintro S5 _ _ hle5 ⟨rfl, l2, hs2, -⟩; obtain ⟨A2, n2, c2, rfl⟩ := hs2.sk.form)) | refine Jo ?_ | intro _))
  (repeat (first | refine Jc ?_ | ((apply z_call; rfl; rfl; rfl; exact madeC_con ys B cb S5 (((hB.le hle13).le hle4).le hle5) hy; rintro S6 _ _ hle6 ⟨rfl, l3, hs3, -⟩; obtain ⟨A3, n3, c3, rfl⟩ := hs3.sk.form)) | refine Jo ?_ | intro _))
  rename_i b0
  have ho0 := Ows.full (α := K4) (e := 68) (g := b0) (cs := []) (l := []) rfl (by decide)
  have hle16 : Le S S6 := ((hle13.trans hle4).trans hle5).trans hle6
  have hA6 := hA.le hle16
  have hB6 := hB.le hle16
  (repeat (first | refine Jc ?_ | (apply s_append_st (ms := xs) hA6; (case hg => rfl); (case hd => rfl); (case hx => rfl); (case ho => exact ho0); (case hL => (exact pmT)); (case hy => rfl); (case hm => first | rfl | simp); (case hzs => rfl); (case h0 => decide); (case hb => first | (simp; omega) | simp); (case h63 => first | (simp; omega) | simp); intro v1' ob1 ho1) | refine Jo ?_ | intro _))
  (repeat (first | refine Jc ?_ | (apply s_append_st (ms := ys) hB6; (case hg => rfl); (case hd => rfl); (case hx => rfl); (case ho => exact ho1); (case hL => (exact pmT)); (case hy => rfl); (case hm => first | rfl | simp); (case hzs => rfl); (case h0 => decide); (case hb => first | (simp; omega) | simp); (case h63 => first | (simp; omega) | simp); intro v2' ob2 ho2; refine W.freezeOws ho2 (by repeat (first | exact pm_nil _ | exact pm_refl _ _ | exact pm_self _ | refine pm_cons ?_ | refine pm_app ?_)) fun S7 hle7 hr7 => ?_; obtain ⟨A7, c7, rfl, hc7, hA7⟩ := hr7) | refine Jo ?_ | intro _))
  have hte : [] ++ xs ++ ys = xs ++ ys := by simp
  rw [hte] at hA7 hc7 ⊢
  clear hte ho1 ho2
  have hz : ∀ x ∈ xs ++ ys, K4ok x := fun x h => (List.mem_append.1 h).elim (hx x) (hy x)
  (repeat (first | refine Jc ?_ | ((apply z_call; rfl; rfl; rfl; exact madeC_con (xs ++ ys) A7 c7 S7 hA7 hz; rintro S8 _ _ hle8 ⟨rfl, l4, hs4, -⟩; obtain ⟨A4, n4, c4, rfl⟩ := hs4.sk.form)) | (apply s_buildSlice; (case hg => rfl); (case hd => rfl); (case hp => rfl); (case hq => rfl); (case hm => rfl); (case hv => rfl); (case hl => rfl); intro bl; refine W.freeze fun S9 hle9 hb9 => ?_) | refine Jo ?_ | intro _))
  obtain ⟨cs1, k1⟩ := hs1.cells
  obtain ⟨cs2, k2⟩ := hs2.cells
  obtain ⟨cs3, k3⟩ := hs3.cells
  obtain ⟨cs4, k4⟩ := hs4.cells
  have hT : At S9 (some ⟨bl, 0, none⟩) [(⟨A1, n1, c1⟩ : Sv), ⟨A2, n2, c2⟩, ⟨A3, n3, c3⟩, ⟨A4, n4, c4⟩] := at_litB hb9 rfl
  have hrows : ∀ j : Nat, j < 4 → ∃ (a : Option Addr) (c : Nat) (l : List Ce), [(⟨A1, n1, c1⟩ : Sv), ⟨A2, n2, c2⟩, ⟨A3, n3, c3⟩, ⟨A4, n4, c4⟩][j]? = some ⟨a, l.length, c⟩ ∧ CellsAt S9 a l.length c l := by
    intro j hj
    match j, hj with
    | 0, _ => obtain rfl := k1.n; exact ⟨A1, c1, cs1, rfl, k1.le' ((((hle5.trans hle6).trans hle7).trans hle8).trans hle9)⟩
    | 1, _ => obtain rfl := k2.n; exact ⟨A2, c2, cs2, rfl, k2.le' (((hle6.trans hle7).trans hle8).trans hle9)⟩
    | 2, _ => obtain rfl := k3.n; exact ⟨A3, c3, cs3, rfl, k3.le' ((hle7.trans hle8).trans hle9)⟩
    | 3, _ => obtain rfl := k4.n; exact ⟨A4, c4, cs4, rfl, k4.le' hle9⟩
  obtain ⟨svs, hsvs⟩ : ∃ svs, svs = [(⟨A1, n1, c1⟩ : Sv), ⟨A2, n2, c2⟩, ⟨A3, n3, c3⟩, ⟨A4, n4, c4⟩] := ⟨_, rfl⟩
  rw [← hsvs] at hT hrows
  have hsl : 4 = svs.length := by rw [hsvs]; rfl
  have hG9 : Gl S9 := hG.le (((hle16.trans hle7).trans hle8).trans hle9)
  clear hsvs k1 k2 k3 k4 hs1 hs2 hs3 hs4 hb9
  (repeat (first | refine Jz ?_ | intro _))
  refine c_loop (fun mm S' L F => Le S9 S' ∧ ∃ i : Nat, mm = 4 - i ∧ i ≤ 4 ∧ L = [] ∧
      F = [(5, .int .i64 num), (6, .int .i64 den), (15, .bool true), (26, .slice (some ⟨bl, 0, none⟩) 4 4), (27, .int .i64 i)])
    (L' := []) ⟨Le.refl _, 0, rfl, by omega, rfl, rfl⟩ sbF (List.nil_sublist _) ?_
  rintro mm Si L F ⟨hlei, i, rfl, hi, rfl, rfl⟩
  by_cases hi4 : i < 4
  rotate_left
  · (repeat (first | refine Jz ?_ | intro _))
    exact o_ret (L' := []) Tryd.results3 rfl (List.nil_sublist _) rfl
  obtain ⟨ai, ci, li, hsi, hci⟩ := hrows i hi4
  (repeat (first | refine Jz ?_ | intro _))
  refine c_meetB (fun S' L F => Le Si S' ∧ L = [] ∧
      F = [(5, .int .i64 num), (6, .int .i64 den), (15, .bool true), (26, .slice (some ⟨bl, 0, none⟩) 4 4), (27, .int .i64 i)]) ?_ ?_
  · refine c_loop (fun mm S' L F => Le Si S' ∧ ∃ k : Nat, mm = 4 - k ∧ k ≤ 4 ∧ L = [] ∧
      F = [(5, .int .i64 num), (6, .int .i64 den), (15, .bool true), (26, .slice (some ⟨bl, 0, none⟩) 4 4), (27, .int .i64 i), (28, .int .i64 k)])
      (L' := []) ⟨Le.refl _, 0, rfl, by omega, rfl, rfl⟩ sbF (List.nil_sublist _) ?_
    rintro mm Sk L F ⟨hlek, k, rfl, hk, rfl, rfl⟩
    by_cases hk4 : k < 4
    rotate_left
    · (repeat (first | refine Jz ?_ | intro _))
      exact q_cut ⟨hlek, rfl, rfl⟩ sbF sbL
    obtain ⟨ak, ck, lk, hsk, hck⟩ := hrows k hk4
    have hGk : Gl Sk := (hG9.le hlei).le hlek
    have hTk := hT.le (hlei.trans hlek)
    have hik : CellsAt Sk ai li.length ci li := hci.le' (hlei.trans hlek)
    have hkk : CellsAt Sk ak lk.length ck lk := hck.le' (hlei.trans hlek)
    obtain ⟨⟨m1, e1⟩, hm1⟩ : ∃ p, p = mergeR 1 (li.map (·.p)) (lk.map (·.p)) := ⟨_, rfl⟩
    obtain ⟨⟨m2, e2⟩, hm2⟩ : ∃ p, p = mergeR (-1) (li.map (·.p)) (lk.map (·.p)) := ⟨_, rfl⟩
    have q1 : ∀ S1, Le Sk S1 → _ := fun S1 h => MergeR_con (va := .agg #[.slice ai li.length ci]) (vb := .agg #[.slice ak lk.length ck]) S1 (hGk.le h) (SkV.of (hik.le' h).pts (hik.le' h).ok hik.len) (SkV.of (hkk.le' h).pts (hkk.le' h).ok hkk.len)
    have q2 : ∀ S1, Le Sk S1 → _ := fun S1 h => rMerge_con (va := .agg #[.slice ai li.length ci]) (vb := .agg #[.slice ak lk.length ck]) S1 (SkC.of hik.le (hik.le' h).pts (hik.le' h).ok hik.len) (SkC.of hkk.le (hkk.le' h).pts (hkk.le' h).ok hkk.len)
    have q3 : ∀ S1, Le Sk S1 → _ := fun S1 h => SubR_con (va := .agg #[.slice ai li.length ci]) (vb := .agg #[.slice ak lk.length ck]) S1 (hGk.le h) (SkV.of (hik.le' h).pts (hik.le' h).ok hik.len) (SkV.of (hkk.le' h).pts (hkk.le' h).ok hkk.len)
    have q4 : ∀ S1, Le Sk S1 → _ := fun S1 h => rSub_con (va := .agg #[.slice ai li.length ci]) (vb := .agg #[.slice ak lk.length ck]) S1 (SkC.of hik.le (hik.le' h).pts (hik.le' h).ok hik.len) (SkC.of hkk.le (hkk.le' h).pts (hkk.le' h).ok hkk.len)
    simp only [← hm1, ← hm2] at q1 q2 q3 q4
    have hsl4 : 4 = svs.length := hsl
    have hm4 : ∀ {m : Nat}, m = 4 → m = svs.length := fun h => h.trans hsl
    (repeat (first | refine Jz ?_ | intro _))
    refine c_meet (fun S' L F => Le Sk S' ∧ ∃ (b : Nat) (a : Option Addr) (n c : Nat), S' b = some (.cells #[.slice a n c] 24 (0, 0)) ∧ SkV S' (.agg #[.slice a n c]) m1 ∧ L = [] ∧
        F = [(5, .int .i64 num), (6, .int .i64 den), (15, .bool true), (26, .slice (some ⟨bl, 0, none⟩) 4 4), (27, .int .i64 i), (28, .int .i64 k), (29, .pointer (some ⟨b, 0, none⟩)), (30, .int .i64 e1)]) ?_ ?_
    · ((apply c_held ([]); (case hL => (exact sbT))); refine Jf 0 ?_; refine Jf 1 ?_; (apply h_idx (hTk.le (by repeat (first | exact Le.refl _ | assumption | refine Le.trans ?_ (by assumption)))) 2; (case hi => rfl); (case hr => kernel_rfl); (case hfr => kernel_rfl); (case hsel => kernel_rfl); (case hg => rfl); (case hd => rfl); (case i1 => infer_instance); (case i2 => infer_instance); (case hx => rfl); (case hy => rfl); (case hm => exact hsl4); (case hu => exact hsi); intro p (hp : Pts _ p [.slice ai li.length ci])); (apply h_first 3; (case hi => rfl); (case hr => kernel_rfl); (case hfr => kernel_rfl); (case hsel => kernel_rfl); (case hg => rfl); (case hd => rfl); (case he => (apply ev_load_ag; (case hx => rfl); (case h => exact hp); (case hl => rfl)))); refine Jf 4 ?_; refine Jf 5 ?_; (apply h_idx (hTk.le (by repeat (first | exact Le.refl _ | assumption | refine Le.trans ?_ (by assumption)))) 6; (case hi => rfl); (case hr => kernel_rfl); (case hfr => kernel_rfl); (case hsel => kernel_rfl); (case hg => rfl); (case hd => rfl); (case i1 => infer_instance); (case i2 => infer_instance); (case hx => rfl); (case hy => rfl); (case hm => exact hsl4); (case hu => exact hsk); intro p2 (hp2 : Pts _ p2 [.slice ak lk.length ck])); (apply h_first 7; (case hi => rfl); (case hr => kernel_rfl); (case hfr => kernel_rfl); (case hsel => kernel_rfl); (case hg => rfl); (case hd => rfl); (case he => (apply ev_load_ag; (case hx => rfl); (case h => exact hp2); (case hl => rfl)))); (apply h_two 8 12; (case hr => kernel_rfl)); (case k1 => ((apply n_call; (case hi => rfl); (case i1 => infer_instance); (case hg => rfl); (case hd => rfl); (case ha => rfl); (case hc => exact q1 _ (by repeat (first | exact Le.refl _ | assumption | refine Le.trans ?_ (by assumption)))); (case hL => (exact pmT)); (case hsub => (intros; (exact sbT))); rintro S3 _ _ hle3 ⟨rfl, v3, rfl, hs3⟩; obtain ⟨B3, n3, c3, rfl⟩ := hs3.form); refine Jf 9 ?_; refine Jf 10 ?_; refine Jf 11 ?_; (apply h_one 12; (case hr => kernel_rfl)); (refine Jn ?_; try intro _); (apply h_one 13; (case hr => kernel_rfl)); (refine Jn ?_; try intro _); refine Jf 14 ?_; (apply h_end; (case hr => kernel_rfl)); (refine W.freeze fun S10 hle10 hb10 => ?_; apply q_then; exact q_cut ⟨(by repeat (first | exact Le.refl _ | assumption | refine Le.trans ?_ (by assumption))), _, _, _, _, hb10, hs3.le (by repeat (first | exact Le.refl _ | assumption | refine Le.trans ?_ (by assumption))), rfl, rfl⟩ sbF sbL))); (case k2 => ((refine Jn ?_; try intro _); (apply h_one 8; (case hr => kernel_rfl)); (apply n_call; (case hi => rfl); (case i1 => infer_instance); (case hg => rfl); (case hd => rfl); (case ha => rfl); (case hc => exact q1 _ (by repeat (first | exact Le.refl _ | assumption | refine Le.trans ?_ (by assumption)))); (case hL => (exact pmT)); (case hsub => (intros; (exact sbT))); rintro S3 _ _ hle3 ⟨rfl, v3, rfl, hs3⟩; obtain ⟨B3, n3, c3, rfl⟩ := hs3.form); refine Jf 9 ?_; refine Jf 10 ?_; refine Jf 11 ?_; (apply h_one 13; (case hr => kernel_rfl)); (refine Jn ?_; try intro _); refine Jf 14 ?_; (apply h_end; (case hr => kernel_rfl)); (refine W.freeze fun S10 hle10 hb10 => ?_; apply q_then; exact q_cut ⟨(by repeat (first | exact Le.refl _ | assumption | refine Le.trans ?_ (by assumption))), _, _, _, _, hb10, hs3.le (by repeat (first | exact Le.refl _ | assumption | refine Le.trans ?_ (by assumption))), rfl, rfl⟩ sbF sbL))))
    rintro T1 L F ⟨hlt1, b1, a1, n1, c1, hb1, hv1, rfl, rfl⟩
    apply c_seq
    refine c_meet (fun S' L F => Le T1 S' ∧ ∃ (b : Nat) (a : Option Addr) (n c : Nat), S' b = some (.cells #[.slice a n c] 24 (0, 0)) ∧ SkV S' (.agg #[.slice a n c]) m1 ∧ L = [] ∧
        F = [(5, .int .i64 num), (6, .int .i64 den), (15, .bool true), (26, .slice (some ⟨bl, 0, none⟩) 4 4), (27, .int .i64 i), (28, .int .i64 k), (29, .pointer (some ⟨b1, 0, none⟩)), (30, .int .i64 e1), (31, .pointer (some ⟨b, 0, none⟩)), (32, .int .i64 e1)]) ?_ ?_
    · ((apply c_held ([]); (case hL => (exact sbT))); refine Jf 0 ?_; refine Jf 1 ?_; (apply h_idx (hTk.le (by repeat (first | exact Le.refl _ | assumption | refine Le.trans ?_ (by assumption)))) 2; (case hi => rfl); (case hr => kernel_rfl); (case hfr => kernel_rfl); (case hsel => kernel_rfl); (case hg => rfl); (case hd => rfl); (case i1 => infer_instance); (case i2 => infer_instance); (case hx => rfl); (case hy => rfl); (case hm => exact hsl4); (case hu => exact hsi); intro p (hp : Pts _ p [.slice ai li.length ci])); (apply h_first 3; (case hi => rfl); (case hr => kernel_rfl); (case hfr => kernel_rfl); (case hsel => kernel_rfl); (case hg => rfl); (case hd => rfl); (case he => (apply ev_load_ag; (case hx => rfl); (case h => exact hp); (case hl => rfl)))); refine Jf 4 ?_; refine Jf 5 ?_; (apply h_idx (hTk.le (by repeat (first | exact Le.refl _ | assumption | refine Le.trans ?_ (by assumption)))) 6; (case hi => rfl); (case hr => kernel_rfl); (case hfr => kernel_rfl); (case hsel => kernel_rfl); (case hg => rfl); (case hd => rfl); (case i1 => infer_instance); (case i2 => infer_instance); (case hx => rfl); (case hy => rfl); (case hm => exact hsl4); (case hu => exact hsk); intro p2 (hp2 : Pts _ p2 [.slice ak lk.length ck])); (apply h_first 7; (case hi => rfl); (case hr => kernel_rfl); (case hfr => kernel_rfl); (case hsel => kernel_rfl); (case hg => rfl); (case hd => rfl); (case he => (apply ev_load_ag; (case hx => rfl); (case h => exact hp2); (case hl => rfl)))); (apply h_two 8 12; (case hr => kernel_rfl)); (case k1 => ((apply n_call; (case hi => rfl); (case i1 => infer_instance); (case hg => rfl); (case hd => rfl); (case ha => rfl); (case hc => exact q2 _ (by repeat (first | exact Le.refl _ | assumption | refine Le.trans ?_ (by assumption)))); (case hL => (exact pmT)); (case hsub => (intros; (exact sbT))); rintro S3 _ _ hle3 ⟨rfl, v3, rfl, hs3⟩; obtain ⟨B3, n3, c3, rfl⟩ := hs3.form); refine Jf 9 ?_; refine Jf 10 ?_; refine Jf 11 ?_; (apply h_one 12; (case hr => kernel_rfl)); (refine Jn ?_; try intro _); (apply h_one 13; (case hr => kernel_rfl)); (refine Jn ?_; try intro _); refine Jf 14 ?_; (apply h_end; (case hr => kernel_rfl)); (refine W.freeze fun S10 hle10 hb10 => ?_; apply q_then; exact q_cut ⟨(by repeat (first | exact Le.refl _ | assumption | refine Le.trans ?_ (by assumption))), _, _, _, _, hb10, hs3.le (by repeat (first | exact Le.refl _ | assumption | refine Le.trans ?_ (by assumption))), rfl, rfl⟩ sbF sbL))); (case k2 => ((refine Jn ?_; try intro _); (apply h_one 8; (case hr => kernel_rfl)); (apply n_call; (case hi => rfl); (case i1 => infer_instance); (case hg => rfl); (case hd => rfl); (case ha => rfl); (case hc => exact q2 _ (by repeat (first | exact Le.refl _ | assumption | refine Le.trans ?_ (by assumption)))); (case hL => (exact pmT)); (case hsub => (intros; (exact sbT))); rintro S3 _ _ hle3 ⟨rfl, v3, rfl, hs3⟩; obtain ⟨B3, n3, c3, rfl⟩ := hs3.form); refine Jf 9 ?_; refine Jf 10 ?_; refine Jf 11 ?_; (apply h_one 13; (case hr => kernel_rfl)); (refine Jn ?_; try intro _); refine Jf 14 ?_; (apply h_end; (case hr => kernel_rfl)); (refine W.freeze fun S10 hle10 hb10 => ?_; apply q_then; exact q_cut ⟨(by repeat (first | exact Le.refl _ | assumption | refine Le.trans ?_ (by assumption))), _, _, _, _, hb10, hs3.le (by repeat (first | exact Le.refl _ | assumption | refine Le.trans ?_ (by assumption))), rfl, rfl⟩ sbF sbL))))
    rintro T2 L F ⟨hlt2, b2, a2, n2, c2, hb2, hv2, rfl, rfl⟩
    apply c_seq
    refine c_meet (fun S' L F => Le T2 S' ∧ ∃ (b : Nat) (a : Option Addr) (n c : Nat), S' b = some (.cells #[.slice a n c] 24 (0, 0)) ∧ SkV S' (.agg #[.slice a n c]) m2 ∧ L = [] ∧
        F = [(5, .int .i64 num), (6, .int .i64 den), (15, .bool true), (26, .slice (some ⟨bl, 0, none⟩) 4 4), (27, .int .i64 i), (28, .int .i64 k), (29, .pointer (some ⟨b1, 0, none⟩)), (30, .int .i64 e1), (31, .pointer (some ⟨b2, 0, none⟩)), (32, .int .i64 e1), (33, .pointer (some ⟨b, 0, none⟩)), (34, .int .i64 e2)]) ?_ ?_
    · ((apply c_held ([]); (case hL => (exact sbT))); refine Jf 0 ?_; refine Jf 1 ?_; (apply h_idx (hTk.le (by repeat (first | exact Le.refl _ | assumption | refine Le.trans ?_ (by assumption)))) 2; (case hi => rfl); (case hr => kernel_rfl); (case hfr => kernel_rfl); (case hsel => kernel_rfl); (case hg => rfl); (case hd => rfl); (case i1 => infer_instance); (case i2 => infer_instance); (case hx => rfl); (case hy => rfl); (case hm => exact hsl4); (case hu => exact hsi); intro p (hp : Pts _ p [.slice ai li.length ci])); (apply h_first 3; (case hi => rfl); (case hr => kernel_rfl); (case hfr => kernel_rfl); (case hsel => kernel_rfl); (case hg => rfl); (case hd => rfl); (case he => (apply ev_load_ag; (case hx => rfl); (case h => exact hp); (case hl => rfl)))); refine Jf 4 ?_; refine Jf 5 ?_; (apply h_idx (hTk.le (by repeat (first | exact Le.refl _ | assumption | refine Le.trans ?_ (by assumption)))) 6; (case hi => rfl); (case hr => kernel_rfl); (case hfr => kernel_rfl); (case hsel => kernel_rfl); (case hg => rfl); (case hd => rfl); (case i1 => infer_instance); (case i2 => infer_instance); (case hx => rfl); (case hy => rfl); (case hm => exact hsl4); (case hu => exact hsk); intro p2 (hp2 : Pts _ p2 [.slice ak lk.length ck])); (apply h_first 7; (case hi => rfl); (case hr => kernel_rfl); (case hfr => kernel_rfl); (case hsel => kernel_rfl); (case hg => rfl); (case hd => rfl); (case he => (apply ev_load_ag; (case hx => rfl); (case h => exact hp2); (case hl => rfl)))); (apply h_two 8 12; (case hr => kernel_rfl)); (case k1 => ((apply n_call; (case hi => rfl); (case i1 => infer_instance); (case hg => rfl); (case hd => rfl); (case ha => rfl); (case hc => exact q3 _ (by repeat (first | exact Le.refl _ | assumption | refine Le.trans ?_ (by assumption)))); (case hL => (exact pmT)); (case hsub => (intros; (exact sbT))); rintro S3 _ _ hle3 ⟨rfl, v3, rfl, hs3⟩; obtain ⟨B3, n3, c3, rfl⟩ := hs3.form); refine Jf 9 ?_; refine Jf 10 ?_; refine Jf 11 ?_; (apply h_one 12; (case hr => kernel_rfl)); (refine Jn ?_; try intro _); (apply h_one 13; (case hr => kernel_rfl)); (refine Jn ?_; try intro _); refine Jf 14 ?_; (apply h_end; (case hr => kernel_rfl)); (refine W.freeze fun S10 hle10 hb10 => ?_; apply q_then; exact q_cut ⟨(by repeat (first | exact Le.refl _ | assumption | refine Le.trans ?_ (by assumption))), _, _, _, _, hb10, hs3.le (by repeat (first | exact Le.refl _ | assumption | refine Le.trans ?_ (by assumption))), rfl, rfl⟩ sbF sbL))); (case k2 => ((refine Jn ?_; try intro _); (apply h_one 8; (case hr => kernel_rfl)); (apply n_call; (case hi => rfl); (case i1 => infer_instance); (case hg => rfl); (case hd => rfl); (case ha => rfl); (case hc => exact q3 _ (by repeat (first | exact Le.refl _ | assumption | refine Le.trans ?_ (by assumption)))); (case hL => (exact pmT)); (case hsub => (intros; (exact sbT))); rintro S3 _ _ hle3 ⟨rfl, v3, rfl, hs3⟩; obtain ⟨B3, n3, c3, rfl⟩ := hs3.form); refine Jf 9 ?_; refine Jf 10 ?_; refine Jf 11 ?_; (apply h_one 13; (case hr => kernel_rfl)); (refine Jn ?_; try intro _); refine Jf 14 ?_; (apply h_end; (case hr => kernel_rfl)); (refine W.freeze fun S10 hle10 hb10 => ?_; apply q_then; exact q_cut ⟨(by repeat (first | exact Le.refl _ | assumption | refine Le.trans ?_ (by assumption))), _, _, _, _, hb10, hs3.le (by repeat (first | exact Le.refl _ | assumption | refine Le.trans ?_ (by assumption))), rfl, rfl⟩ sbF sbL))))
    rintro T3 L F ⟨hlt3, b3, a3, n3, c3, hb3, hv3, rfl, rfl⟩
    apply c_seq
    refine c_meet (fun S' L F => Le T3 S' ∧ ∃ (b : Nat) (a : Option Addr) (n c : Nat), S' b = some (.cells #[.slice a n c] 24 (0, 0)) ∧ SkV S' (.agg #[.slice a n c]) m2 ∧ L = [] ∧
        F = [(5, .int .i64 num), (6, .int .i64 den), (15, .bool true), (26, .slice (some ⟨bl, 0, none⟩) 4 4), (27, .int .i64 i), (28, .int .i64 k), (29, .pointer (some ⟨b1, 0, none⟩)), (30, .int .i64 e1), (31, .pointer (some ⟨b2, 0, none⟩)), (32, .int .i64 e1), (33, .pointer (some ⟨b3, 0, none⟩)), (34, .int .i64 e2), (35, .pointer (some ⟨b, 0, none⟩)), (36, .int .i64 e2)]) ?_ ?_
    · ((apply c_held ([]); (case hL => (exact sbT))); refine Jf 0 ?_; refine Jf 1 ?_; (apply h_idx (hTk.le (by repeat (first | exact Le.refl _ | assumption | refine Le.trans ?_ (by assumption)))) 2; (case hi => rfl); (case hr => kernel_rfl); (case hfr => kernel_rfl); (case hsel => kernel_rfl); (case hg => rfl); (case hd => rfl); (case i1 => infer_instance); (case i2 => infer_instance); (case hx => rfl); (case hy => rfl); (case hm => exact hsl4); (case hu => exact hsi); intro p (hp : Pts _ p [.slice ai li.length ci])); (apply h_first 3; (case hi => rfl); (case hr => kernel_rfl); (case hfr => kernel_rfl); (case hsel => kernel_rfl); (case hg => rfl); (case hd => rfl); (case he => (apply ev_load_ag; (case hx => rfl); (case h => exact hp); (case hl => rfl)))); refine Jf 4 ?_; refine Jf 5 ?_; (apply h_idx (hTk.le (by repeat (first | exact Le.refl _ | assumption | refine Le.trans ?_ (by assumption)))) 6; (case hi => rfl); (case hr => kernel_rfl); (case hfr => kernel_rfl); (case hsel => kernel_rfl); (case hg => rfl); (case hd => rfl); (case i1 => infer_instance); (case i2 => infer_instance); (case hx => rfl); (case hy => rfl); (case hm => exact hsl4); (case hu => exact hsk); intro p2 (hp2 : Pts _ p2 [.slice ak lk.length ck])); (apply h_first 7; (case hi => rfl); (case hr => kernel_rfl); (case hfr => kernel_rfl); (case hsel => kernel_rfl); (case hg => rfl); (case hd => rfl); (case he => (apply ev_load_ag; (case hx => rfl); (case h => exact hp2); (case hl => rfl)))); (apply h_two 8 12; (case hr => kernel_rfl)); (case k1 => ((apply n_call; (case hi => rfl); (case i1 => infer_instance); (case hg => rfl); (case hd => rfl); (case ha => rfl); (case hc => exact q4 _ (by repeat (first | exact Le.refl _ | assumption | refine Le.trans ?_ (by assumption)))); (case hL => (exact pmT)); (case hsub => (intros; (exact sbT))); rintro S3 _ _ hle3 ⟨rfl, v3, rfl, hs3⟩; obtain ⟨B3, n3, c3, rfl⟩ := hs3.form); refine Jf 9 ?_; refine Jf 10 ?_; refine Jf 11 ?_; (apply h_one 12; (case hr => kernel_rfl)); (refine Jn ?_; try intro _); (apply h_one 13; (case hr => kernel_rfl)); (refine Jn ?_; try intro _); refine Jf 14 ?_; (apply h_end; (case hr => kernel_rfl)); (refine W.freeze fun S10 hle10 hb10 => ?_; apply q_then; exact q_cut ⟨(by repeat (first | exact Le.refl _ | assumption | refine Le.trans ?_ (by assumption))), _, _, _, _, hb10, hs3.le (by repeat (first | exact Le.refl _ | assumption | refine Le.trans ?_ (by assumption))), rfl, rfl⟩ sbF sbL))); (case k2 => ((refine Jn ?_; try intro _); (apply h_one 8; (case hr => kernel_rfl)); (apply n_call; (case hi => rfl); (case i1 => infer_instance); (case hg => rfl); (case hd => rfl); (case ha => rfl); (case hc => exact q4 _ (by repeat (first | exact Le.refl _ | assumption | refine Le.trans ?_ (by assumption)))); (case hL => (exact pmT)); (case hsub => (intros; (exact sbT))); rintro S3 _ _ hle3 ⟨rfl, v3, rfl, hs3⟩; obtain ⟨B3, n3, c3, rfl⟩ := hs3.form); refine Jf 9 ?_; refine Jf 10 ?_; refine Jf 11 ?_; (apply h_one 13; (case hr => kernel_rfl)); (refine Jn ?_; try intro _); refine Jf 14 ?_; (apply h_end; (case hr => kernel_rfl)); (refine W.freeze fun S10 hle10 hb10 => ?_; apply q_then; exact q_cut ⟨(by repeat (first | exact Le.refl _ | assumption | refine Le.trans ?_ (by assumption))), _, _, _, _, hb10, hs3.le (by repeat (first | exact Le.refl _ | assumption | refine Le.trans ?_ (by assumption))), rfl, rfl⟩ sbF sbL))))
    rintro T4 L F ⟨hlt4, b4, a4, n4, c4, hb4, hv4, rfl, rfl⟩
    have hT4 := hTk.le (((hlt1.trans hlt2).trans hlt3).trans hlt4)
    have P1 : Pts T4 ⟨b1, 0, none⟩ [.slice a1 n1 c1] := pts_block (((hlt2.trans hlt3).trans hlt4) _ _ hb1) rfl
    have P2 : Pts T4 ⟨b2, 0, none⟩ [.slice a2 n2 c2] := pts_block ((hlt3.trans hlt4) _ _ hb2) rfl
    have P3 : Pts T4 ⟨b3, 0, none⟩ [.slice a3 n3 c3] := pts_block (hlt4 _ _ hb3) rfl
    have P4 : Pts T4 ⟨b4, 0, none⟩ [.slice a4 n4 c4] := pts_block hb4 rfl
    have s1 : ∀ S1, Le T4 S1 → Con Tryd.prog 18 #[.agg #[.slice a1 n1 c1], .agg #[.slice a2 n2 c2]] S1 [] (Pure S1 (.bool true)) := fun S1 h => (rSame_con S1 (hv1.le (((hlt2.trans hlt3).trans hlt4).trans h)) (hv2.le ((hlt3.trans hlt4).trans h))).eq (by rw [bP_t rfl])
    have s2 : ∀ S1, Le T4 S1 → Con Tryd.prog 18 #[.agg #[.slice a3 n3 c3], .agg #[.slice a4 n4 c4]] S1 [] (Pure S1 (.bool true)) := fun S1 h => (rSame_con S1 (hv3.le (hlt4.trans h)) (hv4.le h)).eq (by rw [bP_t rfl])
    obtain ⟨bb, hbb⟩ : ∃ bb, bb = bP (li.map (·.p) = lk.map (·.p)) := ⟨_, rfl⟩
    have hi4' : CellsAt T4 ai li.length ci li := hik.le' (((hlt1.trans hlt2).trans hlt3).trans hlt4)
    have hk4' : CellsAt T4 ak lk.length ck lk := hkk.le' (((hlt1.trans hlt2).trans hlt3).trans hlt4)
    have s3 : ∀ S1, Le T4 S1 → Con Tryd.prog 25 #[.agg #[.slice ai li.length ci], .agg #[.slice ak lk.length ck]] S1 [] (Pure S1 (.bool bb)) := fun S1 h => (Same_con S1 (SkV.of (hi4'.le' h).pts (hi4'.le' h).ok hik.len) (SkV.of (hk4'.le' h).pts (hk4'.le' h).ok hkk.len)).eq (by rw [hbb])
    have s4 : ∀ S1, Le T4 S1 → Con Tryd.prog 18 #[.agg #[.slice ai li.length ci], .agg #[.slice ak lk.length ck]] S1 [] (Pure S1 (.bool bb)) := fun S1 h => (rSame_con S1 (SkV.of (hi4'.le' h).pts (hi4'.le' h).ok hik.len) (SkV.of (hk4'.le' h).pts (hk4'.le' h).ok hkk.len)).eq (by rw [hbb])
    clear hbb
    cases bb
    · (repeat (first | refine Jc ?_ | (apply c_draw; (case hB => kernel_rfl); (repeat (first | (apply q_idx hT4; (case hg => rfl); (case hd => rfl); (case hx => rfl); (case hi => rfl); (case hm => exact hsl4); (case hu => exact hsi); intro p (hp : Pts _ p [.slice ai li.length ci])) | (apply q_idx hT4; (case hg => rfl); (case hd => rfl); (case hx => rfl); (case hi => rfl); (case hm => exact hsl4); (case hu => exact hsk); intro p2 (hp2 : Pts _ p2 [.slice ak lk.length ck])) | (apply q_ev; (case hg => rfl); (case hd => rfl); (case he => (apply ev_load_ag; (case hx => rfl); (case h => exact hp); (case hl => rfl)))) | (apply q_ev; (case hg => rfl); (case hd => rfl); (case he => (apply ev_load_ag; (case hx => rfl); (case h => exact hp2); (case hl => rfl)))) | (apply q_ev; (case hg => rfl); (case hd => rfl); (case he => (apply ev_load_ag; (case hx => rfl); (case h => exact P1); (case hl => rfl)))) | (apply q_ev; (case hg => rfl); (case hd => rfl); (case he => (apply ev_load_ag; (case hx => rfl); (case h => exact P2); (case hl => rfl)))) | (apply q_ev; (case hg => rfl); (case hd => rfl); (case he => (apply ev_load_ag; (case hx => rfl); (case h => exact P3); (case hl => rfl)))) | (apply q_ev; (case hg => rfl); (case hd => rfl); (case he => (apply ev_load_ag; (case hx => rfl); (case h => exact P4); (case hl => rfl)))) | (apply q_call; (case hg => rfl); (case hd => rfl); (case ha => rfl); (case hc => (intro S1 hle1 hm1; exact s1 S1 hle1)); (case hq => (rintro _ _ _ _ ⟨-, -, rfl⟩; rfl))) | (apply q_call; (case hg => rfl); (case hd => rfl); (case ha => rfl); (case hc => (intro S1 hle1 hm1; exact s2 S1 hle1)); (case hq => (rintro _ _ _ _ ⟨-, -, rfl⟩; rfl))) | (apply q_call; (case hg => rfl); (case hd => rfl); (case ha => rfl); (case hc => (intro S1 hle1 hm1; exact s3 S1 hle1)); (case hq => (rintro _ _ _ _ ⟨-, -, rfl⟩; rfl))) | (apply q_call; (case hg => rfl); (case hd => rfl); (case ha => rfl); (case hc => (intro S1 hle1 hm1; exact s4 S1 hle1)); (case hq => (rintro _ _ _ _ ⟨-, -, rfl⟩; rfl))) | refine Jd ?_))) | refine Jo ?_ | intro _))
      exact q_back (m' := 4 - (k + 1)) ⟨(((hlek.trans hlt1).trans hlt2).trans hlt3).trans hlt4, k + 1, rfl, by omega, rfl, rfl⟩ (by omega) sbF (List.nil_sublist _)
    · (repeat (first | refine Jc ?_ | (apply c_draw; (case hB => kernel_rfl); (repeat (first | (apply q_idx hT4; (case hg => rfl); (case hd => rfl); (case hx => rfl); (case hi => rfl); (case hm => exact hsl4); (case hu => exact hsi); intro p (hp : Pts _ p [.slice ai li.length ci])) | (apply q_idx hT4; (case hg => rfl); (case hd => rfl); (case hx => rfl); (case hi => rfl); (case hm => exact hsl4); (case hu => exact hsk); intro p2 (hp2 : Pts _ p2 [.slice ak lk.length ck])) | (apply q_ev; (case hg => rfl); (case hd => rfl); (case he => (apply ev_load_ag; (case hx => rfl); (case h => exact hp); (case hl => rfl)))) | (apply q_ev; (case hg => rfl); (case hd => rfl); (case he => (apply ev_load_ag; (case hx => rfl); (case h => exact hp2); (case hl => rfl)))) | (apply q_ev; (case hg => rfl); (case hd => rfl); (case he => (apply ev_load_ag; (case hx => rfl); (case h => exact P1); (case hl => rfl)))) | (apply q_ev; (case hg => rfl); (case hd => rfl); (case he => (apply ev_load_ag; (case hx => rfl); (case h => exact P2); (case hl => rfl)))) | (apply q_ev; (case hg => rfl); (case hd => rfl); (case he => (apply ev_load_ag; (case hx => rfl); (case h => exact P3); (case hl => rfl)))) | (apply q_ev; (case hg => rfl); (case hd => rfl); (case he => (apply ev_load_ag; (case hx => rfl); (case h => exact P4); (case hl => rfl)))) | (apply q_call; (case hg => rfl); (case hd => rfl); (case ha => rfl); (case hc => (intro S1 hle1 hm1; exact s1 S1 hle1)); (case hq => (rintro _ _ _ _ ⟨-, -, rfl⟩; rfl))) | (apply q_call; (case hg => rfl); (case hd => rfl); (case ha => rfl); (case hc => (intro S1 hle1 hm1; exact s2 S1 hle1)); (case hq => (rintro _ _ _ _ ⟨-, -, rfl⟩; rfl))) | (apply q_call; (case hg => rfl); (case hd => rfl); (case ha => rfl); (case hc => (intro S1 hle1 hm1; exact s3 S1 hle1)); (case hq => (rintro _ _ _ _ ⟨-, -, rfl⟩; rfl))) | (apply q_call; (case hg => rfl); (case hd => rfl); (case ha => rfl); (case hc => (intro S1 hle1 hm1; exact s4 S1 hle1)); (case hq => (rintro _ _ _ _ ⟨-, -, rfl⟩; rfl))) | refine Jd ?_))) | refine Jo ?_ | intro _))
      exact q_back (m' := 4 - (k + 1)) ⟨(((hlek.trans hlt1).trans hlt2).trans hlt3).trans hlt4, k + 1, rfl, by omega, rfl, rfl⟩ (by omega) sbF (List.nil_sublist _)
  rintro So L F ⟨hleo, rfl, rfl⟩
  have hio : CellsAt So ai li.length ci li := hci.le' (hlei.trans hleo)
  have hTo := hT.le (hlei.trans hleo)
  have hGo : Gl So := (hG9.le hlei).le hleo
  have hsl4 : 4 = svs.length := hsl
  (repeat (first | refine Jc ?_ | (apply s_idx (hTo.le (by repeat (first | exact Le.refl _ | assumption | refine Le.trans ?_ (by assumption)))); (case hg => rfl); (case hd => rfl); (case hx => rfl); (case hi => rfl); (case hm => exact hsl4); (case hu => exact hsi); intro p2 (hp2 : Pts _ p2 [.slice ai li.length ci])) | (apply s_load_f; (case hg => rfl); (case hd => rfl); (case hx => rfl); (case h => exact hp2); (case hv => rfl)) | ((apply z_call; rfl; rfl; rfl; exact Total_con li ai ci So hGo hio.pts hio.ok hio.len; rintro U1 _ _ hleU1 ⟨rfl, qa, ea, rfl, hqa, hta⟩; obtain ⟨⟨qs1, qv1, qo1, qd1, ⟨qn1, ql1, qh1, qb1, qls1, qhs1⟩⟩, qla1, qlc1, qha1, qhc1⟩ := qa)) | ((apply z_call; rfl; rfl; rfl; exact rTotal_con li ai ci U1 (hio.le' hleU1).pts (hio.le' hleU1).ok hio.len; rintro U2 _ _ hleU2 ⟨rfl, qb, eb, rfl, hqb, htb⟩; obtain ⟨⟨qs2, qv2, qo2, qd2, ⟨qn2, ql2, qh2, qb2, qls2, qhs2⟩⟩, qla2, qlc2, qha2, qhc2⟩ := qb)) | refine Jo ?_ | intro _))
  have hT1 := hTo.le hleU1
  have hi1 : CellsAt U1 ai li.length ci li := hio.le' hleU1
  obtain ⟨hpp, rfl⟩ := total_det hta htb
  have hi2 : CellsAt U2 ai li.length ci li := hi1.le' hleU2
  have hT2 := hT1.le hleU2
  have hG2 : Gl U2 := (hGo.le hleU1).le hleU2
  have v3 : ∀ S1, Le U2 S1 → Con Tryd.prog 30 #[.agg (Ce.vals ⟨⟨qs1, qv1, qo1, qd1, ⟨qn1, ql1, qh1, qb1, qls1, qhs1⟩⟩, qla1, qlc1, qha1, qhc1⟩).toArray, .agg (Ce.vals ⟨⟨qs2, qv2, qo2, qd2, ⟨qn2, ql2, qh2, qb2, qls2, qhs2⟩⟩, qla2, qlc2, qha2, qhc2⟩).toArray] S1 [] (Pure S1 (.bool true)) := fun S1 h => (rSameCell_con _ _ S1 (hqa.le (hleU2.trans h)) (hqb.le h)).eq (by rw [bP_t hpp])
  obtain ⟨bb, hbb⟩ : ∃ bb, bb = bP (ValidP (li.map (·.p))) := ⟨_, rfl⟩
  have v1 : ∀ S1, Le U2 S1 → Con Tryd.prog 28 #[.agg #[.slice ai li.length ci]] S1 [] (Pure S1 (.bool bb)) := fun S1 h => (Valid_con li ai ci S1 (hG2.le h) (hi2.le' h).pts (hi2.le' h).ok (by have := hio.len; omega)).eq (by rw [hbb])
  have v2 : ∀ S1, Le U2 S1 → Con Tryd.prog 29 #[.agg #[.slice ai li.length ci]] S1 [] (Pure S1 (.bool bb)) := fun S1 h => (rValid_con li ai ci S1 (hi2.le' h).pts (hi2.le' h).ok (by have := hio.len; omega)).eq (by rw [hbb])
  clear hbb hpp hta htb
  refine c_meet (fun S' L F => Le U2 S' ∧ L = [] ∧
      F = [(5, .int .i64 num), (6, .int .i64 den), (15, .bool true), (26, .slice (some ⟨bl, 0, none⟩) 4 4), (27, .int .i64 i), (260, .bool false)]) ?_ ?_
  · cases bb
    · (repeat (first | refine Jc ?_ | (apply c_draw; (case hB => kernel_rfl); (repeat (first | (apply q_idx hT2; (case hg => rfl); (case hd => rfl); (case hx => rfl); (case hi => rfl); (case hm => exact hsl4); (case hu => exact hsi); intro p (hp : Pts _ p [.slice ai li.length ci])) | (apply q_ev; (case hg => rfl); (case hd => rfl); (case he => (apply ev_load_ag; (case hx => rfl); (case h => exact hp); (case hl => rfl)))) | (apply q_call; (case hg => rfl); (case hd => rfl); (case ha => rfl); (case hc => (intro S1 hle1 hm1; exact v1 S1 hle1)); (case hq => (rintro _ _ _ _ ⟨-, -, rfl⟩; rfl))) | (apply q_call; (case hg => rfl); (case hd => rfl); (case ha => rfl); (case hc => (intro S1 hle1 hm1; exact v2 S1 hle1)); (case hq => (rintro _ _ _ _ ⟨-, -, rfl⟩; rfl))) | (apply q_call; (case hg => rfl); (case hd => rfl); (case ha => rfl); (case hc => (intro S1 hle1 hm1; exact v3 S1 hle1)); (case hq => (rintro _ _ _ _ ⟨-, -, rfl⟩; rfl))) | refine Jd ?_))) | refine Jo ?_ | intro _))
      exact q_cut ⟨Le.refl _, rfl, rfl⟩ sbF (List.nil_sublist _)
    · (repeat (first | refine Jc ?_ | (apply c_draw; (case hB => kernel_rfl); (repeat (first | (apply q_idx hT2; (case hg => rfl); (case hd => rfl); (case hx => rfl); (case hi => rfl); (case hm => exact hsl4); (case hu => exact hsi); intro p (hp : Pts _ p [.slice ai li.length ci])) | (apply q_ev; (case hg => rfl); (case hd => rfl); (case he => (apply ev_load_ag; (case hx => rfl); (case h => exact hp); (case hl => rfl)))) | (apply q_call; (case hg => rfl); (case hd => rfl); (case ha => rfl); (case hc => (intro S1 hle1 hm1; exact v1 S1 hle1)); (case hq => (rintro _ _ _ _ ⟨-, -, rfl⟩; rfl))) | (apply q_call; (case hg => rfl); (case hd => rfl); (case ha => rfl); (case hc => (intro S1 hle1 hm1; exact v2 S1 hle1)); (case hq => (rintro _ _ _ _ ⟨-, -, rfl⟩; rfl))) | (apply q_call; (case hg => rfl); (case hd => rfl); (case ha => rfl); (case hc => (intro S1 hle1 hm1; exact v3 S1 hle1)); (case hq => (rintro _ _ _ _ ⟨-, -, rfl⟩; rfl))) | refine Jd ?_))) | refine Jo ?_ | intro _))
      exact q_cut ⟨Le.refl _, rfl, rfl⟩ sbF (List.nil_sublist _)
  rintro U3 L F ⟨hleU3, rfl, rfl⟩
  have hi3 : CellsAt U3 ai li.length ci li := hi2.le' hleU3
  have hT3 := hT2.le hleU3
  have hG3 : Gl U3 := hG2.le hleU3
  (repeat (first | refine Jz ?_ | intro _))
  refine c_loop (fun mm S' L F => Le U3 S' ∧ ∃ m : Nat, mm = li.length - m ∧ m ≤ li.length ∧ L = [] ∧
      F = [(5, .int .i64 num), (6, .int .i64 den), (15, .bool true), (26, .slice (some ⟨bl, 0, none⟩) 4 4), (27, .int .i64 i), (41, .int .i64 m)])
    (L' := []) ⟨Le.refl _, 0, rfl, by omega, rfl, rfl⟩ sbF (List.nil_sublist _) ?_
  rintro mm V L F ⟨hleV, m, rfl, hm, rfl, rfl⟩
  have hiV : CellsAt V ai li.length ci li := hi3.le' hleV
  have hTV := hT3.le hleV
  by_cases hml : m < li.length
  rotate_left
  · (repeat (first | refine Jc ?_ | (apply s_idx hTV; (case hg => rfl); (case hd => rfl); (case hx => rfl); (case hi => rfl); (case hm => exact hsl4); (case hu => exact hsi); intro p2 (hp2 : Pts _ p2 [.slice ai li.length ci])) | (apply s_load_f; (case hg => rfl); (case hd => rfl); (case hx => rfl); (case h => exact hp2); (case hv => rfl)) | refine Jo ?_ | intro _))
    exact q_back (m' := 4 - (i + 1)) ⟨(((((hlei.trans hleo).trans hleU1).trans hleU2).trans hleU3).trans hleV), i + 1, rfl, by omega, rfl, rfl⟩ (by omega) sbF (List.nil_sublist _)
  obtain ⟨q, hq⟩ := at_lt' hml
  have hqok := hiV.ok q (List.mem_of_getElem? hq)
  have hpt := hiV.pts
  have hll9 := hiV.len
  have hGV : Gl V := hG3.le hleV
  obtain ⟨⟨qs3, qv3, qo3, qd3, ⟨qn3, ql3, qh3, qb3, qls3, qhs3⟩⟩, qla3, qlc3, qha3, qhc3⟩ := q
  (repeat (first | refine Jc ?_ | (apply s_idx hTV; (case hg => rfl); (case hd => rfl); (case hx => rfl); (case hi => rfl); (case hm => exact hsl4); (case hu => exact hsi); intro p2 (hp2 : Pts _ p2 [.slice ai li.length ci])) | (apply s_load_f; (case hg => rfl); (case hd => rfl); (case hx => rfl); (case h => exact hp2); (case hv => rfl)) | (apply s_idx hpt; (case hg => rfl); (case hd => rfl); (case hx => rfl); (case hi => rfl); (case hm => rfl); (case hu => exact hq); intro p3 (hp3 : Pts _ p3 (Ce.vals ⟨⟨qs3, qv3, qo3, qd3, ⟨qn3, ql3, qh3, qb3, qls3, qhs3⟩⟩, qla3, qlc3, qha3, qhc3⟩))) | (apply s_load_ag; (case hg => rfl); (case hd => rfl); (case hx => rfl); (case hv => exact hp3); (case hl => rfl)) | ((apply z_call; rfl; rfl; rfl; exact Quantile_con ⟨⟨qs3, qv3, qo3, qd3, ⟨qn3, ql3, qh3, qb3, qls3, qhs3⟩⟩, qla3, qlc3, qha3, qhc3⟩ num den V hGV hqok; rintro V1 _ _ - ⟨hV1, rfl, lo1, hi1, er1, rfl, hq1⟩; obtain rfl := hV1.symm)) | ((apply z_call; rfl; rfl; rfl; exact rQuantile_con ⟨⟨qs3, qv3, qo3, qd3, ⟨qn3, ql3, qh3, qb3, qls3, qhs3⟩⟩, qla3, qlc3, qha3, qhc3⟩ num den V hqok; rintro V2 _ _ - ⟨hV2, rfl, lo2, hi2, er2, rfl, hq2⟩; obtain rfl := hV2.symm; obtain ⟨rfl, rfl, rfl⟩ := quant_det hq1 hq2)) | refine Jo ?_ | intro _))
  exact q_back (m' := li.length - (m + 1)) ⟨hleV, m + 1, rfl, by omega, rfl, rfl⟩ (by omega) sbF (List.nil_sublist _)
end Go.Proofs.YtogfficbloejcaaDoor
namespace Go.Proofs.YtogfficbloejcaaDoor
open Go Go.X Go.RowKit
theorem bulk_one {H : Type} (d : DataW H) : 1 ≤ Rows.uptoBulk d := by
  cases d with
  | lit l => cases l <;> simp [Rows.uptoBulk]
  | nil => simp [Rows.uptoBulk]
  | ptr d => simp [Rows.uptoBulk]
  | slice a b => simp [Rows.uptoBulk]
  | agg p => simp [Rows.uptoBulk]
  | iface t d => simp [Rows.uptoBulk]
  | map e => simp [Rows.uptoBulk]
  | held h => simp [Rows.uptoBulk]
theorem bulk_in {H : Type} {d : DataW H} : ∀ {l : List (DataW H)}, d ∈ l → Rows.uptoBulk d ≤ Rows.uptoBulkAll l
  | [], h => by cases h
  | x :: r, h => by
    simp only [Rows.uptoBulkAll]
    rcases List.mem_cons.1 h with rfl | h
    · omega
    · have := bulk_in h; omega
theorem bulk_len {H : Type} : ∀ l : List (DataW H), l.length ≤ Rows.uptoBulkAll l
  | [] => by simp [Rows.uptoBulkAll]
  | x :: r => by have h1 := bulk_one x; have h2 := bulk_len r; simp only [Rows.uptoBulkAll, List.length_cons]; omega
theorem bulk_bound {H : Type} {l : List (DataW H)} (hk : Rows.uptoSmall H l = true) : Rows.uptoBulkAll l ≤ 1048576 := of_decide_eq_true hk
theorem bulk_sl {P : Program} {H : Type} {enc : TypeId × Value → H} {w : World} {t e : TypeId} {A : Option Addr} {n c : Nat} {d : DataW H} {ps : List MemPlace} (ht : P.underlying t = some (.slice e))
    (h : DataW.Trod enc P w 0 (fun _ => true) true t (.slice A n c) d ps) : n ≤ Rows.uptoBulk d := by
  obtain ⟨fuel, hf⟩ := h
  rcases Deep.open_slice ht hf with ⟨h1, _⟩ | ⟨a, len, cap, m, k, D, Pl, h1, _, hl, hm, hmm, hx, _⟩
  · simp only [Value.cells] at h1
    injection h1 with h1
    injection h1 with e1 e2 e3
    omega
  · simp only [Value.cells] at h1
    injection h1 with h1
    injection h1 with e1 e2 e3
    injection hx with hx _
    rw [hx]
    have := bulk_len ((List.range len).map D)
    simp only [List.length_map, List.length_range] at this
    simp only [Rows.uptoBulk]
    omega
end Go.Proofs.YtogfficbloejcaaDoor
namespace Go.Proofs.YtogfficbloejcaaDoor
open Go Go.X
set_option maxRecDepth 10000
set_option linter.unusedVariables false
attribute [local irreducible] Code.wpIn wpListIn Exit.then Exit.inBlock X.Out X.Back X.W X.Ev X.Con X.BinV X.Wh X.Wn X.Wq
theorem rdb_Fa : Rdb (α := Fa) Tryd.prog 27 (fun _ _ => True) := fun H enc w fuel cs x h => by
  have hl : cs.length = 10 := len_s (by kernel_rfl) Tryd.underlying27 h
  match cs, hl with
  | [c0, c1, c2, c3, c4, c5, c6, c7, c8, c9], _ =>
  obtain ⟨a0, e0, o0⟩ := (rdb_int Tryd.underlying3).at_ (part_f 0 h)
  obtain ⟨a1, e1, o1⟩ := (rdb_int Tryd.underlying3).at_ (part_f 1 h)
  obtain ⟨a2, e2, o2⟩ := (rdb_int Tryd.underlying3).at_ (part_f 2 h)
  obtain ⟨a3, e3, o3⟩ := (rdb_int Tryd.underlying3).at_ (part_f 3 h)
  obtain ⟨a4, e4, o4⟩ := (rdb_int Tryd.underlying3).at_ (part_f 4 h)
  obtain ⟨a5, e5, o5⟩ := (rdb_int Tryd.underlying3).at_ (part_f 5 h)
  obtain ⟨a6, e6, o6⟩ := (rdb_int Tryd.underlying3).at_ (part_f 6 h)
  obtain ⟨a7, e7, o7⟩ := (rdb_int Tryd.underlying3).at_ (part_f 7 h)
  obtain ⟨a8, e8, o8⟩ := (rdb_int Tryd.underlying3).at_ (part_f 8 h)
  obtain ⟨a9, e9, o9⟩ := (rdb_int Tryd.underlying3).at_ (part_f 9 h)
  simp [Cl.cells] at e0 e1 e2 e3 e4 e5 e6 e7 e8 e9
  subst e0 e1 e2 e3 e4 e5 e6 e7 e8 e9
  exact ⟨⟨a0, a1, a2, a3, a4, a5, a6, a7, a8, a9⟩, rfl, trivial⟩
end Go.Proofs.YtogfficbloejcaaDoor
namespace Go.Proofs.YtogfficbloejcaaDoor
open Go Go.X
open Go.ChangeShapes Go.WideShapes Go.ChangeAt Go.RowKit
set_option linter.unusedVariables false
set_option maxHeartbeats 1600000 in
set_option maxRecDepth 100000 in
theorem contract3 (H : Type) (enc : TypeId × Value → H) (W : World) (base : Nat) (args : Array Value) (ds gs : List (DataW H)) (before : List MemPlace)
    (hval0 : ∀ (j : Nat) t v, Tryd.f3.params[j]? = some t → args[j]? = some v → Value.okWide Tryd.prog W .any base t v)
    (hW : DataW.Whole enc Tryd.prog Tryd.f3.params.toList Rows.sketchMatchesReferenceSpec.vars false W args.toList ds gs before) (hL : laidMetH Tryd.prog Rows.sketchMatchesReferenceUptoRow.laid W) (hk : Rows.uptoSmall H (ds ++ gs) = true) :
    Calls Tryd.prog 3 args W fun e W' => ∃ v, e = .returned v ∧ Rows.sketchMatchesReferenceSpec.post enc Tryd.prog Tryd.f3 false true false false W args v W' := by
  have hval : ∀ (j : Nat) t v, Tryd.f3.params[j]? = some t → args[j]? = some v → Value.okWide Tryd.prog W .any base t v := hval0
  have hW' := hW
  obtain ⟨p, q, hA0, hV, rfl, hfz, hnd⟩ := hW
  have hA : DataW.TrodAll enc Tryd.prog W 0 (fun _ => true) true Tryd.f3.params.toList args.toList ds p := hA0
  rw [Tryd.params3] at hA hval
  obtain ⟨v0, vs0, d0, ds0, p0, q0, hargs, rfl, rfl, h0, r0⟩ := trodAll_cons hA
  obtain ⟨v1, vs1, d1, ds1, p1, q1, rfl, rfl, rfl, h1, r1⟩ := trodAll_cons r0
  obtain ⟨v2, vs2, d2, ds2, p2, q2, rfl, rfl, rfl, h2, r2⟩ := trodAll_cons r1
  obtain ⟨v3, vs3, d3, ds3, p3, q3, rfl, rfl, rfl, h3, r3⟩ := trodAll_cons r2
  obtain ⟨v4, vs4, d4, ds4, p4, q4, rfl, rfl, rfl, h4, r4⟩ := trodAll_cons r3
  obtain ⟨v5, vs5, d5, ds5, p5, q5, rfl, rfl, rfl, h5, r5⟩ := trodAll_cons r4
  obtain ⟨v6, vs6, d6, ds6, p6, q6, rfl, rfl, rfl, h6, r6⟩ := trodAll_cons r5
  obtain ⟨rfl, rfl, rfl⟩ := trodAll_nil r6
  obtain rfl : args = #[v0, v1, v2, v3, v4, v5, v6] := by cases args; simp_all
  obtain ⟨rfl, rfl⟩ := trodVars_none hV
  have k0 := h0
  have lt0 : ∀ x ∈ p0, x.block < W.heap.size := by obtain ⟨m, hm⟩ := k0; exact DataW.trod_lt m _ _ _ hm
  have k1 := h1
  have lt1 : ∀ x ∈ p1, x.block < W.heap.size := by obtain ⟨m, hm⟩ := k1; exact DataW.trod_lt m _ _ _ hm
  have k2 := h2
  have lt2 : ∀ x ∈ p2, x.block < W.heap.size := by obtain ⟨m, hm⟩ := k2; exact DataW.trod_lt m _ _ _ hm
  have k3 := h3
  have lt3 : ∀ x ∈ p3, x.block < W.heap.size := by obtain ⟨m, hm⟩ := k3; exact DataW.trod_lt m _ _ _ hm
  have k4 := h4
  have lt4 : ∀ x ∈ p4, x.block < W.heap.size := by obtain ⟨m, hm⟩ := k4; exact DataW.trod_lt m _ _ _ hm
  have k5 := h5
  have lt5 : ∀ x ∈ p5, x.block < W.heap.size := by obtain ⟨m, hm⟩ := k5; exact DataW.trod_lt m _ _ _ hm
  have k6 := h6
  have lt6 : ∀ x ∈ p6, x.block < W.heap.size := by obtain ⟨m, hm⟩ := k6; exact DataW.trod_lt m _ _ _ hm
  obtain ⟨a0, rfl, g0⟩ := open_rd (α := Sv) Tryd.underlying24 rdb_raw (hval 0 24 v0 rfl rfl) h0
  obtain ⟨a1, len1, cap1, rfl⟩ := okWide_slice Tryd.underlying25 (hval 1 25 v1 rfl rfl)
  obtain ⟨xs1, rfl, gl1, gA1, gx1⟩ := open_sl (α := K4) Tryd.underlying25 (by kernel_rfl) rdb_K4 rfl h1
  obtain ⟨a2, len2, cap2, rfl⟩ := okWide_slice Tryd.underlying25 (hval 2 25 v2 rfl rfl)
  obtain ⟨xs2, rfl, gl2, gA2, gx2⟩ := open_sl (α := K4) Tryd.underlying25 (by kernel_rfl) rdb_K4 rfl h2
  obtain ⟨a3, rfl, g3⟩ := open_rd (α := Fa) Tryd.underlying27 rdb_Fa (hval 3 27 v3 rfl rfl) h3
  obtain ⟨a4, rfl, e1_4, e2_4, w4⟩ := open_int Tryd.underlying3 (hval 4 3 v4 rfl rfl) h4
  obtain ⟨a5, rfl, e1_5, e2_5, w5⟩ := open_int Tryd.underlying3 (hval 5 3 v5 rfl rfl) h5
  obtain ⟨a6, rfl, e1_6, e2_6, w6⟩ := open_int Tryd.underlying3 (hval 6 3 v6 rfl rfl) h6
  have hbk := bulk_bound hk
  have hb1 := Nat.le_trans (bulk_sl Tryd.underlying25 h1) (Nat.le_trans (bulk_in (by simp)) hbk)
  have hb2 := Nat.le_trans (bulk_sl Tryd.underlying25 h2) (Nat.le_trans (bulk_in (by simp)) hbk)
  refine (calls_of_con (f3_law a0 xs1 a1 cap1 xs2 a2 cap2 a3 a4 a5 a6 (allOf W) (gl_laid hL) g0 gA1 gl1 gx1 gA2 gl2 gx2 hb1 hb2) fun _ _ _ h => h).mono fun e W' ⟨he, bel⟩ => ?_
  subst he
  exact ⟨_, rfl, _, _, _, [], _, [], hW', trodAll_mk1 (shut_bool Tryd.underlying4 _), (trodAll_cons_mk (Below.trod laidOut (by kernel_rfl) (of_decide_eq_true (by kernel_rfl)) k0 bel lt0) (trodAll_cons_mk (Below.trod laidOut (by kernel_rfl) (of_decide_eq_true (by kernel_rfl)) k1 bel lt1) (trodAll_cons_mk (Below.trod laidOut (by kernel_rfl) (of_decide_eq_true (by kernel_rfl)) k2 bel lt2) (trodAll_cons_mk (Below.trod laidOut (by kernel_rfl) (of_decide_eq_true (by kernel_rfl)) k3 bel lt3) (trodAll_cons_mk (Below.trod laidOut (by kernel_rfl) (of_decide_eq_true (by kernel_rfl)) k4 bel lt4) (trodAll_cons_mk (Below.trod laidOut (by kernel_rfl) (of_decide_eq_true (by kernel_rfl)) k5 bel lt5) (trodAll_cons_mk (Below.trod laidOut (by kernel_rfl) (of_decide_eq_true (by kernel_rfl)) k6 bel lt6) trodAll_mk0))))))), rfl, bel.frame _, fun h => by cases h⟩
theorem laid_met3 (os : Os) : laidMet Tryd.prog Rows.sketchMatchesReferenceUptoRow.laid ((laidWorld os).forCall (fun _ _ => 0) ⟨#[], #[.agg #[.slice none 0 0], .slice none 0 0, .slice none 0 0, .agg #[.int .i64 0, .int .i64 0, .int .i64 0, .int .i64 0, .int .i64 0, .int .i64 0, .int .i64 0, .int .i64 0, .int .i64 0, .int .i64 0], .int .i64 0, .int .i64 0, .int .i64 0], []⟩).memory :=
  laidMet_of_run' 8 (by kernel_rfl) (by kernel_rfl)
theorem reads3 (os : Os) {H : Type} (enc : TypeId × Value → H) : ∃ places, DataW.whole enc Tryd.prog ((laidWorld os).forCall (fun _ _ => 0) ⟨#[], #[.agg #[.slice none 0 0], .slice none 0 0, .slice none 0 0, .agg #[.int .i64 0, .int .i64 0, .int .i64 0, .int .i64 0, .int .i64 0, .int .i64 0, .int .i64 0, .int .i64 0, .int .i64 0, .int .i64 0], .int .i64 0, .int .i64 0, .int .i64 0], []⟩).memory Tryd.f3.params.toList Rows.sketchMatchesReferenceSpec.vars false (#[.agg #[.slice none 0 0], .slice none 0 0, .slice none 0 0, .agg #[.int .i64 0, .int .i64 0, .int .i64 0, .int .i64 0, .int .i64 0, .int .i64 0, .int .i64 0, .int .i64 0, .int .i64 0, .int .i64 0], .int .i64 0, .int .i64 0, .int .i64 0] : Array Value).toList 8 = some ([.agg [.nil], .nil, .nil, .agg [.lit (.int .i64 0), .lit (.int .i64 0), .lit (.int .i64 0), .lit (.int .i64 0), .lit (.int .i64 0), .lit (.int .i64 0), .lit (.int .i64 0), .lit (.int .i64 0), .lit (.int .i64 0), .lit (.int .i64 0)], .lit (.int .i64 0), .lit (.int .i64 0), .lit (.int .i64 0)], [], places) :=
  ⟨[], by kernel_rfl⟩
set_option maxRecDepth 100000 in
theorem lifted3 (os : Os) (started : os.Started) (H : Type) (enc : TypeId × Value → H) (F : Stop.Interp) :
    ReturnsInHanded {} Tryd.checked os 3 .any ((Rows.OpenSpec.upto Rows.sketchMatchesReferenceSpec).preRow enc Tryd.prog Tryd.f3 Rows.sketchMatchesReferenceUptoRow.domain false Rows.sketchMatchesReferenceUptoRow.laid) (((Rows.OpenSpec.upto Rows.sketchMatchesReferenceSpec).at F).post enc Tryd.prog Tryd.f3 false true false false) := by
  obtain ⟨places, hx⟩ := reads3 os enc
  refine returnsInHanded_of_row (C := Tryd.checked) (s := Rows.OpenSpec.upto Rows.sketchMatchesReferenceSpec) own started (by kernel_rfl) Tryd.func3
    (witness_row_at (enc := enc) (C := Tryd.checked) false (laidWorld os) #[.agg #[.slice none 0 0], .slice none 0 0, .slice none 0 0, .agg #[.int .i64 0, .int .i64 0, .int .i64 0, .int .i64 0, .int .i64 0, .int .i64 0, .int .i64 0, .int .i64 0, .int .i64 0, .int .i64 0], .int .i64 0, .int .i64 0, .int .i64 0] rfl (by kernel_rfl) (by kernel_rfl) (by kernel_rfl)
      (OpenSpec.preRow_of_cond 8 hx (by kernel_rfl) (fun k hk => by cases hk; kernel_rfl) (by kernel_rfl) (laid_met3 os))) ?_
  intro W base args ds gs before hval hW c1 c2 c3 hL c4 c5
  exact contract3 H enc W base args ds gs before hval hW hL (c2 _ rfl)
theorem said3 : Rows.SketchMatchesReferenceUptoSaid :=
  OpenClaim.holds_of_cond 3 Tryd.f3 rfl rfl rfl rfl rfl rfl rfl ⟨rfl, rfl, rfl, rfl, rfl⟩ rfl rfl rfl rfl rfl (by kernel_rfl) Tryd.func3 (by kernel_rfl)
    (of_decide_eq_true (by kernel_rfl)) (by unfold Func.isWrapper; rw [if_neg (of_decide_eq_false (by kernel_rfl))]; exact ⟨rfl, rfl⟩)
    (fun os started H enc _ F => by rw [OpenClaim.pre_eq_preRow]; exact lifted3 os started H enc F)
theorem plain3 (f : FuncId) (fn : Func) (hf : Tryd.pinned.checked.prog.funcNamed "latecomer/latecomerlaw17.SketchMatchesReference" = some f) (hfn : Tryd.pinned.checked.prog.funcs[f]? = some fn) :
    false = Tryd.pinned.checked.prog.looks [] ∧ ∀ (j : Nat) t, fn.params[j]? = some t → Tryd.pinned.checked.prog.wantsStandIn t = false := by
  obtain rfl : f = 3 := Option.some.inj ((show Tryd.prog.funcNamed "latecomer/latecomerlaw17.SketchMatchesReference" = some 3 by kernel_rfl).symm.trans hf) |>.symm
  obtain rfl : fn = Tryd.f3 := (Option.some.inj (Tryd.func3.symm.trans hfn)).symm
  refine ⟨by kernel_rfl, fun j t ht => ?_⟩
  rw [Tryd.params3] at ht
  have hm := Array.mem_of_getElem? ht
  simp only [List.mem_toArray, List.mem_cons, List.not_mem_nil, or_false] at hm
  rcases hm with rfl | rfl | rfl | rfl | rfl | rfl | rfl
  · exact (show Tryd.prog.wantsStandIn 24 = false by kernel_rfl)
  · exact (show Tryd.prog.wantsStandIn 25 = false by kernel_rfl)
  · exact (show Tryd.prog.wantsStandIn 25 = false by kernel_rfl)
  · exact (show Tryd.prog.wantsStandIn 27 = false by kernel_rfl)
  · exact (show Tryd.prog.wantsStandIn 3 = false by kernel_rfl)
  · exact (show Tryd.prog.wantsStandIn 3 = false by kernel_rfl)
  · exact (show Tryd.prog.wantsStandIn 3 = false by kernel_rfl)
theorem sketchMatchesReferenceUpto_holds : Rows.SketchMatchesReferenceUptoCardSaid :=
  Claim7.holds_tied_plain_at .later [] _ _ _ _ said3 (fun _ h => by cases h) (by kernel_rfl) (fun _ h => by cases h) sketchMatchesReferenceUpto_row_tie rfl ⟨rfl, rfl⟩ (by kernel_rfl) rfl plain3 (by kernel_rfl)
#print axioms sketchMatchesReferenceUpto_holds
end Go.Proofs.YtogfficbloejcaaDoor
