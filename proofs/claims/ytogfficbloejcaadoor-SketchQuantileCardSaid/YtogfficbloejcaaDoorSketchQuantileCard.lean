/- SketchQuantile returns true for every input, and each argument reads afterwards as it read before; the one listed package variable starts as the program's text lays it, and the given tie to the text is used. -/
import Derived.Test.YtogfficbloejcaaDoorBc
import Derived.Test.YtogfficbloejcaaDoorXA
import Derived.Test.YtogfficbloejcaaDoorRows
import Derived.Lib.LaidTab
import Derived.Deep.DeepHandedRow
import Derived.OpenShut
import Derived.ProofKit
import Derived.Test.YtogfficbloejcaaDoorCards
import Derived.Test.YtogfficbloejcaaDoorTie
namespace Go.Proofs.YtogfficbloejcaaDoor
open Go Go.X
set_option maxRecDepth 10000
set_option linter.unusedVariables false
attribute [local irreducible] Code.wpIn wpListIn Exit.then Exit.inBlock X.Out X.Back X.W X.Ev X.Con X.BinV X.Wh X.Wn X.Wq
theorem Good.of {L : List Fa} (h : ∀ x ∈ L, FactP x) (hl : L.length ≤ 400) : Good L := ⟨h, hl⟩
theorem Good.app {L M : List Fa} (h : ∀ x ∈ L, FactP x) (k : ∀ x ∈ M, FactP x) (hl : L.length + M.length ≤ 400) : Good (L ++ M) :=
  ⟨fun x hx => (List.mem_append.1 hx).elim (h x) (k x), by rw [List.length_append]; exact hl⟩
theorem MakeF {L : List Fa} (hL : Good L) (A : Option Addr) (c : Nat) (S : SH) (hG : Gl S) (hA : At S A L) : Con Tryd.prog 16 #[.slice A L.length c] S [] (fun S' L' r => L' = [] ∧ ∃ B n d s, r = .tuple #[.agg [.slice B n d].toArray, .int .i64 0] ∧ SkV S' (.agg [.slice B n d].toArray) s ∧ IsSk s L ∧ Gl S') :=
  (MakeG_con hL A c S hG hA).mono fun S' L' r hle ⟨h1, v, s, e, h2, h3⟩ => by
    obtain ⟨B, n, d, rfl⟩ := h2.form
    exact ⟨h1, B, n, d, s, e, h2, h3, hG.le hle⟩
theorem MergeF {va vb : Value} {a b : List PC} {L M : List Fa} (hg : Good (L ++ M)) (S : SH) (hG : Gl S) (ha : SkV S va a) (hb : SkV S vb b) (h1 : IsSk a L) (h2 : IsSk b M) : Con Tryd.prog 21 #[va, vb] S [] (fun S' L' r => L' = [] ∧ ∃ B n d s, r = .tuple #[.agg [.slice B n d].toArray, .int .i64 0] ∧ SkV S' (.agg [.slice B n d].toArray) s ∧ IsSk s (L ++ M) ∧ Gl S') :=
  (MergeG_con hg S hG ha hb h1 h2).mono fun S' L' r hle ⟨h1, v, s, e, h2, h3⟩ => by
    obtain ⟨B, n, d, rfl⟩ := h2.form
    exact ⟨h1, B, n, d, s, e, h2, h3, hG.le hle⟩
theorem SubF {va vb : Value} {a b : List PC} {L M N : List Fa} (hL : Good L) (hp : L.Perm (M ++ N)) (S : SH) (hG : Gl S) (ha : SkV S va a) (hb : SkV S vb b) (h1 : IsSk a L) (h2 : IsSk b M) : Con Tryd.prog 23 #[va, vb] S [] (fun S' L' r => L' = [] ∧ ∃ B n d s, r = .tuple #[.agg [.slice B n d].toArray, .int .i64 0] ∧ SkV S' (.agg [.slice B n d].toArray) s ∧ IsSk s N ∧ Gl S') :=
  (SubG_con hL hp S hG ha hb h1 h2).mono fun S' L' r hle ⟨h1, v, s, e, h2, h3⟩ => by
    obtain ⟨B, n, d, rfl⟩ := h2.form
    exact ⟨h1, B, n, d, s, e, h2, h3, hG.le hle⟩
theorem SubBadF {va vb : Value} {a b : List PC} {L M : List Fa} (hg : Good (L ++ M)) (hne : M ≠ []) (S : SH) (hG : Gl S) (ha : SkV S va a) (hb : SkV S vb b) (h1 : IsSk a L) (h2 : IsSk b (L ++ M)) : Con Tryd.prog 23 #[va, vb] S [] (fun S' L' r => L' = [] ∧ ∃ B n d, r = .tuple #[.agg [.slice B n d].toArray, .int .i64 170]) :=
  (SubBad_con hg hne S hG ha hb h1 h2).mono fun S' L' r hle ⟨h1, v, s, e, h2⟩ => by
    obtain ⟨B, n, d, rfl⟩ := h2.form
    exact ⟨h1, B, n, d, e⟩
set_option maxHeartbeats 3200000 in
theorem f4_law (xs : List K4) (A : Option Addr) (ca : Nat) (ys : List K4) (B : Option Addr) (cb : Nat) (zs : List K4) (E : Option Addr) (ce : Nat) (turn : Int) (S : SH) (hG : Gl S) (hA : At S A xs) (lx : xs.length ≤ ca) (hx : ∀ x ∈ xs, K4ok x) (hB : At S B ys) (ly : ys.length ≤ cb) (hy : ∀ x ∈ ys, K4ok x) (hE : At S E zs) (lz : zs.length ≤ ce) (hz : ∀ x ∈ zs, K4ok x) (ht : i64 turn) :
    Con Tryd.prog 4 #[.slice A xs.length ca, .slice B ys.length cb, .slice E zs.length ce, .int .i64 turn] S [] (fun _ _ v => v = .bool true) := by
  refine con_of (args := [.slice A xs.length ca, .slice B ys.length cb, .slice E zs.length ce, .int .i64 turn]) Tryd.func4 rfl Tryd.ntmps4 rfl fun w => ?_
  (repeat (first | refine Jc ?_ | ((apply z_call; rfl; rfl; rfl; exact sane_con S hG; rintro S1 _ _ hle1 ⟨rfl, rfl⟩)) | refine Jo ?_ | intro _))
  (repeat (first | refine Jc ?_ | ((apply z_call; rfl; rfl; rfl; exact MadeFacts_con xs A ca S1 (hA.le hle1) hx; rintro S2 _ _ hle2 ⟨rfl, Al, cl, l, rfl, hAl, hcl, hll, hlf⟩)) | refine Jo ?_ | intro _))
  (repeat (first | refine Jc ?_ | ((apply z_call; rfl; rfl; rfl; exact MadeFacts_con ys B cb S2 (hB.le (hle1.trans hle2)) hy; rintro S3 _ _ hle3 ⟨rfl, Am, cm, m, rfl, hAm, hcm, hlm, hmf⟩)) | refine Jo ?_ | intro _))
  have gl : Good l := .of hlf (by omega)
  have gm : Good m := .of hmf (by omega)
  (repeat (first | refine Jc ?_ | ((apply z_call; rfl; rfl; rfl; exact MakeF gl Al cl S3 (hG.le ((hle1.trans hle2).trans hle3)) (hAl.le hle3); rintro S4 _ _ hle4 ⟨rfl, Aa, na, ka, a, rfl, hsa, hia, hG4⟩)) | refine Jo ?_ | intro _))
  (repeat (first | refine Jc ?_ | ((apply z_call; rfl; rfl; rfl; exact MakeF gm Am cm S4 hG4 (hAm.le hle4); rintro S5 _ _ hle5 ⟨rfl, Ab, nb, kb, b, rfl, hsb, hib, hG5⟩)) | refine Jo ?_ | intro _))
  (repeat (first | refine Jc ?_ | ((apply z_call; rfl; rfl; rfl; exact MadeFacts_con zs E ce S5 (hE.le ((((hle1.trans hle2).trans hle3).trans hle4).trans hle5)) hz; rintro S6 _ _ hle6 ⟨rfl, An, cn, nn, rfl, hAn, hcn, hln, hnf⟩)) | refine Jo ?_ | intro _))
  have gn : Good nn := .of hnf (by omega)
  (repeat (first | refine Jc ?_ | ((apply z_call; rfl; rfl; rfl; exact MakeF gn An cn S6 (hG5.le hle6) hAn; rintro S7 _ _ hle7 ⟨rfl, Ac, nc, kc, c, rfl, hsc, hic, hG7⟩)) | refine Jo ?_ | intro _))
  have hAl7 : At S7 Al l := hAl.le (by repeat (first | exact Le.refl _ | assumption | refine Le.trans ?_ (by assumption)))
  have hAm7 : At S7 Am m := hAm.le (by repeat (first | exact Le.refl _ | assumption | refine Le.trans ?_ (by assumption)))
  rename_i b0
  have ho0 := Ows.full (α := Fa) (e := 27) (g := b0) (cs := []) (l := []) rfl (by decide)
  (repeat (first | refine Jc ?_ | (apply s_append_st (ms := l) hAl7; (case hg => rfl); (case hd => rfl); (case hx => rfl); (case ho => exact ho0); (case hL => (repeat (first | exact pm_nil _ | exact pm_refl _ _ | exact pm_self _ | apply pm_cons | apply pm_app))); (case hy => rfl); (case hm => first | rfl | simp); (case hzs => rfl); (case h0 => decide); (case hb => first | (simp; omega) | simp); (case h63 => first | (simp; omega) | simp); intro v1' ob1 ho1) | refine Jo ?_ | intro _))
  (repeat (first | refine Jc ?_ | (apply s_append_st (ms := m) hAm7; (case hg => rfl); (case hd => rfl); (case hx => rfl); (case ho => exact ho1); (case hL => (repeat (first | exact pm_nil _ | exact pm_refl _ _ | exact pm_self _ | apply pm_cons | apply pm_app))); (case hy => rfl); (case hm => first | rfl | simp); (case hzs => rfl); (case h0 => decide); (case hb => first | (simp; omega) | simp); (case h63 => first | (simp; omega) | simp); intro v2' ob2 ho2; refine W.freezeOws ho2 (by repeat (first | exact pm_nil _ | exact pm_refl _ _ | exact pm_self _ | refine pm_cons ?_ | refine pm_app ?_)) fun S8 hle8 hr8 => ?_; obtain ⟨A8, c8, rfl, hc8, hA8⟩ := hr8) | refine Jo ?_ | intro _))
  have hte : [] ++ l ++ m = l ++ m := by simp
  rw [hte] at hA8 hc8 ⊢
  clear hte ho1 ho2
  have htl : (l ++ m).length = l.length + m.length := List.length_append
  have gt : Good (l ++ m) := .app hlf hmf (by omega)
  generalize hlm2 : l ++ m = t at *
  obtain ⟨kt, hk, hk2⟩ : ∃ k : Nat, pickI turn ((t.length : Int) + 1) = k ∧ k ≤ t.length := by
    have h := pickI_bd turn ((t.length : Int) + 1) (by omega)
    exact ⟨(pickI turn ((t.length : Int) + 1)).toNat, by omega, by omega⟩
  have hpk := lpick_con turn ((t.length : Int) + 1) S8 ht (by omega)
  rw [hk] at hpk
  (repeat (first | refine Jc ?_ | ((apply z_call; rfl; rfl; rfl; exact hpk; rintro _ _ _ - ⟨rfl, rfl, rfl⟩)) | refine Jo ?_ | intro _))
  rename_i b3 b2 b1
  have gp : Good (t.drop kt ++ t.take kt) := gt.perm (by
    refine (List.Perm.of_eq (List.take_append_drop kt t).symm).trans List.perm_append_comm)
  have hG8 := hG7.le hle8
  refine c_meet (fun S' L F => Le S8 S' ∧ ∃ bx Ar nr kr r, SkV S' (.agg [.slice Ar nr kr].toArray) r ∧ IsSk r (t.drop kt ++ t.take kt) ∧ L = [(bx, .cells [.slice Ar nr kr].toArray 24 (0, 0)), (b1, .cells [.slice Ac nc kc].toArray 24 (0, 0)), (b2, .cells [.slice Ab nb kb].toArray 24 (0, 0)), (b3, .cells [.slice Aa na ka].toArray 24 (0, 0))] ∧
    F = [(21, .int .i64 0), (20, .pointer (some ⟨bx, 0, none⟩)), (17, .int .i64 0), (16, .pointer (some ⟨b1, 0, none⟩)), (15, .int .i64 0), (14, .pointer (some ⟨b2, 0, none⟩)), (13, .int .i64 0), (12, .pointer (some ⟨b3, 0, none⟩)), (9, .bool true), (8, .bool false)]) ?_ ?_
  · ((apply c_held ([(b1, .cells [.slice Ac nc kc].toArray 24 (0, 0)), (b2, .cells [.slice Ab nb kb].toArray 24 (0, 0)), (b3, .cells [.slice Aa na ka].toArray 24 (0, 0))]); (case hL => (repeat (first | exact List.Sublist.refl _ | exact List.Sublist.slnil | exact List.nil_sublist _ | exact List.sublist_append_left _ _ | apply List.Sublist.cons_cons | (apply List.Sublist.append; exact List.Sublist.refl _) | apply List.Sublist.cons | refine List.Sublist.trans ?_ (List.sublist_append_right _ _))))); refine Jf 1 ?_; refine Jf 2 ?_; (apply h_slice_lo hA8 3; (case hi => rfl); (case hr => kernel_rfl); (case hfr => kernel_rfl); (case hsel => kernel_rfl); (case hg => rfl); (case hd => rfl); (case i1 => infer_instance); (case i2 => infer_instance); (case hx => rfl); (case hy => rfl); (case hm => rfl); (case hmc => omega); (case hj => omega); intro A9 hA9); refine Jf 5 ?_; refine Jf 6 ?_; (apply h_slice_hi hA8 7; (case hi => rfl); (case hr => kernel_rfl); (case hfr => kernel_rfl); (case hsel => kernel_rfl); (case hg => rfl); (case hd => rfl); (case i1 => infer_instance); (case i2 => infer_instance); (case hx => rfl); (case hy => rfl); (case hm => rfl); (case hmc => omega); (case hj => omega); intro A10 hA10); (apply h_two 0 13; (case hr => kernel_rfl)); (case k1 => ((apply n_buildSlice; (case hi => rfl); (case hg => rfl); (case hd => rfl); (case i1 => infer_instance); (case i2 => infer_instance); (case i3 => infer_instance); (case hp => rfl); (case hq => rfl); (case hm => rfl); (case hv => rfl); (case hl => rfl); intro b0); (apply h_two 4 13; (case hr => kernel_rfl)); (case k1 => ((apply n_append_st (ms := t.drop kt) hA9; (case hi => rfl); (case hT => infer_instance); (case hsz => infer_instance); (case hz => infer_instance); (case hby => infer_instance); (case hg => rfl); (case hd => rfl); (case hx => rfl); (case ho => exact Ows.full (α := Fa) (e := 27) (g := b0) (cs := []) (l := []) rfl (by decide)); (case hL => (repeat (first | exact pm_nil _ | exact pm_refl _ _ | exact pm_self _ | apply pm_cons | apply pm_app))); (case hy => rfl); (case hm => first | rfl | simp); (case hzs => rfl); (case h0 => decide); (case hb => first | (simp; omega) | simp); (case h63 => first | (simp; omega) | simp); (case hsub => first | (intro _ _; exact List.nil_sublist _) | (intros; (repeat (first | exact List.Sublist.refl _ | exact List.Sublist.slnil | exact List.nil_sublist _ | exact List.sublist_append_left _ _ | apply List.Sublist.cons_cons | (apply List.Sublist.append; exact List.Sublist.refl _) | apply List.Sublist.cons | refine List.Sublist.trans ?_ (List.sublist_append_right _ _))))); intro v1' ob1 ho1); (apply h_two 8 13; (case hr => kernel_rfl)); (case k1 => ((apply n_append_st (ms := t.take kt) hA10; (case hi => rfl); (case hT => infer_instance); (case hsz => infer_instance); (case hz => infer_instance); (case hby => infer_instance); (case hg => rfl); (case hd => rfl); (case hx => rfl); (case ho => exact ho1); (case hL => (repeat (first | exact pm_nil _ | exact pm_refl _ _ | exact pm_self _ | apply pm_cons | apply pm_app))); (case hy => rfl); (case hm => first | rfl | simp); (case hzs => rfl); (case h0 => decide); (case hb => first | (simp; omega) | simp); (case h63 => first | (simp; omega) | simp); (case hsub => first | (intro _ _; exact List.nil_sublist _) | (intros; (repeat (first | exact List.Sublist.refl _ | exact List.Sublist.slnil | exact List.nil_sublist _ | exact List.sublist_append_left _ _ | apply List.Sublist.cons_cons | (apply List.Sublist.append; exact List.Sublist.refl _) | apply List.Sublist.cons | refine List.Sublist.trans ?_ (List.sublist_append_right _ _))))); intro v2' ob2 ho2; refine Wh.freezeOws ho2 (by repeat (first | exact pm_nil _ | exact pm_refl _ _ | exact pm_self _ | refine pm_cons ?_ | refine pm_app ?_)) (by repeat (first | exact List.Sublist.refl _ | exact List.Sublist.slnil | exact List.nil_sublist _ | exact List.sublist_append_left _ _ | refine List.Sublist.cons_cons _ ?_ | refine List.Sublist.append (List.Sublist.refl _) ?_ | refine List.Sublist.cons _ ?_ | refine List.Sublist.trans ?_ (List.sublist_append_right _ _))) fun S9 hle9 hr9 => ?_; obtain ⟨A11, c11, rfl, hc11, hA11⟩ := hr9); (apply h_two 9 13; (case hr => kernel_rfl)); (case k1 => ((apply n_call; (case hi => rfl); (case i1 => infer_instance); (case hg => rfl); (case hd => rfl); (case ha => rfl); (case hc => exact MakeF gp A11 c11 _ (hG8.le hle9) hA11); (case hL => (repeat (first | exact pm_nil _ | exact pm_refl _ _ | exact pm_self _ | apply pm_cons | apply pm_app))); (case hsub => (intros; (repeat (first | exact List.Sublist.refl _ | exact List.Sublist.slnil | exact List.nil_sublist _ | exact List.sublist_append_left _ _ | apply List.Sublist.cons_cons | (apply List.Sublist.append; exact List.Sublist.refl _) | apply List.Sublist.cons | refine List.Sublist.trans ?_ (List.sublist_append_right _ _))))); rintro S10 _ _ hle10 ⟨rfl, Ar, nr, kr, r, rfl, hsr, hir, hG10⟩); refine Jf 10 ?_; refine Jf 11 ?_; refine Jf 12 ?_; (apply h_one 13; (case hr => kernel_rfl)); (refine Jn ?_; try intro _); (apply h_one 14; (case hr => kernel_rfl)); (refine Jn ?_; try intro _); refine Jf 15 ?_; (apply h_end; (case hr => kernel_rfl)); (apply q_then; exact q_cut ⟨hle9.trans hle10, _, Ar, nr, kr, r, hsr, hir, rfl, rfl⟩ (by repeat (first | exact Sub.nil rfl | exact Sub.marked rfl | refine Sub.cons rfl ?_)) (by repeat (first | exact List.Sublist.refl _ | exact List.Sublist.slnil | exact List.nil_sublist _ | exact List.sublist_append_left _ _ | refine List.Sublist.cons_cons _ ?_ | refine List.Sublist.append (List.Sublist.refl _) ?_ | refine List.Sublist.cons _ ?_ | refine List.Sublist.trans ?_ (List.sublist_append_right _ _)))))); (case k2 => ((refine Jn ?_; try intro _); (apply h_one 9; (case hr => kernel_rfl)); (apply n_call; (case hi => rfl); (case i1 => infer_instance); (case hg => rfl); (case hd => rfl); (case ha => rfl); (case hc => exact MakeF gp A11 c11 _ (hG8.le hle9) hA11); (case hL => (repeat (first | exact pm_nil _ | exact pm_refl _ _ | exact pm_self _ | apply pm_cons | apply pm_app))); (case hsub => (intros; (repeat (first | exact List.Sublist.refl _ | exact List.Sublist.slnil | exact List.nil_sublist _ | exact List.sublist_append_left _ _ | apply List.Sublist.cons_cons | (apply List.Sublist.append; exact List.Sublist.refl _) | apply List.Sublist.cons | refine List.Sublist.trans ?_ (List.sublist_append_right _ _))))); rintro S10 _ _ hle10 ⟨rfl, Ar, nr, kr, r, rfl, hsr, hir, hG10⟩); refine Jf 10 ?_; refine Jf 11 ?_; refine Jf 12 ?_; (apply h_one 14; (case hr => kernel_rfl)); (refine Jn ?_; try intro _); refine Jf 15 ?_; (apply h_end; (case hr => kernel_rfl)); (apply q_then; exact q_cut ⟨hle9.trans hle10, _, Ar, nr, kr, r, hsr, hir, rfl, rfl⟩ (by repeat (first | exact Sub.nil rfl | exact Sub.marked rfl | refine Sub.cons rfl ?_)) (by repeat (first | exact List.Sublist.refl _ | exact List.Sublist.slnil | exact List.nil_sublist _ | exact List.sublist_append_left _ _ | refine List.Sublist.cons_cons _ ?_ | refine List.Sublist.append (List.Sublist.refl _) ?_ | refine List.Sublist.cons _ ?_ | refine List.Sublist.trans ?_ (List.sublist_append_right _ _)))))))); (case k2 => ((refine Jn ?_; try intro _); (apply h_one 8; (case hr => kernel_rfl)); (apply n_append_st (ms := t.take kt) hA10; (case hi => rfl); (case hT => infer_instance); (case hsz => infer_instance); (case hz => infer_instance); (case hby => infer_instance); (case hg => rfl); (case hd => rfl); (case hx => rfl); (case ho => exact ho1); (case hL => (repeat (first | exact pm_nil _ | exact pm_refl _ _ | exact pm_self _ | apply pm_cons | apply pm_app))); (case hy => rfl); (case hm => first | rfl | simp); (case hzs => rfl); (case h0 => decide); (case hb => first | (simp; omega) | simp); (case h63 => first | (simp; omega) | simp); (case hsub => first | (intro _ _; exact List.nil_sublist _) | (intros; (repeat (first | exact List.Sublist.refl _ | exact List.Sublist.slnil | exact List.nil_sublist _ | exact List.sublist_append_left _ _ | apply List.Sublist.cons_cons | (apply List.Sublist.append; exact List.Sublist.refl _) | apply List.Sublist.cons | refine List.Sublist.trans ?_ (List.sublist_append_right _ _))))); intro v2' ob2 ho2; refine Wh.freezeOws ho2 (by repeat (first | exact pm_nil _ | exact pm_refl _ _ | exact pm_self _ | refine pm_cons ?_ | refine pm_app ?_)) (by repeat (first | exact List.Sublist.refl _ | exact List.Sublist.slnil | exact List.nil_sublist _ | exact List.sublist_append_left _ _ | refine List.Sublist.cons_cons _ ?_ | refine List.Sublist.append (List.Sublist.refl _) ?_ | refine List.Sublist.cons _ ?_ | refine List.Sublist.trans ?_ (List.sublist_append_right _ _))) fun S9 hle9 hr9 => ?_; obtain ⟨A11, c11, rfl, hc11, hA11⟩ := hr9); (apply h_one 9; (case hr => kernel_rfl)); (apply n_call; (case hi => rfl); (case i1 => infer_instance); (case hg => rfl); (case hd => rfl); (case ha => rfl); (case hc => exact MakeF gp A11 c11 _ (hG8.le hle9) hA11); (case hL => (repeat (first | exact pm_nil _ | exact pm_refl _ _ | exact pm_self _ | apply pm_cons | apply pm_app))); (case hsub => (intros; (repeat (first | exact List.Sublist.refl _ | exact List.Sublist.slnil | exact List.nil_sublist _ | exact List.sublist_append_left _ _ | apply List.Sublist.cons_cons | (apply List.Sublist.append; exact List.Sublist.refl _) | apply List.Sublist.cons | refine List.Sublist.trans ?_ (List.sublist_append_right _ _))))); rintro S10 _ _ hle10 ⟨rfl, Ar, nr, kr, r, rfl, hsr, hir, hG10⟩); refine Jf 10 ?_; refine Jf 11 ?_; refine Jf 12 ?_; (apply h_one 14; (case hr => kernel_rfl)); (refine Jn ?_; try intro _); refine Jf 15 ?_; (apply h_end; (case hr => kernel_rfl)); (apply q_then; exact q_cut ⟨hle9.trans hle10, _, Ar, nr, kr, r, hsr, hir, rfl, rfl⟩ (by repeat (first | exact Sub.nil rfl | exact Sub.marked rfl | refine Sub.cons rfl ?_)) (by repeat (first | exact List.Sublist.refl _ | exact List.Sublist.slnil | exact List.nil_sublist _ | exact List.sublist_append_left _ _ | refine List.Sublist.cons_cons _ ?_ | refine List.Sublist.append (List.Sublist.refl _) ?_ | refine List.Sublist.cons _ ?_ | refine List.Sublist.trans ?_ (List.sublist_append_right _ _)))))))); (case k2 => ((refine Jn ?_; try intro _); (apply h_one 4; (case hr => kernel_rfl)); (apply n_append_st (ms := t.drop kt) hA9; (case hi => rfl); (case hT => infer_instance); (case hsz => infer_instance); (case hz => infer_instance); (case hby => infer_instance); (case hg => rfl); (case hd => rfl); (case hx => rfl); (case ho => exact Ows.full (α := Fa) (e := 27) (g := b0) (cs := []) (l := []) rfl (by decide)); (case hL => (repeat (first | exact pm_nil _ | exact pm_refl _ _ | exact pm_self _ | apply pm_cons | apply pm_app))); (case hy => rfl); (case hm => first | rfl | simp); (case hzs => rfl); (case h0 => decide); (case hb => first | (simp; omega) | simp); (case h63 => first | (simp; omega) | simp); (case hsub => first | (intro _ _; exact List.nil_sublist _) | (intros; (repeat (first | exact List.Sublist.refl _ | exact List.Sublist.slnil | exact List.nil_sublist _ | exact List.sublist_append_left _ _ | apply List.Sublist.cons_cons | (apply List.Sublist.append; exact List.Sublist.refl _) | apply List.Sublist.cons | refine List.Sublist.trans ?_ (List.sublist_append_right _ _))))); intro v1' ob1 ho1); (apply h_one 8; (case hr => kernel_rfl)); (apply n_append_st (ms := t.take kt) hA10; (case hi => rfl); (case hT => infer_instance); (case hsz => infer_instance); (case hz => infer_instance); (case hby => infer_instance); (case hg => rfl); (case hd => rfl); (case hx => rfl); (case ho => exact ho1); (case hL => (repeat (first | exact pm_nil _ | exact pm_refl _ _ | exact pm_self _ | apply pm_cons | apply pm_app))); (case hy => rfl); (case hm => first | rfl | simp); (case hzs => rfl); (case h0 => decide); (case hb => first | (simp; omega) | simp); (case h63 => first | (simp; omega) | simp); (case hsub => first | (intro _ _; exact List.nil_sublist _) | (intros; (repeat (first | exact List.Sublist.refl _ | exact List.Sublist.slnil | exact List.nil_sublist _ | exact List.sublist_append_left _ _ | apply List.Sublist.cons_cons | (apply List.Sublist.append; exact List.Sublist.refl _) | apply List.Sublist.cons | refine List.Sublist.trans ?_ (List.sublist_append_right _ _))))); intro v2' ob2 ho2; refine Wh.freezeOws ho2 (by repeat (first | exact pm_nil _ | exact pm_refl _ _ | exact pm_self _ | refine pm_cons ?_ | refine pm_app ?_)) (by repeat (first | exact List.Sublist.refl _ | exact List.Sublist.slnil | exact List.nil_sublist _ | exact List.sublist_append_left _ _ | refine List.Sublist.cons_cons _ ?_ | refine List.Sublist.append (List.Sublist.refl _) ?_ | refine List.Sublist.cons _ ?_ | refine List.Sublist.trans ?_ (List.sublist_append_right _ _))) fun S9 hle9 hr9 => ?_; obtain ⟨A11, c11, rfl, hc11, hA11⟩ := hr9); (apply h_one 9; (case hr => kernel_rfl)); (apply n_call; (case hi => rfl); (case i1 => infer_instance); (case hg => rfl); (case hd => rfl); (case ha => rfl); (case hc => exact MakeF gp A11 c11 _ (hG8.le hle9) hA11); (case hL => (repeat (first | exact pm_nil _ | exact pm_refl _ _ | exact pm_self _ | apply pm_cons | apply pm_app))); (case hsub => (intros; (repeat (first | exact List.Sublist.refl _ | exact List.Sublist.slnil | exact List.nil_sublist _ | exact List.sublist_append_left _ _ | apply List.Sublist.cons_cons | (apply List.Sublist.append; exact List.Sublist.refl _) | apply List.Sublist.cons | refine List.Sublist.trans ?_ (List.sublist_append_right _ _))))); rintro S10 _ _ hle10 ⟨rfl, Ar, nr, kr, r, rfl, hsr, hir, hG10⟩); refine Jf 10 ?_; refine Jf 11 ?_; refine Jf 12 ?_; (apply h_one 14; (case hr => kernel_rfl)); (refine Jn ?_; try intro _); refine Jf 15 ?_; (apply h_end; (case hr => kernel_rfl)); (apply q_then; exact q_cut ⟨hle9.trans hle10, _, Ar, nr, kr, r, hsr, hir, rfl, rfl⟩ (by repeat (first | exact Sub.nil rfl | exact Sub.marked rfl | refine Sub.cons rfl ?_)) (by repeat (first | exact List.Sublist.refl _ | exact List.Sublist.slnil | exact List.nil_sublist _ | exact List.sublist_append_left _ _ | refine List.Sublist.cons_cons _ ?_ | refine List.Sublist.append (List.Sublist.refl _) ?_ | refine List.Sublist.cons _ ?_ | refine List.Sublist.trans ?_ (List.sublist_append_right _ _)))))))); (case k2 => ((refine Jn ?_; try intro _); (apply h_one 0; (case hr => kernel_rfl)); (apply n_buildSlice; (case hi => rfl); (case hg => rfl); (case hd => rfl); (case i1 => infer_instance); (case i2 => infer_instance); (case i3 => infer_instance); (case hp => rfl); (case hq => rfl); (case hm => rfl); (case hv => rfl); (case hl => rfl); intro b0); (apply h_one 4; (case hr => kernel_rfl)); (apply n_append_st (ms := t.drop kt) hA9; (case hi => rfl); (case hT => infer_instance); (case hsz => infer_instance); (case hz => infer_instance); (case hby => infer_instance); (case hg => rfl); (case hd => rfl); (case hx => rfl); (case ho => exact Ows.full (α := Fa) (e := 27) (g := b0) (cs := []) (l := []) rfl (by decide)); (case hL => (repeat (first | exact pm_nil _ | exact pm_refl _ _ | exact pm_self _ | apply pm_cons | apply pm_app))); (case hy => rfl); (case hm => first | rfl | simp); (case hzs => rfl); (case h0 => decide); (case hb => first | (simp; omega) | simp); (case h63 => first | (simp; omega) | simp); (case hsub => first | (intro _ _; exact List.nil_sublist _) | (intros; (repeat (first | exact List.Sublist.refl _ | exact List.Sublist.slnil | exact List.nil_sublist _ | exact List.sublist_append_left _ _ | apply List.Sublist.cons_cons | (apply List.Sublist.append; exact List.Sublist.refl _) | apply List.Sublist.cons | refine List.Sublist.trans ?_ (List.sublist_append_right _ _))))); intro v1' ob1 ho1); (apply h_one 8; (case hr => kernel_rfl)); (apply n_append_st (ms := t.take kt) hA10; (case hi => rfl); (case hT => infer_instance); (case hsz => infer_instance); (case hz => infer_instance); (case hby => infer_instance); (case hg => rfl); (case hd => rfl); (case hx => rfl); (case ho => exact ho1); (case hL => (repeat (first | exact pm_nil _ | exact pm_refl _ _ | exact pm_self _ | apply pm_cons | apply pm_app))); (case hy => rfl); (case hm => first | rfl | simp); (case hzs => rfl); (case h0 => decide); (case hb => first | (simp; omega) | simp); (case h63 => first | (simp; omega) | simp); (case hsub => first | (intro _ _; exact List.nil_sublist _) | (intros; (repeat (first | exact List.Sublist.refl _ | exact List.Sublist.slnil | exact List.nil_sublist _ | exact List.sublist_append_left _ _ | apply List.Sublist.cons_cons | (apply List.Sublist.append; exact List.Sublist.refl _) | apply List.Sublist.cons | refine List.Sublist.trans ?_ (List.sublist_append_right _ _))))); intro v2' ob2 ho2; refine Wh.freezeOws ho2 (by repeat (first | exact pm_nil _ | exact pm_refl _ _ | exact pm_self _ | refine pm_cons ?_ | refine pm_app ?_)) (by repeat (first | exact List.Sublist.refl _ | exact List.Sublist.slnil | exact List.nil_sublist _ | exact List.sublist_append_left _ _ | refine List.Sublist.cons_cons _ ?_ | refine List.Sublist.append (List.Sublist.refl _) ?_ | refine List.Sublist.cons _ ?_ | refine List.Sublist.trans ?_ (List.sublist_append_right _ _))) fun S9 hle9 hr9 => ?_; obtain ⟨A11, c11, rfl, hc11, hA11⟩ := hr9); (apply h_one 9; (case hr => kernel_rfl)); (apply n_call; (case hi => rfl); (case i1 => infer_instance); (case hg => rfl); (case hd => rfl); (case ha => rfl); (case hc => exact MakeF gp A11 c11 _ (hG8.le hle9) hA11); (case hL => (repeat (first | exact pm_nil _ | exact pm_refl _ _ | exact pm_self _ | apply pm_cons | apply pm_app))); (case hsub => (intros; (repeat (first | exact List.Sublist.refl _ | exact List.Sublist.slnil | exact List.nil_sublist _ | exact List.sublist_append_left _ _ | apply List.Sublist.cons_cons | (apply List.Sublist.append; exact List.Sublist.refl _) | apply List.Sublist.cons | refine List.Sublist.trans ?_ (List.sublist_append_right _ _))))); rintro S10 _ _ hle10 ⟨rfl, Ar, nr, kr, r, rfl, hsr, hir, hG10⟩); refine Jf 10 ?_; refine Jf 11 ?_; refine Jf 12 ?_; (apply h_one 14; (case hr => kernel_rfl)); (refine Jn ?_; try intro _); refine Jf 15 ?_; (apply h_end; (case hr => kernel_rfl)); (apply q_then; exact q_cut ⟨hle9.trans hle10, _, Ar, nr, kr, r, hsr, hir, rfl, rfl⟩ (by repeat (first | exact Sub.nil rfl | exact Sub.marked rfl | refine Sub.cons rfl ?_)) (by repeat (first | exact List.Sublist.refl _ | exact List.Sublist.slnil | exact List.nil_sublist _ | exact List.sublist_append_left _ _ | refine List.Sublist.cons_cons _ ?_ | refine List.Sublist.append (List.Sublist.refl _) ?_ | refine List.Sublist.cons _ ?_ | refine List.Sublist.trans ?_ (List.sublist_append_right _ _)))))))
  rintro S9 L9 F9 ⟨hle9, bx, Ar, nr, kr, r, hsr, hir, rfl, rfl⟩
  have hG9 := hG8.le hle9
  have ha9 : SkV S9 (.agg [.slice Aa na ka].toArray) a := (hsa.le (((((hle5.trans hle6).trans hle7).trans hle8).trans hle9)))
  have hb9 : SkV S9 (.agg [.slice Ab nb kb].toArray) b := hsb.le (((hle6.trans hle7).trans hle8).trans hle9)
  have hc9 : SkV S9 (.agg [.slice Ac nc kc].toArray) c := hsc.le (hle8.trans hle9)
  have glm : Good (l ++ m) := .app hlf hmf (by omega)
  have gml : Good (m ++ l) := .app hmf hlf (by omega)
  have gmn : Good (m ++ nn) := .app hmf hnf (by omega)
  have gx : Good (l ++ m ++ nn) := .app glm.each hnf (by rw [List.length_append]; omega)
  have gy : Good (l ++ (m ++ nn)) := .app hlf gmn.each (by rw [List.length_append]; omega)
  have gz : Good (l ++ []) := .app hlf (fun x hx => absurd hx List.not_mem_nil) (by simp; omega)
  have g0 : Good [] := ⟨fun x hx => absurd hx List.not_mem_nil, by decide⟩
  (repeat (first | refine Jc ?_ | ((apply z_call; rfl; rfl; rfl; exact MergeF glm S9 hG9 ha9 hb9 hia hib; rintro T1 _ _ ht1 ⟨rfl, B1, n1, k1, s1, rfl, hs1, hi1, hT1⟩)) | refine Jo ?_ | intro _))
  (repeat (first | refine Jc ?_ | ((apply z_call; rfl; rfl; rfl; exact MergeF gml T1 hT1 (hb9.le ht1) (ha9.le ht1) hib hia; rintro T2 _ _ ht2 ⟨rfl, B2, n2, k2, s2, rfl, hs2, hi2, hT2⟩)) | refine Jo ?_ | intro _))
  (repeat (first | refine Jc ?_ | ((apply z_call; rfl; rfl; rfl; exact MergeF gmn T2 hT2 ((hb9.le ht1).le ht2) ((hc9.le ht1).le ht2) hib hic; rintro T3 _ _ ht3 ⟨rfl, B3, n3, k3, s3, rfl, hs3, hi3, hT3⟩)) | refine Jo ?_ | intro _))
  (repeat (first | refine Jc ?_ | ((apply z_call; rfl; rfl; rfl; exact MergeF gx T3 hT3 ((hs1.le ht2).le ht3) (((hc9.le ht1).le ht2).le ht3) hi1 hic; rintro T4 _ _ ht4 ⟨rfl, B4, n4, k4, s4, rfl, hs4, hi4, hT4⟩)) | refine Jo ?_ | intro _))
  (repeat (first | refine Jc ?_ | ((apply z_call; rfl; rfl; rfl; exact MergeF gy T4 hT4 ((((ha9.le ht1).le ht2).le ht3).le ht4) (hs3.le ht4) hia hi3; rintro T5 _ _ ht5 ⟨rfl, B5, n5, k5, s5, rfl, hs5, hi5, hT5⟩)) | refine Jo ?_ | intro _))
  (repeat (first | refine Jc ?_ | ((apply z_call; rfl; rfl; rfl; exact MakeF g0 none 0 T5 hT5 (At.nil _ _); rintro T6 _ _ ht6 ⟨rfl, B6, n6, k6, s6, rfl, hs6, hi6, hT6⟩)) | refine Jo ?_ | intro _))
  (repeat (first | refine Jc ?_ | ((apply z_call; rfl; rfl; rfl; exact MergeF gz T6 hT6 ((((((ha9.le ht1).le ht2).le ht3).le ht4).le ht5).le ht6) hs6 hia hi6; rintro T7 _ _ ht7 ⟨rfl, B7, n7, k7, s7, rfl, hs7, hi7, hT7⟩)) | refine Jo ?_ | intro _))
  have q1 : r = s1 := hir.unique hi1 (by rw [hlm2]; exact List.perm_append_comm.trans (List.Perm.of_eq (List.take_append_drop kt t)))
  have q2 : s1 = s2 := hi1.unique hi2 List.perm_append_comm
  have q3 : s4 = s5 := hi4.unique hi5 (List.Perm.of_eq (List.append_assoc _ _ _))
  have q4 : s7 = a := hi7.unique hia (List.Perm.of_eq (List.append_nil _))
  have w1 := Same_con T7 (hsr.le ((((((ht1.trans ht2).trans ht3).trans ht4).trans ht5).trans ht6).trans ht7)) (hs1.le (((((ht2.trans ht3).trans ht4).trans ht5).trans ht6).trans ht7))
  have w2 := Same_con T7 (hs1.le (((((ht2.trans ht3).trans ht4).trans ht5).trans ht6).trans ht7)) (hs2.le ((((ht3.trans ht4).trans ht5).trans ht6).trans ht7))
  have w3 := Same_con T7 (hs4.le ((ht5.trans ht6).trans ht7)) (hs5.le (ht6.trans ht7))
  have w4 := Same_con T7 hs7 (ha9.le ((((((ht1.trans ht2).trans ht3).trans ht4).trans ht5).trans ht6).trans ht7))
  rw [bP_t q1] at w1
  rw [bP_t q2] at w2
  rw [bP_t q3] at w3
  rw [bP_t q4] at w4
  (repeat (first | refine Jc ?_ | ((apply z_call; rfl; rfl; rfl; exact w1; rintro _ _ _ - ⟨rfl, rfl, rfl⟩)) | ((apply z_call; rfl; rfl; rfl; exact w2; rintro _ _ _ - ⟨rfl, rfl, rfl⟩)) | ((apply z_call; rfl; rfl; rfl; exact w3; rintro _ _ _ - ⟨rfl, rfl, rfl⟩)) | ((apply z_call; rfl; rfl; rfl; exact w4; rintro _ _ _ - ⟨rfl, rfl, rfl⟩)) | refine Jo ?_ | intro _))
  exact o_ret (L' := []) Tryd.results4 rfl (List.nil_sublist _) rfl
end Go.Proofs.YtogfficbloejcaaDoor
namespace Go.Proofs.YtogfficbloejcaaDoor
open Go Go.X
set_option maxRecDepth 10000
set_option linter.unusedVariables false
attribute [local irreducible] Code.wpIn wpListIn Exit.then Exit.inBlock X.Out X.Back X.W X.Ev X.Con X.BinV X.Wh X.Wn X.Wq
theorem own_perm (l : List Fa) (who : Int) : l.Perm (l.filter (fun x => x.pe == who) ++ l.filter (fun x => !(x.pe == who))) := (List.filter_append_perm _ l).symm
theorem fkey_len (x : Fa) : (fkey x).length = 4 := rfl
theorem IsSk.ne_nil {s : List PC} {L : List Fa} (h : IsSk s L) (hne : L ≠ []) : s ≠ [] := by
  obtain ⟨x, L', rfl⟩ := List.exists_cons_of_ne_nil hne
  intro e
  subst e
  have := (h.mem (mkPC (fkey x) (vecOf (x :: L') (fkey x)))).2 (by
    rw [mkPC_key (fkey_len x)]
    exact ⟨⟨x, List.mem_cons_self, rfl⟩, rfl⟩)
  exact absurd this List.not_mem_nil
theorem SkV.len {S : SH} {A : Option Addr} {n c : Nat} {l : List PC} (h : SkV S (.agg [.slice A n c].toArray) l) : n = l.length := by
  obtain ⟨A', c', cs, e, _, _, _, hm⟩ := h
  rw [← hm, List.length_map]
  injection e with e
  have e2 := congrArg Array.toList e
  simp at e2
  exact e2.2.1
set_option maxHeartbeats 3200000 in
theorem f5_law (xs : List K4) (A : Option Addr) (ca : Nat) (ys : List K4) (B : Option Addr) (cb : Nat) (person : Int) (S : SH) (hG : Gl S) (hA : At S A xs) (lx : xs.length ≤ ca) (hx : ∀ x ∈ xs, K4ok x) (hB : At S B ys) (ly : ys.length ≤ cb) (hy : ∀ x ∈ ys, K4ok x) (ht : i64 person) :
    Con Tryd.prog 5 #[.slice A xs.length ca, .slice B ys.length cb, .int .i64 person] S [] (fun _ _ v => v = .bool true) := by
  refine con_of (args := [.slice A xs.length ca, .slice B ys.length cb, .int .i64 person]) Tryd.func5 rfl Tryd.ntmps5 rfl fun w => ?_
  (repeat (first | refine Jc ?_ | ((apply z_call; rfl; rfl; rfl; exact sane_con S hG; rintro S1 _ _ hle1 ⟨rfl, rfl⟩)) | refine Jo ?_ | intro _))
  (repeat (first | refine Jc ?_ | ((apply z_call; rfl; rfl; rfl; exact MadeFacts_con xs A ca S1 (hA.le hle1) hx; rintro S2 _ _ hle2 ⟨rfl, Al, cl, l, rfl, hAl, hcl, hll, hlf⟩)) | refine Jo ?_ | intro _))
  have gl : Good l := .of hlf (by omega)
  (repeat (first | refine Jc ?_ | ((apply z_call; rfl; rfl; rfl; exact MakeF gl Al cl S2 (hG.le (hle1.trans hle2)) hAl; rintro S3 _ _ hle3 ⟨rfl, Aa, na, ka, a, rfl, hsa, hia, hG3⟩)) | refine Jo ?_ | intro _))
  (repeat (first | refine Jc ?_ | ((apply z_call; rfl; rfl; rfl; exact MadeFacts_con ys B cb S3 (hB.le ((hle1.trans hle2).trans hle3)) hy; rintro S4 _ _ hle4 ⟨rfl, Am, cm, m, rfl, hAm, hcm, hlm, hmf⟩)) | refine Jo ?_ | intro _))
  have gm : Good m := .of hmf (by omega)
  (repeat (first | refine Jc ?_ | ((apply z_call; rfl; rfl; rfl; exact MakeF gm Am cm S4 (hG3.le hle4) hAm; rintro S5 _ _ hle5 ⟨rfl, Ab, nb, kb, b, rfl, hsb, hib, hG5⟩)) | refine Jo ?_ | intro _))
  have glm : Good (l ++ m) := .app hlf hmf (by omega)
  have ha5 := (hsa.le hle4).le hle5
  (repeat (first | refine Jc ?_ | ((apply z_call; rfl; rfl; rfl; exact MergeF glm S5 hG5 ha5 hsb hia hib; rintro S6 _ _ hle6 ⟨rfl, Ad, nd, kd, d, rfl, hsd, hid, hG6⟩)) | refine Jo ?_ | intro _))
  (repeat (first | refine Jc ?_ | ((apply z_call; rfl; rfl; rfl; exact SubF glm List.perm_append_comm S6 hG6 hsd (hsb.le hle6) hid hib; rintro S7 _ _ hle7 ⟨rfl, Ae, ne, ke, e, rfl, hse, hie, hG7⟩)) | refine Jo ?_ | intro _))
  have hwho := pickI_bd person 6 (by decide)
  have hpk := lpick_con person 6 S7 ht (by decide)
  generalize hwv : pickI person 6 = who at *
  have hAl7 : At S7 Al l := ((((hAl.le hle3).le hle4).le hle5).le hle6).le hle7
  (repeat (first | refine Jc ?_ | ((apply z_call; rfl; rfl; rfl; exact hpk; rintro _ _ _ - ⟨rfl, rfl, rfl⟩)) | refine Jo ?_ | intro _))
  rename_i b1 b2 b3 b4
  refine c_loop (fun q S' L F => S' = S7 ∧ ∃ (i : Nat) (vo : Value) (oo : Blocks) (vt : Value) (ot : Blocks), q = l.length - i ∧ i ≤ l.length ∧ Ows 27 vo ((l.take i).filter fun x => x.pe == who - 1) oo ∧ Ows 27 vt ((l.take i).filter fun x => !(x.pe == who - 1)) ot ∧
      L = oo ++ (ot ++ [(b4, .cells [.slice Ae ne ke].toArray 24 (0, 0)), (b3, .cells [.slice Ad nd kd].toArray 24 (0, 0)), (b2, .cells [.slice Ab nb kb].toArray 24 (0, 0)), (b1, .cells [.slice Aa na ka].toArray 24 (0, 0))]) ∧
      F = [(20, .int .i64 i), (19, .int .i64 (who - 1)), (18, vt), (17, vo), (16, .int .i64 0), (15, .pointer (some ⟨b4, 0, none⟩)), (14, .int .i64 0), (13, .pointer (some ⟨b3, 0, none⟩)), (12, .int .i64 0), (11, .pointer (some ⟨b2, 0, none⟩)), (10, .int .i64 0), (9, .pointer (some ⟨b1, 0, none⟩)), (8, .slice Al l.length cl), (7, .bool true), (6, .bool false)])
    ⟨rfl, 0, _, [], _, [], rfl, by omega, Ows.nil 27, Ows.nil 27, rfl, rfl⟩ (by repeat (first | exact Sub.nil rfl | exact Sub.marked rfl | refine Sub.cons rfl ?_)) (by repeat (first | exact List.Sublist.refl _ | exact List.Sublist.slnil | exact List.nil_sublist _ | exact List.sublist_append_left _ _ | refine List.Sublist.cons_cons _ ?_ | refine List.Sublist.append (List.Sublist.refl _) ?_ | refine List.Sublist.cons _ ?_ | refine List.Sublist.trans ?_ (List.sublist_append_right _ _))) ?_
  rintro q S' L F ⟨rfl, i, vo, oo, vt, ot, rfl, hi, hoo, hot, rfl, rfl⟩
  by_cases hlt : i < l.length
  · obtain ⟨x, hx⟩ := at_lt' hlt
    have htk : l.take (i + 1) = l.take i ++ [x] := by rw [List.take_add_one, hx]; rfl
    have h1l : ((l.take i).filter fun x => x.pe == who - 1).length ≤ 40 := Nat.le_trans (List.length_filter_le _ _) (by rw [List.length_take]; omega)
    have h2l : ((l.take i).filter fun x => !(x.pe == who - 1)).length ≤ 40 := Nat.le_trans (List.length_filter_le _ _) (by rw [List.length_take]; omega)
    by_cases hp : x.pe = who - 1
    · have e1 : (l.take (i + 1)).filter (fun x => x.pe == who - 1) = (l.take i).filter (fun x => x.pe == who - 1) ++ [x] := by rw [htk, List.filter_append, List.filter_cons_of_pos (by simpa using hp)]; rfl
      have e2 : (l.take (i + 1)).filter (fun x => !(x.pe == who - 1)) = (l.take i).filter (fun x => !(x.pe == who - 1)) := by rw [htk, List.filter_append, List.filter_cons_of_neg (by simpa using hp)]; simp
      (repeat (first | refine Jc ?_ | (apply s_idx hAl7; (case hg => rfl); (case hd => rfl); (case hx => rfl); (case hi => rfl); (case hm => rfl); (case hu => exact hx); intro p (hp2 : Pts _ p x.vals)) | (apply s_load_f; (case hg => rfl); (case hd => rfl); (case hx => rfl); (case h => exact hp2); (case hv => rfl)) | (apply s_load_ag; (case hg => rfl); (case hd => rfl); (case hx => rfl); (case hv => exact hp2); (case hl => rfl)) | (apply s_append (ms := [x]); (case hg => rfl); (case hd => rfl); (case hx => rfl); (case ho => exact hoo); (case hL => (repeat (first | exact pm_nil _ | exact pm_refl _ _ | exact pm_self _ | apply pm_cons | apply pm_app))); (case hy => rfl); (case hm => rfl); (case hs => (apply Src.own; (repeat (first | exact List.Mem.head _ | apply List.Mem.tail | apply List.mem_append_right)))); (case hzs => rfl); (case h0 => decide); (case hb => (simp; omega)); (case h63 => (simp; omega)); intro v' ob' ho') | refine Jo ?_ | intro _))
      exact q_back (m' := l.length - (i + 1)) ⟨rfl, i + 1, v', ob', vt, ot, rfl, by omega, by rw [e1]; exact ho', by rw [e2]; exact hot, rfl, rfl⟩ (by omega) (by repeat (first | exact Sub.nil rfl | exact Sub.marked rfl | refine Sub.cons rfl ?_)) (by repeat (first | exact List.Sublist.refl _ | exact List.Sublist.slnil | exact List.nil_sublist _ | exact List.sublist_append_left _ _ | refine List.Sublist.cons_cons _ ?_ | refine List.Sublist.append (List.Sublist.refl _) ?_ | refine List.Sublist.cons _ ?_ | refine List.Sublist.trans ?_ (List.sublist_append_right _ _)))
    · have e1 : (l.take (i + 1)).filter (fun x => x.pe == who - 1) = (l.take i).filter (fun x => x.pe == who - 1) := by rw [htk, List.filter_append, List.filter_cons_of_neg (by simpa using hp)]; simp
      have e2 : (l.take (i + 1)).filter (fun x => !(x.pe == who - 1)) = (l.take i).filter (fun x => !(x.pe == who - 1)) ++ [x] := by rw [htk, List.filter_append, List.filter_cons_of_pos (by simpa using hp)]; rfl
      (repeat (first | refine Jc ?_ | (apply s_idx hAl7; (case hg => rfl); (case hd => rfl); (case hx => rfl); (case hi => rfl); (case hm => rfl); (case hu => exact hx); intro p (hp2 : Pts _ p x.vals)) | (apply s_load_f; (case hg => rfl); (case hd => rfl); (case hx => rfl); (case h => exact hp2); (case hv => rfl)) | (apply s_load_ag; (case hg => rfl); (case hd => rfl); (case hx => rfl); (case hv => exact hp2); (case hl => rfl)) | (apply s_append (ms := [x]); (case hg => rfl); (case hd => rfl); (case hx => rfl); (case ho => exact hot); (case hL => (repeat (first | exact pm_nil _ | exact pm_refl _ _ | exact pm_self _ | apply pm_cons | apply pm_app))); (case hy => rfl); (case hm => rfl); (case hs => (apply Src.own; (repeat (first | exact List.Mem.head _ | apply List.Mem.tail | apply List.mem_append_right)))); (case hzs => rfl); (case h0 => decide); (case hb => (simp; omega)); (case h63 => (simp; omega)); intro v' ob' ho') | refine Jo ?_ | intro _))
      rename_i bz
      refine W.perm (L' := oo ++ (ob' ++ ((bz, _) :: [(b4, .cells [.slice Ae ne ke].toArray 24 (0, 0)), (b3, .cells [.slice Ad nd kd].toArray 24 (0, 0)), (b2, .cells [.slice Ab nb kb].toArray 24 (0, 0)), (b1, .cells [.slice Aa na ka].toArray 24 (0, 0))]))) ?_ (by repeat (first | exact pm_nil _ | exact pm_refl _ _ | exact pm_self _ | refine pm_cons ?_ | refine pm_app ?_))
      exact q_back (m' := l.length - (i + 1)) ⟨rfl, i + 1, vo, oo, v', ob', rfl, by omega, by rw [e1]; exact hoo, by rw [e2]; exact ho', rfl, rfl⟩ (by omega) (by repeat (first | exact Sub.nil rfl | exact Sub.marked rfl | refine Sub.cons rfl ?_)) (by repeat (first | exact List.Sublist.refl _ | exact List.Sublist.slnil | exact List.nil_sublist _ | exact List.sublist_append_left _ _ | refine List.Sublist.cons_cons _ ?_ | refine List.Sublist.append (List.Sublist.refl _) ?_ | refine List.Sublist.cons _ ?_ | refine List.Sublist.trans ?_ (List.sublist_append_right _ _)))
  rw [List.take_of_length_le (by omega)] at hoo hot
  refine W.freezeOws hoo (List.Perm.refl _) fun S8 hle8 hr8 => ?_
  refine W.freezeOws hot (List.Perm.refl _) fun S9 hle9 hr9 => ?_
  obtain ⟨A8, c8, rfl, hc8, hA8⟩ := hr8
  obtain ⟨A9, c9, rfl, hc9, hA9⟩ := hr9
  have hpm := own_perm l (who - 1)
  generalize hown : (l.filter fun x => x.pe == who - 1) = own at *
  generalize hoth : (l.filter fun x => !(x.pe == who - 1)) = oth at *
  have gown : Good own := gl.sub (fun x hx => hpm.mem_iff.2 (List.mem_append_left _ hx)) (by have := hpm.length_eq; rw [List.length_append] at this; omega)
  have goth : Good oth := gl.sub (fun x hx => hpm.mem_iff.2 (List.mem_append_right _ hx)) (by have := hpm.length_eq; rw [List.length_append] at this; omega)
  have hG9 := (hG7.le hle8).le hle9
  (repeat (first | refine Jc ?_ | ((apply z_call; rfl; rfl; rfl; exact MakeF gown A8 c8 S9 hG9 (hA8.le hle9); rintro T1 _ _ ht1 ⟨rfl, B1, n1, k1, s1, rfl, hs1, hi1, hT1⟩)) | refine Jo ?_ | intro _))
  (repeat (first | refine Jc ?_ | ((apply z_call; rfl; rfl; rfl; exact MakeF goth A9 c9 T1 hT1 (hA9.le ht1); rintro T2 _ _ ht2 ⟨rfl, B2, n2, k2, s2, rfl, hs2, hi2, hT2⟩)) | refine Jo ?_ | intro _))
  have ha9 : SkV T2 (.agg [.slice Aa na ka].toArray) a := (((((ha5.le hle6).le hle7).le hle8).le hle9).le ht1).le ht2
  have hb9 : SkV T2 (.agg [.slice Ab nb kb].toArray) b := (((((hsb.le hle6).le hle7).le hle8).le hle9).le ht1).le ht2
  have hd9 : SkV T2 (.agg [.slice Ad nd kd].toArray) d := ((((hsd.le hle7).le hle8).le hle9).le ht1).le ht2
  have he9 : SkV T2 (.agg [.slice Ae ne ke].toArray) e := (((hse.le hle8).le hle9).le ht1).le ht2
  have pm2 : (l ++ m).Perm (own ++ (oth ++ m)) := by rw [← List.append_assoc]; exact hpm.append_right m
  have goy : Good (oth ++ m) := glm.sub (fun x hx => pm2.mem_iff.2 (List.mem_append_right _ hx)) (by have := pm2.length_eq; simp only [List.length_append] at this ⊢; omega)
  (repeat (first | refine Jc ?_ | ((apply z_call; rfl; rfl; rfl; exact SubF gl hpm T2 hT2 ha9 (hs1.le ht2) hia hi1; rintro T3 _ _ ht3 ⟨rfl, B3, n3, k3, s3, rfl, hs3, hi3, hT3⟩)) | refine Jo ?_ | intro _))
  (repeat (first | refine Jc ?_ | ((apply z_call; rfl; rfl; rfl; exact SubF glm pm2 T3 hT3 (hd9.le ht3) ((hs1.le ht2).le ht3) hid hi1; rintro T4 _ _ ht4 ⟨rfl, B4, n4, k4, s4, rfl, hs4, hi4, hT4⟩)) | refine Jo ?_ | intro _))
  (repeat (first | refine Jc ?_ | ((apply z_call; rfl; rfl; rfl; exact SubF goy (List.Perm.refl _) T4 hT4 hs4 ((hs2.le ht3).le ht4) hi4 hi2; rintro T5 _ _ ht5 ⟨rfl, B5, n5, k5, s5, rfl, hs5, hi5, hT5⟩)) | refine Jo ?_ | intro _))
  have q1 : e = a := hie.unique hia (List.Perm.refl _)
  have q2 : s3 = s2 := hi3.unique hi2 (List.Perm.refl _)
  have q3 : s5 = b := hi5.unique hib (List.Perm.refl _)
  have w1 := Same_con T5 (((he9.le ht3).le ht4).le ht5) (((ha9.le ht3).le ht4).le ht5)
  have w2 := Same_con T5 ((hs3.le ht4).le ht5) (((hs2.le ht3).le ht4).le ht5)
  have w3 := Same_con T5 hs5 (((hb9.le ht3).le ht4).le ht5)
  rw [bP_t q1] at w1
  rw [bP_t q2] at w2
  rw [bP_t q3] at w3
  (repeat (first | refine Jc ?_ | ((apply z_call; rfl; rfl; rfl; exact w1; rintro _ _ _ - ⟨rfl, rfl, rfl⟩)) | ((apply z_call; rfl; rfl; rfl; exact w2; rintro _ _ _ - ⟨rfl, rfl, rfl⟩)) | ((apply z_call; rfl; rfl; rfl; exact w3; rintro _ _ _ - ⟨rfl, rfl, rfl⟩)) | refine Jo ?_ | intro _))
  have hnb := hb9.len
  have ha10 := ((ha9.le ht3).le ht4).le ht5
  have hd10 := ((hd9.le ht3).le ht4).le ht5
  by_cases hm0 : m = []
  · subst hm0
    have hbn : b = [] := hib.empty
    subst hbn
    have hnb : nb = 0 := hnb
    subst hnb
    (repeat (first | refine Jc ?_ | ((apply z_call; rfl; rfl; rfl; exact SubF (N := []) gl (List.Perm.of_eq (by simp)) T5 hT5 ha10 hd10 hia hid; rintro T6 _ _ ht6 ⟨rfl, B6, n6, k6, s6, rfl, hs6, hi6, hT6⟩)) | refine Jo ?_ | intro _))
    exact o_ret (L' := []) Tryd.results5 rfl (List.nil_sublist _) rfl
  · have hbn : 0 < b.length := List.length_pos_iff.2 (hib.ne_nil hm0)
    (repeat (first | refine Jc ?_ | ((apply z_call; rfl; rfl; rfl; exact SubBadF glm hm0 T5 hT5 ha10 hd10 hia hid; rintro T6 _ _ ht6 ⟨rfl, B6, n6, k6, rfl⟩)) | refine Jo ?_ | intro _))
    exact o_ret (L' := []) Tryd.results5 rfl (List.nil_sublist _) rfl
end Go.Proofs.YtogfficbloejcaaDoor
namespace Go.Proofs.YtogfficbloejcaaDoor
open Go Go.X
set_option maxRecDepth 10000
set_option linter.unusedVariables false
attribute [local irreducible] Code.wpIn wpListIn Exit.then Exit.inBlock X.Out X.Back X.W X.Ev X.Con X.BinV X.Wh X.Wn X.Wq
/-- The fact with its key laid to zero: the total of a sketch is the cell of all facts, so laid. -/
def zk (x : Fa) : Fa := ⟨0, x.sp, 0, 0, 0, x.pe, 0, x.lo, x.hi, x.by_⟩
def Z : List Int := [0, 0, 0, 0]
theorem fact_zk {x : Fa} (h : FactP x) : FactP (zk x) := ⟨by simp [zk], h.sp1, by simp [zk], by simp [zk], by simp [zk], h.pe1, by simp [zk], h.lo1, h.hi1, h.by1⟩
theorem sumF_z {φ : Fa → Int} (hφ : ∀ x, φ (zk x) = φ x) (L : List Fa) : sumF (L.map zk) Z φ = (L.map φ).sum := by
  unfold sumF
  rw [List.filter_eq_self.2 (by
    intro x hx
    obtain ⟨y, _, rfl⟩ := List.mem_map.1 hx
    rfl), List.map_map]
  congr 1
  exact List.map_congr_left fun x _ => hφ x
theorem sumF_part {φ : Fa → Int} (hφ : ∀ x, φ (zk x) = φ x) (L : List Fa) (k : List Int) : sumF L k φ = sumF ((L.filter fun x => fkey x == k).map zk) Z φ := by
  rw [sumF_z hφ]; rfl
theorem vec_part (L : List Fa) (k : List Int) : vecOf L k = vecOf ((L.filter fun x => fkey x == k).map zk) Z := by
  unfold vecOf rowF
  rw [sumF_part (φ := fun _ => 1) (fun _ => rfl) L k, sumF_part (φ := (·.lo)) (fun _ => rfl) L k, sumF_part (φ := (·.hi)) (fun _ => rfl) L k, sumF_part (φ := (·.by_)) (fun _ => rfl) L k]
  congr 1
  · exact List.map_congr_left fun i _ => sumF_part (φ := uF bLo i) (fun _ => rfl) L k
  · exact List.map_congr_left fun i _ => sumF_part (φ := uF bHi i) (fun _ => rfl) L k
def flat (L : List Fa) (K : List (List Int)) : List Fa := K.flatMap fun k => (L.filter fun x => fkey x == k).map zk
theorem filt_cons (k : List Int) (K : List (List Int)) (hk : k ∉ K) : ∀ L : List Fa, (L.filter fun x => decide (fkey x ∈ k :: K)).Perm ((L.filter fun x => fkey x == k) ++ L.filter fun x => decide (fkey x ∈ K))
  | [] => List.Perm.refl _
  | x :: L => by
    have ih := filt_cons k K hk L
    by_cases h1 : fkey x = k
    · have h2 : fkey x ∉ K := by rw [h1]; exact hk
      rw [List.filter_cons_of_pos (by simp [h1]), List.filter_cons_of_pos (by simp [h1]), List.filter_cons_of_neg (by simpa using h2)]
      exact ih.cons x
    · by_cases h2 : fkey x ∈ K
      · rw [List.filter_cons_of_pos (by simp [h2]), List.filter_cons_of_neg (by simpa using h1), List.filter_cons_of_pos (by simpa using h2)]
        exact (ih.cons x).trans List.perm_middle.symm
      · rw [List.filter_cons_of_neg (by simp [h1, h2]), List.filter_cons_of_neg (by simpa using h1), List.filter_cons_of_neg (by simpa using h2)]
        exact ih
theorem flat_perm (L : List Fa) : ∀ K : List (List Int), K.Nodup → (flat L K).Perm ((L.filter fun x => decide (fkey x ∈ K)).map zk)
  | [], _ => by simp [flat]
  | k :: K, h => by
    obtain ⟨h1, h2⟩ := List.nodup_cons.1 h
    have ih := flat_perm L K h2
    show ((L.filter fun x => fkey x == k).map zk ++ flat L K).Perm _
    refine (List.Perm.append_left _ ih).trans ?_
    rw [← List.map_append]
    exact ((filt_cons k K h1 L).map zk).symm
theorem fold_total (L : List Fa) : ∀ (s : List PC) (M : List Fa), (∀ c ∈ s, c.x = vecOf L c.key) → Good (M ++ flat L (s.map PC.key)) → s.foldl (fun x c => vop plusW x c.x) (vecOf M Z) = vecOf (M ++ flat L (s.map PC.key)) Z
  | [], M, _, _ => by simp [flat]
  | c :: s, M, h, hg => by
    have e : flat L ((c :: s).map PC.key) = (L.filter fun x => fkey x == c.key).map zk ++ flat L (s.map PC.key) := rfl
    rw [e] at hg ⊢
    rw [← List.append_assoc] at hg ⊢
    have g1 : Good (M ++ (L.filter fun x => fkey x == c.key).map zk) := hg.sub (fun x hx => List.mem_append_left _ hx) (by rw [List.length_append (bs := flat L (s.map PC.key))]; omega)
    have g2 : Good M := g1.sub (fun x hx => List.mem_append_left _ hx) (by rw [List.length_append]; omega)
    have g3 : Good ((L.filter fun x => fkey x == c.key).map zk) := g1.sub (fun x hx => List.mem_append_right _ hx) (by rw [List.length_append]; omega)
    rw [List.foldl_cons, h c List.mem_cons_self, vec_part L c.key, vop_plus g2 g3]
    exact fold_total L s _ (fun d hd => h d (List.mem_cons_of_mem _ hd)) hg
theorem good_zk {L : List Fa} (h : Good L) : Good (L.map zk) := ⟨fun x hx => by
  obtain ⟨y, hy, rfl⟩ := List.mem_map.1 hx
  exact fact_zk (h.each y hy), by rw [List.length_map]; exact h.len⟩
/-- The cells of a sketch together are the cell of all facts. -/
theorem sumV_sk {s : List PC} {L : List Fa} (h : IsSk s L) (hL : Good L) (hne : L ≠ []) : sumV s = vecOf (L.map zk) Z := by
  have hp : (flat L (s.map PC.key)).Perm (L.map zk) := by
    refine (flat_perm L _ (pairwise_nodup h.asc)).trans (List.Perm.of_eq ?_)
    rw [List.filter_eq_self.2]
    intro x hx
    have := (h.mem (mkPC (fkey x) (vecOf L (fkey x)))).2 (by rw [mkPC_key (fkey_len x)]; exact ⟨⟨x, hx, rfl⟩, rfl⟩)
    exact decide_eq_true (List.mem_map.2 ⟨_, this, mkPC_key (fkey_len x)⟩)
  have hg : Good (flat L (s.map PC.key)) := (good_zk hL).perm hp.symm
  have hsn := h.ne_nil hne
  obtain ⟨c, s', rfl⟩ := List.exists_cons_of_ne_nil hsn
  have e : flat L ((c :: s').map PC.key) = (L.filter fun x => fkey x == c.key).map zk ++ flat L (s'.map PC.key) := rfl
  have hm : ∀ d ∈ c :: s', d.x = vecOf L d.key := fun d hd => ((h.mem d).1 hd).2
  rw [e] at hg hp
  have g1 : Good ((L.filter fun x => fkey x == c.key).map zk) := hg.sub (fun x hx => List.mem_append_left _ hx) (by rw [List.length_append]; omega)
  rw [← vecOf_perm hp Z]
  show (s'.foldl (fun x c => vop plusW x c.x) (vop plusW zeroV c.x)) = _
  rw [hm c List.mem_cons_self, vec_part L c.key, vop_zero g1]
  exact fold_total L s' _ (fun d hd => hm d (List.mem_cons_of_mem _ hd)) hg
theorem sum_ones (L : List Fa) : (L.map fun _ => (1 : Int)).sum = L.length := by
  induction L with
  | nil => rfl
  | cons x L ih => rw [List.map_cons, List.sum_cons, ih, List.length_cons]; omega
def cnt (L : List Fa) (b : Fa → Int) (i : Nat) : Int := (L.map (uF b i)).sum
theorem vec_total (L : List Fa) : vecOf (L.map zk) Z = ⟨L.length, (L.map (·.lo)).sum, (L.map (·.hi)).sum, (L.map (·.by_)).sum, (List.range 44).map (cnt L bLo), (List.range 44).map (cnt L bHi)⟩ := by
  unfold vecOf rowF
  rw [sumF_z (φ := fun _ => 1) (fun _ => rfl), sumF_z (φ := (·.lo)) (fun _ => rfl), sumF_z (φ := (·.hi)) (fun _ => rfl), sumF_z (φ := (·.by_)) (fun _ => rfl), sum_ones]
  congr 1
  · exact List.map_congr_left fun i _ => sumF_z (φ := uF bLo i) (fun _ => rfl) L
  · exact List.map_congr_left fun i _ => sumF_z (φ := uF bHi i) (fun _ => rfl) L
theorem total_sk {s : List PC} {L : List Fa} {c : PC} {e : Int} (h : IsSk s L) (hL : Good L) (hne : L ≠ []) (ht : TotalP s c e) : c = ⟨0, 0, 0, 0, ⟨L.length, (L.map (·.lo)).sum, (L.map (·.hi)).sum, (L.map (·.by_)).sum, (List.range 44).map (cnt L bLo), (List.range 44).map (cnt L bHi)⟩⟩ ∧ e = 0 := by
  have hv := sumV_sk h hL hne
  obtain ⟨x, L', rfl⟩ := List.exists_cons_of_ne_nil hne
  have hc : CellP (sumV s) := by
    rw [hv]
    exact cell_vec (by rw [List.length_map]; have := hL.len; omega) (good_zk hL).each ⟨zk x, List.mem_map.2 ⟨x, List.mem_cons_self, rfl⟩, rfl⟩
  rcases ht with ⟨_, _, _, h1, h2⟩ | ⟨h0, _⟩
  · rw [hv, vec_total] at h1; exact ⟨h1, h2⟩
  · exact absurd ⟨.inr (Nat.le_trans h.len hL.len), (h.valid hL.each hL.len).each, hc⟩ h0
theorem sum_bd {φ : Fa → Int} {B : Int} : ∀ {L : List Fa}, (∀ x ∈ L, 0 ≤ φ x ∧ φ x ≤ B) → 0 ≤ (L.map φ).sum ∧ (L.map φ).sum ≤ L.length * B
  | [], _ => by simp
  | x :: L, h => by
    obtain ⟨i1, i2⟩ := sum_bd (L := L) fun y hy => h y (List.mem_cons_of_mem _ hy)
    obtain ⟨h1, h2⟩ := h x List.mem_cons_self
    rw [List.map_cons, List.sum_cons, List.length_cons]
    have e : ((L.length + 1 : Nat) : Int) * B = L.length * B + B := by rw [Int.natCast_add, Int.add_mul]; simp
    omega
theorem edge_step : ∀ k : Nat, k < 43 → eHi k < eLo (k + 1 : Nat) := by decide
theorem edge_lt (j : Nat) : ∀ m : Nat, j + m + 1 < 44 → eHi j < eLo (j + m + 1 : Nat)
  | 0, h => edge_step j (by omega)
  | m + 1, h => by
    have h1 := edge_lt j m (by omega)
    have h2 := edge_step (j + m + 1) (by omega)
    have h3 := (edges_bd (j + m + 1) (by omega)).2.1
    have e : j + (m + 1) + 1 = j + m + 1 + 1 := by omega
    rw [e]
    omega
/-- A number is between the edges of just its own bucket. -/
theorem edge_iff {d : Int} (h : 0 ≤ d ∧ d ≤ 4398046511104) (k : Nat) (hk : k < 44) : (eLo k ≤ d ∧ d ≤ eHi k) ↔ (k : Int) = bucket d := by
  obtain ⟨b1, b2, b3, b4⟩ := bucket_edges h
  obtain ⟨b, hb⟩ : ∃ b : Nat, bucket d = b := ⟨(bucket d).toNat, by omega⟩
  rw [hb] at b1 b2 b3 b4 ⊢
  constructor
  · rintro ⟨h1, h2⟩
    rcases Nat.lt_trichotomy k b with g | g | g
    · have := edge_lt k (b - k - 1) (by omega)
      rw [show k + (b - k - 1) + 1 = b by omega] at this
      omega
    · rw [g]
    · have := edge_lt b (k - b - 1) (by omega)
      rw [show b + (k - b - 1) + 1 = k by omega] at this
      omega
  · intro e
    have : k = b := by omega
    subst this
    exact ⟨b3, b4⟩
end Go.Proofs.YtogfficbloejcaaDoor
namespace Go.Proofs.YtogfficbloejcaaDoor
open Go Go.X
set_option maxRecDepth 10000
set_option linter.unusedVariables false
attribute [local irreducible] Code.wpIn wpListIn Exit.then Exit.inBlock X.Out X.Back X.W X.Ev X.Con X.BinV X.Wh X.Wn X.Wq
theorem sum_take {l : List Fa} {i : Nat} {x : Fa} (h : l[i]? = some x) (φ : Fa → Int) : ((l.take (i + 1)).map φ).sum = ((l.take i).map φ).sum + φ x := by
  rw [List.take_add_one, h]
  simp [List.sum_append]
theorem cnt_take {l : List Fa} {i : Nat} {x : Fa} (h : l[i]? = some x) (b : Fa → Int) (k : Nat) : cnt (l.take (i + 1)) b k = cnt (l.take i) b k + (if (k : Int) = b x then 1 else 0) := sum_take h _
theorem cnt_bd (l : List Fa) (b : Fa → Int) (k : Nat) : 0 ≤ cnt l b k ∧ cnt l b k ≤ l.length := by
  have := sum_bd (L := l) (φ := uF b k) (B := 1) (fun x _ => by unfold uF; split <;> omega)
  unfold cnt
  omega
set_option maxHeartbeats 3200000 in
theorem f7_law (xs : List K4) (A : Option Addr) (ca : Nat) (S : SH) (hG : Gl S) (hA : At S A xs) (lx : xs.length ≤ ca) (hx : ∀ x ∈ xs, K4ok x) :
    Con Tryd.prog 7 #[.slice A xs.length ca] S [] (fun _ _ v => v = .bool true) := by
  refine con_of (args := [.slice A xs.length ca]) Tryd.func7 rfl Tryd.ntmps7 rfl fun w => ?_
  (repeat (first | refine Jc ?_ | ((apply z_call; rfl; rfl; rfl; exact sane_con S hG; rintro S1 _ _ hle1 ⟨rfl, rfl⟩)) | refine Jo ?_ | intro _))
  (repeat (first | refine Jc ?_ | ((apply z_call; rfl; rfl; rfl; exact MadeFacts_con xs A ca S1 (hA.le hle1) hx; rintro S2 _ _ hle2 ⟨rfl, Al, cl, l, rfl, hAl, hcl, hll, hlf⟩)) | refine Jo ?_ | intro _))
  have gl : Good l := .of hlf (by omega)
  (repeat (first | refine Jc ?_ | ((apply z_call; rfl; rfl; rfl; exact MakeG_con gl Al cl S2 (hG.le (hle1.trans hle2)) hAl; rintro S3 _ _ hle3 ⟨rfl, _, s, rfl, ⟨As, c2, cs, rfl, hAs, hok, hlc, hm⟩, hia⟩)) | refine Jo ?_ | intro _))
  have hG3 := (hG.le (hle1.trans hle2)).le hle3
  (repeat (first | refine Jc ?_ | ((apply z_call; rfl; rfl; rfl; exact Total_con cs As c2 S3 hG3 hAs hok hlc; rintro S4 _ _ hle4 ⟨rfl, q7, e7, rfl, hq7, hT7⟩)) | refine Jo ?_ | intro _))
  rw [hm] at hT7
  by_cases hne : l = []
  · subst hne
    have hs := hia.empty
    subst hs
    have hcs := List.map_eq_nil_iff.1 hm
    subst hcs
    obtain ⟨_, rfl⟩ := total0 hT7
    (repeat (first | refine Jz ?_ | intro _))
    exact o_ret (L' := []) Tryd.results7 rfl (List.nil_sublist _) rfl
  obtain ⟨p7, la, lc, ha, hc⟩ := q7
  obtain ⟨e7a, rfl⟩ := total_sk hia gl hne hT7
  dsimp only at e7a
  subst e7a
  have hpos : 0 < l.length := List.length_pos_iff.2 hne
  have hAl4 : At S4 Al l := (hAl.le hle3).le hle4
  (repeat (first | refine Jz ?_ | intro _))
  rw [show decide ((0 : Int) < (l.length : Int)) = true from decide_eq_true (by omega)]
  (repeat (first | refine Jz ?_ | intro _))
  rename_i b1 b2
  have hbd : ∀ i, 0 ≤ ((l.take i).map (·.lo)).sum ∧ ((l.take i).map (·.lo)).sum ≤ 40 * 4398046511104 ∧ 0 ≤ ((l.take i).map (·.hi)).sum ∧ ((l.take i).map (·.hi)).sum ≤ 40 * 4398046511104 ∧ 0 ≤ ((l.take i).map (·.by_)).sum ∧ ((l.take i).map (·.by_)).sum ≤ 40 * 4398046511104 := fun i => by
    have hl : (l.take i).length ≤ 40 := by rw [List.length_take]; omega
    have h1 := sum_bd (L := l.take i) (φ := (·.lo)) (B := 4398046511104) (fun x hx => fact_lo (hlf x (List.mem_of_mem_take hx)))
    have h2 := sum_bd (L := l.take i) (φ := (·.hi)) (B := 4398046511104) (fun x hx => fact_hi (hlf x (List.mem_of_mem_take hx)))
    have h3 := sum_bd (L := l.take i) (φ := (·.by_)) (B := 4398046511104) (fun x hx => by have := (hlf x (List.mem_of_mem_take hx)).by1; omega)
    omega
  refine c_loop (fun q S' L F => S' = S4 ∧ ∃ (i : Nat), q = l.length - i ∧ i ≤ l.length ∧
      L = [(b2, .cells [.int .i64 0, .int .i64 0, .int .i64 0, .int .i64 0, .int .i64 l.length, .int .i64 (l.map (·.lo)).sum, .int .i64 (l.map (·.hi)).sum, .int .i64 (l.map (·.by_)).sum, .slice la 44 lc, .slice ha 44 hc].toArray 45 (0, 0)), (b1, .cells [.slice As cs.length c2].toArray 24 (0, 0))] ∧
      F = [(12, .int .i64 i), (11, .int .i64 ((l.take i).map (·.by_)).sum), (10, .int .i64 ((l.take i).map (·.hi)).sum), (9, .int .i64 ((l.take i).map (·.lo)).sum), (7, .pointer (some ⟨b2, 0, none⟩)), (5, .pointer (some ⟨b1, 0, none⟩)), (4, .slice Al l.length cl), (3, .bool true), (2, .bool false)])
    ⟨rfl, 0, rfl, by omega, rfl, rfl⟩ (by repeat (first | exact Sub.nil rfl | exact Sub.marked rfl | refine Sub.cons rfl ?_)) (by repeat (first | exact List.Sublist.refl _ | exact List.Sublist.slnil | exact List.nil_sublist _ | exact List.sublist_append_left _ _ | refine List.Sublist.cons_cons _ ?_ | refine List.Sublist.append (List.Sublist.refl _) ?_ | refine List.Sublist.cons _ ?_ | refine List.Sublist.trans ?_ (List.sublist_append_right _ _))) ?_
  rintro q S' L F ⟨rfl, i, rfl, hi, rfl, rfl⟩
  by_cases hlt : i < l.length
  · obtain ⟨x, hx⟩ := at_lt' hlt
    have hb := hbd i
    have h1 := fact_lo (hlf x (List.mem_of_getElem? hx))
    have h2 := fact_hi (hlf x (List.mem_of_getElem? hx))
    have h3 := (hlf x (List.mem_of_getElem? hx)).by1
    (repeat (first | refine Jc ?_ | (apply s_idx hAl4; (case hg => rfl); (case hd => rfl); (case hx => rfl); (case hi => rfl); (case hm => rfl); (case hu => exact hx); intro p (hp2 : Pts _ p x.vals)) | (apply s_load_f; (case hg => rfl); (case hd => rfl); (case hx => rfl); (case h => exact hp2); (case hv => rfl)) | refine Jo ?_ | intro _))
    exact q_back (m' := l.length - (i + 1)) ⟨rfl, i + 1, rfl, by omega, rfl, by rw [sum_take hx, sum_take hx, sum_take hx]⟩ (by omega) (by repeat (first | exact Sub.nil rfl | exact Sub.marked rfl | refine Sub.cons rfl ?_)) (by repeat (first | exact List.Sublist.refl _ | exact List.Sublist.slnil | exact List.nil_sublist _ | exact List.sublist_append_left _ _ | refine List.Sublist.cons_cons _ ?_ | refine List.Sublist.append (List.Sublist.refl _) ?_ | refine List.Sublist.cons _ ?_ | refine List.Sublist.trans ?_ (List.sublist_append_right _ _)))
  have hil : i = l.length := by omega
  subst hil
  rw [List.take_of_length_le (Nat.le_refl _)]
  clear hbd hlt hi
  (repeat (first | refine Jz ?_ | intro _))
  have hla : At S' la ((List.range 44).map (cnt l bLo)) := hq7.la
  have hha : At S' ha ((List.range 44).map (cnt l bHi)) := hq7.ha
  refine c_loop (fun q S1 L F => S1 = S' ∧ ∃ (k : Nat), q = 44 - k ∧ k ≤ 44 ∧
      L = [(b2, .cells [.int .i64 0, .int .i64 0, .int .i64 0, .int .i64 0, .int .i64 l.length, .int .i64 (l.map (·.lo)).sum, .int .i64 (l.map (·.hi)).sum, .int .i64 (l.map (·.by_)).sum, .slice la 44 lc, .slice ha 44 hc].toArray 45 (0, 0))] ∧
      F = [(13, .int .i64 k), (7, .pointer (some ⟨b2, 0, none⟩)), (4, .slice Al l.length cl), (3, .bool true), (2, .bool false)])
    ⟨rfl, 0, rfl, by omega, rfl, rfl⟩ (by repeat (first | exact Sub.nil rfl | exact Sub.marked rfl | refine Sub.cons rfl ?_)) (by repeat (first | exact List.Sublist.refl _ | exact List.Sublist.slnil | exact List.nil_sublist _ | exact List.sublist_append_left _ _ | refine List.Sublist.cons_cons _ ?_ | refine List.Sublist.append (List.Sublist.refl _) ?_ | refine List.Sublist.cons _ ?_ | refine List.Sublist.trans ?_ (List.sublist_append_right _ _))) ?_
  rintro q S1 L F ⟨rfl, k, rfl, hk, rfl, rfl⟩
  by_cases hlt : k < 44
  rotate_left
  · (repeat (first | refine Jz ?_ | intro _))
    exact o_ret (L' := []) Tryd.results7 rfl (List.nil_sublist _) rfl
  have hed : Con Tryd.prog 11 #[.int .i64 k] S1 [] (Pure S1 (.tuple #[.int .i64 (eLo k), .int .i64 (eHi k)])) := Edges_con k S1
  (repeat (first | refine Jc ?_ | ((apply z_call; rfl; rfl; rfl; exact hed; rintro _ _ _ - ⟨rfl, rfl, rfl⟩)) | refine Jo ?_ | intro _))
  refine c_loop (fun q S2 L F => S2 = S1 ∧ ∃ (i : Nat), q = l.length - i ∧ i ≤ l.length ∧
      L = [(b2, .cells [.int .i64 0, .int .i64 0, .int .i64 0, .int .i64 0, .int .i64 l.length, .int .i64 (l.map (·.lo)).sum, .int .i64 (l.map (·.hi)).sum, .int .i64 (l.map (·.by_)).sum, .slice la 44 lc, .slice ha 44 hc].toArray 45 (0, 0))] ∧
      F = [(18, .int .i64 i), (17, .int .i64 (cnt (l.take i) bHi k)), (16, .int .i64 (cnt (l.take i) bLo k)), (15, .int .i64 (eHi k)), (14, .int .i64 (eLo k)), (13, .int .i64 k), (7, .pointer (some ⟨b2, 0, none⟩)), (4, .slice Al l.length cl), (3, .bool true), (2, .bool false)])
    ⟨rfl, 0, rfl, by omega, rfl, rfl⟩ (by repeat (first | exact Sub.nil rfl | exact Sub.marked rfl | refine Sub.cons rfl ?_)) (by repeat (first | exact List.Sublist.refl _ | exact List.Sublist.slnil | exact List.nil_sublist _ | exact List.sublist_append_left _ _ | refine List.Sublist.cons_cons _ ?_ | refine List.Sublist.append (List.Sublist.refl _) ?_ | refine List.Sublist.cons _ ?_ | refine List.Sublist.trans ?_ (List.sublist_append_right _ _))) ?_
  rintro q S2 L F ⟨rfl, i, rfl, hi, rfl, rfl⟩
  by_cases hil : i < l.length
  · obtain ⟨⟨xt, xs1, xv, xe, xo, xp, xd, xl, xh, xb⟩, hx⟩ := at_lt' hil
    have h1 := fact_lo (hlf _ (List.mem_of_getElem? hx))
    have h2 := fact_hi (hlf _ (List.mem_of_getElem? hx))
    have g1 := edge_iff h1 k hlt
    have g2 := edge_iff h2 k hlt
    have e1 := cnt_take hx bLo k
    have e2 := cnt_take hx bHi k
    have c1 := cnt_bd (l.take i) bLo k
    have c2 := cnt_bd (l.take i) bHi k
    have htl : (l.take i).length ≤ 40 := by rw [List.length_take]; omega
    rw [show bLo ⟨xt, xs1, xv, xe, xo, xp, xd, xl, xh, xb⟩ = bucket xl from rfl] at e1
    rw [show bHi ⟨xt, xs1, xv, xe, xo, xp, xd, xl, xh, xb⟩ = bucket xh from rfl] at e2
    simp only at h1 h2 g1 g2
    have hee := (edges_bd k hlt).2.1
    by_cases a1 : eLo k ≤ xl <;> by_cases a2 : xl ≤ eHi k <;> by_cases a3 : eLo k ≤ xh <;> by_cases a4 : xh ≤ eHi k
    all_goals try (exfalso; omega)
    all_goals first | rw [if_pos (g1.1 ⟨a1, a2⟩)] at e1 | rw [if_neg (fun h => a1 (g1.2 h).1), Int.add_zero] at e1 | rw [if_neg (fun h => a2 (g1.2 h).2), Int.add_zero] at e1
    all_goals first | rw [if_pos (g2.1 ⟨a3, a4⟩)] at e2 | rw [if_neg (fun h => a3 (g2.2 h).1), Int.add_zero] at e2 | rw [if_neg (fun h => a4 (g2.2 h).2), Int.add_zero] at e2
    all_goals (repeat (first | refine Jc ?_ | (apply s_idx hAl4; (case hg => rfl); (case hd => rfl); (case hx => rfl); (case hi => rfl); (case hm => rfl); (case hu => exact hx); intro p (hp2 : Pts _ p [.int .i64 xt, .int .i64 xs1, .int .i64 xv, .int .i64 xe, .int .i64 xo, .int .i64 xp, .int .i64 xd, .int .i64 xl, .int .i64 xh, .int .i64 xb])) | (apply s_load_f; (case hg => rfl); (case hd => rfl); (case hx => rfl); (case h => exact hp2); (case hv => rfl)) | refine Jo ?_ | intro _))
    all_goals exact q_back (m' := l.length - (i + 1)) ⟨rfl, i + 1, rfl, by omega, rfl, by rw [e1, e2]⟩ (by omega) (by repeat (first | exact Sub.nil rfl | exact Sub.marked rfl | refine Sub.cons rfl ?_)) (by repeat (first | exact List.Sublist.refl _ | exact List.Sublist.slnil | exact List.nil_sublist _ | exact List.sublist_append_left _ _ | refine List.Sublist.cons_cons _ ?_ | refine List.Sublist.append (List.Sublist.refl _) ?_ | refine List.Sublist.cons _ ?_ | refine List.Sublist.trans ?_ (List.sublist_append_right _ _)))
  have hie : i = l.length := by omega
  subst hie
  rw [List.take_of_length_le (Nat.le_refl _)]
  have r1 : ((List.range 44).map (cnt l bLo))[k]? = some (cnt l bLo k) := by simp [hlt]
  have r2 : ((List.range 44).map (cnt l bHi))[k]? = some (cnt l bHi k) := by simp [hlt]
  (repeat (first | refine Jc ?_ | (apply s_idx hla; (case hg => rfl); (case hd => rfl); (case hx => rfl); (case hi => rfl); (case hm => rfl); (case hu => exact r1); intro p hp) | (apply s_load1; (case hg => rfl); (case hd => rfl); (case hx => rfl); (case hv => exact hp)) | (apply s_idx hha; (case hg => rfl); (case hd => rfl); (case hx => rfl); (case hi => rfl); (case hm => rfl); (case hu => exact r2); intro p2 hp2) | (apply s_load1; (case hg => rfl); (case hd => rfl); (case hx => rfl); (case hv => exact hp2)) | refine Jo ?_ | intro _))
  exact q_back (m' := 44 - (k + 1)) ⟨rfl, k + 1, rfl, by omega, rfl, rfl⟩ (by omega) (by repeat (first | exact Sub.nil rfl | exact Sub.marked rfl | refine Sub.cons rfl ?_)) (by repeat (first | exact List.Sublist.refl _ | exact List.Sublist.slnil | exact List.nil_sublist _ | exact List.sublist_append_left _ _ | refine List.Sublist.cons_cons _ ?_ | refine List.Sublist.append (List.Sublist.refl _) ?_ | refine List.Sublist.cons _ ?_ | refine List.Sublist.trans ?_ (List.sublist_append_right _ _)))
end Go.Proofs.YtogfficbloejcaaDoor
namespace Go.Proofs.YtogfficbloejcaaDoor
open Go Go.X
set_option maxRecDepth 10000
set_option linter.unusedVariables false
attribute [local irreducible] Code.wpIn wpListIn Exit.then Exit.inBlock X.Out X.Back X.W X.Ev X.Con X.BinV X.Wh X.Wn X.Wq
theorem rankF_spec : ∀ (l : List Int) (k : Nat) (r : Int), 0 < r → r ≤ l.sum → (∀ x ∈ l, 0 ≤ x) → ∃ j : Nat, rankF k l r = (k + j : Nat) ∧ j < l.length ∧ (l.take j).sum < r ∧ r ≤ (l.take (j + 1)).sum ∧ ∃ y, l[j]? = some y ∧ 1 ≤ y
  | [], k, r, h0, h1, _ => by simp at h1; omega
  | n :: t, k, r, h0, h1, hn => by
    rw [rankF]
    by_cases hle : r - n ≤ 0
    · rw [if_pos hle]
      exact ⟨0, rfl, by simp, by simpa using h0, by simp; omega, n, rfl, by omega⟩
    · rw [if_neg hle]
      rw [List.sum_cons] at h1
      obtain ⟨j, e, h2, h3, h4, y, h5, h6⟩ := rankF_spec t (k + 1) (r - n) (by omega) (by omega) fun x hx => hn x (List.mem_cons_of_mem _ hx)
      refine ⟨j + 1, by rw [e]; congr 1; omega, by simpa using h2, ?_, ?_, y, by simpa using h5, h6⟩
      · rw [List.take_succ_cons, List.sum_cons]; omega
      · rw [List.take_succ_cons, List.sum_cons]; omega
theorem pre_sum (b : Fa → Int) (m : Nat) : ∀ P : List Fa, (∀ x ∈ P, 0 ≤ b x) → ((List.range m).map (cnt P b)).sum = ((P.filter fun x => decide (b x < m)).length : Int)
  | [], _ => by
    have : (List.range m).map (cnt [] b) = (List.range m).map fun _ => (0 : Int) := rfl
    rw [this, sum_zero]; rfl
  | x :: P, h => by
    have ih := pre_sum b m P fun y hy => h y (List.mem_cons_of_mem _ hy)
    have e : (List.range m).map (cnt (x :: P) b) = (List.range m).map fun i => uF b i x + cnt P b i := List.map_congr_left fun i _ => by simp [cnt]
    have u := sum_unit (fun _ => 1) (b x) m (h x List.mem_cons_self)
    simp only [Int.mul_one] at u
    rw [e, sum_map_add, ih]
    have e2 : ((List.range m).map fun i => uF b i x).sum = if b x < m then 1 else 0 := u
    rw [e2]
    by_cases hb : b x < m
    · rw [if_pos hb, List.filter_cons_of_pos (by simpa using hb), List.length_cons]; omega
    · rw [if_neg hb, List.filter_cons_of_neg (by simpa using hb)]; omega
theorem row_cnt (L : List Fa) (k : List Int) (b : Fa → Int) : rowF L k b = (List.range 44).map (cnt (L.filter fun x => fkey x == k) b) := rfl
theorem row_take (P : List Fa) (b : Fa → Int) (hb : ∀ x ∈ P, 0 ≤ b x) {j : Nat} (hj : j ≤ 44) : (((List.range 44).map (cnt P b)).take j).sum = ((P.filter fun x => decide (b x < j)).length : Int) := by
  rw [← List.map_take, List.take_range, Nat.min_eq_left hj, pre_sum b j P hb]
/-- A list of durations in order, one between the bounds of each fact. -/
structure Dur (D : List Int) (P : List Fa) : Prop where
  len : D.length = P.length
  asc : D.Pairwise (· ≤ ·)
  lo : ∀ t : Int, (D.filter fun v => decide (v < t)).length ≤ (P.filter fun x => decide (x.lo < t)).length
  hi : ∀ t : Int, (P.filter fun x => decide (x.hi ≤ t)).length ≤ (D.filter fun v => decide (v ≤ t)).length
theorem Dur.nil : Dur [] [] := ⟨rfl, List.Pairwise.nil, fun _ => Nat.le_refl _, fun _ => Nat.le_refl _⟩
theorem filter_len_cons {α : Type} (p : α → Bool) (a : α) (l : List α) : ((a :: l).filter p).length = (if p a then 1 else 0) + (l.filter p).length := by
  by_cases h : p a
  · rw [List.filter_cons_of_pos h, List.length_cons, if_pos h]; omega
  · rw [List.filter_cons_of_neg h, if_neg h]; omega
theorem Dur.ins {D : List Int} {P : List Fa} (h : Dur D P) {x : Fa} {v : Int} (hv : x.lo ≤ v ∧ v ≤ x.hi) {k : Nat} (hk : k ≤ D.length) (h1 : ∀ (j : Nat) (y : Int), j < k → D[j]? = some y → y < v) (h2 : ∀ y, D[k]? = some y → v ≤ y) : Dur (D.take k ++ (v :: D.drop k)) (P ++ [x]) := by
  have hp : (D.take k ++ (v :: D.drop k)).Perm (v :: D) := by
    refine List.perm_middle.trans ?_
    rw [List.take_append_drop]
  have hq : (P ++ [x]).Perm (x :: P) := List.perm_append_comm
  refine ⟨?_, ?_, fun t => ?_, fun t => ?_⟩
  · rw [hp.length_eq, hq.length_eq, List.length_cons, List.length_cons, h.len]
  · have ha := h.asc
    rw [← List.take_append_drop k D, List.pairwise_append] at ha
    obtain ⟨a1, a2, a3⟩ := ha
    have g1 : ∀ y ∈ D.take k, y < v := fun y hy => by
      obtain ⟨j, hj⟩ := List.getElem?_of_mem hy
      rw [List.getElem?_take] at hj
      split at hj
      · exact h1 j y (by assumption) hj
      · cases hj
    have g2 : ∀ y ∈ D.drop k, v ≤ y := fun y hy => by
      obtain ⟨j, hj⟩ := List.getElem?_of_mem hy
      rw [List.getElem?_drop] at hj
      have hlt := (List.getElem?_eq_some_iff.1 hj).1
      have hkl : k < D.length := by omega
      have h3 := h2 D[k] (List.getElem?_eq_getElem hkl)
      have e := (List.getElem?_eq_some_iff.1 hj).2
      rcases Nat.eq_zero_or_pos j with rfl | hj0
      · simp only [Nat.add_zero] at e; omega
      · have := (List.pairwise_iff_getElem.1 h.asc) k (k + j) hkl hlt (by omega)
        omega
    rw [List.pairwise_append]
    refine ⟨a1, List.pairwise_cons.2 ⟨g2, a2⟩, fun y hy z hz => ?_⟩
    rcases List.mem_cons.1 hz with rfl | hz
    · have := g1 y hy; omega
    · exact a3 y hy z hz
  · rw [(hp.filter _).length_eq, (hq.filter _).length_eq, filter_len_cons, filter_len_cons]
    have := h.lo t
    by_cases g : v < t
    · rw [if_pos (by simpa using g), if_pos (by simp; omega)]; omega
    · rw [if_neg (by simpa using g)]; omega
  · rw [(hp.filter _).length_eq, (hq.filter _).length_eq, filter_len_cons, filter_len_cons]
    have := h.hi t
    by_cases g : x.hi ≤ t
    · rw [if_pos (by simpa using g), if_pos (by simp; omega)]; omega
    · rw [if_neg (by simpa using g)]; omega
theorem filter_take {p : Int → Bool} (D : List Int) (r : Nat) (hr : r ≤ D.length) (h : ∀ y ∈ D.take r, p y = true) : r ≤ (D.filter p).length := by
  rw [← List.take_append_drop r D, List.filter_append, List.filter_eq_self.2 h, List.length_append, List.length_take]
  omega
theorem filter_drop {p : Int → Bool} (D : List Int) (r : Nat) (h : ∀ y ∈ D.drop r, p y = false) : (D.filter p).length ≤ r := by
  have e : (D.drop r).filter p = [] := List.filter_eq_nil_iff.2 (fun y hy => by rw [h y hy]; decide)
  rw [← List.take_append_drop r D, List.filter_append, e, List.append_nil]
  exact Nat.le_trans (List.length_filter_le _ _) (by rw [List.length_take]; omega)
theorem filter_mono {p q : Fa → Bool} : ∀ {P : List Fa}, (∀ x ∈ P, p x = true → q x = true) → (P.filter p).length ≤ (P.filter q).length
  | [], _ => Nat.le_refl _
  | x :: P, h => by
    have ih := filter_mono (P := P) fun y hy => h y (List.mem_cons_of_mem _ hy)
    rw [filter_len_cons, filter_len_cons]
    by_cases g : p x = true
    · rw [if_pos g, if_pos (h x List.mem_cons_self g)]; omega
    · rw [if_neg g]; omega
theorem eLo_mono {j k : Nat} (h : j ≤ k) (hk : k < 44) : eLo j ≤ eLo k := by
  rcases Nat.eq_or_lt_of_le h with rfl | h
  · exact Int.le_refl _
  · have := edge_lt j (k - j - 1) (by omega)
    rw [show j + (k - j - 1) + 1 = k by omega] at this
    have := (edges_bd j (by omega)).2.1
    omega
theorem eHi_mono {j k : Nat} (h : j ≤ k) (hk : k < 44) : eHi j ≤ eHi k := by
  rcases Nat.eq_or_lt_of_le h with rfl | h
  · exact Int.le_refl _
  · have := edge_lt j (k - j - 1) (by omega)
    rw [show j + (k - j - 1) + 1 = k by omega] at this
    have := (edges_bd k (by omega)).2.1
    omega
/-- The r-th duration lies between the edges of the buckets of the r-th Low and the r-th High. -/
theorem Dur.between {D : List Int} {P : List Fa} (h : Dur D P) (hP : ∀ x ∈ P, FactP x) {r : Nat} (hr1 : 1 ≤ r) (hr2 : r ≤ P.length) {j k : Nat} (hj : j < 44) (hk : k < 44)
    (hlo : (P.filter fun x => decide (bLo x < j)).length < r) (hhi : r ≤ (P.filter fun x => decide (bHi x < (k + 1 : Nat))).length) {y : Int} (hy : D[r - 1]? = some y) : eLo j ≤ y ∧ y ≤ eHi k := by
  obtain ⟨hlt, hye⟩ := List.getElem?_eq_some_iff.1 hy
  have ha := List.pairwise_iff_getElem.1 h.asc
  constructor
  · refine Int.not_lt.1 fun hc => ?_
    have h1 : r ≤ (D.filter fun v => decide (v < eLo j)).length := filter_take D r (by have := h.len; omega) fun z hz => by
      obtain ⟨i, hi⟩ := List.getElem?_of_mem hz
      rw [List.getElem?_take] at hi
      split at hi
      · rename_i hir
        obtain ⟨hil, hie⟩ := List.getElem?_eq_some_iff.1 hi
        have : z ≤ y := by
          rcases Nat.eq_or_lt_of_le (show i ≤ r - 1 by omega) with e | e
          · subst e; omega
          · have := ha i (r - 1) hil hlt e; omega
        exact decide_eq_true (by omega)
      · cases hi
    have h2 := h.lo (eLo j)
    have h3 := filter_mono (P := P) (p := fun x => decide (x.lo < eLo j)) (q := fun x => decide (bLo x < j)) fun x hx g => by
      have g := of_decide_eq_true g
      refine decide_eq_true (Int.not_le.1 fun hc2 => ?_)
      obtain ⟨b1, b2, b3, b4⟩ := bucket_edges (fact_lo (hP x hx))
      unfold bLo at hc2
      obtain ⟨b, hb⟩ : ∃ b : Nat, bucket x.lo = b := ⟨(bucket x.lo).toNat, by omega⟩
      rw [hb] at b2 b3 hc2
      have := eLo_mono (j := j) (k := b) (by omega) (by omega)
      omega
    omega
  · refine Int.not_lt.1 fun hc => ?_
    have h1 : (D.filter fun v => decide (v ≤ eHi k)).length ≤ r - 1 := filter_drop D (r - 1) fun z hz => by
      obtain ⟨i, hi⟩ := List.getElem?_of_mem hz
      rw [List.getElem?_drop] at hi
      obtain ⟨hil, hie⟩ := List.getElem?_eq_some_iff.1 hi
      have : y ≤ z := by
        rcases Nat.eq_zero_or_pos i with e | e
        · subst e; simp only [Nat.add_zero] at hie; omega
        · have := ha (r - 1) (r - 1 + i) hlt hil (by omega); omega
      exact decide_eq_false (by omega)
    have h2 := h.hi (eHi k)
    have h3 := filter_mono (P := P) (p := fun x => decide (bHi x < (k + 1 : Nat))) (q := fun x => decide (x.hi ≤ eHi k)) fun x hx g => by
      have g := of_decide_eq_true g
      refine decide_eq_true ?_
      obtain ⟨b1, b2, b3, b4⟩ := bucket_edges (fact_hi (hP x hx))
      unfold bHi at g
      obtain ⟨b, hb⟩ : ∃ b : Nat, bucket x.hi = b := ⟨(bucket x.hi).toNat, by omega⟩
      rw [hb] at b4 g
      have := eHi_mono (j := b) (k := k) (by omega) hk
      omega
    omega
theorem bucket_lo {k : Nat} (h : k < 44) : bucket (eLo k) = k := by
  have := edges_bd k h
  exact ((edge_iff (d := eLo k) ⟨this.1, by omega⟩ k h).1 ⟨by omega, by omega⟩).symm
theorem bucket_hi {k : Nat} (h : k < 44) : bucket (eHi k) = k := by
  have := edges_bd k h
  exact ((edge_iff (d := eHi k) ⟨by omega, by omega⟩ k h).1 ⟨by omega, by omega⟩).symm
def part (l : List Fa) (k : List Int) : List Fa := l.filter fun x => fkey x == k
/-- What Quantile answers for a cell of a sketch, and what the durations of its facts have to do with it. -/
theorem quant_cell {l : List Fa} (gl : Good l) {c : PC} (hx : c.x = vecOf l c.key) (hh : Has l c.key) {n d : Int} (hn : 0 ≤ n) (hnd : n ≤ d) (hd : 1 ≤ d) :
    ∃ j k r0 : Nat, ∃ y1 y2 : Int, j < 44 ∧ k < 44 ∧ qrank c n d = (r0 + 1 : Nat) ∧ r0 < (part l c.key).length ∧ rankF 0 c.x.ls (qrank c n d) = j ∧ rankF 0 c.x.hs (qrank c n d) = k ∧ c.x.ls[j]? = some y1 ∧ 1 ≤ y1 ∧ c.x.hs[k]? = some y2 ∧ 1 ≤ y2 ∧
      c.x.n = (part l c.key).length ∧ c.x.ls.length = 44 ∧ c.x.hs.length = 44 ∧ ∀ D y, Dur D (part l c.key) → D[r0]? = some y → eLo j ≤ y ∧ y ≤ eHi k := by
  have hN : c.x.n = (part l c.key).length := by rw [hx]; exact sum_ones _
  have hP : ∀ x ∈ part l c.key, FactP x := fun x hx => gl.each x (List.mem_filter.1 hx).1
  have hls : c.x.ls = (List.range 44).map (cnt (part l c.key) bLo) := by rw [hx]; exact row_cnt l c.key bLo
  have hhs : c.x.hs = (List.range 44).map (cnt (part l c.key) bHi) := by rw [hx]; exact row_cnt l c.key bHi
  have hN1 : 1 ≤ (part l c.key).length := by
    obtain ⟨x, hx1, hx2⟩ := hh
    exact List.length_pos_iff.2 (List.ne_nil_of_mem (List.mem_filter.2 ⟨hx1, by simpa using hx2⟩))
  generalize part l c.key = P at *
  have hq1 : 1 ≤ qrank c n d := by unfold qrank; omega
  have hq2 : qrank c n d ≤ P.length := by
    unfold qrank
    rw [hN]
    have h1 : n * (P.length : Int) ≤ d * P.length := Int.mul_le_mul_of_nonneg_right hnd (by omega)
    have h2 : (n * (P.length : Int) + d - 1) / d < P.length + 1 := Int.ediv_lt_of_lt_mul (by omega) (by rw [Int.add_mul, Int.mul_comm _ d]; omega)
    omega
  have b1 : ∀ x ∈ P, 0 ≤ bLo x ∧ bLo x < 44 := fun x hx => by have := bucket_edges (fact_lo (hP x hx)); unfold bLo; omega
  have b2 : ∀ x ∈ P, 0 ≤ bHi x ∧ bHi x < 44 := fun x hx => by have := bucket_edges (fact_hi (hP x hx)); unfold bHi; omega
  have t1 : c.x.ls.sum = P.length := by
    rw [hls, pre_sum bLo 44 P fun x hx => (b1 x hx).1, List.filter_eq_self.2]
    exact fun x hx => decide_eq_true (b1 x hx).2
  have t2 : c.x.hs.sum = P.length := by
    rw [hhs, pre_sum bHi 44 P fun x hx => (b2 x hx).1, List.filter_eq_self.2]
    exact fun x hx => decide_eq_true (b2 x hx).2
  obtain ⟨j, e1, j1, j2, j3, y1, j4, j5⟩ := rankF_spec c.x.ls 0 (qrank c n d) (by omega) (by omega) (fun x hx => by
    rw [hls] at hx; obtain ⟨i, _, rfl⟩ := List.mem_map.1 hx; exact (cnt_bd P bLo i).1)
  obtain ⟨k, e2, k1, k2, k3, y2, k4, k5⟩ := rankF_spec c.x.hs 0 (qrank c n d) (by omega) (by omega) (fun x hx => by
    rw [hhs] at hx; obtain ⟨i, _, rfl⟩ := List.mem_map.1 hx; exact (cnt_bd P bHi i).1)
  have l1 : c.x.ls.length = 44 := by rw [hls]; simp
  have l2 : c.x.hs.length = 44 := by rw [hhs]; simp
  rw [l1] at j1
  rw [l2] at k1
  obtain ⟨r0, hr⟩ : ∃ r0 : Nat, qrank c n d = (r0 + 1 : Nat) := ⟨(qrank c n d - 1).toNat, by omega⟩
  refine ⟨j, k, r0, y1, y2, j1, k1, hr, by omega, by rw [e1]; simp, by rw [e2]; simp, j4, j5, k4, k5, hN, l1, l2, fun D y hD hy => ?_⟩
  rw [hls, row_take P bLo (fun x hx => (b1 x hx).1) (by omega)] at j2
  rw [hhs, row_take P bHi (fun x hx => (b2 x hx).1) (by omega)] at k3
  exact hD.between hP (r := r0 + 1) (by omega) (by omega) j1 k1 (by omega) (by omega) (by simpa using hy)
end Go.Proofs.YtogfficbloejcaaDoor
namespace Go.Proofs.YtogfficbloejcaaDoor
open Go Go.X
set_option maxRecDepth 10000
set_option linter.unusedVariables false
attribute [local irreducible] Code.wpIn wpListIn Exit.then Exit.inBlock X.Out X.Back X.W X.Ev X.Con X.BinV X.Wh X.Wn X.Wq
theorem part_take {l : List Fa} {i : Nat} {x : Fa} (h : l[i]? = some x) (k : List Int) : part (l.take (i + 1)) k = part (l.take i) k ++ (if fkey x = k then [x] else []) := by
  unfold part
  rw [List.take_add_one, h, List.filter_append]
  congr 1
  by_cases e : fkey x = k
  · rw [if_pos e]; simp [e]
  · rw [if_neg e]; simp [e]
set_option maxHeartbeats 3200000 in
theorem f6_law (xs : List K4) (A : Option Addr) (ca : Nat) (ws : List Int) (B : Option Addr) (cb : Nat) (num den : Int) (S : SH) (hG : Gl S) (hA : At S A xs) (lx : xs.length ≤ ca) (hx : ∀ x ∈ xs, K4ok x) (hB : At S B ws) (lw : ws.length ≤ cb) (hw : ∀ x ∈ ws, I64 x) (hnum : i64 num) (hden : i64 den) :
    Con Tryd.prog 6 #[.slice A xs.length ca, .slice B ws.length cb, .int .i64 num, .int .i64 den] S [] (fun _ _ v => v = .bool true) := by
  refine con_of (args := [.slice A xs.length ca, .slice B ws.length cb, .int .i64 num, .int .i64 den]) Tryd.func6 rfl Tryd.ntmps6 rfl fun w => ?_
  (repeat (first | refine Jc ?_ | ((apply z_call; rfl; rfl; rfl; exact sane_con S hG; rintro S1 _ _ hle1 ⟨rfl, rfl⟩)) | refine Jo ?_ | intro _))
  (repeat (first | refine Jc ?_ | ((apply z_call; rfl; rfl; rfl; exact MadeFacts_con xs A ca S1 (hA.le hle1) hx; rintro S2 _ _ hle2 ⟨rfl, Al, cl, l, rfl, hAl, hcl, hll, hlf⟩)) | refine Jo ?_ | intro _))
  have gl : Good l := .of hlf (by omega)
  (repeat (first | refine Jc ?_ | ((apply z_call; rfl; rfl; rfl; exact MakeG_con gl Al cl S2 (hG.le (hle1.trans hle2)) hAl; rintro S3 _ _ hle3 ⟨rfl, _, s, rfl, ⟨As, c2, cs, rfl, hAs, hok, hlc, hm⟩, hia⟩)) | refine Jo ?_ | intro _))
  have hG3 := (hG.le (hle1.trans hle2)).le hle3
  have d1 := pickI_bd den 1000 (by decide)
  have pk1 := lpick_con den 1000 S3 hden (by decide)
  generalize hdd : pickI den 1000 = d0 at *
  (repeat (first | refine Jc ?_ | ((apply z_call; rfl; rfl; rfl; exact pk1; rintro _ _ _ - ⟨rfl, rfl, rfl⟩)) | refine Jo ?_ | intro _))
  obtain ⟨d, hd⟩ : ∃ d, 1 + d0 = d := ⟨_, rfl⟩
  rw [hd]
  have hd1 : 1 ≤ d ∧ d ≤ 1000 := by omega
  have n1 := pickI_bd num (d + 1) (by omega)
  have pk2 := lpick_con num (d + 1) S3 hnum (by omega)
  generalize hnn : pickI num (d + 1) = n at *
  (repeat (first | refine Jc ?_ | ((apply z_call; rfl; rfl; rfl; exact pk2; rintro _ _ _ - ⟨rfl, rfl, rfl⟩)) | refine Jo ?_ | intro _))
  rename_i b1
  have hAl3 : At S3 Al l := hAl.le hle3
  have hB3 : At S3 B ws := ((hB.le hle1).le hle2).le hle3
  refine c_loop (fun q S' L F => Le S3 S' ∧ ∃ (i : Nat), q = cs.length - i ∧ i ≤ cs.length ∧
      L = [(b1, .cells [.slice As cs.length c2].toArray 24 (0, 0))] ∧
      F = [(15, .int .i64 i), (14, .int .i64 n), (13, .int .i64 d), (11, .pointer (some ⟨b1, 0, none⟩)), (10, .slice Al l.length cl), (9, .bool true), (8, .bool false), (1, .slice B ws.length cb)])
    ⟨Le.refl _, 0, rfl, by omega, rfl, rfl⟩ (by repeat (first | exact Sub.nil rfl | exact Sub.marked rfl | refine Sub.cons rfl ?_)) (by repeat (first | exact List.Sublist.refl _ | exact List.Sublist.slnil | exact List.nil_sublist _ | exact List.sublist_append_left _ _ | refine List.Sublist.cons_cons _ ?_ | refine List.Sublist.append (List.Sublist.refl _) ?_ | refine List.Sublist.cons _ ?_ | refine List.Sublist.trans ?_ (List.sublist_append_right _ _))) ?_
  rintro q S4 L F ⟨hle4, i, rfl, hi, rfl, rfl⟩
  by_cases hlt : i < cs.length
  rotate_left
  · (repeat (first | refine Jz ?_ | intro _))
    exact o_ret (L' := []) Tryd.results6 rfl (List.nil_sublist _) rfl
  obtain ⟨q, hq⟩ := at_lt' hlt
  have hqok : q.ok S4 := (hok q (List.mem_of_getElem? hq)).le hle4
  have hc : q.p ∈ s := by rw [← hm]; exact List.mem_map.2 ⟨q, List.mem_of_getElem? hq, rfl⟩
  obtain ⟨hh, hcx⟩ := (hia.mem q.p).1 hc
  obtain ⟨j, k, r0, y1, y2, hj, hk, hr0, hr1, hq1, hq2, hy1, hy1p, hy2, hy2p, hN, hl1, hl2, hbet⟩ := quant_cell gl hcx hh (n := n) (d := d) (by omega) (by omega) (by omega)
  have hpc : PcP q.p := (hia.valid gl.each gl.len).each q.p hc
  have hG4 := hG3.le hle4
  have hAs4 := hAs.le hle4
  have hQ : Con Tryd.prog 31 #[.agg q.vals.toArray, .int .i64 n, .int .i64 d] S4 [] (fun S' L' r => S' = S4 ∧ L' = [] ∧ r = .tuple #[.int .i64 (eLo j), .int .i64 (eHi k), .int .i64 0]) :=
    (Quantile_con q n d S4 hG4 hqok).mono fun S' L' r _ ⟨h1, h2, lo, hi, e, h3, h4⟩ => by
      rcases h4 with ⟨_, _, _, _, _, rfl, rfl, rfl⟩ | ⟨h4, _⟩
      · rw [hq1, hq2] at h3; exact ⟨h1, h2, h3⟩
      · exact absurd ⟨hpc, hd1.1, hd1.2, by omega, by omega⟩ h4
  obtain ⟨⟨ps, pv, po, pd, ⟨xn, xl, xh, xb, xls, xhs⟩⟩, qla, qlc, qha, qhc⟩ := q
  have hkey : (⟨ps, pv, po, pd, ⟨xn, xl, xh, xb, xls, xhs⟩⟩ : PC).key = [ps, pv, po, pd] := rfl
  have hn1 := hpc.cell.n1
  obtain ⟨q1, q2, q3, q4, q5, q6⟩ := hqok
  simp only [PC.key] at hN hbet hr1 hh
  simp only at hl1 hl2 hy1 hy2 hn1 hq1 hq2 q1 q2 q3 q4 q5 q6
  (repeat (first | refine Jc ?_ | (apply s_idx hAs4; (case hg => rfl); (case hd => rfl); (case hx => rfl); (case hi => rfl); (case hm => rfl); (case hu => exact hq); intro p (hp : Pts _ p [.int .i64 ps, .int .i64 pv, .int .i64 po, .int .i64 pd, .int .i64 xn, .int .i64 xl, .int .i64 xh, .int .i64 xb, .slice qla xls.length qlc, .slice qha xhs.length qhc])) | (apply s_load_ag; (case hg => rfl); (case hd => rfl); (case hx => rfl); (case hv => exact hp); (case hl => rfl)) | ((apply z_call; rfl; rfl; rfl; exact hQ; rintro S4 _ _ - ⟨rfl, rfl, rfl⟩)) | refine Jo ?_ | intro _))
  rename_i b2
  have hAl4 : At S4 Al l := hAl3.le hle4
  refine c_loop (fun m S5 L F => Le S4 S5 ∧ ∃ (t : Nat) (Ad : Option Addr) (cd : Nat) (D : List Int), m = l.length - t ∧ t ≤ l.length ∧ At S5 Ad D ∧ D.length ≤ cd ∧ Dur D (part (l.take t) [ps, pv, po, pd]) ∧
      L = [(b2, .cells [.int .i64 ps, .int .i64 pv, .int .i64 po, .int .i64 pd, .int .i64 xn, .int .i64 xl, .int .i64 xh, .int .i64 xb, .slice qla xls.length qlc, .slice qha xhs.length qhc].toArray 45 (0, 0)), (b1, .cells [.slice As cs.length c2].toArray 24 (0, 0))] ∧
      F = [(21, .int .i64 t), (20, .slice Ad D.length cd), (18, .int .i64 (eHi k)), (17, .int .i64 (eLo j)), (16, .pointer (some ⟨b2, 0, none⟩)), (15, .int .i64 i), (14, .int .i64 n), (13, .int .i64 d), (11, .pointer (some ⟨b1, 0, none⟩)), (10, .slice Al l.length cl), (9, .bool true), (8, .bool false), (1, .slice B ws.length cb)])
    ⟨Le.refl _, 0, none, 0, [], rfl, by omega, At.nil _ _, Nat.le_refl _, Dur.nil, rfl, rfl⟩ (by repeat (first | exact Sub.nil rfl | exact Sub.marked rfl | refine Sub.cons rfl ?_)) (by repeat (first | exact List.Sublist.refl _ | exact List.Sublist.slnil | exact List.nil_sublist _ | exact List.sublist_append_left _ _ | refine List.Sublist.cons_cons _ ?_ | refine List.Sublist.append (List.Sublist.refl _) ?_ | refine List.Sublist.cons _ ?_ | refine List.Sublist.trans ?_ (List.sublist_append_right _ _))) ?_
  rintro m S5 L F ⟨hle5, t, Ad, cd, D, rfl, ht, hAd, hcd, hD, rfl, rfl⟩
  have hAl5 := hAl4.le hle5
  by_cases htl : t < l.length
  · obtain ⟨⟨xt, xsp, xsv, xve, xop, xpe, xdy, xlo, xhi, xby⟩, hx⟩ := at_lt' htl
    have hpt := part_take hx [ps, pv, po, pd]
    have hfx := hlf _ (List.mem_of_getElem? hx)
    by_cases hkx : fkey ⟨xt, xsp, xsv, xve, xop, xpe, xdy, xlo, xhi, xby⟩ = [ps, pv, po, pd]
    rotate_left
    · rw [if_neg hkx, List.append_nil] at hpt
      have h4 : xsv ≠ ps ∨ (xsv = ps ∧ xve ≠ pv) ∨ (xsv = ps ∧ xve = pv ∧ xop ≠ po) ∨ (xsv = ps ∧ xve = pv ∧ xop = po ∧ xdy ≠ pd) := by
        by_cases g1 : xsv = ps
        · by_cases g2 : xve = pv
          · by_cases g3 : xop = po
            · exact .inr (.inr (.inr ⟨g1, g2, g3, fun g4 => hkx (by rw [fkey, g1, g2, g3, g4])⟩))
            · exact .inr (.inr (.inl ⟨g1, g2, g3⟩))
          · exact .inr (.inl ⟨g1, g2⟩)
        · exact .inl g1
      rcases h4 with g | ⟨g1, g⟩ | ⟨g1, g2, g⟩ | ⟨g1, g2, g3, g⟩
      all_goals (repeat (first | refine Jc ?_ | (apply c_draw; (case hB => kernel_rfl); (repeat (first | (apply q_idx hAl5; (case hg => rfl); (case hd => rfl); (case hx => rfl); (case hi => rfl); (case hm => rfl); (case hu => exact hx); intro p2 (hp2 : Pts _ p2 [.int .i64 xt, .int .i64 xsp, .int .i64 xsv, .int .i64 xve, .int .i64 xop, .int .i64 xpe, .int .i64 xdy, .int .i64 xlo, .int .i64 xhi, .int .i64 xby])) | (apply q_ev; (case hg => rfl); (case hd => rfl); (case he => (apply ev_load_f; (case hx => rfl); (case h => exact hp2); (case hv => rfl)))) | refine Jd ?_))) | refine Jo ?_ | intro _))
      all_goals exact q_back (m' := l.length - (t + 1)) ⟨hle5, t + 1, Ad, cd, D, rfl, by omega, hAd, hcd, by rw [hpt]; exact hD, rfl, rfl⟩ (by omega) (by repeat (first | exact Sub.nil rfl | exact Sub.marked rfl | refine Sub.cons rfl ?_)) (by repeat (first | exact List.Sublist.refl _ | exact List.Sublist.slnil | exact List.nil_sublist _ | exact List.sublist_append_left _ _ | refine List.Sublist.cons_cons _ ?_ | refine List.Sublist.append (List.Sublist.refl _) ?_ | refine List.Sublist.cons _ ?_ | refine List.Sublist.trans ?_ (List.sublist_append_right _ _)))
    rw [if_pos hkx] at hpt
    simp only [fkey, List.cons.injEq, and_true] at hkx
    obtain ⟨h1, h2, h3, h4⟩ := hkx
    have e1 := h1.symm
    have e2 := h2.symm
    have e3 := h3.symm
    have e4 := h4.symm
    clear h1 h2 h3 h4
    subst e1 e2 e3 e4
    (repeat (first | refine Jc ?_ | (apply c_draw; (case hB => kernel_rfl); (repeat (first | (apply q_idx hAl5; (case hg => rfl); (case hd => rfl); (case hx => rfl); (case hi => rfl); (case hm => rfl); (case hu => exact hx); intro p2 (hp2 : Pts _ p2 [.int .i64 xt, .int .i64 xsp, .int .i64 ps, .int .i64 pv, .int .i64 po, .int .i64 xpe, .int .i64 pd, .int .i64 xlo, .int .i64 xhi, .int .i64 xby])) | (apply q_ev; (case hg => rfl); (case hd => rfl); (case he => (apply ev_load_f; (case hx => rfl); (case h => exact hp2); (case hv => rfl)))) | refine Jd ?_))) | (apply s_idx hAl5; (case hg => rfl); (case hd => rfl); (case hx => rfl); (case hi => rfl); (case hm => rfl); (case hu => exact hx); intro p3 (hp3 : Pts _ p3 [.int .i64 xt, .int .i64 xsp, .int .i64 ps, .int .i64 pv, .int .i64 po, .int .i64 xpe, .int .i64 pd, .int .i64 xlo, .int .i64 xhi, .int .i64 xby])) | (apply s_load_f; (case hg => rfl); (case hd => rfl); (case hx => rfl); (case h => exact hp3); (case hv => rfl)) | refine Jo ?_ | intro _))
    have hlo := fact_lo hfx
    have hhi := fact_hi hfx
    have hlh : xlo ≤ xhi := hfx.lo1.2
    simp only at hlo hhi
    refine c_meet (fun S6 L6 F6 => S6 = S5 ∧ L6 = [(b2, .cells [.int .i64 ps, .int .i64 pv, .int .i64 po, .int .i64 pd, .int .i64 xn, .int .i64 xl, .int .i64 xh, .int .i64 xb, .slice qla xls.length qlc, .slice qha xhs.length qhc].toArray 45 (0, 0)), (b1, .cells [.slice As cs.length c2].toArray 24 (0, 0))] ∧ ∃ v : Int, xlo ≤ v ∧ v ≤ xhi ∧ F6 = [(22, .int .i64 v), (21, .int .i64 t), (20, .slice Ad D.length cd), (18, .int .i64 (eHi k)), (17, .int .i64 (eLo j)), (16, .pointer (some ⟨b2, 0, none⟩)), (15, .int .i64 i), (14, .int .i64 n), (13, .int .i64 d), (11, .pointer (some ⟨b1, 0, none⟩)), (10, .slice Al l.length cl), (9, .bool true), (8, .bool false), (1, .slice B ws.length cb)]) ?_ ?_
    · by_cases hws : 0 < ws.length
      rotate_left
      · rw [show decide ((0 : Int) < (ws.length : Int)) = false from decide_eq_false (by omega)]
        (repeat (first | refine Jz ?_ | intro _))
        exact q_cut ⟨rfl, rfl, xlo, by omega, by omega, rfl⟩ (by repeat (first | exact Sub.nil rfl | exact Sub.marked rfl | refine Sub.cons rfl ?_)) (by repeat (first | exact List.Sublist.refl _ | exact List.Sublist.slnil | exact List.nil_sublist _ | exact List.sublist_append_left _ _ | refine List.Sublist.cons_cons _ ?_ | refine List.Sublist.append (List.Sublist.refl _) ?_ | refine List.Sublist.cons _ ?_ | refine List.Sublist.trans ?_ (List.sublist_append_right _ _)))
      · rw [show decide ((0 : Int) < (ws.length : Int)) = true from decide_eq_true (by omega)]
        have hB5 : At S5 B ws := (hB3.le hle4).le hle5
        obtain ⟨wv, hwv⟩ := at_lt' (Nat.mod_lt t hws)
        have pk := fun S => lpick_con wv (xhi - xlo + 1) S (hw wv (List.mem_of_getElem? hwv)) (by omega)
        have pkb := pickI_bd wv (xhi - xlo + 1) (by omega)
        generalize pickI wv (xhi - xlo + 1) = pv2 at *
        (repeat (first | refine Jz ?_ | intro _))
        ((apply c_held ([]); (case hL => (repeat (first | exact List.Sublist.refl _ | exact List.Sublist.slnil | exact List.nil_sublist _ | exact List.sublist_append_left _ _ | apply List.Sublist.cons_cons | (apply List.Sublist.append; exact List.Sublist.refl _) | apply List.Sublist.cons | refine List.Sublist.trans ?_ (List.sublist_append_right _ _))))); refine Jf 0 ?_; refine Jf 1 ?_; refine Jf 2 ?_; refine Jf 3 ?_; refine Jf 4 ?_; refine Jf 5 ?_; (apply h_idx (j := t % ws.length) hB5 6; (case hi => rfl); (case hr => kernel_rfl); (case hfr => kernel_rfl); (case hsel => kernel_rfl); (case hg => rfl); (case hd => rfl); (case i1 => infer_instance); (case i2 => infer_instance); (case hx => rfl); (case hy => rfl); (case hm => rfl); (case hu => exact hwv); intro p4 (hp4 : Pts _ p4 [.int .i64 wv])); (apply h_first 7; (case hi => rfl); (case hr => kernel_rfl); (case hfr => kernel_rfl); (case hsel => kernel_rfl); (case hg => rfl); (case hd => rfl); (case he => (apply ev_load1; (case hx => rfl); (case h => exact hp4)))); refine Jf 8 ?_; refine Jf 9 ?_; (apply h_idx hAl5 10; (case hi => rfl); (case hr => kernel_rfl); (case hfr => kernel_rfl); (case hsel => kernel_rfl); (case hg => rfl); (case hd => rfl); (case i1 => infer_instance); (case i2 => infer_instance); (case hx => rfl); (case hy => rfl); (case hm => rfl); (case hu => exact hx); intro p5 (hp5 : Pts _ p5 [.int .i64 xt, .int .i64 xsp, .int .i64 ps, .int .i64 pv, .int .i64 po, .int .i64 xpe, .int .i64 pd, .int .i64 xlo, .int .i64 xhi, .int .i64 xby])); refine Jf 11 ?_; (apply h_first 12; (case hi => rfl); (case hr => kernel_rfl); (case hfr => kernel_rfl); (case hsel => kernel_rfl); (case hg => rfl); (case hd => rfl); (case he => (apply ev_load_f; (case hx => rfl); (case h => exact hp5); (case hv => rfl)))); refine Jf 13 ?_; refine Jf 14 ?_; (apply h_idx hAl5 15; (case hi => rfl); (case hr => kernel_rfl); (case hfr => kernel_rfl); (case hsel => kernel_rfl); (case hg => rfl); (case hd => rfl); (case i1 => infer_instance); (case i2 => infer_instance); (case hx => rfl); (case hy => rfl); (case hm => rfl); (case hu => exact hx); intro p5 (hp5 : Pts _ p5 [.int .i64 xt, .int .i64 xsp, .int .i64 ps, .int .i64 pv, .int .i64 po, .int .i64 xpe, .int .i64 pd, .int .i64 xlo, .int .i64 xhi, .int .i64 xby])); refine Jf 16 ?_; (apply h_first 17; (case hi => rfl); (case hr => kernel_rfl); (case hfr => kernel_rfl); (case hsel => kernel_rfl); (case hg => rfl); (case hd => rfl); (case he => (apply ev_load_f; (case hx => rfl); (case h => exact hp5); (case hv => rfl)))); refine Jf 18 ?_; refine Jf 19 ?_; (apply h_one 20; (case hr => kernel_rfl)); (apply n_call; (case hi => rfl); (case i1 => infer_instance); (case hg => rfl); (case hd => rfl); (case ha => rfl); (case hc => exact pk _); (case hL => (repeat (first | exact pm_nil _ | exact pm_refl _ _ | exact pm_self _ | apply pm_cons | apply pm_app))); (case hsub => (intros; (repeat (first | exact List.Sublist.refl _ | exact List.Sublist.slnil | exact List.nil_sublist _ | exact List.sublist_append_left _ _ | apply List.Sublist.cons_cons | (apply List.Sublist.append; exact List.Sublist.refl _) | apply List.Sublist.cons | refine List.Sublist.trans ?_ (List.sublist_append_right _ _))))); rintro _ _ _ - ⟨rfl, rfl, rfl⟩); refine Jf 21 ?_; refine Jf 22 ?_; (apply h_end; (case hr => kernel_rfl)); (apply q_then; exact q_cut ⟨rfl, rfl, xlo + pv2, by omega, by omega, rfl⟩ (by repeat (first | exact Sub.nil rfl | exact Sub.marked rfl | refine Sub.cons rfl ?_)) (by repeat (first | exact List.Sublist.refl _ | exact List.Sublist.slnil | exact List.nil_sublist _ | exact List.sublist_append_left _ _ | refine List.Sublist.cons_cons _ ?_ | refine List.Sublist.append (List.Sublist.refl _) ?_ | refine List.Sublist.cons _ ?_ | refine List.Sublist.trans ?_ (List.sublist_append_right _ _)))))
    rintro S6 L6 F6 ⟨rfl, rfl, v, hv1, hv2, rfl⟩
    have hDl : D.length ≤ 40 := by
      have h1 := hD.len
      have h2 : (part (l.take t) [ps, pv, po, pd]).length ≤ (l.take t).length := List.length_filter_le _ _
      rw [List.length_take] at h2
      omega
    (repeat (first | refine Jz ?_ | intro _))
    refine c_meetB (fun S7 L7 F7 => S7 = S6 ∧ ∃ at_ : Nat, at_ ≤ D.length ∧ (∀ (j : Nat) (y : Int), j < at_ → D[j]? = some y → y < v) ∧ (∀ y, D[at_]? = some y → v ≤ y) ∧ L7 = [(b2, .cells [.int .i64 ps, .int .i64 pv, .int .i64 po, .int .i64 pd, .int .i64 xn, .int .i64 xl, .int .i64 xh, .int .i64 xb, .slice qla xls.length qlc, .slice qha xhs.length qhc].toArray 45 (0, 0)), (b1, .cells [.slice As cs.length c2].toArray 24 (0, 0))] ∧ F7 = [(23, .int .i64 at_), (22, .int .i64 v), (21, .int .i64 t), (20, .slice Ad D.length cd), (18, .int .i64 (eHi k)), (17, .int .i64 (eLo j)), (16, .pointer (some ⟨b2, 0, none⟩)), (15, .int .i64 i), (14, .int .i64 n), (13, .int .i64 d), (11, .pointer (some ⟨b1, 0, none⟩)), (10, .slice Al l.length cl), (9, .bool true), (8, .bool false), (1, .slice B ws.length cb)]) ?_ ?_
    · refine c_loop (fun m S7 L7 F7 => S7 = S6 ∧ ∃ at_ : Nat, m = D.length - at_ ∧ at_ ≤ D.length ∧ (∀ (j : Nat) (y : Int), j < at_ → D[j]? = some y → y < v) ∧ L7 = [(b2, .cells [.int .i64 ps, .int .i64 pv, .int .i64 po, .int .i64 pd, .int .i64 xn, .int .i64 xl, .int .i64 xh, .int .i64 xb, .slice qla xls.length qlc, .slice qha xhs.length qhc].toArray 45 (0, 0)), (b1, .cells [.slice As cs.length c2].toArray 24 (0, 0))] ∧ F7 = [(23, .int .i64 at_), (22, .int .i64 v), (21, .int .i64 t), (20, .slice Ad D.length cd), (18, .int .i64 (eHi k)), (17, .int .i64 (eLo j)), (16, .pointer (some ⟨b2, 0, none⟩)), (15, .int .i64 i), (14, .int .i64 n), (13, .int .i64 d), (11, .pointer (some ⟨b1, 0, none⟩)), (10, .slice Al l.length cl), (9, .bool true), (8, .bool false), (1, .slice B ws.length cb)]) ⟨rfl, 0, rfl, by omega, fun j y h => by omega, rfl, rfl⟩ (by repeat (first | exact Sub.nil rfl | exact Sub.marked rfl | refine Sub.cons rfl ?_)) (by repeat (first | exact List.Sublist.refl _ | exact List.Sublist.slnil | exact List.nil_sublist _ | exact List.sublist_append_left _ _ | refine List.Sublist.cons_cons _ ?_ | refine List.Sublist.append (List.Sublist.refl _) ?_ | refine List.Sublist.cons _ ?_ | refine List.Sublist.trans ?_ (List.sublist_append_right _ _))) ?_
      rintro m S7 L7 F7 ⟨rfl, at_, rfl, hat, hbel, rfl, rfl⟩
      by_cases hal : at_ < D.length
      rotate_left
      · (repeat (first | refine Jz ?_ | intro _))
        exact q_cut ⟨rfl, at_, hat, hbel, fun y hy => by have := (List.getElem?_eq_some_iff.1 hy).1; omega, rfl, rfl⟩ (by repeat (first | exact Sub.nil rfl | exact Sub.marked rfl | refine Sub.cons rfl ?_)) (by repeat (first | exact List.Sublist.refl _ | exact List.Sublist.slnil | exact List.nil_sublist _ | exact List.sublist_append_left _ _ | refine List.Sublist.cons_cons _ ?_ | refine List.Sublist.append (List.Sublist.refl _) ?_ | refine List.Sublist.cons _ ?_ | refine List.Sublist.trans ?_ (List.sublist_append_right _ _)))
      obtain ⟨y, hy⟩ := at_lt' hal
      by_cases hyv : y < v
      · (repeat (first | refine Jc ?_ | (apply s_idx hAd; (case hg => rfl); (case hd => rfl); (case hx => rfl); (case hi => rfl); (case hm => rfl); (case hu => exact hy); intro p6 (hp6 : Pts _ p6 [.int .i64 y])) | (apply s_load1; (case hg => rfl); (case hd => rfl); (case hx => rfl); (case hv => exact hp6)) | refine Jo ?_ | intro _))
        refine q_back (m' := D.length - (at_ + 1)) ⟨rfl, at_ + 1, rfl, by omega, fun j z hj hz => ?_, rfl, rfl⟩ (by omega) (by repeat (first | exact Sub.nil rfl | exact Sub.marked rfl | refine Sub.cons rfl ?_)) (by repeat (first | exact List.Sublist.refl _ | exact List.Sublist.slnil | exact List.nil_sublist _ | exact List.sublist_append_left _ _ | refine List.Sublist.cons_cons _ ?_ | refine List.Sublist.append (List.Sublist.refl _) ?_ | refine List.Sublist.cons _ ?_ | refine List.Sublist.trans ?_ (List.sublist_append_right _ _)))
        rcases Nat.lt_or_ge j at_ with h | h
        · exact hbel j z h hz
        · have : j = at_ := by omega
          subst this
          rw [hy] at hz; injection hz with hz; omega
      · (repeat (first | refine Jc ?_ | (apply s_idx hAd; (case hg => rfl); (case hd => rfl); (case hx => rfl); (case hi => rfl); (case hm => rfl); (case hu => exact hy); intro p6 (hp6 : Pts _ p6 [.int .i64 y])) | (apply s_load1; (case hg => rfl); (case hd => rfl); (case hx => rfl); (case hv => exact hp6)) | refine Jo ?_ | intro _))
        exact q_cut ⟨rfl, at_, hat, hbel, fun z hz => by rw [hy] at hz; injection hz with hz; omega, rfl, rfl⟩ (by repeat (first | exact Sub.nil rfl | exact Sub.marked rfl | refine Sub.cons rfl ?_)) (by repeat (first | exact List.Sublist.refl _ | exact List.Sublist.slnil | exact List.nil_sublist _ | exact List.sublist_append_left _ _ | refine List.Sublist.cons_cons _ ?_ | refine List.Sublist.append (List.Sublist.refl _) ?_ | refine List.Sublist.cons _ ?_ | refine List.Sublist.trans ?_ (List.sublist_append_right _ _)))
    rintro S7 L7 F7 ⟨rfl, at_, hat, hbel, hab, rfl, rfl⟩
    have htk : (D.take at_).length = at_ := by rw [List.length_take]; omega
    have hdr : (D.drop at_).length = D.length - at_ := List.length_drop
    have hAt : At S7 Ad (D.take at_) := fun h0 => by
      obtain ⟨p, e1, hp⟩ := hAd (by omega)
      refine ⟨p, e1, fun j u hj => hp j u ?_⟩
      rw [← cellsOf_take] at hj
      rw [List.getElem?_take] at hj
      split at hj
      · exact hj
      · cases hj
    (repeat (first | refine Jz ?_ | intro _))
    ((apply c_held ([]); (case hL => (repeat (first | exact List.Sublist.refl _ | exact List.Sublist.slnil | exact List.nil_sublist _ | exact List.sublist_append_left _ _ | apply List.Sublist.cons_cons | (apply List.Sublist.append; exact List.Sublist.refl _) | apply List.Sublist.cons | refine List.Sublist.trans ?_ (List.sublist_append_right _ _))))); (first | (apply h_first 0; (case hi => rfl); (case hr => kernel_rfl); (case hfr => kernel_rfl); (case hsel => kernel_rfl); (case hg => rfl); (case hd => rfl); (case he => (apply ev_slice_33; (case hx => rfl); (case hy => rfl); (case hz => rfl); (case hj => omega)))) | (apply h_slice_lo hAd 0; (case hi => rfl); (case hr => kernel_rfl); (case hfr => kernel_rfl); (case hsel => kernel_rfl); (case hg => rfl); (case hd => rfl); (case i1 => infer_instance); (case i2 => infer_instance); (case hx => rfl); (case hy => rfl); (case hm => rfl); (case hmc => omega); (case hj => omega); intro A9 hA9) | refine Jf 0 ?_); (first | (apply h_first 1; (case hi => rfl); (case hr => kernel_rfl); (case hfr => kernel_rfl); (case hsel => kernel_rfl); (case hg => rfl); (case hd => rfl); (case he => (apply ev_slice_33; (case hx => rfl); (case hy => rfl); (case hz => rfl); (case hj => omega)))) | (apply h_slice_lo hAd 1; (case hi => rfl); (case hr => kernel_rfl); (case hfr => kernel_rfl); (case hsel => kernel_rfl); (case hg => rfl); (case hd => rfl); (case i1 => infer_instance); (case i2 => infer_instance); (case hx => rfl); (case hy => rfl); (case hm => rfl); (case hmc => omega); (case hj => omega); intro A9 hA9) | refine Jf 1 ?_); (first | (apply h_first 2; (case hi => rfl); (case hr => kernel_rfl); (case hfr => kernel_rfl); (case hsel => kernel_rfl); (case hg => rfl); (case hd => rfl); (case he => (apply ev_slice_33; (case hx => rfl); (case hy => rfl); (case hz => rfl); (case hj => omega)))) | (apply h_slice_lo hAd 2; (case hi => rfl); (case hr => kernel_rfl); (case hfr => kernel_rfl); (case hsel => kernel_rfl); (case hg => rfl); (case hd => rfl); (case i1 => infer_instance); (case i2 => infer_instance); (case hx => rfl); (case hy => rfl); (case hm => rfl); (case hmc => omega); (case hj => omega); intro A9 hA9) | refine Jf 2 ?_); (first | (apply h_first 3; (case hi => rfl); (case hr => kernel_rfl); (case hfr => kernel_rfl); (case hsel => kernel_rfl); (case hg => rfl); (case hd => rfl); (case he => (apply ev_slice_33; (case hx => rfl); (case hy => rfl); (case hz => rfl); (case hj => omega)))) | (apply h_slice_lo hAd 3; (case hi => rfl); (case hr => kernel_rfl); (case hfr => kernel_rfl); (case hsel => kernel_rfl); (case hg => rfl); (case hd => rfl); (case i1 => infer_instance); (case i2 => infer_instance); (case hx => rfl); (case hy => rfl); (case hm => rfl); (case hmc => omega); (case hj => omega); intro A9 hA9) | refine Jf 3 ?_); (first | (apply h_first 4; (case hi => rfl); (case hr => kernel_rfl); (case hfr => kernel_rfl); (case hsel => kernel_rfl); (case hg => rfl); (case hd => rfl); (case he => (apply ev_slice_33; (case hx => rfl); (case hy => rfl); (case hz => rfl); (case hj => omega)))) | (apply h_slice_lo hAd 4; (case hi => rfl); (case hr => kernel_rfl); (case hfr => kernel_rfl); (case hsel => kernel_rfl); (case hg => rfl); (case hd => rfl); (case i1 => infer_instance); (case i2 => infer_instance); (case hx => rfl); (case hy => rfl); (case hm => rfl); (case hmc => omega); (case hj => omega); intro A9 hA9) | refine Jf 4 ?_); (first | (apply h_first 6; (case hi => rfl); (case hr => kernel_rfl); (case hfr => kernel_rfl); (case hsel => kernel_rfl); (case hg => rfl); (case hd => rfl); (case he => (apply ev_slice_33; (case hx => rfl); (case hy => rfl); (case hz => rfl); (case hj => omega)))) | (apply h_slice_lo hAd 6; (case hi => rfl); (case hr => kernel_rfl); (case hfr => kernel_rfl); (case hsel => kernel_rfl); (case hg => rfl); (case hd => rfl); (case i1 => infer_instance); (case i2 => infer_instance); (case hx => rfl); (case hy => rfl); (case hm => rfl); (case hmc => omega); (case hj => omega); intro A9 hA9) | refine Jf 6 ?_); (first | (apply h_first 7; (case hi => rfl); (case hr => kernel_rfl); (case hfr => kernel_rfl); (case hsel => kernel_rfl); (case hg => rfl); (case hd => rfl); (case he => (apply ev_slice_33; (case hx => rfl); (case hy => rfl); (case hz => rfl); (case hj => omega)))) | (apply h_slice_lo hAd 7; (case hi => rfl); (case hr => kernel_rfl); (case hfr => kernel_rfl); (case hsel => kernel_rfl); (case hg => rfl); (case hd => rfl); (case i1 => infer_instance); (case i2 => infer_instance); (case hx => rfl); (case hy => rfl); (case hm => rfl); (case hmc => omega); (case hj => omega); intro A9 hA9) | refine Jf 7 ?_); (first | (apply h_first 8; (case hi => rfl); (case hr => kernel_rfl); (case hfr => kernel_rfl); (case hsel => kernel_rfl); (case hg => rfl); (case hd => rfl); (case he => (apply ev_slice_33; (case hx => rfl); (case hy => rfl); (case hz => rfl); (case hj => omega)))) | (apply h_slice_lo hAd 8; (case hi => rfl); (case hr => kernel_rfl); (case hfr => kernel_rfl); (case hsel => kernel_rfl); (case hg => rfl); (case hd => rfl); (case i1 => infer_instance); (case i2 => infer_instance); (case hx => rfl); (case hy => rfl); (case hm => rfl); (case hmc => omega); (case hj => omega); intro A9 hA9) | refine Jf 8 ?_); (apply h_one 5; (case hr => kernel_rfl)); (first | (apply n_buildSlice; (case hi => rfl); (case hg => rfl); (case hd => rfl); (case i1 => infer_instance); (case i2 => infer_instance); (case i3 => infer_instance); (case hp => rfl); (case hq => rfl); (case hm => rfl); (case hv => rfl); (case hl => rfl); intro b0) | (apply n_append_st (ms := D.drop at_) hA9; (case hi => rfl); (case hT => infer_instance); (case hsz => infer_instance); (case hz => infer_instance); (case hby => infer_instance); (case hg => rfl); (case hd => rfl); (case hx => rfl); (case ho => exact Ows.full (α := Int) (e := 3) (g := b0) (l := [v]) rfl (by simp [maxLen])); (case hL => (repeat (first | exact pm_nil _ | exact pm_refl _ _ | exact pm_self _ | apply pm_cons | apply pm_app))); (case hy => rfl); (case hm => rfl); (case hzs => rfl); (case h0 => decide); (case hb => (simp; omega)); (case h63 => (simp; omega)); (case hsub => (intro _ _; exact (by repeat (first | exact List.Sublist.refl _ | exact List.Sublist.slnil | exact List.nil_sublist _ | exact List.sublist_append_left _ _ | refine List.Sublist.cons_cons _ ?_ | refine List.Sublist.append (List.Sublist.refl _) ?_ | refine List.Sublist.cons _ ?_ | refine List.Sublist.trans ?_ (List.sublist_append_right _ _))))); intro v1 ob1 ho1) | (apply n_append_grow (ls := D.take at_) (ms := ([v] : List Int) ++ D.drop at_) hAt; (case hi => rfl); (case hT => infer_instance); (case hsz => infer_instance); (case hz => infer_instance); (case hby => infer_instance); (case hg => rfl); (case hd => rfl); (case hx => rfl); (case hm => exact htk.symm); (case hy => rfl); (case ho => exact ho1); (case hp => (simp)); (case hL => (repeat (first | exact pm_nil _ | exact pm_refl _ _ | exact pm_self _ | apply pm_cons | apply pm_app))); (case hcp => (rw [htk, List.length_append]; simp only [List.length_singleton]; omega)); (case hzs => rfl); (case hfit => (rw [htk, List.length_append, hdr]; unfold Builtin.nextslicecap; simp only [List.length_singleton]; split <;> (try split) <;> omega)); (case h63 => (rw [htk, List.length_append, hdr]; simp only [List.length_singleton]; omega)); (case hsub => (intro _ _; exact (by repeat (first | exact List.Sublist.refl _ | exact List.Sublist.slnil | exact List.nil_sublist _ | exact List.sublist_append_left _ _ | refine List.Sublist.cons_cons _ ?_ | refine List.Sublist.append (List.Sublist.refl _) ?_ | refine List.Sublist.cons _ ?_ | refine List.Sublist.trans ?_ (List.sublist_append_right _ _))))); intro v2 ob2 ho2) | (refine Jn ?_; try intro _)); (apply h_one 9; (case hr => kernel_rfl)); (first | (apply n_buildSlice; (case hi => rfl); (case hg => rfl); (case hd => rfl); (case i1 => infer_instance); (case i2 => infer_instance); (case i3 => infer_instance); (case hp => rfl); (case hq => rfl); (case hm => rfl); (case hv => rfl); (case hl => rfl); intro b0) | (apply n_append_st (ms := D.drop at_) hA9; (case hi => rfl); (case hT => infer_instance); (case hsz => infer_instance); (case hz => infer_instance); (case hby => infer_instance); (case hg => rfl); (case hd => rfl); (case hx => rfl); (case ho => exact Ows.full (α := Int) (e := 3) (g := b0) (l := [v]) rfl (by simp [maxLen])); (case hL => (repeat (first | exact pm_nil _ | exact pm_refl _ _ | exact pm_self _ | apply pm_cons | apply pm_app))); (case hy => rfl); (case hm => rfl); (case hzs => rfl); (case h0 => decide); (case hb => (simp; omega)); (case h63 => (simp; omega)); (case hsub => (intro _ _; exact (by repeat (first | exact List.Sublist.refl _ | exact List.Sublist.slnil | exact List.nil_sublist _ | exact List.sublist_append_left _ _ | refine List.Sublist.cons_cons _ ?_ | refine List.Sublist.append (List.Sublist.refl _) ?_ | refine List.Sublist.cons _ ?_ | refine List.Sublist.trans ?_ (List.sublist_append_right _ _))))); intro v1 ob1 ho1) | (apply n_append_grow (ls := D.take at_) (ms := ([v] : List Int) ++ D.drop at_) hAt; (case hi => rfl); (case hT => infer_instance); (case hsz => infer_instance); (case hz => infer_instance); (case hby => infer_instance); (case hg => rfl); (case hd => rfl); (case hx => rfl); (case hm => exact htk.symm); (case hy => rfl); (case ho => exact ho1); (case hp => (simp)); (case hL => (repeat (first | exact pm_nil _ | exact pm_refl _ _ | exact pm_self _ | apply pm_cons | apply pm_app))); (case hcp => (rw [htk, List.length_append]; simp only [List.length_singleton]; omega)); (case hzs => rfl); (case hfit => (rw [htk, List.length_append, hdr]; unfold Builtin.nextslicecap; simp only [List.length_singleton]; split <;> (try split) <;> omega)); (case h63 => (rw [htk, List.length_append, hdr]; simp only [List.length_singleton]; omega)); (case hsub => (intro _ _; exact (by repeat (first | exact List.Sublist.refl _ | exact List.Sublist.slnil | exact List.nil_sublist _ | exact List.sublist_append_left _ _ | refine List.Sublist.cons_cons _ ?_ | refine List.Sublist.append (List.Sublist.refl _) ?_ | refine List.Sublist.cons _ ?_ | refine List.Sublist.trans ?_ (List.sublist_append_right _ _))))); intro v2 ob2 ho2) | (refine Jn ?_; try intro _)); (apply h_one 10; (case hr => kernel_rfl)); (first | (apply n_buildSlice; (case hi => rfl); (case hg => rfl); (case hd => rfl); (case i1 => infer_instance); (case i2 => infer_instance); (case i3 => infer_instance); (case hp => rfl); (case hq => rfl); (case hm => rfl); (case hv => rfl); (case hl => rfl); intro b0) | (apply n_append_st (ms := D.drop at_) hA9; (case hi => rfl); (case hT => infer_instance); (case hsz => infer_instance); (case hz => infer_instance); (case hby => infer_instance); (case hg => rfl); (case hd => rfl); (case hx => rfl); (case ho => exact Ows.full (α := Int) (e := 3) (g := b0) (l := [v]) rfl (by simp [maxLen])); (case hL => (repeat (first | exact pm_nil _ | exact pm_refl _ _ | exact pm_self _ | apply pm_cons | apply pm_app))); (case hy => rfl); (case hm => rfl); (case hzs => rfl); (case h0 => decide); (case hb => (simp; omega)); (case h63 => (simp; omega)); (case hsub => (intro _ _; exact (by repeat (first | exact List.Sublist.refl _ | exact List.Sublist.slnil | exact List.nil_sublist _ | exact List.sublist_append_left _ _ | refine List.Sublist.cons_cons _ ?_ | refine List.Sublist.append (List.Sublist.refl _) ?_ | refine List.Sublist.cons _ ?_ | refine List.Sublist.trans ?_ (List.sublist_append_right _ _))))); intro v1 ob1 ho1) | (apply n_append_grow (ls := D.take at_) (ms := ([v] : List Int) ++ D.drop at_) hAt; (case hi => rfl); (case hT => infer_instance); (case hsz => infer_instance); (case hz => infer_instance); (case hby => infer_instance); (case hg => rfl); (case hd => rfl); (case hx => rfl); (case hm => exact htk.symm); (case hy => rfl); (case ho => exact ho1); (case hp => (simp)); (case hL => (repeat (first | exact pm_nil _ | exact pm_refl _ _ | exact pm_self _ | apply pm_cons | apply pm_app))); (case hcp => (rw [htk, List.length_append]; simp only [List.length_singleton]; omega)); (case hzs => rfl); (case hfit => (rw [htk, List.length_append, hdr]; unfold Builtin.nextslicecap; simp only [List.length_singleton]; split <;> (try split) <;> omega)); (case h63 => (rw [htk, List.length_append, hdr]; simp only [List.length_singleton]; omega)); (case hsub => (intro _ _; exact (by repeat (first | exact List.Sublist.refl _ | exact List.Sublist.slnil | exact List.nil_sublist _ | exact List.sublist_append_left _ _ | refine List.Sublist.cons_cons _ ?_ | refine List.Sublist.append (List.Sublist.refl _) ?_ | refine List.Sublist.cons _ ?_ | refine List.Sublist.trans ?_ (List.sublist_append_right _ _))))); intro v2 ob2 ho2) | (refine Jn ?_; try intro _)); (first | (apply h_first 11; (case hi => rfl); (case hr => kernel_rfl); (case hfr => kernel_rfl); (case hsel => kernel_rfl); (case hg => rfl); (case hd => rfl); (case he => (apply ev_slice_33; (case hx => rfl); (case hy => rfl); (case hz => rfl); (case hj => omega)))) | (apply h_slice_lo hAd 11; (case hi => rfl); (case hr => kernel_rfl); (case hfr => kernel_rfl); (case hsel => kernel_rfl); (case hg => rfl); (case hd => rfl); (case i1 => infer_instance); (case i2 => infer_instance); (case hx => rfl); (case hy => rfl); (case hm => rfl); (case hmc => omega); (case hj => omega); intro A9 hA9) | refine Jf 11 ?_); (apply h_end; (case hr => kernel_rfl)))
    refine W.freezeOws ho2 (by repeat (first | exact pm_nil _ | exact pm_refl _ _ | exact pm_self _ | refine pm_cons ?_ | refine pm_app ?_)) fun S9 hle9 hsr => ?_
    obtain ⟨A10, c10, rfl, hc10, hA10⟩ := hsr
    (repeat (first | refine Jz ?_ | intro _))
    refine q_back (m' := l.length - (t + 1)) ⟨hle5.trans hle9, t + 1, A10, c10, _, rfl, by omega, hA10, hc10, by rw [hpt]; exact hD.ins ⟨hv1, hv2⟩ hat hbel hab, rfl, rfl⟩ (by omega) (by repeat (first | exact Sub.nil rfl | exact Sub.marked rfl | refine Sub.cons rfl ?_)) (by repeat (first | exact List.Sublist.refl _ | exact List.Sublist.slnil | exact List.nil_sublist _ | exact List.sublist_append_left _ _ | refine List.Sublist.cons_cons _ ?_ | refine List.Sublist.append (List.Sublist.refl _) ?_ | refine List.Sublist.cons _ ?_ | refine List.Sublist.trans ?_ (List.sublist_append_right _ _)))
  have hte : t = l.length := by omega
  subst hte
  rw [List.take_of_length_le (Nat.le_refl _)] at hD
  have hDN : (D.length : Int) = xn := by rw [hD.len, hN]
  have hDp : r0 < D.length := by rw [hD.len]; exact hr1
  have hDl : D.length ≤ 40 := by
    have h1 := hD.len
    have h2 : (part l [ps, pv, po, pd]).length ≤ l.length := List.length_filter_le _ _
    omega
  obtain ⟨y, hy⟩ := at_lt' hDp
  obtain ⟨g1, g2⟩ := hbet D y hD hy
  have hqk : max 1 ((n * (D.length : Int) + d - 1) / d) = ((r0 + 1 : Nat) : Int) := by rw [← hr0, hDN]; rfl
  have hm : 0 ≤ n * (D.length : Int) ∧ n * (D.length : Int) ≤ 1000 * 40 := ⟨Int.mul_nonneg (by omega) (by omega), Int.mul_le_mul (by omega) (by omega) (by omega) (by decide)⟩
  have hb1 : Con Tryd.prog 13 #[.int .i64 (eLo j)] S5 [] (Pure S5 (.int .i64 j)) := by
    have := Bucket_con (eLo j) S5
    rw [bucket_lo hj] at this
    exact this
  have hb2 : Con Tryd.prog 13 #[.int .i64 (eHi k)] S5 [] (Pure S5 (.int .i64 k)) := by
    have := Bucket_con (eHi k) S5
    rw [bucket_hi hk] at this
    exact this
  have hdq : 0 ≤ (n * (D.length : Int) + d - 1) / d := Int.ediv_nonneg (by omega) (by omega)
  (repeat (first | refine Jz ?_ | intro _))
  rw [hqk]
  (repeat (first | refine Jc ?_ | (apply s_idx (k := r0) hAd; (case hg => rfl); (case hd => rfl); (case hx => rfl); (case hi => (refine congrArg some (congrArg (Value.int .i64) ?_); omega)); (case hm => rfl); (case hu => exact hy); intro p6 (hp6 : Pts _ p6 [.int .i64 y])) | (apply s_load1; (case hg => rfl); (case hd => rfl); (case hx => rfl); (case hv => exact hp6)) | ((apply z_call; rfl; rfl; rfl; exact hb1; rintro _ _ _ - ⟨rfl, rfl, rfl⟩)) | ((apply z_call; rfl; rfl; rfl; exact hb2; rintro _ _ _ - ⟨rfl, rfl, rfl⟩)) | (apply s_idx (q1.le hle5); (case hg => rfl); (case hd => rfl); (case hx => rfl); (case hi => rfl); (case hm => rfl); (case hu => exact hy1); intro p7 (hp7 : Pts _ p7 [.int .i64 y1])) | (apply s_load1; (case hg => rfl); (case hd => rfl); (case hx => rfl); (case hv => exact hp7)) | (apply s_idx (q2.le hle5); (case hg => rfl); (case hd => rfl); (case hx => rfl); (case hi => rfl); (case hm => rfl); (case hu => exact hy2); intro p8 (hp8 : Pts _ p8 [.int .i64 y2])) | (apply s_load1; (case hg => rfl); (case hd => rfl); (case hx => rfl); (case hv => exact hp8)) | refine Jo ?_ | intro _))
  exact q_back (m' := cs.length - (i + 1)) ⟨hle4.trans hle5, i + 1, rfl, by omega, rfl, rfl⟩ (by omega) (by repeat (first | exact Sub.nil rfl | exact Sub.marked rfl | refine Sub.cons rfl ?_)) (by repeat (first | exact List.Sublist.refl _ | exact List.Sublist.slnil | exact List.nil_sublist _ | exact List.sublist_append_left _ _ | refine List.Sublist.cons_cons _ ?_ | refine List.Sublist.append (List.Sublist.refl _) ?_ | refine List.Sublist.cons _ ?_ | refine List.Sublist.trans ?_ (List.sublist_append_right _ _)))
end Go.Proofs.YtogfficbloejcaaDoor
namespace Go.Proofs.YtogfficbloejcaaDoor
open Go Go.X
open Go.ChangeShapes Go.WideShapes Go.ChangeAt Go.RowKit
theorem own : ownKnob Tryd.prog.godebug = none := by kernel_rfl
theorem laidOut : laidOutB Tryd.prog = true := by kernel_rfl
theorem gTab : Tryd.prog.globalNamed "latecomer/sketch.limits" = some 0 := by kernel_rfl
theorem gTabType : (Tryd.prog.globals[0]?).map (·.type) = some 80 := by kernel_rfl
theorem cells80 : Tryd.prog.cellsOf 80 = 4 := by kernel_rfl
theorem cells3 : Tryd.prog.cellsOf 3 = 1 := by kernel_rfl
theorem gl_laid {W : World} (h : laidMetH Tryd.prog Rows.sketchMergesRow.laid W) : Gl (allOf W) := by
  have ht : Lib.TabIs Tryd.prog W "latecomer/sketch.limits" .i64 limsL := Lib.tabIs_of_head (rest := []) gTab gTabType Tryd.underlying80 Tryd.underlying3 cells3 cells80 h
  have c0 : W.cell? ⟨0, 0, none⟩ = some (.int .i64 7) := ht.cell gTab 0 (by decide)
  have c1 : W.cell? ⟨0, 1, none⟩ = some (.int .i64 9) := ht.cell gTab 1 (by decide)
  have c2 : W.cell? ⟨0, 2, none⟩ = some (.int .i64 11) := ht.cell gTab 2 (by decide)
  have c3 : W.cell? ⟨0, 3, none⟩ = some (.int .i64 99) := ht.cell gTab 3 (by decide)
  intro j u hj
  match j, hj with
  | 0, hj => simp [limsL] at hj; subst hj; exact cell_all c0
  | 1, hj => simp [limsL] at hj; subst hj; exact cell_all c1
  | 2, hj => simp [limsL] at hj; subst hj; exact cell_all c2
  | 3, hj => simp [limsL] at hj; subst hj; exact cell_all c3
  | j + 4, hj => simp [limsL] at hj
noncomputable def laidWorld (os : Os) : World :=
  { World.holding Tryd.prog os ⟨#[], #[], []⟩ with heap := (World.holding Tryd.prog os ⟨#[], #[], []⟩).heap.modify 0 fun
      | .cells _ t frozen => .cells #[.int .i64 7, .int .i64 9, .int .i64 11, .int .i64 99] t frozen
      | o => o }
theorem rdb_K4 : Rdb (α := K4) Tryd.prog 68 (fun _ x => K4ok x) := fun H enc w fuel cs x h => by
  have hl : cs.length = 4 := len_a (by kernel_rfl) Tryd.underlying68 h
  match cs, hl with
  | [c0, c1, c2, c3], _ =>
  obtain ⟨a0, e0, o0⟩ := (rdb_int Tryd.underlying3).at_ (part_a 0 h (by decide))
  obtain ⟨a1, e1, o1⟩ := (rdb_int Tryd.underlying3).at_ (part_a 1 h (by decide))
  obtain ⟨a2, e2, o2⟩ := (rdb_int Tryd.underlying3).at_ (part_a 2 h (by decide))
  obtain ⟨a3, e3, o3⟩ := (rdb_int Tryd.underlying3).at_ (part_a 3 h (by decide))
  simp [Cl.cells] at e0 e1 e2 e3
  subst e0 e1 e2 e3
  exact ⟨⟨a0, a1, a2, a3⟩, rfl, o0, o1, o2, o3⟩
end Go.Proofs.YtogfficbloejcaaDoor
namespace Go.Proofs.YtogfficbloejcaaDoor
open Go Go.X
open Go.ChangeShapes Go.WideShapes Go.ChangeAt Go.RowKit
set_option linter.unusedVariables false
set_option maxHeartbeats 1600000 in
set_option maxRecDepth 100000 in
theorem contract6 (H : Type) (enc : TypeId × Value → H) (W : World) (base : Nat) (args : Array Value) (ds gs : List (DataW H)) (before : List MemPlace)
    (hval0 : ∀ (j : Nat) t v, Tryd.f6.params[j]? = some t → args[j]? = some v → Value.okWide Tryd.prog W .any base t v)
    (hW : DataW.Whole enc Tryd.prog Tryd.f6.params.toList Rows.sketchQuantileSpec.vars false W args.toList ds gs before) (hL : laidMetH Tryd.prog Rows.sketchQuantileRow.laid W) :
    Calls Tryd.prog 6 args W fun e W' => ∃ v, e = .returned v ∧ Rows.sketchQuantileSpec.post enc Tryd.prog Tryd.f6 false true false false W args v W' := by
  have hval : ∀ (j : Nat) t v, Tryd.f6.params[j]? = some t → args[j]? = some v → Value.okWide Tryd.prog W .any base t v := hval0
  have hW' := hW
  obtain ⟨p, q, hA0, hV, rfl, hfz, hnd⟩ := hW
  have hA : DataW.TrodAll enc Tryd.prog W 0 (fun _ => true) true Tryd.f6.params.toList args.toList ds p := hA0
  rw [Tryd.params6] at hA hval
  obtain ⟨v0, vs0, d0, ds0, p0, q0, hargs, rfl, rfl, h0, r0⟩ := trodAll_cons hA
  obtain ⟨v1, vs1, d1, ds1, p1, q1, rfl, rfl, rfl, h1, r1⟩ := trodAll_cons r0
  obtain ⟨v2, vs2, d2, ds2, p2, q2, rfl, rfl, rfl, h2, r2⟩ := trodAll_cons r1
  obtain ⟨v3, vs3, d3, ds3, p3, q3, rfl, rfl, rfl, h3, r3⟩ := trodAll_cons r2
  obtain ⟨rfl, rfl, rfl⟩ := trodAll_nil r3
  obtain rfl : args = #[v0, v1, v2, v3] := by cases args; simp_all
  obtain ⟨rfl, rfl⟩ := trodVars_none hV
  have k0 := h0
  have lt0 : ∀ x ∈ p0, x.block < W.heap.size := by obtain ⟨m, hm⟩ := k0; exact DataW.trod_lt m _ _ _ hm
  have k1 := h1
  have lt1 : ∀ x ∈ p1, x.block < W.heap.size := by obtain ⟨m, hm⟩ := k1; exact DataW.trod_lt m _ _ _ hm
  have k2 := h2
  have lt2 : ∀ x ∈ p2, x.block < W.heap.size := by obtain ⟨m, hm⟩ := k2; exact DataW.trod_lt m _ _ _ hm
  have k3 := h3
  have lt3 : ∀ x ∈ p3, x.block < W.heap.size := by obtain ⟨m, hm⟩ := k3; exact DataW.trod_lt m _ _ _ hm
  obtain ⟨a0, len0, cap0, rfl⟩ := okWide_slice Tryd.underlying25 (hval 0 25 v0 rfl rfl)
  obtain ⟨xs0, rfl, gl0, gA0, gx0⟩ := open_sl (α := K4) Tryd.underlying25 (by kernel_rfl) rdb_K4 rfl h0
  obtain ⟨a1, len1, cap1, rfl⟩ := okWide_slice Tryd.underlying43 (hval 1 43 v1 rfl rfl)
  obtain ⟨xs1, rfl, gl1, gA1, gx1⟩ := open_sl (α := Int) Tryd.underlying43 (by kernel_rfl) (rdb_int Tryd.underlying3) rfl h1
  obtain ⟨a2, rfl, e1_2, e2_2, w2⟩ := open_int Tryd.underlying3 (hval 2 3 v2 rfl rfl) h2
  obtain ⟨a3, rfl, e1_3, e2_3, w3⟩ := open_int Tryd.underlying3 (hval 3 3 v3 rfl rfl) h3
  refine (calls_of_con (f6_law xs0 a0 cap0 xs1 a1 cap1 a2 a3 (allOf W) (gl_laid hL) gA0 gl0 gx0 gA1 gl1 gx1 (i64_wf w2) (i64_wf w3)) fun _ _ _ h => h).mono fun e W' ⟨he, bel⟩ => ?_
  subst he
  exact ⟨_, rfl, _, _, _, [], _, [], hW', trodAll_mk1 (shut_bool Tryd.underlying4 _), (trodAll_cons_mk (Below.trod laidOut (by kernel_rfl) (of_decide_eq_true (by kernel_rfl)) k0 bel lt0) (trodAll_cons_mk (Below.trod laidOut (by kernel_rfl) (of_decide_eq_true (by kernel_rfl)) k1 bel lt1) (trodAll_cons_mk (Below.trod laidOut (by kernel_rfl) (of_decide_eq_true (by kernel_rfl)) k2 bel lt2) (trodAll_cons_mk (Below.trod laidOut (by kernel_rfl) (of_decide_eq_true (by kernel_rfl)) k3 bel lt3) trodAll_mk0)))), rfl, bel.frame _, fun h => by cases h⟩
theorem laid_met6 (os : Os) : laidMet Tryd.prog Rows.sketchQuantileRow.laid ((laidWorld os).forCall (fun _ _ => 0) ⟨#[], #[.slice none 0 0, .slice none 0 0, .int .i64 0, .int .i64 0], []⟩).memory :=
  laidMet_of_run' 8 (by kernel_rfl) (by kernel_rfl)
theorem reads6 (os : Os) {H : Type} (enc : TypeId × Value → H) : ∃ places, DataW.whole enc Tryd.prog ((laidWorld os).forCall (fun _ _ => 0) ⟨#[], #[.slice none 0 0, .slice none 0 0, .int .i64 0, .int .i64 0], []⟩).memory Tryd.f6.params.toList Rows.sketchQuantileSpec.vars false (#[.slice none 0 0, .slice none 0 0, .int .i64 0, .int .i64 0] : Array Value).toList 8 = some ([.nil, .nil, .lit (.int .i64 0), .lit (.int .i64 0)], [], places) :=
  ⟨[], by kernel_rfl⟩
set_option maxRecDepth 100000 in
theorem lifted6 (os : Os) (started : os.Started) (H : Type) (enc : TypeId × Value → H) (F : Stop.Interp) :
    ReturnsInHanded {} Tryd.checked os 6 .any ((OpenSpec.ofChange Rows.sketchQuantileSpec).preRow enc Tryd.prog Tryd.f6 Rows.sketchQuantileRow.domain false Rows.sketchQuantileRow.laid) (((OpenSpec.ofChange Rows.sketchQuantileSpec).at F).post enc Tryd.prog Tryd.f6 false true false false) := by
  obtain ⟨places, hx⟩ := reads6 os enc
  refine returnsInHanded_of_row (C := Tryd.checked) (s := OpenSpec.ofChange Rows.sketchQuantileSpec) own started (by kernel_rfl) Tryd.func6
    (witness_row_at (enc := enc) (C := Tryd.checked) false (laidWorld os) #[.slice none 0 0, .slice none 0 0, .int .i64 0, .int .i64 0] rfl (by kernel_rfl) (by kernel_rfl) (by kernel_rfl)
      (OpenSpec.preRow_of_cond 8 hx (by kernel_rfl) (fun k hk => by cases hk) (by kernel_rfl) (laid_met6 os))) ?_
  intro W base args ds gs before hval hW _ _ _ hL _ _
  exact contract6 H enc W base args ds gs before hval hW hL
theorem said6 : Rows.SketchQuantileSaid :=
  OpenClaim.holds_of_cond 6 Tryd.f6 rfl rfl rfl rfl rfl rfl rfl ⟨rfl, rfl, rfl, rfl, rfl⟩ rfl rfl rfl rfl rfl (by kernel_rfl) Tryd.func6 (by kernel_rfl)
    (of_decide_eq_true (by kernel_rfl)) (by unfold Func.isWrapper; rw [if_neg (of_decide_eq_false (by kernel_rfl))]; exact ⟨rfl, rfl⟩)
    (fun os started H enc _ F => by rw [OpenClaim.pre_eq_preRow]; exact lifted6 os started H enc F)
theorem plain6 (f : FuncId) (fn : Func) (hf : Tryd.pinned.checked.prog.funcNamed "latecomer/latecomerlaw17.SketchQuantile" = some f) (hfn : Tryd.pinned.checked.prog.funcs[f]? = some fn) :
    false = Tryd.pinned.checked.prog.looks [] ∧ ∀ (j : Nat) t, fn.params[j]? = some t → Tryd.pinned.checked.prog.wantsStandIn t = false := by
  obtain rfl : f = 6 := Option.some.inj ((show Tryd.prog.funcNamed "latecomer/latecomerlaw17.SketchQuantile" = some 6 by kernel_rfl).symm.trans hf) |>.symm
  obtain rfl : fn = Tryd.f6 := (Option.some.inj (Tryd.func6.symm.trans hfn)).symm
  refine ⟨by kernel_rfl, fun j t ht => ?_⟩
  rw [Tryd.params6] at ht
  have hm := Array.mem_of_getElem? ht
  simp only [List.mem_toArray, List.mem_cons, List.not_mem_nil, or_false] at hm
  rcases hm with rfl | rfl | rfl | rfl
  · exact (show Tryd.prog.wantsStandIn 25 = false by kernel_rfl)
  · exact (show Tryd.prog.wantsStandIn 43 = false by kernel_rfl)
  · exact (show Tryd.prog.wantsStandIn 3 = false by kernel_rfl)
  · exact (show Tryd.prog.wantsStandIn 3 = false by kernel_rfl)
theorem sketchQuantile_holds : Rows.SketchQuantileCardSaid :=
  Claim7.holds_tied_plain_at .later [] _ _ _ _ said6 (fun _ h => by cases h) (by kernel_rfl) (fun _ h => by cases h) sketchQuantile_row_tie rfl ⟨rfl, rfl⟩ (by kernel_rfl) rfl plain6 (by kernel_rfl)
#print axioms sketchQuantile_holds
end Go.Proofs.YtogfficbloejcaaDoor
