/- SketchSums returns true for every input, and each argument reads afterwards as it read before; the one listed package variable starts as the program's text lays it, and the given tie to the text is used. -/
import Derived.Test.YtogfficbloejcaaDoorBc
import Derived.Test.YtogfficbloejcaaDoorXA
import Derived.Test.YtogfficbloejcaaDoorRows
import Derived.Lib.LaidTab
import Derived.Deep.DeepHandedRow
import Derived.OpenShut
import Derived.ProofKit
import Derived.Test.YtogfficbloejcaaDoorCards
import Derived.Test.YtogfficbloejcaaDoorTie
namespace Go.Proofs.YtogfficbloejcaaDoor
open Go Go.X
set_option maxRecDepth 10000
set_option linter.unusedVariables false
attribute [local irreducible] Code.wpIn wpListIn Exit.then Exit.inBlock X.Out X.Back X.W X.Ev X.Con X.BinV X.Wh X.Wn X.Wq
theorem Good.of {L : List Fa} (h : ∀ x ∈ L, FactP x) (hl : L.length ≤ 400) : Good L := ⟨h, hl⟩
theorem Good.app {L M : List Fa} (h : ∀ x ∈ L, FactP x) (k : ∀ x ∈ M, FactP x) (hl : L.length + M.length ≤ 400) : Good (L ++ M) :=
  ⟨fun x hx => (List.mem_append.1 hx).elim (h x) (k x), by rw [List.length_append]; exact hl⟩
theorem MakeF {L : List Fa} (hL : Good L) (A : Option Addr) (c : Nat) (S : SH) (hG : Gl S) (hA : At S A L) : Con Tryd.prog 16 #[.slice A L.length c] S [] (fun S' L' r => L' = [] ∧ ∃ B n d s, r = .tuple #[.agg [.slice B n d].toArray, .int .i64 0] ∧ SkV S' (.agg [.slice B n d].toArray) s ∧ IsSk s L ∧ Gl S') :=
  (MakeG_con hL A c S hG hA).mono fun S' L' r hle ⟨h1, v, s, e, h2, h3⟩ => by
    obtain ⟨B, n, d, rfl⟩ := h2.form
    exact ⟨h1, B, n, d, s, e, h2, h3, hG.le hle⟩
theorem MergeF {va vb : Value} {a b : List PC} {L M : List Fa} (hg : Good (L ++ M)) (S : SH) (hG : Gl S) (ha : SkV S va a) (hb : SkV S vb b) (h1 : IsSk a L) (h2 : IsSk b M) : Con Tryd.prog 21 #[va, vb] S [] (fun S' L' r => L' = [] ∧ ∃ B n d s, r = .tuple #[.agg [.slice B n d].toArray, .int .i64 0] ∧ SkV S' (.agg [.slice B n d].toArray) s ∧ IsSk s (L ++ M) ∧ Gl S') :=
  (MergeG_con hg S hG ha hb h1 h2).mono fun S' L' r hle ⟨h1, v, s, e, h2, h3⟩ => by
    obtain ⟨B, n, d, rfl⟩ := h2.form
    exact ⟨h1, B, n, d, s, e, h2, h3, hG.le hle⟩
theorem SubF {va vb : Value} {a b : List PC} {L M N : List Fa} (hL : Good L) (hp : L.Perm (M ++ N)) (S : SH) (hG : Gl S) (ha : SkV S va a) (hb : SkV S vb b) (h1 : IsSk a L) (h2 : IsSk b M) : Con Tryd.prog 23 #[va, vb] S [] (fun S' L' r => L' = [] ∧ ∃ B n d s, r = .tuple #[.agg [.slice B n d].toArray, .int .i64 0] ∧ SkV S' (.agg [.slice B n d].toArray) s ∧ IsSk s N ∧ Gl S') :=
  (SubG_con hL hp S hG ha hb h1 h2).mono fun S' L' r hle ⟨h1, v, s, e, h2, h3⟩ => by
    obtain ⟨B, n, d, rfl⟩ := h2.form
    exact ⟨h1, B, n, d, s, e, h2, h3, hG.le hle⟩
theorem SubBadF {va vb : Value} {a b : List PC} {L M : List Fa} (hg : Good (L ++ M)) (hne : M ≠ []) (S : SH) (hG : Gl S) (ha : SkV S va a) (hb : SkV S vb b) (h1 : IsSk a L) (h2 : IsSk b (L ++ M)) : Con Tryd.prog 23 #[va, vb] S [] (fun S' L' r => L' = [] ∧ ∃ B n d, r = .tuple #[.agg [.slice B n d].toArray, .int .i64 170]) :=
  (SubBad_con hg hne S hG ha hb h1 h2).mono fun S' L' r hle ⟨h1, v, s, e, h2⟩ => by
    obtain ⟨B, n, d, rfl⟩ := h2.form
    exact ⟨h1, B, n, d, e⟩
set_option maxHeartbeats 3200000 in
theorem f4_law (xs : List K4) (A : Option Addr) (ca : Nat) (ys : List K4) (B : Option Addr) (cb : Nat) (zs : List K4) (E : Option Addr) (ce : Nat) (turn : Int) (S : SH) (hG : Gl S) (hA : At S A xs) (lx : xs.length ≤ ca) (hx : ∀ x ∈ xs, K4ok x) (hB : At S B ys) (ly : ys.length ≤ cb) (hy : ∀ x ∈ ys, K4ok x) (hE : At S E zs) (lz : zs.length ≤ ce) (hz : ∀ x ∈ zs, K4ok x) (ht : i64 turn) :
    Con Tryd.prog 4 #[.slice A xs.length ca, .slice B ys.length cb, .slice E zs.length ce, .int .i64 turn] S [] (fun _ _ v => v = .bool true) := by
  refine con_of (args := [.slice A xs.length ca, .slice B ys.length cb, .slice E zs.length ce, .int .i64 turn]) Tryd.func4 rfl Tryd.ntmps4 rfl fun w => ?_
  (repeat (first | refine Jc ?_ | ((apply z_call; rfl; rfl; rfl; exact sane_con S hG; rintro S1 _ _ hle1 ⟨rfl, rfl⟩)) | refine Jo ?_ | intro _))
  (repeat (first | refine Jc ?_ | ((apply z_call; rfl; rfl; rfl; exact MadeFacts_con xs A ca S1 (hA.le hle1) hx; rintro S2 _ _ hle2 ⟨rfl, Al, cl, l, rfl, hAl, hcl, hll, hlf⟩)) | refine Jo ?_ | intro _))
  (repeat (first | refine Jc ?_ | ((apply z_call; rfl; rfl; rfl; exact MadeFacts_con ys B cb S2 (hB.le (hle1.trans hle2)) hy; rintro S3 _ _ hle3 ⟨rfl, Am, cm, m, rfl, hAm, hcm, hlm, hmf⟩)) | refine Jo ?_ | intro _))
  have gl : Good l := .of hlf (by omega)
  have gm : Good m := .of hmf (by omega)
  (repeat (first | refine Jc ?_ | ((apply z_call; rfl; rfl; rfl; exact MakeF gl Al cl S3 (hG.le ((hle1.trans hle2).trans hle3)) (hAl.le hle3); rintro S4 _ _ hle4 ⟨rfl, Aa, na, ka, a, rfl, hsa, hia, hG4⟩)) | refine Jo ?_ | intro _))
  (repeat (first | refine Jc ?_ | ((apply z_call; rfl; rfl; rfl; exact MakeF gm Am cm S4 hG4 (hAm.le hle4); rintro S5 _ _ hle5 ⟨rfl, Ab, nb, kb, b, rfl, hsb, hib, hG5⟩)) | refine Jo ?_ | intro _))
  (repeat (first | refine Jc ?_ | ((apply z_call; rfl; rfl; rfl; exact MadeFacts_con zs E ce S5 (hE.le ((((hle1.trans hle2).trans hle3).trans hle4).trans hle5)) hz; rintro S6 _ _ hle6 ⟨rfl, An, cn, nn, rfl, hAn, hcn, hln, hnf⟩)) | refine Jo ?_ | intro _))
  have gn : Good nn := .of hnf (by omega)
  (repeat (first | refine Jc ?_ | ((apply z_call; rfl; rfl; rfl; exact MakeF gn An cn S6 (hG5.le hle6) hAn; rintro S7 _ _ hle7 ⟨rfl, Ac, nc, kc, c, rfl, hsc, hic, hG7⟩)) | refine Jo ?_ | intro _))
  have hAl7 : At S7 Al l := hAl.le (by repeat (first | exact Le.refl _ | assumption | refine Le.trans ?_ (by assumption)))
  have hAm7 : At S7 Am m := hAm.le (by repeat (first | exact Le.refl _ | assumption | refine Le.trans ?_ (by assumption)))
  rename_i b0
  have ho0 := Ows.full (α := Fa) (e := 27) (g := b0) (cs := []) (l := []) rfl (by decide)
  (repeat (first | refine Jc ?_ | (apply s_append_st (ms := l) hAl7; (case hg => rfl); (case hd => rfl); (case hx => rfl); (case ho => exact ho0); (case hL => (repeat (first | exact pm_nil _ | exact pm_refl _ _ | exact pm_self _ | apply pm_cons | apply pm_app))); (case hy => rfl); (case hm => first | rfl | simp); (case hzs => rfl); (case h0 => decide); (case hb => first | (simp; omega) | simp); (case h63 => first | (simp; omega) | simp); intro v1' ob1 ho1) | refine Jo ?_ | intro _))
  (repeat (first | refine Jc ?_ | (apply s_append_st (ms := m) hAm7; (case hg => rfl); (case hd => rfl); (case hx => rfl); (case ho => exact ho1); (case hL => (repeat (first | exact pm_nil _ | exact pm_refl _ _ | exact pm_self _ | apply pm_cons | apply pm_app))); (case hy => rfl); (case hm => first | rfl | simp); (case hzs => rfl); (case h0 => decide); (case hb => first | (simp; omega) | simp); (case h63 => first | (simp; omega) | simp); intro v2' ob2 ho2; refine W.freezeOws ho2 (by repeat (first | exact pm_nil _ | exact pm_refl _ _ | exact pm_self _ | refine pm_cons ?_ | refine pm_app ?_)) fun S8 hle8 hr8 => ?_; obtain ⟨A8, c8, rfl, hc8, hA8⟩ := hr8) | refine Jo ?_ | intro _))
  have hte : [] ++ l ++ m = l ++ m := by simp
  rw [hte] at hA8 hc8 ⊢
  clear hte ho1 ho2
  have htl : (l ++ m).length = l.length + m.length := List.length_append
  have gt : Good (l ++ m) := .app hlf hmf (by omega)
  generalize hlm2 : l ++ m = t at *
  obtain ⟨kt, hk, hk2⟩ : ∃ k : Nat, pickI turn ((t.length : Int) + 1) = k ∧ k ≤ t.length := by
    have h := pickI_bd turn ((t.length : Int) + 1) (by omega)
    exact ⟨(pickI turn ((t.length : Int) + 1)).toNat, by omega, by omega⟩
  have hpk := lpick_con turn ((t.length : Int) + 1) S8 ht (by omega)
  rw [hk] at hpk
  (repeat (first | refine Jc ?_ | ((apply z_call; rfl; rfl; rfl; exact hpk; rintro _ _ _ - ⟨rfl, rfl, rfl⟩)) | refine Jo ?_ | intro _))
  rename_i b3 b2 b1
  have gp : Good (t.drop kt ++ t.take kt) := gt.perm (by
    refine (List.Perm.of_eq (List.take_append_drop kt t).symm).trans List.perm_append_comm)
  have hG8 := hG7.le hle8
  refine c_meet (fun S' L F => Le S8 S' ∧ ∃ bx Ar nr kr r, SkV S' (.agg [.slice Ar nr kr].toArray) r ∧ IsSk r (t.drop kt ++ t.take kt) ∧ L = [(bx, .cells [.slice Ar nr kr].toArray 24 (0, 0)), (b1, .cells [.slice Ac nc kc].toArray 24 (0, 0)), (b2, .cells [.slice Ab nb kb].toArray 24 (0, 0)), (b3, .cells [.slice Aa na ka].toArray 24 (0, 0))] ∧
    F = [(21, .int .i64 0), (20, .pointer (some ⟨bx, 0, none⟩)), (17, .int .i64 0), (16, .pointer (some ⟨b1, 0, none⟩)), (15, .int .i64 0), (14, .pointer (some ⟨b2, 0, none⟩)), (13, .int .i64 0), (12, .pointer (some ⟨b3, 0, none⟩)), (9, .bool true), (8, .bool false)]) ?_ ?_
  · ((apply c_held ([(b1, .cells [.slice Ac nc kc].toArray 24 (0, 0)), (b2, .cells [.slice Ab nb kb].toArray 24 (0, 0)), (b3, .cells [.slice Aa na ka].toArray 24 (0, 0))]); (case hL => (repeat (first | exact List.Sublist.refl _ | exact List.Sublist.slnil | exact List.nil_sublist _ | exact List.sublist_append_left _ _ | apply List.Sublist.cons_cons | (apply List.Sublist.append; exact List.Sublist.refl _) | apply List.Sublist.cons | refine List.Sublist.trans ?_ (List.sublist_append_right _ _))))); refine Jf 1 ?_; refine Jf 2 ?_; (apply h_slice_lo hA8 3; (case hi => rfl); (case hr => kernel_rfl); (case hfr => kernel_rfl); (case hsel => kernel_rfl); (case hg => rfl); (case hd => rfl); (case i1 => infer_instance); (case i2 => infer_instance); (case hx => rfl); (case hy => rfl); (case hm => rfl); (case hmc => omega); (case hj => omega); intro A9 hA9); refine Jf 5 ?_; refine Jf 6 ?_; (apply h_slice_hi hA8 7; (case hi => rfl); (case hr => kernel_rfl); (case hfr => kernel_rfl); (case hsel => kernel_rfl); (case hg => rfl); (case hd => rfl); (case i1 => infer_instance); (case i2 => infer_instance); (case hx => rfl); (case hy => rfl); (case hm => rfl); (case hmc => omega); (case hj => omega); intro A10 hA10); (apply h_two 0 13; (case hr => kernel_rfl)); (case k1 => ((apply n_buildSlice; (case hi => rfl); (case hg => rfl); (case hd => rfl); (case i1 => infer_instance); (case i2 => infer_instance); (case i3 => infer_instance); (case hp => rfl); (case hq => rfl); (case hm => rfl); (case hv => rfl); (case hl => rfl); intro b0); (apply h_two 4 13; (case hr => kernel_rfl)); (case k1 => ((apply n_append_st (ms := t.drop kt) hA9; (case hi => rfl); (case hT => infer_instance); (case hsz => infer_instance); (case hz => infer_instance); (case hby => infer_instance); (case hg => rfl); (case hd => rfl); (case hx => rfl); (case ho => exact Ows.full (α := Fa) (e := 27) (g := b0) (cs := []) (l := []) rfl (by decide)); (case hL => (repeat (first | exact pm_nil _ | exact pm_refl _ _ | exact pm_self _ | apply pm_cons | apply pm_app))); (case hy => rfl); (case hm => first | rfl | simp); (case hzs => rfl); (case h0 => decide); (case hb => first | (simp; omega) | simp); (case h63 => first | (simp; omega) | simp); (case hsub => first | (intro _ _; exact List.nil_sublist _) | (intros; (repeat (first | exact List.Sublist.refl _ | exact List.Sublist.slnil | exact List.nil_sublist _ | exact List.sublist_append_left _ _ | apply List.Sublist.cons_cons | (apply List.Sublist.append; exact List.Sublist.refl _) | apply List.Sublist.cons | refine List.Sublist.trans ?_ (List.sublist_append_right _ _))))); intro v1' ob1 ho1); (apply h_two 8 13; (case hr => kernel_rfl)); (case k1 => ((apply n_append_st (ms := t.take kt) hA10; (case hi => rfl); (case hT => infer_instance); (case hsz => infer_instance); (case hz => infer_instance); (case hby => infer_instance); (case hg => rfl); (case hd => rfl); (case hx => rfl); (case ho => exact ho1); (case hL => (repeat (first | exact pm_nil _ | exact pm_refl _ _ | exact pm_self _ | apply pm_cons | apply pm_app))); (case hy => rfl); (case hm => first | rfl | simp); (case hzs => rfl); (case h0 => decide); (case hb => first | (simp; omega) | simp); (case h63 => first | (simp; omega) | simp); (case hsub => first | (intro _ _; exact List.nil_sublist _) | (intros; (repeat (first | exact List.Sublist.refl _ | exact List.Sublist.slnil | exact List.nil_sublist _ | exact List.sublist_append_left _ _ | apply List.Sublist.cons_cons | (apply List.Sublist.append; exact List.Sublist.refl _) | apply List.Sublist.cons | refine List.Sublist.trans ?_ (List.sublist_append_right _ _))))); intro v2' ob2 ho2; refine Wh.freezeOws ho2 (by repeat (first | exact pm_nil _ | exact pm_refl _ _ | exact pm_self _ | refine pm_cons ?_ | refine pm_app ?_)) (by repeat (first | exact List.Sublist.refl _ | exact List.Sublist.slnil | exact List.nil_sublist _ | exact List.sublist_append_left _ _ | refine List.Sublist.cons_cons _ ?_ | refine List.Sublist.append (List.Sublist.refl _) ?_ | refine List.Sublist.cons _ ?_ | refine List.Sublist.trans ?_ (List.sublist_append_right _ _))) fun S9 hle9 hr9 => ?_; obtain ⟨A11, c11, rfl, hc11, hA11⟩ := hr9); (apply h_two 9 13; (case hr => kernel_rfl)); (case k1 => ((apply n_call; (case hi => rfl); (case i1 => infer_instance); (case hg => rfl); (case hd => rfl); (case ha => rfl); (case hc => exact MakeF gp A11 c11 _ (hG8.le hle9) hA11); (case hL => (repeat (first | exact pm_nil _ | exact pm_refl _ _ | exact pm_self _ | apply pm_cons | apply pm_app))); (case hsub => (intros; (repeat (first | exact List.Sublist.refl _ | exact List.Sublist.slnil | exact List.nil_sublist _ | exact List.sublist_append_left _ _ | apply List.Sublist.cons_cons | (apply List.Sublist.append; exact List.Sublist.refl _) | apply List.Sublist.cons | refine List.Sublist.trans ?_ (List.sublist_append_right _ _))))); rintro S10 _ _ hle10 ⟨rfl, Ar, nr, kr, r, rfl, hsr, hir, hG10⟩); refine Jf 10 ?_; refine Jf 11 ?_; refine Jf 12 ?_; (apply h_one 13; (case hr => kernel_rfl)); (refine Jn ?_; try intro _); (apply h_one 14; (case hr => kernel_rfl)); (refine Jn ?_; try intro _); refine Jf 15 ?_; (apply h_end; (case hr => kernel_rfl)); (apply q_then; exact q_cut ⟨hle9.trans hle10, _, Ar, nr, kr, r, hsr, hir, rfl, rfl⟩ (by repeat (first | exact Sub.nil rfl | exact Sub.marked rfl | refine Sub.cons rfl ?_)) (by repeat (first | exact List.Sublist.refl _ | exact List.Sublist.slnil | exact List.nil_sublist _ | exact List.sublist_append_left _ _ | refine List.Sublist.cons_cons _ ?_ | refine List.Sublist.append (List.Sublist.refl _) ?_ | refine List.Sublist.cons _ ?_ | refine List.Sublist.trans ?_ (List.sublist_append_right _ _)))))); (case k2 => ((refine Jn ?_; try intro _); (apply h_one 9; (case hr => kernel_rfl)); (apply n_call; (case hi => rfl); (case i1 => infer_instance); (case hg => rfl); (case hd => rfl); (case ha => rfl); (case hc => exact MakeF gp A11 c11 _ (hG8.le hle9) hA11); (case hL => (repeat (first | exact pm_nil _ | exact pm_refl _ _ | exact pm_self _ | apply pm_cons | apply pm_app))); (case hsub => (intros; (repeat (first | exact List.Sublist.refl _ | exact List.Sublist.slnil | exact List.nil_sublist _ | exact List.sublist_append_left _ _ | apply List.Sublist.cons_cons | (apply List.Sublist.append; exact List.Sublist.refl _) | apply List.Sublist.cons | refine List.Sublist.trans ?_ (List.sublist_append_right _ _))))); rintro S10 _ _ hle10 ⟨rfl, Ar, nr, kr, r, rfl, hsr, hir, hG10⟩); refine Jf 10 ?_; refine Jf 11 ?_; refine Jf 12 ?_; (apply h_one 14; (case hr => kernel_rfl)); (refine Jn ?_; try intro _); refine Jf 15 ?_; (apply h_end; (case hr => kernel_rfl)); (apply q_then; exact q_cut ⟨hle9.trans hle10, _, Ar, nr, kr, r, hsr, hir, rfl, rfl⟩ (by repeat (first | exact Sub.nil rfl | exact Sub.marked rfl | refine Sub.cons rfl ?_)) (by repeat (first | exact List.Sublist.refl _ | exact List.Sublist.slnil | exact List.nil_sublist _ | exact List.sublist_append_left _ _ | refine List.Sublist.cons_cons _ ?_ | refine List.Sublist.append (List.Sublist.refl _) ?_ | refine List.Sublist.cons _ ?_ | refine List.Sublist.trans ?_ (List.sublist_append_right _ _)))))))); (case k2 => ((refine Jn ?_; try intro _); (apply h_one 8; (case hr => kernel_rfl)); (apply n_append_st (ms := t.take kt) hA10; (case hi => rfl); (case hT => infer_instance); (case hsz => infer_instance); (case hz => infer_instance); (case hby => infer_instance); (case hg => rfl); (case hd => rfl); (case hx => rfl); (case ho => exact ho1); (case hL => (repeat (first | exact pm_nil _ | exact pm_refl _ _ | exact pm_self _ | apply pm_cons | apply pm_app))); (case hy => rfl); (case hm => first | rfl | simp); (case hzs => rfl); (case h0 => decide); (case hb => first | (simp; omega) | simp); (case h63 => first | (simp; omega) | simp); (case hsub => first | (intro _ _; exact List.nil_sublist _) | (intros; (repeat (first | exact List.Sublist.refl _ | exact List.Sublist.slnil | exact List.nil_sublist _ | exact List.sublist_append_left _ _ | apply List.Sublist.cons_cons | (apply List.Sublist.append; exact List.Sublist.refl _) | apply List.Sublist.cons | refine List.Sublist.trans ?_ (List.sublist_append_right _ _))))); intro v2' ob2 ho2; refine Wh.freezeOws ho2 (by repeat (first | exact pm_nil _ | exact pm_refl _ _ | exact pm_self _ | refine pm_cons ?_ | refine pm_app ?_)) (by repeat (first | exact List.Sublist.refl _ | exact List.Sublist.slnil | exact List.nil_sublist _ | exact List.sublist_append_left _ _ | refine List.Sublist.cons_cons _ ?_ | refine List.Sublist.append (List.Sublist.refl _) ?_ | refine List.Sublist.cons _ ?_ | refine List.Sublist.trans ?_ (List.sublist_append_right _ _))) fun S9 hle9 hr9 => ?_; obtain ⟨A11, c11, rfl, hc11, hA11⟩ := hr9); (apply h_one 9; (case hr => kernel_rfl)); (apply n_call; (case hi => rfl); (case i1 => infer_instance); (case hg => rfl); (case hd => rfl); (case ha => rfl); (case hc => exact MakeF gp A11 c11 _ (hG8.le hle9) hA11); (case hL => (repeat (first | exact pm_nil _ | exact pm_refl _ _ | exact pm_self _ | apply pm_cons | apply pm_app))); (case hsub => (intros; (repeat (first | exact List.Sublist.refl _ | exact List.Sublist.slnil | exact List.nil_sublist _ | exact List.sublist_append_left _ _ | apply List.Sublist.cons_cons | (apply List.Sublist.append; exact List.Sublist.refl _) | apply List.Sublist.cons | refine List.Sublist.trans ?_ (List.sublist_append_right _ _))))); rintro S10 _ _ hle10 ⟨rfl, Ar, nr, kr, r, rfl, hsr, hir, hG10⟩); refine Jf 10 ?_; refine Jf 11 ?_; refine Jf 12 ?_; (apply h_one 14; (case hr => kernel_rfl)); (refine Jn ?_; try intro _); refine Jf 15 ?_; (apply h_end; (case hr => kernel_rfl)); (apply q_then; exact q_cut ⟨hle9.trans hle10, _, Ar, nr, kr, r, hsr, hir, rfl, rfl⟩ (by repeat (first | exact Sub.nil rfl | exact Sub.marked rfl | refine Sub.cons rfl ?_)) (by repeat (first | exact List.Sublist.refl _ | exact List.Sublist.slnil | exact List.nil_sublist _ | exact List.sublist_append_left _ _ | refine List.Sublist.cons_cons _ ?_ | refine List.Sublist.append (List.Sublist.refl _) ?_ | refine List.Sublist.cons _ ?_ | refine List.Sublist.trans ?_ (List.sublist_append_right _ _)))))))); (case k2 => ((refine Jn ?_; try intro _); (apply h_one 4; (case hr => kernel_rfl)); (apply n_append_st (ms := t.drop kt) hA9; (case hi => rfl); (case hT => infer_instance); (case hsz => infer_instance); (case hz => infer_instance); (case hby => infer_instance); (case hg => rfl); (case hd => rfl); (case hx => rfl); (case ho => exact Ows.full (α := Fa) (e := 27) (g := b0) (cs := []) (l := []) rfl (by decide)); (case hL => (repeat (first | exact pm_nil _ | exact pm_refl _ _ | exact pm_self _ | apply pm_cons | apply pm_app))); (case hy => rfl); (case hm => first | rfl | simp); (case hzs => rfl); (case h0 => decide); (case hb => first | (simp; omega) | simp); (case h63 => first | (simp; omega) | simp); (case hsub => first | (intro _ _; exact List.nil_sublist _) | (intros; (repeat (first | exact List.Sublist.refl _ | exact List.Sublist.slnil | exact List.nil_sublist _ | exact List.sublist_append_left _ _ | apply List.Sublist.cons_cons | (apply List.Sublist.append; exact List.Sublist.refl _) | apply List.Sublist.cons | refine List.Sublist.trans ?_ (List.sublist_append_right _ _))))); intro v1' ob1 ho1); (apply h_one 8; (case hr => kernel_rfl)); (apply n_append_st (ms := t.take kt) hA10; (case hi => rfl); (case hT => infer_instance); (case hsz => infer_instance); (case hz => infer_instance); (case hby => infer_instance); (case hg => rfl); (case hd => rfl); (case hx => rfl); (case ho => exact ho1); (case hL => (repeat (first | exact pm_nil _ | exact pm_refl _ _ | exact pm_self _ | apply pm_cons | apply pm_app))); (case hy => rfl); (case hm => first | rfl | simp); (case hzs => rfl); (case h0 => decide); (case hb => first | (simp; omega) | simp); (case h63 => first | (simp; omega) | simp); (case hsub => first | (intro _ _; exact List.nil_sublist _) | (intros; (repeat (first | exact List.Sublist.refl _ | exact List.Sublist.slnil | exact List.nil_sublist _ | exact List.sublist_append_left _ _ | apply List.Sublist.cons_cons | (apply List.Sublist.append; exact List.Sublist.refl _) | apply List.Sublist.cons | refine List.Sublist.trans ?_ (List.sublist_append_right _ _))))); intro v2' ob2 ho2; refine Wh.freezeOws ho2 (by repeat (first | exact pm_nil _ | exact pm_refl _ _ | exact pm_self _ | refine pm_cons ?_ | refine pm_app ?_)) (by repeat (first | exact List.Sublist.refl _ | exact List.Sublist.slnil | exact List.nil_sublist _ | exact List.sublist_append_left _ _ | refine List.Sublist.cons_cons _ ?_ | refine List.Sublist.append (List.Sublist.refl _) ?_ | refine List.Sublist.cons _ ?_ | refine List.Sublist.trans ?_ (List.sublist_append_right _ _))) fun S9 hle9 hr9 => ?_; obtain ⟨A11, c11, rfl, hc11, hA11⟩ := hr9); (apply h_one 9; (case hr => kernel_rfl)); (apply n_call; (case hi => rfl); (case i1 => infer_instance); (case hg => rfl); (case hd => rfl); (case ha => rfl); (case hc => exact MakeF gp A11 c11 _ (hG8.le hle9) hA11); (case hL => (repeat (first | exact pm_nil _ | exact pm_refl _ _ | exact pm_self _ | apply pm_cons | apply pm_app))); (case hsub => (intros; (repeat (first | exact List.Sublist.refl _ | exact List.Sublist.slnil | exact List.nil_sublist _ | exact List.sublist_append_left _ _ | apply List.Sublist.cons_cons | (apply List.Sublist.append; exact List.Sublist.refl _) | apply List.Sublist.cons | refine List.Sublist.trans ?_ (List.sublist_append_right _ _))))); rintro S10 _ _ hle10 ⟨rfl, Ar, nr, kr, r, rfl, hsr, hir, hG10⟩); refine Jf 10 ?_; refine Jf 11 ?_; refine Jf 12 ?_; (apply h_one 14; (case hr => kernel_rfl)); (refine Jn ?_; try intro _); refine Jf 15 ?_; (apply h_end; (case hr => kernel_rfl)); (apply q_then; exact q_cut ⟨hle9.trans hle10, _, Ar, nr, kr, r, hsr, hir, rfl, rfl⟩ (by repeat (first | exact Sub.nil rfl | exact Sub.marked rfl | refine Sub.cons rfl ?_)) (by repeat (first | exact List.Sublist.refl _ | exact List.Sublist.slnil | exact List.nil_sublist _ | exact List.sublist_append_left _ _ | refine List.Sublist.cons_cons _ ?_ | refine List.Sublist.append (List.Sublist.refl _) ?_ | refine List.Sublist.cons _ ?_ | refine List.Sublist.trans ?_ (List.sublist_append_right _ _)))))))); (case k2 => ((refine Jn ?_; try intro _); (apply h_one 0; (case hr => kernel_rfl)); (apply n_buildSlice; (case hi => rfl); (case hg => rfl); (case hd => rfl); (case i1 => infer_instance); (case i2 => infer_instance); (case i3 => infer_instance); (case hp => rfl); (case hq => rfl); (case hm => rfl); (case hv => rfl); (case hl => rfl); intro b0); (apply h_one 4; (case hr => kernel_rfl)); (apply n_append_st (ms := t.drop kt) hA9; (case hi => rfl); (case hT => infer_instance); (case hsz => infer_instance); (case hz => infer_instance); (case hby => infer_instance); (case hg => rfl); (case hd => rfl); (case hx => rfl); (case ho => exact Ows.full (α := Fa) (e := 27) (g := b0) (cs := []) (l := []) rfl (by decide)); (case hL => (repeat (first | exact pm_nil _ | exact pm_refl _ _ | exact pm_self _ | apply pm_cons | apply pm_app))); (case hy => rfl); (case hm => first | rfl | simp); (case hzs => rfl); (case h0 => decide); (case hb => first | (simp; omega) | simp); (case h63 => first | (simp; omega) | simp); (case hsub => first | (intro _ _; exact List.nil_sublist _) | (intros; (repeat (first | exact List.Sublist.refl _ | exact List.Sublist.slnil | exact List.nil_sublist _ | exact List.sublist_append_left _ _ | apply List.Sublist.cons_cons | (apply List.Sublist.append; exact List.Sublist.refl _) | apply List.Sublist.cons | refine List.Sublist.trans ?_ (List.sublist_append_right _ _))))); intro v1' ob1 ho1); (apply h_one 8; (case hr => kernel_rfl)); (apply n_append_st (ms := t.take kt) hA10; (case hi => rfl); (case hT => infer_instance); (case hsz => infer_instance); (case hz => infer_instance); (case hby => infer_instance); (case hg => rfl); (case hd => rfl); (case hx => rfl); (case ho => exact ho1); (case hL => (repeat (first | exact pm_nil _ | exact pm_refl _ _ | exact pm_self _ | apply pm_cons | apply pm_app))); (case hy => rfl); (case hm => first | rfl | simp); (case hzs => rfl); (case h0 => decide); (case hb => first | (simp; omega) | simp); (case h63 => first | (simp; omega) | simp); (case hsub => first | (intro _ _; exact List.nil_sublist _) | (intros; (repeat (first | exact List.Sublist.refl _ | exact List.Sublist.slnil | exact List.nil_sublist _ | exact List.sublist_append_left _ _ | apply List.Sublist.cons_cons | (apply List.Sublist.append; exact List.Sublist.refl _) | apply List.Sublist.cons | refine List.Sublist.trans ?_ (List.sublist_append_right _ _))))); intro v2' ob2 ho2; refine Wh.freezeOws ho2 (by repeat (first | exact pm_nil _ | exact pm_refl _ _ | exact pm_self _ | refine pm_cons ?_ | refine pm_app ?_)) (by repeat (first | exact List.Sublist.refl _ | exact List.Sublist.slnil | exact List.nil_sublist _ | exact List.sublist_append_left _ _ | refine List.Sublist.cons_cons _ ?_ | refine List.Sublist.append (List.Sublist.refl _) ?_ | refine List.Sublist.cons _ ?_ | refine List.Sublist.trans ?_ (List.sublist_append_right _ _))) fun S9 hle9 hr9 => ?_; obtain ⟨A11, c11, rfl, hc11, hA11⟩ := hr9); (apply h_one 9; (case hr => kernel_rfl)); (apply n_call; (case hi => rfl); (case i1 => infer_instance); (case hg => rfl); (case hd => rfl); (case ha => rfl); (case hc => exact MakeF gp A11 c11 _ (hG8.le hle9) hA11); (case hL => (repeat (first | exact pm_nil _ | exact pm_refl _ _ | exact pm_self _ | apply pm_cons | apply pm_app))); (case hsub => (intros; (repeat (first | exact List.Sublist.refl _ | exact List.Sublist.slnil | exact List.nil_sublist _ | exact List.sublist_append_left _ _ | apply List.Sublist.cons_cons | (apply List.Sublist.append; exact List.Sublist.refl _) | apply List.Sublist.cons | refine List.Sublist.trans ?_ (List.sublist_append_right _ _))))); rintro S10 _ _ hle10 ⟨rfl, Ar, nr, kr, r, rfl, hsr, hir, hG10⟩); refine Jf 10 ?_; refine Jf 11 ?_; refine Jf 12 ?_; (apply h_one 14; (case hr => kernel_rfl)); (refine Jn ?_; try intro _); refine Jf 15 ?_; (apply h_end; (case hr => kernel_rfl)); (apply q_then; exact q_cut ⟨hle9.trans hle10, _, Ar, nr, kr, r, hsr, hir, rfl, rfl⟩ (by repeat (first | exact Sub.nil rfl | exact Sub.marked rfl | refine Sub.cons rfl ?_)) (by repeat (first | exact List.Sublist.refl _ | exact List.Sublist.slnil | exact List.nil_sublist _ | exact List.sublist_append_left _ _ | refine List.Sublist.cons_cons _ ?_ | refine List.Sublist.append (List.Sublist.refl _) ?_ | refine List.Sublist.cons _ ?_ | refine List.Sublist.trans ?_ (List.sublist_append_right _ _)))))))
  rintro S9 L9 F9 ⟨hle9, bx, Ar, nr, kr, r, hsr, hir, rfl, rfl⟩
  have hG9 := hG8.le hle9
  have ha9 : SkV S9 (.agg [.slice Aa na ka].toArray) a := (hsa.le (((((hle5.trans hle6).trans hle7).trans hle8).trans hle9)))
  have hb9 : SkV S9 (.agg [.slice Ab nb kb].toArray) b := hsb.le (((hle6.trans hle7).trans hle8).trans hle9)
  have hc9 : SkV S9 (.agg [.slice Ac nc kc].toArray) c := hsc.le (hle8.trans hle9)
  have glm : Good (l ++ m) := .app hlf hmf (by omega)
  have gml : Good (m ++ l) := .app hmf hlf (by omega)
  have gmn : Good (m ++ nn) := .app hmf hnf (by omega)
  have gx : Good (l ++ m ++ nn) := .app glm.each hnf (by rw [List.length_append]; omega)
  have gy : Good (l ++ (m ++ nn)) := .app hlf gmn.each (by rw [List.length_append]; omega)
  have gz : Good (l ++ []) := .app hlf (fun x hx => absurd hx List.not_mem_nil) (by simp; omega)
  have g0 : Good [] := ⟨fun x hx => absurd hx List.not_mem_nil, by decide⟩
  (repeat (first | refine Jc ?_ | ((apply z_call; rfl; rfl; rfl; exact MergeF glm S9 hG9 ha9 hb9 hia hib; rintro T1 _ _ ht1 ⟨rfl, B1, n1, k1, s1, rfl, hs1, hi1, hT1⟩)) | refine Jo ?_ | intro _))
  (repeat (first | refine Jc ?_ | ((apply z_call; rfl; rfl; rfl; exact MergeF gml T1 hT1 (hb9.le ht1) (ha9.le ht1) hib hia; rintro T2 _ _ ht2 ⟨rfl, B2, n2, k2, s2, rfl, hs2, hi2, hT2⟩)) | refine Jo ?_ | intro _))
  (repeat (first | refine Jc ?_ | ((apply z_call; rfl; rfl; rfl; exact MergeF gmn T2 hT2 ((hb9.le ht1).le ht2) ((hc9.le ht1).le ht2) hib hic; rintro T3 _ _ ht3 ⟨rfl, B3, n3, k3, s3, rfl, hs3, hi3, hT3⟩)) | refine Jo ?_ | intro _))
  (repeat (first | refine Jc ?_ | ((apply z_call; rfl; rfl; rfl; exact MergeF gx T3 hT3 ((hs1.le ht2).le ht3) (((hc9.le ht1).le ht2).le ht3) hi1 hic; rintro T4 _ _ ht4 ⟨rfl, B4, n4, k4, s4, rfl, hs4, hi4, hT4⟩)) | refine Jo ?_ | intro _))
  (repeat (first | refine Jc ?_ | ((apply z_call; rfl; rfl; rfl; exact MergeF gy T4 hT4 ((((ha9.le ht1).le ht2).le ht3).le ht4) (hs3.le ht4) hia hi3; rintro T5 _ _ ht5 ⟨rfl, B5, n5, k5, s5, rfl, hs5, hi5, hT5⟩)) | refine Jo ?_ | intro _))
  (repeat (first | refine Jc ?_ | ((apply z_call; rfl; rfl; rfl; exact MakeF g0 none 0 T5 hT5 (At.nil _ _); rintro T6 _ _ ht6 ⟨rfl, B6, n6, k6, s6, rfl, hs6, hi6, hT6⟩)) | refine Jo ?_ | intro _))
  (repeat (first | refine Jc ?_ | ((apply z_call; rfl; rfl; rfl; exact MergeF gz T6 hT6 ((((((ha9.le ht1).le ht2).le ht3).le ht4).le ht5).le ht6) hs6 hia hi6; rintro T7 _ _ ht7 ⟨rfl, B7, n7, k7, s7, rfl, hs7, hi7, hT7⟩)) | refine Jo ?_ | intro _))
  have q1 : r = s1 := hir.unique hi1 (by rw [hlm2]; exact List.perm_append_comm.trans (List.Perm.of_eq (List.take_append_drop kt t)))
  have q2 : s1 = s2 := hi1.unique hi2 List.perm_append_comm
  have q3 : s4 = s5 := hi4.unique hi5 (List.Perm.of_eq (List.append_assoc _ _ _))
  have q4 : s7 = a := hi7.unique hia (List.Perm.of_eq (List.append_nil _))
  have w1 := Same_con T7 (hsr.le ((((((ht1.trans ht2).trans ht3).trans ht4).trans ht5).trans ht6).trans ht7)) (hs1.le (((((ht2.trans ht3).trans ht4).trans ht5).trans ht6).trans ht7))
  have w2 := Same_con T7 (hs1.le (((((ht2.trans ht3).trans ht4).trans ht5).trans ht6).trans ht7)) (hs2.le ((((ht3.trans ht4).trans ht5).trans ht6).trans ht7))
  have w3 := Same_con T7 (hs4.le ((ht5.trans ht6).trans ht7)) (hs5.le (ht6.trans ht7))
  have w4 := Same_con T7 hs7 (ha9.le ((((((ht1.trans ht2).trans ht3).trans ht4).trans ht5).trans ht6).trans ht7))
  rw [bP_t q1] at w1
  rw [bP_t q2] at w2
  rw [bP_t q3] at w3
  rw [bP_t q4] at w4
  (repeat (first | refine Jc ?_ | ((apply z_call; rfl; rfl; rfl; exact w1; rintro _ _ _ - ⟨rfl, rfl, rfl⟩)) | ((apply z_call; rfl; rfl; rfl; exact w2; rintro _ _ _ - ⟨rfl, rfl, rfl⟩)) | ((apply z_call; rfl; rfl; rfl; exact w3; rintro _ _ _ - ⟨rfl, rfl, rfl⟩)) | ((apply z_call; rfl; rfl; rfl; exact w4; rintro _ _ _ - ⟨rfl, rfl, rfl⟩)) | refine Jo ?_ | intro _))
  exact o_ret (L' := []) Tryd.results4 rfl (List.nil_sublist _) rfl
end Go.Proofs.YtogfficbloejcaaDoor
namespace Go.Proofs.YtogfficbloejcaaDoor
open Go Go.X
set_option maxRecDepth 10000
set_option linter.unusedVariables false
attribute [local irreducible] Code.wpIn wpListIn Exit.then Exit.inBlock X.Out X.Back X.W X.Ev X.Con X.BinV X.Wh X.Wn X.Wq
theorem own_perm (l : List Fa) (who : Int) : l.Perm (l.filter (fun x => x.pe == who) ++ l.filter (fun x => !(x.pe == who))) := (List.filter_append_perm _ l).symm
theorem fkey_len (x : Fa) : (fkey x).length = 4 := rfl
theorem IsSk.ne_nil {s : List PC} {L : List Fa} (h : IsSk s L) (hne : L ≠ []) : s ≠ [] := by
  obtain ⟨x, L', rfl⟩ := List.exists_cons_of_ne_nil hne
  intro e
  subst e
  have := (h.mem (mkPC (fkey x) (vecOf (x :: L') (fkey x)))).2 (by
    rw [mkPC_key (fkey_len x)]
    exact ⟨⟨x, List.mem_cons_self, rfl⟩, rfl⟩)
  exact absurd this List.not_mem_nil
theorem SkV.len {S : SH} {A : Option Addr} {n c : Nat} {l : List PC} (h : SkV S (.agg [.slice A n c].toArray) l) : n = l.length := by
  obtain ⟨A', c', cs, e, _, _, _, hm⟩ := h
  rw [← hm, List.length_map]
  injection e with e
  have e2 := congrArg Array.toList e
  simp at e2
  exact e2.2.1
set_option maxHeartbeats 3200000 in
theorem f5_law (xs : List K4) (A : Option Addr) (ca : Nat) (ys : List K4) (B : Option Addr) (cb : Nat) (person : Int) (S : SH) (hG : Gl S) (hA : At S A xs) (lx : xs.length ≤ ca) (hx : ∀ x ∈ xs, K4ok x) (hB : At S B ys) (ly : ys.length ≤ cb) (hy : ∀ x ∈ ys, K4ok x) (ht : i64 person) :
    Con Tryd.prog 5 #[.slice A xs.length ca, .slice B ys.length cb, .int .i64 person] S [] (fun _ _ v => v = .bool true) := by
  refine con_of (args := [.slice A xs.length ca, .slice B ys.length cb, .int .i64 person]) Tryd.func5 rfl Tryd.ntmps5 rfl fun w => ?_
  (repeat (first | refine Jc ?_ | ((apply z_call; rfl; rfl; rfl; exact sane_con S hG; rintro S1 _ _ hle1 ⟨rfl, rfl⟩)) | refine Jo ?_ | intro _))
  (repeat (first | refine Jc ?_ | ((apply z_call; rfl; rfl; rfl; exact MadeFacts_con xs A ca S1 (hA.le hle1) hx; rintro S2 _ _ hle2 ⟨rfl, Al, cl, l, rfl, hAl, hcl, hll, hlf⟩)) | refine Jo ?_ | intro _))
  have gl : Good l := .of hlf (by omega)
  (repeat (first | refine Jc ?_ | ((apply z_call; rfl; rfl; rfl; exact MakeF gl Al cl S2 (hG.le (hle1.trans hle2)) hAl; rintro S3 _ _ hle3 ⟨rfl, Aa, na, ka, a, rfl, hsa, hia, hG3⟩)) | refine Jo ?_ | intro _))
  (repeat (first | refine Jc ?_ | ((apply z_call; rfl; rfl; rfl; exact MadeFacts_con ys B cb S3 (hB.le ((hle1.trans hle2).trans hle3)) hy; rintro S4 _ _ hle4 ⟨rfl, Am, cm, m, rfl, hAm, hcm, hlm, hmf⟩)) | refine Jo ?_ | intro _))
  have gm : Good m := .of hmf (by omega)
  (repeat (first | refine Jc ?_ | ((apply z_call; rfl; rfl; rfl; exact MakeF gm Am cm S4 (hG3.le hle4) hAm; rintro S5 _ _ hle5 ⟨rfl, Ab, nb, kb, b, rfl, hsb, hib, hG5⟩)) | refine Jo ?_ | intro _))
  have glm : Good (l ++ m) := .app hlf hmf (by omega)
  have ha5 := (hsa.le hle4).le hle5
  (repeat (first | refine Jc ?_ | ((apply z_call; rfl; rfl; rfl; exact MergeF glm S5 hG5 ha5 hsb hia hib; rintro S6 _ _ hle6 ⟨rfl, Ad, nd, kd, d, rfl, hsd, hid, hG6⟩)) | refine Jo ?_ | intro _))
  (repeat (first | refine Jc ?_ | ((apply z_call; rfl; rfl; rfl; exact SubF glm List.perm_append_comm S6 hG6 hsd (hsb.le hle6) hid hib; rintro S7 _ _ hle7 ⟨rfl, Ae, ne, ke, e, rfl, hse, hie, hG7⟩)) | refine Jo ?_ | intro _))
  have hwho := pickI_bd person 6 (by decide)
  have hpk := lpick_con person 6 S7 ht (by decide)
  generalize hwv : pickI person 6 = who at *
  have hAl7 : At S7 Al l := ((((hAl.le hle3).le hle4).le hle5).le hle6).le hle7
  (repeat (first | refine Jc ?_ | ((apply z_call; rfl; rfl; rfl; exact hpk; rintro _ _ _ - ⟨rfl, rfl, rfl⟩)) | refine Jo ?_ | intro _))
  rename_i b1 b2 b3 b4
  refine c_loop (fun q S' L F => S' = S7 ∧ ∃ (i : Nat) (vo : Value) (oo : Blocks) (vt : Value) (ot : Blocks), q = l.length - i ∧ i ≤ l.length ∧ Ows 27 vo ((l.take i).filter fun x => x.pe == who - 1) oo ∧ Ows 27 vt ((l.take i).filter fun x => !(x.pe == who - 1)) ot ∧
      L = oo ++ (ot ++ [(b4, .cells [.slice Ae ne ke].toArray 24 (0, 0)), (b3, .cells [.slice Ad nd kd].toArray 24 (0, 0)), (b2, .cells [.slice Ab nb kb].toArray 24 (0, 0)), (b1, .cells [.slice Aa na ka].toArray 24 (0, 0))]) ∧
      F = [(20, .int .i64 i), (19, .int .i64 (who - 1)), (18, vt), (17, vo), (16, .int .i64 0), (15, .pointer (some ⟨b4, 0, none⟩)), (14, .int .i64 0), (13, .pointer (some ⟨b3, 0, none⟩)), (12, .int .i64 0), (11, .pointer (some ⟨b2, 0, none⟩)), (10, .int .i64 0), (9, .pointer (some ⟨b1, 0, none⟩)), (8, .slice Al l.length cl), (7, .bool true), (6, .bool false)])
    ⟨rfl, 0, _, [], _, [], rfl, by omega, Ows.nil 27, Ows.nil 27, rfl, rfl⟩ (by repeat (first | exact Sub.nil rfl | exact Sub.marked rfl | refine Sub.cons rfl ?_)) (by repeat (first | exact List.Sublist.refl _ | exact List.Sublist.slnil | exact List.nil_sublist _ | exact List.sublist_append_left _ _ | refine List.Sublist.cons_cons _ ?_ | refine List.Sublist.append (List.Sublist.refl _) ?_ | refine List.Sublist.cons _ ?_ | refine List.Sublist.trans ?_ (List.sublist_append_right _ _))) ?_
  rintro q S' L F ⟨rfl, i, vo, oo, vt, ot, rfl, hi, hoo, hot, rfl, rfl⟩
  by_cases hlt : i < l.length
  · obtain ⟨x, hx⟩ := at_lt' hlt
    have htk : l.take (i + 1) = l.take i ++ [x] := by rw [List.take_add_one, hx]; rfl
    have h1l : ((l.take i).filter fun x => x.pe == who - 1).length ≤ 40 := Nat.le_trans (List.length_filter_le _ _) (by rw [List.length_take]; omega)
    have h2l : ((l.take i).filter fun x => !(x.pe == who - 1)).length ≤ 40 := Nat.le_trans (List.length_filter_le _ _) (by rw [List.length_take]; omega)
    by_cases hp : x.pe = who - 1
    · have e1 : (l.take (i + 1)).filter (fun x => x.pe == who - 1) = (l.take i).filter (fun x => x.pe == who - 1) ++ [x] := by rw [htk, List.filter_append, List.filter_cons_of_pos (by simpa using hp)]; rfl
      have e2 : (l.take (i + 1)).filter (fun x => !(x.pe == who - 1)) = (l.take i).filter (fun x => !(x.pe == who - 1)) := by rw [htk, List.filter_append, List.filter_cons_of_neg (by simpa using hp)]; simp
      (repeat (first | refine Jc ?_ | (apply s_idx hAl7; (case hg => rfl); (case hd => rfl); (case hx => rfl); (case hi => rfl); (case hm => rfl); (case hu => exact hx); intro p (hp2 : Pts _ p x.vals)) | (apply s_load_f; (case hg => rfl); (case hd => rfl); (case hx => rfl); (case h => exact hp2); (case hv => rfl)) | (apply s_load_ag; (case hg => rfl); (case hd => rfl); (case hx => rfl); (case hv => exact hp2); (case hl => rfl)) | (apply s_append (ms := [x]); (case hg => rfl); (case hd => rfl); (case hx => rfl); (case ho => exact hoo); (case hL => (repeat (first | exact pm_nil _ | exact pm_refl _ _ | exact pm_self _ | apply pm_cons | apply pm_app))); (case hy => rfl); (case hm => rfl); (case hs => (apply Src.own; (repeat (first | exact List.Mem.head _ | apply List.Mem.tail | apply List.mem_append_right)))); (case hzs => rfl); (case h0 => decide); (case hb => (simp; omega)); (case h63 => (simp; omega)); intro v' ob' ho') | refine Jo ?_ | intro _))
      exact q_back (m' := l.length - (i + 1)) ⟨rfl, i + 1, v', ob', vt, ot, rfl, by omega, by rw [e1]; exact ho', by rw [e2]; exact hot, rfl, rfl⟩ (by omega) (by repeat (first | exact Sub.nil rfl | exact Sub.marked rfl | refine Sub.cons rfl ?_)) (by repeat (first | exact List.Sublist.refl _ | exact List.Sublist.slnil | exact List.nil_sublist _ | exact List.sublist_append_left _ _ | refine List.Sublist.cons_cons _ ?_ | refine List.Sublist.append (List.Sublist.refl _) ?_ | refine List.Sublist.cons _ ?_ | refine List.Sublist.trans ?_ (List.sublist_append_right _ _)))
    · have e1 : (l.take (i + 1)).filter (fun x => x.pe == who - 1) = (l.take i).filter (fun x => x.pe == who - 1) := by rw [htk, List.filter_append, List.filter_cons_of_neg (by simpa using hp)]; simp
      have e2 : (l.take (i + 1)).filter (fun x => !(x.pe == who - 1)) = (l.take i).filter (fun x => !(x.pe == who - 1)) ++ [x] := by rw [htk, List.filter_append, List.filter_cons_of_pos (by simpa using hp)]; rfl
      (repeat (first | refine Jc ?_ | (apply s_idx hAl7; (case hg => rfl); (case hd => rfl); (case hx => rfl); (case hi => rfl); (case hm => rfl); (case hu => exact hx); intro p (hp2 : Pts _ p x.vals)) | (apply s_load_f; (case hg => rfl); (case hd => rfl); (case hx => rfl); (case h => exact hp2); (case hv => rfl)) | (apply s_load_ag; (case hg => rfl); (case hd => rfl); (case hx => rfl); (case hv => exact hp2); (case hl => rfl)) | (apply s_append (ms := [x]); (case hg => rfl); (case hd => rfl); (case hx => rfl); (case ho => exact hot); (case hL => (repeat (first | exact pm_nil _ | exact pm_refl _ _ | exact pm_self _ | apply pm_cons | apply pm_app))); (case hy => rfl); (case hm => rfl); (case hs => (apply Src.own; (repeat (first | exact List.Mem.head _ | apply List.Mem.tail | apply List.mem_append_right)))); (case hzs => rfl); (case h0 => decide); (case hb => (simp; omega)); (case h63 => (simp; omega)); intro v' ob' ho') | refine Jo ?_ | intro _))
      rename_i bz
      refine W.perm (L' := oo ++ (ob' ++ ((bz, _) :: [(b4, .cells [.slice Ae ne ke].toArray 24 (0, 0)), (b3, .cells [.slice Ad nd kd].toArray 24 (0, 0)), (b2, .cells [.slice Ab nb kb].toArray 24 (0, 0)), (b1, .cells [.slice Aa na ka].toArray 24 (0, 0))]))) ?_ (by repeat (first | exact pm_nil _ | exact pm_refl _ _ | exact pm_self _ | refine pm_cons ?_ | refine pm_app ?_))
      exact q_back (m' := l.length - (i + 1)) ⟨rfl, i + 1, vo, oo, v', ob', rfl, by omega, by rw [e1]; exact hoo, by rw [e2]; exact ho', rfl, rfl⟩ (by omega) (by repeat (first | exact Sub.nil rfl | exact Sub.marked rfl | refine Sub.cons rfl ?_)) (by repeat (first | exact List.Sublist.refl _ | exact List.Sublist.slnil | exact List.nil_sublist _ | exact List.sublist_append_left _ _ | refine List.Sublist.cons_cons _ ?_ | refine List.Sublist.append (List.Sublist.refl _) ?_ | refine List.Sublist.cons _ ?_ | refine List.Sublist.trans ?_ (List.sublist_append_right _ _)))
  rw [List.take_of_length_le (by omega)] at hoo hot
  refine W.freezeOws hoo (List.Perm.refl _) fun S8 hle8 hr8 => ?_
  refine W.freezeOws hot (List.Perm.refl _) fun S9 hle9 hr9 => ?_
  obtain ⟨A8, c8, rfl, hc8, hA8⟩ := hr8
  obtain ⟨A9, c9, rfl, hc9, hA9⟩ := hr9
  have hpm := own_perm l (who - 1)
  generalize hown : (l.filter fun x => x.pe == who - 1) = own at *
  generalize hoth : (l.filter fun x => !(x.pe == who - 1)) = oth at *
  have gown : Good own := gl.sub (fun x hx => hpm.mem_iff.2 (List.mem_append_left _ hx)) (by have := hpm.length_eq; rw [List.length_append] at this; omega)
  have goth : Good oth := gl.sub (fun x hx => hpm.mem_iff.2 (List.mem_append_right _ hx)) (by have := hpm.length_eq; rw [List.length_append] at this; omega)
  have hG9 := (hG7.le hle8).le hle9
  (repeat (first | refine Jc ?_ | ((apply z_call; rfl; rfl; rfl; exact MakeF gown A8 c8 S9 hG9 (hA8.le hle9); rintro T1 _ _ ht1 ⟨rfl, B1, n1, k1, s1, rfl, hs1, hi1, hT1⟩)) | refine Jo ?_ | intro _))
  (repeat (first | refine Jc ?_ | ((apply z_call; rfl; rfl; rfl; exact MakeF goth A9 c9 T1 hT1 (hA9.le ht1); rintro T2 _ _ ht2 ⟨rfl, B2, n2, k2, s2, rfl, hs2, hi2, hT2⟩)) | refine Jo ?_ | intro _))
  have ha9 : SkV T2 (.agg [.slice Aa na ka].toArray) a := (((((ha5.le hle6).le hle7).le hle8).le hle9).le ht1).le ht2
  have hb9 : SkV T2 (.agg [.slice Ab nb kb].toArray) b := (((((hsb.le hle6).le hle7).le hle8).le hle9).le ht1).le ht2
  have hd9 : SkV T2 (.agg [.slice Ad nd kd].toArray) d := ((((hsd.le hle7).le hle8).le hle9).le ht1).le ht2
  have he9 : SkV T2 (.agg [.slice Ae ne ke].toArray) e := (((hse.le hle8).le hle9).le ht1).le ht2
  have pm2 : (l ++ m).Perm (own ++ (oth ++ m)) := by rw [← List.append_assoc]; exact hpm.append_right m
  have goy : Good (oth ++ m) := glm.sub (fun x hx => pm2.mem_iff.2 (List.mem_append_right _ hx)) (by have := pm2.length_eq; simp only [List.length_append] at this ⊢; omega)
  (repeat (first | refine Jc ?_ | ((apply z_call; rfl; rfl; rfl; exact SubF gl hpm T2 hT2 ha9 (hs1.le ht2) hia hi1; rintro T3 _ _ ht3 ⟨rfl, B3, n3, k3, s3, rfl, hs3, hi3, hT3⟩)) | refine Jo ?_ | intro _))
  (repeat (first | refine Jc ?_ | ((apply z_call; rfl; rfl; rfl; exact SubF glm pm2 T3 hT3 (hd9.le ht3) ((hs1.le ht2).le ht3) hid hi1; rintro T4 _ _ ht4 ⟨rfl, B4, n4, k4, s4, rfl, hs4, hi4, hT4⟩)) | refine Jo ?_ | intro _))
  (repeat (first | refine Jc ?_ | ((apply z_call; rfl; rfl; rfl; exact SubF goy (List.Perm.refl _) T4 hT4 hs4 ((hs2.le ht3).le ht4) hi4 hi2; rintro T5 _ _ ht5 ⟨rfl, B5, n5, k5, s5, rfl, hs5, hi5, hT5⟩)) | refine Jo ?_ | intro _))
  have q1 : e = a := hie.unique hia (List.Perm.refl _)
  have q2 : s3 = s2 := hi3.unique hi2 (List.Perm.refl _)
  have q3 : s5 = b := hi5.unique hib (List.Perm.refl _)
  have w1 := Same_con T5 (((he9.le ht3).le ht4).le ht5) (((ha9.le ht3).le ht4).le ht5)
  have w2 := Same_con T5 ((hs3.le ht4).le ht5) (((hs2.le ht3).le ht4).le ht5)
  have w3 := Same_con T5 hs5 (((hb9.le ht3).le ht4).le ht5)
  rw [bP_t q1] at w1
  rw [bP_t q2] at w2
  rw [bP_t q3] at w3
  (repeat (first | refine Jc ?_ | ((apply z_call; rfl; rfl; rfl; exact w1; rintro _ _ _ - ⟨rfl, rfl, rfl⟩)) | ((apply z_call; rfl; rfl; rfl; exact w2; rintro _ _ _ - ⟨rfl, rfl, rfl⟩)) | ((apply z_call; rfl; rfl; rfl; exact w3; rintro _ _ _ - ⟨rfl, rfl, rfl⟩)) | refine Jo ?_ | intro _))
  have hnb := hb9.len
  have ha10 := ((ha9.le ht3).le ht4).le ht5
  have hd10 := ((hd9.le ht3).le ht4).le ht5
  by_cases hm0 : m = []
  · subst hm0
    have hbn : b = [] := hib.empty
    subst hbn
    have hnb : nb = 0 := hnb
    subst hnb
    (repeat (first | refine Jc ?_ | ((apply z_call; rfl; rfl; rfl; exact SubF (N := []) gl (List.Perm.of_eq (by simp)) T5 hT5 ha10 hd10 hia hid; rintro T6 _ _ ht6 ⟨rfl, B6, n6, k6, s6, rfl, hs6, hi6, hT6⟩)) | refine Jo ?_ | intro _))
    exact o_ret (L' := []) Tryd.results5 rfl (List.nil_sublist _) rfl
  · have hbn : 0 < b.length := List.length_pos_iff.2 (hib.ne_nil hm0)
    (repeat (first | refine Jc ?_ | ((apply z_call; rfl; rfl; rfl; exact SubBadF glm hm0 T5 hT5 ha10 hd10 hia hid; rintro T6 _ _ ht6 ⟨rfl, B6, n6, k6, rfl⟩)) | refine Jo ?_ | intro _))
    exact o_ret (L' := []) Tryd.results5 rfl (List.nil_sublist _) rfl
end Go.Proofs.YtogfficbloejcaaDoor
namespace Go.Proofs.YtogfficbloejcaaDoor
open Go Go.X
set_option maxRecDepth 10000
set_option linter.unusedVariables false
attribute [local irreducible] Code.wpIn wpListIn Exit.then Exit.inBlock X.Out X.Back X.W X.Ev X.Con X.BinV X.Wh X.Wn X.Wq
/-- The fact with its key laid to zero: the total of a sketch is the cell of all facts, so laid. -/
def zk (x : Fa) : Fa := ⟨0, x.sp, 0, 0, 0, x.pe, 0, x.lo, x.hi, x.by_⟩
def Z : List Int := [0, 0, 0, 0]
theorem fact_zk {x : Fa} (h : FactP x) : FactP (zk x) := ⟨by simp [zk], h.sp1, by simp [zk], by simp [zk], by simp [zk], h.pe1, by simp [zk], h.lo1, h.hi1, h.by1⟩
theorem sumF_z {φ : Fa → Int} (hφ : ∀ x, φ (zk x) = φ x) (L : List Fa) : sumF (L.map zk) Z φ = (L.map φ).sum := by
  unfold sumF
  rw [List.filter_eq_self.2 (by
    intro x hx
    obtain ⟨y, _, rfl⟩ := List.mem_map.1 hx
    rfl), List.map_map]
  congr 1
  exact List.map_congr_left fun x _ => hφ x
theorem sumF_part {φ : Fa → Int} (hφ : ∀ x, φ (zk x) = φ x) (L : List Fa) (k : List Int) : sumF L k φ = sumF ((L.filter fun x => fkey x == k).map zk) Z φ := by
  rw [sumF_z hφ]; rfl
theorem vec_part (L : List Fa) (k : List Int) : vecOf L k = vecOf ((L.filter fun x => fkey x == k).map zk) Z := by
  unfold vecOf rowF
  rw [sumF_part (φ := fun _ => 1) (fun _ => rfl) L k, sumF_part (φ := (·.lo)) (fun _ => rfl) L k, sumF_part (φ := (·.hi)) (fun _ => rfl) L k, sumF_part (φ := (·.by_)) (fun _ => rfl) L k]
  congr 1
  · exact List.map_congr_left fun i _ => sumF_part (φ := uF bLo i) (fun _ => rfl) L k
  · exact List.map_congr_left fun i _ => sumF_part (φ := uF bHi i) (fun _ => rfl) L k
def flat (L : List Fa) (K : List (List Int)) : List Fa := K.flatMap fun k => (L.filter fun x => fkey x == k).map zk
theorem filt_cons (k : List Int) (K : List (List Int)) (hk : k ∉ K) : ∀ L : List Fa, (L.filter fun x => decide (fkey x ∈ k :: K)).Perm ((L.filter fun x => fkey x == k) ++ L.filter fun x => decide (fkey x ∈ K))
  | [] => List.Perm.refl _
  | x :: L => by
    have ih := filt_cons k K hk L
    by_cases h1 : fkey x = k
    · have h2 : fkey x ∉ K := by rw [h1]; exact hk
      rw [List.filter_cons_of_pos (by simp [h1]), List.filter_cons_of_pos (by simp [h1]), List.filter_cons_of_neg (by simpa using h2)]
      exact ih.cons x
    · by_cases h2 : fkey x ∈ K
      · rw [List.filter_cons_of_pos (by simp [h2]), List.filter_cons_of_neg (by simpa using h1), List.filter_cons_of_pos (by simpa using h2)]
        exact (ih.cons x).trans List.perm_middle.symm
      · rw [List.filter_cons_of_neg (by simp [h1, h2]), List.filter_cons_of_neg (by simpa using h1), List.filter_cons_of_neg (by simpa using h2)]
        exact ih
theorem flat_perm (L : List Fa) : ∀ K : List (List Int), K.Nodup → (flat L K).Perm ((L.filter fun x => decide (fkey x ∈ K)).map zk)
  | [], _ => by simp [flat]
  | k :: K, h => by
    obtain ⟨h1, h2⟩ := List.nodup_cons.1 h
    have ih := flat_perm L K h2
    show ((L.filter fun x => fkey x == k).map zk ++ flat L K).Perm _
    refine (List.Perm.append_left _ ih).trans ?_
    rw [← List.map_append]
    exact ((filt_cons k K h1 L).map zk).symm
theorem fold_total (L : List Fa) : ∀ (s : List PC) (M : List Fa), (∀ c ∈ s, c.x = vecOf L c.key) → Good (M ++ flat L (s.map PC.key)) → s.foldl (fun x c => vop plusW x c.x) (vecOf M Z) = vecOf (M ++ flat L (s.map PC.key)) Z
  | [], M, _, _ => by simp [flat]
  | c :: s, M, h, hg => by
    have e : flat L ((c :: s).map PC.key) = (L.filter fun x => fkey x == c.key).map zk ++ flat L (s.map PC.key) := rfl
    rw [e] at hg ⊢
    rw [← List.append_assoc] at hg ⊢
    have g1 : Good (M ++ (L.filter fun x => fkey x == c.key).map zk) := hg.sub (fun x hx => List.mem_append_left _ hx) (by rw [List.length_append (bs := flat L (s.map PC.key))]; omega)
    have g2 : Good M := g1.sub (fun x hx => List.mem_append_left _ hx) (by rw [List.length_append]; omega)
    have g3 : Good ((L.filter fun x => fkey x == c.key).map zk) := g1.sub (fun x hx => List.mem_append_right _ hx) (by rw [List.length_append]; omega)
    rw [List.foldl_cons, h c List.mem_cons_self, vec_part L c.key, vop_plus g2 g3]
    exact fold_total L s _ (fun d hd => h d (List.mem_cons_of_mem _ hd)) hg
theorem good_zk {L : List Fa} (h : Good L) : Good (L.map zk) := ⟨fun x hx => by
  obtain ⟨y, hy, rfl⟩ := List.mem_map.1 hx
  exact fact_zk (h.each y hy), by rw [List.length_map]; exact h.len⟩
/-- The cells of a sketch together are the cell of all facts. -/
theorem sumV_sk {s : List PC} {L : List Fa} (h : IsSk s L) (hL : Good L) (hne : L ≠ []) : sumV s = vecOf (L.map zk) Z := by
  have hp : (flat L (s.map PC.key)).Perm (L.map zk) := by
    refine (flat_perm L _ (pairwise_nodup h.asc)).trans (List.Perm.of_eq ?_)
    rw [List.filter_eq_self.2]
    intro x hx
    have := (h.mem (mkPC (fkey x) (vecOf L (fkey x)))).2 (by rw [mkPC_key (fkey_len x)]; exact ⟨⟨x, hx, rfl⟩, rfl⟩)
    exact decide_eq_true (List.mem_map.2 ⟨_, this, mkPC_key (fkey_len x)⟩)
  have hg : Good (flat L (s.map PC.key)) := (good_zk hL).perm hp.symm
  have hsn := h.ne_nil hne
  obtain ⟨c, s', rfl⟩ := List.exists_cons_of_ne_nil hsn
  have e : flat L ((c :: s').map PC.key) = (L.filter fun x => fkey x == c.key).map zk ++ flat L (s'.map PC.key) := rfl
  have hm : ∀ d ∈ c :: s', d.x = vecOf L d.key := fun d hd => ((h.mem d).1 hd).2
  rw [e] at hg hp
  have g1 : Good ((L.filter fun x => fkey x == c.key).map zk) := hg.sub (fun x hx => List.mem_append_left _ hx) (by rw [List.length_append]; omega)
  rw [← vecOf_perm hp Z]
  show (s'.foldl (fun x c => vop plusW x c.x) (vop plusW zeroV c.x)) = _
  rw [hm c List.mem_cons_self, vec_part L c.key, vop_zero g1]
  exact fold_total L s' _ (fun d hd => hm d (List.mem_cons_of_mem _ hd)) hg
theorem sum_ones (L : List Fa) : (L.map fun _ => (1 : Int)).sum = L.length := by
  induction L with
  | nil => rfl
  | cons x L ih => rw [List.map_cons, List.sum_cons, ih, List.length_cons]; omega
def cnt (L : List Fa) (b : Fa → Int) (i : Nat) : Int := (L.map (uF b i)).sum
theorem vec_total (L : List Fa) : vecOf (L.map zk) Z = ⟨L.length, (L.map (·.lo)).sum, (L.map (·.hi)).sum, (L.map (·.by_)).sum, (List.range 44).map (cnt L bLo), (List.range 44).map (cnt L bHi)⟩ := by
  unfold vecOf rowF
  rw [sumF_z (φ := fun _ => 1) (fun _ => rfl), sumF_z (φ := (·.lo)) (fun _ => rfl), sumF_z (φ := (·.hi)) (fun _ => rfl), sumF_z (φ := (·.by_)) (fun _ => rfl), sum_ones]
  congr 1
  · exact List.map_congr_left fun i _ => sumF_z (φ := uF bLo i) (fun _ => rfl) L
  · exact List.map_congr_left fun i _ => sumF_z (φ := uF bHi i) (fun _ => rfl) L
theorem total_sk {s : List PC} {L : List Fa} {c : PC} {e : Int} (h : IsSk s L) (hL : Good L) (hne : L ≠ []) (ht : TotalP s c e) : c = ⟨0, 0, 0, 0, ⟨L.length, (L.map (·.lo)).sum, (L.map (·.hi)).sum, (L.map (·.by_)).sum, (List.range 44).map (cnt L bLo), (List.range 44).map (cnt L bHi)⟩⟩ ∧ e = 0 := by
  have hv := sumV_sk h hL hne
  obtain ⟨x, L', rfl⟩ := List.exists_cons_of_ne_nil hne
  have hc : CellP (sumV s) := by
    rw [hv]
    exact cell_vec (by rw [List.length_map]; have := hL.len; omega) (good_zk hL).each ⟨zk x, List.mem_map.2 ⟨x, List.mem_cons_self, rfl⟩, rfl⟩
  rcases ht with ⟨_, _, _, h1, h2⟩ | ⟨h0, _⟩
  · rw [hv, vec_total] at h1; exact ⟨h1, h2⟩
  · exact absurd ⟨.inr (Nat.le_trans h.len hL.len), (h.valid hL.each hL.len).each, hc⟩ h0
theorem sum_bd {φ : Fa → Int} {B : Int} : ∀ {L : List Fa}, (∀ x ∈ L, 0 ≤ φ x ∧ φ x ≤ B) → 0 ≤ (L.map φ).sum ∧ (L.map φ).sum ≤ L.length * B
  | [], _ => by simp
  | x :: L, h => by
    obtain ⟨i1, i2⟩ := sum_bd (L := L) fun y hy => h y (List.mem_cons_of_mem _ hy)
    obtain ⟨h1, h2⟩ := h x List.mem_cons_self
    rw [List.map_cons, List.sum_cons, List.length_cons]
    have e : ((L.length + 1 : Nat) : Int) * B = L.length * B + B := by rw [Int.natCast_add, Int.add_mul]; simp
    omega
theorem edge_step : ∀ k : Nat, k < 43 → eHi k < eLo (k + 1 : Nat) := by decide
theorem edge_lt (j : Nat) : ∀ m : Nat, j + m + 1 < 44 → eHi j < eLo (j + m + 1 : Nat)
  | 0, h => edge_step j (by omega)
  | m + 1, h => by
    have h1 := edge_lt j m (by omega)
    have h2 := edge_step (j + m + 1) (by omega)
    have h3 := (edges_bd (j + m + 1) (by omega)).2.1
    have e : j + (m + 1) + 1 = j + m + 1 + 1 := by omega
    rw [e]
    omega
/-- A number is between the edges of just its own bucket. -/
theorem edge_iff {d : Int} (h : 0 ≤ d ∧ d ≤ 4398046511104) (k : Nat) (hk : k < 44) : (eLo k ≤ d ∧ d ≤ eHi k) ↔ (k : Int) = bucket d := by
  obtain ⟨b1, b2, b3, b4⟩ := bucket_edges h
  obtain ⟨b, hb⟩ : ∃ b : Nat, bucket d = b := ⟨(bucket d).toNat, by omega⟩
  rw [hb] at b1 b2 b3 b4 ⊢
  constructor
  · rintro ⟨h1, h2⟩
    rcases Nat.lt_trichotomy k b with g | g | g
    · have := edge_lt k (b - k - 1) (by omega)
      rw [show k + (b - k - 1) + 1 = b by omega] at this
      omega
    · rw [g]
    · have := edge_lt b (k - b - 1) (by omega)
      rw [show b + (k - b - 1) + 1 = k by omega] at this
      omega
  · intro e
    have : k = b := by omega
    subst this
    exact ⟨b3, b4⟩
end Go.Proofs.YtogfficbloejcaaDoor
namespace Go.Proofs.YtogfficbloejcaaDoor
open Go Go.X
set_option maxRecDepth 10000
set_option linter.unusedVariables false
attribute [local irreducible] Code.wpIn wpListIn Exit.then Exit.inBlock X.Out X.Back X.W X.Ev X.Con X.BinV X.Wh X.Wn X.Wq
theorem sum_take {l : List Fa} {i : Nat} {x : Fa} (h : l[i]? = some x) (φ : Fa → Int) : ((l.take (i + 1)).map φ).sum = ((l.take i).map φ).sum + φ x := by
  rw [List.take_add_one, h]
  simp [List.sum_append]
theorem cnt_take {l : List Fa} {i : Nat} {x : Fa} (h : l[i]? = some x) (b : Fa → Int) (k : Nat) : cnt (l.take (i + 1)) b k = cnt (l.take i) b k + (if (k : Int) = b x then 1 else 0) := sum_take h _
theorem cnt_bd (l : List Fa) (b : Fa → Int) (k : Nat) : 0 ≤ cnt l b k ∧ cnt l b k ≤ l.length := by
  have := sum_bd (L := l) (φ := uF b k) (B := 1) (fun x _ => by unfold uF; split <;> omega)
  unfold cnt
  omega
set_option maxHeartbeats 3200000 in
theorem f7_law (xs : List K4) (A : Option Addr) (ca : Nat) (S : SH) (hG : Gl S) (hA : At S A xs) (lx : xs.length ≤ ca) (hx : ∀ x ∈ xs, K4ok x) :
    Con Tryd.prog 7 #[.slice A xs.length ca] S [] (fun _ _ v => v = .bool true) := by
  refine con_of (args := [.slice A xs.length ca]) Tryd.func7 rfl Tryd.ntmps7 rfl fun w => ?_
  (repeat (first | refine Jc ?_ | ((apply z_call; rfl; rfl; rfl; exact sane_con S hG; rintro S1 _ _ hle1 ⟨rfl, rfl⟩)) | refine Jo ?_ | intro _))
  (repeat (first | refine Jc ?_ | ((apply z_call; rfl; rfl; rfl; exact MadeFacts_con xs A ca S1 (hA.le hle1) hx; rintro S2 _ _ hle2 ⟨rfl, Al, cl, l, rfl, hAl, hcl, hll, hlf⟩)) | refine Jo ?_ | intro _))
  have gl : Good l := .of hlf (by omega)
  (repeat (first | refine Jc ?_ | ((apply z_call; rfl; rfl; rfl; exact MakeG_con gl Al cl S2 (hG.le (hle1.trans hle2)) hAl; rintro S3 _ _ hle3 ⟨rfl, _, s, rfl, ⟨As, c2, cs, rfl, hAs, hok, hlc, hm⟩, hia⟩)) | refine Jo ?_ | intro _))
  have hG3 := (hG.le (hle1.trans hle2)).le hle3
  (repeat (first | refine Jc ?_ | ((apply z_call; rfl; rfl; rfl; exact Total_con cs As c2 S3 hG3 hAs hok hlc; rintro S4 _ _ hle4 ⟨rfl, q7, e7, rfl, hq7, hT7⟩)) | refine Jo ?_ | intro _))
  rw [hm] at hT7
  by_cases hne : l = []
  · subst hne
    have hs := hia.empty
    subst hs
    have hcs := List.map_eq_nil_iff.1 hm
    subst hcs
    obtain ⟨_, rfl⟩ := total0 hT7
    (repeat (first | refine Jz ?_ | intro _))
    exact o_ret (L' := []) Tryd.results7 rfl (List.nil_sublist _) rfl
  obtain ⟨p7, la, lc, ha, hc⟩ := q7
  obtain ⟨e7a, rfl⟩ := total_sk hia gl hne hT7
  dsimp only at e7a
  subst e7a
  have hpos : 0 < l.length := List.length_pos_iff.2 hne
  have hAl4 : At S4 Al l := (hAl.le hle3).le hle4
  (repeat (first | refine Jz ?_ | intro _))
  rw [show decide ((0 : Int) < (l.length : Int)) = true from decide_eq_true (by omega)]
  (repeat (first | refine Jz ?_ | intro _))
  rename_i b1 b2
  have hbd : ∀ i, 0 ≤ ((l.take i).map (·.lo)).sum ∧ ((l.take i).map (·.lo)).sum ≤ 40 * 4398046511104 ∧ 0 ≤ ((l.take i).map (·.hi)).sum ∧ ((l.take i).map (·.hi)).sum ≤ 40 * 4398046511104 ∧ 0 ≤ ((l.take i).map (·.by_)).sum ∧ ((l.take i).map (·.by_)).sum ≤ 40 * 4398046511104 := fun i => by
    have hl : (l.take i).length ≤ 40 := by rw [List.length_take]; omega
    have h1 := sum_bd (L := l.take i) (φ := (·.lo)) (B := 4398046511104) (fun x hx => fact_lo (hlf x (List.mem_of_mem_take hx)))
    have h2 := sum_bd (L := l.take i) (φ := (·.hi)) (B := 4398046511104) (fun x hx => fact_hi (hlf x (List.mem_of_mem_take hx)))
    have h3 := sum_bd (L := l.take i) (φ := (·.by_)) (B := 4398046511104) (fun x hx => by have := (hlf x (List.mem_of_mem_take hx)).by1; omega)
    omega
  refine c_loop (fun q S' L F => S' = S4 ∧ ∃ (i : Nat), q = l.length - i ∧ i ≤ l.length ∧
      L = [(b2, .cells [.int .i64 0, .int .i64 0, .int .i64 0, .int .i64 0, .int .i64 l.length, .int .i64 (l.map (·.lo)).sum, .int .i64 (l.map (·.hi)).sum, .int .i64 (l.map (·.by_)).sum, .slice la 44 lc, .slice ha 44 hc].toArray 45 (0, 0)), (b1, .cells [.slice As cs.length c2].toArray 24 (0, 0))] ∧
      F = [(12, .int .i64 i), (11, .int .i64 ((l.take i).map (·.by_)).sum), (10, .int .i64 ((l.take i).map (·.hi)).sum), (9, .int .i64 ((l.take i).map (·.lo)).sum), (7, .pointer (some ⟨b2, 0, none⟩)), (5, .pointer (some ⟨b1, 0, none⟩)), (4, .slice Al l.length cl), (3, .bool true), (2, .bool false)])
    ⟨rfl, 0, rfl, by omega, rfl, rfl⟩ (by repeat (first | exact Sub.nil rfl | exact Sub.marked rfl | refine Sub.cons rfl ?_)) (by repeat (first | exact List.Sublist.refl _ | exact List.Sublist.slnil | exact List.nil_sublist _ | exact List.sublist_append_left _ _ | refine List.Sublist.cons_cons _ ?_ | refine List.Sublist.append (List.Sublist.refl _) ?_ | refine List.Sublist.cons _ ?_ | refine List.Sublist.trans ?_ (List.sublist_append_right _ _))) ?_
  rintro q S' L F ⟨rfl, i, rfl, hi, rfl, rfl⟩
  by_cases hlt : i < l.length
  · obtain ⟨x, hx⟩ := at_lt' hlt
    have hb := hbd i
    have h1 := fact_lo (hlf x (List.mem_of_getElem? hx))
    have h2 := fact_hi (hlf x (List.mem_of_getElem? hx))
    have h3 := (hlf x (List.mem_of_getElem? hx)).by1
    (repeat (first | refine Jc ?_ | (apply s_idx hAl4; (case hg => rfl); (case hd => rfl); (case hx => rfl); (case hi => rfl); (case hm => rfl); (case hu => exact hx); intro p (hp2 : Pts _ p x.vals)) | (apply s_load_f; (case hg => rfl); (case hd => rfl); (case hx => rfl); (case h => exact hp2); (case hv => rfl)) | refine Jo ?_ | intro _))
    exact q_back (m' := l.length - (i + 1)) ⟨rfl, i + 1, rfl, by omega, rfl, by rw [sum_take hx, sum_take hx, sum_take hx]⟩ (by omega) (by repeat (first | exact Sub.nil rfl | exact Sub.marked rfl | refine Sub.cons rfl ?_)) (by repeat (first | exact List.Sublist.refl _ | exact List.Sublist.slnil | exact List.nil_sublist _ | exact List.sublist_append_left _ _ | refine List.Sublist.cons_cons _ ?_ | refine List.Sublist.append (List.Sublist.refl _) ?_ | refine List.Sublist.cons _ ?_ | refine List.Sublist.trans ?_ (List.sublist_append_right _ _)))
  have hil : i = l.length := by omega
  subst hil
  rw [List.take_of_length_le (Nat.le_refl _)]
  clear hbd hlt hi
  (repeat (first | refine Jz ?_ | intro _))
  have hla : At S' la ((List.range 44).map (cnt l bLo)) := hq7.la
  have hha : At S' ha ((List.range 44).map (cnt l bHi)) := hq7.ha
  refine c_loop (fun q S1 L F => S1 = S' ∧ ∃ (k : Nat), q = 44 - k ∧ k ≤ 44 ∧
      L = [(b2, .cells [.int .i64 0, .int .i64 0, .int .i64 0, .int .i64 0, .int .i64 l.length, .int .i64 (l.map (·.lo)).sum, .int .i64 (l.map (·.hi)).sum, .int .i64 (l.map (·.by_)).sum, .slice la 44 lc, .slice ha 44 hc].toArray 45 (0, 0))] ∧
      F = [(13, .int .i64 k), (7, .pointer (some ⟨b2, 0, none⟩)), (4, .slice Al l.length cl), (3, .bool true), (2, .bool false)])
    ⟨rfl, 0, rfl, by omega, rfl, rfl⟩ (by repeat (first | exact Sub.nil rfl | exact Sub.marked rfl | refine Sub.cons rfl ?_)) (by repeat (first | exact List.Sublist.refl _ | exact List.Sublist.slnil | exact List.nil_sublist _ | exact List.sublist_append_left _ _ | refine List.Sublist.cons_cons _ ?_ | refine List.Sublist.append (List.Sublist.refl _) ?_ | refine List.Sublist.cons _ ?_ | refine List.Sublist.trans ?_ (List.sublist_append_right _ _))) ?_
  rintro q S1 L F ⟨rfl, k, rfl, hk, rfl, rfl⟩
  by_cases hlt : k < 44
  rotate_left
  · (repeat (first | refine Jz ?_ | intro _))
    exact o_ret (L' := []) Tryd.results7 rfl (List.nil_sublist _) rfl
  have hed : Con Tryd.prog 11 #[.int .i64 k] S1 [] (Pure S1 (.tuple #[.int .i64 (eLo k), .int .i64 (eHi k)])) := Edges_con k S1
  (repeat (first | refine Jc ?_ | ((apply z_call; rfl; rfl; rfl; exact hed; rintro _ _ _ - ⟨rfl, rfl, rfl⟩)) | refine Jo ?_ | intro _))
  refine c_loop (fun q S2 L F => S2 = S1 ∧ ∃ (i : Nat), q = l.length - i ∧ i ≤ l.length ∧
      L = [(b2, .cells [.int .i64 0, .int .i64 0, .int .i64 0, .int .i64 0, .int .i64 l.length, .int .i64 (l.map (·.lo)).sum, .int .i64 (l.map (·.hi)).sum, .int .i64 (l.map (·.by_)).sum, .slice la 44 lc, .slice ha 44 hc].toArray 45 (0, 0))] ∧
      F = [(18, .int .i64 i), (17, .int .i64 (cnt (l.take i) bHi k)), (16, .int .i64 (cnt (l.take i) bLo k)), (15, .int .i64 (eHi k)), (14, .int .i64 (eLo k)), (13, .int .i64 k), (7, .pointer (some ⟨b2, 0, none⟩)), (4, .slice Al l.length cl), (3, .bool true), (2, .bool false)])
    ⟨rfl, 0, rfl, by omega, rfl, rfl⟩ (by repeat (first | exact Sub.nil rfl | exact Sub.marked rfl | refine Sub.cons rfl ?_)) (by repeat (first | exact List.Sublist.refl _ | exact List.Sublist.slnil | exact List.nil_sublist _ | exact List.sublist_append_left _ _ | refine List.Sublist.cons_cons _ ?_ | refine List.Sublist.append (List.Sublist.refl _) ?_ | refine List.Sublist.cons _ ?_ | refine List.Sublist.trans ?_ (List.sublist_append_right _ _))) ?_
  rintro q S2 L F ⟨rfl, i, rfl, hi, rfl, rfl⟩
  by_cases hil : i < l.length
  · obtain ⟨⟨xt, xs1, xv, xe, xo, xp, xd, xl, xh, xb⟩, hx⟩ := at_lt' hil
    have h1 := fact_lo (hlf _ (List.mem_of_getElem? hx))
    have h2 := fact_hi (hlf _ (List.mem_of_getElem? hx))
    have g1 := edge_iff h1 k hlt
    have g2 := edge_iff h2 k hlt
    have e1 := cnt_take hx bLo k
    have e2 := cnt_take hx bHi k
    have c1 := cnt_bd (l.take i) bLo k
    have c2 := cnt_bd (l.take i) bHi k
    have htl : (l.take i).length ≤ 40 := by rw [List.length_take]; omega
    rw [show bLo ⟨xt, xs1, xv, xe, xo, xp, xd, xl, xh, xb⟩ = bucket xl from rfl] at e1
    rw [show bHi ⟨xt, xs1, xv, xe, xo, xp, xd, xl, xh, xb⟩ = bucket xh from rfl] at e2
    simp only at h1 h2 g1 g2
    have hee := (edges_bd k hlt).2.1
    by_cases a1 : eLo k ≤ xl <;> by_cases a2 : xl ≤ eHi k <;> by_cases a3 : eLo k ≤ xh <;> by_cases a4 : xh ≤ eHi k
    all_goals try (exfalso; omega)
    all_goals first | rw [if_pos (g1.1 ⟨a1, a2⟩)] at e1 | rw [if_neg (fun h => a1 (g1.2 h).1), Int.add_zero] at e1 | rw [if_neg (fun h => a2 (g1.2 h).2), Int.add_zero] at e1
    all_goals first | rw [if_pos (g2.1 ⟨a3, a4⟩)] at e2 | rw [if_neg (fun h => a3 (g2.2 h).1), Int.add_zero] at e2 | rw [if_neg (fun h => a4 (g2.2 h).2), Int.add_zero] at e2
    all_goals (repeat (first | refine Jc ?_ | (apply s_idx hAl4; (case hg => rfl); (case hd => rfl); (case hx => rfl); (case hi => rfl); (case hm => rfl); (case hu => exact hx); intro p (hp2 : Pts _ p [.int .i64 xt, .int .i64 xs1, .int .i64 xv, .int .i64 xe, .int .i64 xo, .int .i64 xp, .int .i64 xd, .int .i64 xl, .int .i64 xh, .int .i64 xb])) | (apply s_load_f; (case hg => rfl); (case hd => rfl); (case hx => rfl); (case h => exact hp2); (case hv => rfl)) | refine Jo ?_ | intro _))
    all_goals exact q_back (m' := l.length - (i + 1)) ⟨rfl, i + 1, rfl, by omega, rfl, by rw [e1, e2]⟩ (by omega) (by repeat (first | exact Sub.nil rfl | exact Sub.marked rfl | refine Sub.cons rfl ?_)) (by repeat (first | exact List.Sublist.refl _ | exact List.Sublist.slnil | exact List.nil_sublist _ | exact List.sublist_append_left _ _ | refine List.Sublist.cons_cons _ ?_ | refine List.Sublist.append (List.Sublist.refl _) ?_ | refine List.Sublist.cons _ ?_ | refine List.Sublist.trans ?_ (List.sublist_append_right _ _)))
  have hie : i = l.length := by omega
  subst hie
  rw [List.take_of_length_le (Nat.le_refl _)]
  have r1 : ((List.range 44).map (cnt l bLo))[k]? = some (cnt l bLo k) := by simp [hlt]
  have r2 : ((List.range 44).map (cnt l bHi))[k]? = some (cnt l bHi k) := by simp [hlt]
  (repeat (first | refine Jc ?_ | (apply s_idx hla; (case hg => rfl); (case hd => rfl); (case hx => rfl); (case hi => rfl); (case hm => rfl); (case hu => exact r1); intro p hp) | (apply s_load1; (case hg => rfl); (case hd => rfl); (case hx => rfl); (case hv => exact hp)) | (apply s_idx hha; (case hg => rfl); (case hd => rfl); (case hx => rfl); (case hi => rfl); (case hm => rfl); (case hu => exact r2); intro p2 hp2) | (apply s_load1; (case hg => rfl); (case hd => rfl); (case hx => rfl); (case hv => exact hp2)) | refine Jo ?_ | intro _))
  exact q_back (m' := 44 - (k + 1)) ⟨rfl, k + 1, rfl, by omega, rfl, rfl⟩ (by omega) (by repeat (first | exact Sub.nil rfl | exact Sub.marked rfl | refine Sub.cons rfl ?_)) (by repeat (first | exact List.Sublist.refl _ | exact List.Sublist.slnil | exact List.nil_sublist _ | exact List.sublist_append_left _ _ | refine List.Sublist.cons_cons _ ?_ | refine List.Sublist.append (List.Sublist.refl _) ?_ | refine List.Sublist.cons _ ?_ | refine List.Sublist.trans ?_ (List.sublist_append_right _ _)))
end Go.Proofs.YtogfficbloejcaaDoor
namespace Go.Proofs.YtogfficbloejcaaDoor
open Go Go.X
open Go.ChangeShapes Go.WideShapes Go.ChangeAt Go.RowKit
theorem own : ownKnob Tryd.prog.godebug = none := by kernel_rfl
theorem laidOut : laidOutB Tryd.prog = true := by kernel_rfl
theorem gTab : Tryd.prog.globalNamed "latecomer/sketch.limits" = some 0 := by kernel_rfl
theorem gTabType : (Tryd.prog.globals[0]?).map (·.type) = some 80 := by kernel_rfl
theorem cells80 : Tryd.prog.cellsOf 80 = 4 := by kernel_rfl
theorem cells3 : Tryd.prog.cellsOf 3 = 1 := by kernel_rfl
theorem gl_laid {W : World} (h : laidMetH Tryd.prog Rows.sketchMergesRow.laid W) : Gl (allOf W) := by
  have ht : Lib.TabIs Tryd.prog W "latecomer/sketch.limits" .i64 limsL := Lib.tabIs_of_head (rest := []) gTab gTabType Tryd.underlying80 Tryd.underlying3 cells3 cells80 h
  have c0 : W.cell? ⟨0, 0, none⟩ = some (.int .i64 7) := ht.cell gTab 0 (by decide)
  have c1 : W.cell? ⟨0, 1, none⟩ = some (.int .i64 9) := ht.cell gTab 1 (by decide)
  have c2 : W.cell? ⟨0, 2, none⟩ = some (.int .i64 11) := ht.cell gTab 2 (by decide)
  have c3 : W.cell? ⟨0, 3, none⟩ = some (.int .i64 99) := ht.cell gTab 3 (by decide)
  intro j u hj
  match j, hj with
  | 0, hj => simp [limsL] at hj; subst hj; exact cell_all c0
  | 1, hj => simp [limsL] at hj; subst hj; exact cell_all c1
  | 2, hj => simp [limsL] at hj; subst hj; exact cell_all c2
  | 3, hj => simp [limsL] at hj; subst hj; exact cell_all c3
  | j + 4, hj => simp [limsL] at hj
noncomputable def laidWorld (os : Os) : World :=
  { World.holding Tryd.prog os ⟨#[], #[], []⟩ with heap := (World.holding Tryd.prog os ⟨#[], #[], []⟩).heap.modify 0 fun
      | .cells _ t frozen => .cells #[.int .i64 7, .int .i64 9, .int .i64 11, .int .i64 99] t frozen
      | o => o }
theorem rdb_K4 : Rdb (α := K4) Tryd.prog 68 (fun _ x => K4ok x) := fun H enc w fuel cs x h => by
  have hl : cs.length = 4 := len_a (by kernel_rfl) Tryd.underlying68 h
  match cs, hl with
  | [c0, c1, c2, c3], _ =>
  obtain ⟨a0, e0, o0⟩ := (rdb_int Tryd.underlying3).at_ (part_a 0 h (by decide))
  obtain ⟨a1, e1, o1⟩ := (rdb_int Tryd.underlying3).at_ (part_a 1 h (by decide))
  obtain ⟨a2, e2, o2⟩ := (rdb_int Tryd.underlying3).at_ (part_a 2 h (by decide))
  obtain ⟨a3, e3, o3⟩ := (rdb_int Tryd.underlying3).at_ (part_a 3 h (by decide))
  simp [Cl.cells] at e0 e1 e2 e3
  subst e0 e1 e2 e3
  exact ⟨⟨a0, a1, a2, a3⟩, rfl, o0, o1, o2, o3⟩
end Go.Proofs.YtogfficbloejcaaDoor
namespace Go.Proofs.YtogfficbloejcaaDoor
open Go Go.X
open Go.ChangeShapes Go.WideShapes Go.ChangeAt Go.RowKit
set_option linter.unusedVariables false
set_option maxHeartbeats 1600000 in
set_option maxRecDepth 100000 in
theorem contract7 (H : Type) (enc : TypeId × Value → H) (W : World) (base : Nat) (args : Array Value) (ds gs : List (DataW H)) (before : List MemPlace)
    (hval0 : ∀ (j : Nat) t v, Tryd.f7.params[j]? = some t → args[j]? = some v → Value.okWide Tryd.prog W .any base t v)
    (hW : DataW.Whole enc Tryd.prog Tryd.f7.params.toList Rows.sketchSumsSpec.vars false W args.toList ds gs before) (hL : laidMetH Tryd.prog Rows.sketchSumsRow.laid W) :
    Calls Tryd.prog 7 args W fun e W' => ∃ v, e = .returned v ∧ Rows.sketchSumsSpec.post enc Tryd.prog Tryd.f7 false true false false W args v W' := by
  have hval : ∀ (j : Nat) t v, Tryd.f7.params[j]? = some t → args[j]? = some v → Value.okWide Tryd.prog W .any base t v := hval0
  have hW' := hW
  obtain ⟨p, q, hA0, hV, rfl, hfz, hnd⟩ := hW
  have hA : DataW.TrodAll enc Tryd.prog W 0 (fun _ => true) true Tryd.f7.params.toList args.toList ds p := hA0
  rw [Tryd.params7] at hA hval
  obtain ⟨v0, vs0, d0, ds0, p0, q0, hargs, rfl, rfl, h0, r0⟩ := trodAll_cons hA
  obtain ⟨rfl, rfl, rfl⟩ := trodAll_nil r0
  obtain rfl : args = #[v0] := by cases args; simp_all
  obtain ⟨rfl, rfl⟩ := trodVars_none hV
  have k0 := h0
  have lt0 : ∀ x ∈ p0, x.block < W.heap.size := by obtain ⟨m, hm⟩ := k0; exact DataW.trod_lt m _ _ _ hm
  obtain ⟨a0, len0, cap0, rfl⟩ := okWide_slice Tryd.underlying25 (hval 0 25 v0 rfl rfl)
  obtain ⟨xs0, rfl, gl0, gA0, gx0⟩ := open_sl (α := K4) Tryd.underlying25 (by kernel_rfl) rdb_K4 rfl h0
  refine (calls_of_con (f7_law xs0 a0 cap0 (allOf W) (gl_laid hL) gA0 gl0 gx0) fun _ _ _ h => h).mono fun e W' ⟨he, bel⟩ => ?_
  subst he
  exact ⟨_, rfl, _, _, _, [], _, [], hW', trodAll_mk1 (shut_bool Tryd.underlying4 _), (trodAll_cons_mk (Below.trod laidOut (by kernel_rfl) (of_decide_eq_true (by kernel_rfl)) k0 bel lt0) trodAll_mk0), rfl, bel.frame _, fun h => by cases h⟩
theorem laid_met7 (os : Os) : laidMet Tryd.prog Rows.sketchSumsRow.laid ((laidWorld os).forCall (fun _ _ => 0) ⟨#[], #[.slice none 0 0], []⟩).memory :=
  laidMet_of_run' 8 (by kernel_rfl) (by kernel_rfl)
theorem reads7 (os : Os) {H : Type} (enc : TypeId × Value → H) : ∃ places, DataW.whole enc Tryd.prog ((laidWorld os).forCall (fun _ _ => 0) ⟨#[], #[.slice none 0 0], []⟩).memory Tryd.f7.params.toList Rows.sketchSumsSpec.vars false (#[.slice none 0 0] : Array Value).toList 8 = some ([.nil], [], places) :=
  ⟨[], by kernel_rfl⟩
set_option maxRecDepth 100000 in
theorem lifted7 (os : Os) (started : os.Started) (H : Type) (enc : TypeId × Value → H) (F : Stop.Interp) :
    ReturnsInHanded {} Tryd.checked os 7 .any ((OpenSpec.ofChange Rows.sketchSumsSpec).preRow enc Tryd.prog Tryd.f7 Rows.sketchSumsRow.domain false Rows.sketchSumsRow.laid) (((OpenSpec.ofChange Rows.sketchSumsSpec).at F).post enc Tryd.prog Tryd.f7 false true false false) := by
  obtain ⟨places, hx⟩ := reads7 os enc
  refine returnsInHanded_of_row (C := Tryd.checked) (s := OpenSpec.ofChange Rows.sketchSumsSpec) own started (by kernel_rfl) Tryd.func7
    (witness_row_at (enc := enc) (C := Tryd.checked) false (laidWorld os) #[.slice none 0 0] rfl (by kernel_rfl) (by kernel_rfl) (by kernel_rfl)
      (OpenSpec.preRow_of_cond 8 hx (by kernel_rfl) (fun k hk => by cases hk) (by kernel_rfl) (laid_met7 os))) ?_
  intro W base args ds gs before hval hW _ _ _ hL _ _
  exact contract7 H enc W base args ds gs before hval hW hL
theorem said7 : Rows.SketchSumsSaid :=
  OpenClaim.holds_of_cond 7 Tryd.f7 rfl rfl rfl rfl rfl rfl rfl ⟨rfl, rfl, rfl, rfl, rfl⟩ rfl rfl rfl rfl rfl (by kernel_rfl) Tryd.func7 (by kernel_rfl)
    (of_decide_eq_true (by kernel_rfl)) (by unfold Func.isWrapper; rw [if_neg (of_decide_eq_false (by kernel_rfl))]; exact ⟨rfl, rfl⟩)
    (fun os started H enc _ F => by rw [OpenClaim.pre_eq_preRow]; exact lifted7 os started H enc F)
theorem plain7 (f : FuncId) (fn : Func) (hf : Tryd.pinned.checked.prog.funcNamed "latecomer/latecomerlaw17.SketchSums" = some f) (hfn : Tryd.pinned.checked.prog.funcs[f]? = some fn) :
    false = Tryd.pinned.checked.prog.looks [] ∧ ∀ (j : Nat) t, fn.params[j]? = some t → Tryd.pinned.checked.prog.wantsStandIn t = false := by
  obtain rfl : f = 7 := Option.some.inj ((show Tryd.prog.funcNamed "latecomer/latecomerlaw17.SketchSums" = some 7 by kernel_rfl).symm.trans hf) |>.symm
  obtain rfl : fn = Tryd.f7 := (Option.some.inj (Tryd.func7.symm.trans hfn)).symm
  refine ⟨by kernel_rfl, fun j t ht => ?_⟩
  rw [Tryd.params7] at ht
  have hm := Array.mem_of_getElem? ht
  simp only [List.mem_toArray, List.mem_cons, List.not_mem_nil, or_false] at hm
  obtain rfl : t = 25 := by simpa using hm
  exact (show Tryd.prog.wantsStandIn 25 = false by kernel_rfl)
theorem sketchSums_holds : Rows.SketchSumsCardSaid :=
  Claim7.holds_tied_plain_at .later [] _ _ _ _ said7 (fun _ h => by cases h) (by kernel_rfl) (fun _ h => by cases h) sketchSums_row_tie rfl ⟨rfl, rfl⟩ (by kernel_rfl) rfl plain7 (by kernel_rfl)
#print axioms sketchSums_holds
end Go.Proofs.YtogfficbloejcaaDoor
