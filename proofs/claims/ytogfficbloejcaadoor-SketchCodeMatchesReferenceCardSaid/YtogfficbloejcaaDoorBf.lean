/- Contracts of functions of this program, each proved by a walk through its code, and plain lemmas on what they compute; on no condition beyond those that each theorem states. -/
import Derived.Test.YtogfficbloejcaaDoorBc
import Derived.Test.YtogfficbloejcaaDoorBe
import Derived.Test.YtogfficbloejcaaDoorXB
import Derived.Test.YtogfficbloejcaaDoorBb
import Derived.Test.YtogfficbloejcaaDoorBd
import Derived.Test.YtogfficbloejcaaDoorXA
namespace Go.Proofs.YtogfficbloejcaaDoor
open Go Go.X
set_option maxRecDepth 10000
set_option linter.unusedVariables false
attribute [local irreducible] Code.wpIn wpListIn Exit.then Exit.inBlock X.Out X.Back X.W X.Ev X.Con X.BinV X.Wh X.Wn X.Wq
theorem Good.of {L : List Fa} (h : ∀ x ∈ L, FactP x) (hl : L.length ≤ 400) : Good L := ⟨h, hl⟩
theorem Good.app {L M : List Fa} (h : ∀ x ∈ L, FactP x) (k : ∀ x ∈ M, FactP x) (hl : L.length + M.length ≤ 400) : Good (L ++ M) :=
  ⟨fun x hx => (List.mem_append.1 hx).elim (h x) (k x), by rw [List.length_append]; exact hl⟩
theorem MakeF {L : List Fa} (hL : Good L) (A : Option Addr) (c : Nat) (S : SH) (hG : Gl S) (hA : At S A L) : Con Tryd.prog 16 #[.slice A L.length c] S [] (fun S' L' r => L' = [] ∧ ∃ B n d s, r = .tuple #[.agg [.slice B n d].toArray, .int .i64 0] ∧ SkV S' (.agg [.slice B n d].toArray) s ∧ IsSk s L ∧ Gl S') :=
  (MakeG_con hL A c S hG hA).mono fun S' L' r hle ⟨h1, v, s, e, h2, h3⟩ => by
    obtain ⟨B, n, d, rfl⟩ := h2.form
    exact ⟨h1, B, n, d, s, e, h2, h3, hG.le hle⟩
theorem MergeF {va vb : Value} {a b : List PC} {L M : List Fa} (hg : Good (L ++ M)) (S : SH) (hG : Gl S) (ha : SkV S va a) (hb : SkV S vb b) (h1 : IsSk a L) (h2 : IsSk b M) : Con Tryd.prog 21 #[va, vb] S [] (fun S' L' r => L' = [] ∧ ∃ B n d s, r = .tuple #[.agg [.slice B n d].toArray, .int .i64 0] ∧ SkV S' (.agg [.slice B n d].toArray) s ∧ IsSk s (L ++ M) ∧ Gl S') :=
  (MergeG_con hg S hG ha hb h1 h2).mono fun S' L' r hle ⟨h1, v, s, e, h2, h3⟩ => by
    obtain ⟨B, n, d, rfl⟩ := h2.form
    exact ⟨h1, B, n, d, s, e, h2, h3, hG.le hle⟩
theorem SubF {va vb : Value} {a b : List PC} {L M N : List Fa} (hL : Good L) (hp : L.Perm (M ++ N)) (S : SH) (hG : Gl S) (ha : SkV S va a) (hb : SkV S vb b) (h1 : IsSk a L) (h2 : IsSk b M) : Con Tryd.prog 23 #[va, vb] S [] (fun S' L' r => L' = [] ∧ ∃ B n d s, r = .tuple #[.agg [.slice B n d].toArray, .int .i64 0] ∧ SkV S' (.agg [.slice B n d].toArray) s ∧ IsSk s N ∧ Gl S') :=
  (SubG_con hL hp S hG ha hb h1 h2).mono fun S' L' r hle ⟨h1, v, s, e, h2, h3⟩ => by
    obtain ⟨B, n, d, rfl⟩ := h2.form
    exact ⟨h1, B, n, d, s, e, h2, h3, hG.le hle⟩
theorem SubBadF {va vb : Value} {a b : List PC} {L M : List Fa} (hg : Good (L ++ M)) (hne : M ≠ []) (S : SH) (hG : Gl S) (ha : SkV S va a) (hb : SkV S vb b) (h1 : IsSk a L) (h2 : IsSk b (L ++ M)) : Con Tryd.prog 23 #[va, vb] S [] (fun S' L' r => L' = [] ∧ ∃ B n d, r = .tuple #[.agg [.slice B n d].toArray, .int .i64 170]) :=
  (SubBad_con hg hne S hG ha hb h1 h2).mono fun S' L' r hle ⟨h1, v, s, e, h2⟩ => by
    obtain ⟨B, n, d, rfl⟩ := h2.form
    exact ⟨h1, B, n, d, e⟩
set_option maxHeartbeats 3200000 in
theorem f4_law (xs : List K4) (A : Option Addr) (ca : Nat) (ys : List K4) (B : Option Addr) (cb : Nat) (zs : List K4) (E : Option Addr) (ce : Nat) (turn : Int) (S : SH) (hG : Gl S) (hA : At S A xs) (lx : xs.length ≤ ca) (hx : ∀ x ∈ xs, K4ok x) (hB : At S B ys) (ly : ys.length ≤ cb) (hy : ∀ x ∈ ys, K4ok x) (hE : At S E zs) (lz : zs.length ≤ ce) (hz : ∀ x ∈ zs, K4ok x) (ht : i64 turn) :
    Con Tryd.prog 4 #[.slice A xs.length ca, .slice B ys.length cb, .slice E zs.length ce, .int .i64 turn] S [] (fun _ _ v => v = .bool true) := by
  refine con_of (args := [.slice A xs.length ca, .slice B ys.length cb, .slice E zs.length ce, .int .i64 turn]) Tryd.func4 rfl Tryd.ntmps4 rfl fun w => ?_
  (repeat (first | refine Jc ?_ | ((apply z_call; rfl; rfl; rfl; exact sane_con S hG; rintro S1 _ _ hle1 ⟨rfl, rfl⟩)) | refine Jo ?_ | intro _))
  (repeat (first | refine Jc ?_ | ((apply z_call; rfl; rfl; rfl; exact MadeFacts_con xs A ca S1 (hA.le hle1) hx; rintro S2 _ _ hle2 ⟨rfl, Al, cl, l, rfl, hAl, hcl, hll, hlf⟩)) | refine Jo ?_ | intro _))
  (repeat (first | refine Jc ?_ | ((apply z_call; rfl; rfl; rfl; exact MadeFacts_con ys B cb S2 (hB.le (hle1.trans hle2)) hy; rintro S3 _ _ hle3 ⟨rfl, Am, cm, m, rfl, hAm, hcm, hlm, hmf⟩)) | refine Jo ?_ | intro _))
  have gl : Good l := .of hlf (by omega)
  have gm : Good m := .of hmf (by omega)
  (repeat (first | refine Jc ?_ | ((apply z_call; rfl; rfl; rfl; exact MakeF gl Al cl S3 (hG.le ((hle1.trans hle2).trans hle3)) (hAl.le hle3); rintro S4 _ _ hle4 ⟨rfl, Aa, na, ka, a, rfl, hsa, hia, hG4⟩)) | refine Jo ?_ | intro _))
  (repeat (first | refine Jc ?_ | ((apply z_call; rfl; rfl; rfl; exact MakeF gm Am cm S4 hG4 (hAm.le hle4); rintro S5 _ _ hle5 ⟨rfl, Ab, nb, kb, b, rfl, hsb, hib, hG5⟩)) | refine Jo ?_ | intro _))
  (repeat (first | refine Jc ?_ | ((apply z_call; rfl; rfl; rfl; exact MadeFacts_con zs E ce S5 (hE.le ((((hle1.trans hle2).trans hle3).trans hle4).trans hle5)) hz; rintro S6 _ _ hle6 ⟨rfl, An, cn, nn, rfl, hAn, hcn, hln, hnf⟩)) | refine Jo ?_ | intro _))
  have gn : Good nn := .of hnf (by omega)
  (repeat (first | refine Jc ?_ | ((apply z_call; rfl; rfl; rfl; exact MakeF gn An cn S6 (hG5.le hle6) hAn; rintro S7 _ _ hle7 ⟨rfl, Ac, nc, kc, c, rfl, hsc, hic, hG7⟩)) | refine Jo ?_ | intro _))
  have hAl7 : At S7 Al l := hAl.le (by repeat (first | exact Le.refl _ | assumption | refine Le.trans ?_ (by assumption)))
  have hAm7 : At S7 Am m := hAm.le (by repeat (first | exact Le.refl _ | assumption | refine Le.trans ?_ (by assumption)))
  rename_i b0
  have ho0 := Ows.full (α := Fa) (e := 27) (g := b0) (cs := []) (l := []) rfl (by decide)
  (repeat (first | refine Jc ?_ | (apply s_append_st (ms := l) hAl7; (case hg => rfl); (case hd => rfl); (case hx => rfl); (case ho => exact ho0); (case hL => (exact pmT)); (case hy => rfl); (case hm => first | rfl | simp); (case hzs => rfl); (case h0 => decide); (case hb => first | (simp; omega) | simp); (case h63 => first | (simp; omega) | simp); intro v1' ob1 ho1) | refine Jo ?_ | intro _))
  (repeat (first | refine Jc ?_ | (apply s_append_st (ms := m) hAm7; (case hg => rfl); (case hd => rfl); (case hx => rfl); (case ho => exact ho1); (case hL => (exact pmT)); (case hy => rfl); (case hm => first | rfl | simp); (case hzs => rfl); (case h0 => decide); (case hb => first | (simp; omega) | simp); (case h63 => first | (simp; omega) | simp); intro v2' ob2 ho2; refine W.freezeOws ho2 (by repeat (first | exact pm_nil _ | exact pm_refl _ _ | exact pm_self _ | refine pm_cons ?_ | refine pm_app ?_)) fun S8 hle8 hr8 => ?_; obtain ⟨A8, c8, rfl, hc8, hA8⟩ := hr8) | refine Jo ?_ | intro _))
  have hte : [] ++ l ++ m = l ++ m := by simp
  rw [hte] at hA8 hc8 ⊢
  clear hte ho1 ho2
  have htl : (l ++ m).length = l.length + m.length := List.length_append
  have gt : Good (l ++ m) := .app hlf hmf (by omega)
  generalize hlm2 : l ++ m = t at *
  obtain ⟨kt, hk, hk2⟩ : ∃ k : Nat, pickI turn ((t.length : Int) + 1) = k ∧ k ≤ t.length := by
    have h := pickI_bd turn ((t.length : Int) + 1) (by omega)
    exact ⟨(pickI turn ((t.length : Int) + 1)).toNat, by omega, by omega⟩
  have hpk := lpick_con turn ((t.length : Int) + 1) S8 ht (by omega)
  rw [hk] at hpk
  (repeat (first | refine Jc ?_ | ((apply z_call; rfl; rfl; rfl; exact hpk; rintro _ _ _ - ⟨rfl, rfl, rfl⟩)) | refine Jo ?_ | intro _))
  rename_i b3 b2 b1
  have gp : Good (t.drop kt ++ t.take kt) := gt.perm (by
    refine (List.Perm.of_eq (List.take_append_drop kt t).symm).trans List.perm_append_comm)
  have hG8 := hG7.le hle8
  refine c_meet (fun S' L F => Le S8 S' ∧ ∃ bx Ar nr kr r, SkV S' (.agg [.slice Ar nr kr].toArray) r ∧ IsSk r (t.drop kt ++ t.take kt) ∧ L = [(bx, .cells [.slice Ar nr kr].toArray 24 (0, 0)), (b1, .cells [.slice Ac nc kc].toArray 24 (0, 0)), (b2, .cells [.slice Ab nb kb].toArray 24 (0, 0)), (b3, .cells [.slice Aa na ka].toArray 24 (0, 0))] ∧
    F = [(21, .int .i64 0), (20, .pointer (some ⟨bx, 0, none⟩)), (17, .int .i64 0), (16, .pointer (some ⟨b1, 0, none⟩)), (15, .int .i64 0), (14, .pointer (some ⟨b2, 0, none⟩)), (13, .int .i64 0), (12, .pointer (some ⟨b3, 0, none⟩)), (9, .bool true), (8, .bool false)]) ?_ ?_
  · ((apply c_held ([(b1, .cells [.slice Ac nc kc].toArray 24 (0, 0)), (b2, .cells [.slice Ab nb kb].toArray 24 (0, 0)), (b3, .cells [.slice Aa na ka].toArray 24 (0, 0))]); (case hL => (exact sbT))); refine Jf 1 ?_; refine Jf 2 ?_; (apply h_slice_lo hA8 3; (case hi => rfl); (case hr => kernel_rfl); (case hfr => kernel_rfl); (case hsel => kernel_rfl); (case hg => rfl); (case hd => rfl); (case i1 => infer_instance); (case i2 => infer_instance); (case hx => rfl); (case hy => rfl); (case hm => rfl); (case hmc => omega); (case hj => omega); intro A9 hA9); refine Jf 5 ?_; refine Jf 6 ?_; (apply h_slice_hi hA8 7; (case hi => rfl); (case hr => kernel_rfl); (case hfr => kernel_rfl); (case hsel => kernel_rfl); (case hg => rfl); (case hd => rfl); (case i1 => infer_instance); (case i2 => infer_instance); (case hx => rfl); (case hy => rfl); (case hm => rfl); (case hmc => omega); (case hj => omega); intro A10 hA10); (apply h_two 0 13; (case hr => kernel_rfl)); (case k1 => ((apply n_buildSlice; (case hi => rfl); (case hg => rfl); (case hd => rfl); (case i1 => infer_instance); (case i2 => infer_instance); (case i3 => infer_instance); (case hp => rfl); (case hq => rfl); (case hm => rfl); (case hv => rfl); (case hl => rfl); intro b0); (apply h_two 4 13; (case hr => kernel_rfl)); (case k1 => ((apply n_append_st (ms := t.drop kt) hA9; (case hi => rfl); (case hT => infer_instance); (case hsz => infer_instance); (case hz => infer_instance); (case hby => infer_instance); (case hg => rfl); (case hd => rfl); (case hx => rfl); (case ho => exact Ows.full (α := Fa) (e := 27) (g := b0) (cs := []) (l := []) rfl (by decide)); (case hL => (exact pmT)); (case hy => rfl); (case hm => first | rfl | simp); (case hzs => rfl); (case h0 => decide); (case hb => first | (simp; omega) | simp); (case h63 => first | (simp; omega) | simp); (case hsub => first | (intro _ _; exact List.nil_sublist _) | (intros; (exact sbT))); intro v1' ob1 ho1); (apply h_two 8 13; (case hr => kernel_rfl)); (case k1 => ((apply n_append_st (ms := t.take kt) hA10; (case hi => rfl); (case hT => infer_instance); (case hsz => infer_instance); (case hz => infer_instance); (case hby => infer_instance); (case hg => rfl); (case hd => rfl); (case hx => rfl); (case ho => exact ho1); (case hL => (exact pmT)); (case hy => rfl); (case hm => first | rfl | simp); (case hzs => rfl); (case h0 => decide); (case hb => first | (simp; omega) | simp); (case h63 => first | (simp; omega) | simp); (case hsub => first | (intro _ _; exact List.nil_sublist _) | (intros; (exact sbT))); intro v2' ob2 ho2; refine Wh.freezeOws ho2 (by repeat (first | exact pm_nil _ | exact pm_refl _ _ | exact pm_self _ | refine pm_cons ?_ | refine pm_app ?_)) sbL fun S9 hle9 hr9 => ?_; obtain ⟨A11, c11, rfl, hc11, hA11⟩ := hr9); (apply h_two 9 13; (case hr => kernel_rfl)); (case k1 => ((apply n_call; (case hi => rfl); (case i1 => infer_instance); (case hg => rfl); (case hd => rfl); (case ha => rfl); (case hc => exact MakeF gp A11 c11 _ (hG8.le hle9) hA11); (case hL => (exact pmT)); (case hsub => (intros; (exact sbT))); rintro S10 _ _ hle10 ⟨rfl, Ar, nr, kr, r, rfl, hsr, hir, hG10⟩); refine Jf 10 ?_; refine Jf 11 ?_; refine Jf 12 ?_; (apply h_one 13; (case hr => kernel_rfl)); (refine Jn ?_; try intro _); (apply h_one 14; (case hr => kernel_rfl)); (refine Jn ?_; try intro _); refine Jf 15 ?_; (apply h_end; (case hr => kernel_rfl)); (apply q_then; exact q_cut ⟨hle9.trans hle10, _, Ar, nr, kr, r, hsr, hir, rfl, rfl⟩ sbF sbL))); (case k2 => ((refine Jn ?_; try intro _); (apply h_one 9; (case hr => kernel_rfl)); (apply n_call; (case hi => rfl); (case i1 => infer_instance); (case hg => rfl); (case hd => rfl); (case ha => rfl); (case hc => exact MakeF gp A11 c11 _ (hG8.le hle9) hA11); (case hL => (exact pmT)); (case hsub => (intros; (exact sbT))); rintro S10 _ _ hle10 ⟨rfl, Ar, nr, kr, r, rfl, hsr, hir, hG10⟩); refine Jf 10 ?_; refine Jf 11 ?_; refine Jf 12 ?_; (apply h_one 14; (case hr => kernel_rfl)); (refine Jn ?_; try intro _); refine Jf 15 ?_; (apply h_end; (case hr => kernel_rfl)); (apply q_then; exact q_cut ⟨hle9.trans hle10, _, Ar, nr, kr, r, hsr, hir, rfl, rfl⟩ sbF sbL))))); (case k2 => ((refine Jn ?_; try intro _); (apply h_one 8; (case hr => kernel_rfl)); (apply n_append_st (ms := t.take kt) hA10; (case hi => rfl); (case hT => infer_instance); (case hsz => infer_instance); (case hz => infer_instance); (case hby => infer_instance); (case hg => rfl); (case hd => rfl); (case hx => rfl); (case ho => exact ho1); (case hL => (exact pmT)); (case hy => rfl); (case hm => first | rfl | simp); (case hzs => rfl); (case h0 => decide); (case hb => first | (simp; omega) | simp); (case h63 => first | (simp; omega) | simp); (case hsub => first | (intro _ _; exact List.nil_sublist _) | (intros; (exact sbT))); intro v2' ob2 ho2; refine Wh.freezeOws ho2 (by repeat (first | exact pm_nil _ | exact pm_refl _ _ | exact pm_self _ | refine pm_cons ?_ | refine pm_app ?_)) sbL fun S9 hle9 hr9 => ?_; obtain ⟨A11, c11, rfl, hc11, hA11⟩ := hr9); (apply h_one 9; (case hr => kernel_rfl)); (apply n_call; (case hi => rfl); (case i1 => infer_instance); (case hg => rfl); (case hd => rfl); (case ha => rfl); (case hc => exact MakeF gp A11 c11 _ (hG8.le hle9) hA11); (case hL => (exact pmT)); (case hsub => (intros; (exact sbT))); rintro S10 _ _ hle10 ⟨rfl, Ar, nr, kr, r, rfl, hsr, hir, hG10⟩); refine Jf 10 ?_; refine Jf 11 ?_; refine Jf 12 ?_; (apply h_one 14; (case hr => kernel_rfl)); (refine Jn ?_; try intro _); refine Jf 15 ?_; (apply h_end; (case hr => kernel_rfl)); (apply q_then; exact q_cut ⟨hle9.trans hle10, _, Ar, nr, kr, r, hsr, hir, rfl, rfl⟩ sbF sbL))))); (case k2 => ((refine Jn ?_; try intro _); (apply h_one 4; (case hr => kernel_rfl)); (apply n_append_st (ms := t.drop kt) hA9; (case hi => rfl); (case hT => infer_instance); (case hsz => infer_instance); (case hz => infer_instance); (case hby => infer_instance); (case hg => rfl); (case hd => rfl); (case hx => rfl); (case ho => exact Ows.full (α := Fa) (e := 27) (g := b0) (cs := []) (l := []) rfl (by decide)); (case hL => (exact pmT)); (case hy => rfl); (case hm => first | rfl | simp); (case hzs => rfl); (case h0 => decide); (case hb => first | (simp; omega) | simp); (case h63 => first | (simp; omega) | simp); (case hsub => first | (intro _ _; exact List.nil_sublist _) | (intros; (exact sbT))); intro v1' ob1 ho1); (apply h_one 8; (case hr => kernel_rfl)); (apply n_append_st (ms := t.take kt) hA10; (case hi => rfl); (case hT => infer_instance); (case hsz => infer_instance); (case hz => infer_instance); (case hby => infer_instance); (case hg => rfl); (case hd => rfl); (case hx => rfl); (case ho => exact ho1); (case hL => (exact pmT)); (case hy => rfl); (case hm => first | rfl | simp); (case hzs => rfl); (case h0 => decide); (case hb => first | (simp; omega) | simp); (case h63 => first | (simp; omega) | simp); (case hsub => first | (intro _ _; exact List.nil_sublist _) | (intros; (exact sbT))); intro v2' ob2 ho2; refine Wh.freezeOws ho2 (by repeat (first | exact pm_nil _ | exact pm_refl _ _ | exact pm_self _ | refine pm_cons ?_ | refine pm_app ?_)) sbL fun S9 hle9 hr9 => ?_; obtain ⟨A11, c11, rfl, hc11, hA11⟩ := hr9); (apply h_one 9; (case hr => kernel_rfl)); (apply n_call; (case hi => rfl); (case i1 => infer_instance); (case hg => rfl); (case hd => rfl); (case ha => rfl); (case hc => exact MakeF gp A11 c11 _ (hG8.le hle9) hA11); (case hL => (exact pmT)); (case hsub => (intros; (exact sbT))); rintro S10 _ _ hle10 ⟨rfl, Ar, nr, kr, r, rfl, hsr, hir, hG10⟩); refine Jf 10 ?_; refine Jf 11 ?_; refine Jf 12 ?_; (apply h_one 14; (case hr => kernel_rfl)); (refine Jn ?_; try intro _); refine Jf 15 ?_; (apply h_end; (case hr => kernel_rfl)); (apply q_then; exact q_cut ⟨hle9.trans hle10, _, Ar, nr, kr, r, hsr, hir, rfl, rfl⟩ sbF sbL))))); (case k2 => ((refine Jn ?_; try intro _); (apply h_one 0; (case hr => kernel_rfl)); (apply n_buildSlice; (case hi => rfl); (case hg => rfl); (case hd => rfl); (case i1 => infer_instance); (case i2 => infer_instance); (case i3 => infer_instance); (case hp => rfl); (case hq => rfl); (case hm => rfl); (case hv => rfl); (case hl => rfl); intro b0); (apply h_one 4; (case hr => kernel_rfl)); (apply n_append_st (ms := t.drop kt) hA9; (case hi => rfl); (case hT => infer_instance); (case hsz => infer_instance); (case hz => infer_instance); (case hby => infer_instance); (case hg => rfl); (case hd => rfl); (case hx => rfl); (case ho => exact Ows.full (α := Fa) (e := 27) (g := b0) (cs := []) (l := []) rfl (by decide)); (case hL => (exact pmT)); (case hy => rfl); (case hm => first | rfl | simp); (case hzs => rfl); (case h0 => decide); (case hb => first | (simp; omega) | simp); (case h63 => first | (simp; omega) | simp); (case hsub => first | (intro _ _; exact List.nil_sublist _) | (intros; (exact sbT))); intro v1' ob1 ho1); (apply h_one 8; (case hr => kernel_rfl)); (apply n_append_st (ms := t.take kt) hA10; (case hi => rfl); (case hT => infer_instance); (case hsz => infer_instance); (case hz => infer_instance); (case hby => infer_instance); (case hg => rfl); (case hd => rfl); (case hx => rfl); (case ho => exact ho1); (case hL => (exact pmT)); (case hy => rfl); (case hm => first | rfl | simp); (case hzs => rfl); (case h0 => decide); (case hb => first | (simp; omega) | simp); (case h63 => first | (simp; omega) | simp); (case hsub => first | (intro _ _; exact List.nil_sublist _) | (intros; (exact sbT))); intro v2' ob2 ho2; refine Wh.freezeOws ho2 (by repeat (first | exact pm_nil _ | exact pm_refl _ _ | exact pm_self _ | refine pm_cons ?_ | refine pm_app ?_)) sbL fun S9 hle9 hr9 => ?_; obtain ⟨A11, c11, rfl, hc11, hA11⟩ := hr9); (apply h_one 9; (case hr => kernel_rfl)); (apply n_call; (case hi => rfl); (case i1 => infer_instance); (case hg => rfl); (case hd => rfl); (case ha => rfl); (case hc => exact MakeF gp A11 c11 _ (hG8.le hle9) hA11); (case hL => (exact pmT)); (case hsub => (intros; (exact sbT))); rintro S10 _ _ hle10 ⟨rfl, Ar, nr, kr, r, rfl, hsr, hir, hG10⟩); refine Jf 10 ?_; refine Jf 11 ?_; refine Jf 12 ?_; (apply h_one 14; (case hr => kernel_rfl)); (refine Jn ?_; try intro _); refine Jf 15 ?_; (apply h_end; (case hr => kernel_rfl)); (apply q_then; exact q_cut ⟨hle9.trans hle10, _, Ar, nr, kr, r, hsr, hir, rfl, rfl⟩ sbF sbL))))
  rintro S9 L9 F9 ⟨hle9, bx, Ar, nr, kr, r, hsr, hir, rfl, rfl⟩
  have hG9 := hG8.le hle9
  have ha9 : SkV S9 (.agg [.slice Aa na ka].toArray) a := (hsa.le (((((hle5.trans hle6).trans hle7).trans hle8).trans hle9)))
  have hb9 : SkV S9 (.agg [.slice Ab nb kb].toArray) b := hsb.le (((hle6.trans hle7).trans hle8).trans hle9)
  have hc9 : SkV S9 (.agg [.slice Ac nc kc].toArray) c := hsc.le (hle8.trans hle9)
  have glm : Good (l ++ m) := .app hlf hmf (by omega)
  have gml : Good (m ++ l) := .app hmf hlf (by omega)
  have gmn : Good (m ++ nn) := .app hmf hnf (by omega)
  have gx : Good (l ++ m ++ nn) := .app glm.each hnf (by rw [List.length_append]; omega)
  have gy : Good (l ++ (m ++ nn)) := .app hlf gmn.each (by rw [List.length_append]; omega)
  have gz : Good (l ++ []) := .app hlf (fun x hx => absurd hx List.not_mem_nil) (by simp; omega)
  have g0 : Good [] := ⟨fun x hx => absurd hx List.not_mem_nil, by decide⟩
  (repeat (first | refine Jc ?_ | ((apply z_call; rfl; rfl; rfl; exact MergeF glm S9 hG9 ha9 hb9 hia hib; rintro T1 _ _ ht1 ⟨rfl, B1, n1, k1, s1, rfl, hs1, hi1, hT1⟩)) | refine Jo ?_ | intro _))
  (repeat (first | refine Jc ?_ | ((apply z_call; rfl; rfl; rfl; exact MergeF gml T1 hT1 (hb9.le ht1) (ha9.le ht1) hib hia; rintro T2 _ _ ht2 ⟨rfl, B2, n2, k2, s2, rfl, hs2, hi2, hT2⟩)) | refine Jo ?_ | intro _))
  (repeat (first | refine Jc ?_ | ((apply z_call; rfl; rfl; rfl; exact MergeF gmn T2 hT2 ((hb9.le ht1).le ht2) ((hc9.le ht1).le ht2) hib hic; rintro T3 _ _ ht3 ⟨rfl, B3, n3, k3, s3, rfl, hs3, hi3, hT3⟩)) | refine Jo ?_ | intro _))
  (repeat (first | refine Jc ?_ | ((apply z_call; rfl; rfl; rfl; exact MergeF gx T3 hT3 ((hs1.le ht2).le ht3) (((hc9.le ht1).le ht2).le ht3) hi1 hic; rintro T4 _ _ ht4 ⟨rfl, B4, n4, k4, s4, rfl, hs4, hi4, hT4⟩)) | refine Jo ?_ | intro _))
  (repeat (first | refine Jc ?_ | ((apply z_call; rfl; rfl; rfl; exact MergeF gy T4 hT4 ((((ha9.le ht1).le ht2).le ht3).le ht4) (hs3.le ht4) hia hi3; rintro T5 _ _ ht5 ⟨rfl, B5, n5, k5, s5, rfl, hs5, hi5, hT5⟩)) | refine Jo ?_ | intro _))
  (repeat (first | refine Jc ?_ | ((apply z_call; rfl; rfl; rfl; exact MakeF g0 none 0 T5 hT5 (At.nil _ _); rintro T6 _ _ ht6 ⟨rfl, B6, n6, k6, s6, rfl, hs6, hi6, hT6⟩)) | refine Jo ?_ | intro _))
  (repeat (first | refine Jc ?_ | ((apply z_call; rfl; rfl; rfl; exact MergeF gz T6 hT6 ((((((ha9.le ht1).le ht2).le ht3).le ht4).le ht5).le ht6) hs6 hia hi6; rintro T7 _ _ ht7 ⟨rfl, B7, n7, k7, s7, rfl, hs7, hi7, hT7⟩)) | refine Jo ?_ | intro _))
  have q1 : r = s1 := hir.unique hi1 (by rw [hlm2]; exact List.perm_append_comm.trans (List.Perm.of_eq (List.take_append_drop kt t)))
  have q2 : s1 = s2 := hi1.unique hi2 List.perm_append_comm
  have q3 : s4 = s5 := hi4.unique hi5 (List.Perm.of_eq (List.append_assoc _ _ _))
  have q4 : s7 = a := hi7.unique hia (List.Perm.of_eq (List.append_nil _))
  have w1 := Same_con T7 (hsr.le ((((((ht1.trans ht2).trans ht3).trans ht4).trans ht5).trans ht6).trans ht7)) (hs1.le (((((ht2.trans ht3).trans ht4).trans ht5).trans ht6).trans ht7))
  have w2 := Same_con T7 (hs1.le (((((ht2.trans ht3).trans ht4).trans ht5).trans ht6).trans ht7)) (hs2.le ((((ht3.trans ht4).trans ht5).trans ht6).trans ht7))
  have w3 := Same_con T7 (hs4.le ((ht5.trans ht6).trans ht7)) (hs5.le (ht6.trans ht7))
  have w4 := Same_con T7 hs7 (ha9.le ((((((ht1.trans ht2).trans ht3).trans ht4).trans ht5).trans ht6).trans ht7))
  rw [bP_t q1] at w1
  rw [bP_t q2] at w2
  rw [bP_t q3] at w3
  rw [bP_t q4] at w4
  (repeat (first | refine Jc ?_ | ((apply z_call; rfl; rfl; rfl; exact w1; rintro _ _ _ - ⟨rfl, rfl, rfl⟩)) | ((apply z_call; rfl; rfl; rfl; exact w2; rintro _ _ _ - ⟨rfl, rfl, rfl⟩)) | ((apply z_call; rfl; rfl; rfl; exact w3; rintro _ _ _ - ⟨rfl, rfl, rfl⟩)) | ((apply z_call; rfl; rfl; rfl; exact w4; rintro _ _ _ - ⟨rfl, rfl, rfl⟩)) | refine Jo ?_ | intro _))
  exact o_ret (L' := []) Tryd.results4 rfl (List.nil_sublist _) rfl
end Go.Proofs.YtogfficbloejcaaDoor
namespace Go.Proofs.YtogfficbloejcaaDoor
open Go Go.X
set_option maxRecDepth 10000
set_option linter.unusedVariables false
attribute [local irreducible] Code.wpIn wpListIn Exit.then Exit.inBlock X.Out X.Back X.W X.Ev X.Con X.BinV X.Wh X.Wn X.Wq
theorem own_perm (l : List Fa) (who : Int) : l.Perm (l.filter (fun x => x.pe == who) ++ l.filter (fun x => !(x.pe == who))) := (List.filter_append_perm _ l).symm
theorem fkey_len (x : Fa) : (fkey x).length = 4 := rfl
theorem IsSk.ne_nil {s : List PC} {L : List Fa} (h : IsSk s L) (hne : L ≠ []) : s ≠ [] := by
  obtain ⟨x, L', rfl⟩ := List.exists_cons_of_ne_nil hne
  intro e
  subst e
  have := (h.mem (mkPC (fkey x) (vecOf (x :: L') (fkey x)))).2 (by
    rw [mkPC_key (fkey_len x)]
    exact ⟨⟨x, List.mem_cons_self, rfl⟩, rfl⟩)
  exact absurd this List.not_mem_nil
theorem SkV.len {S : SH} {A : Option Addr} {n c : Nat} {l : List PC} (h : SkV S (.agg [.slice A n c].toArray) l) : n = l.length := by
  obtain ⟨A', c', cs, e, _, _, _, hm⟩ := h
  rw [← hm, List.length_map]
  injection e with e
  have e2 := congrArg Array.toList e
  simp at e2
  exact e2.2.1
set_option maxHeartbeats 3200000 in
theorem f5_law (xs : List K4) (A : Option Addr) (ca : Nat) (ys : List K4) (B : Option Addr) (cb : Nat) (person : Int) (S : SH) (hG : Gl S) (hA : At S A xs) (lx : xs.length ≤ ca) (hx : ∀ x ∈ xs, K4ok x) (hB : At S B ys) (ly : ys.length ≤ cb) (hy : ∀ x ∈ ys, K4ok x) (ht : i64 person) :
    Con Tryd.prog 5 #[.slice A xs.length ca, .slice B ys.length cb, .int .i64 person] S [] (fun _ _ v => v = .bool true) := by
  refine con_of (args := [.slice A xs.length ca, .slice B ys.length cb, .int .i64 person]) Tryd.func5 rfl Tryd.ntmps5 rfl fun w => ?_
  (repeat (first | refine Jc ?_ | ((apply z_call; rfl; rfl; rfl; exact sane_con S hG; rintro S1 _ _ hle1 ⟨rfl, rfl⟩)) | refine Jo ?_ | intro _))
  (repeat (first | refine Jc ?_ | ((apply z_call; rfl; rfl; rfl; exact MadeFacts_con xs A ca S1 (hA.le hle1) hx; rintro S2 _ _ hle2 ⟨rfl, Al, cl, l, rfl, hAl, hcl, hll, hlf⟩)) | refine Jo ?_ | intro _))
  have gl : Good l := .of hlf (by omega)
  (repeat (first | refine Jc ?_ | ((apply z_call; rfl; rfl; rfl; exact MakeF gl Al cl S2 (hG.le (hle1.trans hle2)) hAl; rintro S3 _ _ hle3 ⟨rfl, Aa, na, ka, a, rfl, hsa, hia, hG3⟩)) | refine Jo ?_ | intro _))
  (repeat (first | refine Jc ?_ | ((apply z_call; rfl; rfl; rfl; exact MadeFacts_con ys B cb S3 (hB.le ((hle1.trans hle2).trans hle3)) hy; rintro S4 _ _ hle4 ⟨rfl, Am, cm, m, rfl, hAm, hcm, hlm, hmf⟩)) | refine Jo ?_ | intro _))
  have gm : Good m := .of hmf (by omega)
  (repeat (first | refine Jc ?_ | ((apply z_call; rfl; rfl; rfl; exact MakeF gm Am cm S4 (hG3.le hle4) hAm; rintro S5 _ _ hle5 ⟨rfl, Ab, nb, kb, b, rfl, hsb, hib, hG5⟩)) | refine Jo ?_ | intro _))
  have glm : Good (l ++ m) := .app hlf hmf (by omega)
  have ha5 := (hsa.le hle4).le hle5
  (repeat (first | refine Jc ?_ | ((apply z_call; rfl; rfl; rfl; exact MergeF glm S5 hG5 ha5 hsb hia hib; rintro S6 _ _ hle6 ⟨rfl, Ad, nd, kd, d, rfl, hsd, hid, hG6⟩)) | refine Jo ?_ | intro _))
  (repeat (first | refine Jc ?_ | ((apply z_call; rfl; rfl; rfl; exact SubF glm List.perm_append_comm S6 hG6 hsd (hsb.le hle6) hid hib; rintro S7 _ _ hle7 ⟨rfl, Ae, ne, ke, e, rfl, hse, hie, hG7⟩)) | refine Jo ?_ | intro _))
  have hwho := pickI_bd person 6 (by decide)
  have hpk := lpick_con person 6 S7 ht (by decide)
  generalize hwv : pickI person 6 = who at *
  have hAl7 : At S7 Al l := ((((hAl.le hle3).le hle4).le hle5).le hle6).le hle7
  (repeat (first | refine Jc ?_ | ((apply z_call; rfl; rfl; rfl; exact hpk; rintro _ _ _ - ⟨rfl, rfl, rfl⟩)) | refine Jo ?_ | intro _))
  rename_i b1 b2 b3 b4
  refine c_loop (fun q S' L F => S' = S7 ∧ ∃ (i : Nat) (vo : Value) (oo : Blocks) (vt : Value) (ot : Blocks), q = l.length - i ∧ i ≤ l.length ∧ Ows 27 vo ((l.take i).filter fun x => x.pe == who - 1) oo ∧ Ows 27 vt ((l.take i).filter fun x => !(x.pe == who - 1)) ot ∧
      L = oo ++ (ot ++ [(b4, .cells [.slice Ae ne ke].toArray 24 (0, 0)), (b3, .cells [.slice Ad nd kd].toArray 24 (0, 0)), (b2, .cells [.slice Ab nb kb].toArray 24 (0, 0)), (b1, .cells [.slice Aa na ka].toArray 24 (0, 0))]) ∧
      F = [(20, .int .i64 i), (19, .int .i64 (who - 1)), (18, vt), (17, vo), (16, .int .i64 0), (15, .pointer (some ⟨b4, 0, none⟩)), (14, .int .i64 0), (13, .pointer (some ⟨b3, 0, none⟩)), (12, .int .i64 0), (11, .pointer (some ⟨b2, 0, none⟩)), (10, .int .i64 0), (9, .pointer (some ⟨b1, 0, none⟩)), (8, .slice Al l.length cl), (7, .bool true), (6, .bool false)])
    ⟨rfl, 0, _, [], _, [], rfl, by omega, Ows.nil 27, Ows.nil 27, rfl, rfl⟩ sbF sbL ?_
  rintro q S' L F ⟨rfl, i, vo, oo, vt, ot, rfl, hi, hoo, hot, rfl, rfl⟩
  by_cases hlt : i < l.length
  · obtain ⟨x, hx⟩ := at_lt' hlt
    have htk : l.take (i + 1) = l.take i ++ [x] := by rw [List.take_add_one, hx]; rfl
    have h1l : ((l.take i).filter fun x => x.pe == who - 1).length ≤ 40 := Nat.le_trans (List.length_filter_le _ _) (by rw [List.length_take]; omega)
    have h2l : ((l.take i).filter fun x => !(x.pe == who - 1)).length ≤ 40 := Nat.le_trans (List.length_filter_le _ _) (by rw [List.length_take]; omega)
    by_cases hp : x.pe = who - 1
    · have e1 : (l.take (i + 1)).filter (fun x => x.pe == who - 1) = (l.take i).filter (fun x => x.pe == who - 1) ++ [x] := by rw [htk, List.filter_append, List.filter_cons_of_pos (by simpa using hp)]; rfl
      have e2 : (l.take (i + 1)).filter (fun x => !(x.pe == who - 1)) = (l.take i).filter (fun x => !(x.pe == who - 1)) := by rw [htk, List.filter_append, List.filter_cons_of_neg (by simpa using hp)]; simp
      (repeat (first | refine Jc ?_ | (apply s_idx hAl7; (case hg => rfl); (case hd => rfl); (case hx => rfl); (case hi => rfl); (case hm => rfl); (case hu => exact hx); intro p (hp2 : Pts _ p x.vals)) | (apply s_load_f; (case hg => rfl); (case hd => rfl); (case hx => rfl); (case h => exact hp2); (case hv => rfl)) | (apply s_load_ag; (case hg => rfl); (case hd => rfl); (case hx => rfl); (case hv => exact hp2); (case hl => rfl)) | (apply s_append (ms := [x]); (case hg => rfl); (case hd => rfl); (case hx => rfl); (case ho => exact hoo); (case hL => (exact pmT)); (case hy => rfl); (case hm => rfl); (case hs => (apply Src.own; (repeat (first | exact List.Mem.head _ | apply List.Mem.tail | apply List.mem_append_right)))); (case hzs => rfl); (case h0 => decide); (case hb => (simp; omega)); (case h63 => (simp; omega)); intro v' ob' ho') | refine Jo ?_ | intro _))
      exact q_back (m' := l.length - (i + 1)) ⟨rfl, i + 1, v', ob', vt, ot, rfl, by omega, by rw [e1]; exact ho', by rw [e2]; exact hot, rfl, rfl⟩ (by omega) sbF sbL
    · have e1 : (l.take (i + 1)).filter (fun x => x.pe == who - 1) = (l.take i).filter (fun x => x.pe == who - 1) := by rw [htk, List.filter_append, List.filter_cons_of_neg (by simpa using hp)]; simp
      have e2 : (l.take (i + 1)).filter (fun x => !(x.pe == who - 1)) = (l.take i).filter (fun x => !(x.pe == who - 1)) ++ [x] := by rw [htk, List.filter_append, List.filter_cons_of_pos (by simpa using hp)]; rfl
      (repeat (first | refine Jc ?_ | (apply s_idx hAl7; (case hg => rfl); (case hd => rfl); (case hx => rfl); (case hi => rfl); (case hm => rfl); (case hu => exact hx); intro p (hp2 : Pts _ p x.vals)) | (apply s_load_f; (case hg => rfl); (case hd => rfl); (case hx => rfl); (case h => exact hp2); (case hv => rfl)) | (apply s_load_ag; (case hg => rfl); (case hd => rfl); (case hx => rfl); (case hv => exact hp2); (case hl => rfl)) | (apply s_append (ms := [x]); (case hg => rfl); (case hd => rfl); (case hx => rfl); (case ho => exact hot); (case hL => (exact pmT)); (case hy => rfl); (case hm => rfl); (case hs => (apply Src.own; (repeat (first | exact List.Mem.head _ | apply List.Mem.tail | apply List.mem_append_right)))); (case hzs => rfl); (case h0 => decide); (case hb => (simp; omega)); (case h63 => (simp; omega)); intro v' ob' ho') | refine Jo ?_ | intro _))
      rename_i bz
      refine W.perm (L' := oo ++ (ob' ++ ((bz, _) :: [(b4, .cells [.slice Ae ne ke].toArray 24 (0, 0)), (b3, .cells [.slice Ad nd kd].toArray 24 (0, 0)), (b2, .cells [.slice Ab nb kb].toArray 24 (0, 0)), (b1, .cells [.slice Aa na ka].toArray 24 (0, 0))]))) ?_ (by repeat (first | exact pm_nil _ | exact pm_refl _ _ | exact pm_self _ | refine pm_cons ?_ | refine pm_app ?_))
      exact q_back (m' := l.length - (i + 1)) ⟨rfl, i + 1, vo, oo, v', ob', rfl, by omega, by rw [e1]; exact hoo, by rw [e2]; exact ho', rfl, rfl⟩ (by omega) sbF sbL
  rw [List.take_of_length_le (by omega)] at hoo hot
  refine W.freezeOws hoo (List.Perm.refl _) fun S8 hle8 hr8 => ?_
  refine W.freezeOws hot (List.Perm.refl _) fun S9 hle9 hr9 => ?_
  obtain ⟨A8, c8, rfl, hc8, hA8⟩ := hr8
  obtain ⟨A9, c9, rfl, hc9, hA9⟩ := hr9
  have hpm := own_perm l (who - 1)
  generalize hown : (l.filter fun x => x.pe == who - 1) = own at *
  generalize hoth : (l.filter fun x => !(x.pe == who - 1)) = oth at *
  have gown : Good own := gl.sub (fun x hx => hpm.mem_iff.2 (List.mem_append_left _ hx)) (by have := hpm.length_eq; rw [List.length_append] at this; omega)
  have goth : Good oth := gl.sub (fun x hx => hpm.mem_iff.2 (List.mem_append_right _ hx)) (by have := hpm.length_eq; rw [List.length_append] at this; omega)
  have hG9 := (hG7.le hle8).le hle9
  (repeat (first | refine Jc ?_ | ((apply z_call; rfl; rfl; rfl; exact MakeF gown A8 c8 S9 hG9 (hA8.le hle9); rintro T1 _ _ ht1 ⟨rfl, B1, n1, k1, s1, rfl, hs1, hi1, hT1⟩)) | refine Jo ?_ | intro _))
  (repeat (first | refine Jc ?_ | ((apply z_call; rfl; rfl; rfl; exact MakeF goth A9 c9 T1 hT1 (hA9.le ht1); rintro T2 _ _ ht2 ⟨rfl, B2, n2, k2, s2, rfl, hs2, hi2, hT2⟩)) | refine Jo ?_ | intro _))
  have ha9 : SkV T2 (.agg [.slice Aa na ka].toArray) a := (((((ha5.le hle6).le hle7).le hle8).le hle9).le ht1).le ht2
  have hb9 : SkV T2 (.agg [.slice Ab nb kb].toArray) b := (((((hsb.le hle6).le hle7).le hle8).le hle9).le ht1).le ht2
  have hd9 : SkV T2 (.agg [.slice Ad nd kd].toArray) d := ((((hsd.le hle7).le hle8).le hle9).le ht1).le ht2
  have he9 : SkV T2 (.agg [.slice Ae ne ke].toArray) e := (((hse.le hle8).le hle9).le ht1).le ht2
  have pm2 : (l ++ m).Perm (own ++ (oth ++ m)) := by rw [← List.append_assoc]; exact hpm.append_right m
  have goy : Good (oth ++ m) := glm.sub (fun x hx => pm2.mem_iff.2 (List.mem_append_right _ hx)) (by have := pm2.length_eq; simp only [List.length_append] at this ⊢; omega)
  (repeat (first | refine Jc ?_ | ((apply z_call; rfl; rfl; rfl; exact SubF gl hpm T2 hT2 ha9 (hs1.le ht2) hia hi1; rintro T3 _ _ ht3 ⟨rfl, B3, n3, k3, s3, rfl, hs3, hi3, hT3⟩)) | refine Jo ?_ | intro _))
  (repeat (first | refine Jc ?_ | ((apply z_call; rfl; rfl; rfl; exact SubF glm pm2 T3 hT3 (hd9.le ht3) ((hs1.le ht2).le ht3) hid hi1; rintro T4 _ _ ht4 ⟨rfl, B4, n4, k4, s4, rfl, hs4, hi4, hT4⟩)) | refine Jo ?_ | intro _))
  (repeat (first | refine Jc ?_ | ((apply z_call; rfl; rfl; rfl; exact SubF goy (List.Perm.refl _) T4 hT4 hs4 ((hs2.le ht3).le ht4) hi4 hi2; rintro T5 _ _ ht5 ⟨rfl, B5, n5, k5, s5, rfl, hs5, hi5, hT5⟩)) | refine Jo ?_ | intro _))
  have q1 : e = a := hie.unique hia (List.Perm.refl _)
  have q2 : s3 = s2 := hi3.unique hi2 (List.Perm.refl _)
  have q3 : s5 = b := hi5.unique hib (List.Perm.refl _)
  have w1 := Same_con T5 (((he9.le ht3).le ht4).le ht5) (((ha9.le ht3).le ht4).le ht5)
  have w2 := Same_con T5 ((hs3.le ht4).le ht5) (((hs2.le ht3).le ht4).le ht5)
  have w3 := Same_con T5 hs5 (((hb9.le ht3).le ht4).le ht5)
  rw [bP_t q1] at w1
  rw [bP_t q2] at w2
  rw [bP_t q3] at w3
  (repeat (first | refine Jc ?_ | ((apply z_call; rfl; rfl; rfl; exact w1; rintro _ _ _ - ⟨rfl, rfl, rfl⟩)) | ((apply z_call; rfl; rfl; rfl; exact w2; rintro _ _ _ - ⟨rfl, rfl, rfl⟩)) | ((apply z_call; rfl; rfl; rfl; exact w3; rintro _ _ _ - ⟨rfl, rfl, rfl⟩)) | refine Jo ?_ | intro _))
  have hnb := hb9.len
  have ha10 := ((ha9.le ht3).le ht4).le ht5
  have hd10 := ((hd9.le ht3).le ht4).le ht5
  by_cases hm0 : m = []
  · subst hm0
    have hbn : b = [] := hib.empty
    subst hbn
    have hnb : nb = 0 := hnb
    subst hnb
    (repeat (first | refine Jc ?_ | ((apply z_call; rfl; rfl; rfl; exact SubF (N := []) gl (List.Perm.of_eq (by simp)) T5 hT5 ha10 hd10 hia hid; rintro T6 _ _ ht6 ⟨rfl, B6, n6, k6, s6, rfl, hs6, hi6, hT6⟩)) | refine Jo ?_ | intro _))
    exact o_ret (L' := []) Tryd.results5 rfl (List.nil_sublist _) rfl
  · have hbn : 0 < b.length := List.length_pos_iff.2 (hib.ne_nil hm0)
    (repeat (first | refine Jc ?_ | ((apply z_call; rfl; rfl; rfl; exact SubBadF glm hm0 T5 hT5 ha10 hd10 hia hid; rintro T6 _ _ ht6 ⟨rfl, B6, n6, k6, rfl⟩)) | refine Jo ?_ | intro _))
    exact o_ret (L' := []) Tryd.results5 rfl (List.nil_sublist _) rfl
end Go.Proofs.YtogfficbloejcaaDoor
namespace Go.Proofs.YtogfficbloejcaaDoor
open Go Go.X
set_option maxRecDepth 10000
set_option linter.unusedVariables false
attribute [local irreducible] Code.wpIn wpListIn Exit.then Exit.inBlock X.Out X.Back X.W X.Ev X.Con X.BinV X.Wh X.Wn X.Wq
theorem EncodeS_con {v : Value} {l : List PC} (S : SH) (hG : Gl S) (h : SkV S v l) : Con Tryd.prog 34 #[v] S [] (fun S' L' r => L' = [] ∧ r = encV l) := by
  obtain ⟨A, c, cs, rfl, hA, hok, hl, rfl⟩ := h
  exact Encode_con cs A c S hG hA hok (by omega)
def Le' (s : Bs) (q : Option Nat) : Prop := ∀ e, q = some e → e ≤ s.length
theorem get1_le {s : Bs} {q : Option Nat} (h : Le' s q) : Le' s (get1 s q).2 := by
  have he : EndIs s q (match q with | none => 0 | some e => (e : Int)) := fun e hq => by subst hq; exact ⟨rfl, h e rfl⟩
  obtain ⟨e', h'⟩ := get1_end he
  exact fun e hq => (h' e hq).2
theorem rdRow_le {s : Bs} : ∀ (n : Nat) (q : Option Nat) (last : Int) (l : List Int), Le' s q → Le' s (rdRow s n q last l).2
  | 0, q, _, _, h => h
  | n + 1, none, _, _, _ => fun e he => by cases he
  | n + 1, some x, last, l, h => by
    rw [rdRow]
    split
    · exact rdRow_le n _ _ _ (get1_le (get1_le h))
    · exact fun e he => by cases he
theorem rowR_le {s : Bs} {q : Option Nat} (h : Le' s q) : Le' s (rowR s q).2 := rdRow_le _ _ _ _ (get1_le h)
theorem qn_le {s : Bs} {q : Option Nat} (h : Le' s q) : ∀ k, Le' s (qn s k q)
  | 0 => h
  | k + 1 => get1_le (qn_le h k)
theorem cellD_le {s : Bs} {q : Option Nat} (h : Le' s q) : Le' s (cellD s q).2 := rowR_le (rowR_le (qn_le h 8))
theorem decC_le {s : Bs} : ∀ (n : Nat) (q : Option Nat) (l : List PC), Le' s q → Le' s (decC s n q l).2
  | 0, _, _, h => h
  | n + 1, none, _, _ => fun e he => by cases he
  | n + 1, some x, l, h => by rw [decC]; exact decC_le n _ _ (cellD_le h)
theorem txt_pos (l : List PC) : 0 < (txt (skI l)).length := by
  rw [skI, txt_cons, List.length_append]
  have : 0 < (ibs (l.length : Int)).length := enc_pos _
  omega
/-- What Decode can answer. -/
theorem decR_cases (s : Bs) (p : Nat) (hp : p ≤ s.length) : decR s p = ([], 0, 170) ∨ ∃ (l : List PC) (e : Nat), decR s p = (l, (e : Int), 0) ∧ ValidP l ∧ txt (skI l) = (s.take e).drop p ∧ p + (txt (skI l)).length = e ∧ e ≤ s.length := by
  have hle := get1_le (s := s) (q := some p) (fun e he => by injection he with he; omega)
  have hge : Ge (get1 s (some p)).2 p := get1_ge (fun e he => by injection he with he; omega)
  unfold decR
  split
  · have h1 := decC_le (s := s) (get1 s (some p)).1.toNat (get1 s (some p)).2 [] hle
    have h2 := decC_ge (s := s) (get1 s (some p)).1.toNat (get1 s (some p)).2 [] p hge
    generalize decC s (get1 s (some p)).1.toNat (get1 s (some p)).2 [] = d at *
    obtain ⟨l, q⟩ := d
    cases q with
    | none => exact .inl rfl
    | some e =>
      simp only at h1 h2 ⊢
      split
      · rename_i hc
        have hle := h1 e rfl
        have hge := h2 e rfl
        have hlen := congrArg List.length hc.2
        rw [List.length_drop, List.length_take] at hlen
        exact .inr ⟨l, e, rfl, hc.1, hc.2, by omega, hle⟩
      · exact .inl rfl
  · exact .inl rfl
theorem enc_inj {a b : List PC} (ha : ValidP a) (hb : ValidP b) : txt (skI a) = txt (skI b) ↔ a = b := by
  constructor
  · intro h
    have h1 := decR_spec (s := txt (skI a)) (p := 0) (t := []) ha (by simp)
    have h2 := decR_spec (s := txt (skI a)) (p := 0) (t := []) hb (by rw [h]; simp)
    rw [h1] at h2
    exact (Prod.mk.inj h2).1
  · rintro rfl; rfl
set_option maxHeartbeats 3200000 in
theorem f9_law (xs : List K4) (A : Option Addr) (ca : Nat) (ys : List K4) (B : Option Addr) (cb : Nat) (bef aft : ByteArray) (at_ by_ : Int) (S : SH) (hG : Gl S) (hA : At S A xs) (lx : xs.length ≤ ca) (hx : ∀ x ∈ xs, K4ok x) (hB : At S B ys) (ly : ys.length ≤ cb) (hy : ∀ x ∈ ys, K4ok x) (hbef : bef.size ≤ maxLen) (haft : aft.size ≤ maxLen) (hat : i64 at_) (hby : (Lit.int .u8 by_).wf = true) :
    Con Tryd.prog 9 #[.slice A xs.length ca, .slice B ys.length cb, .string bef, .string aft, .int .i64 at_, .int .u8 by_] S [] (fun _ _ v => v = .bool true) := by
  rw [str_eta bef, str_eta aft]
  have hl1 : bef.data.toList.length ≤ 9223372036854775807 := by rw [Array.length_toList]; exact hbef
  have hl2 : aft.data.toList.length ≤ 9223372036854775807 := by rw [Array.length_toList]; exact haft
  generalize bef.data.toList = s1 at *
  generalize aft.data.toList = s2 at *
  obtain ⟨cby, rfl⟩ : ∃ c : UInt8, by_ = (c.toNat : Int) := by
    simp [Lit.wf, IntKind.min, IntKind.max, IntKind.bits, IntKind.signed] at hby
    refine ⟨UInt8.ofNat by_.toNat, ?_⟩
    rw [u8_nat (by omega)]; omega
  refine con_of (args := [.slice A xs.length ca, .slice B ys.length cb, strV s1, strV s2, .int .i64 at_, .int .u8 (cby.toNat : Int)]) Tryd.func9 rfl Tryd.ntmps9 rfl fun w => ?_
  (repeat (first | refine Jc ?_ | ((apply z_call; rfl; rfl; rfl; exact sane_con S hG; rintro S1 _ _ hle1 ⟨rfl, rfl⟩)) | refine Jo ?_ | intro _))
  (repeat (first | refine Jc ?_ | ((apply z_call; rfl; rfl; rfl; exact MadeFacts_con xs A ca S1 (hA.le hle1) hx; rintro S2 _ _ hle2 ⟨rfl, Al, cl, l, rfl, hAl, hcl, hll, hlf⟩)) | refine Jo ?_ | intro _))
  have gl : Good l := .of hlf (by omega)
  (repeat (first | refine Jc ?_ | ((apply z_call; rfl; rfl; rfl; exact MakeF gl Al cl S2 (hG.le (hle1.trans hle2)) hAl; rintro S3 _ _ hle3 ⟨rfl, Aa, na, ka, a, rfl, hsa, hia, hG3⟩)) | refine Jo ?_ | intro _))
  (repeat (first | refine Jc ?_ | ((apply z_call; rfl; rfl; rfl; exact MadeFacts_con ys B cb S3 (hB.le ((hle1.trans hle2).trans hle3)) hy; rintro S4 _ _ hle4 ⟨rfl, Am, cm, m, rfl, hAm, hcm, hlm, hmf⟩)) | refine Jo ?_ | intro _))
  have gm : Good m := .of hmf (by omega)
  (repeat (first | refine Jc ?_ | ((apply z_call; rfl; rfl; rfl; exact MakeF gm Am cm S4 (hG3.le hle4) hAm; rintro S5 _ _ hle5 ⟨rfl, Ab, nb, kb, b, rfl, hsb, hib, hG5⟩)) | refine Jo ?_ | intro _))
  have hsa5 := (hsa.le hle4).le hle5
  have hva : ValidP a := hia.valid gl.each gl.len
  have hvb : ValidP b := hib.valid gm.each gm.len
  have en1 := EncodeS_con S5 hG5 hsa5
  rw [encV_t hva] at en1
  (repeat (first | refine Jc ?_ | ((apply z_call; rfl; rfl; rfl; exact en1; rintro S6 _ _ hle6 ⟨rfl, rfl⟩)) | refine Jo ?_ | intro _))
  have hG6 := hG5.le hle6
  have hsb6 := hsb.le hle6
  have hsa6 := hsa5.le hle6
  have en2 := EncodeS_con S6 hG6 hsb6
  rw [encV_t hvb] at en2
  have hta := txt_len (skI_ok hva)
  have htb := txt_len (skI_ok hvb)
  have hla : (skI a).length ≤ 80000 := by
    have h1 := cells_len hva.each
    have h2 := hva.len
    rw [skI, List.length_cons]; omega
  have hpos := txt_pos a
  have hinj := enc_inj hva hvb
  generalize hta_ : txt (skI a) = ta at *
  generalize htb_ : txt (skI b) = tb at *
  (repeat (first | refine Jc ?_ | ((apply z_call; rfl; rfl; rfl; exact en2; rintro S7 _ _ hle7 ⟨rfl, rfl⟩)) | (apply s_evb; (case hg => rfl); (case hd => rfl); (case hn => rfl); (case he => (apply ev_len_b; rfl))) | (apply s_minn; (case hg => rfl); (case hd => rfl); (case hx => rfl); (case hy => rfl)) | (apply s_evb; (case hg => rfl); (case hd => rfl); (case hn => rfl); (case he => ((apply ev_slice_bh; (case hx => rfl); (case hz => rfl); (case hj => omega))))) | refine Jo ?_ | intro _))
  obtain ⟨p1, hp1, hp1l⟩ : ∃ p1, p1 = s1.take (min s1.length 50) ∧ p1.length ≤ 50 := ⟨_, rfl, by rw [List.length_take]; omega⟩
  obtain ⟨p2, hp2, hp2l⟩ : ∃ p2, p2 = s2.take (min s2.length 50) ∧ p2.length ≤ 50 := ⟨_, rfl, by rw [List.length_take]; omega⟩
  rw [← hp1, ← hp2]
  clear hp1 hp2 hl1 hl2
  have hG7 := hG6.le hle7
  have hsa7 := hsa6.le hle7
  have hsb7 := hsb6.le hle7
  have hd1 := Decode_con (p1 ++ ta ++ p2) p1.length S7 hG7 (by simp only [List.length_append]; omega)
  have ed : decA (p1 ++ ta ++ p2) p1.length = (a, ((p1.length + ta.length : Nat) : Int), 0) := by
    rw [decA, if_neg (by simp only [List.length_append]; omega), Int.toNat_natCast, ← hta_]
    exact decR_spec hva (t := p2) (by rw [List.append_assoc, List.drop_left])
  rw [ed] at hd1
  simp only at hd1
  (repeat (first | refine Jc ?_ | (apply s_evb; (case hg => rfl); (case hd => rfl); (case hn => rfl); (case he => (apply ev_len_b; rfl))) | (apply s_evb; (case hg => rfl); (case hd => rfl); (case hn => rfl); (case he => ((apply ev_add_bs; (case hx => rfl); (case hy => rfl); (case h => first | omega | (simp only [List.length_append]; omega)))))) | ((apply z_call; rfl; rfl; rfl; exact hd1; rintro S8 _ _ hle8 ⟨rfl, vc, rfl, hsc⟩)) | refine Jo ?_ | intro _))
  obtain ⟨Bc, nc, kc, rfl⟩ := hsc.form
  have hsa8 := hsa7.le hle8
  have hsb8 := hsb7.le hle8
  have hG8 := hG7.le hle8
  have w1 := Same_con S8 hsa8 hsc
  rw [bP_t rfl] at w1
  have w2 := Same_con S8 hsa8 hsb8
  have hcond : ∃ r : Bool, (ta == tb) = r ∧ bP (a = b) = r := by
    by_cases hab : a = b
    · exact ⟨true, by rw [hinj.2 hab]; simp, bP_t hab⟩
    · exact ⟨false, by simpa using fun h => hab (hinj.1 h), bP_f hab⟩
  obtain ⟨r, hr1, hr2⟩ := hcond
  rw [hr2] at w2
  have hpk := pickI_bd at_ (ta.length : Int) (by omega)
  have pk := lpick_con at_ (ta.length : Int) S8 hat (by omega)
  obtain ⟨i0, hi0⟩ : ∃ i0 : Nat, pickI at_ (ta.length : Int) = i0 := ⟨(pickI at_ (ta.length : Int)).toNat, by omega⟩
  rw [hi0] at hpk pk
  have hi0l : i0 < ta.length := by omega
  (repeat (first | refine Jc ?_ | (apply s_evb; (case hg => rfl); (case hd => rfl); (case hn => rfl); (case he => (apply ev_len_b; rfl))) | ((apply z_call; rfl; rfl; rfl; exact w1; rintro _ _ _ - ⟨rfl, rfl, rfl⟩)) | ((apply z_call; rfl; rfl; rfl; exact w2; rintro _ _ _ - ⟨rfl, rfl, rfl⟩)) | (apply s_evb; (case hg => rfl); (case hd => rfl); (case hn => rfl); (case he => ((apply ev_eql_bs'; (case hx => rfl); (case hy => rfl); (case h => exact hr1))))) | refine Jo ?_ | intro _))
  cases r
  all_goals (repeat (first | refine Jc ?_ | (apply s_evb; (case hg => rfl); (case hd => rfl); (case hn => rfl); (case he => (apply ev_len_b; rfl))) | (apply s_bytes; (case hg => rfl); (case hd => rfl); (case hx => rfl); (case hl => omega); intro bz tl cap N hc1 hc2 hc3 hN) | refine Jo ?_ | intro _))
  all_goals
    have hset := bytes_tset ta tl i0 cby hi0l
    have hat_ := bytes_tat ta tl i0 hi0l
    (repeat (first | refine Jc ?_ | ((apply z_call; rfl; rfl; rfl; exact pk; rintro _ _ _ - ⟨rfl, rfl, rfl⟩)) | (apply s_idxo1 (j := i0); (case hg => rfl); (case hd => rfl); (case hx => rfl); (case hi => rfl); (case hk => exact hi0l)) | (apply s_store_mk; (case hg => rfl); (case hx => rfl); (case hy => rfl); (case h1 => rfl); (case hL => (repeat (first | exact Upd.head | apply Upd.tail | apply Upd.app))); (case hu => exact hat_); (case hN => omega)) | refine Jo ?_ | intro _))
    rw [hset]
    obtain ⟨Z, hZ⟩ : ∃ Z, Z = ta.set i0 cby := ⟨_, rfl⟩
    have hZl : Z.length = ta.length := by rw [hZ, List.length_set]
    rw [← hZ, ← hZl]
    have hd2 := Decode_con Z 0 S8 hG8 (by omega)
    rw [decA, if_neg (by omega)] at hd2
    have hcs := decR_cases Z 0 (by omega)
    rw [show (0 : Int).toNat = 0 from rfl] at hd2
    rcases hcs with hz | ⟨d, e, hz, hvd, htx, hel, hele⟩
    · rw [hz] at hd2
      simp only at hd2
      (repeat (first | refine Jc ?_ | (apply s_evb; (case hg => rfl); (case hd => rfl); (case hn => rfl); (case he => (apply ev_str_row; (case hx => rfl); (case hm => (repeat (first | exact List.Mem.head _ | apply List.Mem.tail | apply List.mem_append_right))); (case hk => omega)))) | refine Jo ?_ | intro _))
      rw [List.drop_zero, List.take_length]
      (repeat (first | refine Jc ?_ | ((apply z_call; rfl; rfl; rfl; exact hd2; rintro S9 _ _ hle9 ⟨rfl, vd, rfl, hsd⟩)) | refine Jo ?_ | intro _))
      obtain ⟨Ad, kd, rfl⟩ := hsd.none
      (repeat (first | refine Jz ?_ | intro _))
      exact o_ret (L' := []) Tryd.results9 rfl (List.nil_sublist _) rfl
    · rw [hz] at hd2
      simp only at hd2
      (repeat (first | refine Jc ?_ | (apply s_evb; (case hg => rfl); (case hd => rfl); (case hn => rfl); (case he => (apply ev_str_row; (case hx => rfl); (case hm => (repeat (first | exact List.Mem.head _ | apply List.Mem.tail | apply List.mem_append_right))); (case hk => omega)))) | refine Jo ?_ | intro _))
      rw [List.drop_zero, List.take_length]
      (repeat (first | refine Jc ?_ | ((apply z_call; rfl; rfl; rfl; exact hd2; rintro S9 _ _ hle9 ⟨rfl, vd, rfl, hsd⟩)) | refine Jo ?_ | intro _))
      obtain ⟨Bd, nd, kd, rfl⟩ := hsd.form
      have en3 := EncodeS_con S9 (hG8.le hle9) hsd
      rw [encV_t hvd] at en3
      have hdp := txt_pos d
      (repeat (first | refine Jc ?_ | (apply s_evb; (case hg => rfl); (case hd => rfl); (case hn => rfl); (case he => (apply ev_len_b; rfl))) | ((apply z_call; rfl; rfl; rfl; exact en3; rintro S10 _ _ hle10 ⟨rfl, rfl⟩)) | (apply s_evb; (case hg => rfl); (case hd => rfl); (case hn => rfl); (case he => ((apply ev_slice_hi0 (j := e); (case hx => rfl); (case hy => rfl); (case hj => omega))))) | (apply s_evb; (case hg => rfl); (case hd => rfl); (case hn => rfl); (case he => (apply ev_str_row; (case hx => rfl); (case hm => (repeat (first | exact List.Mem.head _ | apply List.Mem.tail | apply List.mem_append_right))); (case hk => omega)))) | (apply s_evb; (case hg => rfl); (case hd => rfl); (case hn => rfl); (case he => ((apply ev_eql_bs' (r := true); (case hx => rfl); (case hy => rfl); (case h => (rw [htx]; simp)))))) | refine Jo ?_ | intro _))
      exact o_ret (L' := []) Tryd.results9 rfl (List.nil_sublist _) rfl
end Go.Proofs.YtogfficbloejcaaDoor
namespace Go.Proofs.YtogfficbloejcaaDoor
open Go Go.X
set_option maxRecDepth 10000
set_option linter.unusedVariables false
attribute [local irreducible] Code.wpIn wpListIn Exit.then Exit.inBlock X.Out X.Back X.W X.Ev X.Con X.BinV X.Wh X.Wn X.Wq
theorem ows_bump {v : Value} {ob : Blocks} {c : Int} {r : List Int} (h : Ows 3 v (c :: r) ob) : ∃ g cap tl, v = .slice (some ⟨g, 0, none⟩) (r.length + 1) cap ∧ ob = [(g, .cells (.int .i64 c :: tl).toArray 3 (0, 0))] ∧ ∀ d : Int, Ows 3 (.slice (some ⟨g, 0, none⟩) (r.length + 1) cap) (d :: r) [(g, .cells (.int .i64 d :: tl).toArray 3 (0, 0))] := by
  obtain ⟨g, cap, tl, rfl, rfl, h1, h2, h3⟩ := h.rowed (by simp)
  refine ⟨g, cap, cellsOf r ++ tl, rfl, rfl, fun d => ?_⟩
  exact Ows.of_row (l := d :: r) (tl := tl) (by simp) (by simpa using h1) h2 (by rw [← h3]; simp [cellsOf_length])
theorem half_add (a : Nat) : ((a + 2 : Nat) : Int) / 2 = (a : Int) / 2 + 1 := by omega
theorem rsome_con (l : List Int) (A : Option Addr) (c : Nat) (S : SH) (hA : At S A l) (hl : l.length ≤ 1000) :
    Con Tryd.prog 67 #[.slice A l.length c] S [] (fun S' L' v => L' = [] ∧ ∃ A' c', v = .slice A' (rowI l).length c' ∧ At S' A' (rowI l)) := by
  refine con_of (args := [.slice A l.length c]) Tryd.func67 rfl Tryd.ntmps67 rfl fun w => ?_
  (repeat (first | refine Jz ?_ | intro _))
  rename_i b0
  refine c_loop (fun m S' L F => S' = S ∧ ∃ (i : Nat) (v : Value) (ob : Blocks), m = l.length - i ∧ i ≤ l.length ∧ Ows 3 v (rowI (l.take i)) ob ∧ L = ob ∧
      F = [(0, .slice A l.length c), (3, v), (4, .int .i64 i)]) ⟨rfl, 0, _, _, rfl, by omega, Ows.full (cs := [.int .i64 0]) (l := rowI []) rfl (by decide), rfl, rfl⟩ sbF sbL ?_
  rintro m S' L F ⟨rfl, i, v, ob, rfl, hi, hob, rfl, rfl⟩
  by_cases hlt : i < l.length
  rotate_left
  · obtain rfl : i = l.length := by omega
    rw [List.take_length] at hob
    (repeat (first | refine Jz ?_ | intro _))
    refine W.freezeOws (L1 := []) hob (by rw [List.append_nil]) fun S2 hle2 hsr => ?_
    obtain ⟨A2, c2, rfl, hc2, hA2⟩ := hsr
    exact o_ret (L' := []) Tryd.results67 rfl (List.Sublist.refl _) ⟨rfl, A2, c2, rfl, hA2⟩
  obtain ⟨n, hn⟩ := at_lt' hlt
  have hst := someI_take hn
  have hsl := someI_len (l.take i) 0
  rw [List.length_take] at hsl
  by_cases hn0 : n = 0
  · rw [if_pos hn0, List.append_nil] at hst
    (repeat (first | refine Jc ?_ | (apply s_idx hA; (case hg => rfl); (case hd => rfl); (case hx => rfl); (case hi => rfl); (case hm => rfl); (case hu => exact hn); intro p3 (hp3 : Pts _ p3 [.int .i64 n])) | (apply s_load1; (case hg => rfl); (case hd => rfl); (case hx => rfl); (case hv => exact hp3)) | refine Jo ?_ | intro _))
    exact q_back (m' := l.length - (i + 1)) ⟨rfl, i + 1, v, L, rfl, by omega, by rw [rowI, hst]; exact hob, rfl, rfl⟩ (by omega) sbF (List.Sublist.refl _)
  rw [if_neg hn0] at hst
  have hrow : rowI (l.take (i + 1)) = (((someI 0 (l.take i)).length : Int) / 2 + 1) :: (someI 0 (l.take i) ++ [(i : Int), n]) := by
    rw [rowI, hst, List.length_append]
    exact congrArg (· :: _) (half_add _)
  unfold rowI at hob
  generalize someI 0 (l.take i) = r at *
  obtain ⟨g, cap, tl, rfl, rfl, hb⟩ := ows_bump hob
  generalize hq : (r.length : Int) / 2 = q at *
  have hob2 := hb (q + 1)
  (repeat (first | refine Jc ?_ | (apply s_idx hA; (case hg => rfl); (case hd => rfl); (case hx => rfl); (case hi => rfl); (case hm => rfl); (case hu => exact hn); intro p3 (hp3 : Pts _ p3 [.int .i64 n])) | (apply s_load1; (case hg => rfl); (case hd => rfl); (case hx => rfl); (case hv => exact hp3)) | (apply s_idxo1 (j := 0); (case hg => rfl); (case hd => rfl); (case hx => rfl); (case hi => rfl); (case hk => omega)) | (apply s_append (ms := [(i : Int), n]); (case hg => rfl); (case hd => rfl); (case hx => rfl); (case ho => exact hob2); (case hL => (exact pmT)); (case hy => rfl); (case hm => rfl); (case hs => (apply Src.own; (repeat (first | exact List.Mem.head _ | apply List.Mem.tail | apply List.mem_append_right)))); (case hzs => rfl); (case h0 => decide); (case hb => (simp; omega)); (case h63 => (simp; omega)); intro v' ob' ho') | refine Jo ?_ | intro _))
  exact q_back (m' := l.length - (i + 1)) ⟨rfl, i + 1, v', ob', rfl, by omega, by rw [hrow]; exact ho', rfl, rfl⟩ (by omega) sbF sbL
theorem rtext_con (ns : List Int) (A : Option Addr) (c : Nat) (S : SH) (hA : At S A ns) (hw : ∀ n ∈ ns, wOk n) (hl : ns.length ≤ 1000000) :
    Con Tryd.prog 68 #[.slice A ns.length c] S [] (Pure S (.tuple #[strV (txt ns), .bool true])) := by
  refine con_of (args := [.slice A ns.length c]) Tryd.func68 rfl Tryd.ntmps68 rfl fun w => ?_
  (repeat (first | refine Jz ?_ | intro _))
  refine c_loop (fun m S' L F => S' = S ∧ ∃ (i : Nat) (out : Bs), m = ns.length - i ∧ i ≤ ns.length ∧ out = txt (ns.take i) ∧ L = [] ∧
      F = [(0, .slice A ns.length c), (4, strV out), (5, .int .i64 i)]) (L' := []) ⟨rfl, 0, _, rfl, by omega, rfl, rfl, rfl⟩ sbF (List.Sublist.refl _) ?_
  rintro m S' L F ⟨rfl, i, out, rfl, hi, ho, rfl, rfl⟩
  by_cases hlt : i < ns.length
  rotate_left
  · (repeat (first | refine Jz ?_ | intro _))
    exact o_ret2 (L' := []) Tryd.results68 rfl rfl (List.Sublist.refl _) ⟨rfl, rfl, by rw [ho, List.take_of_length_le (by omega)]⟩
  obtain ⟨n, hn⟩ := at_lt' hlt
  have hwn := hw n (List.mem_of_getElem? hn)
  have hpn := rPutInt_con n S' (by unfold wOk at hwn; omega)
  rw [putV, if_pos hwn] at hpn
  have htl : (txt (ns.take i)).length ≤ 9 * i := by
    have := txt_len (l := ns.take i) fun m hm => hw m (List.mem_of_mem_take hm)
    rw [List.length_take] at this
    omega
  rw [← ho] at htl
  have hnl := ibs_len hwn
  (repeat (first | refine Jc ?_ | (apply s_idx hA; (case hg => rfl); (case hd => rfl); (case hx => rfl); (case hi => rfl); (case hm => rfl); (case hu => exact hn); intro p (hp : Pts _ p [.int .i64 n])) | (apply s_load1; (case hg => rfl); (case hd => rfl); (case hx => rfl); (case hv => exact hp)) | ((apply z_call; rfl; rfl; rfl; exact hpn; rintro _ _ _ - ⟨rfl, rfl, rfl⟩)) | (apply s_evb; (case hg => rfl); (case hd => rfl); (case hn => rfl); (case he => ((apply ev_add_bs; (case hx => rfl); (case hy => rfl); (case h => first | omega | (simp only [List.length_append]; omega)))))) | refine Jo ?_ | intro _))
  exact q_back (m' := ns.length - (i + 1)) ⟨rfl, i + 1, _, rfl, by omega, by rw [txt_take hn, ← ho], rfl, rfl⟩ (by omega) sbF (List.Sublist.refl _)
end Go.Proofs.YtogfficbloejcaaDoor
namespace Go.Proofs.YtogfficbloejcaaDoor
open Go Go.X
set_option maxRecDepth 10000
set_option linter.unusedVariables false
attribute [local irreducible] Code.wpIn wpListIn Exit.then Exit.inBlock X.Out X.Back X.W X.Ev X.Con X.BinV X.Wh X.Wn X.Wq
theorem rInt_t {s : Bs} {p : Nat} {n : Int} {k : Nat} (hd : decI (s.drop p) = some (n, k)) (hp : p ≤ s.length) (hs : s.length ≤ 9223372036854775807) (S : SH) : Con Tryd.prog 72 #[strV s, .int .i64 p] S [] (Pure S (.tuple #[.int .i64 n, .int .i64 (p + k : Nat), .int .i64 0])) := by
  have h := rInt_con s p S hs
  rw [intV, if_neg (by omega), Int.toNat_natCast, hd] at h
  exact h
theorem rInt_f {s : Bs} {p : Nat} (hd : decI (s.drop p) = none) (hp : p ≤ s.length) (hs : s.length ≤ 9223372036854775807) (S : SH) : Con Tryd.prog 72 #[strV s, .int .i64 p] S [] (Pure S (.tuple #[.int .i64 0, .int .i64 0, .int .i64 10])) := by
  have h := rInt_con s p S hs
  rw [intV, if_neg (by omega), Int.toNat_natCast, hd] at h
  exact h
theorem get1_t {s : Bs} {p : Nat} {n : Int} {k : Nat} (hd : decI (s.drop p) = some (n, k)) : get1 s (some p) = (n, some (p + k)) := by rw [get1, hd]
theorem get1_f {s : Bs} {p : Nat} (hd : decI (s.drop p) = none) : get1 s (some p) = (0, none) := by rw [get1, hd]
theorem decI_pos {s : Bs} {p : Nat} {n : Int} {k : Nat} (hd : decI (s.drop p) = some (n, k)) : p + k ≤ s.length ∧ 1 ≤ k ∧ wOk n := by
  have := decI_len hd
  rw [List.length_drop] at this
  exact ⟨by omega, by omega, this.2.2.2⟩
/-- The reference's row. -/
def rowQ (s : Bs) (q : Option Nat) : List Int × Option Nat := if 0 ≤ (get1 s q).1 ∧ (get1 s q).1 ≤ 44 then rowR s q else ([], none)
set_option maxHeartbeats 1600000 in
theorem rReadRow_con (s : Bs) (hs : s.length ≤ 9223372036854775807) (p : Nat) (hp : p ≤ s.length) (S : SH) :
    Con Tryd.prog 73 #[strV s, .int .i64 p] S [] (fun S' L' v => L' = [] ∧ ((rowQ s (some p)).2 = none → v = .tuple #[.slice none 0 0, .int .i64 0, .bool false]) ∧
      ∀ e : Nat, (rowQ s (some p)).2 = some e → e ≤ s.length ∧ (rowQ s (some p)).1.length = 44 ∧ ∃ A, v = .tuple #[.slice A (rowQ s (some p)).1.length 44, .int .i64 e, .bool true] ∧ At S' A (rowQ s (some p)).1) := by
  refine con_of (args := [strV s, .int .i64 p]) Tryd.func73 rfl Tryd.ntmps73 rfl fun w => ?_
  cases hd : decI (s.drop p) with
  | none =>
    have hR : (rowQ s (some p)).2 = none := by
      rw [rowQ, get1_f hd]; rw [rowR, get1_f hd]; rfl
    (repeat (first | refine Jc ?_ | ((apply z_call; rfl; rfl; rfl; exact rInt_f hd hp hs S; rintro _ _ _ - ⟨rfl, rfl, rfl⟩)) | refine Jo ?_ | intro _))
    exact o_ret3 (L' := []) Tryd.results73 rfl rfl rfl (List.nil_sublist _) ⟨rfl, fun _ => rfl, fun e he => by rw [hR] at he; cases he⟩
  | some x =>
    obtain ⟨n, kl⟩ := x
    obtain ⟨hp0, hk0, hwn⟩ := decI_pos hd
    have win := rin_con n 0 44 S
    by_cases hin : 0 ≤ n ∧ n ≤ 44
    rotate_left
    · have hR : (rowQ s (some p)).2 = none := by rw [rowQ, get1_t hd, if_neg hin]
      rw [bP_f hin] at win
      (repeat (first | refine Jc ?_ | ((apply z_call; rfl; rfl; rfl; exact rInt_t hd hp hs S; rintro _ _ _ - ⟨rfl, rfl, rfl⟩)) | ((apply z_call; rfl; rfl; rfl; exact win; rintro _ _ _ - ⟨rfl, rfl, rfl⟩)) | refine Jo ?_ | intro _))
      exact o_ret3 (L' := []) Tryd.results73 rfl rfl rfl (List.nil_sublist _) ⟨rfl, fun _ => rfl, fun e he => by rw [hR] at he; cases he⟩
    rw [bP_t hin] at win
    have hR : rowQ s (some p) = rdRow s n.toNat (some (p + kl)) (-1) (List.replicate 44 0) := by
      rw [rowQ, get1_t hd, if_pos hin, rowR, get1_t hd]
    rw [hR]
    obtain ⟨N, rfl⟩ : ∃ N : Nat, n = N := ⟨n.toNat, by omega⟩
    rw [Int.toNat_natCast]
    (repeat (first | refine Jc ?_ | ((apply z_call; rfl; rfl; rfl; exact rInt_t hd hp hs S; rintro _ _ _ - ⟨rfl, rfl, rfl⟩)) | ((apply z_call; rfl; rfl; rfl; exact win; rintro _ _ _ - ⟨rfl, rfl, rfl⟩)) | (apply s_make1 (m := 44); (case hg => rfl); (case hd => rfl); (case hx => rfl); (case hy => rfl); (case hzc => rfl); (case hb => omega); (case h63 => omega); intro _) | refine Jo ?_ | intro _))
    rename_i br
    refine c_loop (fun m S' L F => S' = S ∧ ∃ (i : Nat) (last : Int) (p1 : Nat) (l : List Int), m = N - i ∧ i ≤ N ∧ l.length = 44 ∧ p1 ≤ s.length ∧ -1 ≤ last ∧ rdRow s (N - i) (some p1) last l = rdRow s N (some (p + kl)) (-1) (List.replicate 44 0) ∧ L = [(br, .cells (l.map (Value.int .i64)).toArray 3 (0, 0))] ∧
        F = [(0, strV s), (7, .int .i64 N), (8, .int .i64 p1), (10, .slice (some ⟨br, 0, none⟩) 44 44), (11, .int .i64 last), (12, .int .i64 i)])
      (L' := [(br, .cells (List.replicate 44 (Value.int .i64 0)).toArray 3 (0, 0))]) ⟨rfl, 0, -1, p + kl, List.replicate 44 0, rfl, by omega, by simp, hp0, by omega, rfl, by rw [List.map_replicate], rfl⟩ sbF (List.Sublist.refl _) ?_
    rintro m S' L F ⟨rfl, i, last, p1, l, rfl, hi, hl, hp1, hla, hrf, rfl, rfl⟩
    rw [← hrf]
    clear hrf
    by_cases hlt : i < N
    rotate_left
    · rw [show N - i = 0 by omega, rdRow]
      (repeat (first | refine Jz ?_ | intro _))
      refine W.freeze fun S3 hle3 hb3 => ?_
      exact o_ret3 (L' := []) Tryd.results73 rfl rfl rfl (List.nil_sublist _) ⟨rfl, (fun h => by cases h), fun e he => ⟨by injection he with he; omega, hl, some ⟨br, 0, none⟩, by injection he with he; rw [hl, he], at_litB hb3 (by simp [cells_int])⟩⟩
    obtain ⟨k1, hk1⟩ : ∃ k1, N - i = k1 + 1 := ⟨N - i - 1, by omega⟩
    rw [hk1, rdRow]
    cases hd1 : decI (s.drop p1) with
    | none =>
      rw [get1_f hd1]
      rw [if_neg (fun h => by have := h.1; simp [get1] at this)]
      (repeat (first | refine Jc ?_ | ((apply z_call; rfl; rfl; rfl; exact rInt_f hd1 hp1 hs S'; rintro _ _ _ - ⟨rfl, rfl, rfl⟩)) | refine Jo ?_ | intro _))
      exact o_ret3 (L' := []) Tryd.results73 rfl rfl rfl (List.nil_sublist _) ⟨rfl, fun _ => rfl, fun e he => by cases he⟩
    | some y =>
      obtain ⟨k, l1⟩ := y
      obtain ⟨hp2, hl1, hwk⟩ := decI_pos hd1
      rw [get1_t hd1]
      simp only
      unfold wOk at hwk
      by_cases c1 : last < k
      rotate_left
      · rw [if_neg (fun h => c1 h.2.1)]
        (repeat (first | refine Jc ?_ | ((apply z_call; rfl; rfl; rfl; exact rInt_t hd1 hp1 hs S'; rintro _ _ _ - ⟨rfl, rfl, rfl⟩)) | refine Jo ?_ | intro _))
        exact o_ret3 (L' := []) Tryd.results73 rfl rfl rfl (List.nil_sublist _) ⟨rfl, fun _ => rfl, fun e he => by cases he⟩
      by_cases c2 : k < 44
      rotate_left
      · rw [if_neg (fun h => c2 h.2.2.1)]
        (repeat (first | refine Jc ?_ | ((apply z_call; rfl; rfl; rfl; exact rInt_t hd1 hp1 hs S'; rintro _ _ _ - ⟨rfl, rfl, rfl⟩)) | refine Jo ?_ | intro _))
        exact o_ret3 (L' := []) Tryd.results73 rfl rfl rfl (List.nil_sublist _) ⟨rfl, fun _ => rfl, fun e he => by cases he⟩
      cases hd2 : decI (s.drop (p1 + l1)) with
      | none =>
        rw [get1_f hd2]
        rw [if_neg (fun h => by cases h.1)]
        (repeat (first | refine Jc ?_ | ((apply z_call; rfl; rfl; rfl; exact rInt_t hd1 hp1 hs S'; rintro _ _ _ - ⟨rfl, rfl, rfl⟩)) | ((apply z_call; rfl; rfl; rfl; exact rInt_f hd2 hp2 hs S'; rintro _ _ _ - ⟨rfl, rfl, rfl⟩)) | refine Jo ?_ | intro _))
        exact o_ret3 (L' := []) Tryd.results73 rfl rfl rfl (List.nil_sublist _) ⟨rfl, fun _ => rfl, fun e he => by cases he⟩
      | some z =>
        obtain ⟨c, l2⟩ := z
        obtain ⟨hp3, hl2, hwc⟩ := decI_pos hd2
        rw [get1_t hd2]
        simp only
        unfold wOk at hwc
        by_cases c3 : c = 0
        · rw [if_neg (fun h => h.2.2.2 c3)]
          (repeat (first | refine Jc ?_ | ((apply z_call; rfl; rfl; rfl; exact rInt_t hd1 hp1 hs S'; rintro _ _ _ - ⟨rfl, rfl, rfl⟩)) | ((apply z_call; rfl; rfl; rfl; exact rInt_t hd2 hp2 hs S'; rintro _ _ _ - ⟨rfl, rfl, rfl⟩)) | refine Jo ?_ | intro _))
          exact o_ret3 (L' := []) Tryd.results73 rfl rfl rfl (List.nil_sublist _) ⟨rfl, fun _ => rfl, fun e he => by cases he⟩
        rw [if_pos ⟨rfl, c1, c2, c3⟩]
        obtain ⟨kn, rfl⟩ : ∃ kn : Nat, k = kn := ⟨k.toNat, by omega⟩
        have hcell : (l.map (Value.int .i64))[kn]? = some (.int .i64 (l[kn]'(by omega))) := by rw [List.getElem?_map, List.getElem?_eq_getElem]; rfl
        (repeat (first | refine Jc ?_ | ((apply z_call; rfl; rfl; rfl; exact rInt_t hd1 hp1 hs S'; rintro _ _ _ - ⟨rfl, rfl, rfl⟩)) | ((apply z_call; rfl; rfl; rfl; exact rInt_t hd2 hp2 hs S'; rintro _ _ _ - ⟨rfl, rfl, rfl⟩)) | (apply s_idxo1 (j := kn); (case hg => rfl); (case hd => rfl); (case hx => rfl); (case hi => rfl); (case hk => omega)) | (apply s_store; (case hg => rfl); (case hx => rfl); (case hy => rfl); (case h1 => rfl); (case hL => (repeat (first | exact Upd.head | apply Upd.tail | apply Upd.app))); (case hu => exact hcell)) | refine Jo ?_ | intro _))
        rw [Int.toNat_natCast, show k1 = N - (i + 1) by omega]
        exact q_back (m' := N - (i + 1)) ⟨rfl, i + 1, kn, p1 + l1 + l2, l.set kn c, rfl, by omega, by simpa using hl, hp3, by omega, rfl, by rw [List.map_set], rfl⟩ (by omega) sbF (List.Sublist.refl _)
end Go.Proofs.YtogfficbloejcaaDoor
namespace Go.Proofs.YtogfficbloejcaaDoor
open Go Go.X
set_option maxRecDepth 10000
set_option linter.unusedVariables false
attribute [local irreducible] Code.wpIn wpListIn Exit.then Exit.inBlock X.Out X.Back X.W X.Ev X.Con X.BinV X.Wh X.Wn X.Wq
theorem rowQ_none (s : Bs) : (rowQ s none).2 = none := by
  unfold rowQ
  split
  · unfold rowR; simp only [get1]; rw [rdRow_none]
  · rfl
/-- The reference's cell. -/
def cellQ (s : Bs) (q : Option Nat) : PC × Option Nat :=
  (⟨vn s 0 q, vn s 1 q, vn s 2 q, vn s 3 q, ⟨vn s 4 q, vn s 5 q, vn s 6 q, vn s 7 q, (rowQ s (qn s 8 q)).1, (rowQ s (rowQ s (qn s 8 q)).2).1⟩⟩, (rowQ s (rowQ s (qn s 8 q)).2).2)
def decQ (s : Bs) : Nat → Option Nat → List PC → List PC × Option Nat
  | 0, q, l => (l, q)
  | _ + 1, none, l => (l, none)
  | n + 1, some p, l => decQ s n (cellQ s (some p)).2 (l ++ [(cellQ s (some p)).1])
theorem decQ_none (s : Bs) (n : Nat) (l : List PC) : decQ s n none l = (l, none) := by cases n <;> rfl
noncomputable def refR (s : Bs) (p : Nat) : List PC × Int × Int :=
  if (get1 s (some p)).2.isSome = true ∧ 0 ≤ (get1 s (some p)).1 ∧ (get1 s (some p)).1 ≤ 400 then
    match decQ s (get1 s (some p)).1.toNat (get1 s (some p)).2 [] with
    | (_, none) => ([], 0, 170)
    | (l, some e) => by classical exact if ValidP l then (l, (e : Int), 0) else ([], 0, 170)
  else ([], 0, 170)
/-- One step, read backwards: what was read is the text there. -/
theorem get1_back {s : Bs} {p e : Nat} (h : (get1 s (some p)).2 = some e) : s.drop p = txt [(get1 s (some p)).1] ++ s.drop e ∧ wOk (get1 s (some p)).1 := by
  cases hd : decI (s.drop p) with
  | none => rw [get1_f hd] at h; cases h
  | some x =>
    obtain ⟨n, k⟩ := x
    rw [get1_t hd] at h ⊢
    injection h with h
    obtain ⟨h1, h2, h3⟩ := (decI_iff _ n k).1 hd
    refine ⟨?_, h1⟩
    have := List.take_append_drop k (s.drop p)
    rw [List.drop_drop, h, h3] at this
    rw [← this, txt_cons, txt_nil, List.append_nil]
theorem qn_none {s : Bs} {q : Option Nat} {k : Nat} (h : qn s k q = none) : ∀ j, qn s (k + j) q = none
  | 0 => h
  | j + 1 => by
    show (get1 s (qn s (k + j) q)).2 = none
    rw [qn_none h j]; rfl
theorem qn_some {s : Bs} {q : Option Nat} {n k e : Nat} (hk : k ≤ n) (h : qn s n q = some e) : ∃ x, qn s k q = some x := by
  cases hq : qn s k q with
  | some x => exact ⟨x, rfl⟩
  | none =>
    have := qn_none hq (n - k)
    rw [show k + (n - k) = n by omega, h] at this
    cases this
theorem qn_back {s : Bs} {p : Nat} : ∀ (k e : Nat), qn s k (some p) = some e → s.drop p = txt ((List.range k).map fun j => vn s j (some p)) ++ s.drop e
  | 0, e, h => by
    injection h with h
    subst h; rfl
  | k + 1, e, h => by
    obtain ⟨x, hx⟩ := qn_some (Nat.le_succ k) h
    have ih := qn_back k x hx
    have h1 : (get1 s (some x)).2 = some e := by rw [← hx]; exact h
    rw [ih, (get1_back h1).1, List.range_succ, List.map_append, txt_app, List.append_assoc]
    simp only [List.map_cons, List.map_nil, vn, hx]
theorem someI_shape : ∀ (l : List Int) (k : Nat), (someI k l).length % 2 = 0
  | [], k => rfl
  | a :: l, k => by
    have := someI_shape l (k + 1)
    simp only [someI]
    split
    · exact this
    · simp only [List.length_cons]; omega
theorem someI_zero : ∀ (n k : Nat), someI k (List.replicate n 0) = []
  | 0, k => rfl
  | n + 1, k => by rw [List.replicate_succ]; simp only [someI, if_true]; exact someI_zero n (k + 1)
theorem someI_app : ∀ (a b : List Int) (k : Nat), someI k (a ++ b) = someI k a ++ someI (k + a.length) b
  | [], b, k => by simp [someI]
  | x :: a, b, k => by
    have ih := someI_app a b (k + 1)
    rw [show k + 1 + a.length = k + (x :: a).length by rw [List.length_cons]; omega] at ih
    simp only [List.cons_append, someI, ih]
    split <;> simp
/-- A row, read backwards: up to `j` all is read, behind it there are zeros. -/
theorem rdRow_back {s : Bs} : ∀ (n p e : Nat) (a : List Int) (m : Nat) (r : List Int), a.length + m = 44 → rdRow s n (some p) ((a.length : Int) - 1) (a ++ List.replicate m 0) = (r, some e) →
    ∃ b, r = a ++ b ∧ b.length = m ∧ s.drop p = txt (someI a.length b) ++ s.drop e ∧ (someI a.length b).length = 2 * n
  | 0, p, e, a, m, r, ha, h => by
    obtain ⟨h1, h2⟩ := Prod.mk.inj h
    injection h2 with h2
    subst h2
    exact ⟨List.replicate m 0, h1.symm, by simp, by rw [someI_zero]; rfl, by rw [someI_zero]; rfl⟩
  | n + 1, p, e, a, m, r, ha, h => by
    rw [rdRow] at h
    split at h
    rotate_left
    · cases (Prod.mk.inj h).2
    rename_i hc
    obtain ⟨c0, c1, c2, c3⟩ := hc
    cases hq1 : (get1 s (some p)).2 with
    | none => rw [hq1] at c0; cases c0
    | some p1 =>
      rw [hq1] at h c0 c3
      cases hq2 : (get1 s (some p1)).2 with
      | none => rw [hq2] at c0; cases c0
      | some p2 =>
        rw [hq2] at h
        obtain ⟨b1, w1⟩ := get1_back hq1
        obtain ⟨b2, w2⟩ := get1_back hq2
        generalize (get1 s (some p)).1 = k at *
        generalize (get1 s (some p1)).1 = c at *
        obtain ⟨kn, rfl⟩ : ∃ kn : Nat, k = kn := ⟨k.toNat, by omega⟩
        rw [Int.toNat_natCast] at h
        -- the row up to kn, with its count
        have hz : kn - a.length + 1 ≤ m := by omega
        have hset : List.set (a ++ List.replicate m (0 : Int)) kn c = (a ++ List.replicate (kn - a.length) 0 ++ [c]) ++ List.replicate (m - (kn - a.length) - 1) 0 := by
          obtain ⟨d, rfl⟩ : ∃ d, m = (kn - a.length) + 1 + d := ⟨m - (kn - a.length) - 1, by omega⟩
          rw [List.set_append, if_neg (by omega), show kn - a.length + 1 + d - (kn - a.length) - 1 = d by omega]
          generalize kn - a.length = f
          rw [Nat.add_assoc, ← List.replicate_append_replicate, List.set_append, if_neg (by simp)]
          simp [Nat.add_comm 1 d, List.replicate_succ]
        have hal : (a ++ List.replicate (kn - a.length) 0 ++ [c]).length = kn + 1 := by simp; omega
        rw [hset] at h
        have h' : rdRow s n (some p2) (((a ++ List.replicate (kn - a.length) 0 ++ [c]).length : Int) - 1) ((a ++ List.replicate (kn - a.length) 0 ++ [c]) ++ List.replicate (m - (kn - a.length) - 1) 0) = (r, some e) := by
          rw [hal, show ((kn + 1 : Nat) : Int) - 1 = kn by omega]; exact h
        obtain ⟨b, e1, e2, e3, e4⟩ := rdRow_back n p2 e _ _ r (by rw [hal]; omega) h'
        rw [hal] at e3 e4
        have hsome : someI a.length (List.replicate (kn - a.length) 0 ++ [c] ++ b) = (kn : Int) :: c :: someI (kn + 1) b := by
          rw [List.append_assoc, someI_app, someI_zero, List.length_replicate, show a.length + (kn - a.length) = kn by omega]
          simp [someI, c3]
        refine ⟨List.replicate (kn - a.length) 0 ++ [c] ++ b, by rw [e1]; simp, by simp; omega, ?_, ?_⟩
        · rw [hsome, b1, b2, e3, txt_cons, txt_cons, txt_cons, txt_cons, txt_nil]; simp
        · rw [hsome]; simp only [List.length_cons]; omega
theorem rowQ_back {s : Bs} {p e : Nat} (h : (rowQ s (some p)).2 = some e) : s.drop p = txt (rowI (rowQ s (some p)).1) ++ s.drop e ∧ rowQ s (some p) = rowR s (some p) := by
  unfold rowQ at h ⊢
  by_cases hc : 0 ≤ (get1 s (some p)).1 ∧ (get1 s (some p)).1 ≤ 44
  rotate_left
  · rw [if_neg hc] at h; cases h
  rw [if_pos hc] at h ⊢
  refine ⟨?_, rfl⟩
  unfold rowR at h ⊢
  cases hq : (get1 s (some p)).2 with
  | none => rw [hq, rdRow_none] at h; cases h
  | some p1 =>
    obtain ⟨b1, _⟩ := get1_back hq
    rw [hq] at h
    generalize (get1 s (some p)).1 = n at *
    obtain ⟨r, hr⟩ : ∃ r, r = (rdRow s n.toNat (some p1) (-1) (List.replicate 44 0)).1 := ⟨_, rfl⟩
    have := rdRow_back (s := s) n.toNat p1 e [] 44 r rfl (by rw [hr, ← h]; rfl)
    obtain ⟨b, e1, e2, e3, e4⟩ := this
    rw [← hr, e1, List.nil_append, rowI, txt_cons, b1]
    rw [List.length_nil] at e3 e4
    rw [e3, e4, txt_cons, txt_nil, List.append_nil, List.append_assoc, show ((2 * n.toNat : Nat) : Int) / 2 = n by omega]
theorem rowQ_q {s : Bs} {q : Option Nat} {e : Nat} (h : (rowQ s q).2 = some e) : ∃ p, q = some p := by
  cases q with
  | none => rw [rowQ_none] at h; cases h
  | some p => exact ⟨p, rfl⟩
theorem cellQ_back {s : Bs} {p e : Nat} (h : (cellQ s (some p)).2 = some e) : s.drop p = txt (cellI (cellQ s (some p)).1) ++ s.drop e ∧ cellQ s (some p) = cellD s (some p) := by
  have h2 : (rowQ s (rowQ s (qn s 8 (some p))).2).2 = some e := h
  obtain ⟨p9, h9⟩ := rowQ_q h2
  obtain ⟨p8, h8⟩ := rowQ_q h9
  have b0 := qn_back 8 p8 h8
  rw [h8] at h9
  rw [h8, h9] at h2
  obtain ⟨b8, r8⟩ := rowQ_back h9
  obtain ⟨b9, r9⟩ := rowQ_back h2
  constructor
  · unfold cellQ
    rw [h8, h9, b0, b8, b9, cellI, txt_app, txt_app, List.append_assoc, List.append_assoc]
    rfl
  · unfold cellQ cellD
    rw [h8, ← r8, h9, ← r9]
theorem decQ_q {s : Bs} {n : Nat} {q : Option Nat} {l : List PC} {e : Nat} (h : (decQ s n q l).2 = some e) : ∃ p, q = some p := by
  cases q with
  | none => rw [decQ_none] at h; cases h
  | some p => exact ⟨p, rfl⟩
theorem decQ_back {s : Bs} : ∀ (n : Nat) (p e : Nat) (acc : List PC), (decQ s n (some p) acc).2 = some e → decQ s n (some p) acc = decC s n (some p) acc ∧ ∃ l, (decQ s n (some p) acc).1 = acc ++ l ∧ l.length = n ∧ s.drop p = txt (l.flatMap cellI) ++ s.drop e
  | 0, p, e, acc, h => by
    injection h with h
    subst h
    exact ⟨rfl, [], by simp [decQ], rfl, rfl⟩
  | n + 1, p, e, acc, h => by
    rw [decQ] at h ⊢
    rw [decC]
    obtain ⟨p1, hp1⟩ := decQ_q h
    obtain ⟨b1, r1⟩ := cellQ_back hp1
    rw [hp1] at h ⊢
    obtain ⟨e1, l, e2, e3, e4⟩ := decQ_back n p1 e _ h
    rw [← r1, hp1]
    refine ⟨e1, (cellQ s (some p)).1 :: l, by rw [e2]; simp, by simp [e3], ?_⟩
    rw [b1, e4, List.flatMap_cons, txt_app, List.append_assoc]
/-- The other way: what lies there is read. -/
theorem rowQ_spec {s : Bs} {p : Nat} {r : List Int} {t : Bs} {n x : Int} (hc : CountsP r n x) (h : s.drop p = txt (rowI r) ++ t) : rowQ s (some p) = (r, some (p + (txt (rowI r)).length)) := by
  have h0 := hc.len
  have hs := someI_len r 0
  obtain ⟨g1, h1⟩ := get_step h (by unfold wOk; omega)
  unfold rowQ
  rw [rowR_spec hc h, g1, if_pos (by simp only; omega)]
theorem cellQ_spec {s : Bs} {p : Nat} {c : PC} {t : Bs} (hc : PcP c) (h : s.drop p = txt (cellI c) ++ t) : cellQ s (some p) = (c, some (p + (txt (cellI c)).length)) := by
  have hh := hc.head
  have hD := cellD_spec hc h
  rw [cellI, txt_app, List.append_assoc, txt_app, List.append_assoc] at h
  obtain ⟨g0, h⟩ := get_step h (hh _ (by simp))
  obtain ⟨g1, h⟩ := get_step h (hh _ (by simp))
  obtain ⟨g2, h⟩ := get_step h (hh _ (by simp))
  obtain ⟨g3, h⟩ := get_step h (hh _ (by simp))
  obtain ⟨g4, h⟩ := get_step h (hh _ (by simp))
  obtain ⟨g5, h⟩ := get_step h (hh _ (by simp))
  obtain ⟨g6, h⟩ := get_step h (hh _ (by simp))
  obtain ⟨g7, h⟩ := get_step h (hh _ (by simp))
  rw [txt_nil, List.nil_append] at h
  have q8 : ∃ x, qn s 8 (some p) = some x ∧ s.drop x = txt (rowI c.x.ls) ++ (txt (rowI c.x.hs) ++ t) := by
    refine ⟨_, ?_, h⟩
    simp only [qn, g0, g1, g2, g3, g4, g5, g6, g7]
  obtain ⟨x, hx, h⟩ := q8
  have r1 := rowQ_spec hc.cell.lo h
  have r1' := rowR_spec hc.cell.lo h
  have h2 : s.drop (x + (txt (rowI c.x.ls)).length) = txt (rowI c.x.hs) ++ t := by rw [← List.drop_drop, h, List.drop_left]
  have r2 := rowQ_spec hc.cell.hi h2
  have r2' := rowR_spec hc.cell.hi h2
  rw [← hD]
  unfold cellQ cellD
  rw [hx, r1, r1']
  simp only
  rw [r2, r2']
theorem decQ_spec {s : Bs} : ∀ (l acc : List PC) (p : Nat) (t : Bs), (∀ c ∈ l, PcP c) → s.drop p = txt (l.flatMap cellI) ++ t → decQ s l.length (some p) acc = (acc ++ l, some (p + (txt (l.flatMap cellI)).length))
  | [], acc, p, t, _, _ => by simp [decQ, txt]
  | c :: l, acc, p, t, hl, h => by
    rw [List.flatMap_cons, txt_app, List.append_assoc] at h
    have hc := cellQ_spec (hl c List.mem_cons_self) h
    have h2 : s.drop (p + (txt (cellI c)).length) = txt (l.flatMap cellI) ++ t := by rw [← List.drop_drop, h, List.drop_left]
    have ih := decQ_spec l (acc ++ [c]) _ t (fun x hx => hl x (List.mem_cons_of_mem _ hx)) h2
    rw [List.length_cons, decQ, hc]
    simp only
    rw [ih, List.flatMap_cons, txt_app, List.length_append]
    simp only [Prod.mk.injEq, Option.some.injEq]
    exact ⟨by simp, by omega⟩
/-- Both answer the same. -/
theorem refR_eq (s : Bs) (p : Nat) (hp : p ≤ s.length) : refR s p = decR s p := by
  by_cases hg : (get1 s (some p)).2.isSome = true ∧ 0 ≤ (get1 s (some p)).1 ∧ (get1 s (some p)).1 ≤ 400
  rotate_left
  · unfold refR decR; rw [if_neg hg, if_neg hg]
  rcases decR_cases s p hp with h | ⟨l, e, h, hv, ht, he, hes⟩
  · -- ours refuses: so does the reference
    rw [h]
    unfold refR
    rw [if_pos hg]
    unfold decR at h
    rw [if_pos hg] at h
    generalize hdq : decQ s (get1 s (some p)).1.toNat (get1 s (some p)).2 [] = d at *
    obtain ⟨l, q⟩ := d
    cases q with
    | none => rfl
    | some e =>
      simp only
      split
      · rename_i hv
        exfalso
        have h2 : (decQ s (get1 s (some p)).1.toNat (get1 s (some p)).2 []).2 = some e := by rw [hdq]
        obtain ⟨p1, hp1⟩ := decQ_q h2
        obtain ⟨b1, _⟩ := get1_back hp1
        rw [hp1] at h2 hdq h
        obtain ⟨e1, l', e2, e3, e4⟩ := decQ_back _ p1 e [] h2
        rw [← e1, hdq] at h
        rw [hdq, List.nil_append] at e2
        simp only at e2 h
        subst e2
        have hsk : s.drop p = txt (skI l) ++ s.drop e := by
          rw [b1, e4, skI, txt_cons, txt_cons, txt_nil, e3, List.append_nil, List.append_assoc, show ((get1 s (some p)).1.toNat : Int) = (get1 s (some p)).1 by omega]
        have hle : e ≤ s.length ∨ s.length < e := by omega
        have hD := decR_spec hv hsk
        unfold decR at hD
        rw [if_pos hg, hp1, ← e1, hdq] at hD
        simp only at hD
        rw [h] at hD
        have := (Prod.mk.inj (Prod.mk.inj hD).2).2
        omega
      · rfl
  · rw [h]
    have hsk : s.drop p = txt (skI l) ++ s.drop e := by
      rw [ht]
      have h1 := List.take_append_drop e s
      conv => lhs; rw [← h1]
      rw [List.drop_append_of_le_length (by rw [List.length_take]; omega)]
    have hlen := hv.len
    obtain ⟨g, h1⟩ := get_step (n := (l.length : Int)) (l := l.flatMap cellI) hsk (by unfold wOk; omega)
    have hc := decQ_spec l [] _ _ hv.each h1
    unfold refR
    rw [if_pos hg, g]
    simp only
    rw [Int.toNat_natCast, hc]
    simp only [List.nil_append]
    rw [if_pos hv]
    have e1 : (txt (skI l)).length = (ibs (l.length : Int)).length + (txt (l.flatMap cellI)).length := by rw [skI, txt_cons, List.length_append]
    rw [show p + (ibs (l.length : Int)).length + (txt (l.flatMap cellI)).length = e by omega]
end Go.Proofs.YtogfficbloejcaaDoor
namespace Go.Proofs.YtogfficbloejcaaDoor
open Go Go.X
set_option maxRecDepth 10000
set_option linter.unusedVariables false
attribute [local irreducible] Code.wpIn wpListIn Exit.then Exit.inBlock X.Out X.Back X.W X.Ev X.Con X.BinV X.Wh X.Wn X.Wq
set_option maxHeartbeats 1600000 in
theorem rEncode_con (cs : List Ce) (A : Option Addr) (c : Nat) (S : SH) (hA : At S A cs) (hok : ∀ q ∈ cs, q.ok S) (hl : cs.length ≤ 1000000) :
    Con Tryd.prog 35 #[.agg #[.slice A cs.length c]] S [] (fun S' L' r => L' = [] ∧ r = encV (cs.map (·.p))) := by
  refine con_of (args := [.agg [.slice A cs.length c].toArray]) Tryd.func35 rfl Tryd.ntmps35 rfl fun w => ?_
  have hv := rValid_con cs A c S hA hok hl
  by_cases hval : ValidP (cs.map (·.p))
  rotate_left
  · rw [bP_f hval] at hv
    (repeat (first | refine Jc ?_ | ((apply z_call; rfl; rfl; rfl; exact hv; rintro _ _ _ - ⟨rfl, rfl, rfl⟩)) | refine Jo ?_ | intro _))
    rw [encV_f hval]
    exact o_ret2 (L' := []) Tryd.results35 rfl rfl (List.nil_sublist _) ⟨rfl, rfl⟩
  rw [bP_t hval] at hv
  rw [encV_t hval]
  have hlen := hval.len
  rw [List.length_map] at hlen
  have hsk := skI_ok hval
  (repeat (first | refine Jc ?_ | ((apply z_call; rfl; rfl; rfl; exact hv; rintro _ _ _ - ⟨rfl, rfl, rfl⟩)) | refine Jo ?_ | intro _))
  rename_i b1 b4
  refine c_loop (fun m S' L F => Le S S' ∧ ∃ (i : Nat) (t : List Int) (v : Value) (ob : Blocks), m = cs.length - i ∧ i ≤ cs.length ∧ t = (cs.length : Int) :: ((cs.take i).map (·.p)).flatMap cellI ∧ t.length ≤ 1 + 186 * i ∧ Ows 3 v t ob ∧ L = ob ++ [(b1, .cells [.slice A cs.length c].toArray 24 (0, 0))] ∧
      F = [(1, .pointer (some ⟨b1, 0, none⟩)), (4, v), (5, .int .i64 i)])
    ⟨Le.refl _, 0, [(cs.length : Int)], _, _, rfl, by omega, rfl, by simp, Ows.full (cs := [.int .i64 cs.length]) (l := [(cs.length : Int)]) rfl (by simp [maxLen]), rfl, rfl⟩ sbF sbL ?_
  rintro m S' L F ⟨hle, i, t, v, ob, rfl, hi, ht, htl, hob, rfl, rfl⟩
  by_cases hlt : i < cs.length
  rotate_left
  · obtain rfl : i = cs.length := by omega
    rw [List.take_length] at ht
    have htk : t = skI (cs.map (·.p)) := by rw [ht, skI, List.length_map]
    (repeat (first | refine Jz ?_ | intro _))
    refine W.freezeOws hob (List.Perm.refl _) fun S2 hle2 hsr => ?_
    obtain ⟨A2, c2, rfl, hc2, hA2⟩ := hsr
    have htx := rtext_con t A2 c2 S2 hA2 (by rw [htk]; exact hsk) (by omega)
    (repeat (first | refine Jc ?_ | ((apply z_call; rfl; rfl; rfl; exact htx; rintro _ _ _ - ⟨rfl, rfl, rfl⟩)) | refine Jo ?_ | intro _))
    exact o_ret2 (L' := []) Tryd.results35 rfl rfl (List.nil_sublist _) ⟨rfl, by rw [htk]⟩
  obtain ⟨q, hq⟩ := at_lt' hlt
  have hqok : q.ok S' := (hok q (List.mem_of_getElem? hq)).le hle
  have hpc : PcP q.p := hval.each q.p (List.mem_map.2 ⟨q, List.mem_of_getElem? hq, rfl⟩)
  have hnext : (cs.length : Int) :: ((cs.take (i + 1)).map (·.p)).flatMap cellI = t ++ cellI q.p := by
    rw [take_at' hq, ht]; simp
  have hA' : At S' A cs := hA.le hle
  obtain ⟨⟨ps, pv, po, pd, ⟨xn, xl, xh, xb, xls, xhs⟩⟩, qla, qlc, qha, qhc⟩ := q
  obtain ⟨q1, q2, q3, q4, q5, q6⟩ := hqok
  have r1 := rowI_len hpc.cell.lo.len
  have r2 := rowI_len hpc.cell.hi.len
  have r3 := hpc.cell.lo.len
  have r4 := hpc.cell.hi.len
  dsimp only at *
  have g1 := rsome_con xls qla qlc S' q1 (by omega)
  have g2 := fun S2 (h : Le S' S2) => rsome_con xhs qha qhc S2 (q2.le h) (by omega)
  (repeat (first | refine Jc ?_ | (apply s_idx hA'; (case hg => rfl); (case hd => rfl); (case hx => rfl); (case hi => rfl); (case hm => rfl); (case hu => exact hq); intro p (hp : Pts _ p [.int .i64 ps, .int .i64 pv, .int .i64 po, .int .i64 pd, .int .i64 xn, .int .i64 xl, .int .i64 xh, .int .i64 xb, .slice qla xls.length qlc, .slice qha xhs.length qhc])) | (apply s_load_ag; (case hg => rfl); (case hd => rfl); (case hx => rfl); (case hv => exact hp); (case hl => rfl)) | (apply s_append (ms := [ps, pv, po, pd, xn, xl, xh, xb]); (case hg => rfl); (case hd => rfl); (case hx => rfl); (case ho => exact hob); (case hL => (exact pmT)); (case hy => rfl); (case hm => rfl); (case hs => (apply Src.own; (repeat (first | exact List.Mem.head _ | apply List.Mem.tail | apply List.mem_append_right)))); (case hzs => rfl); (case h0 => decide); (case hb => (simp; omega)); (case h63 => (simp; omega)); intro v1 ob1 ho1) | refine Jo ?_ | intro _))
  (repeat (first | refine Jc ?_ | ((apply z_call; rfl; rfl; rfl; exact g1; rintro S2 _ _ hle2 ⟨rfl, A1, c1, rfl, hA1⟩)) | (apply s_append_st (ms := rowI xls) hA1; (case hg => rfl); (case hd => rfl); (case hx => rfl); (case ho => exact ho1); (case hL => (exact pmT)); (case hy => rfl); (case hm => rfl); (case hzs => rfl); (case h0 => decide); (case hb => (simp only [List.length_append, List.length_cons, List.length_nil]; omega)); (case h63 => (simp only [List.length_append, List.length_cons, List.length_nil]; omega)); intro v2 ob2 ho2) | refine Jo ?_ | intro _))
  (repeat (first | refine Jc ?_ | ((apply z_call; rfl; rfl; rfl; exact g2 _ hle2; rintro S3 _ _ hle3 ⟨rfl, A2, c2, rfl, hA2⟩)) | (apply s_append_st (ms := rowI xhs) hA2; (case hg => rfl); (case hd => rfl); (case hx => rfl); (case ho => exact ho2); (case hL => (exact pmT)); (case hy => rfl); (case hm => rfl); (case hzs => rfl); (case h0 => decide); (case hb => (simp only [List.length_append, List.length_cons, List.length_nil]; omega)); (case h63 => (simp only [List.length_append, List.length_cons, List.length_nil]; omega)); intro v3 ob3 ho3) | refine Jo ?_ | intro _))
  refine q_back (m' := cs.length - (i + 1)) ⟨(hle.trans hle2).trans hle3, i + 1, _, v3, ob3, rfl, by omega, ?_, ?_, ho3, rfl, rfl⟩ (by omega) sbF sbL
  · rw [hnext]; simp [cellI]
  · simp only [List.length_append, List.length_cons, List.length_nil]; omega
end Go.Proofs.YtogfficbloejcaaDoor
namespace Go.Proofs.YtogfficbloejcaaDoor
open Go Go.X
set_option maxRecDepth 10000
set_option linter.unusedVariables false
attribute [local irreducible] Code.wpIn wpListIn Exit.then Exit.inBlock X.Out X.Back X.W X.Ev X.Con X.BinV X.Wh X.Wn X.Wq
theorem rReadRow_f {s : Bs} {p : Nat} (h : (rowQ s (some p)).2 = none) (hs : s.length ≤ 9223372036854775807) (hp : p ≤ s.length) (S : SH) :
    Con Tryd.prog 73 #[strV s, .int .i64 p] S [] (fun S' L' v => L' = [] ∧ v = .tuple #[.slice none 0 0, .int .i64 0, .bool false]) :=
  (rReadRow_con s hs p hp S).mono fun S' L' v _ hr => ⟨hr.1, hr.2.1 h⟩
theorem rReadRow_t {s : Bs} {p e : Nat} {r : List Int} (h : rowQ s (some p) = (r, some e)) (hs : s.length ≤ 9223372036854775807) (hp : p ≤ s.length) (S : SH) :
    Con Tryd.prog 73 #[strV s, .int .i64 p] S [] (fun S' L' v => L' = [] ∧ e ≤ s.length ∧ r.length = 44 ∧ ∃ A, v = .tuple #[.slice A r.length 44, .int .i64 e, .bool true] ∧ At S' A r) :=
  (rReadRow_con s hs p hp S).mono fun S' L' v _ hr => by
    obtain ⟨h1, h2, h3, A, h4, h5⟩ := And.intro hr.1 (hr.2.2 e (by rw [h]))
    rw [h] at h3 h4 h5
    exact ⟨h1, h2, h3, A, h4, h5⟩
theorem cellQ_none {s : Bs} {q : Option Nat} {k : Nat} (h : qn s k q = none) (hk : k ≤ 8) : (cellQ s q).2 = none := by
  have h8 : qn s 8 q = none := by
    have := qn_none h (8 - k)
    rw [show k + (8 - k) = 8 by omega] at this
    exact this
  show (rowQ s (rowQ s (qn s 8 q)).2).2 = none
  rw [h8, rowQ_none, rowQ_none]
/-- Eight integers. -/
theorem eight {a : List Int} (h : a.length = 8) : ∃ a0 a1 a2 a3 a4 a5 a6 a7, a = [a0, a1, a2, a3, a4, a5, a6, a7] := by
  match a, h with
  | [a0, a1, a2, a3, a4, a5, a6, a7], _ => exact ⟨a0, a1, a2, a3, a4, a5, a6, a7, rfl⟩
set_option maxHeartbeats 1000000 in
theorem rDecode_con (s : Bs) (at_ : Int) (S : SH) (hs : s.length ≤ 9223372036854775807) :
    Con Tryd.prog 37 #[strV s, .int .i64 at_] S [] (fun S' L' r => L' = [] ∧ ∃ v, r = .tuple #[v, .int .i64 (decA s at_).2.1, .int .i64 (decA s at_).2.2] ∧ SkV S' v (decA s at_).1) := by
  refine con_of (args := [strV s, .int .i64 at_]) Tryd.func37 rfl Tryd.ntmps37 rfl fun w => ?_
  by_cases h1 : at_ < 0
  · rw [decA, if_pos (.inl h1)]
    (repeat (first | refine Jc ?_ | (apply s_evb; (case hg => rfl); (case hd => rfl); (case hn => rfl); (case he => (apply ev_buildS; (case hp => rfl); (case hz => rfl); (case h1 => rfl); (case hr => rfl)))) | refine Jo ?_ | intro _))
    exact o_ret_c3 (L' := []) (sz := 1) (cs := [.slice none 0 0]) Tryd.results37 rfl rfl rfl (by repeat (first | exact List.Mem.head _ | refine List.Mem.tail _ ?_ | exact List.mem_append_right _ (List.Mem.head _))) rfl (List.nil_sublist _) ⟨rfl, _, rfl, skv_empty _⟩
  by_cases h2 : (s.length : Int) < at_
  · rw [decA, if_pos (.inr h2)]
    (repeat (first | refine Jc ?_ | (apply s_evb; (case hg => rfl); (case hd => rfl); (case hn => rfl); (case he => (apply ev_len_b; rfl))) | (apply s_evb; (case hg => rfl); (case hd => rfl); (case hn => rfl); (case he => (apply ev_buildS; (case hp => rfl); (case hz => rfl); (case h1 => rfl); (case hr => rfl)))) | refine Jo ?_ | intro _))
    exact o_ret_c3 (L' := []) (sz := 1) (cs := [.slice none 0 0]) Tryd.results37 rfl rfl rfl (by repeat (first | exact List.Mem.head _ | refine List.Mem.tail _ ?_ | exact List.mem_append_right _ (List.Mem.head _))) rfl (List.nil_sublist _) ⟨rfl, _, rfl, skv_empty _⟩
  obtain ⟨p, rfl⟩ : ∃ p : Nat, at_ = p := ⟨at_.toNat, by omega⟩
  have hp : p ≤ s.length := by omega
  rw [decA, if_neg (by omega), Int.toNat_natCast, ← refR_eq s p hp]
  generalize hR : refR s p = R
  unfold refR at hR
  cases hd : decI (s.drop p) with
  | none =>
    rw [get1_f hd, if_neg (fun h => by cases h.1)] at hR
    subst hR
    (repeat (first | refine Jc ?_ | (apply s_evb; (case hg => rfl); (case hd => rfl); (case hn => rfl); (case he => (apply ev_len_b; rfl))) | (apply s_evb; (case hg => rfl); (case hd => rfl); (case hn => rfl); (case he => (apply ev_buildS; (case hp => rfl); (case hz => rfl); (case h1 => rfl); (case hr => rfl)))) | ((apply z_call; rfl; rfl; rfl; exact rInt_f hd hp hs S; rintro _ _ _ - ⟨rfl, rfl, rfl⟩)) | refine Jo ?_ | intro _))
    exact o_ret_c3 (L' := []) (sz := 1) (cs := [.slice none 0 0]) Tryd.results37 rfl rfl rfl (by repeat (first | exact List.Mem.head _ | refine List.Mem.tail _ ?_ | exact List.mem_append_right _ (List.Mem.head _))) rfl (List.nil_sublist _) ⟨rfl, _, rfl, skv_empty _⟩
  | some x =>
    obtain ⟨n, kl⟩ := x
    obtain ⟨hp0, hk0, hwn⟩ := decI_pos hd
    have win := rin_con n 0 400 S
    rw [get1_t hd] at hR
    by_cases hin : 0 ≤ n ∧ n ≤ 400
    rotate_left
    · rw [if_neg (fun h => hin h.2)] at hR
      subst hR
      rw [bP_f hin] at win
      (repeat (first | refine Jc ?_ | (apply s_evb; (case hg => rfl); (case hd => rfl); (case hn => rfl); (case he => (apply ev_len_b; rfl))) | (apply s_evb; (case hg => rfl); (case hd => rfl); (case hn => rfl); (case he => (apply ev_buildS; (case hp => rfl); (case hz => rfl); (case h1 => rfl); (case hr => rfl)))) | ((apply z_call; rfl; rfl; rfl; exact rInt_t hd hp hs S; rintro _ _ _ - ⟨rfl, rfl, rfl⟩)) | ((apply z_call; rfl; rfl; rfl; exact win; rintro _ _ _ - ⟨rfl, rfl, rfl⟩)) | refine Jo ?_ | intro _))
      exact o_ret_c3 (L' := []) (sz := 1) (cs := [.slice none 0 0]) Tryd.results37 rfl rfl rfl (by repeat (first | exact List.Mem.head _ | refine List.Mem.tail _ ?_ | exact List.mem_append_right _ (List.Mem.head _))) rfl (List.nil_sublist _) ⟨rfl, _, rfl, skv_empty _⟩
    rw [bP_t hin] at win
    rw [if_pos ⟨rfl, hin⟩] at hR
    obtain ⟨N, rfl⟩ : ∃ N : Nat, n = N := ⟨n.toNat, by omega⟩
    simp only [Int.toNat_natCast] at hR
    (repeat (first | refine Jc ?_ | (apply s_evb; (case hg => rfl); (case hd => rfl); (case hn => rfl); (case he => (apply ev_len_b; rfl))) | (apply s_evb; (case hg => rfl); (case hd => rfl); (case hn => rfl); (case he => (apply ev_buildS; (case hp => rfl); (case hz => rfl); (case h1 => rfl); (case hr => rfl)))) | ((apply z_call; rfl; rfl; rfl; exact rInt_t hd hp hs S; rintro _ _ _ - ⟨rfl, rfl, rfl⟩)) | ((apply z_call; rfl; rfl; rfl; exact win; rintro _ _ _ - ⟨rfl, rfl, rfl⟩)) | refine Jo ?_ | intro _))
    rename_i b4 b10
    refine c_loop (fun m S' L F => Le S S' ∧ ∃ (i p1 : Nat) (lc : List Ce) (pv : Value) (ob : Blocks), m = N - i ∧ i ≤ N ∧ p1 ≤ s.length ∧ Ows 45 pv lc ob ∧ (∀ q ∈ lc, q.ok S') ∧ lc.length = i ∧ decQ s (N - i) (some p1) (lc.map (·.p)) = decQ s N (some (p + kl)) [] ∧ L = ob ++ [(b10, .cells [pv].toArray 24 (0, 0)), (b4, .cells [.slice none 0 0].toArray 24 (0, 0))] ∧
        F = [(0, strV s), (4, .pointer (some ⟨b4, 0, none⟩)), (7, .int .i64 N), (8, .int .i64 p1), (10, .pointer (some ⟨b10, 0, none⟩)), (11, .int .i64 i)])
      ⟨Le.refl _, 0, p + kl, [], .slice none 0 0, [], rfl, by omega, hp0, Ows.nil 45, fun q hq => absurd hq List.not_mem_nil, rfl, rfl, rfl, rfl⟩ sbF (List.Sublist.refl _) ?_
    rintro m S' L F ⟨hle, i, p1, lc, pv, ob, rfl, hi, hp1, hob, hok, hlc, hdq, rfl, rfl⟩
    by_cases hlt : i < N
    rotate_left
    · obtain rfl : i = N := by omega
      rw [← hdq, Nat.sub_self, decQ] at hR
      simp only at hR
      refine W.freezeOws hob (List.Perm.refl _) fun S2 hle2 hsr => ?_
      obtain ⟨A2, c2, rfl, hc2, hA2⟩ := hsr
      have hok2 : ∀ q ∈ lc, q.ok S2 := fun q hq => (hok q hq).le hle2
      have vc := rValid_con lc A2 c2 S2 hA2 hok2 (by omega)
      by_cases hv : ValidP (lc.map (·.p))
      · rw [if_pos hv] at hR
        subst hR
        rw [bP_t hv] at vc
        (repeat (first | refine Jc ?_ | ((apply z_call; rfl; rfl; rfl; exact vc; rintro _ _ _ - ⟨rfl, rfl, rfl⟩)) | refine Jo ?_ | intro _))
        exact o_ret_c3 (L' := []) (sz := 1) (cs := [.slice A2 lc.length c2]) Tryd.results37 rfl rfl rfl (by repeat (first | exact List.Mem.head _ | refine List.Mem.tail _ ?_ | exact List.mem_append_right _ (List.Mem.head _))) rfl (List.nil_sublist _) ⟨rfl, _, rfl, ⟨A2, c2, lc, rfl, hA2, hok2, by omega, rfl⟩⟩
      · rw [if_neg hv] at hR
        subst hR
        rw [bP_f hv] at vc
        (repeat (first | refine Jc ?_ | (apply s_evb; (case hg => rfl); (case hd => rfl); (case hn => rfl); (case he => (apply ev_buildS; (case hp => rfl); (case hz => rfl); (case h1 => rfl); (case hr => rfl)))) | ((apply z_call; rfl; rfl; rfl; exact vc; rintro _ _ _ - ⟨rfl, rfl, rfl⟩)) | refine Jo ?_ | intro _))
        exact o_ret_c3 (L' := []) (sz := 1) (cs := [.slice none 0 0]) Tryd.results37 rfl rfl rfl (by repeat (first | exact List.Mem.head _ | refine List.Mem.tail _ ?_ | exact List.mem_append_right _ (List.Mem.head _))) rfl (List.nil_sublist _) ⟨rfl, _, rfl, skv_empty _⟩
    obtain ⟨k1, hk1⟩ : ∃ k1, N - i = k1 + 1 := ⟨N - i - 1, by omega⟩
    rw [← hdq, hk1, decQ] at hR
    rw [hk1, decQ] at hdq
    have hbad : (cellQ s (some p1)).2 = none → R = ([], 0, 170) := fun h => by
      rw [h, decQ_none] at hR
      exact hR.symm
    (repeat (first | refine Jz ?_ | intro _))
    rename_i ba
    refine c_loop (fun m S5 L F => S5 = S' ∧ ∃ (j p2 : Nat) (a : List Int), m = 8 - j ∧ j ≤ 8 ∧ p2 ≤ s.length ∧ a.length = 8 ∧ qn s j (some p1) = some p2 ∧ (∀ t, t < j → a[t]? = some (vn s t (some p1))) ∧ L = (ba, .cells (a.map (Value.int .i64)).toArray 95 (0, 0)) :: (ob ++ [(b10, .cells [pv].toArray 24 (0, 0)), (b4, .cells [.slice none 0 0].toArray 24 (0, 0))]) ∧
        F = [(0, strV s), (4, .pointer (some ⟨b4, 0, none⟩)), (7, .int .i64 N), (8, .int .i64 p2), (10, .pointer (some ⟨b10, 0, none⟩)), (11, .int .i64 i), (12, .pointer (some ⟨ba, 0, none⟩)), (13, .int .i64 j)])
      ⟨rfl, 0, p1, List.replicate 8 0, rfl, by omega, hp1, rfl, rfl, fun t ht => by omega, rfl, rfl⟩ sbF (List.Sublist.refl _) ?_
    rintro m S5 L F ⟨rfl, j, p2, a, rfl, hj, hp2, hal, hqj, hat, rfl, rfl⟩
    by_cases hj8 : j < 8
    · cases hd2 : decI (s.drop p2) with
      | none =>
        have hq : qn s (j + 1) (some p1) = none := by rw [qn, hqj, get1_f hd2]
        obtain rfl := hbad (cellQ_none hq (by omega))
        (repeat (first | refine Jc ?_ | (apply s_evb; (case hg => rfl); (case hd => rfl); (case hn => rfl); (case he => (apply ev_buildS; (case hp => rfl); (case hz => rfl); (case h1 => rfl); (case hr => rfl)))) | ((apply z_call; rfl; rfl; rfl; exact rInt_f hd2 hp2 hs S5; rintro _ _ _ - ⟨rfl, rfl, rfl⟩)) | refine Jo ?_ | intro _))
        exact o_ret_c3 (L' := []) (sz := 1) (cs := [.slice none 0 0]) Tryd.results37 rfl rfl rfl (List.mem_cons_of_mem _ (List.mem_append_right _ (List.mem_cons_of_mem _ List.mem_cons_self))) rfl (List.nil_sublist _) ⟨rfl, _, rfl, skv_empty _⟩
      | some y =>
        obtain ⟨v, l1⟩ := y
        obtain ⟨hp3, hl1, hwv⟩ := decI_pos hd2
        have hq : qn s (j + 1) (some p1) = some (p2 + l1) := by rw [qn, hqj, get1_t hd2]
        have hvn : vn s j (some p1) = v := by rw [vn, hqj, get1_t hd2]
        have hcell : (a.map (Value.int .i64))[j]? = some (.int .i64 (a[j]'(by omega))) := by rw [List.getElem?_map, List.getElem?_eq_getElem]; rfl
        (repeat (first | refine Jc ?_ | ((apply z_call; rfl; rfl; rfl; exact rInt_t hd2 hp2 hs S5; rintro _ _ _ - ⟨rfl, rfl, rfl⟩)) | (apply s_idxa1 (j := j); (case hg => rfl); (case hd => rfl); (case hx => rfl); (case hi => rfl); (case hk => omega)) | (apply s_store; (case hg => rfl); (case hx => rfl); (case hy => rfl); (case h1 => rfl); (case hL => (repeat (first | exact Upd.head | apply Upd.tail | apply Upd.app))); (case hu => exact hcell)) | refine Jo ?_ | intro _))
        refine q_back (m' := 8 - (j + 1)) ⟨rfl, j + 1, p2 + l1, a.set j v, rfl, by omega, hp3, by simpa using hal, hq, fun t ht => ?_, by rw [List.map_set], rfl⟩ (by omega) sbF (List.Sublist.refl _)
        by_cases htj : t = j
        · subst htj; rw [hvn, List.getElem?_set_self (by omega)]
        · rw [List.getElem?_set_ne (fun h => htj h.symm)]; exact hat t (by omega)
    obtain rfl : j = 8 := by omega
    obtain ⟨a0, a1, a2, a3, a4, a5, a6, a7, rfl⟩ := eight hal
    simp only [List.map_cons, List.map_nil]
    have e0 := hat 0 (by omega)
    have e1 := hat 1 (by omega)
    have e2 := hat 2 (by omega)
    have e3 := hat 3 (by omega)
    have e4 := hat 4 (by omega)
    have e5 := hat 5 (by omega)
    have e6 := hat 6 (by omega)
    have e7 := hat 7 (by omega)
    simp only [List.getElem?_cons_zero, List.getElem?_cons_succ, Option.some.injEq] at e0 e1 e2 e3 e4 e5 e6 e7
    cases hr1 : rowQ s (some p2) with
    | mk row1 o1 =>
    cases o1 with
    | none =>
      obtain rfl := hbad (by show (rowQ s (rowQ s (qn s 8 (some p1))).2).2 = none; rw [hqj, hr1, rowQ_none])
      (repeat (first | refine Jc ?_ | (apply s_evb; (case hg => rfl); (case hd => rfl); (case hn => rfl); (case he => (apply ev_buildS; (case hp => rfl); (case hz => rfl); (case h1 => rfl); (case hr => rfl)))) | ((apply z_call; rfl; rfl; rfl; exact rReadRow_f (by rw [hr1]) hs hp2 S5; rintro S6 _ _ hle6 ⟨rfl, rfl⟩)) | refine Jo ?_ | intro _))
      exact o_ret_c3 (L' := []) (sz := 1) (cs := [.slice none 0 0]) Tryd.results37 rfl rfl rfl (List.mem_cons_of_mem _ (List.mem_append_right _ (List.mem_cons_of_mem _ List.mem_cons_self))) rfl (List.nil_sublist _) ⟨rfl, _, rfl, skv_empty _⟩
    | some p3 =>
    (repeat (first | refine Jc ?_ | ((apply z_call; rfl; rfl; rfl; exact rReadRow_t hr1 hs hp2 S5; rintro S6 _ _ hle6 ⟨rfl, hp3, hrl1, A1, rfl, hA1⟩)) | refine Jo ?_ | intro _))
    cases hr2 : rowQ s (some p3) with
    | mk row2 o2 =>
    cases o2 with
    | none =>
      obtain rfl := hbad (by show (rowQ s (rowQ s (qn s 8 (some p1))).2).2 = none; rw [hqj, hr1, hr2])
      (repeat (first | refine Jc ?_ | (apply s_evb; (case hg => rfl); (case hd => rfl); (case hn => rfl); (case he => (apply ev_buildS; (case hp => rfl); (case hz => rfl); (case h1 => rfl); (case hr => rfl)))) | ((apply z_call; rfl; rfl; rfl; exact rReadRow_f (by rw [hr2]) hs hp3 S6; rintro S7 _ _ hle7 ⟨rfl, rfl⟩)) | refine Jo ?_ | intro _))
      exact o_ret_c3 (L' := []) (sz := 1) (cs := [.slice none 0 0]) Tryd.results37 rfl rfl rfl (List.mem_cons_of_mem _ (List.mem_append_right _ (List.mem_cons_of_mem _ List.mem_cons_self))) rfl (List.nil_sublist _) ⟨rfl, _, rfl, skv_empty _⟩
    | some p4 =>
    have hcell : cellQ s (some p1) = (⟨a0, a1, a2, a3, ⟨a4, a5, a6, a7, row1, row2⟩⟩, some p4) := by
      unfold cellQ
      rw [hqj, hr1, hr2, e0, e1, e2, e3, e4, e5, e6, e7]
    rw [hcell] at hdq
    (repeat (first | refine Jc ?_ | (apply s_evb; (case hg => rfl); (case hd => rfl); (case hn => rfl); (case he => (apply ev_buildS; (case hp => rfl); (case hz => rfl); (case h1 => rfl); (case hr => rfl)))) | ((apply z_call; rfl; rfl; rfl; exact rReadRow_t hr2 hs hp3 S6; rintro S7 _ _ hle7 ⟨rfl, hp4, hrl2, A2, rfl, hA2⟩)) | (apply s_idxa1 (j := 0); (case hg => rfl); (case hd => rfl); (case hx => rfl); (case hi => rfl); (case hk => decide)) | (apply s_idxa1 (j := 1); (case hg => rfl); (case hd => rfl); (case hx => rfl); (case hi => rfl); (case hk => decide)) | (apply s_idxa1 (j := 2); (case hg => rfl); (case hd => rfl); (case hx => rfl); (case hi => rfl); (case hk => decide)) | (apply s_idxa1 (j := 3); (case hg => rfl); (case hd => rfl); (case hx => rfl); (case hi => rfl); (case hk => decide)) | (apply s_idxa1 (j := 4); (case hg => rfl); (case hd => rfl); (case hx => rfl); (case hi => rfl); (case hk => decide)) | (apply s_idxa1 (j := 5); (case hg => rfl); (case hd => rfl); (case hx => rfl); (case hi => rfl); (case hk => decide)) | (apply s_idxa1 (j := 6); (case hg => rfl); (case hd => rfl); (case hx => rfl); (case hi => rfl); (case hk => decide)) | (apply s_idxa1 (j := 7); (case hg => rfl); (case hd => rfl); (case hx => rfl); (case hi => rfl); (case hk => decide)) | refine Jo ?_ | intro _))
    have hok' : (⟨⟨a0, a1, a2, a3, ⟨a4, a5, a6, a7, row1, row2⟩⟩, A1, 44, A2, 44⟩ : Ce).ok S7 := ⟨hA1.le hle7, hA2, Nat.le_of_eq hrl1, Nat.le_of_eq hrl2, by simp only [hrl1]; decide, by simp only [hrl2]; decide⟩
    obtain ⟨cc, hcc⟩ : ∃ cc : Ce, cc = ⟨⟨a0, a1, a2, a3, ⟨a4, a5, a6, a7, row1, row2⟩⟩, A1, 44, A2, 44⟩ := ⟨_, rfl⟩
    have hccp : cc.p = ⟨a0, a1, a2, a3, ⟨a4, a5, a6, a7, row1, row2⟩⟩ := by rw [hcc]
    have hvs : cc.vals = [.int .i64 a0, .int .i64 a1, .int .i64 a2, .int .i64 a3, .int .i64 a4, .int .i64 a5, .int .i64 a6, .int .i64 a7, .slice A1 row1.length 44, .slice A2 row2.length 44] := by rw [hcc]; rfl
    rw [← hcc] at hok'
    rw [← hccp] at hdq
    clear hcc
    (repeat (first | refine Jc ?_ | (apply s_append (ms := [cc]); (case hg => rfl); (case hd => rfl); (case hx => rfl); (case ho => exact hob); (case hL => (exact pmT)); (case hy => rfl); (case hm => rfl); (case hs => (apply Src.own; rw [show cellsOf [cc] = cc.vals from List.append_nil _, hvs]; (repeat (first | exact List.Mem.head _ | apply List.Mem.tail | apply List.mem_append_right)))); (case hzs => rfl); (case h0 => decide); (case hb => (simp; omega)); (case h63 => (simp; omega)); intro v' ob' ho'; obtain ⟨A', c', rfl⟩ := ho'.form) | refine Jo ?_ | intro _))
    refine q_back (m' := N - (i + 1)) ⟨(hle.trans hle6).trans hle7, i + 1, p4, lc ++ [cc], _, ob', rfl, by omega, hp4, ho', ?_, by simp [hlc], ?_, rfl, rfl⟩ (by omega) sbF sbL
    · intro c hc
      rcases List.mem_append.1 hc with hc | hc
      · exact ((hok c hc).le hle6).le hle7
      · rw [List.mem_singleton.1 hc]; exact hok'
    · rw [List.map_append, show N - (i + 1) = k1 by omega]; exact hdq
end Go.Proofs.YtogfficbloejcaaDoor
namespace Go.Proofs.YtogfficbloejcaaDoor
open Go Go.X
set_option maxRecDepth 10000
set_option linter.unusedVariables false
attribute [local irreducible] Code.wpIn wpListIn Exit.then Exit.inBlock X.Out X.Back X.W X.Ev X.Con X.BinV X.Wh X.Wn X.Wq
theorem win14_con (a b c : Int) (S : SH) : Con Tryd.prog 82 #[.int .i64 a, .int .i64 b, .int .i64 c] S [] (Pure S (.bool (bP (b ≤ a ∧ a ≤ c)))) := by
  refine con_of (args := [.int .i64 a, .int .i64 b, .int .i64 c]) Tryd.func82 rfl Tryd.ntmps82 rfl fun w => ?_
  by_cases h1 : b ≤ a
  · by_cases h2 : a ≤ c
    · (repeat (first | refine Jz ?_ | intro _))
      exact o_ret Tryd.results82 rfl (List.nil_sublist _) ⟨rfl, rfl, by rw [bP_t ⟨h1, h2⟩]⟩
    · (repeat (first | refine Jz ?_ | intro _))
      exact o_ret Tryd.results82 rfl (List.nil_sublist _) ⟨rfl, rfl, by rw [bP_f fun h => h2 h.2]⟩
  · (repeat (first | refine Jz ?_ | intro _))
    exact o_ret Tryd.results82 rfl (List.nil_sublist _) ⟨rfl, rfl, by rw [bP_f fun h => h1 h.1]⟩
theorem win14_t {a b c : Int} (h : b ≤ a ∧ a ≤ c) (S : SH) : Con Tryd.prog 82 #[.int .i64 a, .int .i64 b, .int .i64 c] S [] (Pure S (.bool true)) := bP_t h ▸ win14_con a b c S
theorem win14_f {a b c : Int} (h : ¬ (b ≤ a ∧ a ≤ c)) (S : SH) : Con Tryd.prog 82 #[.int .i64 a, .int .i64 b, .int .i64 c] S [] (Pure S (.bool false)) := bP_f h ▸ win14_con a b c S
set_option maxHeartbeats 1600000 in
theorem rValidFact_con (x : Fa) (S : SH) : Con Tryd.prog 46 #[.agg x.vals.toArray] S [] (Pure S (.bool (bP (FactP x)))) := by
  refine con_of (args := [.agg x.vals.toArray]) Tryd.func46 rfl Tryd.ntmps46 rfl fun w => ?_
  obtain ⟨tr, sp, sv, ve, op, pe, dy, lo, hi, bb⟩ := x
  unfold Fa.vals
  dsimp only at *
  by_cases h_tr1 : 0 ≤ tr ∧ tr ≤ 999
  rotate_left
  · (repeat (first | refine Jc ?_ | (apply z_call; rfl; rfl; rfl; exact win14_t (by omega) _; rintro _ _ _ - ⟨rfl, rfl, rfl⟩) | (apply z_call; rfl; rfl; rfl; exact win14_f (by omega) _; rintro _ _ _ - ⟨rfl, rfl, rfl⟩) | refine Jo ?_ | intro _))
    exact o_ret Tryd.results46 rfl (List.nil_sublist _) ⟨rfl, rfl, by rw [bP_f fun h => h_tr1 h.tr1]⟩
  by_cases h_sp1 : 0 ≤ sp ∧ sp ≤ 9
  rotate_left
  · (repeat (first | refine Jc ?_ | (apply z_call; rfl; rfl; rfl; exact win14_t (by omega) _; rintro _ _ _ - ⟨rfl, rfl, rfl⟩) | (apply z_call; rfl; rfl; rfl; exact win14_f (by omega) _; rintro _ _ _ - ⟨rfl, rfl, rfl⟩) | refine Jo ?_ | intro _))
    exact o_ret Tryd.results46 rfl (List.nil_sublist _) ⟨rfl, rfl, by rw [bP_f fun h => h_sp1 h.sp1]⟩
  by_cases h_sv1 : 0 ≤ sv ∧ sv ≤ 7
  rotate_left
  · (repeat (first | refine Jc ?_ | (apply z_call; rfl; rfl; rfl; exact win14_t (by omega) _; rintro _ _ _ - ⟨rfl, rfl, rfl⟩) | (apply z_call; rfl; rfl; rfl; exact win14_f (by omega) _; rintro _ _ _ - ⟨rfl, rfl, rfl⟩) | refine Jo ?_ | intro _))
    exact o_ret Tryd.results46 rfl (List.nil_sublist _) ⟨rfl, rfl, by rw [bP_f fun h => h_sv1 h.sv1]⟩
  by_cases h_ve1 : 0 ≤ ve ∧ ve ≤ 9
  rotate_left
  · (repeat (first | refine Jc ?_ | (apply z_call; rfl; rfl; rfl; exact win14_t (by omega) _; rintro _ _ _ - ⟨rfl, rfl, rfl⟩) | (apply z_call; rfl; rfl; rfl; exact win14_f (by omega) _; rintro _ _ _ - ⟨rfl, rfl, rfl⟩) | refine Jo ?_ | intro _))
    exact o_ret Tryd.results46 rfl (List.nil_sublist _) ⟨rfl, rfl, by rw [bP_f fun h => h_ve1 h.ve1]⟩
  by_cases h_op1 : 0 ≤ op ∧ op ≤ 11
  rotate_left
  · (repeat (first | refine Jc ?_ | (apply z_call; rfl; rfl; rfl; exact win14_t (by omega) _; rintro _ _ _ - ⟨rfl, rfl, rfl⟩) | (apply z_call; rfl; rfl; rfl; exact win14_f (by omega) _; rintro _ _ _ - ⟨rfl, rfl, rfl⟩) | refine Jo ?_ | intro _))
    exact o_ret Tryd.results46 rfl (List.nil_sublist _) ⟨rfl, rfl, by rw [bP_f fun h => h_op1 h.op1]⟩
  by_cases h_pe1 : -1 ≤ pe ∧ pe ≤ 19
  rotate_left
  · (repeat (first | refine Jc ?_ | (apply z_call; rfl; rfl; rfl; exact win14_t (by omega) _; rintro _ _ _ - ⟨rfl, rfl, rfl⟩) | (apply z_call; rfl; rfl; rfl; exact win14_f (by omega) _; rintro _ _ _ - ⟨rfl, rfl, rfl⟩) | refine Jo ?_ | intro _))
    exact o_ret Tryd.results46 rfl (List.nil_sublist _) ⟨rfl, rfl, by rw [bP_f fun h => h_pe1 h.pe1]⟩
  by_cases h_dy1 : dy = tr / 10
  rotate_left
  · (repeat (first | refine Jc ?_ | (apply z_call; rfl; rfl; rfl; exact win14_t (by omega) _; rintro _ _ _ - ⟨rfl, rfl, rfl⟩) | (apply z_call; rfl; rfl; rfl; exact win14_f (by omega) _; rintro _ _ _ - ⟨rfl, rfl, rfl⟩) | refine Jo ?_ | intro _))
    exact o_ret Tryd.results46 rfl (List.nil_sublist _) ⟨rfl, rfl, by rw [bP_f fun h => h_dy1 h.dy1]⟩
  by_cases h_loa : 0 ≤ lo
  rotate_left
  · (repeat (first | refine Jc ?_ | (apply z_call; rfl; rfl; rfl; exact win14_t (by omega) _; rintro _ _ _ - ⟨rfl, rfl, rfl⟩) | (apply z_call; rfl; rfl; rfl; exact win14_f (by omega) _; rintro _ _ _ - ⟨rfl, rfl, rfl⟩) | refine Jo ?_ | intro _))
    exact o_ret Tryd.results46 rfl (List.nil_sublist _) ⟨rfl, rfl, by rw [bP_f fun h => h_loa h.lo1.1]⟩
  by_cases h_lob : lo ≤ hi
  rotate_left
  · (repeat (first | refine Jc ?_ | (apply z_call; rfl; rfl; rfl; exact win14_t (by omega) _; rintro _ _ _ - ⟨rfl, rfl, rfl⟩) | (apply z_call; rfl; rfl; rfl; exact win14_f (by omega) _; rintro _ _ _ - ⟨rfl, rfl, rfl⟩) | refine Jo ?_ | intro _))
    exact o_ret Tryd.results46 rfl (List.nil_sublist _) ⟨rfl, rfl, by rw [bP_f fun h => h_lob h.lo1.2]⟩
  by_cases h_hi1 : hi ≤ 4398046511104
  rotate_left
  · (repeat (first | refine Jc ?_ | (apply z_call; rfl; rfl; rfl; exact win14_t (by omega) _; rintro _ _ _ - ⟨rfl, rfl, rfl⟩) | (apply z_call; rfl; rfl; rfl; exact win14_f (by omega) _; rintro _ _ _ - ⟨rfl, rfl, rfl⟩) | refine Jo ?_ | intro _))
    exact o_ret Tryd.results46 rfl (List.nil_sublist _) ⟨rfl, rfl, by rw [bP_f fun h => h_hi1 h.hi1]⟩
  by_cases h_by1 : 0 ≤ bb ∧ bb ≤ 24000
  rotate_left
  · (repeat (first | refine Jc ?_ | (apply z_call; rfl; rfl; rfl; exact win14_t (by omega) _; rintro _ _ _ - ⟨rfl, rfl, rfl⟩) | (apply z_call; rfl; rfl; rfl; exact win14_f (by omega) _; rintro _ _ _ - ⟨rfl, rfl, rfl⟩) | refine Jo ?_ | intro _))
    exact o_ret Tryd.results46 rfl (List.nil_sublist _) ⟨rfl, rfl, by rw [bP_f fun h => h_by1 h.by1]⟩
  (repeat (first | refine Jc ?_ | (apply z_call; rfl; rfl; rfl; exact win14_t (by omega) _; rintro _ _ _ - ⟨rfl, rfl, rfl⟩) | (apply z_call; rfl; rfl; rfl; exact win14_f (by omega) _; rintro _ _ _ - ⟨rfl, rfl, rfl⟩) | refine Jo ?_ | intro _))
  exact o_ret Tryd.results46 rfl (List.nil_sublist _) ⟨rfl, rfl, by rw [bP_t (show FactP ⟨tr, sp, sv, ve, op, pe, dy, lo, hi, bb⟩ from ⟨h_tr1, h_sp1, h_sv1, h_ve1, h_op1, h_pe1, h_dy1, ⟨h_loa, h_lob⟩, h_hi1, h_by1⟩)]⟩
noncomputable def mP (by_ : Int) (a b : List PC) : List PC := b.foldl (putP by_) a
theorem R44_of {c : PC} (h : PcP c) : R44 c := ⟨h.cell.lo.len, h.cell.hi.len⟩
theorem R44_zero {by_ : Int} {c : PC} (h : R44 c) : R44 { c with x := vop (addB by_) zero44 c.x } := ⟨zipL_R (by simp [zero44]) h.1, zipL_R (by simp [zero44]) h.2⟩
theorem R44_put {by_ : Int} {c : PC} (hc : R44 c) : ∀ {l : List PC}, (∀ p ∈ l, R44 p) → ∀ p ∈ putP by_ l c, R44 p
  | [], _, p, hp => by
    rw [putP, List.mem_singleton] at hp
    subst hp
    exact R44_zero hc
  | q :: l, h, p, hp => by
    have hq := h q List.mem_cons_self
    have hl : ∀ p ∈ l, R44 p := fun p hp => h p (List.mem_cons_of_mem _ hp)
    rw [putP] at hp
    split at hp
    · rcases List.mem_cons.1 hp with rfl | hp
      · exact hq
      · exact R44_put hc hl p hp
    · split at hp
      · rcases List.mem_cons.1 hp with rfl | hp
        · exact R44_zero hc
        · exact h p hp
      · rcases List.mem_cons.1 hp with rfl | hp
        · exact ⟨zipL_R hq.1 hc.1, zipL_R hq.2 hc.2⟩
        · exact hl p hp
noncomputable def mergeR (by_ : Int) (a b : List PC) : List PC × Int := by classical exact if ValidP a ∧ ValidP b then skOf (kept (mP by_ a b)) else ([], 170)
theorem SkV.cl {S : SH} {A : Option Addr} {n c : Nat} {l : List PC} {cs : List Ce} (h1 : At S A cs) (h2 : ∀ q ∈ cs, q.ok S) (h3 : cs.map (·.p) = l) (h4 : n = cs.length) (hc : cs.length ≤ c) : ClV S (.slice A n c) l := ⟨A, c, cs, by rw [h4], hc, h1, h2, h3⟩
set_option maxHeartbeats 1600000 in
theorem rMerge_con {va vb : Value} {a b : List PC} (S : SH) (ha : SkC S va a) (hb : SkC S vb b) :
    Con Tryd.prog 22 #[va, vb] S [] (fun S' L' r => L' = [] ∧ ∃ v, r = .tuple #[v, .int .i64 (mergeR (1) a b).2] ∧ SkV S' v (mergeR (1) a b).1) := by
  obtain ⟨A, ca, xs, rfl, hca, hA, oka, la, rfl⟩ := ha
  obtain ⟨B, cb, ys, rfl, hcb, hB, okb, lb, rfl⟩ := hb
  refine con_of (args := [.agg [.slice A xs.length ca].toArray, .agg [.slice B ys.length cb].toArray]) Tryd.func22 rfl Tryd.ntmps22 rfl fun w => ?_
  have v1 := rValid_con xs A ca S hA oka (by omega)
  have v2 := rValid_con ys B cb S hB okb (by omega)
  unfold mergeR
  by_cases h1 : ValidP (xs.map (·.p))
  rotate_left
  · rw [bP_f h1] at v1
    rw [if_neg (fun h => h1 h.1)]
    (repeat (first | refine Jc ?_ | (apply s_evb; (case hg => rfl); (case hd => rfl); (case hn => rfl); (case he => (apply ev_buildS; (case hp => rfl); (case hz => rfl); (case h1 => rfl); (case hr => rfl)))) | ((apply z_call; rfl; rfl; rfl; exact v1; rintro _ _ _ - ⟨rfl, rfl, rfl⟩)) | refine Jo ?_ | intro _))
    exact o_ret_c2 (L' := []) (sz := 1) (cs := [.slice none 0 0]) Tryd.results22 rfl rfl (by repeat (first | exact List.Mem.head _ | refine List.Mem.tail _ ?_ | exact List.mem_append_right _ (List.Mem.head _))) rfl (List.nil_sublist _) ⟨rfl, _, rfl, nil_sk _⟩
  by_cases h2 : ValidP (ys.map (·.p))
  rotate_left
  · rw [bP_t h1] at v1
    rw [bP_f h2] at v2
    rw [if_neg (fun h => h2 h.2)]
    (repeat (first | refine Jc ?_ | (apply s_evb; (case hg => rfl); (case hd => rfl); (case hn => rfl); (case he => (apply ev_buildS; (case hp => rfl); (case hz => rfl); (case h1 => rfl); (case hr => rfl)))) | ((apply z_call; rfl; rfl; rfl; exact v1; rintro _ _ _ - ⟨rfl, rfl, rfl⟩)) | ((apply z_call; rfl; rfl; rfl; exact v2; rintro _ _ _ - ⟨rfl, rfl, rfl⟩)) | refine Jo ?_ | intro _))
    exact o_ret_c2 (L' := []) (sz := 1) (cs := [.slice none 0 0]) Tryd.results22 rfl rfl (by repeat (first | exact List.Mem.head _ | refine List.Mem.tail _ ?_ | exact List.mem_append_right _ (List.Mem.head _))) rfl (List.nil_sublist _) ⟨rfl, _, rfl, nil_sk _⟩
  rw [bP_t h1] at v1
  rw [bP_t h2] at v2
  rw [if_pos ⟨h1, h2⟩]
  have l1 := h1.len
  have l2 := h2.len
  rw [List.length_map] at l1 l2
  (repeat (first | refine Jc ?_ | ((apply z_call; rfl; rfl; rfl; exact v1; rintro _ _ _ - ⟨rfl, rfl, rfl⟩)) | ((apply z_call; rfl; rfl; rfl; exact v2; rintro _ _ _ - ⟨rfl, rfl, rfl⟩)) | refine Jo ?_ | intro _))
  rename_i b2 b3 b4
  refine c_loop (fun m S' L F => Le S S' ∧ ∃ (i : Nat) (v : Value) (l : List PC), m = ys.length - i ∧ i ≤ ys.length ∧ ClV S' v l ∧ l = ((ys.map (·.p)).take i).foldl (putP (1)) (xs.map (·.p)) ∧ l.length ≤ xs.length + i ∧ (∀ p ∈ l, R44 p) ∧ L = [(b4, .cells [.slice none 0 0].toArray 24 (0, 0)), (b3, .cells [.slice B ys.length cb].toArray 24 (0, 0))] ∧
      F = [(3, .pointer (some ⟨b3, 0, none⟩)), (4, .pointer (some ⟨b4, 0, none⟩)), (6, v), (7, .int .i64 i)]) ⟨Le.refl _, 0, _, _, rfl, by omega, SkV.cl hA oka rfl rfl hca, rfl, by simp, fun p hp => R44_of (h1.each p hp), rfl, rfl⟩ sbF sbL ?_
  rintro m S' L F ⟨hle, i, v, l, rfl, hi, hcl, hlf, hll, hr, rfl, rfl⟩
  by_cases hlt : i < ys.length
  · obtain ⟨q, hq⟩ := at_lt' hlt
    have hqm : (ys.map (·.p))[i]? = some q.p := by rw [List.getElem?_map, hq]; rfl
    have hrq := R44_of (h2.each q.p (List.mem_of_getElem? hqm))
    have pc := rPut_con q (1) S' hcl ((okb q (List.mem_of_getElem? hq)).le hle) (by omega) hr hrq
    have hnl := putP_len (1) q.p l
    (repeat (first | refine Jc ?_ | (apply s_idx (hB.le hle); (case hg => rfl); (case hd => rfl); (case hx => rfl); (case hi => rfl); (case hm => rfl); (case hu => exact hq); intro p hp) | (apply s_load_ag; (case hg => rfl); (case hd => rfl); (case hx => rfl); (case hv => exact hp); (case hl => rfl)) | ((apply z_call; rfl; rfl; rfl; exact pc; rintro S2 _ v2' hle2 ⟨rfl, hcl2⟩)) | refine Jo ?_ | intro _))
    exact q_back (m' := ys.length - (i + 1)) ⟨hle.trans hle2, i + 1, v2', _, rfl, by omega, hcl2, by rw [take_at' hqm, List.foldl_append, ← hlf]; rfl, by omega, R44_put hrq hr, rfl, rfl⟩ (by omega) sbF sbL
  obtain rfl : i = ys.length := by omega
  rw [List.take_of_length_le (by rw [List.length_map]; omega)] at hlf
  have sc := rSketch_con S' hcl (by omega) hr
  rw [hlf] at sc
  (repeat (first | refine Jc ?_ | ((apply z_call; rfl; rfl; rfl; exact sc; rintro S2 _ _ hle2 ⟨rfl, v3, rfl, hsk⟩)) | refine Jo ?_ | intro _))
  obtain ⟨A3, n3, c3, rfl⟩ := hsk.form
  (repeat (first | refine Jz ?_ | intro _))
  exact o_ret_c2 (L' := []) (sz := 1) (cs := [.slice A3 n3 c3]) Tryd.results22 rfl rfl (by repeat (first | exact List.Mem.head _ | refine List.Mem.tail _ ?_ | exact List.mem_append_right _ (List.Mem.head _))) rfl (List.nil_sublist _) ⟨rfl, _, rfl, hsk⟩
set_option maxHeartbeats 1600000 in
theorem rSub_con {va vb : Value} {a b : List PC} (S : SH) (ha : SkC S va a) (hb : SkC S vb b) :
    Con Tryd.prog 24 #[va, vb] S [] (fun S' L' r => L' = [] ∧ ∃ v, r = .tuple #[v, .int .i64 (mergeR (-1) a b).2] ∧ SkV S' v (mergeR (-1) a b).1) := by
  obtain ⟨A, ca, xs, rfl, hca, hA, oka, la, rfl⟩ := ha
  obtain ⟨B, cb, ys, rfl, hcb, hB, okb, lb, rfl⟩ := hb
  refine con_of (args := [.agg [.slice A xs.length ca].toArray, .agg [.slice B ys.length cb].toArray]) Tryd.func24 rfl Tryd.ntmps24 rfl fun w => ?_
  have v1 := rValid_con xs A ca S hA oka (by omega)
  have v2 := rValid_con ys B cb S hB okb (by omega)
  unfold mergeR
  by_cases h1 : ValidP (xs.map (·.p))
  rotate_left
  · rw [bP_f h1] at v1
    rw [if_neg (fun h => h1 h.1)]
    (repeat (first | refine Jc ?_ | (apply s_evb; (case hg => rfl); (case hd => rfl); (case hn => rfl); (case he => (apply ev_buildS; (case hp => rfl); (case hz => rfl); (case h1 => rfl); (case hr => rfl)))) | ((apply z_call; rfl; rfl; rfl; exact v1; rintro _ _ _ - ⟨rfl, rfl, rfl⟩)) | refine Jo ?_ | intro _))
    exact o_ret_c2 (L' := []) (sz := 1) (cs := [.slice none 0 0]) Tryd.results24 rfl rfl (by repeat (first | exact List.Mem.head _ | refine List.Mem.tail _ ?_ | exact List.mem_append_right _ (List.Mem.head _))) rfl (List.nil_sublist _) ⟨rfl, _, rfl, nil_sk _⟩
  by_cases h2 : ValidP (ys.map (·.p))
  rotate_left
  · rw [bP_t h1] at v1
    rw [bP_f h2] at v2
    rw [if_neg (fun h => h2 h.2)]
    (repeat (first | refine Jc ?_ | (apply s_evb; (case hg => rfl); (case hd => rfl); (case hn => rfl); (case he => (apply ev_buildS; (case hp => rfl); (case hz => rfl); (case h1 => rfl); (case hr => rfl)))) | ((apply z_call; rfl; rfl; rfl; exact v1; rintro _ _ _ - ⟨rfl, rfl, rfl⟩)) | ((apply z_call; rfl; rfl; rfl; exact v2; rintro _ _ _ - ⟨rfl, rfl, rfl⟩)) | refine Jo ?_ | intro _))
    exact o_ret_c2 (L' := []) (sz := 1) (cs := [.slice none 0 0]) Tryd.results24 rfl rfl (by repeat (first | exact List.Mem.head _ | refine List.Mem.tail _ ?_ | exact List.mem_append_right _ (List.Mem.head _))) rfl (List.nil_sublist _) ⟨rfl, _, rfl, nil_sk _⟩
  rw [bP_t h1] at v1
  rw [bP_t h2] at v2
  rw [if_pos ⟨h1, h2⟩]
  have l1 := h1.len
  have l2 := h2.len
  rw [List.length_map] at l1 l2
  (repeat (first | refine Jc ?_ | ((apply z_call; rfl; rfl; rfl; exact v1; rintro _ _ _ - ⟨rfl, rfl, rfl⟩)) | ((apply z_call; rfl; rfl; rfl; exact v2; rintro _ _ _ - ⟨rfl, rfl, rfl⟩)) | refine Jo ?_ | intro _))
  rename_i b2 b3 b4
  refine c_loop (fun m S' L F => Le S S' ∧ ∃ (i : Nat) (v : Value) (l : List PC), m = ys.length - i ∧ i ≤ ys.length ∧ ClV S' v l ∧ l = ((ys.map (·.p)).take i).foldl (putP (-1)) (xs.map (·.p)) ∧ l.length ≤ xs.length + i ∧ (∀ p ∈ l, R44 p) ∧ L = [(b4, .cells [.slice none 0 0].toArray 24 (0, 0)), (b3, .cells [.slice B ys.length cb].toArray 24 (0, 0))] ∧
      F = [(3, .pointer (some ⟨b3, 0, none⟩)), (4, .pointer (some ⟨b4, 0, none⟩)), (6, v), (7, .int .i64 i)]) ⟨Le.refl _, 0, _, _, rfl, by omega, SkV.cl hA oka rfl rfl hca, rfl, by simp, fun p hp => R44_of (h1.each p hp), rfl, rfl⟩ sbF sbL ?_
  rintro m S' L F ⟨hle, i, v, l, rfl, hi, hcl, hlf, hll, hr, rfl, rfl⟩
  by_cases hlt : i < ys.length
  · obtain ⟨q, hq⟩ := at_lt' hlt
    have hqm : (ys.map (·.p))[i]? = some q.p := by rw [List.getElem?_map, hq]; rfl
    have hrq := R44_of (h2.each q.p (List.mem_of_getElem? hqm))
    have pc := rPut_con q (-1) S' hcl ((okb q (List.mem_of_getElem? hq)).le hle) (by omega) hr hrq
    have hnl := putP_len (-1) q.p l
    (repeat (first | refine Jc ?_ | (apply s_idx (hB.le hle); (case hg => rfl); (case hd => rfl); (case hx => rfl); (case hi => rfl); (case hm => rfl); (case hu => exact hq); intro p hp) | (apply s_load_ag; (case hg => rfl); (case hd => rfl); (case hx => rfl); (case hv => exact hp); (case hl => rfl)) | ((apply z_call; rfl; rfl; rfl; exact pc; rintro S2 _ v2' hle2 ⟨rfl, hcl2⟩)) | refine Jo ?_ | intro _))
    exact q_back (m' := ys.length - (i + 1)) ⟨hle.trans hle2, i + 1, v2', _, rfl, by omega, hcl2, by rw [take_at' hqm, List.foldl_append, ← hlf]; rfl, by omega, R44_put hrq hr, rfl, rfl⟩ (by omega) sbF sbL
  obtain rfl : i = ys.length := by omega
  rw [List.take_of_length_le (by rw [List.length_map]; omega)] at hlf
  have sc := rSketch_con S' hcl (by omega) hr
  rw [hlf] at sc
  (repeat (first | refine Jc ?_ | ((apply z_call; rfl; rfl; rfl; exact sc; rintro S2 _ _ hle2 ⟨rfl, v3, rfl, hsk⟩)) | refine Jo ?_ | intro _))
  obtain ⟨A3, n3, c3, rfl⟩ := hsk.form
  (repeat (first | refine Jz ?_ | intro _))
  exact o_ret_c2 (L' := []) (sz := 1) (cs := [.slice A3 n3 c3]) Tryd.results24 rfl rfl (by repeat (first | exact List.Mem.head _ | refine List.Mem.tail _ ?_ | exact List.mem_append_right _ (List.Mem.head _))) rfl (List.nil_sublist _) ⟨rfl, _, rfl, hsk⟩
end Go.Proofs.YtogfficbloejcaaDoor
namespace Go.Proofs.YtogfficbloejcaaDoor
open Go Go.X
set_option maxRecDepth 10000
set_option linter.unusedVariables false
attribute [local irreducible] Code.wpIn wpListIn Exit.then Exit.inBlock X.Out X.Back X.W X.Ev X.Con X.BinV X.Wh X.Wn X.Wq
noncomputable def makeR (l : List Fa) : List PC × Int := by classical exact if l.length ≤ 400 ∧ ∀ x ∈ l, FactP x then skOf (kept (mP 1 [] (l.map oneP))) else ([], 170)
theorem R44_one (x : Fa) : R44 (oneP x) := ⟨unitL_len _, unitL_len _⟩
set_option maxHeartbeats 3200000 in
theorem rMakeC_con (l : List Fa) (A : Option Addr) (c : Nat) (S : SH) (hA : At S A l) (hl : l.length ≤ 1000000) :
    Con Tryd.prog 17 #[.slice A l.length c] S [] (fun S' L' r => L' = [] ∧ ∃ v, r = .tuple #[v, .int .i64 (makeR l).2] ∧ SkC S' v (makeR l).1) := by
  refine con_of (args := [.slice A l.length c]) Tryd.func17 rfl Tryd.ntmps17 rfl fun w => ?_
  unfold makeR
  by_cases h4 : l.length ≤ 400
  rotate_left
  · rw [if_neg (fun h => h4 h.1)]
    (repeat (first | refine Jc ?_ | (apply s_evb; (case hg => rfl); (case hd => rfl); (case hn => rfl); (case he => (apply ev_buildS; (case hp => rfl); (case hz => rfl); (case h1 => rfl); (case hr => rfl)))) | refine Jo ?_ | intro _))
    exact o_ret_c2 (L' := []) (sz := 1) (cs := [.slice none 0 0]) Tryd.results17 rfl rfl (by repeat (first | exact List.Mem.head _ | refine List.Mem.tail _ ?_ | exact List.mem_append_right _ (List.Mem.head _))) rfl (List.nil_sublist _) ⟨rfl, _, rfl, nil_skc _⟩
  (repeat (first | refine Jz ?_ | intro _))
  rename_i b2
  refine c_loop (fun m S' L F => Le S S' ∧ ∃ (i : Nat) (v : Value) (cl : List PC), m = l.length - i ∧ i ≤ l.length ∧ (∀ x ∈ l.take i, FactP x) ∧ ClV S' v cl ∧ cl = mP 1 [] ((l.take i).map oneP) ∧ cl.length ≤ i ∧ (∀ p ∈ cl, R44 p) ∧ L = [(b2, .cells [.slice none 0 0].toArray 24 (0, 0))] ∧
      F = [(0, .slice A l.length c), (2, .pointer (some ⟨b2, 0, none⟩)), (4, v), (5, .int .i64 i)]) ⟨Le.refl _, 0, _, [], rfl, by omega, by simp, ⟨none, 0, [], rfl, by simp, At.nil _ _, fun q hq => absurd hq List.not_mem_nil, rfl⟩, rfl, by simp, fun p hp => absurd hp List.not_mem_nil, rfl, rfl⟩ sbF sbL ?_
  rintro m S' L F ⟨hle, i, v, cl, rfl, hi, hall, hcl, hclm, hcll, hr, rfl, rfl⟩
  by_cases hlt : i < l.length
  rotate_left
  · obtain rfl : i = l.length := by omega
    rw [List.take_length] at hall hclm
    rw [if_pos ⟨h4, hall⟩, ← hclm]
    have sc := rSketchC_con S' hcl (by omega) hr
    (repeat (first | refine Jc ?_ | ((apply z_call; rfl; rfl; rfl; exact sc; rintro S2 _ _ hle2 ⟨rfl, v3, rfl, hsk⟩)) | refine Jo ?_ | intro _))
    obtain ⟨A3, n3, c3, rfl⟩ := hsk.sk.form
    (repeat (first | refine Jz ?_ | intro _))
    exact o_ret_c2 (L' := []) (sz := 1) (cs := [.slice A3 n3 c3]) Tryd.results17 rfl rfl (by repeat (first | exact List.Mem.head _ | refine List.Mem.tail _ ?_ | exact List.mem_append_right _ (List.Mem.head _))) rfl (List.nil_sublist _) ⟨rfl, _, rfl, hsk⟩
  obtain ⟨x, hx⟩ := at_lt' hlt
  have vf := rValidFact_con x S'
  by_cases hf : FactP x
  rotate_left
  · rw [bP_f hf] at vf
    rw [if_neg (fun h => hf (h.2 x (List.mem_of_getElem? hx)))]
    (repeat (first | refine Jc ?_ | (apply s_evb; (case hg => rfl); (case hd => rfl); (case hn => rfl); (case he => (apply ev_buildS; (case hp => rfl); (case hz => rfl); (case h1 => rfl); (case hr => rfl)))) | (apply s_idx (hA.le hle); (case hg => rfl); (case hd => rfl); (case hx => rfl); (case hi => rfl); (case hm => rfl); (case hu => exact hx); intro p hp) | (apply s_load_ag; (case hg => rfl); (case hd => rfl); (case hx => rfl); (case hv => exact hp); (case hl => rfl)) | ((apply z_call; rfl; rfl; rfl; exact vf; rintro _ _ _ - ⟨rfl, rfl, rfl⟩)) | refine Jo ?_ | intro _))
    exact o_ret_c2 (L' := []) (sz := 1) (cs := [.slice none 0 0]) Tryd.results17 rfl rfl (by repeat (first | exact List.Mem.head _ | refine List.Mem.tail _ ?_ | exact List.mem_append_right _ (List.Mem.head _))) rfl (List.nil_sublist _) ⟨rfl, _, rfl, nil_skc _⟩
  rw [bP_t hf] at vf
  have hlo := hf.lo1
  have hhi := hf.hi1
  obtain ⟨nl, hnl, hnl4⟩ := bucket_nat (d := x.lo) (by omega)
  obtain ⟨nh, hnh, hnh4⟩ := bucket_nat (d := x.hi) (by omega)
  have hbl : ∀ S, Con Tryd.prog 14 #[.int .i64 x.lo] S [] (Pure S (.int .i64 (nl : Int))) := fun S => hnl ▸ rBucket_con x.lo S
  have hbh : ∀ S, Con Tryd.prog 14 #[.int .i64 x.hi] S [] (Pure S (.int .i64 (nh : Int))) := fun S => hnh ▸ rBucket_con x.hi S
  have hone : oneP x = ⟨x.sv, x.ve, x.op, x.dy, ⟨1, x.lo, x.hi, x.by_, unitL nl, unitL nh⟩⟩ := by rw [oneP, hnl, hnh]
  have hr1 := R44_one x
  have htk : mP 1 [] ((l.take (i + 1)).map oneP) = putP 1 cl (oneP x) := by
    rw [take_at' hx, List.map_append, mP, List.foldl_append, hclm]; rfl
  have hall' : ∀ y ∈ l.take (i + 1), FactP y := by
    intro y hy
    rw [take_at' hx] at hy
    rcases List.mem_append.1 hy with hy | hy
    · exact hall y hy
    · rw [List.mem_singleton.1 hy]; exact hf
  rw [hone] at htk hr1
  obtain ⟨tr, sp, sv, ve, op, pe, dy, lo, hi', bb⟩ := x
  unfold Fa.vals at vf
  dsimp only at *
  have he := rEmpty_con (⟨⟨sv, ve, op, dy, ⟨0, 0, 0, 0, [], []⟩⟩, none, 0, none, 0⟩ : Ce) S'
  (repeat (first | refine Jc ?_ | (apply s_evb; (case hg => rfl); (case hd => rfl); (case hn => rfl); (case he => (apply ev_buildS; (case hp => rfl); (case hz => rfl); (case h1 => rfl); (case hr => rfl)))) | (apply s_idx (hA.le hle); (case hg => rfl); (case hd => rfl); (case hx => rfl); (case hi => rfl); (case hm => rfl); (case hu => exact hx); intro p (hp : Pts _ p [.int .i64 tr, .int .i64 sp, .int .i64 sv, .int .i64 ve, .int .i64 op, .int .i64 pe, .int .i64 dy, .int .i64 lo, .int .i64 hi', .int .i64 bb])) | (apply s_load_ag; (case hg => rfl); (case hd => rfl); (case hx => rfl); (case hv => exact hp); (case hl => rfl)) | ((apply z_call; rfl; rfl; rfl; exact vf; rintro _ _ _ - ⟨rfl, rfl, rfl⟩)) | ((apply z_call; rfl; rfl; rfl; exact he; rintro S2 L2 v2 - ⟨rfl, el, eh, rfl, rfl⟩)) | refine Jo ?_ | intro _))
  rename_i bx bc
  refine W.perm (L' := [(bc, .cells [.int .i64 sv, .int .i64 ve, .int .i64 op, .int .i64 dy, .int .i64 1, .int .i64 lo, .int .i64 hi', .int .i64 bb, .slice (some ⟨el, 0, none⟩) 44 44, .slice (some ⟨eh, 0, none⟩) 44 44].toArray 45 (0, 0)), (el, .cells (ints (fun _ => 0) 44).toArray 3 (0, 0)), (eh, .cells (ints (fun _ => 0) 44).toArray 3 (0, 0)), (bx, .cells [.int .i64 tr, .int .i64 sp, .int .i64 sv, .int .i64 ve, .int .i64 op, .int .i64 pe, .int .i64 dy, .int .i64 lo, .int .i64 hi', .int .i64 bb].toArray 27 (0, 0)), (b2, .cells [.slice none 0 0].toArray 24 (0, 0))]) ?_ (List.Perm.refl _)
  ((apply c_held ([(bc, .cells [.int .i64 sv, .int .i64 ve, .int .i64 op, .int .i64 dy, .int .i64 1, .int .i64 lo, .int .i64 hi', .int .i64 bb, .slice (some ⟨el, 0, none⟩) 44 44, .slice (some ⟨eh, 0, none⟩) 44 44].toArray 45 (0, 0)), (eh, .cells (ints (fun _ => 0) 44).toArray 3 (0, 0)), (bx, .cells [.int .i64 tr, .int .i64 sp, .int .i64 sv, .int .i64 ve, .int .i64 op, .int .i64 pe, .int .i64 dy, .int .i64 lo, .int .i64 hi', .int .i64 bb].toArray 27 (0, 0)), (b2, .cells [.slice none 0 0].toArray 24 (0, 0))]); (case hL => (exact sbT))); (first | (apply h_first 0; (case hi => rfl); (case hr => kernel_rfl); (case hfr => kernel_rfl); (case hsel => kernel_rfl); (case hg => rfl); (case hd => rfl); (case he => (apply ev_idxo1; (case hx => rfl); (case hi => rfl); (case hk => omega)))) | refine Jf 0 ?_); (first | (apply h_first 1; (case hi => rfl); (case hr => kernel_rfl); (case hfr => kernel_rfl); (case hsel => kernel_rfl); (case hg => rfl); (case hd => rfl); (case he => (apply ev_idxo1; (case hx => rfl); (case hi => rfl); (case hk => omega)))) | refine Jf 1 ?_); (first | (apply h_first 2; (case hi => rfl); (case hr => kernel_rfl); (case hfr => kernel_rfl); (case hsel => kernel_rfl); (case hg => rfl); (case hd => rfl); (case he => (apply ev_idxo1; (case hx => rfl); (case hi => rfl); (case hk => omega)))) | refine Jf 2 ?_); (first | (apply h_first 3; (case hi => rfl); (case hr => kernel_rfl); (case hfr => kernel_rfl); (case hsel => kernel_rfl); (case hg => rfl); (case hd => rfl); (case he => (apply ev_idxo1; (case hx => rfl); (case hi => rfl); (case hk => omega)))) | refine Jf 3 ?_); (apply h_one 4; (case hr => kernel_rfl)); (first | (apply n_call; (case hi => rfl); (case i1 => infer_instance); (case hg => rfl); (case hd => rfl); (case ha => rfl); (case hc => exact hbl _); (case hL => (exact pmT)); (case hsub => (intros; (exact sbT))); rintro _ _ _ - ⟨rfl, rfl, rfl⟩) | (apply n_ev; (case hi => rfl); (case hg => rfl); (case hd => rfl); (case he => (apply ev_load_own; (case hx => rfl); (case hm => (repeat (first | exact List.Mem.head _ | apply List.Mem.tail | apply List.mem_append_right))); (case h => exact ints_nth _ _ nl (by omega))))) | (apply n_store; (case hi => rfl); (case i1 => infer_instance); (case hg => rfl); (case hx => rfl); (case hy => rfl); (case h1 => rfl); (case hL => (repeat (first | exact Upd.head | apply Upd.tail | apply Upd.app))); (case hu => exact ints_nth _ _ nl (by omega)); (case hsub => (intro _; exact sbL))) | (refine Jn ?_; try intro _)); (first | (apply h_first 5; (case hi => rfl); (case hr => kernel_rfl); (case hfr => kernel_rfl); (case hsel => kernel_rfl); (case hg => rfl); (case hd => rfl); (case he => (apply ev_idxo1; (case hx => rfl); (case hi => rfl); (case hk => omega)))) | refine Jf 5 ?_); (apply h_one 6; (case hr => kernel_rfl)); (first | (apply n_call; (case hi => rfl); (case i1 => infer_instance); (case hg => rfl); (case hd => rfl); (case ha => rfl); (case hc => exact hbl _); (case hL => (exact pmT)); (case hsub => (intros; (exact sbT))); rintro _ _ _ - ⟨rfl, rfl, rfl⟩) | (apply n_ev; (case hi => rfl); (case hg => rfl); (case hd => rfl); (case he => (apply ev_load_own; (case hx => rfl); (case hm => (repeat (first | exact List.Mem.head _ | apply List.Mem.tail | apply List.mem_append_right))); (case h => exact ints_nth _ _ nl (by omega))))) | (apply n_store; (case hi => rfl); (case i1 => infer_instance); (case hg => rfl); (case hx => rfl); (case hy => rfl); (case h1 => rfl); (case hL => (repeat (first | exact Upd.head | apply Upd.tail | apply Upd.app))); (case hu => exact ints_nth _ _ nl (by omega)); (case hsub => (intro _; exact sbL))) | (refine Jn ?_; try intro _)); (first | (apply h_first 7; (case hi => rfl); (case hr => kernel_rfl); (case hfr => kernel_rfl); (case hsel => kernel_rfl); (case hg => rfl); (case hd => rfl); (case he => (apply ev_idxo1; (case hx => rfl); (case hi => rfl); (case hk => omega)))) | refine Jf 7 ?_); (first | (apply h_first 8; (case hi => rfl); (case hr => kernel_rfl); (case hfr => kernel_rfl); (case hsel => kernel_rfl); (case hg => rfl); (case hd => rfl); (case he => (apply ev_idxo1; (case hx => rfl); (case hi => rfl); (case hk => omega)))) | refine Jf 8 ?_); (apply h_one 9; (case hr => kernel_rfl)); (first | (apply n_call; (case hi => rfl); (case i1 => infer_instance); (case hg => rfl); (case hd => rfl); (case ha => rfl); (case hc => exact hbl _); (case hL => (exact pmT)); (case hsub => (intros; (exact sbT))); rintro _ _ _ - ⟨rfl, rfl, rfl⟩) | (apply n_ev; (case hi => rfl); (case hg => rfl); (case hd => rfl); (case he => (apply ev_load_own; (case hx => rfl); (case hm => (repeat (first | exact List.Mem.head _ | apply List.Mem.tail | apply List.mem_append_right))); (case h => exact ints_nth _ _ nl (by omega))))) | (apply n_store; (case hi => rfl); (case i1 => infer_instance); (case hg => rfl); (case hx => rfl); (case hy => rfl); (case h1 => rfl); (case hL => (repeat (first | exact Upd.head | apply Upd.tail | apply Upd.app))); (case hu => exact ints_nth _ _ nl (by omega)); (case hsub => (intro _; exact sbL))) | (refine Jn ?_; try intro _)); (apply h_end; (case hr => kernel_rfl)))
  rw [ints_set]
  (repeat (first | refine Jz ?_ | intro _))
  ((apply c_held ([(bc, .cells [.int .i64 sv, .int .i64 ve, .int .i64 op, .int .i64 dy, .int .i64 1, .int .i64 lo, .int .i64 hi', .int .i64 bb, .slice (some ⟨el, 0, none⟩) 44 44, .slice (some ⟨eh, 0, none⟩) 44 44].toArray 45 (0, 0)), (el, .cells (ints (fun i => if i = nl then 0 + 1 else 0) 44).toArray 3 (0, 0)), (bx, .cells [.int .i64 tr, .int .i64 sp, .int .i64 sv, .int .i64 ve, .int .i64 op, .int .i64 pe, .int .i64 dy, .int .i64 lo, .int .i64 hi', .int .i64 bb].toArray 27 (0, 0)), (b2, .cells [.slice none 0 0].toArray 24 (0, 0))]); (case hL => (exact sbT))); (first | (apply h_first 0; (case hi => rfl); (case hr => kernel_rfl); (case hfr => kernel_rfl); (case hsel => kernel_rfl); (case hg => rfl); (case hd => rfl); (case he => (apply ev_idxo1; (case hx => rfl); (case hi => rfl); (case hk => omega)))) | refine Jf 0 ?_); (first | (apply h_first 1; (case hi => rfl); (case hr => kernel_rfl); (case hfr => kernel_rfl); (case hsel => kernel_rfl); (case hg => rfl); (case hd => rfl); (case he => (apply ev_idxo1; (case hx => rfl); (case hi => rfl); (case hk => omega)))) | refine Jf 1 ?_); (first | (apply h_first 2; (case hi => rfl); (case hr => kernel_rfl); (case hfr => kernel_rfl); (case hsel => kernel_rfl); (case hg => rfl); (case hd => rfl); (case he => (apply ev_idxo1; (case hx => rfl); (case hi => rfl); (case hk => omega)))) | refine Jf 2 ?_); (first | (apply h_first 3; (case hi => rfl); (case hr => kernel_rfl); (case hfr => kernel_rfl); (case hsel => kernel_rfl); (case hg => rfl); (case hd => rfl); (case he => (apply ev_idxo1; (case hx => rfl); (case hi => rfl); (case hk => omega)))) | refine Jf 3 ?_); (apply h_one 4; (case hr => kernel_rfl)); (first | (apply n_call; (case hi => rfl); (case i1 => infer_instance); (case hg => rfl); (case hd => rfl); (case ha => rfl); (case hc => exact hbh _); (case hL => (exact pmT)); (case hsub => (intros; (exact sbT))); rintro _ _ _ - ⟨rfl, rfl, rfl⟩) | (apply n_ev; (case hi => rfl); (case hg => rfl); (case hd => rfl); (case he => (apply ev_load_own; (case hx => rfl); (case hm => (repeat (first | exact List.Mem.head _ | apply List.Mem.tail | apply List.mem_append_right))); (case h => exact ints_nth _ _ nh (by omega))))) | (apply n_store; (case hi => rfl); (case i1 => infer_instance); (case hg => rfl); (case hx => rfl); (case hy => rfl); (case h1 => rfl); (case hL => (repeat (first | exact Upd.head | apply Upd.tail | apply Upd.app))); (case hu => exact ints_nth _ _ nh (by omega)); (case hsub => (intro _; exact sbL))) | (refine Jn ?_; try intro _)); (first | (apply h_first 5; (case hi => rfl); (case hr => kernel_rfl); (case hfr => kernel_rfl); (case hsel => kernel_rfl); (case hg => rfl); (case hd => rfl); (case he => (apply ev_idxo1; (case hx => rfl); (case hi => rfl); (case hk => omega)))) | refine Jf 5 ?_); (apply h_one 6; (case hr => kernel_rfl)); (first | (apply n_call; (case hi => rfl); (case i1 => infer_instance); (case hg => rfl); (case hd => rfl); (case ha => rfl); (case hc => exact hbh _); (case hL => (exact pmT)); (case hsub => (intros; (exact sbT))); rintro _ _ _ - ⟨rfl, rfl, rfl⟩) | (apply n_ev; (case hi => rfl); (case hg => rfl); (case hd => rfl); (case he => (apply ev_load_own; (case hx => rfl); (case hm => (repeat (first | exact List.Mem.head _ | apply List.Mem.tail | apply List.mem_append_right))); (case h => exact ints_nth _ _ nh (by omega))))) | (apply n_store; (case hi => rfl); (case i1 => infer_instance); (case hg => rfl); (case hx => rfl); (case hy => rfl); (case h1 => rfl); (case hL => (repeat (first | exact Upd.head | apply Upd.tail | apply Upd.app))); (case hu => exact ints_nth _ _ nh (by omega)); (case hsub => (intro _; exact sbL))) | (refine Jn ?_; try intro _)); (first | (apply h_first 7; (case hi => rfl); (case hr => kernel_rfl); (case hfr => kernel_rfl); (case hsel => kernel_rfl); (case hg => rfl); (case hd => rfl); (case he => (apply ev_idxo1; (case hx => rfl); (case hi => rfl); (case hk => omega)))) | refine Jf 7 ?_); (first | (apply h_first 8; (case hi => rfl); (case hr => kernel_rfl); (case hfr => kernel_rfl); (case hsel => kernel_rfl); (case hg => rfl); (case hd => rfl); (case he => (apply ev_idxo1; (case hx => rfl); (case hi => rfl); (case hk => omega)))) | refine Jf 8 ?_); (apply h_one 9; (case hr => kernel_rfl)); (first | (apply n_call; (case hi => rfl); (case i1 => infer_instance); (case hg => rfl); (case hd => rfl); (case ha => rfl); (case hc => exact hbh _); (case hL => (exact pmT)); (case hsub => (intros; (exact sbT))); rintro _ _ _ - ⟨rfl, rfl, rfl⟩) | (apply n_ev; (case hi => rfl); (case hg => rfl); (case hd => rfl); (case he => (apply ev_load_own; (case hx => rfl); (case hm => (repeat (first | exact List.Mem.head _ | apply List.Mem.tail | apply List.mem_append_right))); (case h => exact ints_nth _ _ nh (by omega))))) | (apply n_store; (case hi => rfl); (case i1 => infer_instance); (case hg => rfl); (case hx => rfl); (case hy => rfl); (case h1 => rfl); (case hL => (repeat (first | exact Upd.head | apply Upd.tail | apply Upd.app))); (case hu => exact ints_nth _ _ nh (by omega)); (case hsub => (intro _; exact sbL))) | (refine Jn ?_; try intro _)); (apply h_end; (case hr => kernel_rfl)))
  rw [ints_set]
  refine W.perm ?_ ((List.Perm.swap _ _ _).trans ((List.Perm.swap _ _ _).cons _))
  refine W.freeze fun S3 h3 hb3 => W.freeze fun S4 h4' hb4 => ?_
  have e1 := unitL_len (nl : Int)
  have e2 := unitL_len (nh : Int)
  have hq : (⟨⟨sv, ve, op, dy, ⟨1, lo, hi', bb, unitL nl, unitL nh⟩⟩, some ⟨el, 0, none⟩, 44, some ⟨eh, 0, none⟩, 44⟩ : Ce).vals = [.int .i64 sv, .int .i64 ve, .int .i64 op, .int .i64 dy, .int .i64 1, .int .i64 lo, .int .i64 hi', .int .i64 bb, .slice (some ⟨el, 0, none⟩) 44 44, .slice (some ⟨eh, 0, none⟩) 44 44] := by
    simp only [Ce.vals, e1, e2]
  have hok : (⟨⟨sv, ve, op, dy, ⟨1, lo, hi', bb, unitL nl, unitL nh⟩⟩, some ⟨el, 0, none⟩, 44, some ⟨eh, 0, none⟩, 44⟩ : Ce).ok S4 :=
    ⟨at_unit (h4' _ _ hb3), at_unit hb4, Nat.le_of_eq e1, Nat.le_of_eq e2, by simp only [e1]; decide, by simp only [e2]; decide⟩
  have pc := rPut_con (⟨⟨sv, ve, op, dy, ⟨1, lo, hi', bb, unitL nl, unitL nh⟩⟩, some ⟨el, 0, none⟩, 44, some ⟨eh, 0, none⟩, 44⟩ : Ce) 1 S4 (hcl.le (h3.trans h4')) hok (by omega) hr hr1
  rw [hq] at pc
  have hpl := putP_len 1 ⟨sv, ve, op, dy, ⟨1, lo, hi', bb, unitL nl, unitL nh⟩⟩ cl
  (repeat (first | refine Jc ?_ | ((apply z_call; rfl; rfl; rfl; exact pc; rintro S5 _ v5 hle5 ⟨rfl, hcl5⟩)) | refine Jo ?_ | intro _))
  exact q_back (m' := l.length - (i + 1)) ⟨((hle.trans h3).trans h4').trans hle5, i + 1, v5, _, rfl, by omega, hall', hcl5, htk.symm, Nat.le_trans hpl (by omega), R44_put hr1 hr, rfl, rfl⟩ (by omega) sbF sbL
theorem rMake_con (l : List Fa) (A : Option Addr) (c : Nat) (S : SH) (hA : At S A l) (hl : l.length ≤ 1000000) :
    Con Tryd.prog 17 #[.slice A l.length c] S [] (fun S' L' r => L' = [] ∧ ∃ v, r = .tuple #[v, .int .i64 (makeR l).2] ∧ SkV S' v (makeR l).1) :=
  (rMakeC_con l A c S hA hl).mono fun S' L' r _ ⟨h1, v, h2, h3⟩ => ⟨h1, v, h2, h3.sk⟩
end Go.Proofs.YtogfficbloejcaaDoor
namespace Go.Proofs.YtogfficbloejcaaDoor
open Go Go.X
set_option maxRecDepth 10000
set_option linter.unusedVariables false
attribute [local irreducible] Code.wpIn wpListIn Exit.then Exit.inBlock X.Out X.Back X.W X.Ev X.Con X.BinV X.Wh X.Wn X.Wq
def rawOk (S : SH) (q : Ce) : Prop := At S q.la q.p.x.ls ∧ At S q.ha q.p.x.hs ∧ q.p.x.ls.length ≤ q.lc ∧ q.p.x.hs.length ≤ q.hc
theorem rawOk.le {S T : SH} {q : Ce} (h : rawOk S q) (k : Le S T) : rawOk T q := ⟨h.1.le k, h.2.1.le k, h.2.2⟩
theorem valid_nil : ValidP [] := ⟨fun c hc => absurd hc List.not_mem_nil, fun i a b h => by simp at h, by simp⟩
set_option maxHeartbeats 1600000 in
theorem fewC_con (raw : List Ce) (A : Option Addr) (c : Nat) (S : SH) (hA : At S A raw) (hr : ∀ q ∈ raw, rawOk S q) :
    Con Tryd.prog 19 #[.agg #[.slice A raw.length c]] S [] (fun S' L' v => L' = [] ∧ ∃ l, SkC S' v l) := by
  refine con_of (args := [.agg [.slice A raw.length c].toArray]) Tryd.func19 rfl Tryd.ntmps19 rfl fun w => ?_
  (repeat (first | refine Jc ?_ | (apply s_evb; (case hg => rfl); (case hd => rfl); (case hn => rfl); (case he => (apply ev_buildS; (case hp => rfl); (case hz => rfl); (case h1 => rfl); (case hr => rfl)))) | refine Jo ?_ | intro _))
  rename_i b1 b2 b3
  refine c_loop (fun m S' L F => S' = S ∧ ∃ (i : Nat) (lc : List Ce) (pv : Value) (ob : Blocks), m = raw.length - i ∧ i ≤ raw.length ∧ i ≤ 6 ∧ Ows 45 pv lc ob ∧ (∀ q ∈ lc, q.ok S) ∧ lc.length = i ∧ L = ob ++ [(b3, .cells [pv].toArray 24 (0, 0)), (b2, .cells [.slice none 0 0].toArray 24 (0, 0)), (b1, .cells [.slice A raw.length c].toArray 24 (0, 0))] ∧
      F = [(1, .pointer (some ⟨b1, 0, none⟩)), (2, .pointer (some ⟨b2, 0, none⟩)), (3, .pointer (some ⟨b3, 0, none⟩)), (4, .int .i64 i)]) ⟨rfl, 0, [], .slice none 0 0, [], rfl, by omega, by omega, Ows.nil 45, fun q hq => absurd hq List.not_mem_nil, rfl, rfl, rfl⟩ sbF (List.Sublist.refl _) ?_
  rintro m S' L F ⟨rfl, i, lc, pv, ob, rfl, hi, hi6, hob, hok, hlc, rfl, rfl⟩
  by_cases hlt : i < raw.length
  rotate_left
  · (repeat (first | refine Jz ?_ | intro _))
    refine W.freezeOws hob (by repeat (first | exact pm_nil _ | exact pm_refl _ _ | exact pm_self _ | refine pm_cons ?_ | refine pm_app ?_)) fun S2 hle2 hsr => ?_
    obtain ⟨A2, c2, rfl, hc2, hA2⟩ := hsr
    (repeat (first | refine Jz ?_ | intro _))
    exact o_ret_cell (L' := []) (sz := 1) (cs := [.slice A2 lc.length c2]) Tryd.results19 rfl (by repeat (first | exact List.Mem.head _ | refine List.Mem.tail _ ?_ | exact List.mem_append_right _ (List.Mem.head _))) rfl (List.nil_sublist _) ⟨rfl, _, ⟨A2, c2, lc, rfl, hc2, hA2, fun q hq => (hok q hq).le hle2, by omega, rfl⟩⟩
  by_cases hlt6 : i < 6
  rotate_left
  · (repeat (first | refine Jz ?_ | intro _))
    refine W.freezeOws hob (by repeat (first | exact pm_nil _ | exact pm_refl _ _ | exact pm_self _ | refine pm_cons ?_ | refine pm_app ?_)) fun S2 hle2 hsr => ?_
    obtain ⟨A2, c2, rfl, hc2, hA2⟩ := hsr
    (repeat (first | refine Jz ?_ | intro _))
    exact o_ret_cell (L' := []) (sz := 1) (cs := [.slice A2 lc.length c2]) Tryd.results19 rfl (by repeat (first | exact List.Mem.head _ | refine List.Mem.tail _ ?_ | exact List.mem_append_right _ (List.Mem.head _))) rfl (List.nil_sublist _) ⟨rfl, _, ⟨A2, c2, lc, rfl, hc2, hA2, fun q hq => (hok q hq).le hle2, by omega, rfl⟩⟩
  obtain ⟨q, hq⟩ := at_lt' hlt
  have hqok := hr q (List.mem_of_getElem? hq)
  obtain ⟨⟨ps, pv', po, pd, ⟨xn, xl, xh, xb, xls, xhs⟩⟩, qla, qlc, qha, qhc⟩ := q
  obtain ⟨q1, q2, q3, q4⟩ := hqok
  dsimp only at q1 q2 q3 q4
  (repeat (first | refine Jc ?_ | (apply s_idx hA; (case hg => rfl); (case hd => rfl); (case hx => rfl); (case hi => rfl); (case hm => rfl); (case hu => exact hq); intro p (hp : Pts _ p [.int .i64 ps, .int .i64 pv', .int .i64 po, .int .i64 pd, .int .i64 xn, .int .i64 xl, .int .i64 xh, .int .i64 xb, .slice qla xls.length qlc, .slice qha xhs.length qhc])) | (apply s_load_ag; (case hg => rfl); (case hd => rfl); (case hx => rfl); (case hv => exact hp); (case hl => rfl)) | (apply s_minn (j := 45); (case hg => rfl); (case hd => rfl); (case hx => rfl); (case hy => rfl)) | (apply s_slice_hi q1; (case hg => rfl); (case hd => rfl); (case hx => rfl); (case hy => rfl); (case hm => rfl); (case hmc => exact q3); (case hj => omega); intro A1 hA1) | (apply s_slice_hi q2; (case hg => rfl); (case hd => rfl); (case hx => rfl); (case hy => rfl); (case hm => rfl); (case hmc => exact q4); (case hj => omega); intro A2 hA2) | refine Jo ?_ | intro _))
  obtain ⟨cc, hcc⟩ : ∃ cc : Ce, cc = ⟨⟨ps, pv', po, pd, ⟨xn, xl, xh, xb, xls.take (min xls.length 45), xhs.take (min xhs.length 45)⟩⟩, A1, qlc, A2, qhc⟩ := ⟨_, rfl⟩
  have hok' : cc.ok S' := by
    rw [hcc]
    exact ⟨hA1, hA2, by simp only [List.length_take]; omega, by simp only [List.length_take]; omega, by simp only [List.length_take]; omega, by simp only [List.length_take]; omega⟩
  have hvs : cc.vals = [.int .i64 ps, .int .i64 pv', .int .i64 po, .int .i64 pd, .int .i64 xn, .int .i64 xl, .int .i64 xh, .int .i64 xb, .slice A1 (xls.take (min xls.length 45)).length qlc, .slice A2 (xhs.take (min xhs.length 45)).length qhc] := by rw [hcc]; rfl
  clear hcc
  (repeat (first | refine Jc ?_ | (apply s_append (ms := [cc]); (case hg => rfl); (case hd => rfl); (case hx => rfl); (case ho => exact hob); (case hL => (exact pmT)); (case hy => rfl); (case hm => rfl); (case hs => (apply Src.own; rw [show cellsOf [cc] = cc.vals from List.append_nil _, hvs]; (repeat (first | exact List.Mem.head _ | apply List.Mem.tail | apply List.mem_append_right)))); (case hzs => rfl); (case h0 => decide); (case hb => (simp; omega)); (case h63 => (simp; omega)); intro v' ob' ho'; obtain ⟨A', c', rfl⟩ := ho'.form) | refine Jo ?_ | intro _))
  refine q_back (m' := raw.length - (i + 1)) ⟨rfl, i + 1, lc ++ [cc], _, ob', rfl, by omega, by omega, ho', fun x hx => ?_, by simp [hlc], rfl, rfl⟩ (by omega) sbF sbL
  rcases List.mem_append.1 hx with hx | hx
  · exact hok x hx
  · rw [List.mem_singleton.1 hx]; exact hok'
theorem madeC_con (xs : List K4) (A : Option Addr) (c : Nat) (S : SH) (hA : At S A xs) (hx : ∀ x ∈ xs, K4ok x) :
    Con Tryd.prog 20 #[.slice A xs.length c] S [] (fun S' L' v => L' = [] ∧ ∃ l, SkC S' v l ∧ ValidP l) := by
  refine con_of (args := [.slice A xs.length c]) Tryd.func20 rfl Tryd.ntmps20 rfl fun w => ?_
  (repeat (first | refine Jc ?_ | ((apply z_call; rfl; rfl; rfl; exact MadeFacts_con xs A c S hA hx; rintro S2 _ _ hle2 ⟨rfl, Al, cl, l, rfl, hAl, hcl, hll, hlf⟩)) | refine Jo ?_ | intro _))
  have hm := rMakeC_con l Al cl S2 hAl (by omega)
  have hv : ((makeR l).2 = 0 ∧ ValidP (makeR l).1) ∨ (makeR l).2 = 170 := by
    unfold makeR
    split
    · unfold skOf
      split
      · exact .inl ⟨rfl, by assumption⟩
      · exact .inr rfl
    · exact .inr rfl
  generalize makeR l = ml at *
  obtain ⟨ms, me⟩ := ml
  simp only at hm hv
  rcases hv with ⟨rfl, hv⟩ | rfl
  · (repeat (first | refine Jc ?_ | ((apply z_call; rfl; rfl; rfl; exact hm; rintro S3 _ _ hle3 ⟨rfl, v, rfl, hs⟩; obtain ⟨B, nb, cb, rfl⟩ := hs.sk.form)) | refine Jo ?_ | intro _))
    exact o_ret_cell (L' := []) (sz := 1) (cs := [.slice B nb cb]) Tryd.results20 rfl (by repeat (first | exact List.Mem.head _ | refine List.Mem.tail _ ?_ | exact List.mem_append_right _ (List.Mem.head _))) rfl (List.nil_sublist _) ⟨rfl, ms, hs, hv⟩
  · (repeat (first | refine Jc ?_ | (apply s_evb; (case hg => rfl); (case hd => rfl); (case hn => rfl); (case he => (apply ev_buildS; (case hp => rfl); (case hz => rfl); (case h1 => rfl); (case hr => rfl)))) | ((apply z_call; rfl; rfl; rfl; exact hm; rintro S3 _ _ hle3 ⟨rfl, v, rfl, hs⟩; obtain ⟨B, nb, cb, rfl⟩ := hs.sk.form)) | refine Jo ?_ | intro _))
    exact o_ret_cell (L' := []) (sz := 1) (cs := [.slice none 0 0]) Tryd.results20 rfl (by repeat (first | exact List.Mem.head _ | refine List.Mem.tail _ ?_ | exact List.mem_append_right _ (List.Mem.head _))) rfl (List.nil_sublist _) ⟨rfl, [], nil_skc _, valid_nil⟩
theorem few_con (raw : List Ce) (A : Option Addr) (c : Nat) (S : SH) (hA : At S A raw) (hr : ∀ q ∈ raw, rawOk S q) :
    Con Tryd.prog 19 #[.agg #[.slice A raw.length c]] S [] (fun S' L' v => L' = [] ∧ ∃ l, SkV S' v l) :=
  (fewC_con raw A c S hA hr).mono fun S' L' r _ ⟨h1, l, h2⟩ => ⟨h1, l, h2.sk⟩
theorem made_con (xs : List K4) (A : Option Addr) (c : Nat) (S : SH) (hA : At S A xs) (hx : ∀ x ∈ xs, K4ok x) :
    Con Tryd.prog 20 #[.slice A xs.length c] S [] (fun S' L' v => L' = [] ∧ ∃ l, SkV S' v l ∧ ValidP l) :=
  (madeC_con xs A c S hA hx).mono fun S' L' r _ ⟨h1, l, h2, h3⟩ => ⟨h1, l, h2.sk, h3⟩
end Go.Proofs.YtogfficbloejcaaDoor
namespace Go.Proofs.YtogfficbloejcaaDoor
open Go Go.X
set_option maxRecDepth 10000
set_option linter.unusedVariables false
attribute [local irreducible] Code.wpIn wpListIn Exit.then Exit.inBlock X.Out X.Back X.W X.Ev X.Con X.BinV X.Wh X.Wn X.Wq
theorem rEncodeS_con {v : Value} {l : List PC} (S : SH) (h : SkV S v l) : Con Tryd.prog 35 #[v] S [] (fun S' L' r => L' = [] ∧ r = encV l) := by
  obtain ⟨A, c, cs, rfl, hA, hok, hl, rfl⟩ := h
  exact rEncode_con cs A c S hA hok (by omega)
def rawSk (S : SH) (x : Sv) : Prop := ∃ l : List Ce, x.m = l.length ∧ l.length ≤ x.c ∧ At S x.a l ∧ ∀ y ∈ l, rawOk S y
/-- What Encode answers, told. -/
theorem enc_told (l : List PC) : ∃ (t : Bs) (e : Int), encV l = .tuple #[strV t, .int .i64 e] := by
  by_cases h : ValidP l
  · exact ⟨_, _, encV_t h⟩
  · exact ⟨_, _, encV_f h⟩
set_option maxHeartbeats 3200000 in
theorem f8_law (raw : Sv) (xs : List K4) (B : Option Addr) (cb : Nat) (str : ByteArray) (at_ by_ : Int) (S : SH) (hG : Gl S) (hraw : rawSk S raw) (hB : At S B xs) (lx : xs.length ≤ cb) (hx : ∀ x ∈ xs, K4ok x) (hstr : str.size ≤ maxLen) (hat : i64 at_) (hby : (Lit.int .u8 by_).wf = true) :
    Con Tryd.prog 8 #[.agg #[.slice raw.a raw.m raw.c], .slice B xs.length cb, .string str, .int .i64 at_, .int .u8 by_] S [] (fun _ _ v => v = .bool true) := by
  obtain ⟨ra, rm, rc⟩ := raw
  obtain ⟨rl, e0, hrc, hrA, hrok⟩ := hraw
  simp only at e0 hrc hrA
  subst e0
  rw [str_eta str]
  have hl1 : str.data.toList.length ≤ 9223372036854775807 := by rw [Array.length_toList]; exact hstr
  generalize str.data.toList = s1 at *
  obtain ⟨cby, rfl⟩ : ∃ c : UInt8, by_ = (c.toNat : Int) := by
    simp [Lit.wf, IntKind.min, IntKind.max, IntKind.bits, IntKind.signed] at hby
    refine ⟨UInt8.ofNat by_.toNat, ?_⟩
    rw [u8_nat (by omega)]; omega
  refine con_of (args := [.agg [.slice ra rl.length rc].toArray, .slice B xs.length cb, strV s1, .int .i64 at_, .int .u8 (cby.toNat : Int)]) Tryd.func8 rfl Tryd.ntmps8 rfl fun w => ?_
  (repeat (first | refine Jc ?_ | ((apply z_call; rfl; rfl; rfl; exact sane_con S hG; rintro S1 _ _ hle1 ⟨rfl, rfl⟩)) | refine Jo ?_ | intro _))
  (repeat (first | refine Jc ?_ | ((apply z_call; rfl; rfl; rfl; exact few_con rl ra rc S1 (hrA.le hle1) (fun q hq => (hrok q hq).le hle1); rintro S2 _ _ hle2 ⟨rfl, l1, hs1⟩; obtain ⟨A1, n1, c1, rfl⟩ := hs1.form)) | refine Jo ?_ | intro _))
  (repeat (first | refine Jc ?_ | ((apply z_call; rfl; rfl; rfl; exact made_con xs B cb S2 ((hB.le hle1).le hle2) hx; rintro S3 _ _ hle3 ⟨rfl, l2, hs2, hv2⟩; obtain ⟨A2, n2, c2, rfl⟩ := hs2.form)) | (apply s_buildSlice; (case hg => rfl); (case hd => rfl); (case hp => rfl); (case hq => rfl); (case hm => rfl); (case hv => rfl); (case hl => rfl); intro bl; refine W.freeze fun S4 hle4 hb4 => ?_) | refine Jo ?_ | intro _))
  rename_i b5
  have hT : At S4 (some ⟨bl, 0, none⟩) [(⟨A1, n1, c1⟩ : Sv), ⟨A2, n2, c2⟩] := at_litB hb4 rfl
  have hrows : ∀ j : Nat, j < 2 → ∃ (a : Option Addr) (n c : Nat) (l : List PC), [(⟨A1, n1, c1⟩ : Sv), ⟨A2, n2, c2⟩][j]? = some ⟨a, n, c⟩ ∧ SkV S4 (.agg #[.slice a n c]) l := by
    intro j hj
    match j, hj with
    | 0, _ => exact ⟨A1, n1, c1, l1, rfl, ((hs1.le hle3).le hle4)⟩
    | 1, _ => exact ⟨A2, n2, c2, l2, rfl, hs2.le hle4⟩
  obtain ⟨svs, hsvs⟩ : ∃ svs, svs = [(⟨A1, n1, c1⟩ : Sv), ⟨A2, n2, c2⟩] := ⟨_, rfl⟩
  rw [← hsvs] at hT hrows
  have hsl : svs.length = 2 := by rw [hsvs]; rfl
  have hle04 : Le S S4 := ((hle1.trans hle2).trans hle3).trans hle4
  refine c_loop (fun m S' L F => Le S4 S' ∧ ∃ j : Nat, m = 2 - j ∧ j ≤ 2 ∧ L = [] ∧
      F = [(1, .slice B xs.length cb), (2, strV s1), (3, .int .i64 at_), (4, .int .u8 (cby.toNat : Int)), (11, .bool true), (36, .slice (some ⟨bl, 0, none⟩) 2 2), (37, .int .i64 2), (38, .int .i64 j)])
    (L' := []) ⟨Le.refl _, 0, rfl, by omega, rfl, rfl⟩ sbF (List.nil_sublist _) ?_
  rintro m S5 L F ⟨hle5, j, rfl, hj, rfl, rfl⟩
  by_cases hj2 : j < 2
  · obtain ⟨a, n, c, l, hsv, hsk⟩ := hrows j hj2
    have hsk5 := hsk.le hle5
    have hG5 : Gl S5 := (hG.le hle04).le hle5
    have en1 := EncodeS_con S5 hG5 hsk5
    obtain ⟨t, e, het⟩ := enc_told l
    have en2 := fun S6 (h : Le S5 S6) => rEncodeS_con S6 (hsk5.le h)
    rw [het] at en1
    simp only [het] at en2
    have hT5 := hT.le hle5
    have hsl2 : 2 = svs.length := hsl.symm
    (repeat (first | refine Jc ?_ | (apply s_idx hT5; (case hg => rfl); (case hd => rfl); (case hx => rfl); (case hi => rfl); (case hm => exact hsl2); (case hu => exact hsv); intro p2 (hp2 : Pts _ p2 [.slice a n c])) | (apply s_load_ag; (case hg => rfl); (case hd => rfl); (case hx => rfl); (case hv => exact hp2); (case hl => rfl)) | ((apply z_call; rfl; rfl; rfl; exact en1; rintro S6 _ _ hle6 ⟨rfl, rfl⟩)) | ((apply z_call; rfl; rfl; rfl; exact en2 S6 hle6; rintro S7 _ _ hle7 ⟨rfl, rfl⟩)) | (apply s_evb; (case hg => rfl); (case hd => rfl); (case hn => rfl); (case he => ((apply ev_neq_bs' (r := false); (case hx => rfl); (case hy => rfl); (case h => simp))))) | refine Jo ?_ | intro _))
    exact q_back (m' := 2 - (j + 1)) ⟨(hle5.trans hle6).trans hle7, j + 1, rfl, by omega, rfl, rfl⟩ (by omega) sbF (List.nil_sublist _)
  obtain rfl : j = 2 := by omega
  have hG5 : Gl S5 := (hG.le hle04).le hle5
  (repeat (first | refine Jc ?_ | ((apply z_call; rfl; rfl; rfl; exact made_con xs B cb S5 ((hB.le hle04).le hle5) hx; rintro S6 _ _ hle6 ⟨rfl, l3, hs3, hv3⟩; obtain ⟨A3, n3, c3, rfl⟩ := hs3.form)) | refine Jo ?_ | intro _))
  have en3 := rEncodeS_con S6 hs3
  rw [encV_t hv3] at en3
  have hta := txt_len (skI_ok hv3)
  have hla : (skI l3).length ≤ 80000 := by
    have h1 := cells_len hv3.each
    have h2 := hv3.len
    rw [skI, List.length_cons]; omega
  have hpos := txt_pos l3
  generalize hta_ : txt (skI l3) = ta at *
  have hpk := pickI_bd at_ (ta.length : Int) (by omega)
  have pk := fun S' => lpick_con at_ (ta.length : Int) S' hat (by omega)
  obtain ⟨i0, hi0⟩ : ∃ i0 : Nat, pickI at_ (ta.length : Int) = i0 := ⟨(pickI at_ (ta.length : Int)).toNat, by omega⟩
  rw [hi0] at hpk
  simp only [hi0] at pk
  have hi0l : i0 < ta.length := by omega
  (repeat (first | refine Jc ?_ | ((apply z_call; rfl; rfl; rfl; exact en3; rintro S7 _ _ hle7 ⟨rfl, rfl⟩)) | (apply s_evb; (case hg => rfl); (case hd => rfl); (case hn => rfl); (case he => (apply ev_len_b; rfl))) | (apply s_bytes; (case hg => rfl); (case hd => rfl); (case hx => rfl); (case hl => omega); intro bz tl cap N hc1 hc2 hc3 hN) | refine Jo ?_ | intro _))
  have hset := bytes_tset ta tl i0 cby hi0l
  have hat_ := bytes_tat ta tl i0 hi0l
  (repeat (first | refine Jc ?_ | ((apply z_call; rfl; rfl; rfl; exact pk S7; rintro _ _ _ - ⟨rfl, rfl, rfl⟩)) | (apply s_idxo1 (j := i0); (case hg => rfl); (case hd => rfl); (case hx => rfl); (case hi => rfl); (case hk => exact hi0l)) | (apply s_store_mk; (case hg => rfl); (case hx => rfl); (case hy => rfl); (case h1 => rfl); (case hL => (repeat (first | exact Upd.head | apply Upd.tail | apply Upd.app))); (case hu => exact hat_); (case hN => omega)) | refine Jo ?_ | intro _))
  rw [hset]
  obtain ⟨Z, hZ⟩ : ∃ Z, Z = ta.set i0 cby := ⟨_, rfl⟩
  have hZl : Z.length = ta.length := by rw [hZ, List.length_set]
  rw [← hZ, ← hZl]
  rw [← hZl] at hc1
  ((apply c_held ([(bz, .cells (cellsOf Z ++ tl).toArray 5 (N, N + 1))]); (case hL => (exact sbT))); refine Jf 0 ?_; refine Jf 1 ?_; (apply h_first 2; (case hi => rfl); (case hr => kernel_rfl); (case hfr => kernel_rfl); (case hsel => kernel_rfl); (case hg => rfl); (case hd => rfl); (case he => (apply ev_len_b; rfl))); (apply h_first 3; (case hi => rfl); (case hr => kernel_rfl); (case hfr => kernel_rfl); (case hsel => kernel_rfl); (case hg => rfl); (case hd => rfl); (case he => (apply ev_minn (j := 300); (case hx => rfl); (case hy => rfl)))); (apply h_first 4; (case hi => rfl); (case hr => kernel_rfl); (case hfr => kernel_rfl); (case hsel => kernel_rfl); (case hg => rfl); (case hd => rfl); (case he => (apply ev_slice_bh; (case hx => rfl); (case hz => rfl); (case hj => omega)))); refine Jf 5 ?_; refine Jf 6 ?_; (apply h_first 7; (case hi => rfl); (case hr => kernel_rfl); (case hfr => kernel_rfl); (case hsel => kernel_rfl); (case hg => rfl); (case hd => rfl); (case he => (apply ev_str_row; (case hx => rfl); (case hm => (repeat (first | exact List.Mem.head _ | apply List.Mem.tail | apply List.mem_append_right))); (case hk => omega)))); refine Jf 10 ?_; (apply h_one 8; (case hr => kernel_rfl)); (first | (apply n_buildSlice; (case hi => rfl); (case hg => rfl); (case hd => rfl); (case i1 => infer_instance); (case i2 => infer_instance); (case i3 => infer_instance); (case hp => rfl); (case hq => rfl); (case hm => rfl); (case hv => rfl); (case hl => rfl); intro bq) | (refine Jn ?_; try intro _)); refine Jf 9 ?_; (apply h_end; (case hr => kernel_rfl)))
  rw [List.drop_zero, List.take_length]
  obtain ⟨p1, hp1, hp1l⟩ : ∃ p1, p1 = s1.take (min s1.length 300) ∧ p1.length ≤ 300 := ⟨_, rfl, by rw [List.length_take]; omega⟩
  rw [← hp1]
  clear hp1 hl1
  refine W.freeze fun S8 hle8 hbq => ?_
  have hZs : At S8 (some ⟨bq, 0, none⟩) [(⟨p1⟩ : Str), ⟨ta⟩, ⟨Z⟩] := at_litB hbq rfl
  have hzl : ∀ k : Nat, k < 3 → ∃ z : Str, [(⟨p1⟩ : Str), ⟨ta⟩, ⟨Z⟩][k]? = some z ∧ z.b.length ≤ 1000000000 := by
    intro k hk
    match k, hk with
    | 0, _ => exact ⟨_, rfl, by simp only; omega⟩
    | 1, _ => exact ⟨_, rfl, by simp only; omega⟩
    | 2, _ => exact ⟨_, rfl, by simp only; omega⟩
  obtain ⟨zs, hzs⟩ : ∃ zs, zs = [(⟨p1⟩ : Str), ⟨ta⟩, ⟨Z⟩] := ⟨_, rfl⟩
  rw [← hzs] at hZs hzl
  have hz3 : zs.length = 3 := by rw [hzs]; rfl
  have hG8 : Gl S8 := ((hG5.le hle6).le hle7).le hle8
  (repeat (first | refine Jz ?_ | intro _))
  refine c_loop (fun m S' L F => Le S8 S' ∧ ∃ k : Nat, m = 3 - k ∧ k ≤ 3 ∧ L = [] ∧
      F = [(3, .int .i64 at_), (11, .bool true), (91, .slice (some ⟨bq, 0, none⟩) 3 3), (92, .int .i64 3), (93, .int .i64 k)])
    (L' := []) ⟨Le.refl _, 0, rfl, by omega, rfl, rfl⟩ sbF (List.nil_sublist _) ?_
  rintro m S9 L F ⟨hle9, k, rfl, hk, rfl, rfl⟩
  by_cases hk3 : k < 3
  rotate_left
  · (repeat (first | refine Jz ?_ | intro _))
    exact o_ret (L' := []) Tryd.results8 rfl (List.nil_sublist _) rfl
  obtain ⟨⟨z⟩, hzk, hzb⟩ := hzl k hk3
  simp only at hzb
  have hZs9 := hZs.le hle9
  have hsl3 : 3 = zs.length := hz3.symm
  have hpk9 := pickI_bd at_ ((z.length : Int) + 1) (by omega)
  have pk9 := fun S' => lpick_con at_ ((z.length : Int) + 1) S' hat (by omega)
  obtain ⟨i9, hi9⟩ : ∃ i9 : Int, pickI at_ ((z.length : Int) + 1) = i9 := ⟨_, rfl⟩
  simp only [hi9] at pk9
  (repeat (first | refine Jc ?_ | (apply s_idx hZs9; (case hg => rfl); (case hd => rfl); (case hx => rfl); (case hi => rfl); (case hm => exact hsl3); (case hu => exact hzk); intro p2 (hp2 : Pts _ p2 [strV z])) | (apply s_load1; (case hg => rfl); (case hd => rfl); (case hx => rfl); (case hv => exact hp2)) | (apply s_evb; (case hg => rfl); (case hd => rfl); (case hn => rfl); (case he => (apply ev_len_b; rfl))) | ((apply z_call; rfl; rfl; rfl; exact pk9 S9; rintro _ _ _ - ⟨rfl, rfl, rfl⟩)) | (apply s_buildSlice; (case hg => rfl); (case hd => rfl); (case hp => rfl); (case hq => rfl); (case hm => rfl); (case hv => rfl); (case hl => rfl); intro bt; refine W.freeze fun S10 hle10 hb10 => ?_) | refine Jo ?_ | intro _))
  have hI : At S10 (some ⟨bt, 0, none⟩) [at_, 0, i9] := at_litB hb10 rfl
  obtain ⟨is, his⟩ : ∃ is, is = [at_, 0, i9] := ⟨_, rfl⟩
  rw [← his] at hI
  have hi3 : is.length = 3 := by rw [his]; rfl
  refine c_loop (fun m S' L F => Le S10 S' ∧ ∃ t : Nat, m = 3 - t ∧ t ≤ 3 ∧ L = [] ∧
      F = [(3, .int .i64 at_), (11, .bool true), (91, .slice (some ⟨bq, 0, none⟩) 3 3), (92, .int .i64 3), (93, .int .i64 k), (22, strV z), (103, .slice (some ⟨bt, 0, none⟩) 3 3), (104, .int .i64 3), (105, .int .i64 t)])
    (L' := []) ⟨Le.refl _, 0, rfl, by omega, rfl, rfl⟩ sbF (List.nil_sublist _) ?_
  rintro m S11 L F ⟨hle11, t, rfl, ht, rfl, rfl⟩
  by_cases ht3 : t < 3
  rotate_left
  · (repeat (first | refine Jz ?_ | intro _))
    exact q_back (m' := 3 - (k + 1)) ⟨(hle9.trans hle10).trans hle11, k + 1, rfl, by omega, rfl, rfl⟩ (by omega) sbF (List.nil_sublist _)
  obtain ⟨x, hxt⟩ : ∃ x, is[t]? = some x := at_lt' (by omega)
  have hI11 := hI.le hle11
  have hil : 3 = is.length := hi3.symm
  have hG11 : Gl S11 := ((hG8.le hle9).le hle10).le hle11
  have d1 := Decode_con z x S11 hG11 (by omega)
  have d2 := fun S12 => rDecode_con z x S12 (by omega)
  generalize decA z x = dd at *
  obtain ⟨dl, dn, de⟩ := dd
  simp only at d1 d2
  (repeat (first | refine Jc ?_ | (apply s_idx hI11; (case hg => rfl); (case hd => rfl); (case hx => rfl); (case hi => rfl); (case hm => exact hil); (case hu => exact hxt); intro p3 (hp3 : Pts _ p3 [.int .i64 x])) | (apply s_load1; (case hg => rfl); (case hd => rfl); (case hx => rfl); (case hv => exact hp3)) | ((apply z_call; rfl; rfl; rfl; exact d1; rintro S12 _ _ hle12 ⟨rfl, va, rfl, hsa⟩; obtain ⟨Ba, na, ca, rfl⟩ := hsa.form)) | refine Jo ?_ | intro _))
  (repeat (first | refine Jc ?_ | ((apply z_call; rfl; rfl; rfl; exact d2 S12; rintro S13 _ _ hle13 ⟨rfl, vb, rfl, hsb⟩; obtain ⟨Bb, nb, cb2, rfl⟩ := hsb.form)) | refine Jo ?_ | intro _))
  have sm := rSame_con S13 (hsa.le hle13) hsb
  rw [bP_t rfl] at sm
  (repeat (first | refine Jc ?_ | ((apply z_call; rfl; rfl; rfl; exact sm; rintro _ _ _ - ⟨rfl, rfl, rfl⟩)) | refine Jo ?_ | intro _))
  exact q_back (m' := 3 - (t + 1)) ⟨(hle11.trans hle12).trans hle13, t + 1, rfl, by omega, rfl, rfl⟩ (by omega) sbF (List.nil_sublist _)
end Go.Proofs.YtogfficbloejcaaDoor
