/- BisectSplits returns true for every input, and each argument reads afterwards as it read before; no condition. -/
import Derived.Test.YtmonkjbhoabhhaaBc
import Derived.Test.YtmonkjbhoabhhaaX
namespace Go.Proofs.Ytmonkjbhoabhhaa
open Go Go.X
set_option maxRecDepth 10000
set_option linter.unusedVariables false
attribute [local irreducible] Code.wpIn wpListIn Exit.then Exit.inBlock X.Out X.Back X.W X.Ev X.Con X.BinV X.Wh X.Wn X.Wq
theorem validB_sub {ds : List Dep} {l l' : List Tri} (h : validB ds l = true) (hs : ∀ t ∈ l', t ∈ l) (hl : l'.length ≤ 60) : validB ds l' = true := by
  simp only [validB, Bool.and_eq_true, decide_eq_true_eq, List.all_eq_true] at h ⊢
  exact ⟨⟨⟨h.1.1.1, fun t ht => h.1.1.2 t (hs t ht)⟩, h.1.2⟩, hl⟩
theorem pick_nat (c : Int) (n : Nat) (hn : 0 < n) : ∃ k : Nat, pick c n = k ∧ k < n := by
  have h := pick_lt c n (by omega)
  obtain ⟨k, hk⟩ := Int.eq_ofNat_of_zero_le h.1
  exact ⟨k, hk, by omega⟩
theorem f7_law (xs : List T3) (A : Option Addr) (c : Nat) (cu : Int) (ys : List T2) (B : Option Addr) (e : Nat) (fi wr : Int) (S : SH) (hA : At S A xs) (hl : xs.length ≤ c) (hx : ∀ x ∈ xs, i64 x.a ∧ i64 x.b ∧ i64 x.c) (hcu : i64 cu) (hB : At S B ys) (hl2 : ys.length ≤ e) (hy : ∀ x ∈ ys, i64 x.a ∧ i64 x.b) (hfi : i64 fi) (hwr : i64 wr) :
    Con Try.prog 7 #[.slice A xs.length c, .int .i64 cu, .slice B ys.length e, .int .i64 fi, .int .i64 wr] S [] (fun _ _ v => v = .bool true) := by
  refine con_of (args := [.slice A xs.length c, .int .i64 cu, .slice B ys.length e, .int .i64 fi, .int .i64 wr]) Try.func7 rfl Try.ntmps7 rfl fun w => ?_
  have hS : Sr S (.slice A xs.length c) xs := ⟨A, c, rfl, hl, hA⟩
  have hS2 : Sr S (.slice B ys.length e) ys := ⟨B, e, rfl, hl2, hB⟩
  have hv := made_valid xs
  have hn := made_len xs
  by_cases h0 : (made xs).length = 0
  · (repeat (first | refine Jc ?_ | (apply z_call; rfl; rfl; rfl; exact sane_con _; rintro S1 _ v hle1 ⟨rfl, rfl⟩) | (apply z_call; rfl; rfl; rfl; exact made_v hx (hS.le (by repeat (first | exact Le.refl _ | assumption | refine Le.trans ?_ (by assumption)))); rintro S2 _ v2 hle2 ⟨rfl, D, cD, rfl, hcD, hD⟩) | refine Jo ?_ | intro _))
    exact o_ret (L' := []) Try.results7 rfl (by repeat (first | exact List.Sublist.refl _ | exact List.Sublist.slnil | exact List.nil_sublist _ | exact List.sublist_append_left _ _ | refine List.Sublist.cons_cons _ ?_ | refine List.Sublist.append (List.Sublist.refl _) ?_ | refine List.Sublist.cons _ ?_)) rfl
  (repeat (first | refine Jc ?_ | (apply z_call; rfl; rfl; rfl; exact sane_con _; rintro S1 _ v hle1 ⟨rfl, rfl⟩) | (apply z_call; rfl; rfl; rfl; exact made_v hx (hS.le (by repeat (first | exact Le.refl _ | assumption | refine Le.trans ?_ (by assumption)))); rintro S2 _ v2 hle2 ⟨rfl, D, cD, rfl, hcD, hD⟩) | refine Jo ?_ | intro _))
  obtain ⟨w', hw, hw2⟩ := pick_nat wr 3 (by decide)
  obtain ⟨kc, hkc, hkc2⟩ := pick_nat cu (made xs).length (by omega)
  obtain ⟨d, hd⟩ := at_lt hkc2
  have hr2 : Sr S2 (.slice D (made xs).length cD) (made xs) := ⟨D, cD, rfl, hcD, hD⟩
  have hvl := trials_valid xs d ys 3
  have hll := trials_len d ys 3
  generalize hls : trials d ys 3 = ls at *
  obtain ⟨j, hj, hj2⟩ := pick_nat fi (ls.length + 1) (by omega)
  (repeat (first | refine Jc ?_ | (apply z_call; rfl; rfl; rfl; exact pick_c hw hwr (by decide); rintro _ _ _ - ⟨rfl, rfl, rfl⟩) | (apply z_call; rfl; rfl; rfl; exact pick_c hkc hcu (by omega); rintro _ _ _ - ⟨rfl, rfl, rfl⟩) | (apply z_call; rfl; rfl; rfl; exact trials_v hd hy (by decide) hr2 (hS2.le (by repeat (first | exact Le.refl _ | assumption | refine Le.trans ?_ (by assumption)))); rintro S3 _ v3 hle3 ⟨rfl, h3⟩) | refine Jo ?_ | intro _))
  rw [hls] at h3
  obtain ⟨E, cE, rfl, hcE, hE⟩ := h3
  have hr3 : Sr S3 (.slice E ls.length cE) ls := ⟨E, cE, rfl, hcE, hE⟩
  have v1 := validB_sub (l' := ls.take j) hvl (fun t ht => List.mem_of_mem_take ht) (by simp; omega)
  have v2 := validB_sub (l' := ls.drop j ++ ls.take j) hvl (fun t ht => (List.mem_append.1 ht).elim List.mem_of_mem_drop List.mem_of_mem_take) (by simp; omega)
  have v3 := validB_sub (l' := ls ++ ls) hvl (fun t ht => (List.mem_append.1 ht).elim id id) (by simp; omega)
  (repeat (first | refine Jc ?_ | (apply z_call; rfl; rfl; rfl; exact pick_c (n := ls.length + 1) hj hfi (by omega); rintro _ _ _ - ⟨rfl, rfl, rfl⟩) | (apply z_call; rfl; rfl; rfl; exact cands_ok (ls := ls) (wr := w') (hr2.le (by repeat (first | exact Le.refl _ | assumption | refine Le.trans ?_ (by assumption)))) (hr3.le (by repeat (first | exact Le.refl _ | assumption | refine Le.trans ?_ (by assumption)))) hvl (by omega); rintro S4 _ v4 hle4 ⟨rfl, u4, rfl, h4⟩) | refine Jo ?_ | intro _))
  have hE4 : At S4 E ls := hE.le (by repeat (first | exact Le.refl _ | assumption | refine Le.trans ?_ (by assumption)))
  (repeat (first | refine Jc ?_ | (apply s_slice_hi hE4; (case hg => rfl); (case hd => rfl); (case hx => rfl); (case hy => rfl); (case hm => rfl); (case hmc => omega); (case hj => omega); intro A5 hA5) | (apply z_call; rfl; rfl; rfl; exact cands_ok (ls := ls.take j) (wr := w') (hr2.le (by repeat (first | exact Le.refl _ | assumption | refine Le.trans ?_ (by assumption)))) ⟨A5, cE, rfl, by simp; omega, hA5.le (by repeat (first | exact Le.refl _ | assumption | refine Le.trans ?_ (by assumption)))⟩ v1 (by omega); rintro S5 _ v5 hle5 ⟨rfl, u5, rfl, h5⟩) | (apply z_call; rfl; rfl; rfl; exact cands_ok (ls := ls) (wr := w' + 1) (hr2.le (by repeat (first | exact Le.refl _ | assumption | refine Le.trans ?_ (by assumption)))) (hr3.le (by repeat (first | exact Le.refl _ | assumption | refine Le.trans ?_ (by assumption)))) hvl (by omega); rintro S6 _ v6 hle6 ⟨rfl, u6, rfl, h6⟩) | refine Jo ?_ | intro _))
  have hE6 : At S6 E ls := hE.le (by repeat (first | exact Le.refl _ | assumption | refine Le.trans ?_ (by assumption)))
  ((apply c_held ([]); (case hL => (repeat (first | exact List.Sublist.refl _ | exact List.Sublist.slnil | exact List.nil_sublist _ | exact List.sublist_append_left _ _ | apply List.Sublist.cons_cons | (apply List.Sublist.append; exact List.Sublist.refl _) | apply List.Sublist.cons)))); (first | (apply h_slice_lo hE6 0; (case hi => rfl); (case hr => kernel_rfl); (case hfr => kernel_rfl); (case hsel => kernel_rfl); (case hg => rfl); (case hd => rfl); (case i1 => infer_instance); (case i2 => infer_instance); (case hx => rfl); (case hy => rfl); (case hm => rfl); (case hmc => omega); (case hj => omega); intro A7 hA7) | (apply h_slice_hi hE6 0; (case hi => rfl); (case hr => kernel_rfl); (case hfr => kernel_rfl); (case hsel => kernel_rfl); (case hg => rfl); (case hd => rfl); (case i1 => infer_instance); (case i2 => infer_instance); (case hx => rfl); (case hy => rfl); (case hm => rfl); (case hmc => omega); (case hj => omega); intro A8 hA8) | refine Jf 0 ?_); (first | (apply h_slice_lo hE6 2; (case hi => rfl); (case hr => kernel_rfl); (case hfr => kernel_rfl); (case hsel => kernel_rfl); (case hg => rfl); (case hd => rfl); (case i1 => infer_instance); (case i2 => infer_instance); (case hx => rfl); (case hy => rfl); (case hm => rfl); (case hmc => omega); (case hj => omega); intro A7 hA7) | (apply h_slice_hi hE6 2; (case hi => rfl); (case hr => kernel_rfl); (case hfr => kernel_rfl); (case hsel => kernel_rfl); (case hg => rfl); (case hd => rfl); (case i1 => infer_instance); (case i2 => infer_instance); (case hx => rfl); (case hy => rfl); (case hm => rfl); (case hmc => omega); (case hj => omega); intro A8 hA8) | refine Jf 2 ?_); (first | (apply h_slice_lo hE6 3; (case hi => rfl); (case hr => kernel_rfl); (case hfr => kernel_rfl); (case hsel => kernel_rfl); (case hg => rfl); (case hd => rfl); (case i1 => infer_instance); (case i2 => infer_instance); (case hx => rfl); (case hy => rfl); (case hm => rfl); (case hmc => omega); (case hj => omega); intro A7 hA7) | (apply h_slice_hi hE6 3; (case hi => rfl); (case hr => kernel_rfl); (case hfr => kernel_rfl); (case hsel => kernel_rfl); (case hg => rfl); (case hd => rfl); (case i1 => infer_instance); (case i2 => infer_instance); (case hx => rfl); (case hy => rfl); (case hm => rfl); (case hmc => omega); (case hj => omega); intro A8 hA8) | refine Jf 3 ?_); (first | (apply h_slice_lo hE6 4; (case hi => rfl); (case hr => kernel_rfl); (case hfr => kernel_rfl); (case hsel => kernel_rfl); (case hg => rfl); (case hd => rfl); (case i1 => infer_instance); (case i2 => infer_instance); (case hx => rfl); (case hy => rfl); (case hm => rfl); (case hmc => omega); (case hj => omega); intro A7 hA7) | (apply h_slice_hi hE6 4; (case hi => rfl); (case hr => kernel_rfl); (case hfr => kernel_rfl); (case hsel => kernel_rfl); (case hg => rfl); (case hd => rfl); (case i1 => infer_instance); (case i2 => infer_instance); (case hx => rfl); (case hy => rfl); (case hm => rfl); (case hmc => omega); (case hj => omega); intro A8 hA8) | refine Jf 4 ?_); (first | (apply h_slice_lo hE6 6; (case hi => rfl); (case hr => kernel_rfl); (case hfr => kernel_rfl); (case hsel => kernel_rfl); (case hg => rfl); (case hd => rfl); (case i1 => infer_instance); (case i2 => infer_instance); (case hx => rfl); (case hy => rfl); (case hm => rfl); (case hmc => omega); (case hj => omega); intro A7 hA7) | (apply h_slice_hi hE6 6; (case hi => rfl); (case hr => kernel_rfl); (case hfr => kernel_rfl); (case hsel => kernel_rfl); (case hg => rfl); (case hd => rfl); (case i1 => infer_instance); (case i2 => infer_instance); (case hx => rfl); (case hy => rfl); (case hm => rfl); (case hmc => omega); (case hj => omega); intro A8 hA8) | refine Jf 6 ?_); (first | (apply h_slice_lo hE6 7; (case hi => rfl); (case hr => kernel_rfl); (case hfr => kernel_rfl); (case hsel => kernel_rfl); (case hg => rfl); (case hd => rfl); (case i1 => infer_instance); (case i2 => infer_instance); (case hx => rfl); (case hy => rfl); (case hm => rfl); (case hmc => omega); (case hj => omega); intro A7 hA7) | (apply h_slice_hi hE6 7; (case hi => rfl); (case hr => kernel_rfl); (case hfr => kernel_rfl); (case hsel => kernel_rfl); (case hg => rfl); (case hd => rfl); (case i1 => infer_instance); (case i2 => infer_instance); (case hx => rfl); (case hy => rfl); (case hm => rfl); (case hmc => omega); (case hj => omega); intro A8 hA8) | refine Jf 7 ?_); (first | (apply h_slice_lo hE6 8; (case hi => rfl); (case hr => kernel_rfl); (case hfr => kernel_rfl); (case hsel => kernel_rfl); (case hg => rfl); (case hd => rfl); (case i1 => infer_instance); (case i2 => infer_instance); (case hx => rfl); (case hy => rfl); (case hm => rfl); (case hmc => omega); (case hj => omega); intro A7 hA7) | (apply h_slice_hi hE6 8; (case hi => rfl); (case hr => kernel_rfl); (case hfr => kernel_rfl); (case hsel => kernel_rfl); (case hg => rfl); (case hd => rfl); (case i1 => infer_instance); (case i2 => infer_instance); (case hx => rfl); (case hy => rfl); (case hm => rfl); (case hmc => omega); (case hj => omega); intro A8 hA8) | refine Jf 8 ?_); (first | (apply h_slice_lo hE6 10; (case hi => rfl); (case hr => kernel_rfl); (case hfr => kernel_rfl); (case hsel => kernel_rfl); (case hg => rfl); (case hd => rfl); (case i1 => infer_instance); (case i2 => infer_instance); (case hx => rfl); (case hy => rfl); (case hm => rfl); (case hmc => omega); (case hj => omega); intro A7 hA7) | (apply h_slice_hi hE6 10; (case hi => rfl); (case hr => kernel_rfl); (case hfr => kernel_rfl); (case hsel => kernel_rfl); (case hg => rfl); (case hd => rfl); (case i1 => infer_instance); (case i2 => infer_instance); (case hx => rfl); (case hy => rfl); (case hm => rfl); (case hmc => omega); (case hj => omega); intro A8 hA8) | refine Jf 10 ?_); (apply h_one 1; (case hr => kernel_rfl)); (first | (apply n_buildSlice; (case hi => rfl); (case hg => rfl); (case hd => rfl); (case i1 => infer_instance); (case i2 => infer_instance); (case i3 => infer_instance); (case hp => rfl); (case hq => rfl); (case hm => rfl); (case hv => rfl); (case hl => rfl); intro b0) | (apply n_append_st (ms := ls.drop j) hA7; (case hi => rfl); (case hT => infer_instance); (case hsz => infer_instance); (case hz => infer_instance); (case hby => infer_instance); (case hg => rfl); (case hd => rfl); (case hx => rfl); (case ho => exact Ows.full (α := Tri) (e := 49) (g := b0) (cs := []) (l := []) rfl (by decide)); (case hL => (repeat (first | exact pm_nil _ | exact pm_refl _ _ | exact pm_self _ | apply pm_cons | apply pm_app))); (case hy => rfl); (case hm => first | rfl | simp); (case hzs => rfl); (case h0 => decide); (case hb => first | (simp; omega) | simp); (case h63 => first | (simp; omega) | simp); (case hsub => (intro _ _; exact List.nil_sublist _)); intro v1' ob1 ho1) | (apply n_append_st (ms := ls.take j) hA8; (case hi => rfl); (case hT => infer_instance); (case hsz => infer_instance); (case hz => infer_instance); (case hby => infer_instance); (case hg => rfl); (case hd => rfl); (case hx => rfl); (case ho => exact ho1); (case hL => (repeat (first | exact pm_nil _ | exact pm_refl _ _ | exact pm_self _ | apply pm_cons | apply pm_app))); (case hy => rfl); (case hm => first | rfl | simp); (case hzs => rfl); (case h0 => decide); (case hb => first | (simp; omega) | simp); (case h63 => first | (simp; omega) | simp); (case hsub => (intro _ _; exact List.nil_sublist _)); intro v2' ob2 ho2; refine Wh.freezeOws ho2 (by repeat (first | exact pm_nil _ | exact pm_refl _ _ | exact pm_self _ | refine pm_cons ?_ | refine pm_app ?_)) (List.nil_sublist _) fun S7 hle7 hr7 => ?_) | (apply n_call; (case hi => rfl); (case i1 => infer_instance); (case hg => rfl); (case hd => rfl); (case ha => rfl); (case hc => exact cands_ok (ls := ls.drop j ++ ls.take j) (wr := w') (hr2.le (by repeat (first | exact Le.refl _ | assumption | refine Le.trans ?_ (by assumption)))) hr7 v2 (by omega)); (case hL => (repeat (first | exact pm_nil _ | exact pm_refl _ _ | exact pm_self _ | apply pm_cons | apply pm_app))); (case hsub => (intros; (repeat (first | exact List.Sublist.refl _ | exact List.Sublist.slnil | exact List.nil_sublist _ | exact List.sublist_append_left _ _ | apply List.Sublist.cons_cons | (apply List.Sublist.append; exact List.Sublist.refl _) | apply List.Sublist.cons)))); rintro S8 _ v8 hle8 ⟨rfl, u8, rfl, h8⟩) | (refine Jn ?_; try intro _)); (apply h_one 5; (case hr => kernel_rfl)); (first | (apply n_buildSlice; (case hi => rfl); (case hg => rfl); (case hd => rfl); (case i1 => infer_instance); (case i2 => infer_instance); (case i3 => infer_instance); (case hp => rfl); (case hq => rfl); (case hm => rfl); (case hv => rfl); (case hl => rfl); intro b0) | (apply n_append_st (ms := ls.drop j) hA7; (case hi => rfl); (case hT => infer_instance); (case hsz => infer_instance); (case hz => infer_instance); (case hby => infer_instance); (case hg => rfl); (case hd => rfl); (case hx => rfl); (case ho => exact Ows.full (α := Tri) (e := 49) (g := b0) (cs := []) (l := []) rfl (by decide)); (case hL => (repeat (first | exact pm_nil _ | exact pm_refl _ _ | exact pm_self _ | apply pm_cons | apply pm_app))); (case hy => rfl); (case hm => first | rfl | simp); (case hzs => rfl); (case h0 => decide); (case hb => first | (simp; omega) | simp); (case h63 => first | (simp; omega) | simp); (case hsub => (intro _ _; exact List.nil_sublist _)); intro v1' ob1 ho1) | (apply n_append_st (ms := ls.take j) hA8; (case hi => rfl); (case hT => infer_instance); (case hsz => infer_instance); (case hz => infer_instance); (case hby => infer_instance); (case hg => rfl); (case hd => rfl); (case hx => rfl); (case ho => exact ho1); (case hL => (repeat (first | exact pm_nil _ | exact pm_refl _ _ | exact pm_self _ | apply pm_cons | apply pm_app))); (case hy => rfl); (case hm => first | rfl | simp); (case hzs => rfl); (case h0 => decide); (case hb => first | (simp; omega) | simp); (case h63 => first | (simp; omega) | simp); (case hsub => (intro _ _; exact List.nil_sublist _)); intro v2' ob2 ho2; refine Wh.freezeOws ho2 (by repeat (first | exact pm_nil _ | exact pm_refl _ _ | exact pm_self _ | refine pm_cons ?_ | refine pm_app ?_)) (List.nil_sublist _) fun S7 hle7 hr7 => ?_) | (apply n_call; (case hi => rfl); (case i1 => infer_instance); (case hg => rfl); (case hd => rfl); (case ha => rfl); (case hc => exact cands_ok (ls := ls.drop j ++ ls.take j) (wr := w') (hr2.le (by repeat (first | exact Le.refl _ | assumption | refine Le.trans ?_ (by assumption)))) hr7 v2 (by omega)); (case hL => (repeat (first | exact pm_nil _ | exact pm_refl _ _ | exact pm_self _ | apply pm_cons | apply pm_app))); (case hsub => (intros; (repeat (first | exact List.Sublist.refl _ | exact List.Sublist.slnil | exact List.nil_sublist _ | exact List.sublist_append_left _ _ | apply List.Sublist.cons_cons | (apply List.Sublist.append; exact List.Sublist.refl _) | apply List.Sublist.cons)))); rintro S8 _ v8 hle8 ⟨rfl, u8, rfl, h8⟩) | (refine Jn ?_; try intro _)); (apply h_one 9; (case hr => kernel_rfl)); (first | (apply n_buildSlice; (case hi => rfl); (case hg => rfl); (case hd => rfl); (case i1 => infer_instance); (case i2 => infer_instance); (case i3 => infer_instance); (case hp => rfl); (case hq => rfl); (case hm => rfl); (case hv => rfl); (case hl => rfl); intro b0) | (apply n_append_st (ms := ls.drop j) hA7; (case hi => rfl); (case hT => infer_instance); (case hsz => infer_instance); (case hz => infer_instance); (case hby => infer_instance); (case hg => rfl); (case hd => rfl); (case hx => rfl); (case ho => exact Ows.full (α := Tri) (e := 49) (g := b0) (cs := []) (l := []) rfl (by decide)); (case hL => (repeat (first | exact pm_nil _ | exact pm_refl _ _ | exact pm_self _ | apply pm_cons | apply pm_app))); (case hy => rfl); (case hm => first | rfl | simp); (case hzs => rfl); (case h0 => decide); (case hb => first | (simp; omega) | simp); (case h63 => first | (simp; omega) | simp); (case hsub => (intro _ _; exact List.nil_sublist _)); intro v1' ob1 ho1) | (apply n_append_st (ms := ls.take j) hA8; (case hi => rfl); (case hT => infer_instance); (case hsz => infer_instance); (case hz => infer_instance); (case hby => infer_instance); (case hg => rfl); (case hd => rfl); (case hx => rfl); (case ho => exact ho1); (case hL => (repeat (first | exact pm_nil _ | exact pm_refl _ _ | exact pm_self _ | apply pm_cons | apply pm_app))); (case hy => rfl); (case hm => first | rfl | simp); (case hzs => rfl); (case h0 => decide); (case hb => first | (simp; omega) | simp); (case h63 => first | (simp; omega) | simp); (case hsub => (intro _ _; exact List.nil_sublist _)); intro v2' ob2 ho2; refine Wh.freezeOws ho2 (by repeat (first | exact pm_nil _ | exact pm_refl _ _ | exact pm_self _ | refine pm_cons ?_ | refine pm_app ?_)) (List.nil_sublist _) fun S7 hle7 hr7 => ?_) | (apply n_call; (case hi => rfl); (case i1 => infer_instance); (case hg => rfl); (case hd => rfl); (case ha => rfl); (case hc => exact cands_ok (ls := ls.drop j ++ ls.take j) (wr := w') (hr2.le (by repeat (first | exact Le.refl _ | assumption | refine Le.trans ?_ (by assumption)))) hr7 v2 (by omega)); (case hL => (repeat (first | exact pm_nil _ | exact pm_refl _ _ | exact pm_self _ | apply pm_cons | apply pm_app))); (case hsub => (intros; (repeat (first | exact List.Sublist.refl _ | exact List.Sublist.slnil | exact List.nil_sublist _ | exact List.sublist_append_left _ _ | apply List.Sublist.cons_cons | (apply List.Sublist.append; exact List.Sublist.refl _) | apply List.Sublist.cons)))); rintro S8 _ v8 hle8 ⟨rfl, u8, rfl, h8⟩) | (refine Jn ?_; try intro _)); (apply h_one 11; (case hr => kernel_rfl)); (first | (apply n_buildSlice; (case hi => rfl); (case hg => rfl); (case hd => rfl); (case i1 => infer_instance); (case i2 => infer_instance); (case i3 => infer_instance); (case hp => rfl); (case hq => rfl); (case hm => rfl); (case hv => rfl); (case hl => rfl); intro b0) | (apply n_append_st (ms := ls.drop j) hA7; (case hi => rfl); (case hT => infer_instance); (case hsz => infer_instance); (case hz => infer_instance); (case hby => infer_instance); (case hg => rfl); (case hd => rfl); (case hx => rfl); (case ho => exact Ows.full (α := Tri) (e := 49) (g := b0) (cs := []) (l := []) rfl (by decide)); (case hL => (repeat (first | exact pm_nil _ | exact pm_refl _ _ | exact pm_self _ | apply pm_cons | apply pm_app))); (case hy => rfl); (case hm => first | rfl | simp); (case hzs => rfl); (case h0 => decide); (case hb => first | (simp; omega) | simp); (case h63 => first | (simp; omega) | simp); (case hsub => (intro _ _; exact List.nil_sublist _)); intro v1' ob1 ho1) | (apply n_append_st (ms := ls.take j) hA8; (case hi => rfl); (case hT => infer_instance); (case hsz => infer_instance); (case hz => infer_instance); (case hby => infer_instance); (case hg => rfl); (case hd => rfl); (case hx => rfl); (case ho => exact ho1); (case hL => (repeat (first | exact pm_nil _ | exact pm_refl _ _ | exact pm_self _ | apply pm_cons | apply pm_app))); (case hy => rfl); (case hm => first | rfl | simp); (case hzs => rfl); (case h0 => decide); (case hb => first | (simp; omega) | simp); (case h63 => first | (simp; omega) | simp); (case hsub => (intro _ _; exact List.nil_sublist _)); intro v2' ob2 ho2; refine Wh.freezeOws ho2 (by repeat (first | exact pm_nil _ | exact pm_refl _ _ | exact pm_self _ | refine pm_cons ?_ | refine pm_app ?_)) (List.nil_sublist _) fun S7 hle7 hr7 => ?_) | (apply n_call; (case hi => rfl); (case i1 => infer_instance); (case hg => rfl); (case hd => rfl); (case ha => rfl); (case hc => exact cands_ok (ls := ls.drop j ++ ls.take j) (wr := w') (hr2.le (by repeat (first | exact Le.refl _ | assumption | refine Le.trans ?_ (by assumption)))) hr7 v2 (by omega)); (case hL => (repeat (first | exact pm_nil _ | exact pm_refl _ _ | exact pm_self _ | apply pm_cons | apply pm_app))); (case hsub => (intros; (repeat (first | exact List.Sublist.refl _ | exact List.Sublist.slnil | exact List.nil_sublist _ | exact List.sublist_append_left _ _ | apply List.Sublist.cons_cons | (apply List.Sublist.append; exact List.Sublist.refl _) | apply List.Sublist.cons)))); rintro S8 _ v8 hle8 ⟨rfl, u8, rfl, h8⟩) | (refine Jn ?_; try intro _)); (first | (apply h_slice_lo hE6 12; (case hi => rfl); (case hr => kernel_rfl); (case hfr => kernel_rfl); (case hsel => kernel_rfl); (case hg => rfl); (case hd => rfl); (case i1 => infer_instance); (case i2 => infer_instance); (case hx => rfl); (case hy => rfl); (case hm => rfl); (case hmc => omega); (case hj => omega); intro A7 hA7) | (apply h_slice_hi hE6 12; (case hi => rfl); (case hr => kernel_rfl); (case hfr => kernel_rfl); (case hsel => kernel_rfl); (case hg => rfl); (case hd => rfl); (case i1 => infer_instance); (case i2 => infer_instance); (case hx => rfl); (case hy => rfl); (case hm => rfl); (case hmc => omega); (case hj => omega); intro A8 hA8) | refine Jf 12 ?_); (first | (apply h_slice_lo hE6 13; (case hi => rfl); (case hr => kernel_rfl); (case hfr => kernel_rfl); (case hsel => kernel_rfl); (case hg => rfl); (case hd => rfl); (case i1 => infer_instance); (case i2 => infer_instance); (case hx => rfl); (case hy => rfl); (case hm => rfl); (case hmc => omega); (case hj => omega); intro A7 hA7) | (apply h_slice_hi hE6 13; (case hi => rfl); (case hr => kernel_rfl); (case hfr => kernel_rfl); (case hsel => kernel_rfl); (case hg => rfl); (case hd => rfl); (case i1 => infer_instance); (case i2 => infer_instance); (case hx => rfl); (case hy => rfl); (case hm => rfl); (case hmc => omega); (case hj => omega); intro A8 hA8) | refine Jf 13 ?_); (first | (apply h_slice_lo hE6 14; (case hi => rfl); (case hr => kernel_rfl); (case hfr => kernel_rfl); (case hsel => kernel_rfl); (case hg => rfl); (case hd => rfl); (case i1 => infer_instance); (case i2 => infer_instance); (case hx => rfl); (case hy => rfl); (case hm => rfl); (case hmc => omega); (case hj => omega); intro A7 hA7) | (apply h_slice_hi hE6 14; (case hi => rfl); (case hr => kernel_rfl); (case hfr => kernel_rfl); (case hsel => kernel_rfl); (case hg => rfl); (case hd => rfl); (case i1 => infer_instance); (case i2 => infer_instance); (case hx => rfl); (case hy => rfl); (case hm => rfl); (case hmc => omega); (case hj => omega); intro A8 hA8) | refine Jf 14 ?_); (first | (apply h_slice_lo hE6 15; (case hi => rfl); (case hr => kernel_rfl); (case hfr => kernel_rfl); (case hsel => kernel_rfl); (case hg => rfl); (case hd => rfl); (case i1 => infer_instance); (case i2 => infer_instance); (case hx => rfl); (case hy => rfl); (case hm => rfl); (case hmc => omega); (case hj => omega); intro A7 hA7) | (apply h_slice_hi hE6 15; (case hi => rfl); (case hr => kernel_rfl); (case hfr => kernel_rfl); (case hsel => kernel_rfl); (case hg => rfl); (case hd => rfl); (case i1 => infer_instance); (case i2 => infer_instance); (case hx => rfl); (case hy => rfl); (case hm => rfl); (case hmc => omega); (case hj => omega); intro A8 hA8) | refine Jf 15 ?_); (first | (apply h_slice_lo hE6 16; (case hi => rfl); (case hr => kernel_rfl); (case hfr => kernel_rfl); (case hsel => kernel_rfl); (case hg => rfl); (case hd => rfl); (case i1 => infer_instance); (case i2 => infer_instance); (case hx => rfl); (case hy => rfl); (case hm => rfl); (case hmc => omega); (case hj => omega); intro A7 hA7) | (apply h_slice_hi hE6 16; (case hi => rfl); (case hr => kernel_rfl); (case hfr => kernel_rfl); (case hsel => kernel_rfl); (case hg => rfl); (case hd => rfl); (case i1 => infer_instance); (case i2 => infer_instance); (case hx => rfl); (case hy => rfl); (case hm => rfl); (case hmc => omega); (case hj => omega); intro A8 hA8) | refine Jf 16 ?_); (apply h_end; (case hr => kernel_rfl)))
  (repeat (first | refine Jc ?_ | (apply z_call; rfl; rfl; rfl; exact cands_ok (ls := ls) (wr := 0) (hr2.le (by repeat (first | exact Le.refl _ | assumption | refine Le.trans ?_ (by assumption)))) (hr3.le (by repeat (first | exact Le.refl _ | assumption | refine Le.trans ?_ (by assumption)))) hvl (by omega); rintro S9 _ v9 hle9 ⟨rfl, u9, rfl, h9⟩) | refine Jo ?_ | intro _))
  have hE9 : At S9 E ls := hE.le (by repeat (first | exact Le.refl _ | assumption | refine Le.trans ?_ (by assumption)))
  rename_i b0
  have ho0 := Ows.full (α := Tri) (e := 49) (g := b0) (cs := []) (l := []) rfl (by decide)
  (repeat (first | refine Jc ?_ | (apply s_append_st (ms := ls) hE9; (case hg => rfl); (case hd => rfl); (case hx => rfl); (case ho => exact ho0); (case hL => (repeat (first | exact pm_nil _ | exact pm_refl _ _ | exact pm_self _ | apply pm_cons | apply pm_app))); (case hy => rfl); (case hm => first | rfl | simp); (case hzs => rfl); (case h0 => decide); (case hb => first | (simp; omega) | simp); (case h63 => first | (simp; omega) | simp); intro v1' ob1 ho1) | refine Jo ?_ | intro _))
  (repeat (first | refine Jc ?_ | (apply s_append_st (ms := ls) hE9; (case hg => rfl); (case hd => rfl); (case hx => rfl); (case ho => exact ho1); (case hL => (repeat (first | exact pm_nil _ | exact pm_refl _ _ | exact pm_self _ | apply pm_cons | apply pm_app))); (case hy => rfl); (case hm => first | rfl | simp); (case hzs => rfl); (case h0 => decide); (case hb => first | (simp; omega) | simp); (case h63 => first | (simp; omega) | simp); intro v2' ob2 ho2; refine W.freezeOws ho2 (by repeat (first | exact pm_nil _ | exact pm_refl _ _ | exact pm_self _ | refine pm_cons ?_ | refine pm_app ?_)) fun S10 hle10 hr10 => ?_) | (apply z_call; rfl; rfl; rfl; exact cands_ok (ls := ls ++ ls) (wr := 0) (hr2.le (by repeat (first | exact Le.refl _ | assumption | refine Le.trans ?_ (by assumption)))) hr10 v3 (by omega); rintro S11 _ v11 hle11 ⟨rfl, u11, rfl, h11⟩) | refine Jo ?_ | intro _))
  have l1 := cands_len' (made xs) ls w'
  have l2 := cands_len' (made xs) (ls.take j) w'
  have l3 := cands_len' (made xs) ls (w' + 1)
  have l4 := cands_len' (made xs) ls 0
  (repeat (first | refine Jc ?_ | (apply z_call; rfl; rfl; rfl; exact part_v (cands_take (made xs) ls j w') (h4.le (by repeat (first | exact Le.refl _ | assumption | refine Le.trans ?_ (by assumption)))) (h5.le (by repeat (first | exact Le.refl _ | assumption | refine Le.trans ?_ (by assumption)))) (by omega) (by omega); rintro _ _ _ - ⟨rfl, rfl, rfl⟩) | (apply z_call; rfl; rfl; rfl; exact part_v (cands_more (made xs) ls w') (h4.le (by repeat (first | exact Le.refl _ | assumption | refine Le.trans ?_ (by assumption)))) (h6.le (by repeat (first | exact Le.refl _ | assumption | refine Le.trans ?_ (by assumption)))) (by omega) (by omega); rintro _ _ _ - ⟨rfl, rfl, rfl⟩) | (apply z_call; rfl; rfl; rfl; exact same_c (r := true) (by rw [cands_turn]; exact BEq.rfl) (h4.le (by repeat (first | exact Le.refl _ | assumption | refine Le.trans ?_ (by assumption)))) (h8.le (by repeat (first | exact Le.refl _ | assumption | refine Le.trans ?_ (by assumption)))) (by omega); rintro _ _ _ - ⟨rfl, rfl, rfl⟩) | (apply z_call; rfl; rfl; rfl; exact same_c (r := true) (by rw [cands_twice]; exact BEq.rfl) (h9.le (by repeat (first | exact Le.refl _ | assumption | refine Le.trans ?_ (by assumption)))) (h11.le (by repeat (first | exact Le.refl _ | assumption | refine Le.trans ?_ (by assumption)))) (by omega); rintro _ _ _ - ⟨rfl, rfl, rfl⟩) | refine Jo ?_ | intro _))
  exact o_ret (L' := []) Try.results7 rfl (by repeat (first | exact List.Sublist.refl _ | exact List.Sublist.slnil | exact List.nil_sublist _ | exact List.sublist_append_left _ _ | refine List.Sublist.cons_cons _ ?_ | refine List.Sublist.append (List.Sublist.refl _) ?_ | refine List.Sublist.cons _ ?_)) rfl
end Go.Proofs.Ytmonkjbhoabhhaa
namespace Go.Proofs.Ytmonkjbhoabhhaa
open Go Go.X
set_option maxRecDepth 10000
set_option linter.unusedVariables false
attribute [local irreducible] Code.wpIn wpListIn Exit.then Exit.inBlock X.Out X.Back X.W X.Ev X.Con X.BinV X.Wh X.Wn X.Wq
theorem actives_has (ds : List Dep) (t : Int) (i : Nat) : (actives ds t).contains (i : Int) = onAt ds t i := by
  rw [actives, idxs_contains]
  by_cases h : i < ds.length
  · simp [h]
  · simp [h, onAt_none (Nat.le_of_not_lt h)]
theorem cands_has {ds : List Dep} {i : Nat} (h : i < ds.length) (ls : List Tri) (wr : Int) : (cands ds ls wr).contains (i : Int) = decide (cnt ds ls i ≤ wr) := by
  rw [cands, idxs_contains]
  simp [h, candP]
theorem validB_tri {ds : List Dep} {ls : List Tri} (h : validB ds ls = true) : ∀ t ∈ ls, 0 ≤ t.at_ ∧ t.at_ ≤ 1000000 := by
  intro t ht
  simp only [validB, Bool.and_eq_true, List.all_eq_true] at h
  have := h.1.1.2 t ht
  simpa [Tri.ok, inB] using this
theorem f4_law (xs : List T3) (A : Option Addr) (c : Nat) (cu : Int) (ys : List T2) (B : Option Addr) (e : Nat) (wr : Int) (S : SH) (hA : At S A xs) (hl : xs.length ≤ c) (hx : ∀ x ∈ xs, i64 x.a ∧ i64 x.b ∧ i64 x.c) (hcu : i64 cu) (hB : At S B ys) (hl2 : ys.length ≤ e) (hy : ∀ x ∈ ys, i64 x.a ∧ i64 x.b) (hwr : i64 wr) :
    Con Try.prog 4 #[.slice A xs.length c, .int .i64 cu, .slice B ys.length e, .int .i64 wr] S [] (fun _ _ v => v = .bool true) := by
  refine con_of (args := [.slice A xs.length c, .int .i64 cu, .slice B ys.length e, .int .i64 wr]) Try.func4 rfl Try.ntmps4 rfl fun w => ?_
  have hS : Sr S (.slice A xs.length c) xs := ⟨A, c, rfl, hl, hA⟩
  have hS2 : Sr S (.slice B ys.length e) ys := ⟨B, e, rfl, hl2, hB⟩
  have hv := made_valid xs
  have hn := made_len xs
  by_cases h0 : (made xs).length = 0
  · (repeat (first | refine Jc ?_ | (apply z_call; rfl; rfl; rfl; exact sane_con _; rintro S1 _ v hle1 ⟨rfl, rfl⟩) | (apply z_call; rfl; rfl; rfl; exact made_v hx (hS.le (by repeat (first | exact Le.refl _ | assumption | refine Le.trans ?_ (by assumption)))); rintro S2 _ v2 hle2 ⟨rfl, D, cD, rfl, hcD, hD⟩) | refine Jo ?_ | intro _))
    exact o_ret (L' := []) Try.results4 rfl (by repeat (first | exact List.Sublist.refl _ | exact List.Sublist.slnil | exact List.nil_sublist _ | exact List.sublist_append_left _ _ | refine List.Sublist.cons_cons _ ?_ | refine List.Sublist.append (List.Sublist.refl _) ?_ | refine List.Sublist.cons _ ?_)) rfl
  (repeat (first | refine Jc ?_ | (apply z_call; rfl; rfl; rfl; exact sane_con _; rintro S1 _ v hle1 ⟨rfl, rfl⟩) | (apply z_call; rfl; rfl; rfl; exact made_v hx (hS.le (by repeat (first | exact Le.refl _ | assumption | refine Le.trans ?_ (by assumption)))); rintro S2 _ v2 hle2 ⟨rfl, D, cD, rfl, hcD, hD⟩) | refine Jo ?_ | intro _))
  obtain ⟨w', hw, hw2⟩ := pick_nat wr 4 (by decide)
  obtain ⟨kc, hkc, hkc2⟩ := pick_nat cu (made xs).length (by omega)
  obtain ⟨d, hd⟩ := at_lt hkc2
  have hr2 : Sr S2 (.slice D (made xs).length cD) (made xs) := ⟨D, cD, rfl, hcD, hD⟩
  have hvl := trials_valid xs d ys w'
  have hll := trials_len d ys w'
  have hin := culprit_in hd ys w' (by omega)
  (repeat (first | refine Jc ?_ | (apply z_call; rfl; rfl; rfl; exact pick_c hw hwr (by decide); rintro _ _ _ - ⟨rfl, rfl, rfl⟩) | (apply z_call; rfl; rfl; rfl; exact pick_c hkc hcu (by omega); rintro _ _ _ - ⟨rfl, rfl, rfl⟩) | (apply z_call; rfl; rfl; rfl; exact trials_v (wr := w') hd hy (by omega) hr2 (hS2.le (by repeat (first | exact Le.refl _ | assumption | refine Le.trans ?_ (by assumption)))); rintro S3 _ v3 hle3 ⟨rfl, E, cE, rfl, hcE, hE⟩) | refine Jo ?_ | intro _))
  have hct := fun i (h : i < (made xs).length) => cands_has h (trials d ys w') w'
  have hca := cands_len' (made xs) (trials d ys w') w'
  have hsort : (cands (made xs) (trials d ys w') w').Pairwise (· < ·) := idxs_sorted _ _
  generalize hls : trials d ys w' = ls at *
  have hr3 : Sr S3 (.slice E ls.length cE) ls := ⟨E, cE, rfl, hcE, hE⟩
  generalize hcs : cands (made xs) ls w' = cs at *
  (repeat (first | refine Jc ?_ | (apply z_call; rfl; rfl; rfl; exact cands_ok (ls := ls) (wr := w') (hr2.le (by repeat (first | exact Le.refl _ | assumption | refine Le.trans ?_ (by assumption)))) (hr3.le (by repeat (first | exact Le.refl _ | assumption | refine Le.trans ?_ (by assumption)))) hvl (by omega); rintro S4 _ v4 hle4 ⟨rfl, _, rfl, h4⟩) | refine Jo ?_ | intro _))
  rw [hcs] at h4
  (repeat (first | refine Jc ?_ | (apply z_call; rfl; rfl; rfl; exact has_v (b := true) hin (h4.le (by repeat (first | exact Le.refl _ | assumption | refine Le.trans ?_ (by assumption)))) (by omega); rintro _ _ _ - ⟨rfl, rfl, rfl⟩) | refine Jo ?_ | intro _))
  obtain ⟨C, cC, rfl, hcC, hC⟩ := h4
  refine c_loop (fun m S' L F => Le S4 S' ∧ L = [] ∧ ∃ i : Nat, m = (made xs).length - i ∧ i ≤ (made xs).length ∧
    F = [(9, .bool true), (10, .slice D (made xs).length cD), (11, .int .i64 w'), (13, .slice E ls.length cE), (14, .slice C cs.length cC), (16, .int .i64 i)]) ⟨Le.refl _, rfl, 0, rfl, by omega, rfl⟩ (by repeat (first | exact Sub.nil rfl | exact Sub.marked rfl | refine Sub.cons rfl ?_)) (by repeat (first | exact List.Sublist.refl _ | exact List.Sublist.slnil | exact List.nil_sublist _ | exact List.sublist_append_left _ _ | refine List.Sublist.cons_cons _ ?_ | refine List.Sublist.append (List.Sublist.refl _) ?_ | refine List.Sublist.cons _ ?_)) ?_
  rintro m S' L F ⟨hle, rfl, i, rfl, hi, rfl⟩
  have hC' : At S' C cs := hC.le (by repeat (first | exact Le.refl _ | assumption | refine Le.trans ?_ (by assumption)))
  have hE' : At S' E ls := hE.le (by repeat (first | exact Le.refl _ | assumption | refine Le.trans ?_ (by assumption)))
  have hq : Sr S' (.slice C cs.length cC) cs := ⟨C, cC, rfl, hcC, hC'⟩
  by_cases hil : i < (made xs).length
  rotate_left
  · (repeat (first | refine Jz ?_ | intro _))
    exact o_ret (L' := []) Try.results4 rfl (by repeat (first | exact List.Sublist.refl _ | exact List.Sublist.slnil | exact List.nil_sublist _ | exact List.sublist_append_left _ _ | refine List.Sublist.cons_cons _ ?_ | refine List.Sublist.append (List.Sublist.refl _) ?_ | refine List.Sublist.cons _ ?_)) rfl
  have hci := hct i hil
  have hcnt := cnt_le (made xs) ls i
  (repeat (first | refine Jz ?_ | intro _))
  refine c_meetB (fun S1 L1 F1 => Le S' S1 ∧ L1 = [] ∧ F1 = [(9, .bool true), (10, .slice D (made xs).length cD), (11, .int .i64 w'), (13, .slice E ls.length cE), (14, .slice C cs.length cC), (16, .int .i64 i), (17, .int .i64 (cnt (made xs) ls i))]) ?_ ?_
  · refine c_loop (fun m S1 L1 F1 => Le S' S1 ∧ L1 = [] ∧ ∃ (n : Nat) (q : Int), m = ls.length - n ∧ n ≤ ls.length ∧ q = cnt (made xs) (ls.take n) i ∧
      F1 = [(9, .bool true), (10, .slice D (made xs).length cD), (11, .int .i64 w'), (13, .slice E ls.length cE), (14, .slice C cs.length cC), (16, .int .i64 i), (17, .int .i64 q), (18, .int .i64 n)]) ⟨Le.refl _, rfl, 0, 0, rfl, by omega, by simp [cnt], rfl⟩ (by repeat (first | exact Sub.nil rfl | exact Sub.marked rfl | refine Sub.cons rfl ?_)) (by repeat (first | exact List.Sublist.refl _ | exact List.Sublist.slnil | exact List.nil_sublist _ | exact List.sublist_append_left _ _ | refine List.Sublist.cons_cons _ ?_ | refine List.Sublist.append (List.Sublist.refl _) ?_ | refine List.Sublist.cons _ ?_)) ?_
    rintro m S1 L1 F1 ⟨hle1, rfl, n, q, rfl, hn1, hq1, rfl⟩
    by_cases hnl : n < ls.length
    rotate_left
    · obtain rfl : n = ls.length := by omega
      rw [List.take_of_length_le (Nat.le_refl _)] at hq1
      subst hq1
      (repeat (first | refine Jz ?_ | intro _))
      exact q_cut ⟨hle1, rfl, rfl⟩ (by repeat (first | exact Sub.nil rfl | exact Sub.marked rfl | refine Sub.cons rfl ?_)) (by repeat (first | exact List.Sublist.refl _ | exact List.Sublist.slnil | exact List.nil_sublist _ | exact List.sublist_append_left _ _ | refine List.Sublist.cons_cons _ ?_ | refine List.Sublist.append (List.Sublist.refl _) ?_ | refine List.Sublist.cons _ ?_))
    obtain ⟨⟨t, bd⟩, ht⟩ := at_lt hnl
    have hE1 : At S1 E ls := hE'.le hle1
    have htv : 0 ≤ t ∧ t ≤ 1000000 := by
      have := validB_tri hvl _ (List.mem_of_getElem? ht)
      exact this
    have hsn := cnt_snoc (made xs) (ls.take n) ⟨t, bd⟩ i
    rw [← take_at ht, ← hq1] at hsn
    have hqb := cnt_le (made xs) (ls.take n) i
    have htk : (ls.take n).length ≤ 60 := by simp; omega
    have hal := actives_len (made xs) t
    generalize hon : onAt (made xs) t i = on at *
    have hah := actives_has (made xs) t i
    rw [hon] at hah
    simp only [wrongAt, hon] at hsn
    cases on
    all_goals cases bd
    all_goals (repeat (first | refine Jc ?_ | (apply s_idx hE1; (case hg => rfl); (case hd => rfl); (case hx => rfl); (case hi => rfl); (case hm => rfl); (case hu => exact ht); intro p (hp : Pts _ p [_, _])) | (apply s_load_f; (case hg => rfl); (case hd => rfl); (case hx => rfl); (case h => exact hp); (case hv => rfl)) | (apply z_call; rfl; rfl; rfl; exact active_ok (t := t) (hr2.le (by repeat (first | exact Le.refl _ | assumption | refine Le.trans ?_ (by assumption)))) hv htv; rintro S5 _ v5 hle5 ⟨rfl, _, rfl, h5⟩; have hE5 := hE1.le hle5) | (apply s_idx hE5; (case hg => rfl); (case hd => rfl); (case hx => rfl); (case hi => rfl); (case hm => rfl); (case hu => exact ht); intro p (hp : Pts _ p [_, _])) | (apply z_call; rfl; rfl; rfl; exact has_v hah (h5.le (by repeat (first | exact Le.refl _ | assumption | refine Le.trans ?_ (by assumption)))) (by omega); rintro _ _ _ - ⟨rfl, rfl, rfl⟩) | refine Jo ?_ | intro _))
    all_goals simp at hsn
    all_goals exact q_back (m' := ls.length - (n + 1)) ⟨hle1.trans hle5, rfl, n + 1, _, rfl, by omega, (by first | exact hsn.symm | omega), rfl⟩ (by omega) (by repeat (first | exact Sub.nil rfl | exact Sub.marked rfl | refine Sub.cons rfl ?_)) (by repeat (first | exact List.Sublist.refl _ | exact List.Sublist.slnil | exact List.nil_sublist _ | exact List.sublist_append_left _ _ | refine List.Sublist.cons_cons _ ?_ | refine List.Sublist.append (List.Sublist.refl _) ?_ | refine List.Sublist.cons _ ?_))
  rintro S1 L1 F1 ⟨hle1, rfl, rfl⟩
  have hq1 := hq.le hle1
  have hC1 := hC'.le hle1
  generalize hdc : decide (cnt (made xs) ls i ≤ w') = dc at *
  generalize cnt (made xs) ls i = cn at *
  (repeat (first | refine Jc ?_ | (apply z_call; rfl; rfl; rfl; exact has_v hci hq1 (by omega); rintro _ _ _ - ⟨rfl, rfl, rfl⟩) | refine Jo ?_ | intro _))
  refine c_meet (fun S2 L2 F2 => S2 = S1 ∧ L2 = [] ∧ F2 = [(121, .bool false), (9, .bool true), (10, .slice D (made xs).length cD), (11, .int .i64 w'), (13, .slice E ls.length cE), (14, .slice C cs.length cC), (16, .int .i64 i)]) ?_ ?_
  · have key : ∀ (hi : 0 < i) (hc : i < cs.length), ∃ x y, cs[i]? = some x ∧ cs[i - 1]? = some y ∧ y < x := fun hi hc => by
      refine ⟨cs[i], cs[i - 1], List.getElem?_eq_getElem hc, List.getElem?_eq_getElem (by omega), ?_⟩
      exact List.pairwise_iff_getElem.1 hsort (i - 1) i (by omega) hc (by omega)
    by_cases hk : 0 < i ∧ i < cs.length
    · obtain ⟨hi0, hic⟩ := hk
      obtain ⟨x, y, hx1, hy1, hxy⟩ := key hi0 hic
      cases dc
      all_goals simp only [decide_eq_true_eq, decide_eq_false_iff_not] at hdc
      all_goals
        (repeat (first | (apply q_ev; (case hg => rfl); (case hd => rfl); (case he => (apply ev_binV; (case hx => rfl); (case hy => rfl); (case hb => (apply bv_pred; omega))))) | (apply q_idx hC1; (case hg => rfl); (case hd => rfl); (case hx => rfl); (case hi => rfl); (case hm => rfl); (case hu => exact hx1); intro p1 (hp1 : Pts _ p1 [_])) | (apply q_idx hC1; (case hg => rfl); (case hd => rfl); (case hx => rfl); (case hi => rfl); (case hm => rfl); (case hu => exact hy1); intro p2 (hp2 : Pts _ p2 [_])) | (apply q_ev; (case hg => rfl); (case hd => rfl); (case he => (apply ev_load1; (case hx => rfl); (case h => exact hp1)))) | (apply q_ev; (case hg => rfl); (case hd => rfl); (case he => (apply ev_load1; (case hx => rfl); (case h => exact hp2)))) | refine Jd ?_))
        (repeat (first | refine Jz ?_ | intro _))
        exact q_cut ⟨rfl, rfl, rfl⟩ (by repeat (first | exact Sub.nil rfl | exact Sub.marked rfl | refine Sub.cons rfl ?_)) (by repeat (first | exact List.Sublist.refl _ | exact List.Sublist.slnil | exact List.nil_sublist _ | exact List.sublist_append_left _ _ | refine List.Sublist.cons_cons _ ?_ | refine List.Sublist.append (List.Sublist.refl _) ?_ | refine List.Sublist.cons _ ?_))
    · by_cases hi0 : 0 < i
      · have hic : ¬ i < cs.length := fun h => hk ⟨hi0, h⟩
        cases dc
        all_goals simp only [decide_eq_true_eq, decide_eq_false_iff_not] at hdc
        all_goals
          refine JD ?_
          (repeat (first | refine Jz ?_ | intro _))
          exact q_cut ⟨rfl, rfl, rfl⟩ (by repeat (first | exact Sub.nil rfl | exact Sub.marked rfl | refine Sub.cons rfl ?_)) (by repeat (first | exact List.Sublist.refl _ | exact List.Sublist.slnil | exact List.nil_sublist _ | exact List.sublist_append_left _ _ | refine List.Sublist.cons_cons _ ?_ | refine List.Sublist.append (List.Sublist.refl _) ?_ | refine List.Sublist.cons _ ?_))
      · cases dc
        all_goals simp only [decide_eq_true_eq, decide_eq_false_iff_not] at hdc
        all_goals
          refine JD ?_
          (repeat (first | refine Jz ?_ | intro _))
          exact q_cut ⟨rfl, rfl, rfl⟩ (by repeat (first | exact Sub.nil rfl | exact Sub.marked rfl | refine Sub.cons rfl ?_)) (by repeat (first | exact List.Sublist.refl _ | exact List.Sublist.slnil | exact List.nil_sublist _ | exact List.sublist_append_left _ _ | refine List.Sublist.cons_cons _ ?_ | refine List.Sublist.append (List.Sublist.refl _) ?_ | refine List.Sublist.cons _ ?_))
  rintro S2 L2 F2 ⟨rfl, rfl, rfl⟩
  (repeat (first | refine Jz ?_ | intro _))
  exact q_back (m' := (made xs).length - (i + 1)) ⟨hle.trans hle1, rfl, i + 1, rfl, by omega, rfl⟩ (by omega) (by repeat (first | exact Sub.nil rfl | exact Sub.marked rfl | refine Sub.cons rfl ?_)) (by repeat (first | exact List.Sublist.refl _ | exact List.Sublist.slnil | exact List.nil_sublist _ | exact List.sublist_append_left _ _ | refine List.Sublist.cons_cons _ ?_ | refine List.Sublist.append (List.Sublist.refl _) ?_ | refine List.Sublist.cons _ ?_))
end Go.Proofs.Ytmonkjbhoabhhaa
namespace Go.Proofs.Ytmonkjbhoabhhaa
open Go Go.X
set_option maxRecDepth 10000
set_option linter.unusedVariables false
attribute [local irreducible] Code.wpIn wpListIn Exit.then Exit.inBlock X.Out X.Back X.W X.Ev X.Con X.BinV X.Wh X.Wn X.Wq
theorem has_int {ds : List Dep} {ls : List Tri} {wr x : Int} (h : x ∈ cands ds ls wr) (t : Int) : (actives ds t).contains x = onAt ds t x.toNat := by
  have h0 := ((cands_mem ds ls wr x).1 h).1
  obtain ⟨n, rfl⟩ := Int.eq_ofNat_of_zero_le h0
  exact actives_has ds t n
theorem f5_law (xs : List T3) (A : Option Addr) (c : Nat) (cu : Int) (ys : List T2) (B : Option Addr) (e : Nat) (at_ : Int) (bd : Bool) (S : SH) (hA : At S A xs) (hl : xs.length ≤ c) (hx : ∀ x ∈ xs, i64 x.a ∧ i64 x.b ∧ i64 x.c) (hcu : i64 cu) (hB : At S B ys) (hl2 : ys.length ≤ e) (hy : ∀ x ∈ ys, i64 x.a ∧ i64 x.b) (hat : i64 at_) :
    Con Try.prog 5 #[.slice A xs.length c, .int .i64 cu, .slice B ys.length e, .int .i64 at_, .bool bd] S [] (fun _ _ v => v = .bool true) := by
  refine con_of (args := [.slice A xs.length c, .int .i64 cu, .slice B ys.length e, .int .i64 at_, .bool bd]) Try.func5 rfl Try.ntmps5 rfl fun w => ?_
  have hS : Sr S (.slice A xs.length c) xs := ⟨A, c, rfl, hl, hA⟩
  have hS2 : Sr S (.slice B ys.length e) ys := ⟨B, e, rfl, hl2, hB⟩
  have hv := made_valid xs
  have hn := made_len xs
  by_cases h0 : (made xs).length = 0
  · (repeat (first | refine Jc ?_ | (apply z_call; rfl; rfl; rfl; exact sane_con _; rintro S1 _ v hle1 ⟨rfl, rfl⟩) | (apply z_call; rfl; rfl; rfl; exact made_v hx (hS.le (by repeat (first | exact Le.refl _ | assumption | refine Le.trans ?_ (by assumption)))); rintro S2 _ v2 hle2 ⟨rfl, D, cD, rfl, hcD, hD⟩) | refine Jo ?_ | intro _))
    exact o_ret (L' := []) Try.results5 rfl (by repeat (first | exact List.Sublist.refl _ | exact List.Sublist.slnil | exact List.nil_sublist _ | exact List.sublist_append_left _ _ | refine List.Sublist.cons_cons _ ?_ | refine List.Sublist.append (List.Sublist.refl _) ?_ | refine List.Sublist.cons _ ?_)) rfl
  (repeat (first | refine Jc ?_ | (apply z_call; rfl; rfl; rfl; exact sane_con _; rintro S1 _ v hle1 ⟨rfl, rfl⟩) | (apply z_call; rfl; rfl; rfl; exact made_v hx (hS.le (by repeat (first | exact Le.refl _ | assumption | refine Le.trans ?_ (by assumption)))); rintro S2 _ v2 hle2 ⟨rfl, D, cD, rfl, hcD, hD⟩) | refine Jo ?_ | intro _))
  obtain ⟨kc, hkc, hkc2⟩ := pick_nat cu (made xs).length (by omega)
  obtain ⟨d, hd⟩ := at_lt hkc2
  have hr2 : Sr S2 (.slice D (made xs).length cD) (made xs) := ⟨D, cD, rfl, hcD, hD⟩
  (repeat (first | refine Jc ?_ | (apply z_call; rfl; rfl; rfl; exact pick_c hkc hcu (by omega); rintro _ _ _ - ⟨rfl, rfl, rfl⟩) | (apply z_call; rfl; rfl; rfl; exact trials_v (wr := 0) hd hy (by omega) hr2 (hS2.le (by repeat (first | exact Le.refl _ | assumption | refine Le.trans ?_ (by assumption)))); rintro S3 _ v3 hle3 ⟨rfl, E, cE, rfl, hcE, hE⟩) | refine Jo ?_ | intro _))
  have hvl := trials_valid xs d ys 0
  have hll := trials_len d ys 0
  generalize hls : trials d ys 0 = ls at *
  have hr3 : Sr S3 (.slice E ls.length cE) ls := ⟨E, cE, rfl, hcE, hE⟩
  have hca := cands_len' (made xs) ls 0
  have hall := fun s (hs : 0 ≤ s) => next_all hvl 0 (s := s) hs
  have hnx := next_spec hvl 0
  have hadd := fun t => cands_add (made xs) ls t bd
  have hcard := fun t => inPart_filter (made xs) (cands (made xs) ls 0) t bd
  have hhas := fun x (h : x ∈ cands (made xs) ls 0) t => has_int h t
  generalize hnn : nextB (made xs) ls 0 = nx at *
  (repeat (first | refine Jc ?_ | (apply z_call; rfl; rfl; rfl; exact cands_ok (ls := ls) (wr := 0) (hr2.le (by repeat (first | exact Le.refl _ | assumption | refine Le.trans ?_ (by assumption)))) (hr3.le (by repeat (first | exact Le.refl _ | assumption | refine Le.trans ?_ (by assumption)))) hvl (by omega); rintro S4 _ v4 hle4 ⟨rfl, _, rfl, h4⟩) | (apply z_call; rfl; rfl; rfl; exact next_ok hnn (hr2.le (by repeat (first | exact Le.refl _ | assumption | refine Le.trans ?_ (by assumption)))) (hr3.le (by repeat (first | exact Le.refl _ | assumption | refine Le.trans ?_ (by assumption)))) hvl (by omega); rintro S5 _ v5 hle5 ⟨rfl, _, rfl, rfl⟩) | refine Jo ?_ | intro _))
  generalize hcs : cands (made xs) ls 0 = cs at *
  obtain ⟨C, cC, rfl, hcC, hC⟩ := h4
  have hin := fun t => inPart_le (made xs) cs t
  have hnb : -1 ≤ nx ∧ nx ≤ 1000000 := by rcases hnx with ⟨h, _⟩ | ⟨h1, h2, _⟩ <;> omega
  generalize hp1 : pick at_ 40 = p1
  generalize hp2 : pick at_ 1000001 = p2
  have q1 := pick_lt at_ 40 (by decide)
  have q2 := pick_lt at_ 1000001 (by decide)
  rw [hp1] at q1
  rw [hp2] at q2
  (repeat (first | refine Jc ?_ | (apply z_call; rfl; rfl; rfl; exact pick_c hp1 hat (by decide); rintro _ _ _ - ⟨rfl, rfl, rfl⟩) | (apply z_call; rfl; rfl; rfl; exact pick_c hp2 hat (by decide); rintro _ _ _ - ⟨rfl, rfl, rfl⟩) | (apply s_buildSlice; (case hg => rfl); (case hd => rfl); (case hp => rfl); (case hq => rfl); (case hm => rfl); (case hv => rfl); (case hl => rfl); intro b4; refine W.freeze fun S6 hle6 hb6 => ?_) | refine Jo ?_ | intro _))
  have hT : At S6 (some ⟨b4, 0, none⟩) [p1, p2] := fun _ => ⟨_, rfl, pts_block hb6 rfl⟩
  refine c_loop (fun m S' L F => Le S6 S' ∧ L = [] ∧ ∃ k : Nat, m = 2 - k ∧ k ≤ 2 ∧
      F = [(4, .bool bd), (11, .bool true), (12, .slice D (made xs).length cD), (14, .slice E ls.length cE), (15, .slice C cs.length cC), (17, .int .i64 nx), (82, .slice (some ⟨b4, 0, none⟩) 2 2), (83, .int .i64 (2 : Nat)), (84, .int .i64 k)]) ⟨Le.refl _, rfl, 0, rfl, by omega, rfl⟩ (by repeat (first | exact Sub.nil rfl | exact Sub.marked rfl | refine Sub.cons rfl ?_)) (by repeat (first | exact List.Sublist.refl _ | exact List.Sublist.slnil | exact List.nil_sublist _ | exact List.sublist_append_left _ _ | refine List.Sublist.cons_cons _ ?_ | refine List.Sublist.append (List.Sublist.refl _) ?_ | refine List.Sublist.cons _ ?_)) ?_
  rintro m S' L F ⟨hle, rfl, k, rfl, hk, rfl⟩
  by_cases hlt : k < 2
  rotate_left
  · (repeat (first | refine Jz ?_ | intro _))
    exact o_ret (L' := []) Try.results5 rfl (by repeat (first | exact List.Sublist.refl _ | exact List.Sublist.slnil | exact List.nil_sublist _ | exact List.sublist_append_left _ _ | refine List.Sublist.cons_cons _ ?_ | refine List.Sublist.append (List.Sublist.refl _) ?_ | refine List.Sublist.cons _ ?_)) rfl
  obtain ⟨s, hs⟩ := at_lt (show k < [p1, p2].length from hlt)
  have hs0 : 0 ≤ s ∧ s ≤ 1000000 := by
    have := List.mem_of_getElem? hs
    simp at this
    omega
  have hT' : At S' _ [p1, p2] := hT.le hle
  (repeat (first | refine Jc ?_ | (apply s_idx hT'; (case hg => rfl); (case hd => rfl); (case hx => rfl); (case hi => rfl); (case hm => rfl); (case hu => exact hs); intro p (hp : Pts _ p [_])) | (apply s_load1; (case hg => rfl); (case hd => rfl); (case hx => rfl); (case hv => exact hp)) | (apply z_call; rfl; rfl; rfl; exact active_ok (t := s) (hr2.le (by repeat (first | exact Le.refl _ | assumption | refine Le.trans ?_ (by assumption)))) hv hs0; rintro S7 _ v7 hle7 ⟨rfl, va, rfl, h7⟩) | refine Jo ?_ | intro _))
  have hC7 : At S7 C cs := hC.le (by repeat (first | exact Le.refl _ | assumption | refine Le.trans ?_ (by assumption)))
  have hla := actives_len (made xs) s
  have hlb := actives_len (made xs) nx
  refine c_meetB (fun S1 L1 F1 => S1 = S7 ∧ L1 = [] ∧ F1 = [(4, .bool bd), (11, .bool true), (12, .slice D (made xs).length cD), (14, .slice E ls.length cE), (15, .slice C cs.length cC), (17, .int .i64 nx), (82, .slice (some ⟨b4, 0, none⟩) 2 2), (83, .int .i64 (2 : Nat)), (84, .int .i64 k), (23, .int .i64 (inPart (made xs) cs s))]) ?_ ?_
  · refine c_loop (fun m S1 L1 F1 => S1 = S7 ∧ L1 = [] ∧ ∃ (i : Nat) (q : Int), m = cs.length - i ∧ i ≤ cs.length ∧ q = inPart (made xs) (cs.take i) s ∧ F1 = [(4, .bool bd), (11, .bool true), (12, .slice D (made xs).length cD), (14, .slice E ls.length cE), (15, .slice C cs.length cC), (17, .int .i64 nx), (82, .slice (some ⟨b4, 0, none⟩) 2 2), (83, .int .i64 (2 : Nat)), (84, .int .i64 k), (21, va), (23, .int .i64 q), (24, .int .i64 i)]) ⟨rfl, rfl, 0, 0, rfl, by omega, by simp [inPart], rfl⟩ (by repeat (first | exact Sub.nil rfl | exact Sub.marked rfl | refine Sub.cons rfl ?_)) (by repeat (first | exact List.Sublist.refl _ | exact List.Sublist.slnil | exact List.nil_sublist _ | exact List.sublist_append_left _ _ | refine List.Sublist.cons_cons _ ?_ | refine List.Sublist.append (List.Sublist.refl _) ?_ | refine List.Sublist.cons _ ?_)) ?_
    rintro m S1 L1 F1 ⟨rfl, rfl, i, q, rfl, hi, hq, rfl⟩
    by_cases hil : i < cs.length
    rotate_left
    · obtain rfl : i = cs.length := by omega
      rw [List.take_of_length_le (Nat.le_refl _)] at hq
      subst hq
      (repeat (first | refine Jz ?_ | intro _))
      exact q_cut ⟨rfl, rfl, rfl⟩ (by repeat (first | exact Sub.nil rfl | exact Sub.marked rfl | refine Sub.cons rfl ?_)) (by repeat (first | exact List.Sublist.refl _ | exact List.Sublist.slnil | exact List.nil_sublist _ | exact List.sublist_append_left _ _ | refine List.Sublist.cons_cons _ ?_ | refine List.Sublist.append (List.Sublist.refl _) ?_ | refine List.Sublist.cons _ ?_))
    obtain ⟨x, hx1⟩ := at_lt hil
    have hsn := inPart_snoc (made xs) (cs.take i) s x
    rw [← take_at hx1, ← hq] at hsn
    have hxh := hhas x (List.mem_of_getElem? hx1) s
    have hqb := inPart_le (made xs) (cs.take i) s
    have htk : (cs.take i).length ≤ 20 := by simp; omega
    cases hon : onAt (made xs) s x.toNat
    all_goals rw [hon] at hxh hsn
    all_goals (repeat (first | refine Jc ?_ | (apply s_idx hC7; (case hg => rfl); (case hd => rfl); (case hx => rfl); (case hi => rfl); (case hm => rfl); (case hu => exact hx1); intro p (hp : Pts _ p [_])) | (apply s_load1; (case hg => rfl); (case hd => rfl); (case hx => rfl); (case hv => exact hp)) | (apply z_call; rfl; rfl; rfl; exact has_v hxh h7 (by omega); rintro _ _ _ - ⟨rfl, rfl, rfl⟩) | refine Jo ?_ | intro _))
    all_goals simp at hsn
    all_goals exact q_back (m' := cs.length - (i + 1)) ⟨rfl, rfl, i + 1, _, rfl, by omega, (by first | exact hsn.symm | omega), rfl⟩ (by omega) (by repeat (first | exact Sub.nil rfl | exact Sub.marked rfl | refine Sub.cons rfl ?_)) (by repeat (first | exact List.Sublist.refl _ | exact List.Sublist.slnil | exact List.nil_sublist _ | exact List.sublist_append_left _ _ | refine List.Sublist.cons_cons _ ?_ | refine List.Sublist.append (List.Sublist.refl _) ?_ | refine List.Sublist.cons _ ?_))
  rintro S1 L1 F1 ⟨rfl, rfl, rfl⟩
  have hsp := hall s hs0.1
  have hins := hin s
  simp only [splitB, worst] at hsp hnx
  generalize hns : inPart (made xs) cs s = n1 at *
  rcases hnx with ⟨hneg, _⟩ | ⟨hnx0, hnx1, _, hsplit, _⟩
  · have hno := hsp.1 (by omega)
    simp at hno
    by_cases hq0 : 0 < n1
    all_goals (repeat (first | refine Jz ?_ | intro _))
    all_goals exact q_back (m' := 2 - (k + 1)) ⟨hle.trans hle7, rfl, k + 1, rfl, by omega, rfl⟩ (by omega) (by repeat (first | exact Sub.nil rfl | exact Sub.marked rfl | refine Sub.cons rfl ?_)) (by repeat (first | exact List.Sublist.refl _ | exact List.Sublist.slnil | exact List.nil_sublist _ | exact List.sublist_append_left _ _ | refine List.Sublist.cons_cons _ ?_ | refine List.Sublist.append (List.Sublist.refl _) ?_ | refine List.Sublist.cons _ ?_))
  have hbest := hsp.2 hnx0
  simp at hsplit hbest
  have hinx := hin nx
  generalize hms : inPart (made xs) cs nx = m1 at *
  (repeat (first | refine Jc ?_ | (apply z_call; rfl; rfl; rfl; exact active_ok (t := nx) (hr2.le (by repeat (first | exact Le.refl _ | assumption | refine Le.trans ?_ (by assumption)))) hv ⟨hnx0, hnx1⟩; rintro S8 _ v8 hle8 ⟨rfl, vb, rfl, h8⟩) | refine Jo ?_ | intro _))
  have hC8 : At S8 C cs := hC.le (by repeat (first | exact Le.refl _ | assumption | refine Le.trans ?_ (by assumption)))
  refine c_meetB (fun S2 L2 F2 => S2 = S8 ∧ L2 = [] ∧ F2 = [(4, .bool bd), (11, .bool true), (12, .slice D (made xs).length cD), (14, .slice E ls.length cE), (15, .slice C cs.length cC), (17, .int .i64 nx), (82, .slice (some ⟨b4, 0, none⟩) 2 2), (83, .int .i64 (2 : Nat)), (84, .int .i64 k), (23, .int .i64 n1), (26, vb), (27, .int .i64 0), (28, .int .i64 m1)]) ?_ ?_
  · refine c_loop (fun m S2 L2 F2 => S2 = S8 ∧ L2 = [] ∧ ∃ (i : Nat) (q : Int), m = cs.length - i ∧ i ≤ cs.length ∧ q = inPart (made xs) (cs.take i) nx ∧ F2 = [(4, .bool bd), (11, .bool true), (12, .slice D (made xs).length cD), (14, .slice E ls.length cE), (15, .slice C cs.length cC), (17, .int .i64 nx), (82, .slice (some ⟨b4, 0, none⟩) 2 2), (83, .int .i64 (2 : Nat)), (84, .int .i64 k), (23, .int .i64 n1), (26, vb), (27, .int .i64 0), (28, .int .i64 q), (29, .int .i64 i)]) ⟨rfl, rfl, 0, 0, rfl, by omega, by simp [inPart], rfl⟩ (by repeat (first | exact Sub.nil rfl | exact Sub.marked rfl | refine Sub.cons rfl ?_)) (by repeat (first | exact List.Sublist.refl _ | exact List.Sublist.slnil | exact List.nil_sublist _ | exact List.sublist_append_left _ _ | refine List.Sublist.cons_cons _ ?_ | refine List.Sublist.append (List.Sublist.refl _) ?_ | refine List.Sublist.cons _ ?_)) ?_
    rintro m S2 L2 F2 ⟨rfl, rfl, i, q, rfl, hi, hq, rfl⟩
    by_cases hil : i < cs.length
    rotate_left
    · obtain rfl : i = cs.length := by omega
      rw [List.take_of_length_le (Nat.le_refl _), hms] at hq
      subst hq
      (repeat (first | refine Jz ?_ | intro _))
      exact q_cut ⟨rfl, rfl, rfl⟩ (by repeat (first | exact Sub.nil rfl | exact Sub.marked rfl | refine Sub.cons rfl ?_)) (by repeat (first | exact List.Sublist.refl _ | exact List.Sublist.slnil | exact List.nil_sublist _ | exact List.sublist_append_left _ _ | refine List.Sublist.cons_cons _ ?_ | refine List.Sublist.append (List.Sublist.refl _) ?_ | refine List.Sublist.cons _ ?_))
    obtain ⟨x, hx1⟩ := at_lt hil
    have hsn := inPart_snoc (made xs) (cs.take i) nx x
    rw [← take_at hx1, ← hq] at hsn
    have hxh := hhas x (List.mem_of_getElem? hx1) nx
    have hqb := inPart_le (made xs) (cs.take i) nx
    have htk : (cs.take i).length ≤ 20 := by simp; omega
    cases hon : onAt (made xs) nx x.toNat
    all_goals rw [hon] at hxh hsn
    all_goals (repeat (first | refine Jc ?_ | (apply s_idx hC8; (case hg => rfl); (case hd => rfl); (case hx => rfl); (case hi => rfl); (case hm => rfl); (case hu => exact hx1); intro p (hp : Pts _ p [_])) | (apply s_load1; (case hg => rfl); (case hd => rfl); (case hx => rfl); (case hv => exact hp)) | (apply z_call; rfl; rfl; rfl; exact has_v hxh h8 (by omega); rintro _ _ _ - ⟨rfl, rfl, rfl⟩) | refine Jo ?_ | intro _))
    all_goals simp at hsn
    all_goals exact q_back (m' := cs.length - (i + 1)) ⟨rfl, rfl, i + 1, _, rfl, by omega, (by first | exact hsn.symm | omega), rfl⟩ (by omega) (by repeat (first | exact Sub.nil rfl | exact Sub.marked rfl | refine Sub.cons rfl ?_)) (by repeat (first | exact List.Sublist.refl _ | exact List.Sublist.slnil | exact List.nil_sublist _ | exact List.sublist_append_left _ _ | refine List.Sublist.cons_cons _ ?_ | refine List.Sublist.append (List.Sublist.refl _) ?_ | refine List.Sublist.cons _ ?_))
  rintro S2 L2 F2 ⟨rfl, rfl, rfl⟩
  have hcard' := hcard nx
  rw [hms] at hcard'
  have hva := validB_add hvl ⟨hnx0, hnx1⟩ bd (by omega)
  have haft := hadd nx
  have hE8 : At S2 E ls := hE.le (by repeat (first | exact Le.refl _ | assumption | refine Le.trans ?_ (by assumption)))
  have hall2 : ∀ x ∈ cs.filter (fun i => onAt (made xs) nx i.toNat == bd), x ∈ cs ∧ onAt (made xs) nx x.toNat = bd := fun x h => by simpa using h
  generalize hfl : cs.filter (fun i => onAt (made xs) nx i.toNat == bd) = fl at *
  have hflc : fl.length ≤ cs.length := by rw [← hfl]; exact List.length_filter_le _ _
  repeat refine c_seq ?_
  refine c_meet (fun S3 L3 F3 => S3 = S2 ∧ L3 = [] ∧ F3 = [(182, .bool false), (4, .bool bd), (11, .bool true), (12, .slice D (made xs).length cD), (14, .slice E ls.length cE), (15, .slice C cs.length cC), (17, .int .i64 nx), (82, .slice (some ⟨b4, 0, none⟩) 2 2), (83, .int .i64 (2 : Nat)), (84, .int .i64 k), (23, .int .i64 n1), (26, vb), (28, .int .i64 m1)]) ?_ ?_
  · by_cases hq0 : 0 < n1
    · by_cases hq1 : n1 < cs.length
      · (repeat (first | refine Jz ?_ | intro _))
        exact q_cut ⟨rfl, rfl, rfl⟩ (by repeat (first | exact Sub.nil rfl | exact Sub.marked rfl | refine Sub.cons rfl ?_)) (by repeat (first | exact List.Sublist.refl _ | exact List.Sublist.slnil | exact List.nil_sublist _ | exact List.sublist_append_left _ _ | refine List.Sublist.cons_cons _ ?_ | refine List.Sublist.append (List.Sublist.refl _) ?_ | refine List.Sublist.cons _ ?_))
      · (repeat (first | refine Jz ?_ | intro _))
        exact q_cut ⟨rfl, rfl, rfl⟩ (by repeat (first | exact Sub.nil rfl | exact Sub.marked rfl | refine Sub.cons rfl ?_)) (by repeat (first | exact List.Sublist.refl _ | exact List.Sublist.slnil | exact List.nil_sublist _ | exact List.sublist_append_left _ _ | refine List.Sublist.cons_cons _ ?_ | refine List.Sublist.append (List.Sublist.refl _) ?_ | refine List.Sublist.cons _ ?_))
    · (repeat (first | refine Jz ?_ | intro _))
      exact q_cut ⟨rfl, rfl, rfl⟩ (by repeat (first | exact Sub.nil rfl | exact Sub.marked rfl | refine Sub.cons rfl ?_)) (by repeat (first | exact List.Sublist.refl _ | exact List.Sublist.slnil | exact List.nil_sublist _ | exact List.sublist_append_left _ _ | refine List.Sublist.cons_cons _ ?_ | refine List.Sublist.append (List.Sublist.refl _) ?_ | refine List.Sublist.cons _ ?_))
  rintro S4 L4 F4 ⟨rfl, rfl, rfl⟩
  (repeat (first | refine Jz ?_ | intro _))
  rename_i b0
  have ho0 := Ows.full (α := Tri) (e := 49) (g := b0) (cs := []) (l := []) rfl (by decide)
  (repeat (first | refine Jc ?_ | (apply s_append_st (ms := ls) hE8; (case hg => rfl); (case hd => rfl); (case hx => rfl); (case ho => exact ho0); (case hL => (repeat (first | exact pm_nil _ | exact pm_refl _ _ | exact pm_self _ | apply pm_cons | apply pm_app))); (case hy => rfl); (case hm => first | rfl | simp); (case hzs => rfl); (case h0 => decide); (case hb => first | (simp; omega) | simp); (case h63 => first | (simp; omega) | simp); intro v1' ob1 ho1) | (apply s_append (ms := [(⟨nx, bd⟩ : Tri)]); (case hg => rfl); (case hd => rfl); (case hx => rfl); (case ho => exact ho1); (case hL => (repeat (first | exact pm_nil _ | exact pm_refl _ _ | exact pm_self _ | apply pm_cons | apply pm_app))); (case hy => rfl); (case hm => rfl); (case hs => (apply Src.own; (repeat (first | exact List.Mem.head _ | apply List.Mem.tail | apply List.mem_append_right)))); (case hzs => rfl); (case h0 => decide); (case hb => (simp; omega)); (case h63 => (simp; omega)); intro v2' ob2 ho2; refine W.freezeOws ho2 (by repeat (first | exact pm_nil _ | exact pm_refl _ _ | exact pm_self _ | refine pm_cons ?_ | refine pm_app ?_)) fun S9 hle9 hr9 => ?_) | (apply z_call; rfl; rfl; rfl; exact cands_ok (ls := ls ++ [⟨nx, bd⟩]) (wr := 0) (hr2.le (by repeat (first | exact Le.refl _ | assumption | refine Le.trans ?_ (by assumption)))) hr9 hva (by omega); rintro S10 _ v10 hle10 ⟨rfl, u10, rfl, h10⟩) | refine Jo ?_ | intro _))
  rw [haft] at h10
  obtain ⟨G, cG, rfl, hcG, hG⟩ := h10
  refine c_meet (fun S3 L3 F3 => S3 = S10 ∧ L3 = [] ∧ F3 = [(33, .int .i64 fl.length), (31, .slice G fl.length cG), (32, .int .i64 0), (4, .bool bd), (11, .bool true), (12, .slice D (made xs).length cD), (14, .slice E ls.length cE), (15, .slice C cs.length cC), (17, .int .i64 nx), (82, .slice (some ⟨b4, 0, none⟩) 2 2), (83, .int .i64 (2 : Nat)), (84, .int .i64 k), (26, vb)]) ?_ ?_
  · cases bd
    · simp at hcard'
      rw [hcard']
      (repeat (first | refine Jz ?_ | intro _))
      exact q_cut ⟨rfl, rfl, rfl⟩ (by repeat (first | exact Sub.nil rfl | exact Sub.marked rfl | refine Sub.cons rfl ?_)) (by repeat (first | exact List.Sublist.refl _ | exact List.Sublist.slnil | exact List.nil_sublist _ | exact List.sublist_append_left _ _ | refine List.Sublist.cons_cons _ ?_ | refine List.Sublist.append (List.Sublist.refl _) ?_ | refine List.Sublist.cons _ ?_))
    · simp at hcard'
      rw [hcard']
      (repeat (first | refine Jz ?_ | intro _))
      exact q_cut ⟨rfl, rfl, rfl⟩ (by repeat (first | exact Sub.nil rfl | exact Sub.marked rfl | refine Sub.cons rfl ?_)) (by repeat (first | exact List.Sublist.refl _ | exact List.Sublist.slnil | exact List.nil_sublist _ | exact List.sublist_append_left _ _ | refine List.Sublist.cons_cons _ ?_ | refine List.Sublist.append (List.Sublist.refl _) ?_ | refine List.Sublist.cons _ ?_))
  rintro S11 L11 F11 ⟨rfl, rfl, rfl⟩
  (repeat (first | refine Jz ?_ | intro _))
  refine c_loop (fun m S2 L2 F2 => S2 = S11 ∧ L2 = [] ∧ ∃ (i : Nat), m = fl.length - i ∧ i ≤ fl.length ∧ F2 = [(31, .slice G fl.length cG), (4, .bool bd), (11, .bool true), (12, .slice D (made xs).length cD), (14, .slice E ls.length cE), (15, .slice C cs.length cC), (17, .int .i64 nx), (82, .slice (some ⟨b4, 0, none⟩) 2 2), (83, .int .i64 (2 : Nat)), (84, .int .i64 k), (26, vb), (34, .int .i64 i)]) ⟨rfl, rfl, 0, rfl, by omega, rfl⟩ (by repeat (first | exact Sub.nil rfl | exact Sub.marked rfl | refine Sub.cons rfl ?_)) (by repeat (first | exact List.Sublist.refl _ | exact List.Sublist.slnil | exact List.nil_sublist _ | exact List.sublist_append_left _ _ | refine List.Sublist.cons_cons _ ?_ | refine List.Sublist.append (List.Sublist.refl _) ?_ | refine List.Sublist.cons _ ?_)) ?_
  rintro m S2 L2 F2 ⟨rfl, rfl, i, rfl, hi, rfl⟩
  by_cases hil : i < fl.length
  rotate_left
  · (repeat (first | refine Jz ?_ | intro _))
    refine q_back (m' := 2 - (k + 1)) ⟨(by repeat (first | exact Le.refl _ | assumption | refine Le.trans ?_ (by assumption))), rfl, k + 1, rfl, by omega, rfl⟩ (by omega) (by repeat (first | exact Sub.nil rfl | exact Sub.marked rfl | refine Sub.cons rfl ?_)) (by repeat (first | exact List.Sublist.refl _ | exact List.Sublist.slnil | exact List.nil_sublist _ | exact List.sublist_append_left _ _ | refine List.Sublist.cons_cons _ ?_ | refine List.Sublist.append (List.Sublist.refl _) ?_ | refine List.Sublist.cons _ ?_))
  obtain ⟨x, hx1⟩ := at_lt hil
  obtain ⟨hxc, hxb⟩ := hall2 x (List.mem_of_getElem? hx1)
  have hxh := hhas x hxc nx
  rw [hxb] at hxh
  have hcx : cs.contains x = true := by simpa using hxc
  have hqc : Sr S2 (.slice C cs.length cC) cs := ⟨C, cC, rfl, hcC, hC.le (by repeat (first | exact Le.refl _ | assumption | refine Le.trans ?_ (by assumption)))⟩
  have h8' : Sr S2 vb (actives (made xs) nx) := h8.le (by repeat (first | exact Le.refl _ | assumption | refine Le.trans ?_ (by assumption)))
  cases bd
  all_goals
    (repeat (first | refine Jc ?_ | (apply s_idx hG; (case hg => rfl); (case hd => rfl); (case hx => rfl); (case hi => rfl); (case hm => rfl); (case hu => exact hx1); intro p (hp : Pts _ p [_])) | (apply s_load1; (case hg => rfl); (case hd => rfl); (case hx => rfl); (case hv => exact hp)) | (apply z_call; rfl; rfl; rfl; exact has_v hxh h8' (by omega); rintro _ _ _ - ⟨rfl, rfl, rfl⟩) | (apply z_call; rfl; rfl; rfl; exact has_v hcx hqc (by omega); rintro _ _ _ - ⟨rfl, rfl, rfl⟩) | refine Jo ?_ | intro _))
    exact q_back (m' := fl.length - (i + 1)) ⟨rfl, rfl, i + 1, rfl, by omega, rfl⟩ (by omega) (by repeat (first | exact Sub.nil rfl | exact Sub.marked rfl | refine Sub.cons rfl ?_)) (by repeat (first | exact List.Sublist.refl _ | exact List.Sublist.slnil | exact List.nil_sublist _ | exact List.sublist_append_left _ _ | refine List.Sublist.cons_cons _ ?_ | refine List.Sublist.append (List.Sublist.refl _) ?_ | refine List.Sublist.cons _ ?_))
end Go.Proofs.Ytmonkjbhoabhhaa
namespace Go.Proofs.Ytmonkjbhoabhhaa
open Go Go.X
open Go.ChangeShapes Go.WideShapes Go.ChangeAt Go.RowKit
set_option linter.unusedVariables false
set_option maxRecDepth 100000 in
theorem lifted5 (os : Os) (started : os.Started) (H : Type) (enc : TypeId × Value → H) :
    ReturnsInHanded {} Try.checked os 5 .any (Rows.bisectSplitsSpec.pre6 enc Try.prog Try.f5 Rows.bisectSplitsRow.domain false) (Rows.bisectSplitsSpec.post enc Try.prog Try.f5 false true false false) := by
  refine returnsInHanded_of_change (C := Try.checked) own started (by kernel_rfl) Try.func5
    (ChangeSpec.witness6 (enc := enc) (C := Try.checked) false ⟨#[], #[.slice none 0 0, .int .i64 0, .slice none 0 0, .int .i64 0, .bool false], []⟩ 8 (by kernel_rfl) (by kernel_rfl) (by kernel_rfl) (by kernel_rfl)) ?_
  intro W base args ds gs before hval0 hW hcnd _
  have hval : ∀ (j : Nat) t v, Try.f5.params[j]? = some t → args[j]? = some v → Value.okWide Try.prog W .any base t v := hval0
  have hW' := hW
  obtain ⟨p, q, hA0, hV, rfl, hfz, hnd⟩ := hW
  have hA : DataW.TrodAll enc Try.prog W 0 (fun _ => true) true Try.f5.params.toList args.toList ds p := hA0
  rw [Try.params5] at hA hval
  obtain ⟨v0, vs0, d0, ds0, p0, q0, hargs, rfl, rfl, h0, r0⟩ := trodAll_cons hA
  obtain ⟨v1, vs1, d1, ds1, p1, q1, rfl, rfl, rfl, h1, r1⟩ := trodAll_cons r0
  obtain ⟨v2, vs2, d2, ds2, p2, q2, rfl, rfl, rfl, h2, r2⟩ := trodAll_cons r1
  obtain ⟨v3, vs3, d3, ds3, p3, q3, rfl, rfl, rfl, h3, r3⟩ := trodAll_cons r2
  obtain ⟨v4, vs4, d4, ds4, p4, q4, rfl, rfl, rfl, h4, r4⟩ := trodAll_cons r3
  obtain ⟨rfl, rfl, rfl⟩ := trodAll_nil r4
  obtain rfl : args = #[v0, v1, v2, v3, v4] := by cases args; simp_all
  obtain ⟨rfl, rfl⟩ := trodVars_none hV
  have k0 := h0
  have lt0 : ∀ x ∈ p0, x.block < W.heap.size := by obtain ⟨m, hm⟩ := k0; exact DataW.trod_lt m _ _ _ hm
  have k1 := h1
  have lt1 : ∀ x ∈ p1, x.block < W.heap.size := by obtain ⟨m, hm⟩ := k1; exact DataW.trod_lt m _ _ _ hm
  have k2 := h2
  have lt2 : ∀ x ∈ p2, x.block < W.heap.size := by obtain ⟨m, hm⟩ := k2; exact DataW.trod_lt m _ _ _ hm
  have k3 := h3
  have lt3 : ∀ x ∈ p3, x.block < W.heap.size := by obtain ⟨m, hm⟩ := k3; exact DataW.trod_lt m _ _ _ hm
  have k4 := h4
  have lt4 : ∀ x ∈ p4, x.block < W.heap.size := by obtain ⟨m, hm⟩ := k4; exact DataW.trod_lt m _ _ _ hm
  obtain ⟨a0, len0, cap0, rfl⟩ := okWide_slice Try.underlying24 (hval 0 24 v0 rfl rfl)
  obtain ⟨xs0, rfl, gl0, gA0, gx0⟩ := open_sl (α := T3) Try.underlying24 (by kernel_rfl) rdb_T3 rfl h0
  obtain ⟨a1, rfl, e1_1, e2_1, w1⟩ := open_int Try.underlying3 (hval 1 3 v1 rfl rfl) h1
  obtain ⟨a2, len2, cap2, rfl⟩ := okWide_slice Try.underlying25 (hval 2 25 v2 rfl rfl)
  obtain ⟨xs2, rfl, gl2, gA2, gx2⟩ := open_sl (α := T2) Try.underlying25 (by kernel_rfl) rdb_T2 rfl h2
  obtain ⟨a3, rfl, e1_3, e2_3, w3⟩ := open_int Try.underlying3 (hval 3 3 v3 rfl rfl) h3
  obtain ⟨a4, rfl, e1_4, e2_4⟩ := open_bool Try.underlying4 (hval 4 4 v4 rfl rfl) h4
  refine (calls_of_con (f5_law xs0 a0 cap0 a1 xs2 a2 cap2 a3 a4 (allOf W) gA0 gl0 gx0 (i64_wf w1) gA2 gl2 gx2 (i64_wf w3)) fun _ _ _ h => h).mono fun e W' ⟨he, bel⟩ => ?_
  subst he
  exact ⟨_, rfl, _, _, _, [], _, [], hW', trodAll_mk1 (shut_bool Try.underlying4 _), (trodAll_cons_mk (Below.trod laidOut (by kernel_rfl) (of_decide_eq_true (by kernel_rfl)) k0 bel lt0) (trodAll_cons_mk (Below.trod laidOut (by kernel_rfl) (of_decide_eq_true (by kernel_rfl)) k1 bel lt1) (trodAll_cons_mk (Below.trod laidOut (by kernel_rfl) (of_decide_eq_true (by kernel_rfl)) k2 bel lt2) (trodAll_cons_mk (Below.trod laidOut (by kernel_rfl) (of_decide_eq_true (by kernel_rfl)) k3 bel lt3) (trodAll_cons_mk (Below.trod laidOut (by kernel_rfl) (of_decide_eq_true (by kernel_rfl)) k4 bel lt4) trodAll_mk0))))), rfl, bel.frame _, fun h => by cases h⟩
theorem over5 : Rows.bisectSplitsRow.holds Try.pinned (OpenSpec.ofChange Rows.bisectSplitsSpec) :=
  OpenClaim.holds_of_wide 5 Try.f5 rfl rfl rfl rfl rfl rfl rfl ⟨rfl, rfl, rfl, rfl, rfl⟩ rfl rfl rfl rfl rfl (by kernel_rfl) Try.func5 (by kernel_rfl)
    (of_decide_eq_true (by kernel_rfl)) (by unfold Func.isWrapper; rw [if_neg (of_decide_eq_false (by kernel_rfl))]; exact ⟨rfl, rfl⟩)
    (fun os started H enc _ => lifted5 os started H enc)
theorem bisectSplits_holds : Rows.BisectSplitsSaid := over5
#print axioms bisectSplits_holds
end Go.Proofs.Ytmonkjbhoabhhaa
