/- DiskNewMatches returns true for every input, and each argument reads afterwards as it read before; no condition. -/
import Derived.Test.YtdbkjegpeoopaaaBb
namespace Go.Proofs.Ytdbkjegpeoopaaa
open Go Go.X
set_option maxRecDepth 10000
set_option linter.unusedVariables false
attribute [local irreducible] Code.wpIn wpListIn Exit.then Exit.inBlock X.Out X.Back X.W X.Ev X.Con X.BinV X.Wh X.Wn X.Wq
theorem f3_law (size at_ : Int) (S : SH) (h0 : i64 size) (h1 : i64 at_) : Con Try.prog 3 #[.int .i64 size, .int .i64 at_] S [] (fun _ _ v => v = .bool true) := by
  refine con_of (args := [.int .i64 size, .int .i64 at_]) Try.func3 rfl Try.ntmps3 rfl fun w => ?_
  by_cases c1 : size < 1
  · (repeat (first | refine Jc ?_ | (apply s_call; (case hg => rfl); (case hd => rfl); (case ha => rfl); (case hc => exact sane_con _); (case hL => (repeat (first | exact pm_nil _ | exact pm_refl _ _ | exact pm_self _ | apply pm_cons | apply pm_app))); rintro S1 _ _ hle1 ⟨rfl, rfl⟩) | (apply s_call; (case hg => rfl); (case hd => rfl); (case ha => rfl); (case hc => exact New_n (.inl c1) h0); (case hL => (repeat (first | exact pm_nil _ | exact pm_refl _ _ | exact pm_self _ | apply pm_cons | apply pm_app))); rintro _ _ _ - ⟨rfl, rfl, rfl⟩) | (apply s_evb; (case hg => rfl); (case hd => rfl); (case hn => rfl); (case he => (apply ev_eql_p; (case hx => rfl); (case hy => rfl)))) | refine Jo ?_ | intro _))
    exact o_ret Try.results3 rfl (by repeat (first | exact List.Sublist.refl _ | exact List.Sublist.slnil | exact List.nil_sublist _ | exact List.sublist_append_left _ _ | refine List.Sublist.cons_cons _ ?_ | refine List.Sublist.append (List.Sublist.refl _) ?_ | refine List.Sublist.cons _ ?_ | refine List.Sublist.trans ?_ (List.sublist_append_right _ _))) rfl
  by_cases c2 : 4194304 < size
  · (repeat (first | refine Jc ?_ | (apply s_call; (case hg => rfl); (case hd => rfl); (case ha => rfl); (case hc => exact sane_con _); (case hL => (repeat (first | exact pm_nil _ | exact pm_refl _ _ | exact pm_self _ | apply pm_cons | apply pm_app))); rintro S1 _ _ hle1 ⟨rfl, rfl⟩) | (apply s_call; (case hg => rfl); (case hd => rfl); (case ha => rfl); (case hc => exact New_n (.inr c2) h0); (case hL => (repeat (first | exact pm_nil _ | exact pm_refl _ _ | exact pm_self _ | apply pm_cons | apply pm_app))); rintro _ _ _ - ⟨rfl, rfl, rfl⟩) | (apply s_evb; (case hg => rfl); (case hd => rfl); (case hn => rfl); (case he => (apply ev_eql_p; (case hx => rfl); (case hy => rfl)))) | refine Jo ?_ | intro _))
    exact o_ret Try.results3 rfl (by repeat (first | exact List.Sublist.refl _ | exact List.Sublist.slnil | exact List.nil_sublist _ | exact List.sublist_append_left _ _ | refine List.Sublist.cons_cons _ ?_ | refine List.Sublist.append (List.Sublist.refl _) ?_ | refine List.Sublist.cons _ ?_ | refine List.Sublist.trans ?_ (List.sublist_append_right _ _))) rfl
  obtain ⟨N, rfl⟩ : ∃ N : Nat, size = N := ⟨size.toNat, by omega⟩
  have hp := pick_lt at_ N (by omega)
  generalize hpp : pick at_ N = p at hp
  have hp64 : i64 p := ⟨by omega, by omega⟩
  have hr : readV (newD N) p 1 = .tuple #[strV [0], .int .i64 0] := by
    have hin : insideB (newD N).dur.length p 1 = true := by simp [insideB, newD]; omega
    have hd : ((newD N).vis.drop p.toNat).take (1 : Int).toNat = [0] := by
      simp only [newD, List.drop_replicate, List.take_replicate]
      rw [show min (1 : Int).toNat (N - p.toNat) = 1 by omega]; rfl
    simp only [readV, hin, hd]
    simp [newD]
  (repeat (first | refine Jc ?_ | (apply s_call; (case hg => rfl); (case hd => rfl); (case ha => rfl); (case hc => exact sane_con _); (case hL => (repeat (first | exact pm_nil _ | exact pm_refl _ _ | exact pm_self _ | apply pm_cons | apply pm_app))); rintro S1 _ _ hle1 ⟨rfl, rfl⟩) | (apply s_call; (case hg => rfl); (case hd => rfl); (case ha => rfl); (case hc => exact New_v rfl (by omega)); (case hL => (repeat (first | exact pm_nil _ | exact pm_refl _ _ | exact pm_self _ | apply pm_cons | apply pm_app))); rintro S2 L2 _ - ⟨rfl, v, hO, rfl⟩; obtain ⟨b, rfl⟩ := hO.form) | (apply s_evb; (case hg => rfl); (case hd => rfl); (case hn => rfl); (case he => (apply ev_eql_p; (case hx => rfl); (case hy => rfl)))) | (apply s_call; (case hg => rfl); (case hd => rfl); (case ha => rfl); (case hc => exact pick_v h1 (by omega) hpp); (case hL => (repeat (first | exact pm_nil _ | exact pm_refl _ _ | exact pm_self _ | apply pm_cons | apply pm_app))); rintro _ _ _ - ⟨rfl, rfl, rfl⟩) | (apply s_call; (case hg => rfl); (case hd => rfl); (case ha => rfl); (case hc => exact Read_v hO hp64 (i64_d rfl) hr); (case hL => (repeat (first | exact pm_nil _ | exact pm_refl _ _ | exact pm_self _ | apply pm_cons | apply pm_app))); rintro _ L3 _ - ⟨rfl, hO1, rfl⟩) | (apply s_call; (case hg => rfl); (case hd => rfl); (case ha => rfl); (case hc => exact Size_v hO1 (n := N) (by simp [newD])); (case hL => (repeat (first | exact pm_nil _ | exact pm_refl _ _ | exact pm_self _ | apply pm_cons | apply pm_app))); rintro _ L4 _ - ⟨rfl, hO2, rfl⟩) | (apply s_call; (case hg => rfl); (case hd => rfl); (case ha => rfl); (case hc => exact Pending_v hO2 (n := 0) rfl); (case hL => (repeat (first | exact pm_nil _ | exact pm_refl _ _ | exact pm_self _ | apply pm_cons | apply pm_app))); rintro _ L5 _ - ⟨rfl, hO3, rfl⟩) | (apply s_evb; (case hg => rfl); (case hd => rfl); (case hn => rfl); (case he => (apply ev_eql_bv (r := true); (case hx => rfl); (case hy => rfl); (case h => first | decide | assumption | (simp; done))))) | (apply s_evb; (case hg => rfl); (case hd => rfl); (case hn => rfl); (case he => (apply ev_eql_bv (r := false); (case hx => rfl); (case hy => rfl); (case h => first | decide | assumption | (simp; done))))) | refine Jo ?_ | intro _))
  exact o_ret Try.results3 rfl (by repeat (first | exact List.Sublist.refl _ | exact List.Sublist.slnil | exact List.nil_sublist _ | exact List.sublist_append_left _ _ | refine List.Sublist.cons_cons _ ?_ | refine List.Sublist.append (List.Sublist.refl _) ?_ | refine List.Sublist.cons _ ?_ | refine List.Sublist.trans ?_ (List.sublist_append_right _ _))) rfl
end Go.Proofs.Ytdbkjegpeoopaaa
namespace Go.Proofs.Ytdbkjegpeoopaaa
open Go Go.X
open Go.ChangeShapes Go.WideShapes Go.ChangeAt Go.RowKit
set_option linter.unusedVariables false
set_option maxRecDepth 100000 in
theorem lifted3 (os : Os) (started : os.Started) (H : Type) (enc : TypeId × Value → H) :
    ReturnsInHanded {} Try.checked os 3 .any (Rows.diskNewMatchesSpec.pre6 enc Try.prog Try.f3 Rows.diskNewMatchesRow.domain false) (Rows.diskNewMatchesSpec.post enc Try.prog Try.f3 false true false false) := by
  refine returnsInHanded_of_change (C := Try.checked) own started (by kernel_rfl) Try.func3
    (ChangeSpec.witness6 (enc := enc) (C := Try.checked) false ⟨#[], #[.int .i64 0, .int .i64 0], []⟩ 8 (by kernel_rfl) (by kernel_rfl) (by kernel_rfl) (by kernel_rfl)) ?_
  intro W base args ds gs before hval0 hW hcnd _
  have hval : ∀ (j : Nat) t v, Try.f3.params[j]? = some t → args[j]? = some v → Value.okWide Try.prog W .any base t v := hval0
  have hW' := hW
  obtain ⟨p, q, hA0, hV, rfl, hfz, hnd⟩ := hW
  have hA : DataW.TrodAll enc Try.prog W 0 (fun _ => true) true Try.f3.params.toList args.toList ds p := hA0
  rw [Try.params3] at hA hval
  obtain ⟨v0, vs0, d0, ds0, p0, q0, hargs, rfl, rfl, h0, r0⟩ := trodAll_cons hA
  obtain ⟨v1, vs1, d1, ds1, p1, q1, rfl, rfl, rfl, h1, r1⟩ := trodAll_cons r0
  obtain ⟨rfl, rfl, rfl⟩ := trodAll_nil r1
  obtain rfl : args = #[v0, v1] := by cases args; simp_all
  obtain ⟨rfl, rfl⟩ := trodVars_none hV
  have k0 := h0
  have lt0 : ∀ x ∈ p0, x.block < W.heap.size := by obtain ⟨m, hm⟩ := k0; exact DataW.trod_lt m _ _ _ hm
  have k1 := h1
  have lt1 : ∀ x ∈ p1, x.block < W.heap.size := by obtain ⟨m, hm⟩ := k1; exact DataW.trod_lt m _ _ _ hm
  obtain ⟨a0, rfl, e1_0, e2_0, w0⟩ := open_int Try.underlying3 (hval 0 3 v0 rfl rfl) h0
  obtain ⟨a1, rfl, e1_1, e2_1, w1⟩ := open_int Try.underlying3 (hval 1 3 v1 rfl rfl) h1
  refine (calls_of_con (f3_law a0 a1 (allOf W) (i64_wf w0) (i64_wf w1)) fun _ _ _ h => h).mono fun e W' ⟨he, bel⟩ => ?_
  subst he
  exact ⟨_, rfl, _, _, _, [], _, [], hW', trodAll_mk1 (shut_bool Try.underlying4 _), (trodAll_cons_mk (Below.trod laidOut (by kernel_rfl) (of_decide_eq_true (by kernel_rfl)) k0 bel lt0) (trodAll_cons_mk (Below.trod laidOut (by kernel_rfl) (of_decide_eq_true (by kernel_rfl)) k1 bel lt1) trodAll_mk0)), rfl, bel.frame _, fun h => by cases h⟩
theorem over3 : Rows.diskNewMatchesRow.holds Try.pinned (OpenSpec.ofChange Rows.diskNewMatchesSpec) :=
  OpenClaim.holds_of_wide 3 Try.f3 rfl rfl rfl rfl rfl rfl rfl ⟨rfl, rfl, rfl, rfl, rfl⟩ rfl rfl rfl rfl rfl (by kernel_rfl) Try.func3 (by kernel_rfl)
    (of_decide_eq_true (by kernel_rfl)) (by unfold Func.isWrapper; rw [if_neg (of_decide_eq_false (by kernel_rfl))]; exact ⟨rfl, rfl⟩)
    (fun os started H enc _ => lifted3 os started H enc)
theorem diskNewMatches_holds : Rows.DiskNewMatchesSaid := over3
#print axioms diskNewMatches_holds
end Go.Proofs.Ytdbkjegpeoopaaa
