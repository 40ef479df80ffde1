/- DiskNil returns true for every input, and each argument reads afterwards as it read before; no condition. -/
import Derived.Test.YtdbkjegpeoopaaaBb
namespace Go.Proofs.Ytdbkjegpeoopaaa
open Go Go.X
set_option maxRecDepth 10000
set_option linter.unusedVariables false
attribute [local irreducible] Code.wpIn wpListIn Exit.then Exit.inBlock X.Out X.Back X.W X.Ev X.Con X.BinV X.Wh X.Wn X.Wq
theorem check_nil (S : SH) : Con Try.prog 28 #[.pointer none] S [] (Pure S (.int .i64 1)) := by
  refine con_of (args := [.pointer none]) Try.func28 rfl Try.ntmps28 rfl fun w => ?_
  (repeat (first | refine Jc ?_ | (apply s_evb; (case hg => rfl); (case hd => rfl); (case hn => rfl); (case he => (apply ev_eql_p; (case hx => rfl); (case hy => rfl)))) | refine Jo ?_ | intro _))
  exact o_ret Try.results28 rfl (by repeat (first | exact List.Sublist.refl _ | exact List.Sublist.slnil | exact List.nil_sublist _ | exact List.sublist_append_left _ _ | refine List.Sublist.cons_cons _ ?_ | refine List.Sublist.append (List.Sublist.refl _) ?_ | refine List.Sublist.cons _ ?_ | refine List.Sublist.trans ?_ (List.sublist_append_right _ _))) ⟨rfl, rfl, rfl⟩
theorem Read_nil (off n : Int) (S : SH) : Con Try.prog 14 #[.pointer none, .int .i64 off, .int .i64 n] S [] (Pure S (.tuple #[strV [], .int .i64 1])) := by
  refine con_of (args := [.pointer none, .int .i64 off, .int .i64 n]) Try.func14 rfl Try.ntmps14 rfl fun w => ?_
  (repeat (first | refine Jc ?_ | (apply s_call; (case hg => rfl); (case hd => rfl); (case ha => rfl); (case hc => exact check_nil _); (case hL => (repeat (first | exact pm_nil _ | exact pm_refl _ _ | exact pm_self _ | apply pm_cons | apply pm_app))); rintro _ _ _ - ⟨rfl, rfl, rfl⟩) | refine Jo ?_ | intro _))
  exact o_ret2 Try.results14 rfl rfl (by repeat (first | exact List.Sublist.refl _ | exact List.Sublist.slnil | exact List.nil_sublist _ | exact List.sublist_append_left _ _ | refine List.Sublist.cons_cons _ ?_ | refine List.Sublist.append (List.Sublist.refl _) ?_ | refine List.Sublist.cons _ ?_ | refine List.Sublist.trans ?_ (List.sublist_append_right _ _))) ⟨rfl, rfl, rfl⟩
theorem Write_nil (off : Int) (s : Bs) (S : SH) : Con Try.prog 21 #[.pointer none, .int .i64 off, strV s] S [] (Pure S (.int .i64 1)) := by
  refine con_of (args := [.pointer none, .int .i64 off, strV s]) Try.func21 rfl Try.ntmps21 rfl fun w => ?_
  (repeat (first | refine Jc ?_ | (apply s_call; (case hg => rfl); (case hd => rfl); (case ha => rfl); (case hc => exact check_nil _); (case hL => (repeat (first | exact pm_nil _ | exact pm_refl _ _ | exact pm_self _ | apply pm_cons | apply pm_app))); rintro _ _ _ - ⟨rfl, rfl, rfl⟩) | refine Jo ?_ | intro _))
  exact o_ret Try.results21 rfl (by repeat (first | exact List.Sublist.refl _ | exact List.Sublist.slnil | exact List.nil_sublist _ | exact List.sublist_append_left _ _ | refine List.Sublist.cons_cons _ ?_ | refine List.Sublist.append (List.Sublist.refl _) ?_ | refine List.Sublist.cons _ ?_ | refine List.Sublist.trans ?_ (List.sublist_append_right _ _))) ⟨rfl, rfl, rfl⟩
theorem Sync_nil (S : SH) : Con Try.prog 23 #[.pointer none] S [] (Pure S (.int .i64 1)) := by
  refine con_of (args := [.pointer none]) Try.func23 rfl Try.ntmps23 rfl fun w => ?_
  (repeat (first | refine Jc ?_ | (apply s_call; (case hg => rfl); (case hd => rfl); (case ha => rfl); (case hc => exact check_nil _); (case hL => (repeat (first | exact pm_nil _ | exact pm_refl _ _ | exact pm_self _ | apply pm_cons | apply pm_app))); rintro _ _ _ - ⟨rfl, rfl, rfl⟩) | refine Jo ?_ | intro _))
  exact o_ret Try.results23 rfl (by repeat (first | exact List.Sublist.refl _ | exact List.Sublist.slnil | exact List.nil_sublist _ | exact List.sublist_append_left _ _ | refine List.Sublist.cons_cons _ ?_ | refine List.Sublist.append (List.Sublist.refl _) ?_ | refine List.Sublist.cons _ ?_ | refine List.Sublist.trans ?_ (List.sublist_append_right _ _))) ⟨rfl, rfl, rfl⟩
theorem Cut_nil (n : Int) (S : SH) : Con Try.prog 24 #[.pointer none, .int .i64 n] S [] (Pure S (.int .i64 1)) := by
  refine con_of (args := [.pointer none, .int .i64 n]) Try.func24 rfl Try.ntmps24 rfl fun w => ?_
  (repeat (first | refine Jc ?_ | (apply s_call; (case hg => rfl); (case hd => rfl); (case ha => rfl); (case hc => exact check_nil _); (case hL => (repeat (first | exact pm_nil _ | exact pm_refl _ _ | exact pm_self _ | apply pm_cons | apply pm_app))); rintro _ _ _ - ⟨rfl, rfl, rfl⟩) | refine Jo ?_ | intro _))
  exact o_ret Try.results24 rfl (by repeat (first | exact List.Sublist.refl _ | exact List.Sublist.slnil | exact List.nil_sublist _ | exact List.sublist_append_left _ _ | refine List.Sublist.cons_cons _ ?_ | refine List.Sublist.append (List.Sublist.refl _) ?_ | refine List.Sublist.cons _ ?_ | refine List.Sublist.trans ?_ (List.sublist_append_right _ _))) ⟨rfl, rfl, rfl⟩
theorem Crash_nil (A : Option Addr) (m c : Nat) (n : Int) (S : SH) : Con Try.prog 25 #[.pointer none, .slice A m c, .int .i64 n] S [] (Pure S (.int .i64 1)) := by
  refine con_of (args := [.pointer none, .slice A m c, .int .i64 n]) Try.func25 rfl Try.ntmps25 rfl fun w => ?_
  (repeat (first | refine Jc ?_ | (apply s_evb; (case hg => rfl); (case hd => rfl); (case hn => rfl); (case he => (apply ev_eql_p; (case hx => rfl); (case hy => rfl)))) | refine Jo ?_ | intro _))
  exact o_ret Try.results25 rfl (by repeat (first | exact List.Sublist.refl _ | exact List.Sublist.slnil | exact List.nil_sublist _ | exact List.sublist_append_left _ _ | refine List.Sublist.cons_cons _ ?_ | refine List.Sublist.append (List.Sublist.refl _) ?_ | refine List.Sublist.cons _ ?_ | refine List.Sublist.trans ?_ (List.sublist_append_right _ _))) ⟨rfl, rfl, rfl⟩
theorem Size_nil (S : SH) : Con Try.prog 16 #[.pointer none] S [] (Pure S (.int .i64 0)) := by
  refine con_of (args := [.pointer none]) Try.func16 rfl Try.ntmps16 rfl fun w => ?_
  (repeat (first | refine Jc ?_ | (apply s_evb; (case hg => rfl); (case hd => rfl); (case hn => rfl); (case he => (apply ev_eql_p; (case hx => rfl); (case hy => rfl)))) | refine Jo ?_ | intro _))
  exact o_ret Try.results16 rfl (by repeat (first | exact List.Sublist.refl _ | exact List.Sublist.slnil | exact List.nil_sublist _ | exact List.sublist_append_left _ _ | refine List.Sublist.cons_cons _ ?_ | refine List.Sublist.append (List.Sublist.refl _) ?_ | refine List.Sublist.cons _ ?_ | refine List.Sublist.trans ?_ (List.sublist_append_right _ _))) ⟨rfl, rfl, rfl⟩
theorem Pending_nil (S : SH) : Con Try.prog 17 #[.pointer none] S [] (Pure S (.int .i64 0)) := by
  refine con_of (args := [.pointer none]) Try.func17 rfl Try.ntmps17 rfl fun w => ?_
  (repeat (first | refine Jc ?_ | (apply s_evb; (case hg => rfl); (case hd => rfl); (case hn => rfl); (case he => (apply ev_eql_p; (case hx => rfl); (case hy => rfl)))) | refine Jo ?_ | intro _))
  exact o_ret Try.results17 rfl (by repeat (first | exact List.Sublist.refl _ | exact List.Sublist.slnil | exact List.nil_sublist _ | exact List.sublist_append_left _ _ | refine List.Sublist.cons_cons _ ?_ | refine List.Sublist.append (List.Sublist.refl _) ?_ | refine List.Sublist.cons _ ?_ | refine List.Sublist.trans ?_ (List.sublist_append_right _ _))) ⟨rfl, rfl, rfl⟩
theorem f5_law (off n : Int) (s : ByteArray) (ks : List Int) (A : Option Addr) (c : Nat) (S : SH) (h0 : i64 off) (h1 : i64 n) (hs : s.size ≤ maxLen) (hA : At S A ks) (hl : ks.length ≤ c) (hx : ∀ x ∈ ks, i64 x) :
    Con Try.prog 5 #[.int .i64 off, .int .i64 n, .string s, .slice A ks.length c] S [] (fun _ _ v => v = .bool true) := by
  obtain ⟨t, rfl⟩ : ∃ t : Bs, s = ⟨t.toArray⟩ := ⟨s.data.toList, rfl⟩
  refine con_of (args := [.int .i64 off, .int .i64 n, strV t, .slice A ks.length c]) Try.func5 rfl Try.ntmps5 rfl fun w => ?_
  (repeat (first | refine Jc ?_ | (apply s_call; (case hg => rfl); (case hd => rfl); (case ha => rfl); (case hc => exact sane_con _); (case hL => (repeat (first | exact pm_nil _ | exact pm_refl _ _ | exact pm_self _ | apply pm_cons | apply pm_app))); rintro S1 _ _ hle1 ⟨rfl, rfl⟩) | (apply s_call; (case hg => rfl); (case hd => rfl); (case ha => rfl); (case hc => exact Read_nil off n _); (case hL => (repeat (first | exact pm_nil _ | exact pm_refl _ _ | exact pm_self _ | apply pm_cons | apply pm_app))); rintro _ _ _ - ⟨rfl, rfl, rfl⟩) | (apply s_evb; (case hg => rfl); (case hd => rfl); (case hn => rfl); (case he => (apply ev_eql_bv (r := true); (case hx => rfl); (case hy => rfl); (case h => first | decide | assumption | (simp; done))))) | (apply s_evb; (case hg => rfl); (case hd => rfl); (case hn => rfl); (case he => (apply ev_eql_bv (r := false); (case hx => rfl); (case hy => rfl); (case h => first | decide | assumption | (simp; done))))) | (apply s_call; (case hg => rfl); (case hd => rfl); (case ha => rfl); (case hc => exact cut_con t 100 _); (case hL => (repeat (first | exact pm_nil _ | exact pm_refl _ _ | exact pm_self _ | apply pm_cons | apply pm_app))); rintro _ _ _ - ⟨rfl, rfl, rfl⟩) | (apply s_call; (case hg => rfl); (case hd => rfl); (case ha => rfl); (case hc => exact Write_nil off _ _); (case hL => (repeat (first | exact pm_nil _ | exact pm_refl _ _ | exact pm_self _ | apply pm_cons | apply pm_app))); rintro _ _ _ - ⟨rfl, rfl, rfl⟩) | (apply s_call; (case hg => rfl); (case hd => rfl); (case ha => rfl); (case hc => exact Sync_nil _); (case hL => (repeat (first | exact pm_nil _ | exact pm_refl _ _ | exact pm_self _ | apply pm_cons | apply pm_app))); rintro _ _ _ - ⟨rfl, rfl, rfl⟩) | (apply s_call; (case hg => rfl); (case hd => rfl); (case ha => rfl); (case hc => exact Cut_nil n _); (case hL => (repeat (first | exact pm_nil _ | exact pm_refl _ _ | exact pm_self _ | apply pm_cons | apply pm_app))); rintro _ _ _ - ⟨rfl, rfl, rfl⟩) | (apply s_minn (j := 100); (case hg => rfl); (case hd => rfl); (case hx => rfl); (case hy => rfl)) | (apply s_evb; (case hg => rfl); (case hd => rfl); (case hn => rfl); (case he => ((apply ev_sub_hi; (case hx => rfl); (case hy => rfl); (case hmc => omega))))) | (apply s_call; (case hg => rfl); (case hd => rfl); (case ha => rfl); (case hc => exact Crash_nil _ _ _ n _); (case hL => (repeat (first | exact pm_nil _ | exact pm_refl _ _ | exact pm_self _ | apply pm_cons | apply pm_app))); rintro _ _ _ - ⟨rfl, rfl, rfl⟩) | (apply s_call; (case hg => rfl); (case hd => rfl); (case ha => rfl); (case hc => exact Pending_nil _); (case hL => (repeat (first | exact pm_nil _ | exact pm_refl _ _ | exact pm_self _ | apply pm_cons | apply pm_app))); rintro _ _ _ - ⟨rfl, rfl, rfl⟩) | (apply s_call; (case hg => rfl); (case hd => rfl); (case ha => rfl); (case hc => exact Size_nil _); (case hL => (repeat (first | exact pm_nil _ | exact pm_refl _ _ | exact pm_self _ | apply pm_cons | apply pm_app))); rintro _ _ _ - ⟨rfl, rfl, rfl⟩) | refine Jo ?_ | intro _))
  exact o_ret Try.results5 rfl (by repeat (first | exact List.Sublist.refl _ | exact List.Sublist.slnil | exact List.nil_sublist _ | exact List.sublist_append_left _ _ | refine List.Sublist.cons_cons _ ?_ | refine List.Sublist.append (List.Sublist.refl _) ?_ | refine List.Sublist.cons _ ?_ | refine List.Sublist.trans ?_ (List.sublist_append_right _ _))) rfl
end Go.Proofs.Ytdbkjegpeoopaaa
namespace Go.Proofs.Ytdbkjegpeoopaaa
open Go Go.X
open Go.ChangeShapes Go.WideShapes Go.ChangeAt Go.RowKit
set_option linter.unusedVariables false
set_option maxRecDepth 100000 in
theorem lifted5 (os : Os) (started : os.Started) (H : Type) (enc : TypeId × Value → H) :
    ReturnsInHanded {} Try.checked os 5 .any (Rows.diskNilSpec.pre6 enc Try.prog Try.f5 Rows.diskNilRow.domain false) (Rows.diskNilSpec.post enc Try.prog Try.f5 false true false false) := by
  refine returnsInHanded_of_change (C := Try.checked) own started (by kernel_rfl) Try.func5
    (ChangeSpec.witness6 (enc := enc) (C := Try.checked) false ⟨#[], #[.int .i64 0, .int .i64 0, .string ByteArray.empty, .slice none 0 0], []⟩ 8 (by kernel_rfl) (by kernel_rfl) (by kernel_rfl) (by kernel_rfl)) ?_
  intro W base args ds gs before hval0 hW hcnd _
  have hval : ∀ (j : Nat) t v, Try.f5.params[j]? = some t → args[j]? = some v → Value.okWide Try.prog W .any base t v := hval0
  have hW' := hW
  obtain ⟨p, q, hA0, hV, rfl, hfz, hnd⟩ := hW
  have hA : DataW.TrodAll enc Try.prog W 0 (fun _ => true) true Try.f5.params.toList args.toList ds p := hA0
  rw [Try.params5] at hA hval
  obtain ⟨v0, vs0, d0, ds0, p0, q0, hargs, rfl, rfl, h0, r0⟩ := trodAll_cons hA
  obtain ⟨v1, vs1, d1, ds1, p1, q1, rfl, rfl, rfl, h1, r1⟩ := trodAll_cons r0
  obtain ⟨v2, vs2, d2, ds2, p2, q2, rfl, rfl, rfl, h2, r2⟩ := trodAll_cons r1
  obtain ⟨v3, vs3, d3, ds3, p3, q3, rfl, rfl, rfl, h3, r3⟩ := trodAll_cons r2
  obtain ⟨rfl, rfl, rfl⟩ := trodAll_nil r3
  obtain rfl : args = #[v0, v1, v2, v3] := by cases args; simp_all
  obtain ⟨rfl, rfl⟩ := trodVars_none hV
  have k0 := h0
  have lt0 : ∀ x ∈ p0, x.block < W.heap.size := by obtain ⟨m, hm⟩ := k0; exact DataW.trod_lt m _ _ _ hm
  have k1 := h1
  have lt1 : ∀ x ∈ p1, x.block < W.heap.size := by obtain ⟨m, hm⟩ := k1; exact DataW.trod_lt m _ _ _ hm
  have k2 := h2
  have lt2 : ∀ x ∈ p2, x.block < W.heap.size := by obtain ⟨m, hm⟩ := k2; exact DataW.trod_lt m _ _ _ hm
  have k3 := h3
  have lt3 : ∀ x ∈ p3, x.block < W.heap.size := by obtain ⟨m, hm⟩ := k3; exact DataW.trod_lt m _ _ _ hm
  obtain ⟨a0, rfl, e1_0, e2_0, w0⟩ := open_int Try.underlying3 (hval 0 3 v0 rfl rfl) h0
  obtain ⟨a1, rfl, e1_1, e2_1, w1⟩ := open_int Try.underlying3 (hval 1 3 v1 rfl rfl) h1
  obtain ⟨a2, rfl, e1_2, e2_2, w2⟩ := Go.ChangeMaps.open_string Try.underlying9 (hval 2 9 v2 rfl rfl) h2
  obtain ⟨a3, len3, cap3, rfl⟩ := okWide_slice Try.underlying37 (hval 3 37 v3 rfl rfl)
  obtain ⟨xs3, rfl, gl3, gA3, gx3⟩ := open_sl (α := Int) Try.underlying37 (by kernel_rfl) (rdb_int Try.underlying3) rfl h3
  refine (calls_of_con (f5_law a0 a1 a2 xs3 a3 cap3 (allOf W) (i64_wf w0) (i64_wf w1) w2 gA3 gl3 gx3) fun _ _ _ h => h).mono fun e W' ⟨he, bel⟩ => ?_
  subst he
  exact ⟨_, rfl, _, _, _, [], _, [], hW', trodAll_mk1 (shut_bool Try.underlying4 _), (trodAll_cons_mk (Below.trod laidOut (by kernel_rfl) (of_decide_eq_true (by kernel_rfl)) k0 bel lt0) (trodAll_cons_mk (Below.trod laidOut (by kernel_rfl) (of_decide_eq_true (by kernel_rfl)) k1 bel lt1) (trodAll_cons_mk (Below.trod laidOut (by kernel_rfl) (of_decide_eq_true (by kernel_rfl)) k2 bel lt2) (trodAll_cons_mk (Below.trod laidOut (by kernel_rfl) (of_decide_eq_true (by kernel_rfl)) k3 bel lt3) trodAll_mk0)))), rfl, bel.frame _, fun h => by cases h⟩
theorem over5 : Rows.diskNilRow.holds Try.pinned (OpenSpec.ofChange Rows.diskNilSpec) :=
  OpenClaim.holds_of_wide 5 Try.f5 rfl rfl rfl rfl rfl rfl rfl ⟨rfl, rfl, rfl, rfl, rfl⟩ rfl rfl rfl rfl rfl (by kernel_rfl) Try.func5 (by kernel_rfl)
    (of_decide_eq_true (by kernel_rfl)) (by unfold Func.isWrapper; rw [if_neg (of_decide_eq_false (by kernel_rfl))]; exact ⟨rfl, rfl⟩)
    (fun os started H enc _ => lifted5 os started H enc)
theorem diskNil_holds : Rows.DiskNilSaid := over5
#print axioms diskNil_holds
end Go.Proofs.Ytdbkjegpeoopaaa
