/- BisectMoments returns true for every input, and each argument reads afterwards as it read before; no condition. -/
import Derived.Test.YtmonkjbhoabhhaaBc
namespace Go.Proofs.Ytmonkjbhoabhhaa
open Go Go.X
set_option maxRecDepth 10000
set_option linter.unusedVariables false
attribute [local irreducible] Code.wpIn wpListIn Exit.then Exit.inBlock X.Out X.Back X.W X.Ev X.Con X.BinV X.Wh X.Wn X.Wq
theorem f8_law (xs : List T3) (A : Option Addr) (c : Nat) (t : Int) (S : SH) (hA : At S A xs) (hl : xs.length ≤ c) (hx : ∀ x ∈ xs, i64 x.a ∧ i64 x.b ∧ i64 x.c) (ht : i64 t) :
    Con Try.prog 8 #[.slice A xs.length c, .int .i64 t] S [] (fun _ _ v => v = .bool true) := by
  refine con_of (args := [.slice A xs.length c, .int .i64 t]) Try.func8 rfl Try.ntmps8 rfl fun w => ?_
  have hS : Sr S (.slice A xs.length c) xs := ⟨A, c, rfl, hl, hA⟩
  have hv := made_valid xs
  have hn := made_len xs
  generalize hp1 : pick t 40 = p1
  generalize hp2 : pick t 1000001 = p2
  have q1 := pick_lt t 40 (by decide)
  have q2 := pick_lt t 1000001 (by decide)
  rw [hp1] at q1
  rw [hp2] at q2
  obtain ⟨ml, hml⟩ := moms_head (made xs) fun t ht => (moms_in hv t ht).1
  have hm0 : (moms (made xs))[0]? = some 0 := by rw [hml]; rfl
  have hmlen := moms_len (made xs)
  have hm1 : 0 < (moms (made xs)).length := by rw [hml]; simp
  have hmin := moms_in hv
  have hsort := (moms_spec (made xs)).1
  have hfm := fun d (h : d ∈ made xs) => frm_mem h
  have htm := fun d (h : d ∈ made xs) => to_mem h
  have hact := fun t (ht : 0 ≤ t) a => actives_last (ds := made xs) (t := t) ht a
  have hlast := fun s (hs : 0 ≤ s) a => lastLE_spec s (moms (made xs)) a hsort ⟨0, zero_mem _, hs⟩
  generalize hms : moms (made xs) = ms at *
  (repeat (first | refine Jc ?_ | (apply z_call; rfl; rfl; rfl; exact sane_con _; rintro S1 _ v hle1 ⟨rfl, rfl⟩) | (apply z_call; rfl; rfl; rfl; exact made_v hx (hS.le (by repeat (first | exact Le.refl _ | assumption | refine Le.trans ?_ (by assumption)))); rintro S2 _ v2 hle2 ⟨rfl, hr2⟩) | (apply z_call; rfl; rfl; rfl; exact moments_e hms hr2 hv; rintro S3 _ v3 hle3 ⟨rfl, _, rfl, B, e, rfl, he, hB⟩) | refine Jo ?_ | intro _))
  (repeat (first | refine Jc ?_ | (apply s_idx hB; (case hg => rfl); (case hd => rfl); (case hx => rfl); (case hi => rfl); (case hm => rfl); (case hu => exact hm0); intro p (hp : Pts _ p [_])) | (apply s_load1; (case hg => rfl); (case hd => rfl); (case hx => rfl); (case hv => exact hp)) | (apply z_call; rfl; rfl; rfl; exact pick_c hp1 ht (by decide); rintro _ _ _ - ⟨rfl, rfl, rfl⟩) | (apply z_call; rfl; rfl; rfl; exact pick_c hp2 ht (by decide); rintro _ _ _ - ⟨rfl, rfl, rfl⟩) | (apply s_buildSlice; (case hg => rfl); (case hd => rfl); (case hp => rfl); (case hq => rfl); (case hm => rfl); (case hv => rfl); (case hl => rfl); intro b4; refine W.freeze fun S4 hle4 hb4 => ?_) | refine Jo ?_ | intro _))
  have hT : At S4 (some ⟨b4, 0, none⟩) [p1, p2] := fun _ => ⟨_, rfl, pts_block hb4 rfl⟩
  refine c_loop (fun m S' L F => Le S4 S' ∧ L = [] ∧ ∃ (k : Nat) (a : Int), m = 2 - k ∧ k ≤ 2 ∧
      F = [(5, .bool true), (6, v2), (7, .slice B ms.length e), (9, .int .i64 a), (43, .slice (some ⟨b4, 0, none⟩) 2 2), (44, .int .i64 (2 : Nat)), (45, .int .i64 k)]) ⟨Le.refl _, rfl, 0, 0, rfl, by omega, rfl⟩ (by repeat (first | exact Sub.nil rfl | exact Sub.marked rfl | refine Sub.cons rfl ?_)) (by repeat (first | exact List.Sublist.refl _ | exact List.Sublist.slnil | exact List.nil_sublist _ | exact List.sublist_append_left _ _ | refine List.Sublist.cons_cons _ ?_ | refine List.Sublist.append (List.Sublist.refl _) ?_ | refine List.Sublist.cons _ ?_)) ?_
  rintro m S' L F ⟨hle, rfl, k, a, rfl, hk, rfl⟩
  have hB' := hB.le (hle4.trans hle)
  have hT' := hT.le hle
  have hr2' := hr2.le ((hle3.trans hle4).trans hle)
  by_cases hlt : k < 2
  · obtain ⟨tk, htk⟩ := at_lt (show k < [p1, p2].length from hlt)
    have htk0 : 0 ≤ tk ∧ tk ≤ 1000000 := by
      have := List.mem_of_getElem? htk
      simp at this
      omega
    (repeat (first | refine Jc ?_ | (apply s_idx hT'; (case hg => rfl); (case hd => rfl); (case hx => rfl); (case hi => rfl); (case hm => rfl); (case hu => exact htk); intro p (hp : Pts _ p [_])) | (apply s_load1; (case hg => rfl); (case hd => rfl); (case hx => rfl); (case hv => exact hp)) | refine Jo ?_ | intro _))
    have hl1 := hlast tk htk0.1 a
    have hc1 := hact tk htk0.1 a
    refine c_meetB (fun S1 L1 F1 => S1 = S' ∧ L1 = [] ∧ ∃ b : Int, b = lastLE ms tk a ∧ F1 = [(5, .bool true), (6, v2), (7, .slice B ms.length e), (9, .int .i64 b), (11, .int .i64 tk), (43, .slice (some ⟨b4, 0, none⟩) 2 2), (44, .int .i64 (2 : Nat)), (45, .int .i64 k)]) ?_ ?_
    · refine c_loop (fun m S1 L1 F1 => S1 = S' ∧ L1 = [] ∧ ∃ (i : Nat) (b : Int), m = ms.length - i ∧ i ≤ ms.length ∧ b = lastLE (ms.take i) tk a ∧ F1 = [(5, .bool true), (6, v2), (7, .slice B ms.length e), (9, .int .i64 b), (11, .int .i64 tk), (12, .int .i64 i), (43, .slice (some ⟨b4, 0, none⟩) 2 2), (44, .int .i64 (2 : Nat)), (45, .int .i64 k)]) ⟨rfl, rfl, 0, a, rfl, by omega, rfl, rfl⟩ (by repeat (first | exact Sub.nil rfl | exact Sub.marked rfl | refine Sub.cons rfl ?_)) (by repeat (first | exact List.Sublist.refl _ | exact List.Sublist.slnil | exact List.nil_sublist _ | exact List.sublist_append_left _ _ | refine List.Sublist.cons_cons _ ?_ | refine List.Sublist.append (List.Sublist.refl _) ?_ | refine List.Sublist.cons _ ?_)) ?_
      rintro m S1 L1 F1 ⟨rfl, rfl, i, b, rfl, hi, hb, rfl⟩
      by_cases hil : i < ms.length
      rotate_left
      · obtain rfl : i = ms.length := by omega
        rw [List.take_of_length_le (Nat.le_refl _)] at hb
        (repeat (first | refine Jz ?_ | intro _))
        exact q_cut ⟨rfl, rfl, b, hb, rfl⟩ (by repeat (first | exact Sub.nil rfl | exact Sub.marked rfl | refine Sub.cons rfl ?_)) (by repeat (first | exact List.Sublist.refl _ | exact List.Sublist.slnil | exact List.nil_sublist _ | exact List.sublist_append_left _ _ | refine List.Sublist.cons_cons _ ?_ | refine List.Sublist.append (List.Sublist.refl _) ?_ | refine List.Sublist.cons _ ?_))
      obtain ⟨x, hx1⟩ := at_lt hil
      have hsn := lastLE_snoc (ms.take i) x tk a
      rw [← take_at hx1, ← hb] at hsn
      (repeat (first | refine Jz ?_ | intro _))
      refine c_meet (fun S2 L2 F2 => S2 = S1 ∧ L2 = [] ∧ F2 = [(68, .bool false), (5, .bool true), (6, v2), (7, .slice B ms.length e), (9, .int .i64 b), (11, .int .i64 tk), (12, .int .i64 i), (43, .slice (some ⟨b4, 0, none⟩) 2 2), (44, .int .i64 (2 : Nat)), (45, .int .i64 k)]) ?_ ?_
      · by_cases hi0 : 0 < i
        · obtain ⟨y, hy1⟩ := at_lt (show i - 1 < ms.length by omega)
          have hxy : y < x := by
            obtain ⟨g1, g2⟩ := List.getElem?_eq_some_iff.1 hy1
            obtain ⟨g3, g4⟩ := List.getElem?_eq_some_iff.1 hx1
            rw [← g2, ← g4]
            exact List.pairwise_iff_getElem.1 hsort (i - 1) i g1 g3 (by omega)
          (repeat (first | (apply q_ev; (case hg => rfl); (case hd => rfl); (case he => (apply ev_binV; (case hx => rfl); (case hy => rfl); (case hb => (apply bv_pred; omega))))) | (apply q_idx hB'; (case hg => rfl); (case hd => rfl); (case hx => rfl); (case hi => rfl); (case hm => rfl); (case hu => exact hx1); intro p1 (hp1 : Pts _ p1 [_])) | (apply q_idx hB'; (case hg => rfl); (case hd => rfl); (case hx => rfl); (case hi => rfl); (case hm => rfl); (case hu => exact hy1); intro p2 (hp2 : Pts _ p2 [_])) | (apply q_ev; (case hg => rfl); (case hd => rfl); (case he => (apply ev_load1; (case hx => rfl); (case h => exact hp1)))) | (apply q_ev; (case hg => rfl); (case hd => rfl); (case he => (apply ev_load1; (case hx => rfl); (case h => exact hp2)))) | refine Jd ?_))
          (repeat (first | refine Jz ?_ | intro _))
          exact q_cut ⟨rfl, rfl, rfl⟩ (by repeat (first | exact Sub.nil rfl | exact Sub.marked rfl | refine Sub.cons rfl ?_)) (by repeat (first | exact List.Sublist.refl _ | exact List.Sublist.slnil | exact List.nil_sublist _ | exact List.sublist_append_left _ _ | refine List.Sublist.cons_cons _ ?_ | refine List.Sublist.append (List.Sublist.refl _) ?_ | refine List.Sublist.cons _ ?_))
        · refine JD ?_
          (repeat (first | refine Jz ?_ | intro _))
          exact q_cut ⟨rfl, rfl, rfl⟩ (by repeat (first | exact Sub.nil rfl | exact Sub.marked rfl | refine Sub.cons rfl ?_)) (by repeat (first | exact List.Sublist.refl _ | exact List.Sublist.slnil | exact List.nil_sublist _ | exact List.sublist_append_left _ _ | refine List.Sublist.cons_cons _ ?_ | refine List.Sublist.append (List.Sublist.refl _) ?_ | refine List.Sublist.cons _ ?_))
      rintro S2 L2 F2 ⟨rfl, rfl, rfl⟩
      by_cases hxt : x ≤ tk
      · rw [lastF, if_pos hxt] at hsn
        (repeat (first | refine Jc ?_ | (apply s_idx hB'; (case hg => rfl); (case hd => rfl); (case hx => rfl); (case hi => rfl); (case hm => rfl); (case hu => exact hx1); intro p (hp : Pts _ p [_])) | (apply s_load1; (case hg => rfl); (case hd => rfl); (case hx => rfl); (case hv => exact hp)) | refine Jo ?_ | intro _))
        exact q_back (m' := ms.length - (i + 1)) ⟨rfl, rfl, i + 1, x, rfl, by omega, hsn.symm, rfl⟩ (by omega) (by repeat (first | exact Sub.nil rfl | exact Sub.marked rfl | refine Sub.cons rfl ?_)) (by repeat (first | exact List.Sublist.refl _ | exact List.Sublist.slnil | exact List.nil_sublist _ | exact List.sublist_append_left _ _ | refine List.Sublist.cons_cons _ ?_ | refine List.Sublist.append (List.Sublist.refl _) ?_ | refine List.Sublist.cons _ ?_))
      · rw [lastF, if_neg hxt] at hsn
        (repeat (first | refine Jc ?_ | (apply s_idx hB'; (case hg => rfl); (case hd => rfl); (case hx => rfl); (case hi => rfl); (case hm => rfl); (case hu => exact hx1); intro p (hp : Pts _ p [_])) | (apply s_load1; (case hg => rfl); (case hd => rfl); (case hx => rfl); (case hv => exact hp)) | refine Jo ?_ | intro _))
        exact q_back (m' := ms.length - (i + 1)) ⟨rfl, rfl, i + 1, b, rfl, by omega, hsn.symm, rfl⟩ (by omega) (by repeat (first | exact Sub.nil rfl | exact Sub.marked rfl | refine Sub.cons rfl ?_)) (by repeat (first | exact List.Sublist.refl _ | exact List.Sublist.slnil | exact List.nil_sublist _ | exact List.sublist_append_left _ _ | refine List.Sublist.cons_cons _ ?_ | refine List.Sublist.append (List.Sublist.refl _) ?_ | refine List.Sublist.cons _ ?_))
    rintro S1 L1 F1 ⟨rfl, rfl, b, hb, rfl⟩
    rw [← hb] at hl1 hc1
    have hb0 : 0 ≤ b ∧ b ≤ 1000000 := hmin b hl1.1
    have hal := actives_len (made xs) tk
    (repeat (first | refine Jc ?_ | (apply z_call; rfl; rfl; rfl; exact active_ok (t := tk) hr2' hv htk0; rintro S5 _ v5 hle5 ⟨rfl, u5, rfl, hr5⟩) | (apply z_call; rfl; rfl; rfl; exact active_ok (t := b) (hr2'.le hle5) hv hb0; rintro S6 _ v6 hle6 ⟨rfl, u6, rfl, hr6⟩) | (apply z_call; rfl; rfl; rfl; exact same_c (r := true) (by rw [hc1]; exact BEq.rfl) (hr5.le hle6) hr6 (by omega); rintro _ _ _ - ⟨rfl, rfl, rfl⟩) | refine Jo ?_ | intro _))
    exact q_back (m' := 2 - (k + 1)) ⟨(hle.trans hle5).trans hle6, rfl, k + 1, b, rfl, by omega, rfl⟩ (by omega) (by repeat (first | exact Sub.nil rfl | exact Sub.marked rfl | refine Sub.cons rfl ?_)) (by repeat (first | exact List.Sublist.refl _ | exact List.Sublist.slnil | exact List.nil_sublist _ | exact List.sublist_append_left _ _ | refine List.Sublist.cons_cons _ ?_ | refine List.Sublist.append (List.Sublist.refl _) ?_ | refine List.Sublist.cons _ ?_))
  · (repeat (first | refine Jz ?_ | intro _))
    refine c_loop (fun m S1 L1 F1 => S1 = S' ∧ L1 = [] ∧ ∃ (i : Nat), m = (made xs).length - i ∧ i ≤ (made xs).length ∧ F1 = [(5, .bool true), (6, v2), (7, .slice B ms.length e), (17, .int .i64 i)]) ⟨rfl, rfl, 0, rfl, by omega, rfl⟩ (by repeat (first | exact Sub.nil rfl | exact Sub.marked rfl | refine Sub.cons rfl ?_)) (by repeat (first | exact List.Sublist.refl _ | exact List.Sublist.slnil | exact List.nil_sublist _ | exact List.sublist_append_left _ _ | refine List.Sublist.cons_cons _ ?_ | refine List.Sublist.append (List.Sublist.refl _) ?_ | refine List.Sublist.cons _ ?_)) ?_
    rintro m S1 L1 F1 ⟨rfl, rfl, i, rfl, hi, rfl⟩
    obtain ⟨D, cd, rfl, hcd, hD⟩ := hr2'
    by_cases hil : i < (made xs).length
    rotate_left
    · (repeat (first | refine Jz ?_ | intro _))
      exact o_ret (L' := []) Try.results8 rfl (by repeat (first | exact List.Sublist.refl _ | exact List.Sublist.slnil | exact List.nil_sublist _ | exact List.sublist_append_left _ _ | refine List.Sublist.cons_cons _ ?_ | refine List.Sublist.append (List.Sublist.refl _) ?_ | refine List.Sublist.cons _ ?_)) rfl
    obtain ⟨d, hd⟩ := at_lt hil
    have hdm := List.mem_of_getElem? hd
    have hq : Sr S1 (.slice B ms.length e) ms := ⟨B, e, rfl, he, hB'⟩
    (repeat (first | refine Jc ?_ | (apply s_idx hD; (case hg => rfl); (case hd => rfl); (case hx => rfl); (case hi => rfl); (case hm => rfl); (case hu => exact hd); intro p (hp : Pts _ p [_, _, _, _])) | (apply s_load_f; (case hg => rfl); (case hd => rfl); (case hx => rfl); (case h => exact hp); (case hv => rfl)) | (apply z_call; rfl; rfl; rfl; exact has_v (b := true) (n := d.frm) (by simpa using hfm d hdm) hq (by omega); rintro _ _ _ - ⟨rfl, rfl, rfl⟩) | (apply z_call; rfl; rfl; rfl; exact has_v (b := true) (n := d.to) (by simpa using htm d hdm) hq (by omega); rintro _ _ _ - ⟨rfl, rfl, rfl⟩) | refine Jo ?_ | intro _))
    exact q_back (m' := (made xs).length - (i + 1)) ⟨rfl, rfl, i + 1, rfl, by omega, rfl⟩ (by omega) (by repeat (first | exact Sub.nil rfl | exact Sub.marked rfl | refine Sub.cons rfl ?_)) (by repeat (first | exact List.Sublist.refl _ | exact List.Sublist.slnil | exact List.nil_sublist _ | exact List.sublist_append_left _ _ | refine List.Sublist.cons_cons _ ?_ | refine List.Sublist.append (List.Sublist.refl _) ?_ | refine List.Sublist.cons _ ?_))
end Go.Proofs.Ytmonkjbhoabhhaa
namespace Go.Proofs.Ytmonkjbhoabhhaa
open Go Go.X
open Go.ChangeShapes Go.WideShapes Go.ChangeAt Go.RowKit
set_option linter.unusedVariables false
set_option maxRecDepth 100000 in
theorem lifted8 (os : Os) (started : os.Started) (H : Type) (enc : TypeId × Value → H) :
    ReturnsInHanded {} Try.checked os 8 .any (Rows.bisectMomentsSpec.pre6 enc Try.prog Try.f8 Rows.bisectMomentsRow.domain false) (Rows.bisectMomentsSpec.post enc Try.prog Try.f8 false true false false) := by
  refine returnsInHanded_of_change (C := Try.checked) own started (by kernel_rfl) Try.func8
    (ChangeSpec.witness6 (enc := enc) (C := Try.checked) false ⟨#[], #[.slice none 0 0, .int .i64 0], []⟩ 8 (by kernel_rfl) (by kernel_rfl) (by kernel_rfl) (by kernel_rfl)) ?_
  intro W base args ds gs before hval0 hW hcnd _
  have hval : ∀ (j : Nat) t v, Try.f8.params[j]? = some t → args[j]? = some v → Value.okWide Try.prog W .any base t v := hval0
  have hW' := hW
  obtain ⟨p, q, hA0, hV, rfl, hfz, hnd⟩ := hW
  have hA : DataW.TrodAll enc Try.prog W 0 (fun _ => true) true Try.f8.params.toList args.toList ds p := hA0
  rw [Try.params8] at hA hval
  obtain ⟨v0, vs0, d0, ds0, p0, q0, hargs, rfl, rfl, h0, r0⟩ := trodAll_cons hA
  obtain ⟨v1, vs1, d1, ds1, p1, q1, rfl, rfl, rfl, h1, r1⟩ := trodAll_cons r0
  obtain ⟨rfl, rfl, rfl⟩ := trodAll_nil r1
  obtain rfl : args = #[v0, v1] := by cases args; simp_all
  obtain ⟨rfl, rfl⟩ := trodVars_none hV
  have k0 := h0
  have lt0 : ∀ x ∈ p0, x.block < W.heap.size := by obtain ⟨m, hm⟩ := k0; exact DataW.trod_lt m _ _ _ hm
  have k1 := h1
  have lt1 : ∀ x ∈ p1, x.block < W.heap.size := by obtain ⟨m, hm⟩ := k1; exact DataW.trod_lt m _ _ _ hm
  obtain ⟨a0, len0, cap0, rfl⟩ := okWide_slice Try.underlying24 (hval 0 24 v0 rfl rfl)
  obtain ⟨xs0, rfl, gl0, gA0, gx0⟩ := open_sl (α := T3) Try.underlying24 (by kernel_rfl) rdb_T3 rfl h0
  obtain ⟨a1, rfl, e1_1, e2_1, w1⟩ := open_int Try.underlying3 (hval 1 3 v1 rfl rfl) h1
  refine (calls_of_con (f8_law xs0 a0 cap0 a1 (allOf W) gA0 gl0 gx0 (i64_wf w1)) fun _ _ _ h => h).mono fun e W' ⟨he, bel⟩ => ?_
  subst he
  exact ⟨_, rfl, _, _, _, [], _, [], hW', trodAll_mk1 (shut_bool Try.underlying4 _), (trodAll_cons_mk (Below.trod laidOut (by kernel_rfl) (of_decide_eq_true (by kernel_rfl)) k0 bel lt0) (trodAll_cons_mk (Below.trod laidOut (by kernel_rfl) (of_decide_eq_true (by kernel_rfl)) k1 bel lt1) trodAll_mk0)), rfl, bel.frame _, fun h => by cases h⟩
theorem over8 : Rows.bisectMomentsRow.holds Try.pinned (OpenSpec.ofChange Rows.bisectMomentsSpec) :=
  OpenClaim.holds_of_wide 8 Try.f8 rfl rfl rfl rfl rfl rfl rfl ⟨rfl, rfl, rfl, rfl, rfl⟩ rfl rfl rfl rfl rfl (by kernel_rfl) Try.func8 (by kernel_rfl)
    (of_decide_eq_true (by kernel_rfl)) (by unfold Func.isWrapper; rw [if_neg (of_decide_eq_false (by kernel_rfl))]; exact ⟨rfl, rfl⟩)
    (fun os started H enc _ => lifted8 os started H enc)
theorem bisectMoments_holds : Rows.BisectMomentsSaid := over8
#print axioms bisectMoments_holds
end Go.Proofs.Ytmonkjbhoabhhaa
