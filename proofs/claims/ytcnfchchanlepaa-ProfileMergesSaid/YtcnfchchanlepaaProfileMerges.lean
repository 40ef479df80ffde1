/- ProfileMerges returns true for every input, and each argument reads afterwards as it read before; no condition. -/
import Derived.Test.YtcnfchchanlepaaBd
namespace Go.Proofs.Ytcnfchchanlepaa
open Go Go.X
theorem gdNil (xs : List A3) : Gd (tableF xs) [] := ⟨tableF_ok xs, by decide⟩
theorem treeN (xs : List A3) (A : Option Addr) (c : Nat) (S : SH) (hA : At S A xs) (hx : ∀ x ∈ xs, i64A x) :
    Con Try.prog 23 #[.slice A xs.length c, .slice none 0 0] S [] (fun _ L' r => ∃ v, r = .tuple #[.agg #[v], .bool true] ∧ Ows 53 v (nF (tableF xs) []) L') :=
  tree_con' xs [] A none c 0 S hA hx (At.nil _ _) (fun x h => absurd h List.not_mem_nil)
set_option maxRecDepth 10000
set_option linter.unusedVariables false
attribute [local irreducible] Code.wpIn wpListIn Exit.then Exit.inBlock X.Out X.Back X.W X.Ev X.Con X.BinV X.Wh X.Wn X.Wq
set_option maxHeartbeats 3200000 in
theorem merges_law (xs : List A3) (A : Option Addr) (c : Nat) (ls : List A6) (B : Option Addr) (d : Nat) (ms : List A6) (D : Option Addr) (e : Nat) (ns : List A6) (E : Option Addr) (f : Nat) (S : SH) (hA : At S A xs) (hx : ∀ x ∈ xs, i64A x) (hB : At S B ls) (hl : ∀ x ∈ ls, i64B x) (hD : At S D ms) (hm : ∀ x ∈ ms, i64B x) (hE : At S E ns) (hn : ∀ x ∈ ns, i64B x) :
    Con Try.prog 6 #[.slice A xs.length c, .slice B ls.length d, .slice D ms.length e, .slice E ns.length f] S [] (fun _ L' r => L' = [] ∧ r = .bool true) := by
  refine con_of (args := [.slice A xs.length c, .slice B ls.length d, .slice D ms.length e, .slice E ns.length f]) Try.func6 rfl Try.ntmps6 rfl fun w => ?_
  have g1 := gdT xs ls
  have g2 := gdT xs ms
  have g3 := gdT xs ns
  have g0 := gdNil xs
  have l1 := madeF_len ls
  have l2 := madeF_len ms
  have l3 := madeF_len ns
  have g12 := g1.app g2 (by omega)
  have g21 := g2.app g1 (by omega)
  have g23 := g2.app g3 (by omega)
  have g12_3 := g12.app g3 (by rw [List.length_append]; omega)
  have g1_23 := g1.app g23 (by rw [List.length_append]; omega)
  have g10 := g1.app g0 (by simp; omega)
  have hcm := nF_comm g12 g21
  have has : nF (tableF xs) ((madeF ls ++ madeF ms) ++ madeF ns) = nF (tableF xs) (madeF ls ++ (madeF ms ++ madeF ns)) := by rw [List.append_assoc]
  have h0 : nF (tableF xs) (madeF ls ++ []) = nF (tableF xs) (madeF ls) := by rw [List.append_nil]
  (repeat (first | refine Jc ?_ | (apply s_call; (case hg => rfl); (case hd => rfl); (case ha => rfl); (case hc => exact sane_con _); (case hL => (repeat (first | exact pm_nil _ | exact pm_refl _ _ | exact pm_self _ | apply pm_cons | apply pm_app))); rintro S1 _ _ h1 ⟨rfl, rfl⟩) | refine Jo ?_ | intro _))
  (repeat (first | refine Jc ?_ | ((apply s_call; (case hg => rfl); (case hd => rfl); (case ha => rfl); (case hc => exact tree_con' xs ls A B c d _ (hA.le h1) hx (hB.le h1) hl); (case hL => (repeat (first | exact pm_nil _ | exact pm_refl _ _ | exact pm_self _ | apply pm_cons | apply pm_app))); rintro S2 L2 _ h2 ⟨v2, rfl, ho2⟩); refine W.freezeOws ho2 (List.Perm.refl _) fun S3 h3 hs3 => ?_; obtain ⟨Aa, ca, rfl, _, ha⟩ := hs3) | refine Jo ?_ | intro _))
  have h13 := h1.trans (h2.trans h3)
  (repeat (first | refine Jc ?_ | ((apply s_call; (case hg => rfl); (case hd => rfl); (case ha => rfl); (case hc => exact tree_con' xs ms A D c e _ (hA.le h13) hx (hD.le h13) hm); (case hL => (repeat (first | exact pm_nil _ | exact pm_refl _ _ | exact pm_self _ | apply pm_cons | apply pm_app))); rintro S4 L4 _ h4 ⟨v4, rfl, ho4⟩); refine W.freezeOws ho4 (List.Perm.refl _) fun S5 h5 hs5 => ?_; obtain ⟨Ab, cb, rfl, _, hb⟩ := hs5) | refine Jo ?_ | intro _))
  have h35 := h4.trans h5
  have h15 := h13.trans h35
  (repeat (first | refine Jc ?_ | ((apply s_call; (case hg => rfl); (case hd => rfl); (case ha => rfl); (case hc => exact tree_con' xs ns A E c f _ (hA.le h15) hx (hE.le h15) hn); (case hL => (repeat (first | exact pm_nil _ | exact pm_refl _ _ | exact pm_self _ | apply pm_cons | apply pm_app))); rintro S6 L6 _ h6 ⟨v6, rfl, ho6⟩); refine W.freezeOws ho6 (List.Perm.refl _) fun S7 h7 hs7 => ?_; obtain ⟨Ac, cc, rfl, _, hc⟩ := hs7) | refine Jo ?_ | intro _))
  have h57 := h6.trans h7
  have h17 := h15.trans h57
  (repeat (first | refine Jc ?_ | ((apply s_call; (case hg => rfl); (case hd => rfl); (case ha => rfl); (case hc => exact treeN xs A c _ (hA.le h17) hx); (case hL => (repeat (first | exact pm_nil _ | exact pm_refl _ _ | exact pm_self _ | apply pm_cons | apply pm_app))); rintro S8 L8 _ h8 ⟨v8, rfl, ho8⟩); refine W.freezeOws ho8 (List.Perm.refl _) fun S9 h9 hs9 => ?_; obtain ⟨An, cn, rfl, _, hn9⟩ := hs9) | refine Jo ?_ | intro _))
  have h79 := h8.trans h9
  have ha9 := ((ha.le h35).le h57).le h79
  have hb9 := (hb.le h57).le h79
  have hc9 := hc.le h79
  (repeat (first | refine Jc ?_ | ((apply s_call; (case hg => rfl); (case hd => rfl); (case ha => rfl); (case hc => exact mergeT g1 g2 g12 _ _ _ _ _ ha9 hb9); (case hL => (repeat (first | exact pm_nil _ | exact pm_refl _ _ | exact pm_self _ | apply pm_cons | apply pm_app))); rintro S10 L10 _ h10 ⟨v10, rfl, ho10⟩); refine W.freezeOws ho10 (List.Perm.refl _) fun S11 h11 hs11 => ?_; obtain ⟨Aab, cab, rfl, _, hab⟩ := hs11) | refine Jo ?_ | intro _))
  have k1 := h10.trans h11
  (repeat (first | refine Jc ?_ | ((apply s_call; (case hg => rfl); (case hd => rfl); (case ha => rfl); (case hc => exact mergeT g2 g1 g21 _ _ _ _ _ (hb9.le k1) (ha9.le k1)); (case hL => (repeat (first | exact pm_nil _ | exact pm_refl _ _ | exact pm_self _ | apply pm_cons | apply pm_app))); rintro S12 L12 _ h12 ⟨v12, rfl, ho12⟩); refine W.freezeOws ho12 (List.Perm.refl _) fun S13 h13' hs13 => ?_; obtain ⟨Aba, cba, rfl, _, hba⟩ := hs13) | refine Jo ?_ | intro _))
  have k2 := h12.trans h13'
  have k12 := k1.trans k2
  (repeat (first | refine Jc ?_ | ((apply s_call; (case hg => rfl); (case hd => rfl); (case ha => rfl); (case hc => exact mergeT g12 g3 g12_3 _ _ _ _ _ (hab.le k2) (hc9.le k12)); (case hL => (repeat (first | exact pm_nil _ | exact pm_refl _ _ | exact pm_self _ | apply pm_cons | apply pm_app))); rintro S14 L14 _ h14 ⟨v14, rfl, ho14⟩); refine W.freezeOws ho14 (List.Perm.refl _) fun S15 h15' hs15 => ?_; obtain ⟨Al, cl, rfl, _, hle⟩ := hs15) | refine Jo ?_ | intro _))
  have k3 := h14.trans h15'
  have k13 := k12.trans k3
  (repeat (first | refine Jc ?_ | ((apply s_call; (case hg => rfl); (case hd => rfl); (case ha => rfl); (case hc => exact mergeT g2 g3 g23 _ _ _ _ _ (hb9.le k13) (hc9.le k13)); (case hL => (repeat (first | exact pm_nil _ | exact pm_refl _ _ | exact pm_self _ | apply pm_cons | apply pm_app))); rintro S16 L16 _ h16 ⟨v16, rfl, ho16⟩); refine W.freezeOws ho16 (List.Perm.refl _) fun S17 h17' hs17 => ?_; obtain ⟨Abc, cbc, rfl, _, hbc⟩ := hs17) | refine Jo ?_ | intro _))
  have k4 := h16.trans h17'
  have k14 := k13.trans k4
  (repeat (first | refine Jc ?_ | ((apply s_call; (case hg => rfl); (case hd => rfl); (case ha => rfl); (case hc => exact mergeT g1 g23 g1_23 _ _ _ _ _ (ha9.le k14) hbc); (case hL => (repeat (first | exact pm_nil _ | exact pm_refl _ _ | exact pm_self _ | apply pm_cons | apply pm_app))); rintro S18 L18 _ h18 ⟨v18, rfl, ho18⟩); refine W.freezeOws ho18 (List.Perm.refl _) fun S19 h19 hs19 => ?_; obtain ⟨Ar, cr, rfl, _, hr⟩ := hs19) | refine Jo ?_ | intro _))
  have k5 := h18.trans h19
  have k15 := k14.trans k5
  (repeat (first | refine Jc ?_ | ((apply s_call; (case hg => rfl); (case hd => rfl); (case ha => rfl); (case hc => exact mergeT g1 g0 g10 _ _ _ _ _ (ha9.le k15) (hn9.le k15)); (case hL => (repeat (first | exact pm_nil _ | exact pm_refl _ _ | exact pm_self _ | apply pm_cons | apply pm_app))); rintro S20 L20 _ h20 ⟨v20, rfl, ho20⟩); refine W.freezeOws ho20 (List.Perm.refl _) fun S21 h21 hs21 => ?_; obtain ⟨As, cs, rfl, _, hs⟩ := hs21) | refine Jo ?_ | intro _))
  have k6 := h20.trans h21
  have q1 := ((((hab.le k2).le k3).le k4).le k5).le k6
  have q2 := (((hba.le k3).le k4).le k5).le k6
  have q3 := ((hle.le k4).le k5).le k6
  have q4 := hr.le k6
  have q5 := (ha9.le k15).le k6
  (repeat (first | refine Jc ?_ | ((apply s_call; (case hg => rfl); (case hd => rfl); (case ha => rfl); (case hc => exact sameT (nF_len g12) hcm _ _ _ _ _ q1 q2); (case hL => (repeat (first | exact pm_nil _ | exact pm_refl _ _ | exact pm_self _ | apply pm_cons | apply pm_app))); rintro _ _ _ - ⟨rfl, rfl, rfl⟩)) | ((apply s_call; (case hg => rfl); (case hd => rfl); (case ha => rfl); (case hc => exact sameT (nF_len g12_3) has _ _ _ _ _ q3 q4); (case hL => (repeat (first | exact pm_nil _ | exact pm_refl _ _ | exact pm_self _ | apply pm_cons | apply pm_app))); rintro _ _ _ - ⟨rfl, rfl, rfl⟩)) | ((apply s_call; (case hg => rfl); (case hd => rfl); (case ha => rfl); (case hc => exact sameT (nF_len g10) h0 _ _ _ _ _ hs q5); (case hL => (repeat (first | exact pm_nil _ | exact pm_refl _ _ | exact pm_self _ | apply pm_cons | apply pm_app))); rintro _ _ _ - ⟨rfl, rfl, rfl⟩)) | refine Jo ?_ | intro _))
  exact o_ret (L' := []) Try.results6 rfl (List.nil_sublist _) ⟨rfl, rfl⟩
end Go.Proofs.Ytcnfchchanlepaa
namespace Go.Proofs.Ytcnfchchanlepaa
open Go Go.X
open Go.ChangeShapes Go.WideShapes Go.ChangeAt Go.RowKit
set_option linter.unusedVariables false
set_option maxRecDepth 100000 in
theorem liftedProfileMerges (os : Os) (started : os.Started) (H : Type) (enc : TypeId × Value → H) :
    ReturnsInHanded {} Try.checked os 6 .any (Rows.profileMergesSpec.pre6 enc Try.prog Try.f6 Rows.profileMergesRow.domain false) (Rows.profileMergesSpec.post enc Try.prog Try.f6 false true false false) := by
  refine returnsInHanded_of_change (C := Try.checked) own started (by kernel_rfl) Try.func6
    (ChangeSpec.witness6 (enc := enc) (C := Try.checked) false ⟨#[], #[.slice none 0 0, .slice none 0 0, .slice none 0 0, .slice none 0 0], []⟩ 8 (by kernel_rfl) (by kernel_rfl) (by kernel_rfl) (by kernel_rfl)) ?_
  intro W base args ds gs before hval0 hW hcnd _
  have hval : ∀ (j : Nat) t v, Try.f6.params[j]? = some t → args[j]? = some v → Value.okWide Try.prog W .any base t v := hval0
  have hW' := hW
  obtain ⟨p, q, hA0, hV, rfl, hfz, hnd⟩ := hW
  have hA : DataW.TrodAll enc Try.prog W 0 (fun _ => true) true Try.f6.params.toList args.toList ds p := hA0
  rw [Try.params6] at hA hval
  obtain ⟨v0, vs0, d0, ds0, p0, q0, hargs, rfl, rfl, h0, r0⟩ := trodAll_cons hA
  obtain ⟨v1, vs1, d1, ds1, p1, q1, rfl, rfl, rfl, h1, r1⟩ := trodAll_cons r0
  obtain ⟨v2, vs2, d2, ds2, p2, q2, rfl, rfl, rfl, h2, r2⟩ := trodAll_cons r1
  obtain ⟨v3, vs3, d3, ds3, p3, q3, rfl, rfl, rfl, h3, r3⟩ := trodAll_cons r2
  obtain ⟨rfl, rfl, rfl⟩ := trodAll_nil r3
  obtain rfl : args = #[v0, v1, v2, v3] := by cases args; simp_all
  obtain ⟨rfl, rfl⟩ := trodVars_none hV
  have k0 := h0
  have lt0 : ∀ x ∈ p0, x.block < W.heap.size := by obtain ⟨m, hm⟩ := k0; exact DataW.trod_lt m _ _ _ hm
  have k1 := h1
  have lt1 : ∀ x ∈ p1, x.block < W.heap.size := by obtain ⟨m, hm⟩ := k1; exact DataW.trod_lt m _ _ _ hm
  have k2 := h2
  have lt2 : ∀ x ∈ p2, x.block < W.heap.size := by obtain ⟨m, hm⟩ := k2; exact DataW.trod_lt m _ _ _ hm
  have k3 := h3
  have lt3 : ∀ x ∈ p3, x.block < W.heap.size := by obtain ⟨m, hm⟩ := k3; exact DataW.trod_lt m _ _ _ hm
  obtain ⟨a0, len0, cap0, rfl⟩ := okWide_slice Try.underlying24 (hval 0 24 v0 rfl rfl)
  obtain ⟨xs0, rfl, gl0, gA0, gx0⟩ := open_sl (α := A3) Try.underlying24 (by kernel_rfl) rdb_A3 rfl h0
  obtain ⟨a1, len1, cap1, rfl⟩ := okWide_slice Try.underlying25 (hval 1 25 v1 rfl rfl)
  obtain ⟨xs1, rfl, gl1, gA1, gx1⟩ := open_sl (α := A6) Try.underlying25 (by kernel_rfl) rdb_A6 rfl h1
  obtain ⟨a2, len2, cap2, rfl⟩ := okWide_slice Try.underlying25 (hval 2 25 v2 rfl rfl)
  obtain ⟨xs2, rfl, gl2, gA2, gx2⟩ := open_sl (α := A6) Try.underlying25 (by kernel_rfl) rdb_A6 rfl h2
  obtain ⟨a3, len3, cap3, rfl⟩ := okWide_slice Try.underlying25 (hval 3 25 v3 rfl rfl)
  obtain ⟨xs3, rfl, gl3, gA3, gx3⟩ := open_sl (α := A6) Try.underlying25 (by kernel_rfl) rdb_A6 rfl h3
  refine (calls_of_con (merges_law xs0 a0 cap0 xs1 a1 cap1 xs2 a2 cap2 xs3 a3 cap3 (allOf W) gA0 gx0 gA1 gx1 gA2 gx2 gA3 gx3) fun _ _ _ h => h.2).mono fun e W' ⟨he, bel⟩ => ?_
  subst he
  exact ⟨_, rfl, _, _, _, [], _, [], hW', trodAll_mk1 (shut_bool Try.underlying4 _), (trodAll_cons_mk (Below.trod laidOut (by kernel_rfl) (of_decide_eq_true (by kernel_rfl)) k0 bel lt0) (trodAll_cons_mk (Below.trod laidOut (by kernel_rfl) (of_decide_eq_true (by kernel_rfl)) k1 bel lt1) (trodAll_cons_mk (Below.trod laidOut (by kernel_rfl) (of_decide_eq_true (by kernel_rfl)) k2 bel lt2) (trodAll_cons_mk (Below.trod laidOut (by kernel_rfl) (of_decide_eq_true (by kernel_rfl)) k3 bel lt3) trodAll_mk0)))), rfl, bel.frame _, fun h => by cases h⟩
theorem overProfileMerges : Rows.profileMergesRow.holds Try.pinned (OpenSpec.ofChange Rows.profileMergesSpec) :=
  OpenClaim.holds_of_wide 6 Try.f6 rfl rfl rfl rfl rfl rfl rfl ⟨rfl, rfl, rfl, rfl, rfl⟩ rfl rfl rfl rfl rfl (by kernel_rfl) Try.func6 (by kernel_rfl)
    (of_decide_eq_true (by kernel_rfl)) (by unfold Func.isWrapper; rw [if_neg (of_decide_eq_false (by kernel_rfl))]; exact ⟨rfl, rfl⟩)
    (fun os started H enc _ => liftedProfileMerges os started H enc)
theorem profileMerges_holds : Rows.ProfileMergesSaid := overProfileMerges
#print axioms profileMerges_holds
end Go.Proofs.Ytcnfchchanlepaa
