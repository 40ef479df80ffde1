/- ProfileFolds returns true for every input, and each argument reads afterwards as it read before; no condition. -/
import Derived.Test.YtcnfchchanlepaaBd
namespace Go.Proofs.Ytcnfchchanlepaa
open Go Go.X
set_option maxRecDepth 10000
set_option linter.unusedVariables false
attribute [local irreducible] Code.wpIn wpListIn Exit.then Exit.inBlock X.Out X.Back X.W X.Ev X.Con X.BinV X.Wh X.Wn X.Wq
set_option maxHeartbeats 3200000 in
theorem folds_law (xs : List A3) (A : Option Addr) (c : Nat) (ls : List A6) (B : Option Addr) (d : Nat) (ms : List A6) (D : Option Addr) (e : Nat) (S : SH) (hA : At S A xs) (hx : ∀ x ∈ xs, i64A x) (hB : At S B ls) (hl : ∀ x ∈ ls, i64B x) (hD : At S D ms) (hm : ∀ x ∈ ms, i64B x) :
    Con Try.prog 4 #[.slice A xs.length c, .slice B ls.length d, .slice D ms.length e] S [] (fun _ L' r => L' = [] ∧ r = .bool true) := by
  refine con_of (args := [.slice A xs.length c, .slice B ls.length d, .slice D ms.length e]) Try.func4 rfl Try.ntmps4 rfl fun w => ?_
  have g1 := gdT xs ls
  have g2 := gdT xs ms
  have l1 := madeF_len ls
  have l2 := madeF_len ms
  have g12 := g1.app g2 (by omega)
  have g21 := g2.app g1 (by omega)
  have hcm := nF_comm g12 g21
  (repeat (first | refine Jc ?_ | (apply s_call; (case hg => rfl); (case hd => rfl); (case ha => rfl); (case hc => exact sane_con _); (case hL => (repeat (first | exact pm_nil _ | exact pm_refl _ _ | exact pm_self _ | apply pm_cons | apply pm_app))); rintro S1 _ _ h1 ⟨rfl, rfl⟩) | refine Jo ?_ | intro _))
  (repeat (first | refine Jc ?_ | ((apply s_call; (case hg => rfl); (case hd => rfl); (case ha => rfl); (case hc => exact rTable_con xs A c _ (hA.le h1) hx); (case hL => (repeat (first | exact pm_nil _ | exact pm_refl _ _ | exact pm_self _ | apply pm_cons | apply pm_app))); rintro S2 L2 v2 h2 ⟨-, ho2⟩); refine W.freezeOws ho2 (List.Perm.refl _) fun S3 h3 hs3 => ?_; obtain ⟨At_, ct, rfl, hct, hT⟩ := hs3) | refine Jo ?_ | intro _))
  have h13 := (h1.trans h2).trans h3
  (repeat (first | refine Jc ?_ | ((apply s_call; (case hg => rfl); (case hd => rfl); (case ha => rfl); (case hc => exact rMade_con ls B d _ (hB.le h13) hl); (case hL => (repeat (first | exact pm_nil _ | exact pm_refl _ _ | exact pm_self _ | apply pm_cons | apply pm_app))); rintro S4 L4 v4 h4 ⟨-, ya, ho4, ka⟩); refine W.freezeOws ho4 (List.Perm.refl _) fun S5 h5 hs5 => ?_; obtain ⟨Aa, ca, rfl, hca, hAa⟩ := hs5) | refine Jo ?_ | intro _))
  have h35 := h4.trans h5
  (repeat (first | refine Jc ?_ | ((apply s_call; (case hg => rfl); (case hd => rfl); (case ha => rfl); (case hc => exact rMade_con ms D e _ (hD.le (h13.trans h35)) hm); (case hL => (repeat (first | exact pm_nil _ | exact pm_refl _ _ | exact pm_self _ | apply pm_cons | apply pm_app))); rintro S6 L6 v6 h6 ⟨-, yb, ho6, kb⟩); refine W.freezeOws ho6 (List.Perm.refl _) fun S7 h7 hs7 => ?_; obtain ⟨Ab, cb, rfl, hcb, hAb⟩ := hs7) | refine Jo ?_ | intro _))
  have h57 := h6.trans h7
  have hT7 := (hT.le h35).le h57
  have hAa7 := hAa.le h57
  have ka7 := (ka.le h5).le h57
  have kb7 := kb.le h7
  have la := ka.1
  have lb := kb.1
  (repeat (first | refine Jc ?_ | ((apply s_call; (case hg => rfl); (case hd => rfl); (case ha => rfl); (case hc => exact foldT g1 ya _ _ _ _ _ hT7 hAa7 ka7); (case hL => (repeat (first | exact pm_nil _ | exact pm_refl _ _ | exact pm_self _ | apply pm_cons | apply pm_app))); rintro S8 L8 _ h8 ⟨v8, rfl, ho8⟩); refine W.freezeOws ho8 (List.Perm.refl _) fun S9 h9 hs9 => ?_; obtain ⟨Bs, cs, rfl, hcs, hBs⟩ := hs9) | refine Jo ?_ | intro _))
  rename_i b11
  have h79 := h8.trans h9
  (repeat (first | refine Jc ?_ | ((apply s_call; (case hg => rfl); (case hd => rfl); (case ha => rfl); (case hc => exact foldT g2 yb _ _ _ _ _ (hT7.le h79) (hAb.le h79) (kb7.le h79)); (case hL => (repeat (first | exact pm_nil _ | exact pm_refl _ _ | exact pm_self _ | apply pm_cons | apply pm_app))); rintro S10 L10 _ h10 ⟨v10, rfl, ho10⟩); refine W.freezeOws ho10 (List.Perm.refl _) fun S11 h11 hs11 => ?_; obtain ⟨Bt, ct2, rfl, hct2, hBt⟩ := hs11) | refine Jo ?_ | intro _))
  rename_i b13
  have h711 := h79.trans (h10.trans h11)
  have hAa11 := hAa7.le h711
  have hAb11 := hAb.le h711
  have kab := (ka7.app kb7).le h711
  have kba := (kb7.app ka7).le h711
  have hT11 := hT7.le h711
  (repeat (first | refine Jc ?_ | (apply s_append_st (ms := ya) hAa11; (case hg => rfl); (case hd => rfl); (case hx => rfl); (case ho => exact Ows.full (α := Stk) (l := []) rfl (by decide)); (case hL => (repeat (first | exact pm_nil _ | exact pm_refl _ _ | exact pm_self _ | apply pm_cons | apply pm_app))); (case hy => rfl); (case hm => first | rfl | simp); (case hzs => rfl); (case h0 => decide); (case hb => first | (simp; omega) | simp); (case h63 => first | (simp; omega) | simp); intro v12 ob12 ho12) | (apply s_append_st (ms := yb) hAb11; (case hg => rfl); (case hd => rfl); (case hx => rfl); (case ho => exact ho12); (case hL => (repeat (first | exact pm_nil _ | exact pm_refl _ _ | exact pm_self _ | apply pm_cons | apply pm_app))); (case hy => rfl); (case hm => first | rfl | simp); (case hzs => rfl); (case h0 => decide); (case hb => first | (simp; omega) | simp); (case h63 => first | (simp; omega) | simp); intro v13 ob13 ho13) | refine Jo ?_ | intro _))
  rename_i b13b
  refine W.freezeOws ho13 (List.Perm.refl _) fun S13 h13' hs13 => ?_
  obtain ⟨A13, c13, rfl, hc13, hA13⟩ := hs13
  rw [List.nil_append] at hA13
  have h1113 := h13'
  (repeat (first | refine Jc ?_ | ((apply s_call; (case hg => rfl); (case hd => rfl); (case ha => rfl); (case hc => exact foldT g12 (ya ++ yb) _ _ _ _ _ (hT11.le h13') hA13 (kab.le h13')); (case hL => (repeat (first | exact pm_nil _ | exact pm_refl _ _ | exact pm_self _ | apply pm_cons | apply pm_app))); rintro S14 L14 _ h14 ⟨v14, rfl, ho14⟩); refine W.freezeOws ho14 (List.Perm.refl _) fun S15 h15 hs15 => ?_; obtain ⟨Bu, cu, rfl, hcu, hBu⟩ := hs15) | refine Jo ?_ | intro _))
  rename_i b15 b15l
  have h1115 := h13'.trans (h14.trans h15)
  have hAa15 := hAa11.le h1115
  have hAb15 := hAb11.le h1115
  (repeat (first | refine Jc ?_ | (apply s_append_st (ms := yb) hAb15; (case hg => rfl); (case hd => rfl); (case hx => rfl); (case ho => exact Ows.full (α := Stk) (l := []) rfl (by decide)); (case hL => (repeat (first | exact pm_nil _ | exact pm_refl _ _ | exact pm_self _ | apply pm_cons | apply pm_app))); (case hy => rfl); (case hm => first | rfl | simp); (case hzs => rfl); (case h0 => decide); (case hb => first | (simp; omega) | simp); (case h63 => first | (simp; omega) | simp); intro v16 ob16 ho16) | (apply s_append_st (ms := ya) hAa15; (case hg => rfl); (case hd => rfl); (case hx => rfl); (case ho => exact ho16); (case hL => (repeat (first | exact pm_nil _ | exact pm_refl _ _ | exact pm_self _ | apply pm_cons | apply pm_app))); (case hy => rfl); (case hm => first | rfl | simp); (case hzs => rfl); (case h0 => decide); (case hb => first | (simp; omega) | simp); (case h63 => first | (simp; omega) | simp); intro v17 ob17 ho17) | refine Jo ?_ | intro _))
  refine W.freezeOws ho17 (List.Perm.refl _) fun S17 h17 hs17 => ?_
  obtain ⟨A17, c17, rfl, hc17, hA17⟩ := hs17
  rw [List.nil_append] at hA17
  have h1117 := h1115.trans h17
  (repeat (first | refine Jc ?_ | ((apply s_call; (case hg => rfl); (case hd => rfl); (case ha => rfl); (case hc => exact foldT g21 (yb ++ ya) _ _ _ _ _ (hT11.le h1117) hA17 (kba.le h1117)); (case hL => (repeat (first | exact pm_nil _ | exact pm_refl _ _ | exact pm_self _ | apply pm_cons | apply pm_app))); rintro S18 L18 _ h18 ⟨v18, rfl, ho18⟩); refine W.freezeOws ho18 (List.Perm.refl _) fun S19 h19 hs19 => ?_; obtain ⟨Bv, cv, rfl, hcv, hBv⟩ := hs19) | refine Jo ?_ | intro _))
  have h1519 := h17.trans (h18.trans h19)
  have hBs19 := ((hBs.le (h10.trans h11)).le h1115).le h1519
  have hBt19 := (hBt.le h1115).le h1519
  have hBu19 := hBu.le h1519
  (repeat (first | refine Jc ?_ | ((apply s_call; (case hg => rfl); (case hd => rfl); (case ha => rfl); (case hc => exact mergeT g1 g2 g12 _ _ _ _ _ hBs19 hBt19); (case hL => (repeat (first | exact pm_nil _ | exact pm_refl _ _ | exact pm_self _ | apply pm_cons | apply pm_app))); rintro S20 L20 _ h20 ⟨v20, rfl, ho20⟩); refine W.freezeOws ho20 (List.Perm.refl _) fun S21 h21 hs21 => ?_; obtain ⟨Bw, cw, rfl, hcw, hBw⟩ := hs21) | refine Jo ?_ | intro _))
  have h1921 := h20.trans h21
  (repeat (first | refine Jc ?_ | ((apply s_call; (case hg => rfl); (case hd => rfl); (case ha => rfl); (case hc => exact mergeT g2 g1 g21 _ _ _ _ _ (hBt19.le h1921) (hBs19.le h1921)); (case hL => (repeat (first | exact pm_nil _ | exact pm_refl _ _ | exact pm_self _ | apply pm_cons | apply pm_app))); rintro S22 L22 _ h22 ⟨v22, rfl, ho22⟩); refine W.freezeOws ho22 (List.Perm.refl _) fun S23 h23 hs23 => ?_; obtain ⟨By_, cy, rfl, hcy, hBy⟩ := hs23) | refine Jo ?_ | intro _))
  have h2123 := h22.trans h23
  have hBu23 := (hBu19.le h1921).le h2123
  have hBv23 := (hBv.le h1921).le h2123
  have hBw23 := hBw.le h2123
  (repeat (first | refine Jc ?_ | ((apply s_call; (case hg => rfl); (case hd => rfl); (case ha => rfl); (case hc => exact sameT (nF_len g12) hcm _ _ _ _ _ hBu23 hBv23); (case hL => (repeat (first | exact pm_nil _ | exact pm_refl _ _ | exact pm_self _ | apply pm_cons | apply pm_app))); rintro _ _ _ - ⟨rfl, rfl, rfl⟩)) | ((apply s_call; (case hg => rfl); (case hd => rfl); (case ha => rfl); (case hc => exact sameT (nF_len g12) rfl _ _ _ _ _ hBu23 hBw23); (case hL => (repeat (first | exact pm_nil _ | exact pm_refl _ _ | exact pm_self _ | apply pm_cons | apply pm_app))); rintro _ _ _ - ⟨rfl, rfl, rfl⟩)) | ((apply s_call; (case hg => rfl); (case hd => rfl); (case ha => rfl); (case hc => exact sameT (nF_len g12) hcm _ _ _ _ _ hBu23 hBy); (case hL => (repeat (first | exact pm_nil _ | exact pm_refl _ _ | exact pm_self _ | apply pm_cons | apply pm_app))); rintro _ _ _ - ⟨rfl, rfl, rfl⟩)) | ((apply s_call; (case hg => rfl); (case hd => rfl); (case ha => rfl); (case hc => exact validT g12 _ _ _ hBu23); (case hL => (repeat (first | exact pm_nil _ | exact pm_refl _ _ | exact pm_self _ | apply pm_cons | apply pm_app))); rintro _ _ _ - ⟨rfl, rfl⟩)) | refine Jo ?_ | intro _))
  exact o_ret (L' := []) Try.results4 rfl (List.nil_sublist _) ⟨rfl, rfl⟩
end Go.Proofs.Ytcnfchchanlepaa
namespace Go.Proofs.Ytcnfchchanlepaa
open Go Go.X
open Go.ChangeShapes Go.WideShapes Go.ChangeAt Go.RowKit
set_option linter.unusedVariables false
set_option maxRecDepth 100000 in
theorem liftedProfileFolds (os : Os) (started : os.Started) (H : Type) (enc : TypeId × Value → H) :
    ReturnsInHanded {} Try.checked os 4 .any (Rows.profileFoldsSpec.pre6 enc Try.prog Try.f4 Rows.profileFoldsRow.domain false) (Rows.profileFoldsSpec.post enc Try.prog Try.f4 false true false false) := by
  refine returnsInHanded_of_change (C := Try.checked) own started (by kernel_rfl) Try.func4
    (ChangeSpec.witness6 (enc := enc) (C := Try.checked) false ⟨#[], #[.slice none 0 0, .slice none 0 0, .slice none 0 0], []⟩ 8 (by kernel_rfl) (by kernel_rfl) (by kernel_rfl) (by kernel_rfl)) ?_
  intro W base args ds gs before hval0 hW hcnd _
  have hval : ∀ (j : Nat) t v, Try.f4.params[j]? = some t → args[j]? = some v → Value.okWide Try.prog W .any base t v := hval0
  have hW' := hW
  obtain ⟨p, q, hA0, hV, rfl, hfz, hnd⟩ := hW
  have hA : DataW.TrodAll enc Try.prog W 0 (fun _ => true) true Try.f4.params.toList args.toList ds p := hA0
  rw [Try.params4] at hA hval
  obtain ⟨v0, vs0, d0, ds0, p0, q0, hargs, rfl, rfl, h0, r0⟩ := trodAll_cons hA
  obtain ⟨v1, vs1, d1, ds1, p1, q1, rfl, rfl, rfl, h1, r1⟩ := trodAll_cons r0
  obtain ⟨v2, vs2, d2, ds2, p2, q2, rfl, rfl, rfl, h2, r2⟩ := trodAll_cons r1
  obtain ⟨rfl, rfl, rfl⟩ := trodAll_nil r2
  obtain rfl : args = #[v0, v1, v2] := by cases args; simp_all
  obtain ⟨rfl, rfl⟩ := trodVars_none hV
  have k0 := h0
  have lt0 : ∀ x ∈ p0, x.block < W.heap.size := by obtain ⟨m, hm⟩ := k0; exact DataW.trod_lt m _ _ _ hm
  have k1 := h1
  have lt1 : ∀ x ∈ p1, x.block < W.heap.size := by obtain ⟨m, hm⟩ := k1; exact DataW.trod_lt m _ _ _ hm
  have k2 := h2
  have lt2 : ∀ x ∈ p2, x.block < W.heap.size := by obtain ⟨m, hm⟩ := k2; exact DataW.trod_lt m _ _ _ hm
  obtain ⟨a0, len0, cap0, rfl⟩ := okWide_slice Try.underlying24 (hval 0 24 v0 rfl rfl)
  obtain ⟨xs0, rfl, gl0, gA0, gx0⟩ := open_sl (α := A3) Try.underlying24 (by kernel_rfl) rdb_A3 rfl h0
  obtain ⟨a1, len1, cap1, rfl⟩ := okWide_slice Try.underlying25 (hval 1 25 v1 rfl rfl)
  obtain ⟨xs1, rfl, gl1, gA1, gx1⟩ := open_sl (α := A6) Try.underlying25 (by kernel_rfl) rdb_A6 rfl h1
  obtain ⟨a2, len2, cap2, rfl⟩ := okWide_slice Try.underlying25 (hval 2 25 v2 rfl rfl)
  obtain ⟨xs2, rfl, gl2, gA2, gx2⟩ := open_sl (α := A6) Try.underlying25 (by kernel_rfl) rdb_A6 rfl h2
  refine (calls_of_con (folds_law xs0 a0 cap0 xs1 a1 cap1 xs2 a2 cap2 (allOf W) gA0 gx0 gA1 gx1 gA2 gx2) fun _ _ _ h => h.2).mono fun e W' ⟨he, bel⟩ => ?_
  subst he
  exact ⟨_, rfl, _, _, _, [], _, [], hW', trodAll_mk1 (shut_bool Try.underlying4 _), (trodAll_cons_mk (Below.trod laidOut (by kernel_rfl) (of_decide_eq_true (by kernel_rfl)) k0 bel lt0) (trodAll_cons_mk (Below.trod laidOut (by kernel_rfl) (of_decide_eq_true (by kernel_rfl)) k1 bel lt1) (trodAll_cons_mk (Below.trod laidOut (by kernel_rfl) (of_decide_eq_true (by kernel_rfl)) k2 bel lt2) trodAll_mk0))), rfl, bel.frame _, fun h => by cases h⟩
theorem overProfileFolds : Rows.profileFoldsRow.holds Try.pinned (OpenSpec.ofChange Rows.profileFoldsSpec) :=
  OpenClaim.holds_of_wide 4 Try.f4 rfl rfl rfl rfl rfl rfl rfl ⟨rfl, rfl, rfl, rfl, rfl⟩ rfl rfl rfl rfl rfl (by kernel_rfl) Try.func4 (by kernel_rfl)
    (of_decide_eq_true (by kernel_rfl)) (by unfold Func.isWrapper; rw [if_neg (of_decide_eq_false (by kernel_rfl))]; exact ⟨rfl, rfl⟩)
    (fun os started H enc _ => liftedProfileFolds os started H enc)
theorem profileFolds_holds : Rows.ProfileFoldsSaid := overProfileFolds
#print axioms profileFolds_holds
end Go.Proofs.Ytcnfchchanlepaa
