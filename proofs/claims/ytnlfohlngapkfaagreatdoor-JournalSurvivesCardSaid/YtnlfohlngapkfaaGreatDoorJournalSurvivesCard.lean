/- JournalSurvives returns true for every input, and each argument reads afterwards as it read before; the listed package variables start as the program's text lays them, and the given tie to the text is used. -/
import Derived.Test.YtnlfohlngapkfaaGreatDoorBe
import Derived.Test.YtnlfohlngapkfaaGreatDoorCards
import Derived.Test.YtnlfohlngapkfaaGreatDoorTie
namespace Go.Proofs.YtnlfohlngapkfaaGreatDoor
open Go Go.X
set_option maxRecDepth 10000
set_option linter.unusedVariables false
attribute [local irreducible] Code.wpIn wpListIn Exit.then Exit.inBlock X.Out X.Back X.W X.Ev X.Con X.BinV X.Wh X.Wn X.Wq
attribute [local irreducible] sumK chain stw group stored
set_option maxHeartbeats 1600000 in
theorem survives_law (n : Int) (xs : List Sv) (A : Option Addr) (c : Nat) (cut : Int) (ks : List Int) (KA : Option Addr) (kc : Nat) (torn : Int) (K : List UInt32) (p : Addr) (S : SH) (hn : i64 n) (hA : At S A xs) (hx : ∀ x ∈ xs, slOk S x) (hxc : xs.length ≤ c) (hxm : c ≤ maxLen) (hcut : i64 cut) (hKA : At S KA ks) (hk64 : ∀ x ∈ ks, i64 x) (hkc : ks.length ≤ kc) (hkm : kc ≤ maxLen) (ht : i64 torn)
    (hK : Pts S ⟨4, 0, none⟩ (cellsOf K)) (hKl : K.length = 64) (hE : Pts S ⟨0, 0, none⟩ [errV p]) :
    Con Tryz.prog 5 #[.int .i64 n, .slice A xs.length c, .int .i64 cut, .slice KA ks.length kc, .int .i64 torn] S [] (fun S' L' r => r = .bool true) := by
  refine con_of (args := [.int .i64 n, .slice A xs.length c, .int .i64 cut, .slice KA ks.length kc, .int .i64 torn]) Tryz.func5 rfl Tryz.ntmps5 rfl fun w => ?_
  have hb := sizeN_bd n
  have hxl : xs.length ≤ 9223372036854775807 := Nat.le_trans hxc (Nat.le_trans hxm (by decide))
  obtain ⟨N, hN⟩ : ∃ N, N = sizeN n := ⟨_, rfl⟩
  have hsz : ∀ S, Con Tryz.prog 16 #[.int .i64 n] S [] (X.Pure S (.int .i64 (N : Nat))) := fun S => by rw [hN]; exact size_con n S hn
  have h0 : (recB K []).length = 0 := by rw [recB_nil]; rfl
  (repeat (first | refine Jc ?_ | (apply s_call (L2 := []); (case hg => rfl); (case hd => rfl); (case ha => rfl); (case hc => exact sane_con K p S hK hKl hE); (case hL => (exact pmc (fun p => by first | rfl | ((repeat rw [List.countP_append]); (repeat rw [List.countP_cons]); (repeat rw [List.countP_nil]); (all_goals (first | rfl | omega)))))); rintro S1 L1 v1 hle1 ⟨rfl, rfl⟩) | (apply z_call; rfl; rfl; rfl; exact hsz _; rintro _ _ _ - ⟨rfl, rfl, rfl⟩) | (apply s_call (L2 := []); (case hg => rfl); (case hd => rfl); (case ha => rfl); (case hc => exact New_con N S1 (by omega)); (case hL => (exact pmc (fun p => by first | rfl | ((repeat rw [List.countP_append]); (repeat rw [List.countP_cons]); (repeat rw [List.countP_nil]); (all_goals (first | rfl | omega)))))); rintro S2 L2 v2 - ⟨rfl, v, hD, rfl⟩; rw [newD_eq K] at hD; obtain ⟨bd, rfl⟩ := hD.form) | refine Jo ?_ | intro _))
  (repeat (first | refine Jc ?_ | (apply s_call (L2 := []); (case hg => rfl); (case hd => rfl); (case ha => rfl); (case hc => exact OpenR_con hD (Good_mess (by omega)) (by omega) Short.nil S2 (hK.le hle1) hKl); (case hL => (exact pmc (fun p => by first | rfl | ((repeat rw [List.countP_append]); (repeat rw [List.countP_cons]); (repeat rw [List.countP_nil]); (all_goals (first | rfl | omega)))))); rintro S3 L3 v3 hle3 ⟨jv, LJ, LD, rfl, hJ, hD2, rfl⟩; obtain ⟨bj, rfl⟩ := hJ.form) | refine Jo ?_ | intro _))
  refine c_loop (fun m S' L F => Le S S' ∧ ∃ (k : Nat) (was want : List Str) (wv tv : Value) (D : Dk) (LJ LD : Blocks), m = 8 - k ∧ k ≤ 8 ∧ k ≤ xs.length ∧ Sr S' wv was ∧ Sr S' tv want ∧ Fin K N was want D ∧ OwD (.pointer (some ⟨bd, 0, none⟩)) D LD ∧
      (k < xs.length → k < 8 → ∃ a, D = setD (Good K N a) ∧ OwJ (.pointer (some ⟨bj, 0, none⟩)) (.pointer (some ⟨bd, 0, none⟩)) (jnK K a) LJ ∧ Short a ∧ (recB K a).length ≤ N) ∧ L = LJ ++ LD ∧
      F = [(0, .int .i64 n), (1, .slice A xs.length c), (2, .int .i64 cut), (3, .slice KA ks.length kc), (4, .int .i64 torn), (11, .bool true), (12, .pointer (some ⟨bd, 0, none⟩)), (14, .pointer (some ⟨bj, 0, none⟩)), (16, wv), (17, tv), (18, .int .i64 k)])
    ⟨hle1.trans hle3, 0, [], [], _, _, _, LJ, LD, rfl, by omega, by omega, Sr.nil _, Sr.nil _, Fin.of (D := setD (Good K N [])) Short.nil rfl rfl (by omega), hD2, fun _ _ => ⟨[], rfl, hJ, Short.nil, by omega⟩, rfl, rfl⟩ sbF (List.sublist_append_left _ _) ?_
  clear hJ hD2 hD
  rintro m S4 L F ⟨hle4, k, was, want, wv, tv, D, LJ, LD, rfl, hk8, hkx, hwas, hwant, hfin, hD, hset, rfl, rfl⟩
  have hKS := hK.le hle4
  by_cases hlt : k < xs.length ∧ k < 8
  · obtain ⟨h1, h2⟩ := hlt
    obtain ⟨a, rfl, hJ, hsa, hra⟩ := hset h1 h2
    clear hset hfin hwas hwant
    obtain ⟨x, hxk⟩ : ∃ x, xs[k]? = some x := ⟨_, List.getElem?_eq_getElem h1⟩
    obtain ⟨xa, xm, xc⟩ := x
    obtain ⟨l, hm, hc, hAl, hyl⟩ := (hx _ (List.mem_of_getElem? hxk)).le hle4
    simp only at hm hc hAl
    subst hm
    have hral := recB_len (K := K) hsa
    have hfl := few_len l
    have hG := Good_len (K := K) hra
    (repeat (first | refine Jc ?_ | (apply s_call (L2 := LD); (case hg => rfl); (case hd => rfl); (case ha => rfl); (case hc => exact Records_con hJ S4 (show a.length ≤ _ by omega)); (case hL => (exact pmc (fun p => by first | rfl | ((repeat rw [List.countP_append]); (repeat rw [List.countP_cons]); (repeat rw [List.countP_nil]); (all_goals (first | rfl | omega)))))); rintro S5 L5 v5 - ⟨rfl, ob5, rfl, ho5⟩; refine W.freezeOws (L1 := LJ ++ LD) ho5 (pmc (fun p => by first | rfl | ((repeat rw [List.countP_append]); (repeat rw [List.countP_cons]); (repeat rw [List.countP_nil]); (all_goals (first | rfl | omega))))) fun S6 hle6 hs6 => ?_; obtain ⟨A6, c6, rfl, hc6, hA6⟩ := hs6) | refine Jo ?_ | intro _))
    refine W.trim (F' := [(0, .int .i64 n), (1, .slice A xs.length c), (2, .int .i64 cut), (3, .slice KA ks.length kc), (4, .int .i64 torn), (11, .bool true), (12, .pointer (some ⟨bd, 0, none⟩)), (14, .pointer (some ⟨bj, 0, none⟩)), (16, .slice A6 a.length c6), (18, .int .i64 k)]) (L' := LJ ++ LD) sbF (List.Sublist.refl _) ?_
    ((apply c_held ([]); (case hL => (exact sbT))); refine Jf 1 ?_; refine Jf 3 ?_; refine Jf 4 ?_; (apply h_idx (hA.le (hle4.trans hle6)) 5; (case hi => rfl); (case hr => kernel_rfl); (case hfr => kernel_rfl); (case hsel => kernel_rfl); (case hg => rfl); (case hd => rfl); (case i1 => infer_instance); (case i2 => infer_instance); (case hx => rfl); (case hy => rfl); (case hm => rfl); (case hu => exact hxk); intro q (hq : Pts _ q [.slice xa l.length xc])); (apply h_first 6; (case hi => rfl); (case hr => kernel_rfl); (case hfr => kernel_rfl); (case hsel => kernel_rfl); (case hg => rfl); (case hd => rfl); (case he => (apply ev_load1; (case hx => rfl); (case h => exact hq)))); (apply h_one 0; (case hr => kernel_rfl)); (apply n_buildSlice; (case hi => rfl); (case hg => rfl); (case hd => rfl); (case i1 => infer_instance); (case i2 => infer_instance); (case i3 => infer_instance); (case hp => rfl); (case hq => rfl); (case hm => rfl); (case hv => rfl); (case hl => rfl); intro bl); (apply h_one 2; (case hr => kernel_rfl)); (apply n_append_st (ms := a) hA6; (case hi => rfl); (case hT => infer_instance); (case hsz => infer_instance); (case hz => infer_instance); (case hby => infer_instance); (case hg => rfl); (case hd => rfl); (case hx => rfl); (case ho => exact (Ows.full (α := Str) (l := []) rfl (by decide))); (case hL => (repeat (first | exact pm_nil _ | exact pm_refl _ _ | exact pm_self _ | apply pm_cons | apply pm_app))); (case hy => rfl); (case hm => first | rfl | simp); (case hzs => rfl); (case h0 => decide); (case hb => first | (simp; omega) | simp); (case h63 => first | (simp; omega) | simp); (case hsub => first | (intro _ _; exact List.nil_sublist _) | (intros; (exact sbT))); intro v7 ob7 ho7); (apply h_one 7; (case hr => kernel_rfl)); (apply n_call; (case hi => rfl); (case i1 => infer_instance); (case hg => rfl); (case hd => rfl); (case ha => rfl); (case hc => exact few_con l xa xc _ (hAl.le hle6)); (case hL => (repeat (first | exact pm_nil _ | exact pm_refl _ _ | exact pm_self _ | apply pm_cons | apply pm_app))); (case hsub => (intros; (exact sbT))); rintro S8 L8 v8 - ⟨rfl, ho8⟩; refine Wh.freezeOws (L1 := ob7 ++ (LJ ++ LD)) ho8 (pmc (fun p => by first | rfl | ((repeat rw [List.countP_append]); (repeat rw [List.countP_cons]); (repeat rw [List.countP_nil]); (all_goals (first | rfl | omega))))) (List.nil_sublist _) fun S9 hle9 hs9 => ?_; obtain ⟨A9, c9, rfl, hc9, hA9⟩ := hs9); (apply h_one 8; (case hr => kernel_rfl)); (apply n_append_st (ms := (fewL l)) hA9; (case hi => rfl); (case hT => infer_instance); (case hsz => infer_instance); (case hz => infer_instance); (case hby => infer_instance); (case hg => rfl); (case hd => rfl); (case hx => rfl); (case ho => exact ho7); (case hL => (repeat (first | exact pm_nil _ | exact pm_refl _ _ | exact pm_self _ | apply pm_cons | apply pm_app))); (case hy => rfl); (case hm => first | rfl | simp); (case hzs => rfl); (case h0 => decide); (case hb => first | (simp; omega) | simp); (case h63 => first | (simp; omega) | simp); (case hsub => first | (intro _ _; exact List.nil_sublist _) | (intros; (exact sbT))); intro v10 ob10 ho10); refine Jf 9 ?_; (apply h_end; (case hr => kernel_rfl)))
    refine W.freezeOws (L1 := LJ ++ LD) ho10 (pmc (fun p => by first | rfl | ((repeat rw [List.countP_append]); (repeat rw [List.countP_cons]); (repeat rw [List.countP_nil]); (all_goals (first | rfl | omega))))) fun S11 hle11 hs11 => ?_
    have hs11 : Sr S11 v10 (a ++ fewL l) := hs11
    have hle' := hle6.trans (hle9.trans hle11)
    have hsA : Sr S11 (.slice A6 a.length c6) a := ⟨A6, c6, rfl, hc6, hA6.le (hle9.trans hle11)⟩
    have hp3 := pickI_bd cut 3 (by decide)
    have hSf := few_short l
    by_cases hl : k + 1 = xs.length ∨ k = 7
    · rcases (show k + 1 = xs.length ∨ (k + 1 ≠ xs.length ∧ k = 7) by omega) with e1 | ⟨e1, e2⟩
      all_goals
        (repeat (first | refine Jc ?_ | (apply z_call; rfl; rfl; rfl; exact lpick_con cut 3 _ hcut (by decide); rintro _ _ _ - ⟨rfl, rfl, rfl⟩) | (apply s_call (L2 := LJ); (case hg => rfl); (case hd => rfl); (case ha => rfl); (case hc => exact Cut_con hD _ (1 + pickI cut 3) (by unfold i64; omega)); (case hL => (exact pmc (fun p => by first | rfl | ((repeat rw [List.countP_append]); (repeat rw [List.countP_cons]); (repeat rw [List.countP_nil]); (all_goals (first | rfl | omega)))))); rintro S12 L12 v12 - ⟨rfl, hD12, rfl⟩) | refine Jo ?_ | intro _))
        have hcut2 : cutD (setD (Good K N a)) (1 + pickI cut 3) = ⟨false, 1 + pickI cut 3, Good K N a, Good K N a, []⟩ := by
          have e3 : ¬(1 + pickI cut 3 < 0) := by omega
          have e4 : ¬(1 + pickI cut 3 = 0) := by omega
          simp [cutD, setD, e3, e4]
        rw [hcut2] at hD12
        have hJA : JA K N (jnK K a) ⟨false, 1 + pickI cut 3, Good K N a, Good K N a, []⟩ := ⟨⟨rfl, rfl, hra, hsa⟩, rfl, rfl, rfl, rfl⟩
        (repeat (first | refine Jc ?_ | (apply s_idx (hA.le (hle4.trans hle')); (case hg => rfl); (case hd => rfl); (case hx => rfl); (case hi => rfl); (case hm => rfl); (case hu => exact hxk); intro q (hq : Pts _ q [.slice xa l.length xc])) | (apply s_load1; (case hg => rfl); (case hd => rfl); (case hx => rfl); (case hv => exact hq)) | (apply s_call (L2 := L12 ++ LJ); (case hg => rfl); (case hd => rfl); (case ha => rfl); (case hc => exact few_con l xa xc _ (hAl.le hle')); (case hL => (exact pmc (fun p => by first | rfl | ((repeat rw [List.countP_append]); (repeat rw [List.countP_cons]); (repeat rw [List.countP_nil]); (all_goals (first | rfl | omega)))))); rintro S13 L13 v13 - ⟨rfl, ho13⟩; refine W.freezeOws (L1 := LJ ++ L12) ho13 (pmc (fun p => by first | rfl | ((repeat rw [List.countP_append]); (repeat rw [List.countP_cons]); (repeat rw [List.countP_nil]); (all_goals (first | rfl | omega))))) fun S14 hle14 hs14 => ?_; obtain ⟨A14, c14, rfl, -, hA14⟩ := hs14) | refine Jo ?_ | intro _))
        (repeat (first | refine Jc ?_ | (apply s_call (L2 := []); (case hg => rfl); (case hd => rfl); (case ha => rfl); (case hc => exact AppG_con hJ hD12 hJA (show 0 ≤ 1 + pickI cut 3 by omega) (fewL l) A14 c14 S14 hA14 (by omega) hSf (by omega) (hKS.le (hle'.trans hle14)) hKl); (case hL => (exact pmc (fun p => by first | rfl | ((repeat rw [List.countP_append]); (repeat rw [List.countP_cons]); (repeat rw [List.countP_nil]); (all_goals (first | rfl | omega)))))); rintro S15 L15 v15 hle15 ⟨LJ15, LD15, J15, D15, e15, rfl, hJ15, hD15, rfl, h15⟩; have hle15' := hle'.trans (hle14.trans hle15); have hle16 := hle14.trans hle15; rcases h15 with ⟨rfl, rfl, rfl⟩ | ⟨rfl, ⟨rfl, rfl, hn15⟩ | ⟨hA15, hr15, hp15⟩⟩ | ⟨rfl, hr15, hb15⟩) | refine Jo ?_ | intro _))
        all_goals (repeat (first | refine Jz ?_ | intro _))
        · exact q_back (m' := 8 - (k + 1)) ⟨hle4.trans hle15', k + 1, a, a, _, _, _, LJ15, LD15, rfl, by omega, by omega, hsA.le hle16, hsA.le hle16, Fin.ja hJA, hD15, fun _ _ => by omega, rfl, rfl⟩ (by omega) sbF (List.sublist_append_left _ _)
        · rw [hn15, List.append_nil] at hs11
          exact q_back (m' := 8 - (k + 1)) ⟨hle4.trans hle15', k + 1, a, a, _, _, _, LJ15, LD15, rfl, by omega, by omega, hs11.le hle16, hs11.le hle16, Fin.ja hJA, hD15, fun _ _ => by omega, rfl, rfl⟩ (by omega) sbF (List.sublist_append_left _ _)
        · have hfn := Fin.ja hA15
          rw [hr15] at hfn
          exact q_back (m' := 8 - (k + 1)) ⟨hle4.trans hle15', k + 1, a ++ fewL l, a ++ fewL l, _, _, _, LJ15, LD15, rfl, by omega, by omega, hs11.le hle16, hs11.le hle16, hfn, hD15, fun _ _ => by omega, rfl, rfl⟩ (by omega) sbF (List.sublist_append_left _ _)
        · have hfn := Fin.jb hb15
          rw [hr15] at hfn
          exact q_back (m' := 8 - (k + 1)) ⟨hle4.trans hle15', k + 1, a, a ++ fewL l, _, _, _, LJ15, LD15, rfl, by omega, by omega, hsA.le hle16, hs11.le hle16, hfn, hD15, fun _ _ => by omega, rfl, rfl⟩ (by omega) sbF (List.sublist_append_left _ _)
    · (repeat (first | refine Jc ?_ | (apply s_idx (hA.le (hle4.trans hle')); (case hg => rfl); (case hd => rfl); (case hx => rfl); (case hi => rfl); (case hm => rfl); (case hu => exact hxk); intro q (hq : Pts _ q [.slice xa l.length xc])) | (apply s_load1; (case hg => rfl); (case hd => rfl); (case hx => rfl); (case hv => exact hq)) | (apply s_call (L2 := LJ ++ LD); (case hg => rfl); (case hd => rfl); (case ha => rfl); (case hc => exact few_con l xa xc _ (hAl.le hle')); (case hL => (exact pmc (fun p => by first | rfl | ((repeat rw [List.countP_append]); (repeat rw [List.countP_cons]); (repeat rw [List.countP_nil]); (all_goals (first | rfl | omega)))))); rintro S13 L13 v13 - ⟨rfl, ho13⟩; refine W.freezeOws (L1 := LJ ++ LD) ho13 (pmc (fun p => by first | rfl | ((repeat rw [List.countP_append]); (repeat rw [List.countP_cons]); (repeat rw [List.countP_nil]); (all_goals (first | rfl | omega))))) fun S14 hle14 hs14 => ?_; obtain ⟨A14, c14, rfl, -, hA14⟩ := hs14) | refine Jo ?_ | intro _))
      (repeat (first | refine Jc ?_ | (apply s_call (L2 := []); (case hg => rfl); (case hd => rfl); (case ha => rfl); (case hc => exact AppS_con hJ hD (fewL l) A14 c14 S14 hA14 (by omega) hsa hSf hra (by omega) (hKS.le (hle'.trans hle14)) hKl); (case hL => (exact pmc (fun p => by first | rfl | ((repeat rw [List.countP_append]); (repeat rw [List.countP_cons]); (repeat rw [List.countP_nil]); (all_goals (first | rfl | omega)))))); rintro S15 L15 v15 hle15 ⟨LJ15, LD15, rfl, h15⟩; have hle15' := hle'.trans (hle14.trans hle15); have hle16 := hle14.trans hle15; rcases h15 with ⟨-, hJ15, hD15, rfl⟩ | ⟨hf15, hJ15, hD15, rfl⟩) | refine Jo ?_ | intro _))
      all_goals (repeat (first | refine Jz ?_ | intro _))
      · exact q_back (m' := 8 - (k + 1)) ⟨hle4.trans hle15', k + 1, a, a, _, _, _, LJ15, LD15, rfl, by omega, by omega, hsA.le hle16, hsA.le hle16, Fin.of (D := setD (Good K N a)) hsa rfl rfl hra, hD15, fun _ _ => ⟨a, rfl, hJ15, hsa, hra⟩, rfl, rfl⟩ (by omega) sbF (List.sublist_append_left _ _)
      · exact q_back (m' := 8 - (k + 1)) ⟨hle4.trans hle15', k + 1, a ++ fewL l, a ++ fewL l, _, _, _, LJ15, LD15, rfl, by omega, by omega, hs11.le hle16, hs11.le hle16, Fin.of (D := setD (Good K N (a ++ fewL l))) (hsa.app hSf) rfl rfl hf15, hD15, fun _ _ => ⟨_, rfl, hJ15, hsa.app hSf, hf15⟩, rfl, rfl⟩ (by omega) sbF (List.sublist_append_left _ _)
  clear hset
  obtain ⟨hsw, hst, hpd, hwn, hcr⟩ := hfin
  obtain ⟨AW, cW, rfl, -, hAW⟩ := hwas
  obtain ⟨AT, cT, rfl, -, hAT⟩ := hwant
  by_cases h1 : k < xs.length
  all_goals
    (repeat (first | refine Jc ?_ | (apply s_minn; (case hg => rfl); (case hd => rfl); (case hx => rfl); (case hy => rfl)) | (apply s_slice_hi (hKA.le hle4); (case hg => rfl); (case hd => rfl); (case hx => rfl); (case hy => rfl); (case hm => rfl); (case hmc => omega); (case hj => omega); intro KA' hKA') | (apply s_call (L2 := LJ); (case hg => rfl); (case hd => rfl); (case ha => rfl); (case hc => exact Crash_con hD _ _ KA' kc torn hKA' (by simp; omega) (fun x hx => hk64 x (List.mem_of_mem_take hx)) ht (by omega)); (case hL => (exact pmc (fun p => by first | rfl | ((repeat rw [List.countP_append]); (repeat rw [List.countP_cons]); (repeat rw [List.countP_nil]); (all_goals (first | rfl | omega)))))); rintro S20 L20 v20 hle20 ⟨hD20, rfl⟩; rw [crD_eq] at hD20; rcases hcr (ks.take (min ks.length 20)) torn with hm | hm) | refine Jo ?_ | intro _))
    · have hNw := hm.le
      have hwl := recB_len (K := K) hsw
      (repeat (first | refine Jc ?_ | (apply s_call (L2 := LJ); (case hg => rfl); (case hd => rfl); (case ha => rfl); (case hc => exact OpenR_con hD20 hm (by omega) hsw _ ((hKS).le hle20) hKl); (case hL => (exact pmc (fun p => by first | rfl | ((repeat rw [List.countP_append]); (repeat rw [List.countP_cons]); (repeat rw [List.countP_nil]); (all_goals (first | rfl | omega)))))); rintro S21 L21 v21 hle21 ⟨kv, LK, LD21, rfl, hJk, hD21, rfl⟩; obtain ⟨bk, rfl⟩ := hJk.form) | (apply s_evb; (case hg => rfl); (case hd => rfl); (case hn => rfl); (case he => (apply ev_neq_p; (case hx => rfl); (case hy => rfl)))) | refine Jo ?_ | intro _))
      (repeat (first | refine Jc ?_ | (apply s_call (L2 := LD21 ++ LJ); (case hg => rfl); (case hd => rfl); (case ha => rfl); (case hc => exact Records_con hJk _ (show was.length ≤ _ by omega)); (case hL => (exact pmc (fun p => by first | rfl | ((repeat rw [List.countP_append]); (repeat rw [List.countP_cons]); (repeat rw [List.countP_nil]); (all_goals (first | rfl | omega)))))); rintro S22 L22 v22 - ⟨rfl, ob22, rfl, ho22⟩; refine W.freezeOws (L1 := LK ++ (LD21 ++ LJ)) ho22 (pmc (fun p => by first | rfl | ((repeat rw [List.countP_append]); (repeat rw [List.countP_cons]); (repeat rw [List.countP_nil]); (all_goals (first | rfl | omega))))) fun S23 hle23 hs23 => ?_; obtain ⟨A23, c23, rfl, -, hA23⟩ := hs23) | (apply z_call; rfl; rfl; rfl; exact same_con_t (l := was) (r := was) hA23 (hAW.le (hle20.trans (hle21.trans hle23))) (by omega) rfl; rintro _ _ _ - ⟨rfl, rfl, rfl⟩) | refine Jo ?_ | intro _))
      exact o_ret Tryz.results5 rfl (List.nil_sublist _) rfl
    · have hNw := hm.le
      have hwl := recB_len (K := K) hst
      have hww := recB_len (K := K) hsw
      (repeat (first | refine Jc ?_ | (apply s_call (L2 := LJ); (case hg => rfl); (case hd => rfl); (case ha => rfl); (case hc => exact OpenR_con hD20 hm (by omega) hst _ ((hKS).le hle20) hKl); (case hL => (exact pmc (fun p => by first | rfl | ((repeat rw [List.countP_append]); (repeat rw [List.countP_cons]); (repeat rw [List.countP_nil]); (all_goals (first | rfl | omega)))))); rintro S21 L21 v21 hle21 ⟨kv, LK, LD21, rfl, hJk, hD21, rfl⟩; obtain ⟨bk, rfl⟩ := hJk.form) | (apply s_evb; (case hg => rfl); (case hd => rfl); (case hn => rfl); (case he => (apply ev_neq_p; (case hx => rfl); (case hy => rfl)))) | refine Jo ?_ | intro _))
      (repeat (first | refine Jc ?_ | (apply s_call (L2 := LD21 ++ LJ); (case hg => rfl); (case hd => rfl); (case ha => rfl); (case hc => exact Records_con hJk _ (show want.length ≤ _ by omega)); (case hL => (exact pmc (fun p => by first | rfl | ((repeat rw [List.countP_append]); (repeat rw [List.countP_cons]); (repeat rw [List.countP_nil]); (all_goals (first | rfl | omega)))))); rintro S22 L22 v22 - ⟨rfl, ob22, rfl, ho22⟩; refine W.freezeOws (L1 := LK ++ (LD21 ++ LJ)) ho22 (pmc (fun p => by first | rfl | ((repeat rw [List.countP_append]); (repeat rw [List.countP_cons]); (repeat rw [List.countP_nil]); (all_goals (first | rfl | omega))))) fun S23 hle23 hs23 => ?_; obtain ⟨A23, c23, rfl, -, hA23⟩ := hs23) | refine Jo ?_ | intro _))
      have hsm := same_con want was A23 AW c23 cW S23 hA23 (hAW.le (hle20.trans (hle21.trans hle23))) (by omega) (by omega)
      by_cases he : want.map Str.b = was.map Str.b
      · rw [decide_eq_true he] at hsm
        (repeat (first | refine Jc ?_ | (apply z_call; rfl; rfl; rfl; exact hsm; rintro _ _ _ - ⟨rfl, rfl, rfl⟩) | refine Jo ?_ | intro _))
        exact o_ret Tryz.results5 rfl (List.nil_sublist _) rfl
      · rw [decide_eq_false he] at hsm
        (repeat (first | refine Jc ?_ | (apply z_call; rfl; rfl; rfl; exact hsm; rintro _ _ _ - ⟨rfl, rfl, rfl⟩) | refine Jo ?_ | intro _))
        (repeat (first | refine Jc ?_ | (apply s_call (L2 := LD21 ++ LJ); (case hg => rfl); (case hd => rfl); (case ha => rfl); (case hc => exact Records_con hJk _ (show want.length ≤ _ by omega)); (case hL => (exact pmc (fun p => by first | rfl | ((repeat rw [List.countP_append]); (repeat rw [List.countP_cons]); (repeat rw [List.countP_nil]); (all_goals (first | rfl | omega)))))); rintro S24 L24 v24 - ⟨rfl, ob24, rfl, ho24⟩; refine W.freezeOws (L1 := LK ++ (LD21 ++ LJ)) ho24 (pmc (fun p => by first | rfl | ((repeat rw [List.countP_append]); (repeat rw [List.countP_cons]); (repeat rw [List.countP_nil]); (all_goals (first | rfl | omega))))) fun S25 hle25 hs25 => ?_; obtain ⟨A25, c25, rfl, -, hA25⟩ := hs25) | (apply z_call; rfl; rfl; rfl; exact same_con_t (l := want) (r := want) hA25 (hAT.le (hle20.trans (hle21.trans (hle23.trans hle25)))) (by omega) rfl; rintro _ _ _ - ⟨rfl, rfl, rfl⟩) | refine Jo ?_ | intro _))
        exact o_ret Tryz.results5 rfl (List.nil_sublist _) rfl
end Go.Proofs.YtnlfohlngapkfaaGreatDoor
namespace Go.Proofs.YtnlfohlngapkfaaGreatDoor
open Go Go.X
open Go.ChangeShapes Go.WideShapes Go.ChangeAt Go.RowKit
set_option linter.unusedVariables false
set_option maxHeartbeats 1600000 in
set_option maxRecDepth 100000 in
theorem contractJournalSurvives (H : Type) (enc : TypeId × Value → H) (W : World) (base : Nat) (args : Array Value) (ds gs : List (DataW H)) (before : List MemPlace)
    (hval0 : ∀ (j : Nat) t v, Tryz.f5.params[j]? = some t → args[j]? = some v → Value.okWide Tryz.prog W .any base t v)
    (hW : DataW.Whole enc Tryz.prog Tryz.f5.params.toList Rows.journalSurvivesSpec.vars false W args.toList ds gs before) (hL : laidMetH Tryz.prog Rows.journalSurvivesRow.laid W) :
    Calls Tryz.prog 5 args W fun e W' => ∃ v, e = .returned v ∧ Rows.journalSurvivesSpec.post enc Tryz.prog Tryz.f5 false true false false W args v W' := by
  have hval : ∀ (j : Nat) t v, Tryz.f5.params[j]? = some t → args[j]? = some v → Value.okWide Tryz.prog W .any base t v := hval0
  have hW' := hW
  obtain ⟨p, q, hA0, hV, rfl, hfz, hnd⟩ := hW
  have hA : DataW.TrodAll enc Tryz.prog W 0 (fun _ => true) true Tryz.f5.params.toList args.toList ds p := hA0
  rw [Tryz.params5] at hA hval
  obtain ⟨v0, vs0, d0, ds0, p0, q0, hargs, rfl, rfl, h0, r0⟩ := trodAll_cons hA
  obtain ⟨v1, vs1, d1, ds1, p1, q1, rfl, rfl, rfl, h1, r1⟩ := trodAll_cons r0
  obtain ⟨v2, vs2, d2, ds2, p2, q2, rfl, rfl, rfl, h2, r2⟩ := trodAll_cons r1
  obtain ⟨v3, vs3, d3, ds3, p3, q3, rfl, rfl, rfl, h3, r3⟩ := trodAll_cons r2
  obtain ⟨v4, vs4, d4, ds4, p4, q4, rfl, rfl, rfl, h4, r4⟩ := trodAll_cons r3
  obtain ⟨rfl, rfl, rfl⟩ := trodAll_nil r4
  obtain rfl : args = #[v0, v1, v2, v3, v4] := by cases args; simp_all
  obtain ⟨rfl, rfl⟩ := trodVars_none hV
  have k0 := h0
  have lt0 : ∀ x ∈ p0, x.block < W.heap.size := by obtain ⟨m, hm⟩ := k0; exact DataW.trod_lt m _ _ _ hm
  have k1 := h1
  have lt1 : ∀ x ∈ p1, x.block < W.heap.size := by obtain ⟨m, hm⟩ := k1; exact DataW.trod_lt m _ _ _ hm
  have k2 := h2
  have lt2 : ∀ x ∈ p2, x.block < W.heap.size := by obtain ⟨m, hm⟩ := k2; exact DataW.trod_lt m _ _ _ hm
  have k3 := h3
  have lt3 : ∀ x ∈ p3, x.block < W.heap.size := by obtain ⟨m, hm⟩ := k3; exact DataW.trod_lt m _ _ _ hm
  have k4 := h4
  have lt4 : ∀ x ∈ p4, x.block < W.heap.size := by obtain ⟨m, hm⟩ := k4; exact DataW.trod_lt m _ _ _ hm
  obtain ⟨a0, rfl, e1_0, e2_0, w0⟩ := open_int Tryz.underlying3 (hval 0 3 v0 rfl rfl) h0
  obtain ⟨a1, len1, cap1, rfl⟩ := okWide_slice Tryz.underlying48 (hval 1 48 v1 rfl rfl)
  obtain ⟨xs1, rfl, gl1, gm1, gA1, gx1⟩ := open_slm (α := Sv) Tryz.underlying48 (by kernel_rfl) slOk_rdb rfl h1
  obtain ⟨a2, rfl, e1_2, e2_2, w2⟩ := open_int Tryz.underlying3 (hval 2 3 v2 rfl rfl) h2
  obtain ⟨a3, len3, cap3, rfl⟩ := okWide_slice Tryz.underlying56 (hval 3 56 v3 rfl rfl)
  obtain ⟨xs3, rfl, gl3, gm3, gA3, gx3⟩ := open_slm (α := Int) Tryz.underlying56 (by kernel_rfl) (rdb_int Tryz.underlying3) rfl h3
  obtain ⟨a4, rfl, e1_4, e2_4, w4⟩ := open_int Tryz.underlying3 (hval 4 3 v4 rfl rfl) h4
  obtain ⟨ep, hEp⟩ := err_laid hL
  refine (calls_of_con (survives_law a0 xs1 a1 cap1 a2 xs3 a3 cap3 a4 roundK ep (allOf W) (i64_wf w0) gA1 gx1 gl1 gm1 (i64_wf w2) gA3 gx3 gl3 gm3 (i64_wf w4) (round_laid hL) roundK_len hEp) fun _ _ _ h => h).mono fun e W' ⟨he, bel⟩ => ?_
  subst he
  exact ⟨_, rfl, _, _, _, [], _, [], hW', trodAll_mk1 (shut_bool Tryz.underlying4 _), (trodAll_cons_mk (Below.trod laidOut (by kernel_rfl) (of_decide_eq_true (by kernel_rfl)) k0 bel lt0) (trodAll_cons_mk (Below.trod laidOut (by kernel_rfl) (of_decide_eq_true (by kernel_rfl)) k1 bel lt1) (trodAll_cons_mk (Below.trod laidOut (by kernel_rfl) (of_decide_eq_true (by kernel_rfl)) k2 bel lt2) (trodAll_cons_mk (Below.trod laidOut (by kernel_rfl) (of_decide_eq_true (by kernel_rfl)) k3 bel lt3) (trodAll_cons_mk (Below.trod laidOut (by kernel_rfl) (of_decide_eq_true (by kernel_rfl)) k4 bel lt4) trodAll_mk0))))), rfl, bel.frame _, fun h => by cases h⟩
theorem laid_metJournalSurvives (os : Os) : laidMet Tryz.prog Rows.journalSurvivesRow.laid ((laidWorld os).forCall (fun _ _ => 0) ⟨#[], #[.int .i64 0, .slice none 0 0, .int .i64 0, .slice none 0 0, .int .i64 0], []⟩).memory :=
  laidMet_of_run' 8 (by kernel_rfl) (by kernel_rfl)
theorem readsJournalSurvives (os : Os) {H : Type} (enc : TypeId × Value → H) : ∃ places, DataW.whole enc Tryz.prog ((laidWorld os).forCall (fun _ _ => 0) ⟨#[], #[.int .i64 0, .slice none 0 0, .int .i64 0, .slice none 0 0, .int .i64 0], []⟩).memory Tryz.f5.params.toList Rows.journalSurvivesSpec.vars false (#[.int .i64 0, .slice none 0 0, .int .i64 0, .slice none 0 0, .int .i64 0] : Array Value).toList 8 = some ([.lit (.int .i64 0), .nil, .lit (.int .i64 0), .nil, .lit (.int .i64 0)], [], places) :=
  ⟨[], by kernel_rfl⟩
set_option maxRecDepth 100000 in
theorem liftedJournalSurvives (os : Os) (started : os.Started) (H : Type) (enc : TypeId × Value → H) (F : Stop.Interp) :
    ReturnsInHanded {} Tryz.checked os 5 .any ((OpenSpec.ofChange Rows.journalSurvivesSpec).preRow enc Tryz.prog Tryz.f5 Rows.journalSurvivesRow.domain false Rows.journalSurvivesRow.laid) (((OpenSpec.ofChange Rows.journalSurvivesSpec).at F).post enc Tryz.prog Tryz.f5 false true false false) := by
  obtain ⟨places, hx⟩ := readsJournalSurvives os enc
  refine returnsInHanded_of_row (C := Tryz.checked) (s := OpenSpec.ofChange Rows.journalSurvivesSpec) own started (by kernel_rfl) Tryz.func5
    (witness_row_at (enc := enc) (C := Tryz.checked) false (laidWorld os) #[.int .i64 0, .slice none 0 0, .int .i64 0, .slice none 0 0, .int .i64 0] rfl (by kernel_rfl) (by kernel_rfl) (by kernel_rfl)
      (OpenSpec.preRow_of_cond 8 hx (by kernel_rfl) (fun k hk => by cases hk) (by kernel_rfl) (laid_metJournalSurvives os))) ?_
  intro W base args ds gs before hval hW c1 c2 c3 hL c4 c5
  exact contractJournalSurvives H enc W base args ds gs before hval hW hL
theorem saidJournalSurvives : Rows.JournalSurvivesSaid :=
  OpenClaim.holds_of_cond 5 Tryz.f5 rfl rfl rfl rfl rfl rfl rfl ⟨rfl, rfl, rfl, rfl, rfl⟩ rfl rfl rfl rfl rfl (by kernel_rfl) Tryz.func5 (by kernel_rfl)
    (of_decide_eq_true (by kernel_rfl)) (by unfold Func.isWrapper; rw [if_neg (of_decide_eq_false (by kernel_rfl))]; exact ⟨rfl, rfl⟩)
    (fun os started H enc _ F => by rw [OpenClaim.pre_eq_preRow]; exact liftedJournalSurvives os started H enc F)
theorem plainJournalSurvives (f : FuncId) (fn : Func) (hf : Tryz.pinned.checked.prog.funcNamed "latecomer/latecomerlaw33.JournalSurvives" = some f) (hfn : Tryz.pinned.checked.prog.funcs[f]? = some fn) :
    true = Tryz.pinned.checked.prog.looks [] ∧ ∀ (j : Nat) t, fn.params[j]? = some t → Tryz.pinned.checked.prog.wantsStandIn t = false := by
  obtain rfl : f = 5 := Option.some.inj ((show Tryz.prog.funcNamed "latecomer/latecomerlaw33.JournalSurvives" = some 5 by kernel_rfl).symm.trans hf) |>.symm
  obtain rfl : fn = Tryz.f5 := (Option.some.inj (Tryz.func5.symm.trans hfn)).symm
  refine ⟨by kernel_rfl, fun j t ht => ?_⟩
  rw [Tryz.params5] at ht
  have hm := Array.mem_of_getElem? ht
  simp only [List.mem_toArray, List.mem_cons, List.not_mem_nil, or_false] at hm
  rcases hm with rfl | rfl | rfl | rfl | rfl
  · exact (show Tryz.prog.wantsStandIn 3 = false by kernel_rfl)
  · exact (show Tryz.prog.wantsStandIn 48 = false by kernel_rfl)
  · exact (show Tryz.prog.wantsStandIn 3 = false by kernel_rfl)
  · exact (show Tryz.prog.wantsStandIn 56 = false by kernel_rfl)
  · exact (show Tryz.prog.wantsStandIn 3 = false by kernel_rfl)
theorem journalSurvives_holds : Rows.JournalSurvivesCardSaid :=
  Claim7.holds_tied_plain_at .later [] _ _ _ _ saidJournalSurvives (fun _ h => by cases h) (by kernel_rfl) (fun _ h => by cases h) journalSurvives_row_tie rfl ⟨rfl, rfl⟩ (by kernel_rfl) rfl plainJournalSurvives (by kernel_rfl)
#print axioms journalSurvives_holds
end Go.Proofs.YtnlfohlngapkfaaGreatDoor
