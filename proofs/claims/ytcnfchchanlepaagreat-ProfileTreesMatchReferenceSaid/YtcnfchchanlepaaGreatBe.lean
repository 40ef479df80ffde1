/- Contracts of functions of this program, each proved by a walk through its code, and plain lemmas on what they compute; on no condition beyond those that each theorem states. -/
import Derived.Test.YtcnfchchanlepaaGreatBd
import Derived.Test.YtcnfchchanlepaaGreatBc
import Derived.Test.YtcnfchchanlepaaGreatXB
import Derived.Test.YtcnfchchanlepaaGreatXA
import Derived.Test.YtcnfchchanlepaaGreatRows
import Derived.Deep.DeepHandedRow
import Derived.OpenShut
import Derived.ProofKit
namespace Go.Proofs.YtcnfchchanlepaaGreat
open Go Go.X
set_option linter.unusedVariables false
def BuildR (ys : List Ch) (v : Value) (ok : Bool) (L' : Blocks) : Prop :=
  (∃ y ∈ ys, y.2 < 0) ∧ ok = false ∧ v = .slice none 0 0 ∧ L' = [] ∨ (∀ y ∈ ys, 0 ≤ y.2) ∧ ∃ M, Can (valF ys) M ∧ (fits (valF ys) M ∧ ok = true ∧ Ows 51 v (nodesC (valF ys) M) L' ∨ ¬ fits (valF ys) M ∧ ok = false ∧ v = .slice none 0 0 ∧ L' = [])
set_option maxRecDepth 10000
set_option linter.unusedVariables false
attribute [local irreducible] Code.wpIn wpListIn Exit.then Exit.inBlock X.Out X.Back X.W X.Ev X.Con X.BinV X.Wh X.Wn X.Wq
set_option maxHeartbeats 6400000 in
theorem rBuild_con (xs : List Cg) (ys : List Ch) (A : Option Addr) (c : Nat) (S : SH) (hA : At S A xs) (hy : ChL S xs ys) (hl : xs.length ≤ 400) (hv : ∀ y ∈ ys, VQ y.1) (hb : ∀ y ∈ ys, -2251799813685248 ≤ y.2 ∧ y.2 ≤ 2251799813685248) :
    Con Tryz.prog 25 #[.slice A xs.length c] S [] (fun S' L' r => ∃ v ok, r = .tuple #[.agg #[v], .bool ok] ∧ BuildR ys v ok L') := by
  refine con_of (args := [.slice A xs.length c]) Tryz.func25 rfl Tryz.ntmps25 rfl fun w => ?_
  have hxy := hy.1
  (repeat (first | refine Jc ?_ | (apply s_evb; (case hg => rfl); (case hd => rfl); (case hn => rfl); (case he => (apply ev_buildS; (case hp => rfl); (case hz => rfl); (case h1 => rfl); (case hr => rfl)))) | refine Jo ?_ | intro _))
  rename_i b2 b4
  refine c_loop (fun m S' L F => Le S S' ∧ ∃ (i : Nat) (v : Value) (rs : List Cg) (ob : Blocks), m = xs.length - i ∧ i ≤ xs.length ∧ (∀ y ∈ ys.take i, 0 ≤ y.2) ∧ Ows 94 v rs ob ∧ ChL S' rs (allF (ys.take i)) ∧ L = ob ++ [(b2, .cells [.slice none 0 0].toArray 24 (0, 0))] ∧
      F = [(0, .slice A xs.length c), (2, .pointer (some ⟨b2, 0, none⟩)), (4, v), (5, .int .i64 i)]) ⟨Le.refl _, 0, _, [⟨⟨none, 0, 0⟩, 0⟩], [(b4, _)], rfl, by omega, (by simp), Ows.full (α := Cg) rfl (by decide), ⟨rfl, fun i x y h1 h2 => ?_⟩, rfl, rfl⟩ sbF sbL ?_
  · cases i with
    | zero =>
      obtain rfl : x = ⟨⟨none, 0, 0⟩, 0⟩ := by simpa using h1.symm
      obtain rfl : y = ([], 0) := by simpa [allF] using h2.symm
      exact ⟨rfl, rfl, Nat.le_refl _, At.nil _ _⟩
    | succ i => simp at h1
  rintro m S1 L F ⟨h1, i, v, rs, ob, rfl, hi, hnn, ho, hrs, rfl, rfl⟩
  have hA1 := hA.le h1
  have hbd := allF_bd (B := 2251799813685248) (by decide) (ys.take i) (fun y hy => ⟨hnn y hy, (hb y (List.mem_of_mem_take hy)).2, (hv y (List.mem_of_mem_take hy)).1⟩)
  have hrl := hrs.1
  have htl : (ys.take i).length = i := by rw [List.length_take]; omega
  rw [htl] at hbd
  by_cases hil : i < xs.length
  · obtain ⟨x, hx⟩ := at_lt hil
    obtain ⟨y, hyk⟩ : ∃ y, ys[i]? = some y := at_lt (by omega)
    have hym := List.mem_of_getElem? hyk
    have hby := hb y hym
    have hvy := (hv y hym).1
    obtain ⟨r0, r1, r2, r3⟩ := hy.2 i x y hx hyk
    have hsn := allF_snoc (ys.take i) y
    rw [← take_at hyk] at hsn
    have hnn2 : 0 ≤ y.2 → ∀ z ∈ ys.take (i + 1), 0 ≤ z.2 := fun h z hz => by
      rw [take_at hyk] at hz
      rcases List.mem_append.1 hz with h2 | h2
      · exact hnn z h2
      · rw [List.mem_singleton.1 h2]; exact h
    obtain ⟨⟨xa, xm, xc⟩, xb⟩ := x
    obtain ⟨p, n⟩ := y
    simp only at r0 r1 r2 r3 hby hvy hnn2
    subst r0; subst r1
    have tlp := toS_len p
    by_cases hneg : xb < 0
    · (repeat (first | refine Jc ?_ | (apply s_idx hA1; (case hg => rfl); (case hd => rfl); (case hx => rfl); (case hi => rfl); (case hm => rfl); (case hu => exact hx); intro u (hu : Pts _ u [.slice xa (toS p).length xc, .int .i64 xb])) | (apply s_load_f; (case hg => rfl); (case hd => rfl); (case hx => rfl); (case h => exact hu); (case hv => rfl)) | (apply s_evb; (case hg => rfl); (case hd => rfl); (case hn => rfl); (case he => (apply ev_buildS; (case hp => rfl); (case hz => rfl); (case h1 => rfl); (case hr => rfl)))) | refine Jo ?_ | intro _))
      exact o_ret_c2 (L' := []) (sz := 1) (cs := [.slice none 0 0]) Tryz.results25 rfl rfl (by (repeat (first | exact List.Mem.head _ | apply List.Mem.tail | apply List.mem_append_right))) rfl (List.nil_sublist _) ⟨_, _, rfl, .inl ⟨⟨_, hym, hneg⟩, rfl, rfl, rfl⟩⟩
    have hsn2 := hnn2 (by omega)
    (repeat (first | refine Jc ?_ | (apply s_idx hA1; (case hg => rfl); (case hd => rfl); (case hx => rfl); (case hi => rfl); (case hm => rfl); (case hu => exact hx); intro u (hu : Pts _ u [.slice xa (toS p).length xc, .int .i64 xb])) | (apply s_load_f; (case hg => rfl); (case hd => rfl); (case hx => rfl); (case h => exact hu); (case hv => rfl)) | refine Jo ?_ | intro _))
    refine c_loop (fun m S' L F => Le S1 S' ∧ ∃ (k : Nat) (v : Value) (rs : List Cg) (ob : Blocks), m = p.length + 1 - k ∧ k ≤ p.length + 1 ∧ (0 < xb ∨ k = 0) ∧ Ows 94 v rs ob ∧ ChL S' rs (preF (allF (ys.take i)) p k) ∧ L = ob ++ [(b2, .cells [.slice none 0 0].toArray 24 (0, 0))] ∧
        F = [(0, .slice A xs.length c), (2, .pointer (some ⟨b2, 0, none⟩)), (4, v), (5, .int .i64 i), (6, .int .i64 k)]) ⟨Le.refl _, 0, v, rs, ob, rfl, by omega, .inr rfl, ho, hrs, rfl, rfl⟩ sbF sbL ?_
    rintro m S2 L F ⟨h2, k, v, rs, ob, rfl, hk, hk0, ho, hrs, rfl, rfl⟩
    have hA2 := hA1.le h2
    have r32 := (r3.le h1).le h2
    have hpb := preF_bd (q := p) (by omega) hvy hbd.2 k
    have hpl := preF_len (allF (ys.take i)) p k
    have hrl := hrs.1
    have hpl2 : ∀ y ∈ preF (allF (ys.take i)) p k, y.1.length ≤ 1000000 := fun y hy => by have := (hpb y hy).2.2; omega
    have hpw : ∀ y ∈ preF (allF (ys.take i)) p k, -1000000000000000000 ≤ y.2 ∧ y.2 ≤ 1000000000000000000 := fun y hy => by have := hpb y hy; omega
    by_cases hpos : 0 < xb
    rotate_left
    · obtain rfl : k = 0 := by omega
      have e : oneF (allF (ys.take i)) (p, xb) = allF (ys.take i) := by unfold oneF; rw [if_neg hpos]
      (repeat (first | refine Jc ?_ | (apply s_idx hA2; (case hg => rfl); (case hd => rfl); (case hx => rfl); (case hi => rfl); (case hm => rfl); (case hu => exact hx); intro u (hu : Pts _ u [.slice xa (toS p).length xc, .int .i64 xb])) | (apply s_load_f; (case hg => rfl); (case hd => rfl); (case hx => rfl); (case h => exact hu); (case hv => rfl)) | refine Jo ?_ | intro _))
      exact q_back (L' := ob ++ [(b2, .cells [.slice none 0 0].toArray 24 (0, 0))]) (m' := xs.length - (i + 1)) ⟨h1.trans h2, i + 1, v, rs, ob, rfl, by omega, hsn2, ho, by rw [hsn, e]; exact hrs, rfl, rfl⟩ (by omega) sbF sbL
    by_cases hkl : k ≤ p.length
    · (repeat (first | refine Jc ?_ | (apply s_idx hA2; (case hg => rfl); (case hd => rfl); (case hx => rfl); (case hi => rfl); (case hm => rfl); (case hu => exact hx); intro u (hu : Pts _ u [.slice xa (toS p).length xc, .int .i64 xb])) | (apply s_load_f; (case hg => rfl); (case hd => rfl); (case hx => rfl); (case h => exact hu); (case hv => rfl)) | (apply s_slice_hi r32; (case hg => rfl); (case hd => rfl); (case hx => rfl); (case hy => rfl); (case hm => rfl); (case hmc => omega); (case hj => omega); intro A3 hA3); rw [toS_take] at hA3 ⊢ | (apply s_call; (case hg => rfl); (case hd => rfl); (case ha => rfl); (case hc => exact radd_con rs _ v ob (p.take k) A3 xc 0 _ ho hrs (by omega) hpl2 (by rw [List.length_take]; omega) hA3 (by rw [toS_len, List.length_take]; omega) (by omega) hpw); (case hL => (repeat (first | exact pm_nil _ | exact pm_refl _ _ | exact pm_self _ | apply pm_cons | apply pm_app))); rintro S3 L3 v3 h3 ⟨-, rs3, ho3, hrs3⟩) | refine Jo ?_ | intro _))
      exact q_back (L' := L3 ++ [(b2, .cells [.slice none 0 0].toArray 24 (0, 0))]) (m' := p.length + 1 - (k + 1)) ⟨h2.trans h3, k + 1, v3, rs3, L3, rfl, by omega, .inl hpos, ho3, by rw [preF_succ]; exact hrs3, rfl, rfl⟩ (by omega) sbF sbL
    obtain rfl : k = p.length + 1 := by omega
    have e : oneF (allF (ys.take i)) (p, xb) = addF (preF (allF (ys.take i)) p (p.length + 1)) p xb := by unfold oneF; rw [if_pos hpos]
    (repeat (first | refine Jc ?_ | (apply s_idx hA2; (case hg => rfl); (case hd => rfl); (case hx => rfl); (case hi => rfl); (case hm => rfl); (case hu => exact hx); intro u (hu : Pts _ u [.slice xa (toS p).length xc, .int .i64 xb])) | (apply s_load_f; (case hg => rfl); (case hd => rfl); (case hx => rfl); (case h => exact hu); (case hv => rfl)) | refine Jo ?_ | intro _))
    ((apply c_held ([]); (case hL => (exact sbT))); refine Jf 0 ?_; refine Jf 1 ?_; refine Jf 2 ?_; (apply h_idx hA2 3; (case hi => rfl); (case hr => kernel_rfl); (case hfr => kernel_rfl); (case hsel => kernel_rfl); (case hg => rfl); (case hd => rfl); (case i1 => infer_instance); (case i2 => infer_instance); (case hx => rfl); (case hy => rfl); (case hm => rfl); (case hu => exact hx); intro u1 (hu1 : Pts _ u1 [.slice xa (toS p).length xc, .int .i64 xb])); refine Jf 4 ?_; (apply h_first 5; (case hi => rfl); (case hr => kernel_rfl); (case hfr => kernel_rfl); (case hsel => kernel_rfl); (case hg => rfl); (case hd => rfl); (case he => (apply ev_load_f; (case hx => rfl); (case h => exact hu1); (case hv => rfl)))); refine Jf 6 ?_; refine Jf 7 ?_; (apply h_idx hA2 8; (case hi => rfl); (case hr => kernel_rfl); (case hfr => kernel_rfl); (case hsel => kernel_rfl); (case hg => rfl); (case hd => rfl); (case i1 => infer_instance); (case i2 => infer_instance); (case hx => rfl); (case hy => rfl); (case hm => rfl); (case hu => exact hx); intro u2 (hu2 : Pts _ u2 [.slice xa (toS p).length xc, .int .i64 xb])); refine Jf 9 ?_; (apply h_first 10; (case hi => rfl); (case hr => kernel_rfl); (case hfr => kernel_rfl); (case hsel => kernel_rfl); (case hg => rfl); (case hd => rfl); (case he => (apply ev_load_f; (case hx => rfl); (case h => exact hu2); (case hv => rfl)))); (apply h_one 11; (case hr => kernel_rfl)); (apply n_call; (case hi => rfl); (case i1 => infer_instance); (case hg => rfl); (case hd => rfl); (case ha => rfl); (case hc => exact radd_con rs _ v ob p xa xc xb _ ho hrs (by omega) hpl2 (by omega) r32 r2 (by omega) hpw); (case hL => (repeat (first | exact pm_nil _ | exact pm_refl _ _ | exact pm_self _ | apply pm_cons | apply pm_app))); (case hsub => (intros; (exact sbT))); rintro S3 L3 v3 h3 ⟨-, rs3, ho3, hrs3⟩); refine Jf 12 ?_; (apply h_end; (case hr => kernel_rfl)); ((((repeat (first | refine Jz ?_ | intro _))); exact q_back (L' := L3 ++ [(b2, .cells [.slice none 0 0].toArray 24 (0, 0))]) (m' := xs.length - (i + 1)) ⟨(h1.trans h2).trans h3, i + 1, v3, rs3, L3, rfl, by omega, hsn2, ho3, by rw [hsn, e]; exact hrs3, rfl, rfl⟩ (by omega) sbF sbL)))
  rw [List.take_of_length_le (by omega)] at hnn hrs hbd hrl
  have h0 := hnn
  have hcan := allF_can h0 hv
  obtain ⟨w, hw⟩ : ∃ w, valF ys = w := ⟨_, rfl⟩
  obtain ⟨M, hM⟩ : ∃ M, (allF ys).map (·.1) = M := ⟨_, rfl⟩
  have haw : ∀ (j : Nat) (z : Ch), (allF ys)[j]? = some z → M[j]? = some z.1 ∧ z.2 = w z.1 ∧ 0 ≤ z.2 ∧ z.2 ≤ 2251799813685248 * 400 ∧ z.1.length ≤ 12 := fun j z hz => by
    have hm := List.mem_of_getElem? hz
    have hz2 := hbd.2 z hm
    exact ⟨by rw [← hM, List.getElem?_map, hz]; rfl, by rw [← hw]; exact allF_eq h0 hm, by omega, by omega, by omega⟩
  have hml : M.length = (allF ys).length := by rw [← hM, List.length_map]
  rw [hM, hw] at hcan
  have hw0 : ∀ p ∈ M, 0 ≤ w p := fun p hp => by
    obtain ⟨j, hj⟩ := List.mem_iff_getElem?.1 hp
    obtain ⟨z, hz⟩ : ∃ z, (allF ys)[j]? = some z := at_lt (by have := (List.getElem?_eq_some_iff.1 hj).1; omega)
    obtain ⟨e1, e2, e3, _⟩ := haw j z hz
    rw [hj] at e1
    obtain rfl := Option.some.inj e1
    omega
  have hM1 : 1 ≤ M.length := List.length_pos_of_mem hcan.root
  unfold BuildR
  rw [hw]
  refine W.freezeOws (L1 := [(b2, .cells [.slice none 0 0].toArray 24 (0, 0))]) ho (List.Perm.refl _) fun S7 h7 hs7 => ?_
  obtain ⟨A7, c7, rfl, hc7, hA7⟩ := hs7
  have hrs7 := hrs.le h7
  by_cases hbig : 2000 < rs.length
  · have hnf : ¬ fits w M := fun h => by have := h.2; omega
    (repeat (first | refine Jc ?_ | (apply s_evb; (case hg => rfl); (case hd => rfl); (case hn => rfl); (case he => (apply ev_buildS; (case hp => rfl); (case hz => rfl); (case h1 => rfl); (case hr => rfl)))) | refine Jo ?_ | intro _))
    exact o_ret_c2 (L' := []) (sz := 1) (cs := [.slice none 0 0]) Tryz.results25 rfl rfl (by (repeat (first | exact List.Mem.head _ | apply List.Mem.tail | apply List.mem_append_right))) rfl sbL ⟨_, _, rfl, .inr ⟨h0, _, hcan, .inr ⟨hnf, rfl, rfl, rfl⟩⟩⟩
  (repeat (first | refine Jc ?_ | (apply s_evb; (case hg => rfl); (case hd => rfl); (case hn => rfl); (case he => (apply ev_buildS; (case hp => rfl); (case hz => rfl); (case h1 => rfl); (case hr => rfl)))) | refine Jo ?_ | intro _))
  rename_i b7
  refine c_loop (fun m S' L F => Le S7 S' ∧ ∃ (i : Nat) (vn : Value) (obn : Blocks), m = rs.length - i ∧ i ≤ rs.length ∧ Ows 51 vn ((nodesC w M).take i) obn ∧ (0 < i → sumL w M ≤ 1125899906842624) ∧ L = obn ++ [(b7, .cells [vn].toArray 24 (0, 0)), (b2, .cells [.slice none 0 0].toArray 24 (0, 0))] ∧
      F = [(2, .pointer (some ⟨b2, 0, none⟩)), (4, .slice A7 rs.length c7), (7, .pointer (some ⟨b7, 0, none⟩)), (8, .int .i64 i)]) ⟨Le.refl _, 0, _, [], rfl, by omega, Ows.nil _, (fun h => absurd h (by omega)), rfl, rfl⟩ sbF sbL ?_
  rintro m S8 L F ⟨h8, i, vn, obn, rfl, hi2, hon, hsm, rfl, rfl⟩
  by_cases hil2 : i < rs.length
  rotate_left
  · rw [List.take_of_length_le (by rw [nodesC_len]; omega)] at hon
    obtain ⟨An, cn, rfl⟩ := hon.form
    (repeat (first | refine Jz ?_ | intro _))
    exact o_ret_c2 (L' := obn) (sz := 1) (cs := [.slice An (nodesC w M).length cn]) Tryz.results25 rfl rfl (by (repeat (first | exact List.Mem.head _ | apply List.Mem.tail | apply List.mem_append_right))) rfl sbL ⟨_, _, rfl, .inr ⟨h0, _, hcan, .inl ⟨⟨hsm (by omega), by omega⟩, rfl, hon⟩⟩⟩
  obtain ⟨x, hx⟩ := at_lt hil2
  obtain ⟨z, hz⟩ : ∃ z, (allF ys)[i]? = some z := at_lt (by omega)
  obtain ⟨e1, e2, e3, e4, e5⟩ := haw i z hz
  obtain ⟨r0, r1, r2, r3⟩ := hrs7.2 i x z hx hz
  obtain ⟨⟨xa, xm, xc⟩, xb⟩ := x
  obtain ⟨p, n⟩ := z
  simp only at e1 e2 e3 e4 e5 r0 r1 r2 r3
  subst r0; subst r1
  have tlp := toS_len p
  have hpM := List.mem_of_getElem? e1
  have hne : 0 < i → p ≠ [] := fun h0 e => by
    have := srt_lt hcan.srt hcan.head e1 h0
    rw [e] at this
    exact plt_irr _ this
  have he0 : i = 0 → p = [] := fun h0 => by subst h0; exact Option.some.inj (e1.symm.trans hcan.head)
  have hst := tot_start (w := w) hcan.srt e1
  have hnode : (nodesC w M)[i]? = some (nodeC w M p) := by unfold nodesC; rw [List.getElem?_map, e1]; rfl
  have hntake := take_at hnode
  have hnl : ((nodesC w M).take i).length = i := by rw [List.length_take, nodesC_len]; omega
  obtain ⟨T, hT⟩ : ∃ T, totL w M p = T := ⟨_, rfl⟩
  have hTs : T ≤ sumL w M := hT ▸ totL_le hw0 p
  have hwd : ∀ k, ∀ q ∈ M.drop k, 0 ≤ w q := fun k q hq => hw0 q (List.mem_of_mem_drop hq)
  rw [hT] at hst
  have hA8 := hA7.le h8
  (repeat (first | refine Jc ?_ | (apply s_idx hA8; (case hg => rfl); (case hd => rfl); (case hx => rfl); (case hi => rfl); (case hm => rfl); (case hu => exact hx); intro u (hu : Pts _ u [.slice xa (toS p).length xc, .int .i64 xb])) | (apply s_load_f; (case hg => rfl); (case hd => rfl); (case hx => rfl); (case h => exact hu); (case hv => rfl)) | (apply s_evb; (case hg => rfl); (case hd => rfl); (case hn => rfl); (case he => (apply ev_buildS; (case hp => rfl); (case hz => rfl); (case h1 => rfl); (case hr => rfl)))) | refine Jo ?_ | intro _))
  rename_i b9
  refine c_loop (fun m S' L F => Le S8 S' ∧ ∃ (k : Nat) (t : Int), m = rs.length - k ∧ i ≤ k ∧ k ≤ rs.length ∧ 0 ≤ t ∧ t ≤ 1125899906842624 ∧ totL w (M.drop k) p + t = T ∧ L = (b9, .cells [.int .i64 (-1), strV [], .int .i64 xb, .int .i64 t].toArray 51 (0, 0)) :: (obn ++ [(b7, .cells [vn].toArray 24 (0, 0)), (b2, .cells [.slice none 0 0].toArray 24 (0, 0))]) ∧
      F = [(2, .pointer (some ⟨b2, 0, none⟩)), (4, .slice A7 rs.length c7), (7, .pointer (some ⟨b7, 0, none⟩)), (8, .int .i64 i), (9, .pointer (some ⟨b9, 0, none⟩)), (10, .int .i64 k)]) ⟨Le.refl _, i, 0, rfl, by omega, by omega, by omega, by omega, by omega, rfl, rfl⟩ sbF sbL ?_
  rintro m S9 L F ⟨h9, k, t, rfl, hk1, hk2, ht0, ht1, hti, rfl, rfl⟩
  have hA9 := hA8.le h9
  have r39 := (r3.le h8).le h9
  have hrs9 := (hrs7.le h8).le h9
  by_cases hgo : ∃ q, M[k]? = some q ∧ p <+: q
  · obtain ⟨q, hq, hpq⟩ := hgo
    have hkm := (List.getElem?_eq_some_iff.1 hq).1
    obtain ⟨y, hyk⟩ := at_lt (show k < rs.length by omega)
    obtain ⟨zk, hzk⟩ : ∃ z, (allF ys)[k]? = some z := at_lt (by omega)
    obtain ⟨d1, d2, d3, d4, d5⟩ := haw k zk hzk
    obtain ⟨s0, s1, s2, s3⟩ := hrs9.2 k y zk hyk hzk
    rw [hq] at d1
    obtain ⟨⟨ya, ym, yc⟩, yb⟩ := y
    obtain ⟨q', n'⟩ := zk
    simp only at d1 d2 d3 d4 d5 s0 s1 s2 s3
    obtain rfl := Option.some.inj d1
    subst s0; subst s1
    have tlq := toS_len q
    have hdr : totL w (M.drop k) p = yb + totL w (M.drop (k + 1)) p := by rw [drop_at hq, totL_cons, if_pos hpq, d2]
    have hr0 := totL_pos (hwd (k + 1)) p
    (repeat (first | refine Jz ?_ | intro _))
    ((apply c_held ([]); (case hL => (exact sbT))); refine Jf 0 ?_; refine Jf 1 ?_; refine Jf 2 ?_; refine Jf 3 ?_; refine Jf 4 ?_; refine Jf 5 ?_; refine Jf 6 ?_; (apply h_idx hA9 7; (case hi => rfl); (case hr => kernel_rfl); (case hfr => kernel_rfl); (case hsel => kernel_rfl); (case hg => rfl); (case hd => rfl); (case i1 => infer_instance); (case i2 => infer_instance); (case hx => rfl); (case hy => rfl); (case hm => rfl); (case hu => exact hyk); intro u1 (hu1 : Pts _ u1 [.slice ya (toS q).length yc, .int .i64 yb])); refine Jf 8 ?_; (apply h_first 9; (case hi => rfl); (case hr => kernel_rfl); (case hfr => kernel_rfl); (case hsel => kernel_rfl); (case hg => rfl); (case hd => rfl); (case he => (apply ev_load_f; (case hx => rfl); (case h => exact hu1); (case hv => rfl)))); refine Jf 10 ?_; refine Jf 11 ?_; (apply h_idx hA9 12; (case hi => rfl); (case hr => kernel_rfl); (case hfr => kernel_rfl); (case hsel => kernel_rfl); (case hg => rfl); (case hd => rfl); (case i1 => infer_instance); (case i2 => infer_instance); (case hx => rfl); (case hy => rfl); (case hm => rfl); (case hu => exact hx); intro u2 (hu2 : Pts _ u2 [.slice xa (toS p).length xc, .int .i64 xb])); refine Jf 13 ?_; (apply h_first 14; (case hi => rfl); (case hr => kernel_rfl); (case hfr => kernel_rfl); (case hsel => kernel_rfl); (case hg => rfl); (case hd => rfl); (case he => (apply ev_load_f; (case hx => rfl); (case h => exact hu2); (case hv => rfl)))); (apply h_one 15; (case hr => kernel_rfl)); (apply n_call; (case hi => rfl); (case i1 => infer_instance); (case hg => rfl); (case hd => rfl); (case ha => rfl); (case hc => exact rStarts_con q p ya xa yc xc _ s3 r39 s2 (by omega) (by omega) true ⟨fun _ => hpq, fun _ => rfl⟩); (case hL => (repeat (first | exact pm_nil _ | exact pm_refl _ _ | exact pm_self _ | apply pm_cons | apply pm_app))); (case hsub => (intros; (exact sbT))); rintro _ _ _ - ⟨rfl, rfl, rfl⟩); refine Jf 16 ?_; (apply h_end; (case hr => kernel_rfl)))
    (repeat (first | refine Jz ?_ | intro _))
    ((apply c_held ([]); (case hL => (exact sbT))); refine Jf 0 ?_; refine Jf 2 ?_; refine Jf 3 ?_; (apply h_idx hA9 4; (case hi => rfl); (case hr => kernel_rfl); (case hfr => kernel_rfl); (case hsel => kernel_rfl); (case hg => rfl); (case hd => rfl); (case i1 => infer_instance); (case i2 => infer_instance); (case hx => rfl); (case hy => rfl); (case hm => rfl); (case hu => exact hyk); intro u3 (hu3 : Pts _ u3 [.slice ya (toS q).length yc, .int .i64 yb])); refine Jf 5 ?_; (apply h_first 6; (case hi => rfl); (case hr => kernel_rfl); (case hfr => kernel_rfl); (case hsel => kernel_rfl); (case hg => rfl); (case hd => rfl); (case he => (apply ev_load_f; (case hx => rfl); (case h => exact hu3); (case hv => rfl)))); (apply h_one 1; (case hr => kernel_rfl)); (apply n_ev; (case hi => rfl); (case hg => rfl); (case hd => rfl); (case he => (apply ev_load_own; (case hx => rfl); (case hm => (repeat (first | exact List.Mem.head _ | apply List.Mem.tail | apply List.mem_append_right))); (case h => rfl)))); refine Jf 7 ?_; refine Jf 8 ?_; (apply h_one 9; (case hr => kernel_rfl)); (apply n_store; (case hi => rfl); (case i1 => infer_instance); (case hg => rfl); (case hx => rfl); (case hy => rfl); (case h1 => rfl); (case hL => (repeat (first | exact Upd.head | apply Upd.tail | apply Upd.app))); (case hu => rfl); (case hsub => (intro _; (exact sbT)))); (apply h_end; (case hr => kernel_rfl)))
    by_cases hbg : 1125899906842624 < t + yb
    · have hnf : ¬ fits w M := fun h => by have := h.1; omega
      (repeat (first | refine Jc ?_ | (apply s_evb; (case hg => rfl); (case hd => rfl); (case hn => rfl); (case he => (apply ev_buildS; (case hp => rfl); (case hz => rfl); (case h1 => rfl); (case hr => rfl)))) | refine Jo ?_ | intro _))
      exact o_ret_c2 (L' := []) (sz := 1) (cs := [.slice none 0 0]) Tryz.results25 rfl rfl (by (repeat (first | exact List.Mem.head _ | apply List.Mem.tail | apply List.mem_append_right))) rfl sbL ⟨_, _, rfl, .inr ⟨h0, _, hcan, .inr ⟨hnf, rfl, rfl, rfl⟩⟩⟩
    · (repeat (first | refine Jz ?_ | intro _))
      exact q_back (L' := (b9, .cells [.int .i64 (-1), strV [], .int .i64 xb, .int .i64 (t + yb)].toArray 51 (0, 0)) :: (obn ++ [(b7, .cells [vn].toArray 24 (0, 0)), (b2, .cells [.slice none 0 0].toArray 24 (0, 0))])) (m' := rs.length - (k + 1)) ⟨h9, k + 1, t + yb, rfl, by omega, by omega, by omega, by omega, by omega, rfl, rfl⟩ (by omega) sbF sbL
  have hend := tot_rest (w := w) hcan.srt e1 hk1 fun q hq hpq => hgo ⟨q, hq, hpq⟩
  obtain rfl : t = T := by omega
  have hpar : ∀ (j : Nat) (q : List Bs), j < i → M[j]? = some q → (((q.length : Int) = (p.length : Int) - 1 ∧ q <+: p) ↔ j = M.idxOf p.dropLast) := fun j q hj hq => by
    have hp0 : p ≠ [] := hne (by omega)
    have hlp : 0 < p.length := List.length_pos_iff.2 hp0
    have hdl : p.dropLast.length = p.length - 1 := List.length_dropLast
    constructor
    · rintro ⟨h1, h2⟩
      have e : q = p.dropLast := by
        have h3 := List.prefix_iff_eq_take.1 h2
        rw [h3, List.dropLast_eq_take]
        congr 1; omega
      subst e
      have hjl := (List.getElem?_eq_some_iff.1 hq).1
      have := (List.getElem?_eq_some_iff.1 hq).2
      rw [← this]
      exact ((srt_nodup hcan.srt).idxOf_getElem j hjl).symm
    · intro e
      have hdm : p.dropLast ∈ M := hcan.closed p hpM _ (List.dropLast_prefix _)
      have hj2 : M[M.idxOf p.dropLast]? = some p.dropLast := by rw [List.getElem?_eq_getElem (List.idxOf_lt_length_iff.2 hdm), List.getElem_idxOf]
      rw [← e, hq] at hj2
      obtain rfl := Option.some.inj hj2
      exact ⟨by omega, List.dropLast_prefix _⟩
  obtain ⟨jd, hjd⟩ : ∃ jd, M.idxOf p.dropLast = jd := ⟨_, rfl⟩
  rw [hjd] at hpar
  have hjdi : 0 < i → jd < i := fun h0 => by
    have hdm : p.dropLast ∈ M := hcan.closed p hpM _ (List.dropLast_prefix _)
    have hj2 : M[jd]? = some p.dropLast := by rw [← hjd, List.getElem?_eq_getElem (List.idxOf_lt_length_iff.2 hdm), List.getElem_idxOf]
    exact srt_idx hcan.srt hj2 e1 (drop_lt (hne h0))
  by_cases hkl : k < rs.length
  case' pos =>
    obtain ⟨y, hyk⟩ := at_lt hkl
    obtain ⟨zk, hzk⟩ : ∃ z, (allF ys)[k]? = some z := at_lt (by omega)
    obtain ⟨d1, d2, d3, d4, d5⟩ := haw k zk hzk
    obtain ⟨s0, s1, s2, s3⟩ := hrs9.2 k y zk hyk hzk
    obtain ⟨⟨ya, ym, yc⟩, yb⟩ := y
    obtain ⟨q, n'⟩ := zk
    simp only at d1 d2 d3 d4 d5 s0 s1 s2 s3
    subst s0; subst s1
    have tlq := toS_len q
    (repeat (first | refine Jz ?_ | intro _))
    ((apply c_held ([]); (case hL => (exact sbT))); refine Jf 0 ?_; refine Jf 1 ?_; refine Jf 2 ?_; refine Jf 3 ?_; refine Jf 4 ?_; refine Jf 5 ?_; refine Jf 6 ?_; (apply h_idx hA9 7; (case hi => rfl); (case hr => kernel_rfl); (case hfr => kernel_rfl); (case hsel => kernel_rfl); (case hg => rfl); (case hd => rfl); (case i1 => infer_instance); (case i2 => infer_instance); (case hx => rfl); (case hy => rfl); (case hm => rfl); (case hu => exact hyk); intro u1 (hu1 : Pts _ u1 [.slice ya (toS q).length yc, .int .i64 yb])); refine Jf 8 ?_; (apply h_first 9; (case hi => rfl); (case hr => kernel_rfl); (case hfr => kernel_rfl); (case hsel => kernel_rfl); (case hg => rfl); (case hd => rfl); (case he => (apply ev_load_f; (case hx => rfl); (case h => exact hu1); (case hv => rfl)))); refine Jf 10 ?_; refine Jf 11 ?_; (apply h_idx hA9 12; (case hi => rfl); (case hr => kernel_rfl); (case hfr => kernel_rfl); (case hsel => kernel_rfl); (case hg => rfl); (case hd => rfl); (case i1 => infer_instance); (case i2 => infer_instance); (case hx => rfl); (case hy => rfl); (case hm => rfl); (case hu => exact hx); intro u2 (hu2 : Pts _ u2 [.slice xa (toS p).length xc, .int .i64 xb])); refine Jf 13 ?_; (apply h_first 14; (case hi => rfl); (case hr => kernel_rfl); (case hfr => kernel_rfl); (case hsel => kernel_rfl); (case hg => rfl); (case hd => rfl); (case he => (apply ev_load_f; (case hx => rfl); (case h => exact hu2); (case hv => rfl)))); (apply h_one 15; (case hr => kernel_rfl)); (apply n_call; (case hi => rfl); (case i1 => infer_instance); (case hg => rfl); (case hd => rfl); (case ha => rfl); (case hc => exact rStarts_con q p ya xa yc xc _ s3 r39 s2 (by omega) (by omega) false ⟨fun h => absurd h Bool.false_ne_true, fun h => absurd ⟨q, d1, h⟩ hgo⟩); (case hL => (repeat (first | exact pm_nil _ | exact pm_refl _ _ | exact pm_self _ | apply pm_cons | apply pm_app))); (case hsub => (intros; (exact sbT))); rintro _ _ _ - ⟨rfl, rfl, rfl⟩); refine Jf 16 ?_; (apply h_end; (case hr => kernel_rfl)))
    (repeat (first | refine Jz ?_ | intro _))
  case' neg =>
    (repeat (first | refine Jz ?_ | intro _))
    ((apply c_held ([]); (case hL => (exact sbT))); refine Jf 0 ?_; refine Jf 1 ?_; refine Jf 2 ?_; refine Jf 3 ?_; refine Jf 4 ?_; refine Jf 5 ?_; refine Jf 6 ?_; refine Jf 7 ?_; refine Jf 8 ?_; refine Jf 9 ?_; refine Jf 10 ?_; refine Jf 11 ?_; refine Jf 12 ?_; refine Jf 13 ?_; refine Jf 14 ?_; (apply h_one 15; (case hr => kernel_rfl)); (refine X.Jn ?_; try intro _); refine Jf 16 ?_; (apply h_end; (case hr => kernel_rfl)))
    (repeat (first | refine Jz ?_ | intro _))
  all_goals (
    clear hkl
    refine c_loop (fun m S' L F => S9 = S' ∧ ∃ (k3 : Nat), m = i - k3 ∧ k3 ≤ i ∧ L = (b9, .cells [.int .i64 (if jd < k3 then (jd : Int) else -1), strV [], .int .i64 xb, .int .i64 t].toArray 51 (0, 0)) :: (obn ++ [(b7, .cells [vn].toArray 24 (0, 0)), (b2, .cells [.slice none 0 0].toArray 24 (0, 0))]) ∧
        F = [(2, .pointer (some ⟨b2, 0, none⟩)), (4, .slice A7 rs.length c7), (7, .pointer (some ⟨b7, 0, none⟩)), (8, .int .i64 i), (9, .pointer (some ⟨b9, 0, none⟩)), (11, .int .i64 k3)]) ⟨rfl, 0, rfl, by omega, rfl, rfl⟩ sbF sbL ?_
    rintro m S10 L F ⟨rfl, k3, rfl, hk3, rfl, rfl⟩
    by_cases hk3i : k3 < i
    rotate_left
    · obtain rfl : i = k3 := by omega
      have hsmI : 0 < i + 1 → sumL w M ≤ 1125899906842624 := fun _ => by
        by_cases hi0 : 0 < i
        · exact hsm hi0
        · have e : p = [] := he0 (by omega)
          have e3 : totL w M p = sumL w M := totL_all fun z hz => by rw [e]; exact List.nil_prefix
          omega
      by_cases hi0 : 0 < i
      · have hp0 := hne hi0
        have hjl := hjdi hi0
        have hlp : 0 < p.length := List.length_pos_iff.2 hp0
        have en : nodeC w M p = Nd.mk (jd : Int) (nameOf p) xb t := by unfold nodeC; rw [if_neg hp0, hjd, hT, ← e2]
        have hlast : ((toS p).length : Int) - 1 = ((p.length - 1 : Nat) : Int) := by omega
        have hlq : p[p.length - 1]? = some (nameOf p) := by
          unfold nameOf
          rw [← List.getLast?_eq_getElem?, List.getLast?_eq_some_getLast hp0]; rfl
        rw [if_pos hjl]
        (repeat (first | refine Jz ?_ | intro _))
        ((apply c_held ([]); (case hL => (exact sbT))); refine Jf 0 ?_; refine Jf 1 ?_; (apply h_idx hA9 2; (case hi => rfl); (case hr => kernel_rfl); (case hfr => kernel_rfl); (case hsel => kernel_rfl); (case hg => rfl); (case hd => rfl); (case i1 => infer_instance); (case i2 => infer_instance); (case hx => rfl); (case hy => rfl); (case hm => rfl); (case hu => exact hx); intro u1 (hu1 : Pts _ u1 [.slice xa (toS p).length xc, .int .i64 xb])); refine Jf 3 ?_; (apply h_first 4; (case hi => rfl); (case hr => kernel_rfl); (case hfr => kernel_rfl); (case hsel => kernel_rfl); (case hg => rfl); (case hd => rfl); (case he => (apply ev_load_f; (case hx => rfl); (case h => exact hu1); (case hv => rfl)))); refine Jf 5 ?_; refine Jf 6 ?_; (apply h_idx hA9 7; (case hi => rfl); (case hr => kernel_rfl); (case hfr => kernel_rfl); (case hsel => kernel_rfl); (case hg => rfl); (case hd => rfl); (case i1 => infer_instance); (case i2 => infer_instance); (case hx => rfl); (case hy => rfl); (case hm => rfl); (case hu => exact hx); intro u2 (hu2 : Pts _ u2 [.slice xa (toS p).length xc, .int .i64 xb])); refine Jf 8 ?_; (apply h_first 9; (case hi => rfl); (case hr => kernel_rfl); (case hfr => kernel_rfl); (case hsel => kernel_rfl); (case hg => rfl); (case hd => rfl); (case he => (apply ev_load_f; (case hx => rfl); (case h => exact hu2); (case hv => rfl)))); refine Jf 10 ?_; (refine Jf 11 ?_; rw [hlast]); (apply h_idx r39 12; (case hi => rfl); (case hr => kernel_rfl); (case hfr => kernel_rfl); (case hsel => kernel_rfl); (case hg => rfl); (case hd => rfl); (case i1 => infer_instance); (case i2 => infer_instance); (case hx => rfl); (case hy => rfl); (case hm => rfl); (case hu => exact (toS_at hlq)); intro u5 (hu5 : Pts _ u5 [strV (nameOf p)])); (apply h_first 13; (case hi => rfl); (case hr => kernel_rfl); (case hfr => kernel_rfl); (case hsel => kernel_rfl); (case hg => rfl); (case hd => rfl); (case he => (apply ev_load1; (case hx => rfl); (case h => exact hu5)))); refine Jf 14 ?_; (apply h_one 15; (case hr => kernel_rfl)); (apply n_store; (case hi => rfl); (case i1 => infer_instance); (case hg => rfl); (case hx => rfl); (case hy => rfl); (case h1 => rfl); (case hL => (repeat (first | exact Upd.head | apply Upd.tail | apply Upd.app))); (case hu => rfl); (case hsub => (intro _; (exact sbT)))); (apply h_end; (case hr => kernel_rfl)))
        (repeat (first | refine Jc ?_ | ((apply s_append (ms := [Nd.mk (jd : Int) (nameOf p) xb t]); (case hg => rfl); (case hd => rfl); (case hx => rfl); (case ho => exact hon); (case hL => (repeat (first | exact pm_nil _ | exact pm_refl _ _ | exact pm_self _ | apply pm_cons | apply pm_app))); (case hy => rfl); (case hm => rfl); (case hs => (apply Src.own; (repeat (first | exact List.Mem.head _ | apply List.Mem.tail | apply List.mem_append_right)))); (case hzs => rfl); (case h0 => decide); (case hb => (simp; omega)); (case h63 => (simp; omega)); intro v5 ob5 hob5); obtain ⟨A5, c5, rfl⟩ := hob5.form) | refine Jo ?_ | intro _))
        rw [← en] at hob5 ⊢
        exact q_back (L' := ob5 ++ [(b7, .cells [.slice A5 ((nodesC w M).take i ++ [nodeC w M p]).length c5].toArray 24 (0, 0)), (b2, .cells [.slice none 0 0].toArray 24 (0, 0))]) (m' := rs.length - (i + 1)) ⟨h8.trans h9, i + 1, _, ob5, rfl, by omega, by rw [hntake]; exact hob5, hsmI, rfl, rfl⟩ (by omega) sbF sbL
      · have e : p = [] := he0 (by omega)
        have en : nodeC w M p = Nd.mk (-1) [] xb t := by unfold nodeC; rw [if_pos e, hT, ← e2, e]; rfl
        rw [if_neg (by omega)]
        (repeat (first | refine Jc ?_ | ((apply s_append (ms := [Nd.mk (-1) [] xb t]); (case hg => rfl); (case hd => rfl); (case hx => rfl); (case ho => exact hon); (case hL => (repeat (first | exact pm_nil _ | exact pm_refl _ _ | exact pm_self _ | apply pm_cons | apply pm_app))); (case hy => rfl); (case hm => rfl); (case hs => (apply Src.own; (repeat (first | exact List.Mem.head _ | apply List.Mem.tail | apply List.mem_append_right)))); (case hzs => rfl); (case h0 => decide); (case hb => (simp; omega)); (case h63 => (simp; omega)); intro v5 ob5 hob5); obtain ⟨A5, c5, rfl⟩ := hob5.form) | refine Jo ?_ | intro _))
        rw [← en] at hob5 ⊢
        exact q_back (L' := ob5 ++ [(b7, .cells [.slice A5 ((nodesC w M).take i ++ [nodeC w M p]).length c5].toArray 24 (0, 0)), (b2, .cells [.slice none 0 0].toArray 24 (0, 0))]) (m' := rs.length - (i + 1)) ⟨h8.trans h9, i + 1, _, ob5, rfl, by omega, by rw [hntake]; exact hob5, hsmI, rfl, rfl⟩ (by omega) sbF sbL
    obtain ⟨y, hyk⟩ := at_lt (show k3 < rs.length by omega)
    obtain ⟨zk, hzk⟩ : ∃ z, (allF ys)[k3]? = some z := at_lt (by omega)
    obtain ⟨d1, d2, d3, d4, d5⟩ := haw k3 zk hzk
    obtain ⟨s0, s1, s2, s3⟩ := hrs9.2 k3 y zk hyk hzk
    obtain ⟨⟨ya, ym, yc⟩, yb⟩ := y
    obtain ⟨q, n'⟩ := zk
    simp only at d1 d2 d3 d4 d5 s0 s1 s2 s3
    subst s0; subst s1
    have tlq := toS_len q
    have hpq := hpar k3 q hk3i d1
    by_cases hlq : (q.length : Int) = (p.length : Int) - 1
    rotate_left
    · have hnk : k3 ≠ jd := fun h => hlq (hpq.2 h).1
      have e6 : (if jd < k3 + 1 then (jd : Int) else -1) = if jd < k3 then (jd : Int) else -1 := by by_cases h : jd < k3; rw [if_pos h, if_pos (by omega)]; rw [if_neg h, if_neg (by omega)]
      (repeat (first | refine Jz ?_ | intro _))
      ((apply c_held ([]); (case hL => (exact sbT))); refine Jf 0 ?_; refine Jf 1 ?_; (apply h_idx hA9 2; (case hi => rfl); (case hr => kernel_rfl); (case hfr => kernel_rfl); (case hsel => kernel_rfl); (case hg => rfl); (case hd => rfl); (case i1 => infer_instance); (case i2 => infer_instance); (case hx => rfl); (case hy => rfl); (case hm => rfl); (case hu => exact hyk); intro u1 (hu1 : Pts _ u1 [.slice ya (toS q).length yc, .int .i64 yb])); refine Jf 3 ?_; (apply h_first 4; (case hi => rfl); (case hr => kernel_rfl); (case hfr => kernel_rfl); (case hsel => kernel_rfl); (case hg => rfl); (case hd => rfl); (case he => (apply ev_load_f; (case hx => rfl); (case h => exact hu1); (case hv => rfl)))); refine Jf 5 ?_; refine Jf 6 ?_; refine Jf 7 ?_; (apply h_idx hA9 8; (case hi => rfl); (case hr => kernel_rfl); (case hfr => kernel_rfl); (case hsel => kernel_rfl); (case hg => rfl); (case hd => rfl); (case i1 => infer_instance); (case i2 => infer_instance); (case hx => rfl); (case hy => rfl); (case hm => rfl); (case hu => exact hx); intro u2 (hu2 : Pts _ u2 [.slice xa (toS p).length xc, .int .i64 xb])); refine Jf 9 ?_; (apply h_first 10; (case hi => rfl); (case hr => kernel_rfl); (case hfr => kernel_rfl); (case hsel => kernel_rfl); (case hg => rfl); (case hd => rfl); (case he => (apply ev_load_f; (case hx => rfl); (case h => exact hu2); (case hv => rfl)))); refine Jf 11 ?_; refine Jf 12 ?_; refine Jf 13 ?_; refine Jf 14 ?_; refine Jf 15 ?_; refine Jf 16 ?_; refine Jf 17 ?_; refine Jf 18 ?_; refine Jf 19 ?_; refine Jf 20 ?_; refine Jf 21 ?_; refine Jf 22 ?_; refine Jf 23 ?_; refine Jf 24 ?_; (apply h_one 25; (case hr => kernel_rfl)); (refine X.Jn ?_; try intro _); refine Jf 26 ?_; (apply h_end; (case hr => kernel_rfl)))
      (repeat (first | refine Jz ?_ | intro _))
      exact q_back (L' := (b9, .cells [.int .i64 (if jd < k3 then (jd : Int) else -1), strV [], .int .i64 xb, .int .i64 t].toArray 51 (0, 0)) :: (obn ++ [(b7, .cells [vn].toArray 24 (0, 0)), (b2, .cells [.slice none 0 0].toArray 24 (0, 0))])) (m' := i - (k3 + 1)) ⟨rfl, k3 + 1, rfl, by omega, by rw [e6], rfl⟩ (by omega) sbF sbL
    by_cases hqp : q <+: p
    · obtain rfl := hpq.1 ⟨hlq, hqp⟩
      have e6 : (if k3 < k3 + 1 then (k3 : Int) else -1) = (k3 : Int) := if_pos (by omega)
      (repeat (first | refine Jz ?_ | intro _))
      ((apply c_held ([]); (case hL => (exact sbT))); refine Jf 0 ?_; refine Jf 1 ?_; (apply h_idx hA9 2; (case hi => rfl); (case hr => kernel_rfl); (case hfr => kernel_rfl); (case hsel => kernel_rfl); (case hg => rfl); (case hd => rfl); (case i1 => infer_instance); (case i2 => infer_instance); (case hx => rfl); (case hy => rfl); (case hm => rfl); (case hu => exact hyk); intro u1 (hu1 : Pts _ u1 [.slice ya (toS q).length yc, .int .i64 yb])); refine Jf 3 ?_; (apply h_first 4; (case hi => rfl); (case hr => kernel_rfl); (case hfr => kernel_rfl); (case hsel => kernel_rfl); (case hg => rfl); (case hd => rfl); (case he => (apply ev_load_f; (case hx => rfl); (case h => exact hu1); (case hv => rfl)))); refine Jf 5 ?_; refine Jf 6 ?_; refine Jf 7 ?_; (apply h_idx hA9 8; (case hi => rfl); (case hr => kernel_rfl); (case hfr => kernel_rfl); (case hsel => kernel_rfl); (case hg => rfl); (case hd => rfl); (case i1 => infer_instance); (case i2 => infer_instance); (case hx => rfl); (case hy => rfl); (case hm => rfl); (case hu => exact hx); intro u2 (hu2 : Pts _ u2 [.slice xa (toS p).length xc, .int .i64 xb])); refine Jf 9 ?_; (apply h_first 10; (case hi => rfl); (case hr => kernel_rfl); (case hfr => kernel_rfl); (case hsel => kernel_rfl); (case hg => rfl); (case hd => rfl); (case he => (apply ev_load_f; (case hx => rfl); (case h => exact hu2); (case hv => rfl)))); refine Jf 11 ?_; refine Jf 12 ?_; refine Jf 13 ?_; refine Jf 14 ?_; refine Jf 15 ?_; refine Jf 16 ?_; (apply h_idx hA9 17; (case hi => rfl); (case hr => kernel_rfl); (case hfr => kernel_rfl); (case hsel => kernel_rfl); (case hg => rfl); (case hd => rfl); (case i1 => infer_instance); (case i2 => infer_instance); (case hx => rfl); (case hy => rfl); (case hm => rfl); (case hu => exact hx); intro u3 (hu3 : Pts _ u3 [.slice xa (toS p).length xc, .int .i64 xb])); refine Jf 18 ?_; (apply h_first 19; (case hi => rfl); (case hr => kernel_rfl); (case hfr => kernel_rfl); (case hsel => kernel_rfl); (case hg => rfl); (case hd => rfl); (case he => (apply ev_load_f; (case hx => rfl); (case h => exact hu3); (case hv => rfl)))); refine Jf 20 ?_; refine Jf 21 ?_; (apply h_idx hA9 22; (case hi => rfl); (case hr => kernel_rfl); (case hfr => kernel_rfl); (case hsel => kernel_rfl); (case hg => rfl); (case hd => rfl); (case i1 => infer_instance); (case i2 => infer_instance); (case hx => rfl); (case hy => rfl); (case hm => rfl); (case hu => exact hyk); intro u4 (hu4 : Pts _ u4 [.slice ya (toS q).length yc, .int .i64 yb])); refine Jf 23 ?_; (apply h_first 24; (case hi => rfl); (case hr => kernel_rfl); (case hfr => kernel_rfl); (case hsel => kernel_rfl); (case hg => rfl); (case hd => rfl); (case he => (apply ev_load_f; (case hx => rfl); (case h => exact hu4); (case hv => rfl)))); (apply h_one 25; (case hr => kernel_rfl)); (apply n_call; (case hi => rfl); (case i1 => infer_instance); (case hg => rfl); (case hd => rfl); (case ha => rfl); (case hc => exact rStarts_con p q xa ya xc yc _ r39 s3 r2 (by omega) (by omega) true ⟨fun _ => hqp, fun _ => rfl⟩); (case hL => (repeat (first | exact pm_nil _ | exact pm_refl _ _ | exact pm_self _ | apply pm_cons | apply pm_app))); (case hsub => (intros; (exact sbT))); rintro _ _ _ - ⟨rfl, rfl, rfl⟩); refine Jf 26 ?_; (apply h_end; (case hr => kernel_rfl)))
      (repeat (first | refine Jz ?_ | intro _))
      exact q_back (L' := (b9, .cells [.int .i64 (k3 : Int), strV [], .int .i64 xb, .int .i64 t].toArray 51 (0, 0)) :: (obn ++ [(b7, .cells [vn].toArray 24 (0, 0)), (b2, .cells [.slice none 0 0].toArray 24 (0, 0))])) (m' := i - (k3 + 1)) ⟨rfl, k3 + 1, rfl, by omega, by rw [e6], rfl⟩ (by omega) sbF sbL
    · have hnk : k3 ≠ jd := fun h => hqp (hpq.2 h).2
      have e6 : (if jd < k3 + 1 then (jd : Int) else -1) = if jd < k3 then (jd : Int) else -1 := by by_cases h : jd < k3; rw [if_pos h, if_pos (by omega)]; rw [if_neg h, if_neg (by omega)]
      (repeat (first | refine Jz ?_ | intro _))
      ((apply c_held ([]); (case hL => (exact sbT))); refine Jf 0 ?_; refine Jf 1 ?_; (apply h_idx hA9 2; (case hi => rfl); (case hr => kernel_rfl); (case hfr => kernel_rfl); (case hsel => kernel_rfl); (case hg => rfl); (case hd => rfl); (case i1 => infer_instance); (case i2 => infer_instance); (case hx => rfl); (case hy => rfl); (case hm => rfl); (case hu => exact hyk); intro u1 (hu1 : Pts _ u1 [.slice ya (toS q).length yc, .int .i64 yb])); refine Jf 3 ?_; (apply h_first 4; (case hi => rfl); (case hr => kernel_rfl); (case hfr => kernel_rfl); (case hsel => kernel_rfl); (case hg => rfl); (case hd => rfl); (case he => (apply ev_load_f; (case hx => rfl); (case h => exact hu1); (case hv => rfl)))); refine Jf 5 ?_; refine Jf 6 ?_; refine Jf 7 ?_; (apply h_idx hA9 8; (case hi => rfl); (case hr => kernel_rfl); (case hfr => kernel_rfl); (case hsel => kernel_rfl); (case hg => rfl); (case hd => rfl); (case i1 => infer_instance); (case i2 => infer_instance); (case hx => rfl); (case hy => rfl); (case hm => rfl); (case hu => exact hx); intro u2 (hu2 : Pts _ u2 [.slice xa (toS p).length xc, .int .i64 xb])); refine Jf 9 ?_; (apply h_first 10; (case hi => rfl); (case hr => kernel_rfl); (case hfr => kernel_rfl); (case hsel => kernel_rfl); (case hg => rfl); (case hd => rfl); (case he => (apply ev_load_f; (case hx => rfl); (case h => exact hu2); (case hv => rfl)))); refine Jf 11 ?_; refine Jf 12 ?_; refine Jf 13 ?_; refine Jf 14 ?_; refine Jf 15 ?_; refine Jf 16 ?_; (apply h_idx hA9 17; (case hi => rfl); (case hr => kernel_rfl); (case hfr => kernel_rfl); (case hsel => kernel_rfl); (case hg => rfl); (case hd => rfl); (case i1 => infer_instance); (case i2 => infer_instance); (case hx => rfl); (case hy => rfl); (case hm => rfl); (case hu => exact hx); intro u3 (hu3 : Pts _ u3 [.slice xa (toS p).length xc, .int .i64 xb])); refine Jf 18 ?_; (apply h_first 19; (case hi => rfl); (case hr => kernel_rfl); (case hfr => kernel_rfl); (case hsel => kernel_rfl); (case hg => rfl); (case hd => rfl); (case he => (apply ev_load_f; (case hx => rfl); (case h => exact hu3); (case hv => rfl)))); refine Jf 20 ?_; refine Jf 21 ?_; (apply h_idx hA9 22; (case hi => rfl); (case hr => kernel_rfl); (case hfr => kernel_rfl); (case hsel => kernel_rfl); (case hg => rfl); (case hd => rfl); (case i1 => infer_instance); (case i2 => infer_instance); (case hx => rfl); (case hy => rfl); (case hm => rfl); (case hu => exact hyk); intro u4 (hu4 : Pts _ u4 [.slice ya (toS q).length yc, .int .i64 yb])); refine Jf 23 ?_; (apply h_first 24; (case hi => rfl); (case hr => kernel_rfl); (case hfr => kernel_rfl); (case hsel => kernel_rfl); (case hg => rfl); (case hd => rfl); (case he => (apply ev_load_f; (case hx => rfl); (case h => exact hu4); (case hv => rfl)))); (apply h_one 25; (case hr => kernel_rfl)); (apply n_call; (case hi => rfl); (case i1 => infer_instance); (case hg => rfl); (case hd => rfl); (case ha => rfl); (case hc => exact rStarts_con p q xa ya xc yc _ r39 s3 r2 (by omega) (by omega) false ⟨fun h => absurd h Bool.false_ne_true, fun h => absurd h hqp⟩); (case hL => (repeat (first | exact pm_nil _ | exact pm_refl _ _ | exact pm_self _ | apply pm_cons | apply pm_app))); (case hsub => (intros; (exact sbT))); rintro _ _ _ - ⟨rfl, rfl, rfl⟩); refine Jf 26 ?_; (apply h_end; (case hr => kernel_rfl)))
      (repeat (first | refine Jz ?_ | intro _))
      exact q_back (L' := (b9, .cells [.int .i64 (if jd < k3 then (jd : Int) else -1), strV [], .int .i64 xb, .int .i64 t].toArray 51 (0, 0)) :: (obn ++ [(b7, .cells [vn].toArray 24 (0, 0)), (b2, .cells [.slice none 0 0].toArray 24 (0, 0))])) (m' := i - (k3 + 1)) ⟨rfl, k3 + 1, rfl, by omega, by rw [e6], rfl⟩ (by omega) sbF sbL)
end Go.Proofs.YtcnfchchanlepaaGreat
namespace Go.Proofs.YtcnfchchanlepaaGreat
open Go Go.X
/-- The stacks' own weight at a stack's path. -/
theorem wS_at {l : List Sym} {ys : List Sk} (hs : sksB ys = true) {y : Sk} (hy : y ∈ ys) : 0 < wS l ys (pathOf l y) := by
  unfold wS
  have h1 : (pth (pathOf l y), y.weight) ∈ stkE l ys := List.mem_map.2 ⟨y, hy, rfl⟩
  have h2 := sum_memP (f := fun x : Pth × Int => if x.1 = pth (pathOf l y) then x.2 else 0) (c0 := (pth (pathOf l y), y.weight)) (L := stkE l ys) (fun c hc => by
    obtain ⟨z, hz, rfl⟩ := List.mem_map.1 hc
    have := (sks_at hs hz).2.1
    split
    · simp only; omega
    · exact Int.le_refl _) h1
  rw [if_pos rfl] at h2
  have := (sks_at hs hy).2.1
  unfold wI
  simp only at h2
  omega
/-- The paths of a tree, given as a list. -/
theorem can_list {l : List Sym} {ys : List Sk} (hl : SymsOk l) (hs : sksB ys = true) {L : List (List Bs)} (h1 : L.Pairwise (· < ·)) (h2 : [] ∈ L) (h3 : ∀ y ∈ ys, ∀ p, p <+: pathOf l y → p ∈ L) (h4 : ∀ p ∈ L, p = [] ∨ ∃ y ∈ ys, p <+: pathOf l y) : Can (wS l ys) L :=
  ⟨h1, fun p => by
    constructor
    · intro hp
      rcases h4 p hp with e | ⟨y, hy, hpre⟩
      · exact .inl e
      · exact .inr ⟨_, pathOf_vq hl hs hy, wS_at hs hy, hpre⟩
    · rintro (e | ⟨p', hv, h0, hpre⟩)
      · exact e ▸ h2
      · obtain ⟨y, hy, rfl⟩ := wS_path hl hs hv h0
        exact h3 y hy p hpre⟩
theorem pre_inits {p q : List Bs} (h : p <+: q) : p ∈ (List.range (q.length + 1)).map fun i => q.take i := by
  rw [List.mem_map]
  exact ⟨p.length, List.mem_range.2 (by have := h.length_le; omega), (List.prefix_iff_eq_take.1 h).symm⟩
/-- The changes where one tree is added. -/
theorem chs_mem {u : List Bs → Int} {K : List (List Bs)} (h : GT u K) (x : Ch) : (VQ x.1 ∧ x.2 = totL u K x.1 ∧ x.2 ≠ 0) ↔ x.1 ∈ K ∧ x.2 = totL u K x.1 ∧ x.2 ≠ 0 := by
  constructor
  · rintro ⟨h1, h2, h3⟩
    refine ⟨?_, h2, h3⟩
    by_cases hk : x.1 ∈ K
    · exact hk
    · rw [totL_none fun c hc hpre => hk (h.can.closed c hc _ hpre)] at h2
      exact absurd h2 h3
  · rintro ⟨h1, h2, h3⟩
    exact ⟨h.can.vq _ h1, h2, h3⟩
theorem chs_list {u d : List Bs → Int} {K : List (List Bs)} (h : GT u K) (hd : ∀ p, VQ p → d p = totL u K p) {ch : List Ch} (h1 : ch.Pairwise bef) (h2 : ∀ x ∈ ch, x.1 ∈ K ∧ x.2 = totL u K x.1 ∧ x.2 ≠ 0) (h3 : ∀ p ∈ K, totL u K p ≠ 0 → (p, totL u K p) ∈ ch) : Chs d ch :=
  ⟨h1, fun x => by
    constructor
    · intro hx
      have h4 := (chs_mem h x).2 (h2 x hx)
      exact ⟨h4.1, by rw [hd _ h4.1]; exact h4.2.1, h4.2.2⟩
    · rintro ⟨a, b, c⟩
      rw [hd _ a] at b
      obtain ⟨h5, h6, h7⟩ := (chs_mem h x).1 ⟨a, b, c⟩
      obtain ⟨p, n⟩ := x
      simp only at h5 h6 h7
      subst h6
      exact h3 p h5 h7⟩
/-- The example. -/
def exL : List Sym := [⟨1, 0, 10, [109, 97, 105, 110]⟩, ⟨1, 10, 20, [114, 101, 97, 100]⟩, ⟨2, 5, 15, [109, 97, 105, 110]⟩]
def exY1 : Sk := ⟨1, [3, 12], 4⟩
def exY2 : Sk := ⟨1, [3], 1⟩
def exY3 : Sk := ⟨2, [12, 3], 2⟩
def exA : List (List Bs) := [[], [[109, 97, 105, 110]], [[109, 97, 105, 110], [114, 101, 97, 100]]]
def exB : List (List Bs) := [[], [[109, 97, 105, 110]], [[109, 97, 105, 110], [63]], [[109, 97, 105, 110], [114, 101, 97, 100]]]
def exC : List (List Bs) := [[], [[109, 97, 105, 110]], [[109, 97, 105, 110], [63]]]
theorem exL_ok : SymsOk exL := SymCh.ok ⟨by unfold symOk inB; decide, by decide, by unfold symOk inB; decide, by decide, (show symOk _ by unfold symOk inB; decide)⟩ (by decide)
theorem exS12 : sksB [exY1, exY2] = true := by decide
theorem exS3 : sksB [exY3] = true := by decide
theorem exS : sksB [exY1, exY2, exY3] = true := by decide
theorem ex_path1 : pathOf exL exY1 = [[109, 97, 105, 110], [114, 101, 97, 100]] := by decide
theorem ex_path2 : pathOf exL exY2 = [[109, 97, 105, 110]] := by decide
theorem ex_path3 : pathOf exL exY3 = [[109, 97, 105, 110], [63]] := by decide
theorem exA_can : Can (wS exL [exY1, exY2]) exA := can_list exL_ok exS12 (by decide) (by decide) (by
    intro y hy p hp
    have := pre_inits hp
    simp only [List.mem_cons, List.not_mem_nil, or_false] at hy
    rcases hy with rfl | rfl
    · rw [ex_path1] at this; clear hp; revert p; decide
    · rw [ex_path2] at this; clear hp; revert p; decide) (by
    intro p hp
    simp only [exA, List.mem_cons, List.not_mem_nil, or_false] at hp
    rcases hp with rfl | rfl | rfl
    · exact .inl rfl
    · exact .inr ⟨exY1, List.mem_cons_self, by rw [ex_path1]; decide⟩
    · exact .inr ⟨exY1, List.mem_cons_self, by rw [ex_path1]; decide⟩)
theorem exC_can : Can (wS exL [exY3]) exC := can_list exL_ok exS3 (by decide) (by decide) (by
    intro y hy p hp
    have := pre_inits hp
    simp only [List.mem_cons, List.not_mem_nil, or_false] at hy
    subst hy
    rw [ex_path3] at this; clear hp; revert p; decide) (by
    intro p hp
    simp only [exC, List.mem_cons, List.not_mem_nil, or_false] at hp
    rcases hp with rfl | rfl | rfl
    · exact .inl rfl
    · exact .inr ⟨exY3, List.mem_cons_self, by rw [ex_path3]; decide⟩
    · exact .inr ⟨exY3, List.mem_cons_self, by rw [ex_path3]; decide⟩)
theorem exB_can : Can (wS exL [exY1, exY2, exY3]) exB := can_list exL_ok exS (by decide) (by decide) (by
    intro y hy p hp
    have := pre_inits hp
    simp only [List.mem_cons, List.not_mem_nil, or_false] at hy
    rcases hy with rfl | rfl | rfl
    · rw [ex_path1] at this; clear hp; revert p; decide
    · rw [ex_path2] at this; clear hp; revert p; decide
    · rw [ex_path3] at this; clear hp; revert p; decide) (by
    intro p hp
    simp only [exB, List.mem_cons, List.not_mem_nil, or_false] at hp
    rcases hp with rfl | rfl | rfl | rfl
    · exact .inl rfl
    · exact .inr ⟨exY1, List.mem_cons_self, by rw [ex_path1]; decide⟩
    · exact .inr ⟨exY3, List.mem_cons_of_mem _ (List.mem_cons_of_mem _ List.mem_cons_self), by rw [ex_path3]; decide⟩
    · exact .inr ⟨exY1, List.mem_cons_self, by rw [ex_path1]; decide⟩)
def exNA : List Nd := [⟨-1, [], 0, 5⟩, ⟨0, [109, 97, 105, 110], 1, 5⟩, ⟨1, [114, 101, 97, 100], 4, 4⟩]
def exNB : List Nd := [⟨-1, [], 0, 7⟩, ⟨0, [109, 97, 105, 110], 1, 7⟩, ⟨1, [63], 2, 2⟩, ⟨1, [114, 101, 97, 100], 4, 4⟩]
def exNC : List Nd := [⟨-1, [], 0, 2⟩, ⟨0, [109, 97, 105, 110], 0, 2⟩, ⟨1, [63], 2, 2⟩]
theorem exNA_eq : nodesC (wS exL [exY1, exY2]) exA = exNA := by kernel_rfl
theorem exNB_eq : nodesC (wS exL [exY1, exY2, exY3]) exB = exNB := by kernel_rfl
theorem exNC_eq : nodesC (wS exL [exY3]) exC = exNC := by kernel_rfl
def exCh : List Ch := [([], 2), ([[109, 97, 105, 110]], 2), ([[109, 97, 105, 110], [63]], 2)]
theorem ex_diff {d : List Bs → Int} (hd : ∀ p, VQ p → d p = totL (wS exL [exY1, exY2, exY3]) exB p - totL (wS exL [exY1, exY2]) exA p) : Chs d exCh := by
  have h1 := fold_gt exL_ok exS3 exC_can
  have h3 := fun q => tot_merge (w := wS exL [exY1, exY2]) (u := wS exL [exY3]) (x := wS exL [exY1, exY2, exY3]) exA_can exC_can exB_can (fun p _ => wS_pos exS12 p) (fun p _ => wS_pos exS3 p) (fun p _ => wS_app [exY1, exY2] [exY3] p) q
  refine chs_list h1 (fun p hp => by rw [hd p hp, h3 p]; omega) ?_ ?_ ?_
  · simp only [exCh, List.pairwise_cons, List.mem_cons, List.not_mem_nil, or_false, forall_eq_or_imp, forall_eq, List.Pairwise.nil, and_true, implies_true, false_implies]
    refine ⟨⟨.inr ⟨rfl, by decide⟩, .inr ⟨rfl, by decide⟩⟩, .inr ⟨rfl, by decide⟩⟩
  · intro x hx
    simp only [exCh, List.mem_cons, List.not_mem_nil, or_false] at hx
    rcases hx with rfl | rfl | rfl
    · exact ⟨by decide, by kernel_rfl, by decide⟩
    · exact ⟨by decide, by kernel_rfl, by decide⟩
    · exact ⟨by decide, by kernel_rfl, by decide⟩
  · intro p hp _
    simp only [exC, List.mem_cons, List.not_mem_nil, or_false] at hp
    rcases hp with rfl | rfl | rfl
    · rw [show totL (wS exL [exY3]) exC [] = 2 by kernel_rfl]; decide
    · rw [show totL (wS exL [exY3]) exC [[109, 97, 105, 110]] = 2 by kernel_rfl]; decide
    · rw [show totL (wS exL [exY3]) exC [[109, 97, 105, 110], [63]] = 2 by kernel_rfl]; decide
end Go.Proofs.YtcnfchchanlepaaGreat
namespace Go.Proofs.YtcnfchchanlepaaGreat
open Go Go.X
/-- The changes of entries. -/
def chOf (x : List (Pth × Int)) : List Ch := (x.filter fun e => e.2 != 0).map fun e => (strip e.1, e.2)
theorem chOf_app (x y : List (Pth × Int)) : chOf (x ++ y) = chOf x ++ chOf y := by simp [chOf]
theorem chOf_one (e : Pth × Int) : chOf [e] = if e.2 = 0 then [] else [(strip e.1, e.2)] := by
  unfold chOf
  by_cases h : e.2 = 0
  · simp [h]
  · simp [h]
theorem chOf_len (x : List (Pth × Int)) : (chOf x).length ≤ x.length := by
  unfold chOf
  rw [List.length_map]
  exact List.length_filter_le _ _
def DiffR (ns ms : List Nd) (S : SH) (v : Value) (ec : Int) (L' : Blocks) : Prop :=
  ¬(validB ns = true ∧ validB ms = true) ∧ ec = 180 ∧ v = .slice none 0 0 ∧ L' = [] ∨ (validB ns = true ∧ validB ms = true) ∧ ec = 0 ∧ ∃ xs ch, Ows 54 v xs L' ∧ ChL S xs ch ∧ Chs (fun p => wT Nd.total ms p - wT Nd.total ns p) ch
theorem chs_of {es : List (Pth × Int)} (hW : WE es) (hP : PE es) {d : List Bs → Int} (hd : ∀ p, VQ p → wI (pth p) es = d p) {x : List (Pth × Int)} (hx : x.Perm es) {ch : List Ch} (hc : ch.Perm (chOf x)) (hs : ch.Pairwise fun a b => ¬ cfC b a < 0) : Chs d ch := by
  have hmem : ∀ y, y ∈ ch ↔ VQ y.1 ∧ y.2 = d y.1 ∧ y.2 ≠ 0 := fun y => by
    rw [hc.mem_iff]
    unfold chOf
    constructor
    · intro h
      obtain ⟨e, he, rfl⟩ := List.mem_map.1 h
      obtain ⟨h1, h2⟩ := List.mem_filter.1 he
      have h3 := hx.mem_iff.1 h1
      obtain ⟨q, hq, e1⟩ := hP e h3
      obtain ⟨k, n⟩ := e
      simp only at e1
      subst e1
      simp only at h2 ⊢
      rw [strip_pth hq]
      exact ⟨hq, by rw [← hd q hq, wI_mem hW.nodup h3], by simpa using h2⟩
    · rintro ⟨h1, h2, h3⟩
      obtain ⟨p, n⟩ := y
      simp only at h1 h2 h3
      rw [← hd p h1] at h2
      have hk : pth p ∈ es.map (·.1) := by
        by_cases hk : pth p ∈ es.map (·.1)
        · exact hk
        · rw [wI_none hk] at h2; exact absurd h2 h3
      obtain ⟨⟨k, n'⟩, he, hk'⟩ := List.mem_map.1 hk
      simp only at hk'
      subst hk'
      rw [wI_mem hW.nodup he] at h2
      subst h2
      exact List.mem_map.2 ⟨(pth p, n), List.mem_filter.2 ⟨hx.mem_iff.2 he, by simpa using h3⟩, by rw [strip_pth h1]⟩
  have hnd : (ch.map (·.1)).Nodup := by
    have h1 : (x.map (·.1)).Nodup := (hx.map _).nodup_iff.2 hW.nodup
    have h2 : ((chOf x).map (·.1)).Nodup := by
      unfold chOf
      rw [List.map_map]
      have h3 : ((x.filter fun e => e.2 != 0).map (·.1)).Nodup := h1.sublist (List.filter_sublist.map _)
      rw [List.nodup_iff_pairwise_ne, List.pairwise_map] at h3 ⊢
      refine h3.imp_of_mem fun {a b} ha hb hab e => hab ?_
      obtain ⟨q1, hq1, e1⟩ := hP a (hx.mem_iff.1 (List.mem_filter.1 ha).1)
      obtain ⟨q2, hq2, e2⟩ := hP b (hx.mem_iff.1 (List.mem_filter.1 hb).1)
      simp only [Function.comp_apply] at e
      rw [e1, e2, strip_pth hq1, strip_pth hq2] at e
      rw [e1, e2, e]
    exact (hc.map _).nodup_iff.2 h2
  refine ⟨?_, hmem⟩
  rw [List.nodup_iff_pairwise_ne, List.pairwise_map] at hnd
  refine (hs.and hnd).imp ?_
  rintro a b ⟨h1, h2⟩
  rw [cfC_lt] at h1
  exact (bef_tri h2).resolve_right h1
theorem weightsT {f : FuncId} (hf : f = 37) (ns : List Nd) (A : Option Addr) (c : Nat) (S : SH) (hA : At S A ns) (hl : ns.length ≤ 1000000) (r : Bool) (hr : validB ns = r) (es : List (Pth × Int)) (he : wF Nd.total ns = es) :
    Con Tryz.prog 36 #[.agg #[.slice A ns.length c], .func (.func f) #[] #[]] S [] (fun _ L' x => ∃ bm, x = .tuple #[.map (some bm), .bool r] ∧ L' = [(bm, mapGO (iE es))]) := by
  subst hf
  subst he
  exact weights_t Nd.total (fun n S => total_con n S) ns A c S hA hl r hr
set_option maxRecDepth 10000
set_option linter.unusedVariables false
attribute [local irreducible] Code.wpIn wpListIn Exit.then Exit.inBlock X.Out X.Back X.W X.Ev X.Con X.BinV X.Wh X.Wn X.Wq
set_option maxHeartbeats 3200000 in
theorem diff_con (ns ms : List Nd) (A B : Option Addr) (c d : Nat) (S : SH) (hA : At S A ns) (hB : At S B ms) (hn : ns.length ≤ 1000000) (hm : ms.length ≤ 1000000) :
    Con Tryz.prog 15 #[.agg #[.slice A ns.length c], .agg #[.slice B ms.length d]] S [] (fun S' L' r => Le S S' ∧ ∃ v ec, r = .tuple #[v, .int .i64 ec] ∧ DiffR ns ms S' v ec L') := by
  refine con_of (args := [.agg #[.slice A ns.length c], .agg #[.slice B ms.length d]]) Tryz.func15 rfl Tryz.ntmps15 rfl fun w => ?_
  have hx := wF_ok Nd.total ns
  have hy := wF_ok Nd.total ms
  have hxb := fun k => wI_rng hx.1 (wF_total (ns := ns)) (by omega) k
  have hyb := fun k => wI_rng hy.1 (wF_total (ns := ms)) (by omega) k
  have hc := fun (b1 b2 : Nat) (S : SH) => with_minus b1 b2 (wF Nd.total ms) (wF Nd.total ns) S hy.1 hx.1 (by omega) (fun x hxm => by
    have h3 := wF_total x hxm
    have h4 := hyb x.1
    unfold i64
    omega)
  have hd : ∀ p, wT Nd.total ms p - wT Nd.total ns p = wI (pth p) (wF Nd.total ms) + -1 * wI (pth p) (wF Nd.total ns) := fun p => by unfold wT; omega
  obtain ⟨es, hes⟩ : ∃ es, wF Nd.total ns = es := ⟨_, rfl⟩
  obtain ⟨fs, hfs⟩ : ∃ fs, wF Nd.total ms = fs := ⟨_, rfl⟩
  rw [hes] at hx hc hxb
  rw [hfs] at hy hc hyb
  simp only [hes, hfs] at hd
  cases h1 : validB ns
  · cases h2 : validB ms
    · (repeat (first | refine Jc ?_ | (apply s_call; (case hg => rfl); (case hd => rfl); (case ha => rfl); (case hc => exact weightsT rfl ns A c _ hA hn _ h1 es hes); (case hL => (repeat (first | exact pm_nil _ | exact pm_refl _ _ | exact pm_self _ | apply pm_cons | apply pm_app))); rintro S2 L2 _ hle2 ⟨x1, rfl, rfl⟩) | refine Jo ?_ | intro _))
      (repeat (first | refine Jc ?_ | (apply s_call; (case hg => rfl); (case hd => rfl); (case ha => rfl); (case hc => exact weightsT rfl ms B d _ (hB.le hle2) hm _ h2 fs hfs); (case hL => (repeat (first | exact pm_nil _ | exact pm_refl _ _ | exact pm_self _ | apply pm_cons | apply pm_app))); rintro S3 L3 _ hle3 ⟨x2, rfl, rfl⟩) | refine Jo ?_ | intro _))
      exact o_ret2 (L' := []) Tryz.results15 rfl rfl (List.nil_sublist _) ⟨hle2.trans hle3, _, _, rfl, .inl ⟨fun h => by rw [h1, h2] at h; simp at h, rfl, rfl, rfl⟩⟩
    · (repeat (first | refine Jc ?_ | (apply s_call; (case hg => rfl); (case hd => rfl); (case ha => rfl); (case hc => exact weightsT rfl ns A c _ hA hn _ h1 es hes); (case hL => (repeat (first | exact pm_nil _ | exact pm_refl _ _ | exact pm_self _ | apply pm_cons | apply pm_app))); rintro S2 L2 _ hle2 ⟨x1, rfl, rfl⟩) | refine Jo ?_ | intro _))
      (repeat (first | refine Jc ?_ | (apply s_call; (case hg => rfl); (case hd => rfl); (case ha => rfl); (case hc => exact weightsT rfl ms B d _ (hB.le hle2) hm _ h2 fs hfs); (case hL => (repeat (first | exact pm_nil _ | exact pm_refl _ _ | exact pm_self _ | apply pm_cons | apply pm_app))); rintro S3 L3 _ hle3 ⟨x2, rfl, rfl⟩) | refine Jo ?_ | intro _))
      exact o_ret2 (L' := []) Tryz.results15 rfl rfl (List.nil_sublist _) ⟨hle2.trans hle3, _, _, rfl, .inl ⟨fun h => by rw [h1, h2] at h; simp at h, rfl, rfl, rfl⟩⟩
  · cases h2 : validB ms
    · (repeat (first | refine Jc ?_ | (apply s_call; (case hg => rfl); (case hd => rfl); (case ha => rfl); (case hc => exact weightsT rfl ns A c _ hA hn _ h1 es hes); (case hL => (repeat (first | exact pm_nil _ | exact pm_refl _ _ | exact pm_self _ | apply pm_cons | apply pm_app))); rintro S2 L2 _ hle2 ⟨x1, rfl, rfl⟩) | refine Jo ?_ | intro _))
      (repeat (first | refine Jc ?_ | (apply s_call; (case hg => rfl); (case hd => rfl); (case ha => rfl); (case hc => exact weightsT rfl ms B d _ (hB.le hle2) hm _ h2 fs hfs); (case hL => (repeat (first | exact pm_nil _ | exact pm_refl _ _ | exact pm_self _ | apply pm_cons | apply pm_app))); rintro S3 L3 _ hle3 ⟨x2, rfl, rfl⟩) | refine Jo ?_ | intro _))
      exact o_ret2 (L' := []) Tryz.results15 rfl rfl (List.nil_sublist _) ⟨hle2.trans hle3, _, _, rfl, .inl ⟨fun h => by rw [h1, h2] at h; simp at h, rfl, rfl, rfl⟩⟩
    (repeat (first | refine Jc ?_ | (apply s_call; (case hg => rfl); (case hd => rfl); (case ha => rfl); (case hc => exact weightsT rfl ns A c _ hA hn _ h1 es hes); (case hL => (repeat (first | exact pm_nil _ | exact pm_refl _ _ | exact pm_self _ | apply pm_cons | apply pm_app))); rintro S2 L2 _ hle2 ⟨x1, rfl, rfl⟩) | refine Jo ?_ | intro _))
    (repeat (first | refine Jc ?_ | (apply s_call; (case hg => rfl); (case hd => rfl); (case ha => rfl); (case hc => exact weightsT rfl ms B d _ (hB.le hle2) hm _ h2 fs hfs); (case hL => (repeat (first | exact pm_nil _ | exact pm_refl _ _ | exact pm_self _ | apply pm_cons | apply pm_app))); rintro S3 L3 _ hle3 ⟨x2, rfl, rfl⟩) | refine Jo ?_ | intro _))
    (repeat (first | refine Jc ?_ | (apply s_call; (case hg => rfl); (case hd => rfl); (case ha => rfl); (case hc => exact hc x2 x1 _); (case hL => exact List.Perm.refl _); rintro S4 _ _ hle4 ⟨rfl, rfl, es2, rfl, hWe, hwe, hlen, hko⟩) | refine Jo ?_ | intro _))
    (repeat (first | refine Jc ?_ | (apply s_call; (case hg => rfl); (case hd => rfl); (case ha => rfl); (case hc => exact mapsAll_con x2 _); (case hL => (repeat (first | exact pm_nil _ | exact pm_refl _ _ | exact pm_self _ | apply pm_cons | apply pm_app))); rintro S5 _ _ hle5 ⟨-, rfl, p, rfl, hp⟩) | refine Jo ?_ | intro _))
    rename_i b10
    have hPe : PE es2 := fun x hxm => by
      rcases hko x hxm with h | h
      · obtain ⟨y, hy1, e⟩ := List.mem_map.1 h
        rw [← e]; exact hy.2.1 y hy1
      · obtain ⟨y, hy1, e⟩ := List.mem_map.1 h
        rw [← e]; exact hx.2.1 y hy1
    have hbb : ∀ e ∈ es2, -1125899906842624 ≤ e.2 ∧ e.2 ≤ 1125899906842624 := fun e he => by
      have e1 : wI e.1 es2 = e.2 := wI_mem hWe.nodup he
      rw [hwe] at e1
      have h3 := hxb e.1
      have h4 := hyb e.1
      omega
    have hes2 : es2.length ≤ 4000 := by omega
    refine W.trim (F' := [(10, .pointer (some ⟨b10, 0, none⟩)), (33, .func (.func 59) #[] #[.pointer (some p)])]) (L' := [(b10, .cells [.slice none 0 0].toArray 39 (0, 0)), (x2, mapGO (iE es2))]) sbF sbL ?_
    refine c_rangeFunc (caps := [.pointer (some p)]) rfl rfl fun r l fn tmps hfm => ?_
    generalize hrec : rec0 fn tmps _ _ _ r LoopState.ready none = o
    obtain ⟨I, hI⟩ : ∃ I : SH → List (Pth × Int) → Blocks → Prop, I = fun S x L => ∃ v xs ob, Ows 54 v xs ob ∧ ChL S xs (chOf x) ∧ L = (l, o) :: (x2, mapGO (iE es2)) :: (b10, .cells [v].toArray 39 (0, 0)) :: ob := ⟨_, rfl⟩
    have hmem : ∀ S x L, I S x L → ∃ L2, L = (l, o) :: (x2, mapGO (iE es2)) :: L2 := fun S x L h => by rw [hI] at h; obtain ⟨v, xs, ob, -, -, rfl⟩ := h; exact ⟨_, rfl⟩
    rw [← hrec] at hmem
    refine ⟨(l, o) :: (x2, mapGO (iE es2)) :: (b10, .cells [.slice none 0 0].toArray 39 (0, 0)) :: [], [(r, .deferred (some []))], fun S' L' v => Le S5 S' ∧ ∃ x, x.Perm es2 ∧ I S' x L', ?_, ?_, ?_⟩
    · exact (pmc (fun p => by (repeat (first | rw [List.countP_append] | rw [List.countP_cons] | rw [List.countP_nil])); (all_goals (first | rfl | omega))))
    · refine mapsAll1_con rfl es2 hWe x2 I hmem S5 p hp ?_ _ (by rw [hI]; exact ⟨_, _, _, Ows.nil 54, ChL.nil _, rfl⟩)
      intro S6 x L e hle6 hi hee hnx hxl
      rw [hI] at hi
      obtain ⟨v, xs, ob, ho, hch, rfl⟩ := hi
      obtain ⟨q, hq, hek⟩ := hPe e hee
      obtain ⟨ek, en⟩ := e
      simp only at hek
      subst hek
      have hpl := pad_lenV hq.1
      have hfm' := (hfm.put (d := 34) (.agg ((pad q).map strV).toArray) rfl).put (d := 35) (.int .i64 en) rfl
      have hfm2 : Fm 48 { tmps := (#[34, 35].zip #[.agg ((pad q).map strV).toArray, .int .i64 en]).foldl (fun t (p : Tmp × Value) => t.setIfInBounds p.1 p.2) tmps, defers := [] } [(35, .int .i64 en), (34, .agg ((pad q).map strV).toArray), (10, .pointer (some ⟨b10, 0, none⟩)), (33, .func (.func 59) #[] #[.pointer (some p)])] := by simpa [Act.put] using hfm'
      have hsx : strip (pth q) = q := strip_pth hq
      have hxs : xs.length ≤ 4000 := by have := hch.1; have := chOf_len x; omega
      rw [← hrec]
      refine rd_ofR hfm2 fun w' => ?_
      by_cases hz : en = 0
      · (repeat (first | refine Jc ?_ | (apply s_store_ag (vs := (pad q).map strV); (case hg => rfl); (case hx => rfl); (case hy => rfl); (case h1 => exact strs_one _); (case hv => exact hpl); (case hL => (repeat (first | exact Upd.head | apply Upd.tail | apply Upd.app))); (case hu => rfl)) | refine Jo ?_ | intro _))
        refine W.trim (F' := [(10, .pointer (some ⟨b10, 0, none⟩)), (12, .int .i64 en)]) (L' := (l, _) :: (x2, mapGO (iE es2)) :: (b10, .cells [v].toArray 39 (0, 0)) :: ob) sbF sbL ?_
        apply r_begin
        (repeat (first | refine Jz ?_ | intro _))
        refine r_end (L' := (x2, mapGO (iE es2)) :: (b10, .cells [v].toArray 39 (0, 0)) :: ob) (List.Sublist.refl _) fun w'' hs => ⟨rfl, S6, _, ⟨Le.refl _, by rw [hI]; exact ⟨v, xs, ob, ho, by rw [chOf_app, chOf_one, if_pos hz, List.append_nil]; exact hch, rfl⟩⟩, ?_⟩
        rw [hrec] at hs
        exact hs
      · (repeat (first | refine Jc ?_ | (apply s_store_ag (vs := (pad q).map strV); (case hg => rfl); (case hx => rfl); (case hy => rfl); (case h1 => exact strs_one _); (case hv => exact hpl); (case hL => (repeat (first | exact Upd.head | apply Upd.tail | apply Upd.app))); (case hu => rfl)) | refine Jo ?_ | intro _))
        rename_i b11
        refine W.perm ?_ (List.Perm.swap _ _ _)
        apply r_begin
        (repeat (first | refine Jz ?_ | intro _))
        ((apply c_heldR ([(b11, .cells ((pad q).map strV).toArray 87 (0, 0))]); (case hL => (exact sbT)); (case hdef => rfl); (case hQ => (intro _ _ h; first | exact h | (simp only [Exit.inBlock, roundPost] at h; exact h) | (simp [Exit.inBlock, roundPost] at h)))); (apply h_first 1; (case hi => rfl); (case hr => kernel_rfl); (case hfr => kernel_rfl); (case hsel => kernel_rfl); (case hg => rfl); (case hd => rfl); (case he => (apply ev_load_own_ag; (case hx => rfl); (case hm => (repeat (first | exact List.Mem.head _ | apply List.Mem.tail | apply List.mem_append_right))); (case hl => exact hpl)))); refine Jf 3 ?_; (apply h_two 0 2; (case hr => kernel_rfl)); (case k1 => ((apply n_ev; (case hi => rfl); (case hg => rfl); (case hd => rfl); (case he => (apply ev_load_own; (case hx => rfl); (case hm => (repeat (first | exact List.Mem.head _ | apply List.Mem.tail | apply List.mem_append_right))); (case h => rfl)))); (apply h_one 2; (case hr => kernel_rfl)); ((apply n_call; (case hi => rfl); (case i1 => infer_instance); (case hg => rfl); (case hd => rfl); (case ha => rfl); (case hc => exact list_con q hq _); (case hL => (repeat (first | exact pm_nil _ | exact pm_refl _ _ | exact pm_self _ | apply pm_cons | apply pm_app))); (case hsub => (intros; (exact sbT))); rintro S7 L7 v7 hle7 ⟨-, ho7⟩); refine Wh.freezeOws ho7 (List.Perm.refl _) sbL fun S8 hle8 hs8 => ?_; obtain ⟨A8, c8, rfl, hc8, hA8⟩ := hs8); refine Jf 4 ?_; (apply h_one 5; (case hr => kernel_rfl)); (refine X.Jn ?_; try intro _); (apply h_one 6; (case hr => kernel_rfl)); ((apply n_append (ms := [Cg.mk ⟨A8, (toS q).length, c8⟩ en]); (case hi => rfl); (case hT => infer_instance); (case hsz => infer_instance); (case hz => infer_instance); (case hby => infer_instance); (case hg => rfl); (case hd => rfl); (case hx => rfl); (case ho => exact ho); (case hL => (repeat (first | exact pm_nil _ | exact pm_refl _ _ | exact pm_self _ | apply pm_cons | apply pm_app))); (case hy => rfl); (case hm => rfl); (case hs => (apply Src.own; (repeat (first | exact List.Mem.head _ | apply List.Mem.tail | apply List.mem_append_right)))); (case hzs => rfl); (case h0 => decide); (case hb => (simp; omega)); (case h63 => (simp; omega)); (case hsub => (intros; (exact sbT))); intro v9 ob9 ho9); obtain ⟨A9, c9, rfl⟩ := ho9.form); (apply h_one 7; (case hr => kernel_rfl)); (apply n_store; (case hi => rfl); (case i1 => infer_instance); (case hg => rfl); (case hx => rfl); (case hy => rfl); (case h1 => rfl); (case hL => (repeat (first | exact Upd.head | apply Upd.tail | apply Upd.app))); (case hu => rfl); (case hsub => (intro _; (exact sbT)))); (apply h_end; (case hr => kernel_rfl)); ((((repeat (first | refine Jz ?_ | intro _))); refine W.trim (F' := []) (L' := ob9 ++ [(l, _), (x2, mapGO (iE es2)), (b10, _)]) sbF sbL ?_; refine W.perm ?_ List.perm_append_comm; refine r_end (L' := (x2, mapGO (iE es2)) :: (b10, .cells [.slice A9 (xs ++ [Cg.mk ⟨A8, (toS q).length, c8⟩ en]).length c9].toArray 39 (0, 0)) :: ob9) (List.Sublist.refl _) fun w'' hs => ⟨rfl, S8, _, ⟨hle7.trans hle8, by rw [hI]; exact ⟨_, _, ob9, ho9, by rw [chOf_app, chOf_one, if_neg hz, hsx]; exact (hch.le (hle7.trans hle8)).snoc ⟨rfl, rfl, hc8, hA8⟩, rfl⟩⟩, ?_⟩; rw [hrec] at hs; exact hs)))); (case k2 => (((apply n_call; (case hi => rfl); (case i1 => infer_instance); (case hg => rfl); (case hd => rfl); (case ha => rfl); (case hc => exact list_con q hq _); (case hL => (repeat (first | exact pm_nil _ | exact pm_refl _ _ | exact pm_self _ | apply pm_cons | apply pm_app))); (case hsub => (intros; (exact sbT))); rintro S7 L7 v7 hle7 ⟨-, ho7⟩); refine Wh.freezeOws ho7 (List.Perm.refl _) sbL fun S8 hle8 hs8 => ?_; obtain ⟨A8, c8, rfl, hc8, hA8⟩ := hs8); refine Jf 4 ?_; (apply h_two 0 5; (case hr => kernel_rfl)); (case k1 => ((apply n_ev; (case hi => rfl); (case hg => rfl); (case hd => rfl); (case he => (apply ev_load_own; (case hx => rfl); (case hm => (repeat (first | exact List.Mem.head _ | apply List.Mem.tail | apply List.mem_append_right))); (case h => rfl)))); (apply h_one 5; (case hr => kernel_rfl)); (refine X.Jn ?_; try intro _); (apply h_one 6; (case hr => kernel_rfl)); ((apply n_append (ms := [Cg.mk ⟨A8, (toS q).length, c8⟩ en]); (case hi => rfl); (case hT => infer_instance); (case hsz => infer_instance); (case hz => infer_instance); (case hby => infer_instance); (case hg => rfl); (case hd => rfl); (case hx => rfl); (case ho => exact ho); (case hL => (repeat (first | exact pm_nil _ | exact pm_refl _ _ | exact pm_self _ | apply pm_cons | apply pm_app))); (case hy => rfl); (case hm => rfl); (case hs => (apply Src.own; (repeat (first | exact List.Mem.head _ | apply List.Mem.tail | apply List.mem_append_right)))); (case hzs => rfl); (case h0 => decide); (case hb => (simp; omega)); (case h63 => (simp; omega)); (case hsub => (intros; (exact sbT))); intro v9 ob9 ho9); obtain ⟨A9, c9, rfl⟩ := ho9.form); (apply h_one 7; (case hr => kernel_rfl)); (apply n_store; (case hi => rfl); (case i1 => infer_instance); (case hg => rfl); (case hx => rfl); (case hy => rfl); (case h1 => rfl); (case hL => (repeat (first | exact Upd.head | apply Upd.tail | apply Upd.app))); (case hu => rfl); (case hsub => (intro _; (exact sbT)))); (apply h_end; (case hr => kernel_rfl)); ((((repeat (first | refine Jz ?_ | intro _))); refine W.trim (F' := []) (L' := ob9 ++ [(l, _), (x2, mapGO (iE es2)), (b10, _)]) sbF sbL ?_; refine W.perm ?_ List.perm_append_comm; refine r_end (L' := (x2, mapGO (iE es2)) :: (b10, .cells [.slice A9 (xs ++ [Cg.mk ⟨A8, (toS q).length, c8⟩ en]).length c9].toArray 39 (0, 0)) :: ob9) (List.Sublist.refl _) fun w'' hs => ⟨rfl, S8, _, ⟨hle7.trans hle8, by rw [hI]; exact ⟨_, _, ob9, ho9, by rw [chOf_app, chOf_one, if_neg hz, hsx]; exact (hch.le (hle7.trans hle8)).snoc ⟨rfl, rfl, hc8, hA8⟩, rfl⟩⟩, ?_⟩; rw [hrec] at hs; exact hs)))); (case k2 => ((refine X.Jn ?_; try intro _); (apply h_one 0; (case hr => kernel_rfl)); (apply n_ev; (case hi => rfl); (case hg => rfl); (case hd => rfl); (case he => (apply ev_load_own; (case hx => rfl); (case hm => (repeat (first | exact List.Mem.head _ | apply List.Mem.tail | apply List.mem_append_right))); (case h => rfl)))); (apply h_one 6; (case hr => kernel_rfl)); ((apply n_append (ms := [Cg.mk ⟨A8, (toS q).length, c8⟩ en]); (case hi => rfl); (case hT => infer_instance); (case hsz => infer_instance); (case hz => infer_instance); (case hby => infer_instance); (case hg => rfl); (case hd => rfl); (case hx => rfl); (case ho => exact ho); (case hL => (repeat (first | exact pm_nil _ | exact pm_refl _ _ | exact pm_self _ | apply pm_cons | apply pm_app))); (case hy => rfl); (case hm => rfl); (case hs => (apply Src.own; (repeat (first | exact List.Mem.head _ | apply List.Mem.tail | apply List.mem_append_right)))); (case hzs => rfl); (case h0 => decide); (case hb => (simp; omega)); (case h63 => (simp; omega)); (case hsub => (intros; (exact sbT))); intro v9 ob9 ho9); obtain ⟨A9, c9, rfl⟩ := ho9.form); (apply h_one 7; (case hr => kernel_rfl)); (apply n_store; (case hi => rfl); (case i1 => infer_instance); (case hg => rfl); (case hx => rfl); (case hy => rfl); (case h1 => rfl); (case hL => (repeat (first | exact Upd.head | apply Upd.tail | apply Upd.app))); (case hu => rfl); (case hsub => (intro _; (exact sbT)))); (apply h_end; (case hr => kernel_rfl)); ((((repeat (first | refine Jz ?_ | intro _))); refine W.trim (F' := []) (L' := ob9 ++ [(l, _), (x2, mapGO (iE es2)), (b10, _)]) sbF sbL ?_; refine W.perm ?_ List.perm_append_comm; refine r_end (L' := (x2, mapGO (iE es2)) :: (b10, .cells [.slice A9 (xs ++ [Cg.mk ⟨A8, (toS q).length, c8⟩ en]).length c9].toArray 39 (0, 0)) :: ob9) (List.Sublist.refl _) fun w'' hs => ⟨rfl, S8, _, ⟨hle7.trans hle8, by rw [hI]; exact ⟨_, _, ob9, ho9, by rw [chOf_app, chOf_one, if_neg hz, hsx]; exact (hch.le (hle7.trans hle8)).snoc ⟨rfl, rfl, hc8, hA8⟩, rfl⟩⟩, ?_⟩; rw [hrec] at hs; exact hs)))))))
    · rintro S' L1' v hle ⟨-, x, hxp, hi⟩
      rw [hI] at hi
      obtain ⟨v1, xs, ob, ho, hch, rfl⟩ := hi
      rw [← hrec]
      refine ⟨.ready, none, (x2, mapGO (iE es2)) :: (b10, .cells [v1].toArray 39 (0, 0)) :: (ob ++ [(r, .deferred (some []))]), List.Perm.refl _, by decide, ?_⟩
      have hchb : ∀ y ∈ chOf x, y.1.length ≤ 12 ∧ -9223372036854775807 ≤ y.2 ∧ y.2 ≤ 9223372036854775807 := fun y hy => by
        obtain ⟨e, he, rfl⟩ := List.mem_map.1 hy
        have he2 := hxp.mem_iff.1 (List.mem_filter.1 he).1
        obtain ⟨q, hq, e1⟩ := hPe e he2
        have hb := hbb e he2
        simp only
        rw [e1, strip_pth hq]
        exact ⟨hq.1, by omega, by omega⟩
      obtain ⟨zs, hz1, hz2⟩ := chx_of hch hchb
      have ho2 : Ows 54 v1 zs ob := ows_chx.2 (by rw [hz1]; exact ho)
      have hzl : zs.length ≤ 1000000 := by
        have h1 : zs.length = xs.length := by rw [← hz1, List.length_map]
        have h2 := hch.1
        have h3 := chOf_len x
        have h4 := hxp.length_eq
        omega
      obtain ⟨A1, c1, rfl⟩ := ho2.form
      (repeat (first | refine Jc ?_ | (apply s_call; (case hg => rfl); (case hd => rfl); (case ha => rfl); (case hc => exact sortC_con ho2 hzl); (case hL => (repeat (first | exact pm_nil _ | exact pm_refl _ _ | exact pm_self _ | apply pm_cons | apply pm_app))); rintro S7 L7 _ hle7 ⟨rfl, rfl, zs2, hzp, hzs, ho3⟩) | refine Jo ?_ | intro _))
      exact o_ret2m (L' := L7) (L1 := L7 ++ [(x2, mapGO (iE es2)), (b10, .cells [.slice A1 zs.length c1].toArray 39 (0, 0))]) Tryz.results15 rfl rfl rfl (pmc (fun p => by (repeat (first | rw [List.countP_append] | rw [List.countP_cons] | rw [List.countP_nil])); (all_goals (first | rfl | omega)))) (List.sublist_append_left _ _) ⟨((hle2.trans hle3).trans hle5).trans hle, _, _, rfl, .inr ⟨⟨h1, h2⟩, rfl, _, _, ows_chx.1 ho3, chl_of zs2, chs_of hWe hPe (fun p _ => by rw [hd, hwe]) hxp ((hzp.map ChX.y).trans (by rw [hz2])) (List.pairwise_map.2 hzs)⟩⟩
end Go.Proofs.YtcnfchchanlepaaGreat
namespace Go.Proofs.YtcnfchchanlepaaGreat
open Go Go.X
theorem exA_gt : GT (wS exL [exY1, exY2]) exA := fold_gt exL_ok exS12 exA_can
theorem exB_gt : GT (wS exL [exY1, exY2, exY3]) exB := fold_gt exL_ok exS exB_can
theorem exC_gt : GT (wS exL [exY3]) exC := fold_gt exL_ok exS3 exC_can
theorem exA_fold {v : Value} {ec : Int} {L' : Blocks} (h : FoldR exL [exY1, exY2] v ec L') : ec = 0 ∧ Ows 51 v exNA L' := exNA_eq ▸ fold_ok exL_ok exS12 exA_gt h
theorem exB_fold {v : Value} {ec : Int} {L' : Blocks} (h : FoldR exL [exY1, exY2, exY3] v ec L') : ec = 0 ∧ Ows 51 v exNB L' := exNB_eq ▸ fold_ok exL_ok exS exB_gt h
theorem exC_fold {v : Value} {ec : Int} {L' : Blocks} (h : FoldR exL [exY3] v ec L') : ec = 0 ∧ Ows 51 v exNC L' := exNC_eq ▸ fold_ok exL_ok exS3 exC_gt h
theorem ex_sum (p : List Bs) : wS exL [exY1, exY2, exY3] p = wS exL [exY1, exY2] p + wS exL [exY3] p := wS_app [exY1, exY2] [exY3] p
theorem exAC_comb {v : Value} {ec : Int} {L' : Blocks} (h : CombR 1 exNA exNC v ec L') : ec = 0 ∧ Ows 51 v exNB L' := by
  rw [← exNA_eq, ← exNC_eq] at h
  rw [← exNB_eq]
  exact comb_ok exA_gt exC_gt (fun p _ => wS_pos exS12 p) (fun p _ => wS_pos exS3 p) exB_gt (fun p _ => wS_pos exS p) (fun p _ => by rw [ex_sum]; omega) h
theorem exBC_comb {v : Value} {ec : Int} {L' : Blocks} (h : CombR (-1) exNB exNC v ec L') : ec = 0 ∧ Ows 51 v exNA L' := by
  rw [← exNB_eq, ← exNC_eq] at h
  rw [← exNA_eq]
  exact comb_ok exB_gt exC_gt (fun p _ => wS_pos exS p) (fun p _ => wS_pos exS3 p) exA_gt (fun p _ => wS_pos exS12 p) (fun p _ => by rw [ex_sum]; omega) h
theorem exAC_no {v : Value} {ec : Int} {L' : Blocks} (h : CombR (-1) exNA exNC v ec L') : ec = 180 ∧ v = .slice none 0 0 ∧ L' = [] := by
  rw [← exNA_eq, ← exNC_eq] at h
  exact comb_no exA_gt exC_gt (fun p _ => wS_pos exS12 p) (fun p _ => wS_pos exS3 p) (p := [[109, 97, 105, 110], [63]]) ⟨by decide, by decide⟩ (by
    rw [show wS exL [exY1, exY2] [[109, 97, 105, 110], [63]] = 0 by kernel_rfl, show wS exL [exY3] [[109, 97, 105, 110], [63]] = 2 by kernel_rfl]; decide) h
theorem exAB_diff {S : SH} {v : Value} {ec : Int} {L' : Blocks} (h : DiffR exNA exNB S v ec L') : ec = 0 ∧ ∃ xs, Ows 54 v xs L' ∧ ChL S xs exCh := by
  rw [← exNA_eq, ← exNB_eq] at h
  rcases h with ⟨h, _⟩ | ⟨_, h1, xs, ch, h2, h3, h4⟩
  · exact absurd ⟨validB_C exA_gt, validB_C exB_gt⟩ h
  · have e := Chs.eq h4 (ex_diff fun p hp => by rw [wT_total exB_gt hp, wT_total exA_gt hp]) fun _ _ => rfl
    subst e
    exact ⟨h1, xs, h2, h3⟩
theorem exNA_valid : validB exNA = true := exNA_eq ▸ validB_C exA_gt
theorem exNil_valid : validB [] = false := by decide
set_option maxRecDepth 10000
set_option linter.unusedVariables false
attribute [local irreducible] Code.wpIn wpListIn Exit.then Exit.inBlock X.Out X.Back X.W X.Ev X.Con X.BinV X.Wh X.Wn X.Wq
set_option maxHeartbeats 3200000 in
theorem sane_con (S : SH) : Con Tryz.prog 4 #[] S [] (fun S' L' r => L' = [] ∧ r = .bool true) := by
  refine con_of (args := []) Tryz.func4 rfl Tryz.ntmps4 rfl fun w => ?_
  (repeat (first | refine Jc ?_ | (apply s_evb; (case hg => rfl); (case hd => rfl); (case hn => rfl); (case he => (apply ev_buildS; (case hp => rfl); (case hz => rfl); (case h1 => rfl); (case hr => rfl)))) | (apply s_evb; (case hg => rfl); (case hd => rfl); (case hn => rfl); (case he => ((apply ev_slice_hi0; (case hx => rfl); (case hy => rfl); (case hj => decide))))) | refine Jo ?_ | intro _))
  rename_i bs f1 f2 f3 bk
  refine W.freeze fun S1 l1 q1 => W.freeze fun S2 l2 q2 => W.freeze fun S3 l3 q3 => W.freeze fun S4 l4 q4 => W.freeze fun S5 l5 q5 => ?_
  have hS : At S5 (some ⟨bs, 0, none⟩) exL := fun _ => ⟨_, rfl, pts_block q5 rfl⟩
  obtain ⟨x1, hx1⟩ : ∃ x1 : Stk, x1 = ⟨1, ⟨some ⟨f1, 0, none⟩, 2, 2⟩, 4⟩ := ⟨_, rfl⟩
  obtain ⟨x2, hx2⟩ : ∃ x2 : Stk, x2 = ⟨1, ⟨some ⟨f2, 0, none⟩, 1, 1⟩, 1⟩ := ⟨_, rfl⟩
  obtain ⟨x3, hx3⟩ : ∃ x3 : Stk, x3 = ⟨2, ⟨some ⟨f3, 0, none⟩, 2, 2⟩, 2⟩ := ⟨_, rfl⟩
  have hK : At S5 (some ⟨bk, 0, none⟩) [x1, x2, x3] := fun _ => ⟨_, rfl, pts_block (l5 _ _ (l4 _ _ (l3 _ _ (l2 _ _ q1)))) (by subst hx1; subst hx2; subst hx3; rfl)⟩
  have r1 : skR S5 x1 exY1 := by subst hx1; exact ⟨rfl, rfl, rfl, Nat.le_refl _, fun _ => ⟨_, rfl, pts_block (l5 _ _ q4) rfl⟩⟩
  have r2 : skR S5 x2 exY2 := by subst hx2; exact ⟨rfl, rfl, rfl, Nat.le_refl _, fun _ => ⟨_, rfl, pts_block (l5 _ _ (l4 _ _ q3)) rfl⟩⟩
  have r3 : skR S5 x3 exY3 := by subst hx3; exact ⟨rfl, rfl, rfl, Nat.le_refl _, fun _ => ⟨_, rfl, pts_block (l5 _ _ (l4 _ _ (l3 _ _ q2))) rfl⟩⟩
  have k12 : SkL S5 [x1, x2] [exY1, exY2] := ((SkL.nil S5).snoc r1).snoc r2
  have k123 : SkL S5 [x1, x2, x3] [exY1, exY2, exY3] := k12.snoc r3
  have k3 : SkL S5 [x3] [exY3] := (SkL.nil S5).snoc r3
  have hK2 : At S5 (some ⟨bk, 0, none⟩) [x1, x2] := fun _ => by
    obtain ⟨p, e, hp⟩ := hK (by simp)
    exact ⟨p, e, pts_pre hp (by rw [show ([x1, x2, x3] : List Stk) = [x1, x2] ++ [x3] from rfl, cellsOf_append]; exact List.prefix_append _ _)⟩
  refine W.trim (F' := [(0, .bool false), (1, .slice (some ⟨bs, 0, none⟩) 3 3), (2, .slice (some ⟨bk, 0, none⟩) 3 3), (31, .slice (some ⟨bs, 0, none⟩) 3 3), (33, .slice (some ⟨bk, 0, none⟩) 2 3)]) (L' := []) sbF sbL ?_
  (repeat (first | refine Jc ?_ | ((apply s_call; (case hg => rfl); (case hd => rfl); (case ha => rfl); (case hc => exact fold_con exL [x1, x2] [exY1, exY2] _ _ 3 3 _ hS (by decide) hK2 (show 2 ≤ 1000000 by decide) k12); (case hL => (repeat (first | exact pm_nil _ | exact pm_refl _ _ | exact pm_self _ | apply pm_cons | apply pm_app))); rintro S6 L6 _ h6 ⟨v6, ec6, rfl, hr6⟩); obtain ⟨rfl, ho6⟩ := exA_fold hr6; refine W.freezeOws ho6 (List.Perm.refl _) fun S7 h7 hs7 => ?_; obtain ⟨Aa, ca, rfl, hca, hAa⟩ := hs7) | refine Jo ?_ | intro _))
  rename_i b3
  have hS7 := (hS.le h6).le h7
  have hK7 := (hK.le h6).le h7
  have k7 := (k123.le h6).le h7
  (repeat (first | refine Jc ?_ | ((apply s_call; (case hg => rfl); (case hd => rfl); (case ha => rfl); (case hc => exact fold_con exL [x1, x2, x3] [exY1, exY2, exY3] _ _ 3 3 _ hS7 (by decide) hK7 (show 3 ≤ 1000000 by decide) k7); (case hL => (repeat (first | exact pm_nil _ | exact pm_refl _ _ | exact pm_self _ | apply pm_cons | apply pm_app))); rintro S8 L8 _ h8 ⟨v8, ec8, rfl, hr8⟩); obtain ⟨rfl, ho8⟩ := exB_fold hr8; refine W.freezeOws ho8 (List.Perm.refl _) fun S9 h9 hs9 => ?_; obtain ⟨Ab, cb, rfl, hcb, hAb⟩ := hs9) | refine Jo ?_ | intro _))
  rename_i b5
  have hS9 := (hS7.le h8).le h9
  have hK9 := (hK7.le h8).le h9
  have k9 := (k3.le ((h6.trans h7).trans h8)).le h9
  have hA9 := (hAa.le h8).le h9
  (repeat (first | refine Jc ?_ | (apply s_slice_lo hK9; (case hg => rfl); (case hd => rfl); (case hx => rfl); (case hy => rfl); (case hm => rfl); (case hmc => exact (show 3 ≤ 3 by decide)); (case hj => exact (show 2 ≤ 3 by decide)); intro A10 hA10) | ((apply s_call; (case hg => rfl); (case hd => rfl); (case ha => rfl); (case hc => exact fold_con exL [x3] [exY3] _ _ 3 1 _ hS9 (by decide) hA10 (show 1 ≤ 1000000 by decide) k9); (case hL => (repeat (first | exact pm_nil _ | exact pm_refl _ _ | exact pm_self _ | apply pm_cons | apply pm_app))); rintro S10 L10 _ h10 ⟨v10, ec10, rfl, hr10⟩); obtain ⟨rfl, ho10⟩ := exC_fold hr10; refine W.freezeOws ho10 (List.Perm.refl _) fun S11 h11 hs11 => ?_; obtain ⟨Ac, cc, rfl, hcc, hAc⟩ := hs11) | refine Jo ?_ | intro _))
  rename_i b7
  have hA11 := (hA9.le h10).le h11
  have hB11 := (hAb.le h10).le h11
  (repeat (first | refine Jc ?_ | ((apply s_call; (case hg => rfl); (case hd => rfl); (case ha => rfl); (case hc => exact diff_con exNA exNB _ _ _ _ _ hA11 hB11 (by decide) (by decide)); (case hL => (repeat (first | exact pm_nil _ | exact pm_refl _ _ | exact pm_self _ | apply pm_cons | apply pm_app))); rintro S12 L12 _ h12 ⟨-, v12, ec12, rfl, hr12⟩); obtain ⟨rfl, xs, ho12, hch12⟩ := exAB_diff hr12; refine W.freezeOws ho12 (List.Perm.refl _) fun S13 h13 hs13 => ?_; obtain ⟨Ad, cd, rfl, hcd, hAd⟩ := hs13) | refine Jo ?_ | intro _))
  have hA13 := (hA11.le h12).le h13
  have hB13 := (hB11.le h12).le h13
  have hC13 := (hAc.le h12).le h13
  (repeat (first | refine Jc ?_ | ((apply s_call; (case hg => rfl); (case hd => rfl); (case ha => rfl); (case hc => exact merge_con exNA exNC _ _ _ _ _ hA13 hC13 (by decide) (by decide)); (case hL => (repeat (first | exact pm_nil _ | exact pm_refl _ _ | exact pm_self _ | apply pm_cons | apply pm_app))); rintro S14 L14 _ h14 ⟨v14, ec14, rfl, hr14⟩); obtain ⟨rfl, ho14⟩ := exAC_comb hr14; refine W.freezeOws ho14 (List.Perm.refl _) fun S15 h15 hs15 => ?_; obtain ⟨Am, cm, rfl, hcm, hAm⟩ := hs15) | refine Jo ?_ | intro _))
  rename_i b11
  have hA15 := (hA13.le h14).le h15
  have hB15 := (hB13.le h14).le h15
  have hC15 := (hC13.le h14).le h15
  (repeat (first | refine Jc ?_ | ((apply s_call; (case hg => rfl); (case hd => rfl); (case ha => rfl); (case hc => exact sub_con exNB exNC _ _ _ _ _ hB15 hC15 (by decide) (by decide)); (case hL => (repeat (first | exact pm_nil _ | exact pm_refl _ _ | exact pm_self _ | apply pm_cons | apply pm_app))); rintro S16 L16 _ h16 ⟨v16, ec16, rfl, hr16⟩); obtain ⟨rfl, ho16⟩ := exBC_comb hr16; refine W.freezeOws ho16 (List.Perm.refl _) fun S17 h17 hs17 => ?_; obtain ⟨As, cs, rfl, hcs, hAs⟩ := hs17) | refine Jo ?_ | intro _))
  rename_i b13
  have hA17 := (hA15.le h16).le h17
  have hB17 := (hB15.le h16).le h17
  have hC17 := (hC15.le h16).le h17
  have hm17 := (hAm.le h16).le h17
  have hd17 := (((hAd.le h14).le h15).le h16).le h17
  have hch17 := ((((hch12.le h13).le h14).le h15).le h16).le h17
  have e1 : exNA.length = 3 := rfl
  have e2 : exNB.length = 4 := rfl
  have e3 : xs.length = 3 := hch17.1
  obtain ⟨g0, hg0⟩ := at_lt (l := xs) (k := 0) (by omega)
  obtain ⟨g2, hg2⟩ := at_lt (l := xs) (k := 2) (by omega)
  have r0 := hch17.2 0 g0 _ hg0 rfl
  have r2 := hch17.2 2 g2 _ hg2 rfl
  have m0 : g0.path.m = 0 := r0.2.1
  have m2 : g2.path.m = 2 := r2.2.1
  have n0 : g0.by_ = 2 := r0.1
  (repeat (first | refine Jc ?_ | ((apply s_call; (case hg => rfl); (case hd => rfl); (case ha => rfl); (case hc => exact sub_con exNA exNC _ _ _ _ _ hA17 hC17 (by decide) (by decide)); (case hL => (repeat (first | exact pm_nil _ | exact pm_refl _ _ | exact pm_self _ | apply pm_cons | apply pm_app))); rintro S18 L18 _ h18 ⟨v18, ec18, rfl, hr18⟩); obtain ⟨rfl, rfl, rfl⟩ := exAC_no hr18) | refine Jo ?_ | intro _))
  have hA18 := hA17.le h18
  have hB18 := hB17.le h18
  have hM18 := hm17.le h18
  have hs18 := hAs.le h18
  have hd18 := hd17.le h18
  have z0 : exNA[0]? = some ⟨-1, [], 0, 5⟩ := rfl
  have z1 : exNA[1]? = some ⟨0, [109, 97, 105, 110], 1, 5⟩ := rfl
  have z2 : exNA[2]? = some ⟨1, [114, 101, 97, 100], 4, 4⟩ := rfl
  have y1 : exNB[1]? = some ⟨0, [109, 97, 105, 110], 1, 7⟩ := rfl
  have y2 : exNB[2]? = some ⟨1, [63], 2, 2⟩ := rfl
  have hvA := fun S (h : At S Aa exNA) => valid_con exNA Aa ca S h (by decide)
  rw [exNA_valid] at hvA
  have hvN := fun S => valid_con [] none 0 S (At.nil _ _) (by decide)
  rw [exNil_valid] at hvN
  (repeat (first | refine Jc ?_ | (apply s_evb; (case hg => rfl); (case hd => rfl); (case hn => rfl); (case he => (apply ev_buildS; (case hp => rfl); (case hz => rfl); (case h1 => rfl); (case hr => rfl)))) | (apply s_idx hA18; (case hg => rfl); (case hd => rfl); (case hx => rfl); (case hi => rfl); (case hm => rfl); (case hu => exact z0); intro q (hq : Pts _ q [.int .i64 (-1), strV [], .int .i64 0, .int .i64 5])) | (apply s_idx hA18; (case hg => rfl); (case hd => rfl); (case hx => rfl); (case hi => rfl); (case hm => rfl); (case hu => exact z1); intro q (hq : Pts _ q [.int .i64 0, strV [109, 97, 105, 110], .int .i64 1, .int .i64 5])) | (apply s_idx hA18; (case hg => rfl); (case hd => rfl); (case hx => rfl); (case hi => rfl); (case hm => rfl); (case hu => exact z2); intro q (hq : Pts _ q [.int .i64 1, strV [114, 101, 97, 100], .int .i64 4, .int .i64 4])) | (apply s_idx hB18; (case hg => rfl); (case hd => rfl); (case hx => rfl); (case hi => rfl); (case hm => rfl); (case hu => exact y1); intro q (hq : Pts _ q [.int .i64 0, strV [109, 97, 105, 110], .int .i64 1, .int .i64 7])) | (apply s_idx hB18; (case hg => rfl); (case hd => rfl); (case hx => rfl); (case hi => rfl); (case hm => rfl); (case hu => exact y2); intro q (hq : Pts _ q [.int .i64 1, strV [63], .int .i64 2, .int .i64 2])) | (apply s_idx hd18; (case hg => rfl); (case hd => rfl); (case hx => rfl); (case hi => rfl); (case hm => rfl); (case hu => exact hg0); intro q (hq : Pts _ q [.slice g0.path.a g0.path.m g0.path.c, .int .i64 g0.by_])) | (apply s_idx hd18; (case hg => rfl); (case hd => rfl); (case hx => rfl); (case hi => rfl); (case hm => rfl); (case hu => exact hg2); intro q (hq : Pts _ q [.slice g2.path.a g2.path.m g2.path.c, .int .i64 g2.by_])) | (apply s_load_f; (case hg => rfl); (case hd => rfl); (case hx => rfl); (case h => exact hq); (case hv => rfl)) | (apply s_load_ag; (case hg => rfl); (case hd => rfl); (case hx => rfl); (case hv => exact hq); (case hl => rfl)) | (apply s_evb; (case hg => rfl); (case hd => rfl); (case hn => rfl); (case he => ((apply ev_eql4 (p := -1) (s := []) (o := 0) (u := 5) (p' := -1) (s' := []) (o' := 0) (u' := 5) (r := true); (case hx => rfl); (case hy => rfl); (case hr => decide))))) | (apply s_evb; (case hg => rfl); (case hd => rfl); (case hn => rfl); (case he => ((apply ev_eql4 (p := 0) (s := [109, 97, 105, 110]) (o := 1) (u := 5) (p' := 0) (s' := [109, 97, 105, 110]) (o' := 1) (u' := 5) (r := true); (case hx => rfl); (case hy => rfl); (case hr => decide))))) | (apply s_evb; (case hg => rfl); (case hd => rfl); (case hn => rfl); (case he => ((apply ev_eql4 (p := 1) (s := [114, 101, 97, 100]) (o := 4) (u := 4) (p' := 1) (s' := [114, 101, 97, 100]) (o' := 4) (u' := 4) (r := true); (case hx => rfl); (case hy => rfl); (case hr => decide))))) | (apply s_evb; (case hg => rfl); (case hd => rfl); (case hn => rfl); (case he => ((apply ev_eql4 (p := 1) (s := [63]) (o := 2) (u := 2) (p' := 1) (s' := [63]) (o' := 2) (u' := 2) (r := true); (case hx => rfl); (case hy => rfl); (case hr => decide))))) | ((apply s_call; (case hg => rfl); (case hd => rfl); (case ha => rfl); (case hc => exact same_con exNB exNB _ _ _ _ _ hM18 hB18 (by decide) (by decide) true ⟨fun _ => rfl, fun _ => rfl⟩); (case hL => (repeat (first | exact pm_nil _ | exact pm_refl _ _ | exact pm_self _ | apply pm_cons | apply pm_app))); rintro _ _ _ - ⟨rfl, rfl, rfl⟩)) | ((apply s_call; (case hg => rfl); (case hd => rfl); (case ha => rfl); (case hc => exact same_con exNA exNA _ _ _ _ _ hs18 hA18 (by decide) (by decide) true ⟨fun _ => rfl, fun _ => rfl⟩); (case hL => (repeat (first | exact pm_nil _ | exact pm_refl _ _ | exact pm_self _ | apply pm_cons | apply pm_app))); rintro _ _ _ - ⟨rfl, rfl, rfl⟩)) | refine Jo ?_ | intro _))
  (repeat (first | refine Jc ?_ | ((apply s_call; (case hg => rfl); (case hd => rfl); (case ha => rfl); (case hc => exact hvA _ hA18); (case hL => (repeat (first | exact pm_nil _ | exact pm_refl _ _ | exact pm_self _ | apply pm_cons | apply pm_app))); rintro S19 _ _ h19 ⟨rfl, rfl⟩)) | ((apply s_call; (case hg => rfl); (case hd => rfl); (case ha => rfl); (case hc => exact hvN _); (case hL => (repeat (first | exact pm_nil _ | exact pm_refl _ _ | exact pm_self _ | apply pm_cons | apply pm_app))); rintro S20 _ _ h20 ⟨rfl, rfl⟩)) | (apply s_evb; (case hg => rfl); (case hd => rfl); (case hn => rfl); (case he => (apply ev_buildS; (case hp => rfl); (case hz => rfl); (case h1 => rfl); (case hr => rfl)))) | refine Jo ?_ | intro _))
  have hA20 := (hA18.le h19).le h20
  have hB20 := (hB18.le h19).le h20
  (repeat (first | refine Jc ?_ | ((apply s_call; (case hg => rfl); (case hd => rfl); (case ha => rfl); (case hc => exact same_con exNA exNB _ _ _ _ _ hA20 hB20 (by decide) (by decide) false ⟨fun h => absurd h Bool.false_ne_true, fun h => absurd (congrArg List.length h) (by decide)⟩); (case hL => (repeat (first | exact pm_nil _ | exact pm_refl _ _ | exact pm_self _ | apply pm_cons | apply pm_app))); rintro _ _ _ - ⟨rfl, rfl, rfl⟩)) | refine Jo ?_ | intro _))
  exact o_ret (L' := []) Tryz.results4 rfl (List.nil_sublist _) ⟨rfl, rfl⟩
end Go.Proofs.YtcnfchchanlepaaGreat
namespace Go.Proofs.YtcnfchchanlepaaGreat
open Go Go.X
/-- The nodes of the tree of stacks. -/
def Gd (l : List Sym) (ys : List Sk) : Prop := SymsOk l ∧ sksB ys = true
open Classical in
noncomputable def mF (l : List Sym) (ys : List Sk) : List (List Bs) := if h : Gd l ys then (fold_ex h.1 h.2).choose else [[]]
noncomputable def nF (l : List Sym) (ys : List Sk) : List Nd := nodesC (wS l ys) (mF l ys)
section
variable {l : List Sym} {ys zs : List Sk}
theorem mF_gt (h : Gd l ys) : GT (wS l ys) (mF l ys) := by
  unfold mF
  rw [dif_pos h]
  exact (fold_ex h.1 h.2).choose_spec
theorem nF_eq (h : Gd l ys) {w : List Bs → Int} {M : List (List Bs)} (hM : Can w M) (hw : ∀ p, VQ p → w p = wS l ys p) : nF l ys = nodesC w M := GT.uniq (fun p hp => (hw p hp).symm) (mF_gt h).can hM
theorem Gd.app (h : Gd l ys) (k : Gd l zs) (hl : ys.length + zs.length ≤ 100) : Gd l (ys ++ zs) := ⟨h.1, sks_app h.2 k.2 hl⟩
end
theorem SkL.app {S : SH} {xs xs2 : List Stk} {ys ys2 : List Sk} (h : SkL S xs ys) (k : SkL S xs2 ys2) : SkL S (xs ++ xs2) (ys ++ ys2) := by
  refine ⟨by rw [List.length_append, List.length_append, h.1, k.1], fun i x' y' h1 h2 => ?_⟩
  by_cases hi : i < xs.length
  · rw [List.getElem?_append_left hi] at h1
    rw [List.getElem?_append_left (by rw [← h.1]; exact hi)] at h2
    exact h.2 i x' y' h1 h2
  · rw [List.getElem?_append_right (by omega)] at h1
    rw [List.getElem?_append_right (by rw [← h.1]; omega)] at h2
    rw [← h.1] at h2
    exact k.2 _ x' y' h1 h2
theorem gdT (xs : List A3) (ls : List A6) : Gd (tableF xs) (madeF ls) := ⟨tableF_ok xs, madeF_ok ls⟩
end Go.Proofs.YtcnfchchanlepaaGreat
namespace Go.Proofs.YtcnfchchanlepaaGreat
open Go Go.X
/-- The name of an address, as the reference implementation finds it: the last symbol that fits. -/
def rnStep (v a : Int) (nm : Bs) (s : Sym) : Bs := if symB v a s = true then s.name else nm
def rnamed (l : List Sym) (v a : Int) : Bs := l.foldl (rnStep v a) [63]
theorem symB_iff {v a : Int} {s : Sym} : symB v a s = true ↔ s.version = v ∧ s.from_ ≤ a ∧ a < s.to := by
  unfold symB
  simp only [Bool.and_eq_true, decide_eq_true_eq]
  exact ⟨fun h => ⟨h.1.1, h.1.2, h.2⟩, fun h => ⟨⟨h.1, h.2.1⟩, h.2.2⟩⟩
theorem pairI_le {p s : Sym} (h : ¬ 0 < pairI p s) : p.version < s.version ∨ p.version = s.version ∧ p.to ≤ s.from_ := by
  rcases Int.lt_trichotomy p.version s.version with h1 | h1 | h1
  · exact .inl h1
  · refine .inr ⟨h1, ?_⟩
    by_cases h2 : p.to ≤ s.from_
    · exact h2
    · have e1 : cmpI p.version s.version = 0 := by unfold cmpI; rw [if_neg (by omega), if_neg (by omega)]
      have e2 : cmpI p.to s.from_ = 1 := by unfold cmpI; rw [if_neg (by omega), if_pos (by omega)]
      exact absurd (by unfold pairI; simp [orI, e1, e2]) h
  · have e1 : cmpI p.version s.version = 1 := by unfold cmpI; rw [if_neg (by omega), if_pos (by omega)]
    exact absurd (by unfold pairI; simp [orI, e1]) h
theorem sym_at {l : List Sym} (h : SymsOk l) {i : Nat} {s : Sym} (hs : l[i]? = some s) : symOk s ∧ ∀ p, 0 < i → l[i - 1]? = some p → ¬ 0 < pairI p s := h.1 i s (List.getElem?_eq_some_iff.1 hs).1 hs
theorem sym_lt {s : Sym} (h : symOk s) : s.from_ < s.to := by
  have := h.2.2.1
  unfold inB at this
  simp only [decide_eq_true_eq] at this
  omega
theorem sym_mono {l : List Sym} (h : SymsOk l) {i : Nat} {a : Sym} (ha : l[i]? = some a) : ∀ (k : Nat) (b : Sym), l[i + 1 + k]? = some b → a.version < b.version ∨ a.version = b.version ∧ a.to ≤ b.from_
  | 0, b, hb => pairI_le ((sym_at h hb).2 a (Nat.succ_pos i) (by simpa using ha))
  | k + 1, b, hb => by
    obtain ⟨c, hc⟩ := at_lt (l := l) (k := i + 1 + k) (by have := (List.getElem?_eq_some_iff.1 hb).1; omega)
    have h1 := sym_mono h ha k c hc
    have h2 := pairI_le ((sym_at h hb).2 c (by omega) (by rw [show i + 1 + (k + 1) - 1 = i + 1 + k by omega]; exact hc))
    have h3 := sym_lt (sym_at h hc).1
    omega
theorem sym_one {l : List Sym} (h : SymsOk l) (v a : Int) : l.Pairwise fun x y => ¬ (symB v a x = true ∧ symB v a y = true) := by
  rw [List.pairwise_iff_getElem]
  intro i j hi hj hij ⟨h1, h2⟩
  obtain ⟨k, rfl⟩ : ∃ k, j = i + 1 + k := ⟨j - (i + 1), by omega⟩
  have hm := sym_mono h (List.getElem?_eq_getElem hi) k _ (List.getElem?_eq_getElem hj)
  rw [symB_iff] at h1 h2
  omega
theorem rn_fold (v a : Int) : ∀ (l : List Sym) (nm : Bs), (l.Pairwise fun x y => ¬ (symB v a x = true ∧ symB v a y = true)) → l.foldl (rnStep v a) nm = match l.find? (symB v a) with | some s => s.name | none => nm
  | [], _, _ => rfl
  | s :: r, nm, h => by
    obtain ⟨h1, h2⟩ := List.pairwise_cons.1 h
    rw [List.foldl_cons, rn_fold v a r _ h2, List.find?_cons]
    cases hs : symB v a s with
    | false =>
      have e : rnStep v a nm s = nm := by unfold rnStep; rw [hs, if_neg (by decide)]
      rw [e]
    | true =>
      have e : rnStep v a nm s = s.name := by unfold rnStep; rw [hs, if_pos rfl]
      have hn : r.find? (symB v a) = none := List.find?_eq_none.2 fun x hx hpx => h1 x hx ⟨hs, hpx⟩
      rw [e, hn]
theorem rnamed_eq {l : List Sym} (h : SymsOk l) (v a : Int) : rnamed l v a = namedV l v a := rn_fold v a l [63] (sym_one h v a)
set_option maxRecDepth 10000
set_option linter.unusedVariables false
attribute [local irreducible] Code.wpIn wpListIn Exit.then Exit.inBlock X.Out X.Back X.W X.Ev X.Con X.BinV X.Wh X.Wn X.Wq
set_option maxHeartbeats 1600000 in
theorem rPath_con (l : List Sym) (A : Option Addr) (c : Nat) (v : Int) (fr : List Int) (B : Option Addr) (d : Nat) (wt : Int) (S : SH) (hA : At S A l) (hl : l.length ≤ 1000000) (hB : At S B fr) (hf : fr.length ≤ 1000000) :
    Con Tryz.prog 24 #[.slice A l.length c, .agg #[.int .i64 v, .slice B fr.length d, .int .i64 wt]] S [] (fun S' L' r => S' = S ∧ Ows 9 r (toS (fr.map (rnamed l v))) L') := by
  refine con_of (args := [.slice A l.length c, .agg #[.int .i64 v, .slice B fr.length d, .int .i64 wt]]) Tryz.func24 rfl Tryz.ntmps24 rfl fun w => ?_
  (repeat (first | refine Jz ?_ | intro _))
  rename_i b3
  refine c_loop (fun m S' L F => S' = S ∧ ∃ (k : Nat) (v1 : Value) (ob : Blocks), m = fr.length - k ∧ k ≤ fr.length ∧ Ows 9 v1 (toS ((fr.take k).map (rnamed l v))) ob ∧
      L = ob ++ [(b3, .cells [.int .i64 v, .slice B fr.length d, .int .i64 wt].toArray 49 (0, 0))] ∧
      F = [(0, .slice A l.length c), (3, .pointer (some ⟨b3, 0, none⟩)), (5, v1), (6, .int .i64 k)]) ⟨rfl, 0, _, [], rfl, by omega, Ows.nil _, rfl, rfl⟩ sbF (List.Sublist.refl _) ?_
  rintro m S' L F ⟨rfl, k, v1, ob, rfl, hk, ho, rfl, rfl⟩
  by_cases hlt : k < fr.length
  rotate_left
  · rw [List.take_of_length_le (by omega)] at ho
    (repeat (first | refine Jz ?_ | intro _))
    exact o_ret (L' := ob) Tryz.results24 rfl (List.sublist_append_left _ _) ⟨rfl, ho⟩
  obtain ⟨a, ha⟩ := at_lt hlt
  (repeat (first | refine Jz ?_ | intro _))
  refine c_loop (fun m S2 L F => S2 = S' ∧ ∃ (j : Nat), m = l.length - j ∧ j ≤ l.length ∧
      L = ob ++ [(b3, .cells [.int .i64 v, .slice B fr.length d, .int .i64 wt].toArray 49 (0, 0))] ∧
      F = [(0, .slice A l.length c), (3, .pointer (some ⟨b3, 0, none⟩)), (5, v1), (6, .int .i64 k), (7, strV ((l.take j).foldl (rnStep v a) [63])), (8, .int .i64 j)]) ⟨rfl, 0, rfl, by omega, rfl, rfl⟩ sbF (List.Sublist.refl _) ?_
  rintro m S2 L F ⟨rfl, j, rfl, hj, rfl, rfl⟩
  by_cases hjl : j < l.length
  rotate_left
  · rw [List.take_of_length_le (by omega)]
    have hkl : (toS ((fr.take k).map (rnamed l v))).length = k := by rw [toS_len]; simp; omega
    have hsn : toS ((fr.take (k + 1)).map (rnamed l v)) = toS ((fr.take k).map (rnamed l v)) ++ [Str.mk (rnamed l v a)] := by rw [take_at ha]; simp [toS]
    obtain ⟨ls, hls⟩ : ∃ ls, ls = toS ((fr.take k).map (rnamed l v)) := ⟨_, rfl⟩
    rw [← hls] at ho hkl hsn
    have hnm : l.foldl (rnStep v a) [63] = (Str.mk (rnamed l v a)).b := rfl
    rw [hnm]
    (repeat (first | refine Jc ?_ | (apply s_append (ms := [Str.mk (rnamed l v a)]); (case hg => rfl); (case hd => rfl); (case hx => rfl); (case ho => exact ho); (case hL => (repeat (first | exact pm_nil _ | exact pm_refl _ _ | exact pm_self _ | apply pm_cons | apply pm_app))); (case hy => rfl); (case hm => rfl); (case hs => (apply Src.own; (repeat (first | exact List.Mem.head _ | apply List.Mem.tail | apply List.mem_append_right)))); (case hzs => rfl); (case h0 => decide); (case hb => (simp; omega)); (case h63 => (simp; omega)); intro v' ob' ho') | refine Jo ?_ | intro _))
    rw [← hsn] at ho'
    exact q_back (L' := ob' ++ [(b3, .cells [.int .i64 v, .slice B fr.length d, .int .i64 wt].toArray 49 (0, 0))]) (m' := fr.length - (k + 1)) ⟨rfl, k + 1, v', ob', rfl, by omega, ho', rfl, rfl⟩ (by omega) sbF sbL
  obtain ⟨s, hs⟩ := at_lt hjl
  have hfo : (l.take (j + 1)).foldl (rnStep v a) [63] = rnStep v a ((l.take j).foldl (rnStep v a) [63]) s := by rw [take_at hs, List.foldl_append]; rfl
  generalize (l.take j).foldl (rnStep v a) [63] = nm at hfo
  by_cases h1 : s.version = v
  · by_cases h2 : s.from_ ≤ a
    · by_cases h3 : a < s.to
      · have e : rnStep v a nm s = s.name := by unfold rnStep; rw [if_pos (symB_iff.2 ⟨h1, h2, h3⟩)]
        rw [e] at hfo
        (repeat (first | refine Jz ?_ | intro _))
        (repeat (first | (apply q_idx hA; (case hg => rfl); (case hd => rfl); (case hx => rfl); (case hi => rfl); (case hm => rfl); (case hu => exact hs); intro q (hq : Pts _ q [.int .i64 s.version, .int .i64 s.from_, .int .i64 s.to, strV s.name])) | (apply q_idx hB; (case hg => rfl); (case hd => rfl); (case hx => rfl); (case hi => rfl); (case hm => rfl); (case hu => exact ha); intro q2 (hq2 : Pts _ q2 [.int .i64 a])) | (apply q_ev; (case hg => rfl); (case hd => rfl); (case he => (apply ev_load_f; (case hx => rfl); (case h => exact hq); (case hv => rfl)))) | (apply q_ev; (case hg => rfl); (case hd => rfl); (case he => (apply ev_load1; (case hx => rfl); (case h => exact hq2)))) | refine Jd ?_))
        (repeat (first | refine Jc ?_ | (apply s_idx hA; (case hg => rfl); (case hd => rfl); (case hx => rfl); (case hi => rfl); (case hm => rfl); (case hu => exact hs); intro q3 (hq3 : Pts _ q3 [.int .i64 s.version, .int .i64 s.from_, .int .i64 s.to, strV s.name])) | (apply s_load_f; (case hg => rfl); (case hd => rfl); (case hx => rfl); (case h => exact hq3); (case hv => rfl)) | refine Jo ?_ | intro _))
        exact q_back (L' := ob ++ [(b3, .cells [.int .i64 v, .slice B fr.length d, .int .i64 wt].toArray 49 (0, 0))]) (m' := l.length - (j + 1)) ⟨rfl, j + 1, rfl, by omega, rfl, by rw [hfo]⟩ (by omega) sbF (List.Sublist.refl _)
      · have e : rnStep v a nm s = nm := by unfold rnStep; rw [if_neg fun h => h3 (symB_iff.1 h).2.2]
        rw [e] at hfo
        (repeat (first | refine Jz ?_ | intro _))
        (repeat (first | (apply q_idx hA; (case hg => rfl); (case hd => rfl); (case hx => rfl); (case hi => rfl); (case hm => rfl); (case hu => exact hs); intro q (hq : Pts _ q [.int .i64 s.version, .int .i64 s.from_, .int .i64 s.to, strV s.name])) | (apply q_idx hB; (case hg => rfl); (case hd => rfl); (case hx => rfl); (case hi => rfl); (case hm => rfl); (case hu => exact ha); intro q2 (hq2 : Pts _ q2 [.int .i64 a])) | (apply q_ev; (case hg => rfl); (case hd => rfl); (case he => (apply ev_load_f; (case hx => rfl); (case h => exact hq); (case hv => rfl)))) | (apply q_ev; (case hg => rfl); (case hd => rfl); (case he => (apply ev_load1; (case hx => rfl); (case h => exact hq2)))) | refine Jd ?_))
        (repeat (first | refine Jz ?_ | intro _))
        exact q_back (L' := ob ++ [(b3, .cells [.int .i64 v, .slice B fr.length d, .int .i64 wt].toArray 49 (0, 0))]) (m' := l.length - (j + 1)) ⟨rfl, j + 1, rfl, by omega, rfl, by rw [hfo]⟩ (by omega) sbF (List.Sublist.refl _)
    · have e : rnStep v a nm s = nm := by unfold rnStep; rw [if_neg fun h => h2 (symB_iff.1 h).2.1]
      rw [e] at hfo
      (repeat (first | refine Jz ?_ | intro _))
      (repeat (first | (apply q_idx hA; (case hg => rfl); (case hd => rfl); (case hx => rfl); (case hi => rfl); (case hm => rfl); (case hu => exact hs); intro q (hq : Pts _ q [.int .i64 s.version, .int .i64 s.from_, .int .i64 s.to, strV s.name])) | (apply q_idx hB; (case hg => rfl); (case hd => rfl); (case hx => rfl); (case hi => rfl); (case hm => rfl); (case hu => exact ha); intro q2 (hq2 : Pts _ q2 [.int .i64 a])) | (apply q_ev; (case hg => rfl); (case hd => rfl); (case he => (apply ev_load_f; (case hx => rfl); (case h => exact hq); (case hv => rfl)))) | (apply q_ev; (case hg => rfl); (case hd => rfl); (case he => (apply ev_load1; (case hx => rfl); (case h => exact hq2)))) | refine Jd ?_))
      (repeat (first | refine Jz ?_ | intro _))
      exact q_back (L' := ob ++ [(b3, .cells [.int .i64 v, .slice B fr.length d, .int .i64 wt].toArray 49 (0, 0))]) (m' := l.length - (j + 1)) ⟨rfl, j + 1, rfl, by omega, rfl, by rw [hfo]⟩ (by omega) sbF (List.Sublist.refl _)
  · have e : rnStep v a nm s = nm := by unfold rnStep; rw [if_neg fun h => h1 (symB_iff.1 h).1]
    rw [e] at hfo
    (repeat (first | refine Jz ?_ | intro _))
    (repeat (first | (apply q_idx hA; (case hg => rfl); (case hd => rfl); (case hx => rfl); (case hi => rfl); (case hm => rfl); (case hu => exact hs); intro q (hq : Pts _ q [.int .i64 s.version, .int .i64 s.from_, .int .i64 s.to, strV s.name])) | (apply q_idx hB; (case hg => rfl); (case hd => rfl); (case hx => rfl); (case hi => rfl); (case hm => rfl); (case hu => exact ha); intro q2 (hq2 : Pts _ q2 [.int .i64 a])) | (apply q_ev; (case hg => rfl); (case hd => rfl); (case he => (apply ev_load_f; (case hx => rfl); (case h => exact hq); (case hv => rfl)))) | (apply q_ev; (case hg => rfl); (case hd => rfl); (case he => (apply ev_load1; (case hx => rfl); (case h => exact hq2)))) | refine Jd ?_))
    (repeat (first | refine Jz ?_ | intro _))
    exact q_back (L' := ob ++ [(b3, .cells [.int .i64 v, .slice B fr.length d, .int .i64 wt].toArray 49 (0, 0))]) (m' := l.length - (j + 1)) ⟨rfl, j + 1, rfl, by omega, rfl, by rw [hfo]⟩ (by omega) sbF (List.Sublist.refl _)
end Go.Proofs.YtcnfchchanlepaaGreat
namespace Go.Proofs.YtcnfchchanlepaaGreat
open Go Go.X
/-- Rows of paths, each of them stable. -/
def prR (S : SH) (x : Sv) (p : List Bs) : Prop := x.m = (toS p).length ∧ (toS p).length ≤ x.c ∧ At S x.a (toS p)
def PthL (S : SH) (xs : List Sv) (ps : List (List Bs)) : Prop := xs.length = ps.length ∧ ∀ (i : Nat) (x : Sv) (p : List Bs), xs[i]? = some x → ps[i]? = some p → prR S x p
theorem prR.le {S T : SH} (h : Le S T) {x : Sv} {p : List Bs} (k : prR S x p) : prR T x p := ⟨k.1, k.2.1, k.2.2.le h⟩
theorem PthL.le {S T : SH} (h : Le S T) {xs : List Sv} {ps : List (List Bs)} (k : PthL S xs ps) : PthL T xs ps := ⟨k.1, fun i x p h1 h2 => (k.2 i x p h1 h2).le h⟩
theorem PthL.nil (S : SH) : PthL S [] [] := ⟨rfl, fun i x y h => by simp at h⟩
theorem PthL.snoc {S : SH} {xs : List Sv} {ys : List (List Bs)} {x : Sv} {y : List Bs} (h : PthL S xs ys) (k : prR S x y) : PthL S (xs ++ [x]) (ys ++ [y]) := by
  refine ⟨by rw [List.length_append, List.length_append, h.1]; rfl, fun i x' y' h1 h2 => ?_⟩
  by_cases hi : i < xs.length
  · rw [List.getElem?_append_left hi] at h1
    rw [List.getElem?_append_left (by rw [← h.1]; exact hi)] at h2
    exact h.2 i x' y' h1 h2
  · rw [List.getElem?_append_right (by omega)] at h1
    rw [List.getElem?_append_right (by rw [← h.1]; omega)] at h2
    rw [← h.1] at h2
    cases hj : i - xs.length with
    | zero =>
      rw [hj] at h1 h2
      simp only [List.getElem?_cons_zero, Option.some.injEq] at h1 h2
      subst h1; subst h2; exact k
    | succ j =>
      rw [hj] at h1
      simp at h1
theorem prR_nil (S : SH) : prR S ⟨none, 0, 0⟩ [] := ⟨rfl, Nat.le_refl _, At.nil _ _⟩
/-- The paths as the reference implementation reads them. -/
def rpN (i : Nat) (n : Nd) (ps : List (List Bs)) : Option (List (List Bs)) :=
  if i = 0 then (if n.parent ≠ -1 ∨ n.name ≠ [] then none else some (ps ++ [[]]))
  else if n.parent < 0 ∨ (i : Int) ≤ n.parent then none else some (ps ++ [ps.getD n.parent.toNat [] ++ [n.name]])
def rpA : List Nd → Nat → List (List Bs) → Option (List (List Bs))
  | [], _, ps => some ps
  | n :: r, i, ps => (rpN i n ps).bind fun q => rpA r (i + 1) q
def rpF (ns : List Nd) : Option (List (List Bs)) := rpA ns 0 []
theorem rpA_at {ns : List Nd} {k : Nat} {n : Nd} (h : ns[k]? = some n) (ps : List (List Bs)) : rpA (ns.drop k) k ps = (rpN k n ps).bind fun q => rpA (ns.drop (k + 1)) (k + 1) q := by
  obtain ⟨h1, rfl⟩ := List.getElem?_eq_some_iff.1 h
  rw [List.drop_eq_getElem_cons h1]; rfl
def PathsR (ns : List Nd) (S : SH) (r : Value) (L' : Blocks) : Prop :=
  rpF ns = none ∧ r = .tuple #[.slice none 0 0, .bool false] ∧ L' = [] ∨ ∃ ps v xs, rpF ns = some ps ∧ r = .tuple #[v, .bool true] ∧ Ows 52 v xs L' ∧ PthL S xs ps ∧ ps.length = ns.length
theorem svcell {xs : List Sv} {j : Nat} {x : Sv} (h : xs[j]? = some x) (tl : List Value) : (cellsOf xs ++ tl)[j]? = some (.slice x.a x.m x.c) := by
  have h2 := cellsOf_at xs j x h 0 (.slice x.a x.m x.c) rfl
  have h3 : (cellsOf xs)[j]? = some (.slice x.a x.m x.c) := by
    have e : j * Cl.size Sv + 0 = j := Nat.mul_one j
    rwa [e] at h2
  rw [List.getElem?_append_left (List.getElem?_eq_some_iff.1 h3).1]
  exact h3
set_option maxRecDepth 10000
set_option linter.unusedVariables false
attribute [local irreducible] Code.wpIn wpListIn Exit.then Exit.inBlock X.Out X.Back X.W X.Ev X.Con X.BinV X.Wh X.Wn X.Wq
set_option maxHeartbeats 3200000 in
theorem rPaths_con (ns : List Nd) (A : Option Addr) (c : Nat) (S : SH) (hA : At S A ns) (hl : ns.length ≤ 1000000) :
    Con Tryz.prog 28 #[.agg #[.slice A ns.length c]] S [] (fun S' L' r => Le S S' ∧ PathsR ns S' r L') := by
  refine con_of (args := [.agg #[.slice A ns.length c]]) Tryz.func28 rfl Tryz.ntmps28 rfl fun w => ?_
  (repeat (first | refine Jz ?_ | intro _))
  rename_i b1
  refine c_loop (fun m S' L F => Le S S' ∧ ∃ (k : Nat) (ps : List (List Bs)) (v : Value) (xs : List Sv) (ob : Blocks), m = ns.length - k ∧ k ≤ ns.length ∧ rpA (ns.drop k) k ps = rpF ns ∧ ps.length = k ∧ (∀ p ∈ ps, p.length ≤ k) ∧ Ows 52 v xs ob ∧ PthL S' xs ps ∧
      L = ob ++ [(b1, .cells [.slice A ns.length c].toArray 24 (0, 0))] ∧ F = [(1, .pointer (some ⟨b1, 0, none⟩)), (4, v), (5, .int .i64 k)]) ⟨Le.refl _, 0, [], _, [], [], rfl, by omega, rfl, rfl, (fun p h => absurd h List.not_mem_nil), Ows.nil _, PthL.nil _, rfl, rfl⟩ sbF (List.Sublist.refl _) ?_
  rintro m S1 L F ⟨hle1, k, ps, v, xs, ob, rfl, hk, hrp, hpl, hpk, ho, hpx, rfl, rfl⟩
  have hA1 := hA.le hle1
  by_cases hlt : k < ns.length
  rotate_left
  · have hfin : rpF ns = some ps := by rw [← hrp, List.drop_eq_nil_of_le (by omega)]; rfl
    (repeat (first | refine Jz ?_ | intro _))
    exact o_ret2 (L' := ob) Tryz.results28 rfl rfl sbL ⟨hle1, .inr ⟨ps, v, xs, hfin, rfl, ho, hpx, by omega⟩⟩
  obtain ⟨n, hx⟩ := at_lt hlt
  rw [rpA_at hx] at hrp
  have hxl := hpx.1
  obtain ⟨np, nn, no, nt⟩ := n
  by_cases hk0 : k = 0
  · subst hk0
    by_cases hp1 : np = -1
    rotate_left
    · have hno : rpF ns = none := by rw [← hrp]; unfold rpN; rw [if_pos rfl, if_pos (.inl hp1)]; rfl
      (repeat (first | refine Jc ?_ | (apply s_idx hA1; (case hg => rfl); (case hd => rfl); (case hx => rfl); (case hi => rfl); (case hm => rfl); (case hu => exact hx); intro q (hq : Pts _ q [.int .i64 np, strV nn, .int .i64 no, .int .i64 nt])) | (apply s_load_ag; (case hg => rfl); (case hd => rfl); (case hx => rfl); (case hv => exact hq); (case hl => rfl)) | refine Jo ?_ | intro _))
      exact o_ret2 (L' := []) Tryz.results28 rfl rfl (List.nil_sublist _) ⟨hle1, .inl ⟨hno, rfl, rfl⟩⟩
    cases h4 : nn != []
    rotate_left
    · have hno : rpF ns = none := by rw [← hrp]; unfold rpN; rw [if_pos rfl, if_pos (.inr (by simpa using h4))]; rfl
      (repeat (first | refine Jc ?_ | (apply s_idx hA1; (case hg => rfl); (case hd => rfl); (case hx => rfl); (case hi => rfl); (case hm => rfl); (case hu => exact hx); intro q (hq : Pts _ q [.int .i64 np, strV nn, .int .i64 no, .int .i64 nt])) | (apply s_load_ag; (case hg => rfl); (case hd => rfl); (case hx => rfl); (case hv => exact hq); (case hl => rfl)) | (apply s_evb; (case hg => rfl); (case hd => rfl); (case hn => rfl); (case he => ((apply ev_neq_bv (r := true) (b := []); (case hx => rfl); (case hy => rfl); (case h => exact h4))))) | refine Jo ?_ | intro _))
      exact o_ret2 (L' := []) Tryz.results28 rfl rfl (List.nil_sublist _) ⟨hle1, .inl ⟨hno, rfl, rfl⟩⟩
    have hn0 : nn = [] := by simpa using h4
    have hrp2 : rpA (ns.drop 1) 1 (ps ++ [[]]) = rpF ns := by rw [← hrp]; unfold rpN; rw [if_pos rfl, if_neg (by rintro (h | h); exact h hp1; exact h hn0)]; rfl
    (repeat (first | refine Jc ?_ | (apply s_idx hA1; (case hg => rfl); (case hd => rfl); (case hx => rfl); (case hi => rfl); (case hm => rfl); (case hu => exact hx); intro q (hq : Pts _ q [.int .i64 np, strV nn, .int .i64 no, .int .i64 nt])) | (apply s_load_ag; (case hg => rfl); (case hd => rfl); (case hx => rfl); (case hv => exact hq); (case hl => rfl)) | (apply s_evb; (case hg => rfl); (case hd => rfl); (case hn => rfl); (case he => ((apply ev_neq_bv (r := false) (b := []); (case hx => rfl); (case hy => rfl); (case h => exact h4))))) | (apply s_append (ms := [Sv.mk none 0 0]); (case hg => rfl); (case hd => rfl); (case hx => rfl); (case ho => exact ho); (case hL => (repeat (first | exact pm_nil _ | exact pm_refl _ _ | exact pm_self _ | apply pm_cons | apply pm_app))); (case hy => rfl); (case hm => rfl); (case hs => (apply Src.own; (repeat (first | exact List.Mem.head _ | apply List.Mem.tail | apply List.mem_append_right)))); (case hzs => rfl); (case h0 => decide); (case hb => (simp; omega)); (case h63 => (simp; omega)); intro v' ob' ho') | refine Jo ?_ | intro _))
    exact q_back (L' := ob' ++ [(b1, .cells [.slice A ns.length c].toArray 24 (0, 0))]) (m' := ns.length - (0 + 1)) ⟨hle1, 0 + 1, ps ++ [[]], v', _, ob', rfl, by omega, hrp2, by simp [hpl], (fun p hp => by
      rcases List.mem_append.1 hp with h | h
      · have := hpk p h; omega
      · simp at h; subst h; simp), ho', hpx.snoc (prR_nil _), rfl, rfl⟩ (by omega) sbF sbL
  by_cases hp0 : np < 0
  · have hno : rpF ns = none := by rw [← hrp]; unfold rpN; rw [if_neg hk0, if_pos (.inl hp0)]; rfl
    (repeat (first | refine Jc ?_ | (apply s_idx hA1; (case hg => rfl); (case hd => rfl); (case hx => rfl); (case hi => rfl); (case hm => rfl); (case hu => exact hx); intro q (hq : Pts _ q [.int .i64 np, strV nn, .int .i64 no, .int .i64 nt])) | (apply s_load_ag; (case hg => rfl); (case hd => rfl); (case hx => rfl); (case hv => exact hq); (case hl => rfl)) | refine Jo ?_ | intro _))
    exact o_ret2 (L' := []) Tryz.results28 rfl rfl (List.nil_sublist _) ⟨hle1, .inl ⟨hno, rfl, rfl⟩⟩
  by_cases hpk2 : (k : Int) ≤ np
  · have hno : rpF ns = none := by rw [← hrp]; unfold rpN; rw [if_neg hk0, if_pos (.inr hpk2)]; rfl
    (repeat (first | refine Jc ?_ | (apply s_idx hA1; (case hg => rfl); (case hd => rfl); (case hx => rfl); (case hi => rfl); (case hm => rfl); (case hu => exact hx); intro q (hq : Pts _ q [.int .i64 np, strV nn, .int .i64 no, .int .i64 nt])) | (apply s_load_ag; (case hg => rfl); (case hd => rfl); (case hx => rfl); (case hv => exact hq); (case hl => rfl)) | refine Jo ?_ | intro _))
    exact o_ret2 (L' := []) Tryz.results28 rfl rfl (List.nil_sublist _) ⟨hle1, .inl ⟨hno, rfl, rfl⟩⟩
  obtain ⟨j, rfl⟩ : ∃ j : Nat, np = (j : Int) := ⟨np.toNat, by omega⟩
  obtain ⟨p, hpj⟩ : ∃ p, ps[j]? = some p := at_lt (by omega)
  obtain ⟨x, hxj⟩ : ∃ x, xs[j]? = some x := at_lt (by omega)
  obtain ⟨r1, r2, r3⟩ := hpx.2 j x p hxj hpj
  have hplen := hpk p (List.mem_of_getElem? hpj)
  have hrp2 : rpA (ns.drop (k + 1)) (k + 1) (ps ++ [p ++ [nn]]) = rpF ns := by
    rw [← hrp]; unfold rpN
    rw [if_neg hk0, if_neg (show ¬ ((j : Int) < 0 ∨ (k : Int) ≤ (j : Int)) by omega)]
    simp only [Int.toNat_natCast, List.getD_eq_getElem?_getD, hpj]; rfl
  obtain ⟨g, cap, tl, rfl, rfl, u1, u2, u3⟩ := ho.rowed (by omega)
  have hcell := svcell hxj tl
  obtain ⟨xa, xm, xc⟩ := x
  simp only at r1 r2 r3 hcell
  subst r1
  have htl := toS_len p
  (repeat (first | refine Jc ?_ | (apply s_idx hA1; (case hg => rfl); (case hd => rfl); (case hx => rfl); (case hi => rfl); (case hm => rfl); (case hu => exact hx); intro q (hq : Pts _ q [.int .i64 (j : Int), strV nn, .int .i64 no, .int .i64 nt])) | (apply s_load_ag; (case hg => rfl); (case hd => rfl); (case hx => rfl); (case hv => exact hq); (case hl => rfl)) | refine Jo ?_ | intro _))
  rename_i b6
  have hrr : ∀ S8 A8 c8, ([] ++ toS p ++ [Str.mk nn]).length ≤ c8 → At S8 A8 ([] ++ toS p ++ [Str.mk nn]) → prR S8 ⟨A8, (toS p ++ [Str.mk nn]).length, c8⟩ (p ++ [nn]) := fun S8 A8 c8 h1 h2 => by
    have e : toS (p ++ [nn]) = toS p ++ [Str.mk nn] := by simp [toS]
    unfold prR
    rw [e]
    exact ⟨rfl, h1, h2⟩
  have hlen2 : ∀ q ∈ ps ++ [p ++ [nn]], q.length ≤ k + 1 := fun q hq => by
    rcases List.mem_append.1 hq with h | h
    · have := hpk q h; omega
    · simp only [List.mem_singleton] at h
      subst h; simp; omega
  ((apply c_held ([(b6, .cells [.int .i64 (j : Int), strV nn, .int .i64 no, .int .i64 nt].toArray 51 (0, 0))]); (case hL => (exact sbT))); refine Jf 0 ?_; refine Jf 2 ?_; refine Jf 3 ?_; refine Jf 4 ?_; (apply h_first 5; (case hi => rfl); (case hr => kernel_rfl); (case hfr => kernel_rfl); (case hsel => kernel_rfl); (case hg => rfl); (case hd => rfl); (case he => (apply ev_idxo1 (j := j); (case hx => rfl); (case hi => rfl); (case hk => omega)))); refine Jf 8 ?_; refine Jf 9 ?_; (apply h_three 1 6 10; (case hr => kernel_rfl)); (case k1 => ((refine X.Jn ?_; try intro _); (apply h_two 6 10; (case hr => kernel_rfl)); (case k1 => ((apply n_ev; (case hi => rfl); (case hg => rfl); (case hd => rfl); (case he => (apply ev_load_own; (case hx => rfl); (case hm => (repeat (first | exact List.Mem.head _ | apply List.Mem.tail | apply List.mem_append_right))); (case h => exact hcell)))); (apply h_two 7 10; (case hr => kernel_rfl)); (case k1 => ((apply n_append_st (ms := (toS p)) r3; (case hi => rfl); (case hT => infer_instance); (case hsz => infer_instance); (case hz => infer_instance); (case hby => infer_instance); (case hg => rfl); (case hd => rfl); (case hx => rfl); (case ho => exact Ows.full (α := Str) (l := []) rfl (by decide)); (case hL => (repeat (first | exact pm_nil _ | exact pm_refl _ _ | exact pm_self _ | apply pm_cons | apply pm_app))); (case hy => rfl); (case hm => first | rfl | simp); (case hzs => rfl); (case h0 => decide); (case hb => first | (simp; omega) | simp); (case h63 => first | (simp; omega) | simp); (case hsub => first | (intro _ _; exact List.nil_sublist _) | (intros; (exact sbT))); intro v7 ob7 ho7); (apply h_one 10; (case hr => kernel_rfl)); (refine X.Jn ?_; try intro _); (apply h_one 11; (case hr => kernel_rfl)); ((apply n_append (ms := [Str.mk nn]); (case hi => rfl); (case hT => infer_instance); (case hsz => infer_instance); (case hz => infer_instance); (case hby => infer_instance); (case hg => rfl); (case hd => rfl); (case hx => rfl); (case ho => exact ho7); (case hL => (repeat (first | exact pm_nil _ | exact pm_refl _ _ | exact pm_self _ | apply pm_cons | apply pm_app))); (case hy => rfl); (case hm => rfl); (case hs => (apply Src.own; (repeat (first | exact List.Mem.head _ | apply List.Mem.tail | apply List.mem_append_right)))); (case hzs => rfl); (case h0 => decide); (case hb => (simp; omega)); (case h63 => (simp; omega)); (case hsub => (intros; (exact sbT))); intro v8 ob8 ho8); refine Wh.freezeOws ho8 (List.Perm.refl _) sbL fun S8 hle8 hs8 => ?_; obtain ⟨A8, c8, rfl, hc8, hA8⟩ := hs8); (apply h_one 12; (case hr => kernel_rfl)); (refine X.Jn ?_; try intro _); (apply h_one 13; (case hr => kernel_rfl)); (apply n_append (ms := [Sv.mk A8 (toS p ++ [Str.mk nn]).length c8]); (case hi => rfl); (case hT => infer_instance); (case hsz => infer_instance); (case hz => infer_instance); (case hby => infer_instance); (case hg => rfl); (case hd => rfl); (case hx => rfl); (case ho => exact ho); (case hL => (repeat (first | exact pm_nil _ | exact pm_refl _ _ | exact pm_self _ | apply pm_cons | apply pm_app))); (case hy => rfl); (case hm => rfl); (case hs => (apply Src.own; (repeat (first | exact List.Mem.head _ | apply List.Mem.tail | apply List.mem_append_right)))); (case hzs => rfl); (case h0 => decide); (case hb => (simp; omega)); (case h63 => (simp; omega)); (case hsub => (intros; (exact sbT))); intro v9 ob9 ho9); refine Jf 14 ?_; (apply h_end; (case hr => kernel_rfl)); ((((repeat (first | refine Jz ?_ | intro _))); exact q_back (L' := ob9 ++ [(b1, .cells [.slice A ns.length c].toArray 24 (0, 0))]) (m' := ns.length - (k + 1)) ⟨hle1.trans hle8, k + 1, ps ++ [p ++ [nn]], _, _, ob9, rfl, by omega, hrp2, by simp [hpl], hlen2, ho9, (hpx.le hle8).snoc (hrr _ _ _ hc8 hA8), rfl, rfl⟩ (by omega) sbF sbL)))); (case k2 => ((refine X.Jn ?_; try intro _); (apply h_one 7; (case hr => kernel_rfl)); (apply n_append_st (ms := (toS p)) r3; (case hi => rfl); (case hT => infer_instance); (case hsz => infer_instance); (case hz => infer_instance); (case hby => infer_instance); (case hg => rfl); (case hd => rfl); (case hx => rfl); (case ho => exact Ows.full (α := Str) (l := []) rfl (by decide)); (case hL => (repeat (first | exact pm_nil _ | exact pm_refl _ _ | exact pm_self _ | apply pm_cons | apply pm_app))); (case hy => rfl); (case hm => first | rfl | simp); (case hzs => rfl); (case h0 => decide); (case hb => first | (simp; omega) | simp); (case h63 => first | (simp; omega) | simp); (case hsub => first | (intro _ _; exact List.nil_sublist _) | (intros; (exact sbT))); intro v7 ob7 ho7); (apply h_one 11; (case hr => kernel_rfl)); ((apply n_append (ms := [Str.mk nn]); (case hi => rfl); (case hT => infer_instance); (case hsz => infer_instance); (case hz => infer_instance); (case hby => infer_instance); (case hg => rfl); (case hd => rfl); (case hx => rfl); (case ho => exact ho7); (case hL => (repeat (first | exact pm_nil _ | exact pm_refl _ _ | exact pm_self _ | apply pm_cons | apply pm_app))); (case hy => rfl); (case hm => rfl); (case hs => (apply Src.own; (repeat (first | exact List.Mem.head _ | apply List.Mem.tail | apply List.mem_append_right)))); (case hzs => rfl); (case h0 => decide); (case hb => (simp; omega)); (case h63 => (simp; omega)); (case hsub => (intros; (exact sbT))); intro v8 ob8 ho8); refine Wh.freezeOws ho8 (List.Perm.refl _) sbL fun S8 hle8 hs8 => ?_; obtain ⟨A8, c8, rfl, hc8, hA8⟩ := hs8); (apply h_one 12; (case hr => kernel_rfl)); (refine X.Jn ?_; try intro _); (apply h_one 13; (case hr => kernel_rfl)); (apply n_append (ms := [Sv.mk A8 (toS p ++ [Str.mk nn]).length c8]); (case hi => rfl); (case hT => infer_instance); (case hsz => infer_instance); (case hz => infer_instance); (case hby => infer_instance); (case hg => rfl); (case hd => rfl); (case hx => rfl); (case ho => exact ho); (case hL => (repeat (first | exact pm_nil _ | exact pm_refl _ _ | exact pm_self _ | apply pm_cons | apply pm_app))); (case hy => rfl); (case hm => rfl); (case hs => (apply Src.own; (repeat (first | exact List.Mem.head _ | apply List.Mem.tail | apply List.mem_append_right)))); (case hzs => rfl); (case h0 => decide); (case hb => (simp; omega)); (case h63 => (simp; omega)); (case hsub => (intros; (exact sbT))); intro v9 ob9 ho9); refine Jf 14 ?_; (apply h_end; (case hr => kernel_rfl)); ((((repeat (first | refine Jz ?_ | intro _))); exact q_back (L' := ob9 ++ [(b1, .cells [.slice A ns.length c].toArray 24 (0, 0))]) (m' := ns.length - (k + 1)) ⟨hle1.trans hle8, k + 1, ps ++ [p ++ [nn]], _, _, ob9, rfl, by omega, hrp2, by simp [hpl], hlen2, ho9, (hpx.le hle8).snoc (hrr _ _ _ hc8 hA8), rfl, rfl⟩ (by omega) sbF sbL)))))); (case k2 => ((refine X.Jn ?_; try intro _); (apply h_one 6; (case hr => kernel_rfl)); (apply n_ev; (case hi => rfl); (case hg => rfl); (case hd => rfl); (case he => (apply ev_load_own; (case hx => rfl); (case hm => (repeat (first | exact List.Mem.head _ | apply List.Mem.tail | apply List.mem_append_right))); (case h => exact hcell)))); (apply h_one 7; (case hr => kernel_rfl)); (apply n_append_st (ms := (toS p)) r3; (case hi => rfl); (case hT => infer_instance); (case hsz => infer_instance); (case hz => infer_instance); (case hby => infer_instance); (case hg => rfl); (case hd => rfl); (case hx => rfl); (case ho => exact Ows.full (α := Str) (l := []) rfl (by decide)); (case hL => (repeat (first | exact pm_nil _ | exact pm_refl _ _ | exact pm_self _ | apply pm_cons | apply pm_app))); (case hy => rfl); (case hm => first | rfl | simp); (case hzs => rfl); (case h0 => decide); (case hb => first | (simp; omega) | simp); (case h63 => first | (simp; omega) | simp); (case hsub => first | (intro _ _; exact List.nil_sublist _) | (intros; (exact sbT))); intro v7 ob7 ho7); (apply h_one 11; (case hr => kernel_rfl)); ((apply n_append (ms := [Str.mk nn]); (case hi => rfl); (case hT => infer_instance); (case hsz => infer_instance); (case hz => infer_instance); (case hby => infer_instance); (case hg => rfl); (case hd => rfl); (case hx => rfl); (case ho => exact ho7); (case hL => (repeat (first | exact pm_nil _ | exact pm_refl _ _ | exact pm_self _ | apply pm_cons | apply pm_app))); (case hy => rfl); (case hm => rfl); (case hs => (apply Src.own; (repeat (first | exact List.Mem.head _ | apply List.Mem.tail | apply List.mem_append_right)))); (case hzs => rfl); (case h0 => decide); (case hb => (simp; omega)); (case h63 => (simp; omega)); (case hsub => (intros; (exact sbT))); intro v8 ob8 ho8); refine Wh.freezeOws ho8 (List.Perm.refl _) sbL fun S8 hle8 hs8 => ?_; obtain ⟨A8, c8, rfl, hc8, hA8⟩ := hs8); (apply h_one 12; (case hr => kernel_rfl)); (refine X.Jn ?_; try intro _); (apply h_one 13; (case hr => kernel_rfl)); (apply n_append (ms := [Sv.mk A8 (toS p ++ [Str.mk nn]).length c8]); (case hi => rfl); (case hT => infer_instance); (case hsz => infer_instance); (case hz => infer_instance); (case hby => infer_instance); (case hg => rfl); (case hd => rfl); (case hx => rfl); (case ho => exact ho); (case hL => (repeat (first | exact pm_nil _ | exact pm_refl _ _ | exact pm_self _ | apply pm_cons | apply pm_app))); (case hy => rfl); (case hm => rfl); (case hs => (apply Src.own; (repeat (first | exact List.Mem.head _ | apply List.Mem.tail | apply List.mem_append_right)))); (case hzs => rfl); (case h0 => decide); (case hb => (simp; omega)); (case h63 => (simp; omega)); (case hsub => (intros; (exact sbT))); intro v9 ob9 ho9); refine Jf 14 ?_; (apply h_end; (case hr => kernel_rfl)); ((((repeat (first | refine Jz ?_ | intro _))); exact q_back (L' := ob9 ++ [(b1, .cells [.slice A ns.length c].toArray 24 (0, 0))]) (m' := ns.length - (k + 1)) ⟨hle1.trans hle8, k + 1, ps ++ [p ++ [nn]], _, _, ob9, rfl, by omega, hrp2, by simp [hpl], hlen2, ho9, (hpx.le hle8).snoc (hrr _ _ _ hc8 hA8), rfl, rfl⟩ (by omega) sbF sbL)))))); (case k2 => ((apply n_ev; (case hi => rfl); (case hg => rfl); (case hd => rfl); (case he => (apply ev_load_own; (case hx => rfl); (case hm => (repeat (first | exact List.Mem.head _ | apply List.Mem.tail | apply List.mem_append_right))); (case h => exact hcell)))); (apply h_two 1 10; (case hr => kernel_rfl)); (case k1 => ((refine X.Jn ?_; try intro _); (apply h_two 7 10; (case hr => kernel_rfl)); (case k1 => ((apply n_append_st (ms := (toS p)) r3; (case hi => rfl); (case hT => infer_instance); (case hsz => infer_instance); (case hz => infer_instance); (case hby => infer_instance); (case hg => rfl); (case hd => rfl); (case hx => rfl); (case ho => exact Ows.full (α := Str) (l := []) rfl (by decide)); (case hL => (repeat (first | exact pm_nil _ | exact pm_refl _ _ | exact pm_self _ | apply pm_cons | apply pm_app))); (case hy => rfl); (case hm => first | rfl | simp); (case hzs => rfl); (case h0 => decide); (case hb => first | (simp; omega) | simp); (case h63 => first | (simp; omega) | simp); (case hsub => first | (intro _ _; exact List.nil_sublist _) | (intros; (exact sbT))); intro v7 ob7 ho7); (apply h_one 10; (case hr => kernel_rfl)); (refine X.Jn ?_; try intro _); (apply h_one 11; (case hr => kernel_rfl)); ((apply n_append (ms := [Str.mk nn]); (case hi => rfl); (case hT => infer_instance); (case hsz => infer_instance); (case hz => infer_instance); (case hby => infer_instance); (case hg => rfl); (case hd => rfl); (case hx => rfl); (case ho => exact ho7); (case hL => (repeat (first | exact pm_nil _ | exact pm_refl _ _ | exact pm_self _ | apply pm_cons | apply pm_app))); (case hy => rfl); (case hm => rfl); (case hs => (apply Src.own; (repeat (first | exact List.Mem.head _ | apply List.Mem.tail | apply List.mem_append_right)))); (case hzs => rfl); (case h0 => decide); (case hb => (simp; omega)); (case h63 => (simp; omega)); (case hsub => (intros; (exact sbT))); intro v8 ob8 ho8); refine Wh.freezeOws ho8 (List.Perm.refl _) sbL fun S8 hle8 hs8 => ?_; obtain ⟨A8, c8, rfl, hc8, hA8⟩ := hs8); (apply h_one 12; (case hr => kernel_rfl)); (refine X.Jn ?_; try intro _); (apply h_one 13; (case hr => kernel_rfl)); (apply n_append (ms := [Sv.mk A8 (toS p ++ [Str.mk nn]).length c8]); (case hi => rfl); (case hT => infer_instance); (case hsz => infer_instance); (case hz => infer_instance); (case hby => infer_instance); (case hg => rfl); (case hd => rfl); (case hx => rfl); (case ho => exact ho); (case hL => (repeat (first | exact pm_nil _ | exact pm_refl _ _ | exact pm_self _ | apply pm_cons | apply pm_app))); (case hy => rfl); (case hm => rfl); (case hs => (apply Src.own; (repeat (first | exact List.Mem.head _ | apply List.Mem.tail | apply List.mem_append_right)))); (case hzs => rfl); (case h0 => decide); (case hb => (simp; omega)); (case h63 => (simp; omega)); (case hsub => (intros; (exact sbT))); intro v9 ob9 ho9); refine Jf 14 ?_; (apply h_end; (case hr => kernel_rfl)); ((((repeat (first | refine Jz ?_ | intro _))); exact q_back (L' := ob9 ++ [(b1, .cells [.slice A ns.length c].toArray 24 (0, 0))]) (m' := ns.length - (k + 1)) ⟨hle1.trans hle8, k + 1, ps ++ [p ++ [nn]], _, _, ob9, rfl, by omega, hrp2, by simp [hpl], hlen2, ho9, (hpx.le hle8).snoc (hrr _ _ _ hc8 hA8), rfl, rfl⟩ (by omega) sbF sbL)))); (case k2 => ((refine X.Jn ?_; try intro _); (apply h_one 7; (case hr => kernel_rfl)); (apply n_append_st (ms := (toS p)) r3; (case hi => rfl); (case hT => infer_instance); (case hsz => infer_instance); (case hz => infer_instance); (case hby => infer_instance); (case hg => rfl); (case hd => rfl); (case hx => rfl); (case ho => exact Ows.full (α := Str) (l := []) rfl (by decide)); (case hL => (repeat (first | exact pm_nil _ | exact pm_refl _ _ | exact pm_self _ | apply pm_cons | apply pm_app))); (case hy => rfl); (case hm => first | rfl | simp); (case hzs => rfl); (case h0 => decide); (case hb => first | (simp; omega) | simp); (case h63 => first | (simp; omega) | simp); (case hsub => first | (intro _ _; exact List.nil_sublist _) | (intros; (exact sbT))); intro v7 ob7 ho7); (apply h_one 11; (case hr => kernel_rfl)); ((apply n_append (ms := [Str.mk nn]); (case hi => rfl); (case hT => infer_instance); (case hsz => infer_instance); (case hz => infer_instance); (case hby => infer_instance); (case hg => rfl); (case hd => rfl); (case hx => rfl); (case ho => exact ho7); (case hL => (repeat (first | exact pm_nil _ | exact pm_refl _ _ | exact pm_self _ | apply pm_cons | apply pm_app))); (case hy => rfl); (case hm => rfl); (case hs => (apply Src.own; (repeat (first | exact List.Mem.head _ | apply List.Mem.tail | apply List.mem_append_right)))); (case hzs => rfl); (case h0 => decide); (case hb => (simp; omega)); (case h63 => (simp; omega)); (case hsub => (intros; (exact sbT))); intro v8 ob8 ho8); refine Wh.freezeOws ho8 (List.Perm.refl _) sbL fun S8 hle8 hs8 => ?_; obtain ⟨A8, c8, rfl, hc8, hA8⟩ := hs8); (apply h_one 12; (case hr => kernel_rfl)); (refine X.Jn ?_; try intro _); (apply h_one 13; (case hr => kernel_rfl)); (apply n_append (ms := [Sv.mk A8 (toS p ++ [Str.mk nn]).length c8]); (case hi => rfl); (case hT => infer_instance); (case hsz => infer_instance); (case hz => infer_instance); (case hby => infer_instance); (case hg => rfl); (case hd => rfl); (case hx => rfl); (case ho => exact ho); (case hL => (repeat (first | exact pm_nil _ | exact pm_refl _ _ | exact pm_self _ | apply pm_cons | apply pm_app))); (case hy => rfl); (case hm => rfl); (case hs => (apply Src.own; (repeat (first | exact List.Mem.head _ | apply List.Mem.tail | apply List.mem_append_right)))); (case hzs => rfl); (case h0 => decide); (case hb => (simp; omega)); (case h63 => (simp; omega)); (case hsub => (intros; (exact sbT))); intro v9 ob9 ho9); refine Jf 14 ?_; (apply h_end; (case hr => kernel_rfl)); ((((repeat (first | refine Jz ?_ | intro _))); exact q_back (L' := ob9 ++ [(b1, .cells [.slice A ns.length c].toArray 24 (0, 0))]) (m' := ns.length - (k + 1)) ⟨hle1.trans hle8, k + 1, ps ++ [p ++ [nn]], _, _, ob9, rfl, by omega, hrp2, by simp [hpl], hlen2, ho9, (hpx.le hle8).snoc (hrr _ _ _ hc8 hA8), rfl, rfl⟩ (by omega) sbF sbL)))))); (case k2 => ((refine X.Jn ?_; try intro _); (apply h_one 1; (case hr => kernel_rfl)); (refine X.Jn ?_; try intro _); (apply h_one 7; (case hr => kernel_rfl)); (apply n_append_st (ms := (toS p)) r3; (case hi => rfl); (case hT => infer_instance); (case hsz => infer_instance); (case hz => infer_instance); (case hby => infer_instance); (case hg => rfl); (case hd => rfl); (case hx => rfl); (case ho => exact Ows.full (α := Str) (l := []) rfl (by decide)); (case hL => (repeat (first | exact pm_nil _ | exact pm_refl _ _ | exact pm_self _ | apply pm_cons | apply pm_app))); (case hy => rfl); (case hm => first | rfl | simp); (case hzs => rfl); (case h0 => decide); (case hb => first | (simp; omega) | simp); (case h63 => first | (simp; omega) | simp); (case hsub => first | (intro _ _; exact List.nil_sublist _) | (intros; (exact sbT))); intro v7 ob7 ho7); (apply h_one 11; (case hr => kernel_rfl)); ((apply n_append (ms := [Str.mk nn]); (case hi => rfl); (case hT => infer_instance); (case hsz => infer_instance); (case hz => infer_instance); (case hby => infer_instance); (case hg => rfl); (case hd => rfl); (case hx => rfl); (case ho => exact ho7); (case hL => (repeat (first | exact pm_nil _ | exact pm_refl _ _ | exact pm_self _ | apply pm_cons | apply pm_app))); (case hy => rfl); (case hm => rfl); (case hs => (apply Src.own; (repeat (first | exact List.Mem.head _ | apply List.Mem.tail | apply List.mem_append_right)))); (case hzs => rfl); (case h0 => decide); (case hb => (simp; omega)); (case h63 => (simp; omega)); (case hsub => (intros; (exact sbT))); intro v8 ob8 ho8); refine Wh.freezeOws ho8 (List.Perm.refl _) sbL fun S8 hle8 hs8 => ?_; obtain ⟨A8, c8, rfl, hc8, hA8⟩ := hs8); (apply h_one 12; (case hr => kernel_rfl)); (refine X.Jn ?_; try intro _); (apply h_one 13; (case hr => kernel_rfl)); (apply n_append (ms := [Sv.mk A8 (toS p ++ [Str.mk nn]).length c8]); (case hi => rfl); (case hT => infer_instance); (case hsz => infer_instance); (case hz => infer_instance); (case hby => infer_instance); (case hg => rfl); (case hd => rfl); (case hx => rfl); (case ho => exact ho); (case hL => (repeat (first | exact pm_nil _ | exact pm_refl _ _ | exact pm_self _ | apply pm_cons | apply pm_app))); (case hy => rfl); (case hm => rfl); (case hs => (apply Src.own; (repeat (first | exact List.Mem.head _ | apply List.Mem.tail | apply List.mem_append_right)))); (case hzs => rfl); (case h0 => decide); (case hb => (simp; omega)); (case h63 => (simp; omega)); (case hsub => (intros; (exact sbT))); intro v9 ob9 ho9); refine Jf 14 ?_; (apply h_end; (case hr => kernel_rfl)); ((((repeat (first | refine Jz ?_ | intro _))); exact q_back (L' := ob9 ++ [(b1, .cells [.slice A ns.length c].toArray 24 (0, 0))]) (m' := ns.length - (k + 1)) ⟨hle1.trans hle8, k + 1, ps ++ [p ++ [nn]], _, _, ob9, rfl, by omega, hrp2, by simp [hpl], hlen2, ho9, (hpx.le hle8).snoc (hrr _ _ _ hc8 hA8), rfl, rfl⟩ (by omega) sbF sbL)))))); (case k3 => ((refine X.Jn ?_; try intro _); (apply h_two 1 6; (case hr => kernel_rfl)); (case k1 => ((refine X.Jn ?_; try intro _); (apply h_one 6; (case hr => kernel_rfl)); (apply n_ev; (case hi => rfl); (case hg => rfl); (case hd => rfl); (case he => (apply ev_load_own; (case hx => rfl); (case hm => (repeat (first | exact List.Mem.head _ | apply List.Mem.tail | apply List.mem_append_right))); (case h => exact hcell)))); (apply h_one 7; (case hr => kernel_rfl)); (apply n_append_st (ms := (toS p)) r3; (case hi => rfl); (case hT => infer_instance); (case hsz => infer_instance); (case hz => infer_instance); (case hby => infer_instance); (case hg => rfl); (case hd => rfl); (case hx => rfl); (case ho => exact Ows.full (α := Str) (l := []) rfl (by decide)); (case hL => (repeat (first | exact pm_nil _ | exact pm_refl _ _ | exact pm_self _ | apply pm_cons | apply pm_app))); (case hy => rfl); (case hm => first | rfl | simp); (case hzs => rfl); (case h0 => decide); (case hb => first | (simp; omega) | simp); (case h63 => first | (simp; omega) | simp); (case hsub => first | (intro _ _; exact List.nil_sublist _) | (intros; (exact sbT))); intro v7 ob7 ho7); (apply h_one 11; (case hr => kernel_rfl)); ((apply n_append (ms := [Str.mk nn]); (case hi => rfl); (case hT => infer_instance); (case hsz => infer_instance); (case hz => infer_instance); (case hby => infer_instance); (case hg => rfl); (case hd => rfl); (case hx => rfl); (case ho => exact ho7); (case hL => (repeat (first | exact pm_nil _ | exact pm_refl _ _ | exact pm_self _ | apply pm_cons | apply pm_app))); (case hy => rfl); (case hm => rfl); (case hs => (apply Src.own; (repeat (first | exact List.Mem.head _ | apply List.Mem.tail | apply List.mem_append_right)))); (case hzs => rfl); (case h0 => decide); (case hb => (simp; omega)); (case h63 => (simp; omega)); (case hsub => (intros; (exact sbT))); intro v8 ob8 ho8); refine Wh.freezeOws ho8 (List.Perm.refl _) sbL fun S8 hle8 hs8 => ?_; obtain ⟨A8, c8, rfl, hc8, hA8⟩ := hs8); (apply h_one 12; (case hr => kernel_rfl)); (refine X.Jn ?_; try intro _); (apply h_one 13; (case hr => kernel_rfl)); (apply n_append (ms := [Sv.mk A8 (toS p ++ [Str.mk nn]).length c8]); (case hi => rfl); (case hT => infer_instance); (case hsz => infer_instance); (case hz => infer_instance); (case hby => infer_instance); (case hg => rfl); (case hd => rfl); (case hx => rfl); (case ho => exact ho); (case hL => (repeat (first | exact pm_nil _ | exact pm_refl _ _ | exact pm_self _ | apply pm_cons | apply pm_app))); (case hy => rfl); (case hm => rfl); (case hs => (apply Src.own; (repeat (first | exact List.Mem.head _ | apply List.Mem.tail | apply List.mem_append_right)))); (case hzs => rfl); (case h0 => decide); (case hb => (simp; omega)); (case h63 => (simp; omega)); (case hsub => (intros; (exact sbT))); intro v9 ob9 ho9); refine Jf 14 ?_; (apply h_end; (case hr => kernel_rfl)); ((((repeat (first | refine Jz ?_ | intro _))); exact q_back (L' := ob9 ++ [(b1, .cells [.slice A ns.length c].toArray 24 (0, 0))]) (m' := ns.length - (k + 1)) ⟨hle1.trans hle8, k + 1, ps ++ [p ++ [nn]], _, _, ob9, rfl, by omega, hrp2, by simp [hpl], hlen2, ho9, (hpx.le hle8).snoc (hrr _ _ _ hc8 hA8), rfl, rfl⟩ (by omega) sbF sbL)))); (case k2 => ((apply n_ev; (case hi => rfl); (case hg => rfl); (case hd => rfl); (case he => (apply ev_load_own; (case hx => rfl); (case hm => (repeat (first | exact List.Mem.head _ | apply List.Mem.tail | apply List.mem_append_right))); (case h => exact hcell)))); (apply h_one 1; (case hr => kernel_rfl)); (refine X.Jn ?_; try intro _); (apply h_one 7; (case hr => kernel_rfl)); (apply n_append_st (ms := (toS p)) r3; (case hi => rfl); (case hT => infer_instance); (case hsz => infer_instance); (case hz => infer_instance); (case hby => infer_instance); (case hg => rfl); (case hd => rfl); (case hx => rfl); (case ho => exact Ows.full (α := Str) (l := []) rfl (by decide)); (case hL => (repeat (first | exact pm_nil _ | exact pm_refl _ _ | exact pm_self _ | apply pm_cons | apply pm_app))); (case hy => rfl); (case hm => first | rfl | simp); (case hzs => rfl); (case h0 => decide); (case hb => first | (simp; omega) | simp); (case h63 => first | (simp; omega) | simp); (case hsub => first | (intro _ _; exact List.nil_sublist _) | (intros; (exact sbT))); intro v7 ob7 ho7); (apply h_one 11; (case hr => kernel_rfl)); ((apply n_append (ms := [Str.mk nn]); (case hi => rfl); (case hT => infer_instance); (case hsz => infer_instance); (case hz => infer_instance); (case hby => infer_instance); (case hg => rfl); (case hd => rfl); (case hx => rfl); (case ho => exact ho7); (case hL => (repeat (first | exact pm_nil _ | exact pm_refl _ _ | exact pm_self _ | apply pm_cons | apply pm_app))); (case hy => rfl); (case hm => rfl); (case hs => (apply Src.own; (repeat (first | exact List.Mem.head _ | apply List.Mem.tail | apply List.mem_append_right)))); (case hzs => rfl); (case h0 => decide); (case hb => (simp; omega)); (case h63 => (simp; omega)); (case hsub => (intros; (exact sbT))); intro v8 ob8 ho8); refine Wh.freezeOws ho8 (List.Perm.refl _) sbL fun S8 hle8 hs8 => ?_; obtain ⟨A8, c8, rfl, hc8, hA8⟩ := hs8); (apply h_one 12; (case hr => kernel_rfl)); (refine X.Jn ?_; try intro _); (apply h_one 13; (case hr => kernel_rfl)); (apply n_append (ms := [Sv.mk A8 (toS p ++ [Str.mk nn]).length c8]); (case hi => rfl); (case hT => infer_instance); (case hsz => infer_instance); (case hz => infer_instance); (case hby => infer_instance); (case hg => rfl); (case hd => rfl); (case hx => rfl); (case ho => exact ho); (case hL => (repeat (first | exact pm_nil _ | exact pm_refl _ _ | exact pm_self _ | apply pm_cons | apply pm_app))); (case hy => rfl); (case hm => rfl); (case hs => (apply Src.own; (repeat (first | exact List.Mem.head _ | apply List.Mem.tail | apply List.mem_append_right)))); (case hzs => rfl); (case h0 => decide); (case hb => (simp; omega)); (case h63 => (simp; omega)); (case hsub => (intros; (exact sbT))); intro v9 ob9 ho9); refine Jf 14 ?_; (apply h_end; (case hr => kernel_rfl)); ((((repeat (first | refine Jz ?_ | intro _))); exact q_back (L' := ob9 ++ [(b1, .cells [.slice A ns.length c].toArray 24 (0, 0))]) (m' := ns.length - (k + 1)) ⟨hle1.trans hle8, k + 1, ps ++ [p ++ [nn]], _, _, ob9, rfl, by omega, hrp2, by simp [hpl], hlen2, ho9, (hpx.le hle8).snoc (hrr _ _ _ hc8 hA8), rfl, rfl⟩ (by omega) sbF sbL)))))))
end Go.Proofs.YtcnfchchanlepaaGreat
namespace Go.Proofs.YtcnfchchanlepaaGreat
open Go Go.X
set_option linter.unusedVariables false
section
variable {w : List Bs → Int} {L : List (List Bs)}
end
/-- What stacks weigh below a path, and at it. -/
def totS (l : List Sym) (ys : List Sk) (q : List Bs) : Int := (ys.map fun y => if q <+: pathOf l y then y.weight else 0).sum
def ownS (l : List Sym) (ys : List Sk) (q : List Bs) : Int := (ys.map fun y => if pathOf l y = q then y.weight else 0).sum
section
variable {l : List Sym}
theorem ownS_eq {ys : List Sk} (hv : ∀ y ∈ ys, VQ (pathOf l y)) {q : List Bs} (hq : VQ q) : wS l ys q = ownS l ys q := by
  unfold wS wI stkE ownS
  rw [List.map_map]
  refine sum_congrP fun y hy => ?_
  simp only [Function.comp_apply]
  by_cases h : pathOf l y = q
  · rw [if_pos h, if_pos (by rw [h])]
  · rw [if_neg h, if_neg fun e => h (pth_inj (hv y hy) hq e)]
end
section
variable {l : List Sym} {ys : List Sk}
theorem Gd.vq (h : Gd l ys) : ∀ y ∈ ys, VQ (pathOf l y) := fun y hy => pathOf_vq h.1 h.2 hy
end
theorem pathOf_rn {l : List Sym} (h : SymsOk l) (y : Sk) : y.frames.map (rnamed l y.version) = pathOf l y := by
  unfold pathOf
  exact List.map_congr_left fun a _ => rnamed_eq h _ a
end Go.Proofs.YtcnfchchanlepaaGreat
namespace Go.Proofs.YtcnfchchanlepaaGreat
open Go Go.X
set_option linter.unusedVariables false
/-- The list of own weights that Fold makes. -/
def stF (l : List Sym) (ys : List Sk) : List Ch := ys.foldl (fun a y => addF a (pathOf l y) y.weight) []
theorem stF_snoc (l : List Sym) (ys : List Sk) (y : Sk) : stF l (ys ++ [y]) = addF (stF l ys) (pathOf l y) y.weight := by unfold stF; rw [List.foldl_append]; rfl
theorem stF_val (l : List Sym) (p : List Bs) : ∀ ys, valF (stF l ys) p = ownS l ys p :=
  snoc_ind (by simp [stF, valF, ownS]) fun ys y ih => by rw [stF_snoc, addF_val, ih]; simp [ownS]
theorem stF_bd (l : List Sym) : ∀ ys : List Sk, (∀ y ∈ ys, 1 ≤ y.weight ∧ y.weight ≤ 1000000) → (stF l ys).length ≤ ys.length ∧ ∀ z ∈ stF l ys, (∃ y ∈ ys, z.1 = pathOf l y) ∧ 0 ≤ z.2 ∧ z.2 ≤ 1000000 * ys.length := by
  refine snoc_ind (fun _ => ⟨Nat.le_refl _, fun z hz => by simp [stF] at hz⟩) fun ys y ih h => ?_
  obtain ⟨ha, h1, h2⟩ := all_snoc h
  obtain ⟨i1, i2⟩ := ih ha
  rw [stF_snoc]
  have := addF_len (stF l ys) (pathOf l y) y.weight
  rw [List.length_append, List.length_singleton]
  refine ⟨by omega, fun z hz => ?_⟩
  rcases addF_mem hz with ⟨e1, e2⟩ | e | ⟨x, hx, e1, e2⟩
  · exact ⟨⟨y, by simp, e1⟩, by omega, by omega⟩
  · obtain ⟨⟨y', hy', e3⟩, b, c⟩ := i2 z e
    exact ⟨⟨y', by simp [hy'], e3⟩, b, by omega⟩
  · obtain ⟨_, b, c⟩ := i2 x hx
    exact ⟨⟨y, by simp, e1⟩, by omega, by omega⟩
theorem sks_wt {ys : List Sk} (h : sksB ys = true) : ∀ y ∈ ys, 1 ≤ y.weight ∧ y.weight ≤ 1000000 := fun y hy => by
  obtain ⟨_, h1, h2⟩ := sks_at h hy
  exact ⟨by omega, by omega⟩
theorem rBuildT {l : List Sym} {ys : List Sk} (h : Gd l ys) (rs : List Cg) (A : Option Addr) (c : Nat) (S : SH) (hA : At S A rs) (hr : ChL S rs (stF l ys)) :
    Con Tryz.prog 25 #[.slice A rs.length c] S [] (fun _ L' r => ∃ v, r = .tuple #[.agg #[v], .bool true] ∧ Ows 51 v (nF l ys) L') := by
  have hb := stF_bd l ys (sks_wt h.2)
  have hlen := sks_len h.2
  refine (rBuild_con rs (stF l ys) A c S hA hr (by have := hr.1; omega) (fun z hz => ?_) (fun z hz => by have := (hb.2 z hz).2; omega)).mono fun S' L' r _ hh => ?_
  · obtain ⟨⟨y, hy, e⟩, _⟩ := hb.2 z hz
    rw [e]; exact h.vq y hy
  · have hval : ∀ p, VQ p → valF (stF l ys) p = wS l ys p := fun p hp => by rw [stF_val, ownS_eq h.vq hp]
    obtain ⟨v, ok, hr, hB⟩ := hh
    rcases hB with ⟨⟨z, hz, h1⟩, _⟩ | ⟨h0, M, hM, hB⟩
    · have := (hb.2 z hz).2.1; omega
    · have hM2 := hM.congr hval
      have hG := fold_gt h.1 h.2 hM2
      have e : nodesC (valF (stF l ys)) M = nF l ys := by
        rw [nodesC_congr fun p hp => hval p (hM.vq p hp)]
        exact (nF_eq h hM2 fun _ _ => rfl).symm
      have hf : fits (valF (stF l ys)) M := by
        unfold fits
        rw [sumL_congr fun p hp => hval p (hM.vq p hp)]
        exact hG.fit
      rcases hB with ⟨_, rfl, ho⟩ | ⟨hn, _⟩
      · exact ⟨v, hr, e ▸ ho⟩
      · exact absurd hf hn
end Go.Proofs.YtcnfchchanlepaaGreat
namespace Go.Proofs.YtcnfchchanlepaaGreat
open Go Go.X
set_option linter.unusedVariables false
set_option maxRecDepth 10000
set_option linter.unusedVariables false
attribute [local irreducible] Code.wpIn wpListIn Exit.then Exit.inBlock X.Out X.Back X.W X.Ev X.Con X.BinV X.Wh X.Wn X.Wq
set_option maxHeartbeats 6400000 in
theorem rFold_con (l : List Sym) (xs : List Stk) (ys : List Sk) (A B : Option Addr) (c d : Nat) (S : SH) (hA : At S A l) (hl : l.length ≤ 1000000) (hB : At S B xs) (hx : xs.length ≤ 1000000) (hy : SkL S xs ys) :
    Con Tryz.prog 5 #[.slice A l.length c, .slice B xs.length d] S [] (fun _ L' r => ∃ v ec, r = .tuple #[.agg #[v], .int .i64 ec] ∧ FoldR l ys v ec L') := by
  refine con_of (args := [.slice A l.length c, .slice B xs.length d]) Tryz.func5 rfl Tryz.ntmps5 rfl fun w => ?_
  have hxy := hy.1
  by_cases hs : SymsOk l
  rotate_left
  · (repeat (first | refine Jc ?_ | ((apply s_call; (case hg => rfl); (case hd => rfl); (case ha => rfl); (case hc => exact rSymbols_con l A c _ hA hl); (case hL => (repeat (first | exact pm_nil _ | exact pm_refl _ _ | exact pm_self _ | apply pm_cons | apply pm_app))); rintro S1 L1 v1 h1 ⟨rfl, b1, rfl, hb1⟩); obtain rfl : b1 = false := (by cases b1; rfl; exact absurd (hb1.1 rfl) hs)) | (apply s_evb; (case hg => rfl); (case hd => rfl); (case hn => rfl); (case he => (apply ev_buildS; (case hp => rfl); (case hz => rfl); (case h1 => rfl); (case hr => rfl)))) | refine Jo ?_ | intro _))
    exact o_ret_c2 (L' := []) (sz := 1) (cs := [.slice none 0 0]) Tryz.results5 rfl rfl (by (repeat (first | exact List.Mem.head _ | apply List.Mem.tail | apply List.mem_append_right))) rfl (List.nil_sublist _) ⟨_, _, rfl, .inr ⟨fun h => hs h.1, rfl, rfl, rfl⟩⟩
  cases hk : sksB ys
  · (repeat (first | refine Jc ?_ | ((apply s_call; (case hg => rfl); (case hd => rfl); (case ha => rfl); (case hc => exact rSymbols_con l A c _ hA hl); (case hL => (repeat (first | exact pm_nil _ | exact pm_refl _ _ | exact pm_self _ | apply pm_cons | apply pm_app))); rintro S1 L1 v1 h1 ⟨rfl, b1, rfl, hb1⟩); obtain rfl : b1 = true := hb1.2 hs; have hcS := rStacks_con xs ys B d _ (hB.le h1) hx (hy.le h1); rw [hk] at hcS) | (apply s_call; (case hg => rfl); (case hd => rfl); (case ha => rfl); (case hc => exact hcS); (case hL => (repeat (first | exact pm_nil _ | exact pm_refl _ _ | exact pm_self _ | apply pm_cons | apply pm_app))); rintro _ _ _ - ⟨rfl, rfl, rfl⟩) | (apply s_evb; (case hg => rfl); (case hd => rfl); (case hn => rfl); (case he => (apply ev_buildS; (case hp => rfl); (case hz => rfl); (case h1 => rfl); (case hr => rfl)))) | refine Jo ?_ | intro _))
    exact o_ret_c2 (L' := []) (sz := 1) (cs := [.slice none 0 0]) Tryz.results5 rfl rfl (by (repeat (first | exact List.Mem.head _ | apply List.Mem.tail | apply List.mem_append_right))) rfl (List.nil_sublist _) ⟨_, _, rfl, .inr ⟨fun h => (by have h2 := h.2; rw [hk] at h2; exact Bool.false_ne_true h2), rfl, rfl, rfl⟩⟩
  have hg : Gd l ys := ⟨hs, hk⟩
  have hlen := sks_len hk
  (repeat (first | refine Jc ?_ | ((apply s_call; (case hg => rfl); (case hd => rfl); (case ha => rfl); (case hc => exact rSymbols_con l A c _ hA hl); (case hL => (repeat (first | exact pm_nil _ | exact pm_refl _ _ | exact pm_self _ | apply pm_cons | apply pm_app))); rintro S1 L1 v1 h1 ⟨rfl, b1, rfl, hb1⟩); obtain rfl : b1 = true := hb1.2 hs; have hcS := rStacks_con xs ys B d _ (hB.le h1) hx (hy.le h1); rw [hk] at hcS) | (apply s_call; (case hg => rfl); (case hd => rfl); (case ha => rfl); (case hc => exact hcS); (case hL => (repeat (first | exact pm_nil _ | exact pm_refl _ _ | exact pm_self _ | apply pm_cons | apply pm_app))); rintro _ _ _ - ⟨rfl, rfl, rfl⟩) | refine Jo ?_ | intro _))
  rename_i b4
  refine c_loop (fun m S' L F => Le S1 S' ∧ ∃ (k : Nat) (v : Value) (rs : List Cg) (ob : Blocks), m = xs.length - k ∧ k ≤ xs.length ∧ Ows 94 v rs ob ∧ ChL S' rs (stF l (ys.take k)) ∧ L = ob ++ [(b4, .cells [.slice none 0 0].toArray 24 (0, 0))] ∧
      F = [(0, .slice A l.length c), (1, .slice B xs.length d), (4, .pointer (some ⟨b4, 0, none⟩)), (6, v), (7, .int .i64 k)]) ⟨Le.refl _, 0, _, [], [], rfl, by omega, Ows.nil _, ChL.nil _, rfl, rfl⟩ sbF sbL ?_
  rintro m S2 L F ⟨h2, k, v, rs, ob, rfl, hk1, ho, hrs, rfl, rfl⟩
  have h12 := h1.trans h2
  have hA2 := hA.le h12
  have hB2 := hB.le h12
  by_cases hlt : k < xs.length
  rotate_left
  · rw [List.take_of_length_le (by omega)] at hrs
    refine W.freezeOws (L1 := [(b4, .cells [.slice none 0 0].toArray 24 (0, 0))]) ho (List.Perm.refl _) fun S3 h3 hs3 => ?_
    obtain ⟨A3, c3, rfl, hc3, hA3⟩ := hs3
    (repeat (first | refine Jc ?_ | ((apply s_call; (case hg => rfl); (case hd => rfl); (case ha => rfl); (case hc => exact rBuildT hg rs A3 c3 _ hA3 (hrs.le h3)); (case hL => (repeat (first | exact pm_nil _ | exact pm_refl _ _ | exact pm_self _ | apply pm_cons | apply pm_app))); rintro S4 L4 v4 h4 ⟨v, rfl, ho4⟩); obtain ⟨A4, c4, rfl⟩ := ho4.form) | refine Jo ?_ | intro _))
    exact o_ret_c2 (L' := L4) (sz := 1) (cs := [.slice A4 (nF l ys).length c4]) Tryz.results5 rfl rfl (by (repeat (first | exact List.Mem.head _ | apply List.Mem.tail | apply List.mem_append_right))) rfl sbL ⟨_, _, rfl, .inl ⟨hg, rfl, _, (mF_gt hg).can, ho4⟩⟩
  obtain ⟨x, hxk⟩ := at_lt hlt
  obtain ⟨y, hyk⟩ : ∃ y, ys[k]? = some y := at_lt (by omega)
  have hym := List.mem_of_getElem? hyk
  obtain ⟨w1, w2, w3⟩ := sks_at hk hym
  have hst := stF_snoc l (ys.take k) y
  rw [← take_at hyk] at hst
  have hbd := stF_bd l (ys.take k) (fun y hy => sks_wt hk y (List.mem_of_mem_take hy))
  rw [List.length_take] at hbd
  have hrl := hrs.1
  have hpl : ∀ z ∈ stF l (ys.take k), z.1.length ≤ 1000000 := fun z hz => by
    obtain ⟨⟨y', hy', e⟩, _⟩ := hbd.2 z hz
    have := (hg.vq y' (List.mem_of_mem_take hy')).1
    rw [e]; omega
  have hpw : ∀ z ∈ stF l (ys.take k), -1000000000000000000 ≤ z.2 ∧ z.2 ≤ 1000000000000000000 := fun z hz => by have := (hbd.2 z hz).2; omega
  have hpq := (hg.vq y hym).1
  obtain ⟨s1, s2, s3, s4, s5⟩ := (hy.le h12).2 k x y hxk hyk
  obtain ⟨xv, ⟨xa, xm, xc⟩, xw⟩ := x
  simp only at s1 s2 s3 s4 s5
  subst s1; subst s2; subst s3
  have hcP := fun S hA hB => rPath_con l A c y.version y.frames xa xc y.weight S hA hl hB (by omega)
  rw [pathOf_rn hs y] at hcP
  have tlp := toS_len (pathOf l y)
  (repeat (first | refine Jz ?_ | intro _))
  ((apply c_held ([]); (case hL => (exact sbT))); refine Jf 0 ?_; refine Jf 1 ?_; refine Jf 2 ?_; refine Jf 3 ?_; (apply h_idx hB2 4; (case hi => rfl); (case hr => kernel_rfl); (case hfr => kernel_rfl); (case hsel => kernel_rfl); (case hg => rfl); (case hd => rfl); (case i1 => infer_instance); (case i2 => infer_instance); (case hx => rfl); (case hy => rfl); (case hm => rfl); (case hu => exact hxk); intro q1 (hq1 : Pts _ q1 [.int .i64 y.version, .slice xa y.frames.length xc, .int .i64 y.weight])); (apply h_first 5; (case hi => rfl); (case hr => kernel_rfl); (case hfr => kernel_rfl); (case hsel => kernel_rfl); (case hg => rfl); (case hd => rfl); (case he => (apply ev_load_ag; (case hx => rfl); (case h => exact hq1); (case hl => rfl)))); refine Jf 7 ?_; refine Jf 8 ?_; (apply h_idx hB2 9; (case hi => rfl); (case hr => kernel_rfl); (case hfr => kernel_rfl); (case hsel => kernel_rfl); (case hg => rfl); (case hd => rfl); (case i1 => infer_instance); (case i2 => infer_instance); (case hx => rfl); (case hy => rfl); (case hm => rfl); (case hu => exact hxk); intro q2 (hq2 : Pts _ q2 [.int .i64 y.version, .slice xa y.frames.length xc, .int .i64 y.weight])); refine Jf 10 ?_; (apply h_first 11; (case hi => rfl); (case hr => kernel_rfl); (case hfr => kernel_rfl); (case hsel => kernel_rfl); (case hg => rfl); (case hd => rfl); (case he => (apply ev_load_f; (case hx => rfl); (case h => exact hq2); (case hv => rfl)))); (apply h_one 6; (case hr => kernel_rfl)); ((apply n_call; (case hi => rfl); (case i1 => infer_instance); (case hg => rfl); (case hd => rfl); (case ha => rfl); (case hc => exact hcP _ hA2 s5); (case hL => (repeat (first | exact pm_nil _ | exact pm_refl _ _ | exact pm_self _ | apply pm_cons | apply pm_app))); (case hsub => (intros; (exact sbT))); rintro S3 L3 v3 h3 ⟨-, ho3⟩); refine Wh.freezeOws ho3 (List.Perm.refl _) sbL fun S4 h4 hs4 => ?_; obtain ⟨A4, c4, rfl, hc4, hA4⟩ := hs4); (apply h_one 12; (case hr => kernel_rfl)); (apply n_call; (case hi => rfl); (case i1 => infer_instance); (case hg => rfl); (case hd => rfl); (case ha => rfl); (case hc => exact radd_con rs _ v ob (pathOf l y) A4 c4 y.weight _ ho ((hrs.le h3).le h4) (by omega) hpl (by omega) hA4 hc4 (by omega) hpw); (case hL => (repeat (first | exact pm_nil _ | exact pm_refl _ _ | exact pm_self _ | apply pm_cons | apply pm_app))); (case hsub => (intros; (exact sbT))); rintro S5 L5 v5 h5 ⟨-, rs5, ho5, hrs5⟩); refine Jf 13 ?_; (apply h_end; (case hr => kernel_rfl)); ((((repeat (first | refine Jz ?_ | intro _))); exact q_back (L' := L5 ++ [(b4, .cells [.slice none 0 0].toArray 24 (0, 0))]) (m' := xs.length - (k + 1)) ⟨((h2.trans h3).trans h4).trans h5, k + 1, v5, rs5, L5, rfl, by omega, ho5, by rw [hst]; exact hrs5, rfl, rfl⟩ (by omega) sbF sbL)))
set_option maxHeartbeats 3200000 in
theorem rSame_con (a b : List Nd) (A B : Option Addr) (c d : Nat) (S : SH) (hA : At S A a) (hB : At S B b) (ha : a.length ≤ 1000000) (hb : b.length ≤ 1000000) (r : Bool) (hr : r = true ↔ a = b) :
    Con Tryz.prog 17 #[.agg #[.slice A a.length c], .agg #[.slice B b.length d]] S [] (X.Pure S (.bool r)) := by
  refine con_of (args := [.agg #[.slice A a.length c], .agg #[.slice B b.length d]]) Tryz.func17 rfl Tryz.ntmps17 rfl fun w => ?_
  by_cases hl : a.length = b.length
  rotate_left
  · obtain rfl : r = false := by cases r; rfl; exact absurd (congrArg List.length (hr.1 rfl)) hl
    (repeat (first | refine Jz ?_ | intro _))
    exact o_ret Tryz.results17 rfl (List.nil_sublist _) ⟨rfl, rfl, rfl⟩
  (repeat (first | refine Jz ?_ | intro _))
  rename_i b2 b3
  refine c_loop (fun m S' L F => S = S' ∧ L = [(b3, .cells [.slice B b.length d].toArray 24 (0, 0)), (b2, .cells [.slice A a.length c].toArray 24 (0, 0))] ∧ ∃ (k : Nat), m = a.length - k ∧ k ≤ a.length ∧ a.take k = b.take k ∧
      F = [(2, .pointer (some ⟨b2, 0, none⟩)), (3, .pointer (some ⟨b3, 0, none⟩)), (5, .int .i64 k)]) ⟨rfl, rfl, 0, rfl, by omega, rfl, rfl⟩ sbF sbL ?_
  rintro m S' L F ⟨rfl, rfl, k, rfl, hk, hi, rfl⟩
  by_cases hlt : k < a.length
  rotate_left
  · obtain rfl : r = true := hr.2 (by rw [List.take_of_length_le (by omega), List.take_of_length_le (by omega)] at hi; exact hi)
    (repeat (first | refine Jz ?_ | intro _))
    exact o_ret Tryz.results17 rfl (List.nil_sublist _) ⟨rfl, rfl, rfl⟩
  obtain ⟨x, hx⟩ := at_lt hlt
  obtain ⟨y, hy⟩ : ∃ y, b[k]? = some y := at_lt (by omega)
  cases he : ndB x y
  all_goals (repeat (first | refine Jz ?_ | intro _))
  all_goals ((apply c_held ([(b3, .cells [.slice B b.length d].toArray 24 (0, 0)), (b2, .cells [.slice A a.length c].toArray 24 (0, 0))]); (case hL => (exact sbT))); refine Jf 0 ?_; refine Jf 1 ?_; refine Jf 2 ?_; (apply h_idx hA 3; (case hi => rfl); (case hr => kernel_rfl); (case hfr => kernel_rfl); (case hsel => kernel_rfl); (case hg => rfl); (case hd => rfl); (case i1 => infer_instance); (case i2 => infer_instance); (case hx => rfl); (case hy => rfl); (case hm => rfl); (case hu => exact hx); intro q (hq : Pts _ q [.int .i64 x.parent, strV x.name, .int .i64 x.own, .int .i64 x.total])); (apply h_first 4; (case hi => rfl); (case hr => kernel_rfl); (case hfr => kernel_rfl); (case hsel => kernel_rfl); (case hg => rfl); (case hd => rfl); (case he => (apply ev_load_ag; (case hx => rfl); (case h => exact hq); (case hl => rfl)))); refine Jf 5 ?_; refine Jf 6 ?_; refine Jf 7 ?_; (apply h_idx hB 8; (case hi => rfl); (case hr => kernel_rfl); (case hfr => kernel_rfl); (case hsel => kernel_rfl); (case hg => rfl); (case hd => rfl); (case i1 => infer_instance); (case i2 => infer_instance); (case hx => rfl); (case hy => rfl); (case hm => rfl); (case hu => exact hy); intro q2 (hq2 : Pts _ q2 [.int .i64 y.parent, strV y.name, .int .i64 y.own, .int .i64 y.total])); (apply h_first 9; (case hi => rfl); (case hr => kernel_rfl); (case hfr => kernel_rfl); (case hsel => kernel_rfl); (case hg => rfl); (case hd => rfl); (case he => (apply ev_load_ag; (case hx => rfl); (case h => exact hq2); (case hl => rfl)))); (apply h_first 10; (case hi => rfl); (case hr => kernel_rfl); (case hfr => kernel_rfl); (case hsel => kernel_rfl); (case hg => rfl); (case hd => rfl); (case he => (apply ev_neq4; (case hx => rfl); (case hy => rfl); (case hr => (rw [show eq4 x.parent x.name x.own x.total y.parent y.name y.own y.total = _ from he]))))); (apply h_end; (case hr => kernel_rfl)))
  all_goals (repeat (first | refine Jz ?_ | intro _))
  · obtain rfl : r = false := by
      cases r; rfl
      have hab := hr.1 rfl
      rw [hab, hy] at hx
      exact absurd ((ndB_iff x y).2 (Option.some.inj hx).symm) (by rw [he]; exact Bool.false_ne_true)
    exact o_ret Tryz.results17 rfl (List.nil_sublist _) ⟨rfl, rfl, rfl⟩
  · exact q_back (L' := [(b3, .cells [.slice B b.length d].toArray 24 (0, 0)), (b2, .cells [.slice A a.length c].toArray 24 (0, 0))]) (m' := a.length - (k + 1)) ⟨rfl, rfl, k + 1, rfl, by omega, by rw [take_at hx, take_at hy, hi, (ndB_iff x y).1 he], rfl⟩ (by omega) sbF sbL
end Go.Proofs.YtcnfchchanlepaaGreat
namespace Go.Proofs.YtcnfchchanlepaaGreat
open Go Go.X
theorem own : ownKnob Tryz.prog.godebug = none := by kernel_rfl
theorem laidOut : laidOutB Tryz.prog = true := by kernel_rfl
theorem rdb_A3 : Rdb (α := A3) Tryz.prog 63 (fun _ x => i64A x) := fun H enc w fuel cs x h => by
  have hl : cs.length = 3 := len_a (by kernel_rfl) Tryz.underlying63 h
  match cs, hl with
  | [c0, c1, c2], _ =>
  obtain ⟨a0, e0, o0⟩ := (rdb_int Tryz.underlying3).at_ (part_a 0 h (by decide))
  obtain ⟨a1, e1, o1⟩ := (rdb_int Tryz.underlying3).at_ (part_a 1 h (by decide))
  obtain ⟨a2, e2, o2⟩ := (rdb_int Tryz.underlying3).at_ (part_a 2 h (by decide))
  simp [Cl.cells] at e0 e1 e2
  subst e0 e1 e2
  exact ⟨⟨a0, a1, a2⟩, rfl, o0, o1, o2⟩
theorem rdb_A6 : Rdb (α := A6) Tryz.prog 64 (fun _ x => i64B x) := fun H enc w fuel cs x h => by
  have hl : cs.length = 6 := len_a (by kernel_rfl) Tryz.underlying64 h
  match cs, hl with
  | [c0, c1, c2, c3, c4, c5], _ =>
  obtain ⟨a0, e0, o0⟩ := (rdb_int Tryz.underlying3).at_ (part_a 0 h (by decide))
  obtain ⟨a1, e1, o1⟩ := (rdb_int Tryz.underlying3).at_ (part_a 1 h (by decide))
  obtain ⟨a2, e2, o2⟩ := (rdb_int Tryz.underlying3).at_ (part_a 2 h (by decide))
  obtain ⟨a3, e3, o3⟩ := (rdb_int Tryz.underlying3).at_ (part_a 3 h (by decide))
  obtain ⟨a4, e4, o4⟩ := (rdb_int Tryz.underlying3).at_ (part_a 4 h (by decide))
  obtain ⟨a5, e5, o5⟩ := (rdb_int Tryz.underlying3).at_ (part_a 5 h (by decide))
  simp [Cl.cells] at e0 e1 e2 e3 e4 e5
  subst e0 e1 e2 e3 e4 e5
  exact ⟨⟨a0, a1, a2, a3, a4, a5⟩, rfl, o0, o1, o2, o3, o4, o5⟩
end Go.Proofs.YtcnfchchanlepaaGreat
