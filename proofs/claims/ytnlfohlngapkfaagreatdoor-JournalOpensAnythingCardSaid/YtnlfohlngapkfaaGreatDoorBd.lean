/- Contracts of functions of this program, each proved by a walk through its code, and plain lemmas on what they compute; on no condition beyond those that each theorem states. -/
import Derived.Test.YtnlfohlngapkfaaGreatDoorBc
import Derived.Test.YtnlfohlngapkfaaGreatDoorXA
import Derived.Test.YtnlfohlngapkfaaGreatDoorBb
import Derived.Test.YtnlfohlngapkfaaGreatDoorBa
import Derived.Test.YtnlfohlngapkfaaGreatDoorXB
import Derived.Test.YtnlfohlngapkfaaGreatDoorPShelf
namespace Go.Proofs.YtnlfohlngapkfaaGreatDoor
open Go Go.X
set_option maxRecDepth 10000
set_option linter.unusedVariables false
attribute [local irreducible] Code.wpIn wpListIn Exit.then Exit.inBlock X.Out X.Back X.W X.Ev X.Con X.BinV X.Wh X.Wn X.Wq
/-- The first i words are sums. -/
def mixL (h v : List UInt32) (i : Nat) : List UInt32 := (List.zipWith (· + ·) h v).take i ++ h.drop i
theorem mixL_get {h v : List UInt32} {i : Nat} (hl : h.length = v.length) (hi : i < h.length) : (mixL h v i)[i]? = some (at0 h i) := by
  rw [mixL, List.getElem?_append_right (by simp; omega), List.length_take, List.length_zipWith, List.getElem?_drop, ← at0_get hi]
  congr 1; omega
theorem mixL_set {h v : List UInt32} {i : Nat} (hl : h.length = v.length) (hi : i < h.length) : (mixL h v i).set i (at0 h i + at0 v i) = mixL h v (i + 1) := by
  refine List.ext_getElem? fun j => ?_
  have hz : (List.zipWith (· + ·) h v).length = h.length := by rw [List.length_zipWith]; omega
  have hml : (mixL h v i).length = h.length := by rw [mixL, List.length_append, List.length_take, List.length_drop, hz]; omega
  rw [List.getElem?_set, hml]
  by_cases hj : i = j
  · subst hj
    rw [if_pos rfl, if_pos hi, mixL, List.getElem?_append_left (by rw [List.length_take, hz]; omega), List.getElem?_take, if_pos (by omega), List.getElem?_zipWith, at0_get hi, at0_get (hl ▸ hi)]
  · rw [if_neg hj, mixL, mixL]
    by_cases hlt : j < i
    · rw [List.getElem?_append_left (by rw [List.length_take, hz]; omega), List.getElem?_append_left (by rw [List.length_take, hz]; omega), List.getElem?_take, List.getElem?_take, if_pos hlt, if_pos (by omega)]
    · rw [List.getElem?_append_right (by rw [List.length_take, hz]; omega), List.getElem?_append_right (by rw [List.length_take, hz]; omega), List.length_take, List.length_take, hz, List.getElem?_drop, List.getElem?_drop]
      congr 1; omega
theorem cells32_get {l : List UInt32} {i : Nat} {x : UInt32} (h : l[i]? = some x) : (cellsOf l)[i]? = some (.int .u32 (x.toNat : Int)) := by
  rw [cellsOf32, List.getElem?_map, h]; rfl
theorem cells32_set (l : List UInt32) (i : Nat) (x : UInt32) : (cellsOf l).set i (.int .u32 (x.toNat : Int)) = cellsOf (l.set i x) := by
  rw [cellsOf32, cellsOf32, List.map_set]
theorem add_mixL (h v : W8) : (h.add v).list = mixL h.list v.list 8 := rfl
theorem block_mixL (K : List UInt32) (h : W8) (b : Bs) : (h.block K b).list = mixL h.list (W8.steps K (sched b) h 64).list 8 := by rw [W8.block, add_mixL]
theorem steps_0 (K w : List UInt32) (h : W8) : W8.steps K w h 0 = h := rfl
theorem steps_succ (K w : List UInt32) (h : W8) (i : Nat) : W8.steps K w h (i + 1) = (W8.steps K w h i).step (at0 K i) (at0 w i) := rfl
attribute [local irreducible] W8.steps W8.block sched
set_option maxHeartbeats 1600000 in
theorem add_con (h : W8) (bh : Nat) (b : Bs) (A : Option Addr) (cap : Nat) (K : List UInt32) (S : SH) (hA : At S A b) (hb : b.length = 64) (hK : Pts S ⟨4, 0, none⟩ (cellsOf K)) (hKl : K.length = 64) :
    Con Tryz.prog 197 #[.pointer (some ⟨bh, 0, none⟩), .slice A b.length cap] S [(bh, .cells (cellsOf h.list).toArray 278 (0, 0))] (fun S' L' v => v = .tuple #[] ∧ L' = [(bh, .cells (cellsOf (h.block K b).list).toArray 278 (0, 0))]) := by
  refine con_of (args := [.pointer (some ⟨bh, 0, none⟩), .slice A b.length cap]) Tryz.func197 rfl Tryz.ntmps197 rfl fun w => ?_
  have hl64 : (cellsOf (sched b)).length = 64 := by rw [cellsOf32, List.length_map, sched_len]
  have hone : (cellsOf (sched b)).all (·.oneCell') = true := List.all_eq_true.2 (cellsOf_one _)
  have hKc : (cellsOf K).length = 64 := by rw [cellsOf32, List.length_map, hKl]
  (repeat (first | refine Jc ?_ | ((apply z_call; rfl; rfl; rfl; exact schedule_con b A cap S hA hb; rintro S1 _ _ hle1 ⟨rfl, rfl⟩)) | (apply s_store_ag; (case hg => rfl); (case hx => rfl); (case hy => rfl); (case h1 => exact hone); (case hv => exact hl64); (case hL => (repeat (first | exact Upd.head | apply Upd.tail | apply Upd.app))); (case hu => rfl)) | (apply s_evb; (case hg => rfl); (case hd => rfl); (case hn => rfl); (case he => (apply ev_nilCheck; rfl))) | (apply s_load_ag; (case hg => rfl); (case hd => rfl); (case hx => rfl); (case hv => exact hK.le hle1); (case hl => exact hKc)) | refine Jo ?_ | intro _))
  rename_i b4 b5
  refine c_meetB (fun S' L F => Le S1 S' ∧ L = [(b5, .cells (cellsOf (W8.steps K (sched b) h 64).list).toArray 278 (0, 0)), (bh, .cells (cellsOf h.list).toArray 278 (0, 0))] ∧ F = [(0, .pointer (some ⟨bh, 0, none⟩)), (5, .pointer (some ⟨b5, 0, none⟩))]) ?_ ?_
  · refine c_loop (fun m S' L F => Le S1 S' ∧ ∃ i : Nat, m = 64 - i ∧ i ≤ 64 ∧ L = [(b5, .cells (cellsOf (W8.steps K (sched b) h i).list).toArray 278 (0, 0)), (b4, .cells (cellsOf (sched b)).toArray 299 (0, 0)), (bh, .cells (cellsOf h.list).toArray 278 (0, 0))] ∧
        F = [(0, .pointer (some ⟨bh, 0, none⟩)), (4, .pointer (some ⟨b4, 0, none⟩)), (5, .pointer (some ⟨b5, 0, none⟩)), (18, .agg (cellsOf K).toArray), (19, .int .i64 i)]) ⟨Le.refl _, 0, rfl, by omega, by rw [steps_0], rfl⟩ sbF sbL ?_
    rintro m S' L F ⟨hle, i, rfl, hi, rfl, rfl⟩
    by_cases hlt : i < 64
    rotate_left
    · obtain rfl : i = 64 := by omega
      (repeat (first | refine Jz ?_ | intro _))
      exact q_cut ⟨hle, rfl, rfl⟩ sbF sbL
    have hKi : (cellsOf K).toArray[i]? = some (.int .u32 ((at0 K i).toNat : Int)) := by
      rw [List.getElem?_toArray]; exact cells32_get (at0_get (by omega))
    have hwi : (cellsOf (sched b))[i]? = some (.int .u32 ((at0 (sched b) i).toNat : Int)) := cells32_get (at0_get (by rw [sched_len]; omega))
    have hst : W8.steps K (sched b) h (i + 1) = (W8.steps K (sched b) h i).step (at0 K i) (at0 (sched b) i) := steps_succ _ _ _ _
    generalize W8.steps K (sched b) h i = v at *
    obtain ⟨va, vb, vc, vd, ve, vf, vg, vh⟩ := v
    (repeat (first | refine Jc ?_ | (apply s_evb; (case hg => rfl); (case hd => rfl); (case hn => rfl); (case he => (apply ev_index_a; (case hx => rfl); (case hi => rfl); (case hk => omega); (case hv => exact hKi)))) | refine Jo ?_ | intro _))
    ((apply c_held ([(b5, .cells ([.int .u32 (va.toNat : Int), .int .u32 (vb.toNat : Int), .int .u32 (vc.toNat : Int), .int .u32 (vd.toNat : Int), .int .u32 (ve.toNat : Int), .int .u32 (vf.toNat : Int), .int .u32 (vg.toNat : Int), .int .u32 (vh.toNat : Int)] : List Value).toArray 278 (0, 0)), (b4, .cells (cellsOf (sched b)).toArray 299 (0, 0)), (bh, .cells (cellsOf h.list).toArray 278 (0, 0))]); (case hL => (exact sbT))); refine Jf 0 ?_; refine Jf 1 ?_; refine Jf 2 ?_; refine Jf 3 ?_; refine Jf 4 ?_; refine Jf 5 ?_; (apply h_end; (case hr => kernel_rfl)))
    (repeat (first | refine Jz ?_ | intro _))
    ((apply c_held ([(b5, .cells ([.int .u32 (va.toNat : Int), .int .u32 (vb.toNat : Int), .int .u32 (vc.toNat : Int), .int .u32 (vd.toNat : Int), .int .u32 (ve.toNat : Int), .int .u32 (vf.toNat : Int), .int .u32 (vg.toNat : Int), .int .u32 (vh.toNat : Int)] : List Value).toArray 278 (0, 0)), (b4, .cells (cellsOf (sched b)).toArray 299 (0, 0)), (bh, .cells (cellsOf h.list).toArray 278 (0, 0))]); (case hL => (exact sbT))); (first | (apply h_first 0; (case hi => rfl); (case hr => kernel_rfl); (case hfr => kernel_rfl); (case hsel => kernel_rfl); (case hg => rfl); (case hd => rfl); (case he => first | (apply ev_binV; (case hx => rfl); (case hy => rfl); (case hb => first | exact bv_add32 | exact bv_xor32 | exact bv_and32 | exact bv_or32)) | (apply ev_conv32; rfl) | (apply ev_conv8; rfl) | (apply ev_not32; rfl))) | refine Jf 0 ?_); (first | (apply h_first 1; (case hi => rfl); (case hr => kernel_rfl); (case hfr => kernel_rfl); (case hsel => kernel_rfl); (case hg => rfl); (case hd => rfl); (case he => first | (apply ev_binV; (case hx => rfl); (case hy => rfl); (case hb => first | exact bv_add32 | exact bv_xor32 | exact bv_and32 | exact bv_or32)) | (apply ev_conv32; rfl) | (apply ev_conv8; rfl) | (apply ev_not32; rfl))) | refine Jf 1 ?_); (first | (apply h_first 2; (case hi => rfl); (case hr => kernel_rfl); (case hfr => kernel_rfl); (case hsel => kernel_rfl); (case hg => rfl); (case hd => rfl); (case he => first | (apply ev_binV; (case hx => rfl); (case hy => rfl); (case hb => first | exact bv_add32 | exact bv_xor32 | exact bv_and32 | exact bv_or32)) | (apply ev_conv32; rfl) | (apply ev_conv8; rfl) | (apply ev_not32; rfl))) | refine Jf 2 ?_); (first | (apply h_first 6; (case hi => rfl); (case hr => kernel_rfl); (case hfr => kernel_rfl); (case hsel => kernel_rfl); (case hg => rfl); (case hd => rfl); (case he => first | (apply ev_binV; (case hx => rfl); (case hy => rfl); (case hb => first | exact bv_add32 | exact bv_xor32 | exact bv_and32 | exact bv_or32)) | (apply ev_conv32; rfl) | (apply ev_conv8; rfl) | (apply ev_not32; rfl))) | refine Jf 6 ?_); (first | (apply h_first 7; (case hi => rfl); (case hr => kernel_rfl); (case hfr => kernel_rfl); (case hsel => kernel_rfl); (case hg => rfl); (case hd => rfl); (case he => first | (apply ev_binV; (case hx => rfl); (case hy => rfl); (case hb => first | exact bv_add32 | exact bv_xor32 | exact bv_and32 | exact bv_or32)) | (apply ev_conv32; rfl) | (apply ev_conv8; rfl) | (apply ev_not32; rfl))) | refine Jf 7 ?_); (first | (apply h_first 8; (case hi => rfl); (case hr => kernel_rfl); (case hfr => kernel_rfl); (case hsel => kernel_rfl); (case hg => rfl); (case hd => rfl); (case he => first | (apply ev_binV; (case hx => rfl); (case hy => rfl); (case hb => first | exact bv_add32 | exact bv_xor32 | exact bv_and32 | exact bv_or32)) | (apply ev_conv32; rfl) | (apply ev_conv8; rfl) | (apply ev_not32; rfl))) | refine Jf 8 ?_); (first | (apply h_first 9; (case hi => rfl); (case hr => kernel_rfl); (case hfr => kernel_rfl); (case hsel => kernel_rfl); (case hg => rfl); (case hd => rfl); (case he => first | (apply ev_binV; (case hx => rfl); (case hy => rfl); (case hb => first | exact bv_add32 | exact bv_xor32 | exact bv_and32 | exact bv_or32)) | (apply ev_conv32; rfl) | (apply ev_conv8; rfl) | (apply ev_not32; rfl))) | refine Jf 9 ?_); (first | (apply h_first 10; (case hi => rfl); (case hr => kernel_rfl); (case hfr => kernel_rfl); (case hsel => kernel_rfl); (case hg => rfl); (case hd => rfl); (case he => first | (apply ev_binV; (case hx => rfl); (case hy => rfl); (case hb => first | exact bv_add32 | exact bv_xor32 | exact bv_and32 | exact bv_or32)) | (apply ev_conv32; rfl) | (apply ev_conv8; rfl) | (apply ev_not32; rfl))) | refine Jf 10 ?_); (first | (apply h_first 11; (case hi => rfl); (case hr => kernel_rfl); (case hfr => kernel_rfl); (case hsel => kernel_rfl); (case hg => rfl); (case hd => rfl); (case he => first | (apply ev_binV; (case hx => rfl); (case hy => rfl); (case hb => first | exact bv_add32 | exact bv_xor32 | exact bv_and32 | exact bv_or32)) | (apply ev_conv32; rfl) | (apply ev_conv8; rfl) | (apply ev_not32; rfl))) | refine Jf 11 ?_); (first | (apply h_first 12; (case hi => rfl); (case hr => kernel_rfl); (case hfr => kernel_rfl); (case hsel => kernel_rfl); (case hg => rfl); (case hd => rfl); (case he => first | (apply ev_binV; (case hx => rfl); (case hy => rfl); (case hb => first | exact bv_add32 | exact bv_xor32 | exact bv_and32 | exact bv_or32)) | (apply ev_conv32; rfl) | (apply ev_conv8; rfl) | (apply ev_not32; rfl))) | refine Jf 12 ?_); (first | (apply h_first 13; (case hi => rfl); (case hr => kernel_rfl); (case hfr => kernel_rfl); (case hsel => kernel_rfl); (case hg => rfl); (case hd => rfl); (case he => first | (apply ev_binV; (case hx => rfl); (case hy => rfl); (case hb => first | exact bv_add32 | exact bv_xor32 | exact bv_and32 | exact bv_or32)) | (apply ev_conv32; rfl) | (apply ev_conv8; rfl) | (apply ev_not32; rfl))) | refine Jf 13 ?_); (first | (apply h_first 14; (case hi => rfl); (case hr => kernel_rfl); (case hfr => kernel_rfl); (case hsel => kernel_rfl); (case hg => rfl); (case hd => rfl); (case he => first | (apply ev_binV; (case hx => rfl); (case hy => rfl); (case hb => first | exact bv_add32 | exact bv_xor32 | exact bv_and32 | exact bv_or32)) | (apply ev_conv32; rfl) | (apply ev_conv8; rfl) | (apply ev_not32; rfl))) | refine Jf 14 ?_); (first | (apply h_first 15; (case hi => rfl); (case hr => kernel_rfl); (case hfr => kernel_rfl); (case hsel => kernel_rfl); (case hg => rfl); (case hd => rfl); (case he => first | (apply ev_binV; (case hx => rfl); (case hy => rfl); (case hb => first | exact bv_add32 | exact bv_xor32 | exact bv_and32 | exact bv_or32)) | (apply ev_conv32; rfl) | (apply ev_conv8; rfl) | (apply ev_not32; rfl))) | refine Jf 15 ?_); (first | (apply h_first 17; (case hi => rfl); (case hr => kernel_rfl); (case hfr => kernel_rfl); (case hsel => kernel_rfl); (case hg => rfl); (case hd => rfl); (case he => first | (apply ev_binV; (case hx => rfl); (case hy => rfl); (case hb => first | exact bv_add32 | exact bv_xor32 | exact bv_and32 | exact bv_or32)) | (apply ev_conv32; rfl) | (apply ev_conv8; rfl) | (apply ev_not32; rfl))) | refine Jf 17 ?_); (first | (apply h_first 19; (case hi => rfl); (case hr => kernel_rfl); (case hfr => kernel_rfl); (case hsel => kernel_rfl); (case hg => rfl); (case hd => rfl); (case he => first | (apply ev_binV; (case hx => rfl); (case hy => rfl); (case hb => first | exact bv_add32 | exact bv_xor32 | exact bv_and32 | exact bv_or32)) | (apply ev_conv32; rfl) | (apply ev_conv8; rfl) | (apply ev_not32; rfl))) | refine Jf 19 ?_); (apply h_first 20; (case hi => rfl); (case hr => kernel_rfl); (case hfr => kernel_rfl); (case hsel => kernel_rfl); (case hg => rfl); (case hd => rfl); (case he => (apply ev_idxa1 (j := i); (case hx => rfl); (case hi => rfl); (case hk => omega)))); (apply h_first 21; (case hi => rfl); (case hr => kernel_rfl); (case hfr => kernel_rfl); (case hsel => kernel_rfl); (case hg => rfl); (case hd => rfl); (case he => (apply ev_load_own; (case hx => rfl); (case hm => (repeat (first | exact List.Mem.head _ | apply List.Mem.tail | apply List.mem_append_right))); (case h => exact hwi)))); (apply h_one 3; (case hr => kernel_rfl)); ((apply n_buildSlice; (case hi => rfl); (case hg => rfl); (case hd => rfl); (case i1 => infer_instance); (case i2 => infer_instance); (case i3 => infer_instance); (case hp => rfl); (case hq => rfl); (case hm => rfl); (case hv => rfl); (case hl => rfl); intro bq); refine Wh.freeze sbL fun Sq hleq hbq => ?_; have hA1 : At Sq (some ⟨bq, 0, none⟩) (natI [6, 11, 25]) := at_litI hbq rfl); (apply h_one 4; (case hr => kernel_rfl)); (apply n_call; (case hi => rfl); (case i1 => infer_instance); (case hg => rfl); (case hd => rfl); (case ha => rfl); (case hc => exact mixed_con ve [6, 11, 25] _ 3 _ hA1 (by decide) (by decide)); (case hL => (repeat (first | exact pm_nil _ | exact pm_refl _ _ | exact pm_self _ | apply pm_cons | apply pm_app))); (case hsub => (intros; (exact sbT))); rintro _ _ _ - ⟨rfl, rfl, rfl⟩); (first | (apply h_first 5; (case hi => rfl); (case hr => kernel_rfl); (case hfr => kernel_rfl); (case hsel => kernel_rfl); (case hg => rfl); (case hd => rfl); (case he => first | (apply ev_binV; (case hx => rfl); (case hy => rfl); (case hb => first | exact bv_add32 | exact bv_xor32 | exact bv_and32 | exact bv_or32)) | (apply ev_conv32; rfl) | (apply ev_conv8; rfl) | (apply ev_not32; rfl))) | refine Jf 5 ?_); (first | (apply h_first 16; (case hi => rfl); (case hr => kernel_rfl); (case hfr => kernel_rfl); (case hsel => kernel_rfl); (case hg => rfl); (case hd => rfl); (case he => first | (apply ev_binV; (case hx => rfl); (case hy => rfl); (case hb => first | exact bv_add32 | exact bv_xor32 | exact bv_and32 | exact bv_or32)) | (apply ev_conv32; rfl) | (apply ev_conv8; rfl) | (apply ev_not32; rfl))) | refine Jf 16 ?_); (first | (apply h_first 18; (case hi => rfl); (case hr => kernel_rfl); (case hfr => kernel_rfl); (case hsel => kernel_rfl); (case hg => rfl); (case hd => rfl); (case he => first | (apply ev_binV; (case hx => rfl); (case hy => rfl); (case hb => first | exact bv_add32 | exact bv_xor32 | exact bv_and32 | exact bv_or32)) | (apply ev_conv32; rfl) | (apply ev_conv8; rfl) | (apply ev_not32; rfl))) | refine Jf 18 ?_); (first | (apply h_first 22; (case hi => rfl); (case hr => kernel_rfl); (case hfr => kernel_rfl); (case hsel => kernel_rfl); (case hg => rfl); (case hd => rfl); (case he => first | (apply ev_binV; (case hx => rfl); (case hy => rfl); (case hb => first | exact bv_add32 | exact bv_xor32 | exact bv_and32 | exact bv_or32)) | (apply ev_conv32; rfl) | (apply ev_conv8; rfl) | (apply ev_not32; rfl))) | refine Jf 22 ?_); (first | (apply h_first 23; (case hi => rfl); (case hr => kernel_rfl); (case hfr => kernel_rfl); (case hsel => kernel_rfl); (case hg => rfl); (case hd => rfl); (case he => first | (apply ev_binV; (case hx => rfl); (case hy => rfl); (case hb => first | exact bv_add32 | exact bv_xor32 | exact bv_and32 | exact bv_or32)) | (apply ev_conv32; rfl) | (apply ev_conv8; rfl) | (apply ev_not32; rfl))) | refine Jf 23 ?_); (apply h_end; (case hr => kernel_rfl)))
    (repeat (first | refine Jz ?_ | intro _))
    ((apply c_held ([(b5, .cells ([.int .u32 (va.toNat : Int), .int .u32 (vb.toNat : Int), .int .u32 (vc.toNat : Int), .int .u32 (vd.toNat : Int), .int .u32 (ve.toNat : Int), .int .u32 (vf.toNat : Int), .int .u32 (vg.toNat : Int), .int .u32 (vh.toNat : Int)] : List Value).toArray 278 (0, 0)), (b4, .cells (cellsOf (sched b)).toArray 299 (0, 0)), (bh, .cells (cellsOf h.list).toArray 278 (0, 0))]); (case hL => (exact sbT))); (first | (apply h_first 0; (case hi => rfl); (case hr => kernel_rfl); (case hfr => kernel_rfl); (case hsel => kernel_rfl); (case hg => rfl); (case hd => rfl); (case he => first | (apply ev_binV; (case hx => rfl); (case hy => rfl); (case hb => first | exact bv_add32 | exact bv_xor32 | exact bv_and32 | exact bv_or32)) | (apply ev_conv32; rfl) | (apply ev_conv8; rfl) | (apply ev_not32; rfl))) | refine Jf 0 ?_); (first | (apply h_first 3; (case hi => rfl); (case hr => kernel_rfl); (case hfr => kernel_rfl); (case hsel => kernel_rfl); (case hg => rfl); (case hd => rfl); (case he => first | (apply ev_binV; (case hx => rfl); (case hy => rfl); (case hb => first | exact bv_add32 | exact bv_xor32 | exact bv_and32 | exact bv_or32)) | (apply ev_conv32; rfl) | (apply ev_conv8; rfl) | (apply ev_not32; rfl))) | refine Jf 3 ?_); (first | (apply h_first 4; (case hi => rfl); (case hr => kernel_rfl); (case hfr => kernel_rfl); (case hsel => kernel_rfl); (case hg => rfl); (case hd => rfl); (case he => first | (apply ev_binV; (case hx => rfl); (case hy => rfl); (case hb => first | exact bv_add32 | exact bv_xor32 | exact bv_and32 | exact bv_or32)) | (apply ev_conv32; rfl) | (apply ev_conv8; rfl) | (apply ev_not32; rfl))) | refine Jf 4 ?_); (first | (apply h_first 5; (case hi => rfl); (case hr => kernel_rfl); (case hfr => kernel_rfl); (case hsel => kernel_rfl); (case hg => rfl); (case hd => rfl); (case he => first | (apply ev_binV; (case hx => rfl); (case hy => rfl); (case hb => first | exact bv_add32 | exact bv_xor32 | exact bv_and32 | exact bv_or32)) | (apply ev_conv32; rfl) | (apply ev_conv8; rfl) | (apply ev_not32; rfl))) | refine Jf 5 ?_); (first | (apply h_first 6; (case hi => rfl); (case hr => kernel_rfl); (case hfr => kernel_rfl); (case hsel => kernel_rfl); (case hg => rfl); (case hd => rfl); (case he => first | (apply ev_binV; (case hx => rfl); (case hy => rfl); (case hb => first | exact bv_add32 | exact bv_xor32 | exact bv_and32 | exact bv_or32)) | (apply ev_conv32; rfl) | (apply ev_conv8; rfl) | (apply ev_not32; rfl))) | refine Jf 6 ?_); (first | (apply h_first 7; (case hi => rfl); (case hr => kernel_rfl); (case hfr => kernel_rfl); (case hsel => kernel_rfl); (case hg => rfl); (case hd => rfl); (case he => first | (apply ev_binV; (case hx => rfl); (case hy => rfl); (case hb => first | exact bv_add32 | exact bv_xor32 | exact bv_and32 | exact bv_or32)) | (apply ev_conv32; rfl) | (apply ev_conv8; rfl) | (apply ev_not32; rfl))) | refine Jf 7 ?_); (first | (apply h_first 8; (case hi => rfl); (case hr => kernel_rfl); (case hfr => kernel_rfl); (case hsel => kernel_rfl); (case hg => rfl); (case hd => rfl); (case he => first | (apply ev_binV; (case hx => rfl); (case hy => rfl); (case hb => first | exact bv_add32 | exact bv_xor32 | exact bv_and32 | exact bv_or32)) | (apply ev_conv32; rfl) | (apply ev_conv8; rfl) | (apply ev_not32; rfl))) | refine Jf 8 ?_); (first | (apply h_first 9; (case hi => rfl); (case hr => kernel_rfl); (case hfr => kernel_rfl); (case hsel => kernel_rfl); (case hg => rfl); (case hd => rfl); (case he => first | (apply ev_binV; (case hx => rfl); (case hy => rfl); (case hb => first | exact bv_add32 | exact bv_xor32 | exact bv_and32 | exact bv_or32)) | (apply ev_conv32; rfl) | (apply ev_conv8; rfl) | (apply ev_not32; rfl))) | refine Jf 9 ?_); (first | (apply h_first 10; (case hi => rfl); (case hr => kernel_rfl); (case hfr => kernel_rfl); (case hsel => kernel_rfl); (case hg => rfl); (case hd => rfl); (case he => first | (apply ev_binV; (case hx => rfl); (case hy => rfl); (case hb => first | exact bv_add32 | exact bv_xor32 | exact bv_and32 | exact bv_or32)) | (apply ev_conv32; rfl) | (apply ev_conv8; rfl) | (apply ev_not32; rfl))) | refine Jf 10 ?_); (first | (apply h_first 11; (case hi => rfl); (case hr => kernel_rfl); (case hfr => kernel_rfl); (case hsel => kernel_rfl); (case hg => rfl); (case hd => rfl); (case he => first | (apply ev_binV; (case hx => rfl); (case hy => rfl); (case hb => first | exact bv_add32 | exact bv_xor32 | exact bv_and32 | exact bv_or32)) | (apply ev_conv32; rfl) | (apply ev_conv8; rfl) | (apply ev_not32; rfl))) | refine Jf 11 ?_); (first | (apply h_first 12; (case hi => rfl); (case hr => kernel_rfl); (case hfr => kernel_rfl); (case hsel => kernel_rfl); (case hg => rfl); (case hd => rfl); (case he => first | (apply ev_binV; (case hx => rfl); (case hy => rfl); (case hb => first | exact bv_add32 | exact bv_xor32 | exact bv_and32 | exact bv_or32)) | (apply ev_conv32; rfl) | (apply ev_conv8; rfl) | (apply ev_not32; rfl))) | refine Jf 12 ?_); (first | (apply h_first 13; (case hi => rfl); (case hr => kernel_rfl); (case hfr => kernel_rfl); (case hsel => kernel_rfl); (case hg => rfl); (case hd => rfl); (case he => first | (apply ev_binV; (case hx => rfl); (case hy => rfl); (case hb => first | exact bv_add32 | exact bv_xor32 | exact bv_and32 | exact bv_or32)) | (apply ev_conv32; rfl) | (apply ev_conv8; rfl) | (apply ev_not32; rfl))) | refine Jf 13 ?_); (first | (apply h_first 14; (case hi => rfl); (case hr => kernel_rfl); (case hfr => kernel_rfl); (case hsel => kernel_rfl); (case hg => rfl); (case hd => rfl); (case he => first | (apply ev_binV; (case hx => rfl); (case hy => rfl); (case hb => first | exact bv_add32 | exact bv_xor32 | exact bv_and32 | exact bv_or32)) | (apply ev_conv32; rfl) | (apply ev_conv8; rfl) | (apply ev_not32; rfl))) | refine Jf 14 ?_); (first | (apply h_first 15; (case hi => rfl); (case hr => kernel_rfl); (case hfr => kernel_rfl); (case hsel => kernel_rfl); (case hg => rfl); (case hd => rfl); (case he => first | (apply ev_binV; (case hx => rfl); (case hy => rfl); (case hb => first | exact bv_add32 | exact bv_xor32 | exact bv_and32 | exact bv_or32)) | (apply ev_conv32; rfl) | (apply ev_conv8; rfl) | (apply ev_not32; rfl))) | refine Jf 15 ?_); (first | (apply h_first 16; (case hi => rfl); (case hr => kernel_rfl); (case hfr => kernel_rfl); (case hsel => kernel_rfl); (case hg => rfl); (case hd => rfl); (case he => first | (apply ev_binV; (case hx => rfl); (case hy => rfl); (case hb => first | exact bv_add32 | exact bv_xor32 | exact bv_and32 | exact bv_or32)) | (apply ev_conv32; rfl) | (apply ev_conv8; rfl) | (apply ev_not32; rfl))) | refine Jf 16 ?_); (first | (apply h_first 17; (case hi => rfl); (case hr => kernel_rfl); (case hfr => kernel_rfl); (case hsel => kernel_rfl); (case hg => rfl); (case hd => rfl); (case he => first | (apply ev_binV; (case hx => rfl); (case hy => rfl); (case hb => first | exact bv_add32 | exact bv_xor32 | exact bv_and32 | exact bv_or32)) | (apply ev_conv32; rfl) | (apply ev_conv8; rfl) | (apply ev_not32; rfl))) | refine Jf 17 ?_); (apply h_one 1; (case hr => kernel_rfl)); ((apply n_buildSlice; (case hi => rfl); (case hg => rfl); (case hd => rfl); (case i1 => infer_instance); (case i2 => infer_instance); (case i3 => infer_instance); (case hp => rfl); (case hq => rfl); (case hm => rfl); (case hv => rfl); (case hl => rfl); intro bq); refine Wh.freeze sbL fun Sr hler hbr => ?_; have hA2 : At Sr (some ⟨bq, 0, none⟩) (natI [2, 13, 22]) := at_litI hbr rfl); (apply h_one 2; (case hr => kernel_rfl)); (apply n_call; (case hi => rfl); (case i1 => infer_instance); (case hg => rfl); (case hd => rfl); (case ha => rfl); (case hc => exact mixed_con va [2, 13, 22] _ 3 _ hA2 (by decide) (by decide)); (case hL => (repeat (first | exact pm_nil _ | exact pm_refl _ _ | exact pm_self _ | apply pm_cons | apply pm_app))); (case hsub => (intros; (exact sbT))); rintro _ _ _ - ⟨rfl, rfl, rfl⟩); (first | (apply h_first 18; (case hi => rfl); (case hr => kernel_rfl); (case hfr => kernel_rfl); (case hsel => kernel_rfl); (case hg => rfl); (case hd => rfl); (case he => first | (apply ev_binV; (case hx => rfl); (case hy => rfl); (case hb => first | exact bv_add32 | exact bv_xor32 | exact bv_and32 | exact bv_or32)) | (apply ev_conv32; rfl) | (apply ev_conv8; rfl) | (apply ev_not32; rfl))) | refine Jf 18 ?_); (first | (apply h_first 19; (case hi => rfl); (case hr => kernel_rfl); (case hfr => kernel_rfl); (case hsel => kernel_rfl); (case hg => rfl); (case hd => rfl); (case he => first | (apply ev_binV; (case hx => rfl); (case hy => rfl); (case hb => first | exact bv_add32 | exact bv_xor32 | exact bv_and32 | exact bv_or32)) | (apply ev_conv32; rfl) | (apply ev_conv8; rfl) | (apply ev_not32; rfl))) | refine Jf 19 ?_); (apply h_end; (case hr => kernel_rfl)))
    (repeat (first | refine Jz ?_ | intro _))
    ((apply c_held ([]); (case hL => (exact sbT))); (apply h_first 0; (case hi => rfl); (case hr => kernel_rfl); (case hfr => kernel_rfl); (case hsel => kernel_rfl); (case hg => rfl); (case hd => rfl); (case he => (apply ev_slice_arr_lo (j := 1) (m := 7); (case hx => rfl); (case hy => rfl); (case hj => decide); (case hm => rfl)))); (apply h_first 1; (case hi => rfl); (case hr => kernel_rfl); (case hfr => kernel_rfl); (case hsel => kernel_rfl); (case hg => rfl); (case hd => rfl); (case he => (apply ev_slice_arr_hi (m := 7); (case hx => rfl); (case hy => rfl); (case hm => decide)))); (apply h_one 2; (case hr => kernel_rfl)); (apply n_copy_in (cs := [.int .u32 (va.toNat : Int), .int .u32 (vb.toNat : Int), .int .u32 (vc.toNat : Int), .int .u32 (vd.toNat : Int), .int .u32 (ve.toNat : Int), .int .u32 (vf.toNat : Int), .int .u32 (vg.toNat : Int), .int .u32 (vh.toNat : Int)]) (vs := ([.int .u32 (va.toNat : Int), .int .u32 (vb.toNat : Int), .int .u32 (vc.toNat : Int), .int .u32 (vd.toNat : Int), .int .u32 (ve.toNat : Int), .int .u32 (vf.toNat : Int), .int .u32 (vg.toNat : Int), .int .u32 (vh.toNat : Int)] : List Value).take 7); (case hi => rfl); (case i1 => infer_instance); (case i2 => infer_instance); (case hg => rfl); (case hd => rfl); (case hx => rfl); (case hy => rfl); (case hm => rfl); (case hv => rfl); (case h1 => (intro u hu; simp at hu; rcases hu with rfl | rfl | rfl | rfl | rfl | rfl | rfl | rfl <;> rfl)); (case hl => exact (by decide : 1 + 7 ≤ 8)); (case hL => (repeat (first | exact Upd.head | apply Upd.tail | apply Upd.app))); (case hsub => (intro _; exact sbL))); (apply h_end; (case hr => kernel_rfl)))
    (repeat (first | refine Jc ?_ | (apply s_evb; (case hg => rfl); (case hd => rfl); (case hn => rfl); (case he => first | (apply ev_binV; (case hx => rfl); (case hy => rfl); (case hb => first | exact bv_add32 | exact bv_xor32 | exact bv_and32 | exact bv_or32)) | (apply ev_conv32; rfl) | (apply ev_conv8; rfl) | (apply ev_not32; rfl))) | refine Jo ?_ | intro _))
    exact q_back (m' := 64 - (i + 1)) ⟨(by repeat (first | exact Le.refl _ | assumption | refine Le.trans ?_ (by assumption))), i + 1, rfl, by omega, by rw [hst]; try rfl, rfl⟩ (by omega) sbF sbL
  rintro S2 L F ⟨hle2, rfl, rfl⟩
  rw [block_mixL]
  generalize W8.steps K (sched b) h 64 = v
  (repeat (first | refine Jz ?_ | intro _))
  refine c_loop (fun m S' L F => S' = S2 ∧ ∃ i : Nat, m = 8 - i ∧ i ≤ 8 ∧ L = [(b5, .cells (cellsOf v.list).toArray 278 (0, 0)), (bh, .cells (cellsOf (mixL h.list v.list i)).toArray 278 (0, 0))] ∧
        F = [(0, .pointer (some ⟨bh, 0, none⟩)), (5, .pointer (some ⟨b5, 0, none⟩)), (82, .int .i64 i)]) ⟨rfl, 0, rfl, by omega, rfl, rfl⟩ sbF sbL ?_
  rintro m S' L F ⟨rfl, i, rfl, hi, rfl, rfl⟩
  by_cases hlt : i < 8
  rotate_left
  · obtain rfl : i = 8 := by omega
    (repeat (first | refine Jz ?_ | intro _))
    exact o_ret0 (L' := [(bh, .cells (cellsOf (mixL h.list v.list 8)).toArray 278 (0, 0))]) (.inr rfl) Tryz.results197 sbL ⟨rfl, rfl⟩
  have hz : (cellsOf (mixL h.list v.list i))[i]? = some (.int .u32 ((at0 h.list i).toNat : Int)) := cells32_get (mixL_get (h := h.list) (v := v.list) (by simp [W8.list]) (by simpa [W8.list] using hlt))
  have hvi : (cellsOf v.list)[i]? = some (.int .u32 ((at0 v.list i).toNat : Int)) := cells32_get (at0_get hlt)
  have hset : (cellsOf (mixL h.list v.list i)).set i (.int .u32 ((at0 h.list i + at0 v.list i).toNat : Int)) = cellsOf (mixL h.list v.list (i + 1)) := by
    rw [cells32_set, mixL_set (h := h.list) (v := v.list) (by simp [W8.list]) (by simpa [W8.list] using hlt)]
  (repeat (first | refine Jz ?_ | intro _))
  ((apply c_held ([(b5, .cells (cellsOf v.list).toArray 278 (0, 0))]); (case hL => (exact sbT))); (first | (apply h_first 0; (case hi => rfl); (case hr => kernel_rfl); (case hfr => kernel_rfl); (case hsel => kernel_rfl); (case hg => rfl); (case hd => rfl); (case he => first | (apply ev_binV; (case hx => rfl); (case hy => rfl); (case hb => first | exact bv_add32 | exact bv_xor32 | exact bv_and32 | exact bv_or32)) | (apply ev_conv32; rfl) | (apply ev_conv8; rfl) | (apply ev_not32; rfl))) | refine Jf 0 ?_); (first | (apply h_first 1; (case hi => rfl); (case hr => kernel_rfl); (case hfr => kernel_rfl); (case hsel => kernel_rfl); (case hg => rfl); (case hd => rfl); (case he => first | (apply ev_binV; (case hx => rfl); (case hy => rfl); (case hb => first | exact bv_add32 | exact bv_xor32 | exact bv_and32 | exact bv_or32)) | (apply ev_conv32; rfl) | (apply ev_conv8; rfl) | (apply ev_not32; rfl))) | refine Jf 1 ?_); (first | (apply h_first 2; (case hi => rfl); (case hr => kernel_rfl); (case hfr => kernel_rfl); (case hsel => kernel_rfl); (case hg => rfl); (case hd => rfl); (case he => first | (apply ev_binV; (case hx => rfl); (case hy => rfl); (case hb => first | exact bv_add32 | exact bv_xor32 | exact bv_and32 | exact bv_or32)) | (apply ev_conv32; rfl) | (apply ev_conv8; rfl) | (apply ev_not32; rfl))) | refine Jf 2 ?_); (apply h_first 3; (case hi => rfl); (case hr => kernel_rfl); (case hfr => kernel_rfl); (case hsel => kernel_rfl); (case hg => rfl); (case hd => rfl); (case he => (apply ev_idxa1 (j := i); (case hx => rfl); (case hi => rfl); (case hk => omega)))); (first | (apply h_first 5; (case hi => rfl); (case hr => kernel_rfl); (case hfr => kernel_rfl); (case hsel => kernel_rfl); (case hg => rfl); (case hd => rfl); (case he => first | (apply ev_binV; (case hx => rfl); (case hy => rfl); (case hb => first | exact bv_add32 | exact bv_xor32 | exact bv_and32 | exact bv_or32)) | (apply ev_conv32; rfl) | (apply ev_conv8; rfl) | (apply ev_not32; rfl))) | refine Jf 5 ?_); (apply h_first 6; (case hi => rfl); (case hr => kernel_rfl); (case hfr => kernel_rfl); (case hsel => kernel_rfl); (case hg => rfl); (case hd => rfl); (case he => (apply ev_idxa1 (j := i); (case hx => rfl); (case hi => rfl); (case hk => omega)))); (apply h_first 7; (case hi => rfl); (case hr => kernel_rfl); (case hfr => kernel_rfl); (case hsel => kernel_rfl); (case hg => rfl); (case hd => rfl); (case he => (apply ev_load_own; (case hx => rfl); (case hm => (repeat (first | exact List.Mem.head _ | apply List.Mem.tail | apply List.mem_append_right))); (case h => exact hvi)))); (first | (apply h_first 9; (case hi => rfl); (case hr => kernel_rfl); (case hfr => kernel_rfl); (case hsel => kernel_rfl); (case hg => rfl); (case hd => rfl); (case he => first | (apply ev_binV; (case hx => rfl); (case hy => rfl); (case hb => first | exact bv_add32 | exact bv_xor32 | exact bv_and32 | exact bv_or32)) | (apply ev_conv32; rfl) | (apply ev_conv8; rfl) | (apply ev_not32; rfl))) | refine Jf 9 ?_); (apply h_one 4; (case hr => kernel_rfl)); (apply n_ev; (case hi => rfl); (case hg => rfl); (case hd => rfl); (case he => (apply ev_load_own; (case hx => rfl); (case hm => (repeat (first | exact List.Mem.head _ | apply List.Mem.tail | apply List.mem_append_right))); (case h => exact hz)))); (first | (apply h_first 8; (case hi => rfl); (case hr => kernel_rfl); (case hfr => kernel_rfl); (case hsel => kernel_rfl); (case hg => rfl); (case hd => rfl); (case he => first | (apply ev_binV; (case hx => rfl); (case hy => rfl); (case hb => first | exact bv_add32 | exact bv_xor32 | exact bv_and32 | exact bv_or32)) | (apply ev_conv32; rfl) | (apply ev_conv8; rfl) | (apply ev_not32; rfl))) | refine Jf 8 ?_); (apply h_first 10; (case hi => rfl); (case hr => kernel_rfl); (case hfr => kernel_rfl); (case hsel => kernel_rfl); (case hg => rfl); (case hd => rfl); (case he => (apply ev_idxa1 (j := i); (case hx => rfl); (case hi => rfl); (case hk => omega)))); (apply h_one 11; (case hr => kernel_rfl)); (apply n_store; (case hi => rfl); (case i1 => infer_instance); (case hg => rfl); (case hx => rfl); (case hy => rfl); (case h1 => rfl); (case hL => (repeat (first | exact Upd.head | apply Upd.tail | apply Upd.app))); (case hu => exact hz); (case hsub => (intro _; exact sbL))); (apply h_end; (case hr => kernel_rfl)))
  rw [hset]
  (repeat (first | refine Jz ?_ | intro _))
  exact q_back (m' := 8 - (i + 1)) ⟨rfl, i + 1, rfl, by omega, rfl, rfl⟩ (by omega) sbF sbL
end Go.Proofs.YtnlfohlngapkfaaGreatDoor
namespace Go.Proofs.YtnlfohlngapkfaaGreatDoor
open Go Go.X
set_option maxRecDepth 10000
set_option linter.unusedVariables false
attribute [local irreducible] Code.wpIn wpListIn Exit.then Exit.inBlock X.Out X.Back X.W X.Ev X.Con X.BinV X.Wh X.Wn X.Wq
theorem cellsOf8 (l : Bs) : cellsOf l = l.map fun x => Value.int .u8 (x.toNat : Int) := by
  induction l with
  | nil => rfl
  | cons x l ih => rw [cellsOf_cons, ih]; rfl
/-- An array of n bytes, of which the first are written. -/
def barr (l : Bs) (n : Nat) : List Value := cellsOf l ++ List.replicate (n - l.length) (Value.int .u8 0)
theorem barr_zero {l : Bs} {n : Nat} (h : l.length < n) : (barr l n)[l.length]? = some (.int .u8 0) := by
  rw [barr, cellsOf8, List.getElem?_append_right (by simp), List.getElem?_replicate, if_pos (by simp; omega)]
theorem barr_set {l : Bs} {n : Nat} (x : UInt8) (h : l.length < n) : (barr l n).set l.length (.int .u8 (x.toNat : Int)) = barr (l ++ [x]) n := by
  rw [barr, barr, cellsOf8, cellsOf8, List.set_append_right _ _ (by simp), List.length_map, Nat.sub_self, List.map_append, List.length_append, List.append_assoc]
  rw [show n - l.length = (n - (l.length + [x].length)) + 1 by simp; omega, List.replicate_succ]
  rfl
theorem shr_zero (x : UInt32) : shr 0 x = x := by
  rw [shr, Nat.pow_zero, Nat.div_one]
  exact UInt32.ofNat_toNat
theorem bytes_get (v : W8) {i k : Nat} (hi : i < 8) (hk : k < 4) : v.bytes[4 * i + k]? = some ((shr (24 - 8 * k) (at0 v.list i)).toUInt8) := by
  have hk' : k = 0 ∨ k = 1 ∨ k = 2 ∨ k = 3 := by omega
  have hi' : i = 0 ∨ i = 1 ∨ i = 2 ∨ i = 3 ∨ i = 4 ∨ i = 5 ∨ i = 6 ∨ i = 7 := by omega
  rcases hk' with rfl | rfl | rfl | rfl <;> rcases hi' with rfl | rfl | rfl | rfl | rfl | rfl | rfl | rfl <;> simp [W8.bytes, W8.list, word4, at0, shr_zero]
theorem take_succ8 (v : W8) {i k : Nat} (hi : i < 8) (hk : k < 4) : v.bytes.take (4 * i + k + 1) = v.bytes.take (4 * i + k) ++ [(shr (24 - 8 * k) (at0 v.list i)).toUInt8] := by
  have hg := bytes_get v hi hk
  have hlt := (List.getElem?_eq_some_iff.1 hg).1
  rw [List.take_succ_eq_append_getElem hlt, (List.getElem?_eq_some_iff.1 hg).2]
set_option maxHeartbeats 1600000 in
theorem digest_con (h : W8) (S : SH) : Con Tryz.prog 198 #[.agg (cellsOf h.list).toArray] S [] (fun S' L' v => S' = S ∧ L' = [] ∧ v = strV h.bytes) := by
  refine con_of (args := [.agg (cellsOf h.list).toArray]) Tryz.func198 rfl Tryz.ntmps198 rfl fun w => ?_
  have hcl : (cellsOf h.list).length = 8 := rfl
  (repeat (first | refine Jc ?_ | (apply s_load_own_ag; (case hg => rfl); (case hd => rfl); (case hx => rfl); (case hm => (repeat (first | exact List.Mem.head _ | apply List.Mem.tail | apply List.mem_append_right))); (case hv => exact hcl)) | refine Jo ?_ | intro _))
  rename_i b1 b3
  refine c_meetB (fun S' L F => S' = S ∧ L = [(b3, .cells (barr h.bytes 32).toArray 302 (0, 0))] ∧ F = [(3, .pointer (some ⟨b3, 0, none⟩))]) ?_ ?_
  · refine c_loop (fun m S' L F => S' = S ∧ ∃ i : Nat, m = 8 - i ∧ i ≤ 8 ∧ L = [(b3, .cells (barr (h.bytes.take (4 * i)) 32).toArray 302 (0, 0))] ∧
        F = [(3, .pointer (some ⟨b3, 0, none⟩)), (7, .agg (cellsOf h.list).toArray), (8, .int .i64 i)]) ⟨rfl, 0, rfl, by omega, rfl, rfl⟩ sbF sbL ?_
    rintro m S' L F ⟨rfl, i, rfl, hi, rfl, rfl⟩
    by_cases hlt : i < 8
    rotate_left
    · obtain rfl : i = 8 := by omega
      rw [show h.bytes.take (4 * 8) = h.bytes from List.take_of_length_le (by rw [W8.bytes_len]; decide)]
      (repeat (first | refine Jz ?_ | intro _))
      exact q_cut ⟨rfl, rfl, rfl⟩ sbF sbL
    have hhi : (cellsOf h.list).toArray[i]? = some (.int .u32 ((at0 h.list i).toNat : Int)) := by
      rw [List.getElem?_toArray]; exact cells32_get (at0_get (by simpa [W8.list] using hlt))
    (repeat (first | refine Jc ?_ | (apply s_evb; (case hg => rfl); (case hd => rfl); (case hn => rfl); (case he => (apply ev_index_a; (case hx => rfl); (case hi => rfl); (case hk => omega); (case hv => exact hhi)))) | refine Jo ?_ | intro _))
    refine c_loop (fun m S2 L F => S2 = S' ∧ ∃ k : Nat, m = 4 - k ∧ k ≤ 4 ∧ L = [(b3, .cells (barr (h.bytes.take (4 * i + k)) 32).toArray 302 (0, 0))] ∧
        F = [(3, .pointer (some ⟨b3, 0, none⟩)), (7, .agg (cellsOf h.list).toArray), (8, .int .i64 i), (4, .int .i64 i), (5, .int .u32 ((at0 h.list i).toNat : Int)), (12, .int .i64 k)]) ⟨rfl, 0, rfl, by omega, rfl, rfl⟩ sbF sbL ?_
    rintro m S2 L F ⟨rfl, k, rfl, hk, rfl, rfl⟩
    by_cases hkt : k < 4
    rotate_left
    · obtain rfl : k = 4 := by omega
      rw [show 4 * i + 4 = 4 * (i + 1) by omega]
      (repeat (first | refine Jz ?_ | intro _))
      exact q_back (m' := 8 - (i + 1)) ⟨rfl, i + 1, rfl, by omega, rfl, rfl⟩ (by omega) sbF sbL
    have hlen : (h.bytes.take (4 * i + k)).length = 4 * i + k := by rw [List.length_take, W8.bytes_len]; omega
    have hz : (barr (h.bytes.take (4 * i + k)) 32)[4 * i + k]? = some (.int .u8 0) := by
      have := barr_zero (l := h.bytes.take (4 * i + k)) (n := 32) (by omega)
      rwa [hlen] at this
    have hset : (barr (h.bytes.take (4 * i + k)) 32).set (4 * i + k) (.int .u8 ((shr (24 - 8 * k) (at0 h.list i)).toUInt8.toNat : Int)) = barr (h.bytes.take (4 * i + (k + 1))) 32 := by
      have := barr_set (l := h.bytes.take (4 * i + k)) (n := 32) ((shr (24 - 8 * k) (at0 h.list i)).toUInt8) (by omega)
      rwa [hlen, ← take_succ8 h hlt hkt] at this
    (repeat (first | refine Jc ?_ | (apply s_evb; (case hg => rfl); (case hd => rfl); (case hn => rfl); (case he => (apply ev_shr32 (c := 24 - 8 * k); (case hx => rfl); (case hy => exact congrArg (fun z => some (Value.int .i64 z)) (show (24 : Int) - 8 * (k : Int) = ((24 - 8 * k : Nat) : Int) by omega)); (case hc => omega)))) | (apply s_evb; (case hg => rfl); (case hd => rfl); (case hn => rfl); (case he => (apply ev_conv8; rfl))) | (apply s_evb; (case hg => rfl); (case hd => rfl); (case hn => rfl); (case he => (apply ev_idxa1 (j := 4 * i + k); (case hx => rfl); (case hi => rfl); (case hk => omega)))) | (apply s_store; (case hg => rfl); (case hx => rfl); (case hy => rfl); (case h1 => rfl); (case hL => (repeat (first | exact Upd.head | apply Upd.tail | apply Upd.app))); (case hu => exact hz); rw [hset]) | refine Jo ?_ | intro _))
    exact q_back (m' := 4 - (k + 1)) ⟨rfl, k + 1, rfl, by omega, rfl, rfl⟩ (by omega) sbF sbL
  rintro S2 L F ⟨rfl, rfl, rfl⟩
  have hfull : barr h.bytes 32 = cellsOf h.bytes ++ [] := by rw [barr, W8.bytes_len]; rfl
  rw [hfull]
  (repeat (first | refine Jc ?_ | (apply s_evb; (case hg => rfl); (case hd => rfl); (case hn => rfl); (case he => (apply ev_slice_arr; rfl))) | (apply s_evb; (case hg => rfl); (case hd => rfl); (case hn => rfl); (case he => (apply ev_str_row; (case hx => rfl); (case hm => (repeat (first | exact List.Mem.head _ | apply List.Mem.tail | apply List.mem_append_right))); (case hk => (rw [W8.bytes_len]; decide))))) | refine Jo ?_ | intro _))
  exact o_ret (L' := []) Tryz.results198 rfl (List.nil_sublist _) ⟨rfl, rfl, by rw [List.drop_zero, List.take_of_length_le (by rw [W8.bytes_len]; decide)]⟩
end Go.Proofs.YtnlfohlngapkfaaGreatDoor
namespace Go.Proofs.YtnlfohlngapkfaaGreatDoor
open Go Go.X
set_option maxRecDepth 10000
set_option linter.unusedVariables false
attribute [local irreducible] Code.wpIn wpListIn Exit.then Exit.inBlock X.Out X.Back X.W X.Ev X.Con X.BinV X.Wh X.Wn X.Wq
theorem Chunk_con (A : Option Addr) (m c : Nat) (S : SH) : Con Tryz.prog 196 #[.slice A m c, .int .i64 64] S [] (fun S' L' v => L' = [] ∧ ∃ b2 b3, v = .func (.func 212) #[] #[.pointer (some ⟨b2, 0, none⟩), .pointer (some ⟨b3, 0, none⟩)] ∧ Pts S' ⟨b2, 0, none⟩ [.slice A m c] ∧ Pts S' ⟨b3, 0, none⟩ [.int .i64 64]) := by
  refine con_of (args := [.slice A m c, .int .i64 64]) Tryz.func196 rfl Tryz.ntmps196 rfl fun w => ?_
  (repeat (first | refine Jz ?_ | intro _))
  refine W.freeze fun S1 hle1 hb1 => W.freeze fun S2 hle2 hb2 => ?_
  first
  | exact o_ret Tryz.results196 rfl (List.nil_sublist _) ⟨rfl, _, _, rfl, pts_block (hle2 _ _ hb1) rfl, pts_block hb2 rfl⟩
  | exact o_ret Tryz.results196 rfl (List.nil_sublist _) ⟨rfl, _, _, rfl, pts_block hb2 rfl, pts_block (hle2 _ _ hb1) rfl⟩
set_option maxHeartbeats 1600000 in
theorem Chunk1_con {l r : Nat} {fn : FuncId} {tmps : Array Value} {ps : Array Tmp} {assign body : Code} (hps : ps.size = 1) (I : Nat → Blocks → Prop) (hI : ∀ x L, I x L → (l, rec0 fn tmps ps assign body r .ready none) ∈ L)
    (b : Bs) (q : Nat) (hb : b.length = 64 * q) (hq : q ≤ 100000000000) (A : Option Addr) (c : Nat) (hc : b.length ≤ c) (p2 p3 : Addr) (S : SH) (hA : At S A b) (h2 : Pts S p2 [.slice A b.length c]) (h3 : Pts S p3 [.int .i64 64])
    (hR : ∀ (S1 : SH) (j : Nat) (A' : Option Addr) (L : Blocks), Le S S1 → j < q → At S1 A' ((b.drop (64 * j)).take 64) → I j L → RdR Tryz.prog l fn ((ps.zip #[.slice A' 64 64]).foldl (fun t (p : Tmp × Value) => t.setIfInBounds p.1 p.2) tmps) assign body S1 L (fun S' L' => Le S1 S' ∧ I (j + 1) L') true)
    (L0 : Blocks) (h0 : I 0 L0) :
    Con Tryz.prog 212 #[.func (.yield l) #[] #[], .pointer (some p2), .pointer (some p3)] S L0 (fun S' L' v => Le S S' ∧ I q L') := by
  refine con_of (args := [.func (.yield l) #[] #[], .pointer (some p2), .pointer (some p3)]) Tryz.func212 rfl Tryz.ntmps212 rfl fun w => ?_
  (repeat (first | refine Jz ?_ | intro _))
  refine c_loop (fun m S' L F => Le S S' ∧ ∃ j : Nat, m = q - j ∧ j ≤ q ∧ I j L ∧
      F = [(0, .func (.yield l) #[] #[]), (1, .pointer (some p2)), (2, .pointer (some p3)), (4, .int .i64 (64 * j : Nat))]) ⟨Le.refl _, 0, rfl, by omega, h0, rfl⟩ sbF (List.Sublist.refl _) ?_
  rintro m S' L F ⟨hle, j, rfl, hj, hi, rfl⟩
  have hA' := hA.le hle
  have h2' := h2.le hle
  have h3' := h3.le hle
  by_cases hlt : j < q
  rotate_left
  · obtain rfl : j = q := by omega
    (repeat (first | refine Jc ?_ | (apply s_load1; (case hg => rfl); (case hd => rfl); (case hx => rfl); (case hv => exact h2')) | refine Jo ?_ | intro _))
    exact o_ret0 (.inr rfl) Tryz.results212 (List.Sublist.refl _) ⟨hle, hi⟩
  have hdl : (b.drop (64 * j)).length = b.length - 64 * j := List.length_drop
  (repeat (first | refine Jc ?_ | (apply s_load1; (case hg => rfl); (case hd => rfl); (case hx => rfl); (case hv => exact h2')) | refine Jo ?_ | intro _))
  refine c_meet (fun S2 L2 F2 => S2 = S' ∧ L2 = L ∧ F2 = [(0, .func (.yield l) #[] #[]), (1, .pointer (some p2)), (2, .pointer (some p3)), (4, .int .i64 (64 * j : Nat)), (5, .int .i64 64)]) ?_ ?_
  · ((apply c_held (L); (case hL => (exact sbT))); (apply h_first 0; (case hi => rfl); (case hr => kernel_rfl); (case hfr => kernel_rfl); (case hsel => kernel_rfl); (case hg => rfl); (case hd => rfl); (case he => (apply ev_load1; (case hx => rfl); (case h => exact h3')))); (apply h_first 1; (case hi => rfl); (case hr => kernel_rfl); (case hfr => kernel_rfl); (case hsel => kernel_rfl); (case hg => rfl); (case hd => rfl); (case he => (apply ev_load1; (case hx => rfl); (case h => exact h2')))); refine Jf 2 ?_; (apply h_slice_lo (j := 64 * j) hA' 3; (case hi => rfl); (case hr => kernel_rfl); (case hfr => kernel_rfl); (case hsel => kernel_rfl); (case hg => rfl); (case hd => rfl); (case i1 => infer_instance); (case i2 => infer_instance); (case hx => rfl); (case hy => rfl); (case hm => rfl); (case hmc => omega); (case hj => omega); intro A9 hA9); refine Jf 4 ?_; (apply h_first 5; (case hi => rfl); (case hr => kernel_rfl); (case hfr => kernel_rfl); (case hsel => kernel_rfl); (case hg => rfl); (case hd => rfl); (case he => (apply Ev.eq (v' := .int .i64 64); (case h => (apply ev_min; (case hx => rfl); (case hy => rfl))); (case e => (congr 1; rw [if_neg]; omega))))); refine Jf 6 ?_; (apply h_end; (case hr => kernel_rfl)); (apply q_then; exact q_cut ⟨rfl, rfl, rfl⟩ sbF (List.Sublist.refl _)))
  rintro S2 L2 F2 ⟨rfl, rfl, rfl⟩
  (repeat (first | refine Jc ?_ | (apply s_load1; (case hg => rfl); (case hd => rfl); (case hx => rfl); (case hv => exact h2')) | (apply s_slice_3 (i := 64 * j) (j := 64 * j + 64) (k := 64 * j + 64) (q := 64) (q2 := 64) hA'; (case hg => rfl); (case hd => rfl); (case hx => rfl); (case hy => rfl); (case hz => rfl); (case hu => rfl); (case hij => omega); (case hjk => omega); (case hkc => omega); (case hjl => omega); (case hq => omega); (case hq2 => omega); intro A9 hA9) | refine Jo ?_ | intro _))
  have hcut : (b.take (64 * j + 64)).drop (64 * j) = (b.drop (64 * j)).take 64 := by rw [List.drop_take]; congr 1; omega
  rw [hcut] at hA9
  (repeat (first | refine Jc ?_ | (apply s_yieldR; (case hg => rfl); (case hd => rfl); (case hx => rfl); (case ha => rfl); (case hL => exact pm_self _); (case hm => exact hI _ _ hi); (case hp => exact hps.symm); (case hc => exact hR _ j A9 _ hle hlt hA9 hi); rintro S3 L3 ⟨hle3, hi3⟩) | refine Jo ?_ | intro _))
  refine W.perm ?_ (List.Perm.of_eq (List.append_nil L3))
  (repeat (first | refine Jc ?_ | (apply s_load1; (case hg => rfl); (case hd => rfl); (case hx => rfl); (case hv => exact h3'.le hle3)) | refine Jo ?_ | intro _))
  exact q_back (m' := q - (j + 1)) ⟨hle.trans hle3, j + 1, rfl, by omega, hi3, rfl⟩ (by omega) sbF (List.Sublist.refl _)
end Go.Proofs.YtnlfohlngapkfaaGreatDoor
namespace Go.Proofs.YtnlfohlngapkfaaGreatDoor
open Go Go.X
set_option maxRecDepth 10000
set_option linter.unusedVariables false
attribute [local irreducible] Code.wpIn wpListIn Exit.then Exit.inBlock X.Out X.Back X.W X.Ev X.Con X.BinV X.Wh X.Wn X.Wq
theorem owk_bytes {s : Bs} {b cap N : Nat} {tl : List Value} (h1 : s.length ≤ cap) (h2 : cap ≤ maxLen) (h3 : (cellsOf s ++ tl).length = cap) (hN : N = cap) :
    Owk (α := UInt8) 5 (.slice (some ⟨b, 0, none⟩) s.length cap) s [(b, .cells (cellsOf s ++ tl).toArray 5 (N, N + 1))] := by
  have e : Cl.size UInt8 = 1 := rfl
  refine .inr ⟨b, cap, N, _, rfl, rfl, by rw [e]; omega, h1, h2, by rw [e, List.size_toArray, h3]; omega, ?_⟩
  have hl : (cellsOf s).length = s.length * Cl.size UInt8 := cellsOf_length s
  rw [← hl]
  exact List.take_left
theorem blocks_succ (K : List UInt32) (h : W8) (b : Bs) (i : Nat) : W8.blocks K h b (i + 1) = (W8.blocks K h b i).block K ((b.drop (64 * i)).take 64) := rfl
theorem padded_eq (s : Bs) : padded s = s ++ [128] ++ List.replicate (zeros s.length) 0 ++ len8 s.length := rfl
theorem blocks_0 (K : List UInt32) (h : W8) (b : Bs) : W8.blocks K h b 0 = h := rfl
theorem sumK_q {K : List UInt32} {s : Bs} {q : Nat} (h : (padded s).length = 64 * q) : sumK K s = (W8.blocks K W8.init (padded s) q).bytes := by
  rw [sumK, h, Nat.mul_div_cancel_left _ (by decide)]
attribute [local irreducible] W8.block W8.blocks sumK padded
set_option maxHeartbeats 3200000 in
theorem Sum_con (s : Bs) (K : List UInt32) (S : SH) (hs : s.length ≤ 1000000000) (hK : Pts S ⟨4, 0, none⟩ (cellsOf K)) (hKl : K.length = 64) :
    Con Tryz.prog 169 #[strV s] S [] (fun S' L' v => L' = [] ∧ v = strV (sumK K s)) := by
  refine con_of (args := [strV s]) Tryz.func169 rfl Tryz.ntmps169 rfl fun w => ?_
  (repeat (first | refine Jc ?_ | (apply s_evb; (case hg => rfl); (case hd => rfl); (case hn => rfl); (case he => (apply ev_buildS; (case hp => rfl); (case hz => rfl); (case h1 => rfl); (case hr => rfl)))) | (apply s_bytes; (case hg => rfl); (case hd => rfl); (case hx => rfl); (case hl => omega); intro bz tl cap N hc1 hc2 hc3 hN; have ho := owk_bytes (b := bz) hc1 hc2 hc3 hN) | (apply s_append_k (ms := ([128] : Bs)); (case hg => rfl); (case hd => rfl); (case hx => rfl); (case ho => exact ho); (case hL => (repeat (first | exact pm_nil _ | exact pm_refl _ _ | exact pm_self _ | apply pm_cons | apply pm_app))); (case hy => rfl); (case hm => rfl); (case hs => (apply Src.own; (repeat (first | exact List.Mem.head _ | apply List.Mem.tail | apply List.mem_append_right)))); (case hzs => rfl); (case h0 => decide); (case hb => (simp; omega)); (case h63 => (simp; omega)); intro v1 ob1 ho1) | refine Jo ?_ | intro _))
  rename_i b3 bl0
  refine c_meetB (fun S' L F => S' = S ∧ ∃ (A : Option Addr) (c : Nat) (T : Bs) (ob : Blocks), T = s ++ [128] ++ List.replicate (zeros s.length) 0 ∧ Owk 5 (.slice A T.length c) T ob ∧ L = ob ++ [(b3, .cells (cellsOf W8.init.list).toArray 278 (0, 0))] ∧ F = [(0, strV s), (3, .pointer (some ⟨b3, 0, none⟩)), (4, .slice A T.length c)]) ?_ ?_
  · obtain ⟨A1, c1, rfl⟩ := ho1.form
    refine c_loop (fun m S' L F => S' = S ∧ ∃ (A : Option Addr) (c : Nat) (T : Bs) (ob : Blocks) (z : Nat), m = zeros s.length - z ∧ z ≤ zeros s.length ∧ T = s ++ [128] ++ List.replicate z 0 ∧ Owk 5 (.slice A T.length c) T ob ∧ L = ob ++ [(b3, .cells (cellsOf W8.init.list).toArray 278 (0, 0))] ∧ F = [(0, strV s), (3, .pointer (some ⟨b3, 0, none⟩)), (4, .slice A T.length c)])
      ⟨rfl, A1, c1, s ++ [128], ob1, 0, rfl, by omega, by simp, ho1, rfl, rfl⟩ sbF sbL ?_
    rintro m S' L F ⟨rfl, A, c, T, ob, z, rfl, hz, hT, hoT, rfl, rfl⟩
    have hTl : T.length = s.length + 1 + z := by rw [hT]; simp; omega
    have hzd : zeros s.length = (119 - s.length % 64) % 64 := rfl
    by_cases hlt : z < zeros s.length
    rotate_left
    · obtain rfl : z = zeros s.length := by omega
      (repeat (first | refine Jz ?_ | intro _))
      exact q_cut ⟨rfl, A, c, T, ob, hT, hoT, rfl, rfl⟩ sbF sbL
    (repeat (first | refine Jc ?_ | (apply s_append_k (ms := ([0] : Bs)); (case hg => rfl); (case hd => rfl); (case hx => rfl); (case ho => exact hoT); (case hL => (repeat (first | exact pm_nil _ | exact pm_refl _ _ | exact pm_self _ | apply pm_cons | apply pm_app))); (case hy => rfl); (case hm => rfl); (case hs => (apply Src.own; (repeat (first | exact List.Mem.head _ | apply List.Mem.tail | apply List.mem_append_right)))); (case hzs => rfl); (case h0 => decide); (case hb => (simp; omega)); (case h63 => (simp; omega)); intro v2 ob2 ho2; obtain ⟨A2, c2, rfl⟩ := ho2.form) | refine Jo ?_ | intro _))
    exact q_back (m' := zeros s.length - (z + 1)) ⟨rfl, A2, c2, T ++ [0], ob2, z + 1, rfl, by omega, by rw [hT, List.replicate_succ']; simp, ho2, rfl, rfl⟩ (by omega) sbF sbL
  rintro S1 L F ⟨rfl, A, c, T, ob, hT, hoT, rfl, rfl⟩
  have hTl : T.length = s.length + 1 + zeros s.length := by rw [hT]; simp; omega
  have hzb : zeros s.length < 64 := Nat.mod_lt _ (by decide)
  (repeat (first | refine Jz ?_ | intro _))
  refine c_meetB (fun S' L F => S' = S1 ∧ ∃ (A : Option Addr) (c : Nat) (ob : Blocks), Owk 5 (.slice A (padded s).length c) (padded s) ob ∧ L = ob ++ [(b3, .cells (cellsOf W8.init.list).toArray 278 (0, 0))] ∧ F = [(3, .pointer (some ⟨b3, 0, none⟩)), (4, .slice A (padded s).length c)]) ?_ ?_
  · refine c_loop (fun m S' L F => S' = S1 ∧ ∃ (A : Option Addr) (c : Nat) (U : Bs) (ob : Blocks) (q : Nat), m = 8 - q ∧ q ≤ 8 ∧ U = T ++ (len8 s.length).take q ∧ Owk 5 (.slice A U.length c) U ob ∧ L = ob ++ [(b3, .cells (cellsOf W8.init.list).toArray 278 (0, 0))] ∧ F = [(0, strV s), (3, .pointer (some ⟨b3, 0, none⟩)), (4, .slice A U.length c), (5, .int .i64 (7 - (q : Int)))])
      ⟨rfl, A, c, T, ob, 0, rfl, by omega, by simp, hoT, rfl, rfl⟩ sbF sbL ?_
    rintro m S' L F ⟨rfl, A, c, U, ob, q, rfl, hq, hU, hoU, rfl, rfl⟩
    have hl8 : (len8 s.length).length = 8 := rfl
    have hUl : U.length = s.length + 1 + zeros s.length + q := by rw [hU, List.length_append, hTl, List.length_take, hl8]; omega
    by_cases hlt : q < 8
    rotate_left
    · obtain rfl : q = 8 := by omega
      have hp : U = padded s := by rw [hU, hT, List.take_of_length_le (by rw [hl8]; decide), padded_eq]
      rw [hp] at hoU ⊢
      (repeat (first | refine Jz ?_ | intro _))
      exact q_cut ⟨rfl, A, c, ob, hoU, rfl, rfl⟩ sbF sbL
    obtain ⟨x, hx, hxl⟩ : ∃ x : UInt8, x = UInt8.ofNat (8 * s.length / 2 ^ (8 * (7 - q))) ∧ (len8 s.length)[q]? = some x := by
      refine ⟨_, rfl, ?_⟩
      have hq' : q = 0 ∨ q = 1 ∨ q = 2 ∨ q = 3 ∨ q = 4 ∨ q = 5 ∨ q = 6 ∨ q = 7 := by omega
      rcases hq' with rfl | rfl | rfl | rfl | rfl | rfl | rfl | rfl <;> rfl
    have htk : (len8 s.length).take (q + 1) = (len8 s.length).take q ++ [x] := by
      rw [List.take_succ_eq_append_getElem (by rw [hl8]; exact hlt), (List.getElem?_eq_some_iff.1 hxl).2]
    obtain ⟨y, hy⟩ : ∃ y : Nat, y = 8 * s.length / 2 ^ (8 * (7 - q)) := ⟨_, rfl⟩
    have hsh : (8 * (s.length : Int)) / 2 ^ (8 * (7 - q)) = (y : Int) := by rw [hy, Int.natCast_ediv]; simp
    have hw : IntKind.u8.wrap (y : Int) = (x.toNat : Int) := by
      rw [wrap_u8, hx, ← hy]; simp
    (repeat (first | refine Jc ?_ | (apply s_evb; (case hg => rfl); (case hd => rfl); (case hn => rfl); (case he => (apply ev_len_b; rfl))) | (apply s_evb; (case hg => rfl); (case hd => rfl); (case hn => rfl); (case he => (apply ev_shr (c := 8 * (7 - q)); (case hx => rfl); (case hy => exact congrArg (fun z => some (Value.int .i64 z)) (show (8 : Int) * (7 - (q : Int)) = ((8 * (7 - q) : Nat) : Int) by omega)); (case hc => (show 8 * (7 - q) ≤ 64; omega)); (case hr => exact hsh)))) | (apply s_evb; (case hg => rfl); (case hd => rfl); (case hn => rfl); (case he => (apply ev_convw; (case hx => rfl); (case hw => exact hw)))) | (apply s_append_k (ms := ([x] : Bs)); (case hg => rfl); (case hd => rfl); (case hx => rfl); (case ho => exact hoU); (case hL => (repeat (first | exact pm_nil _ | exact pm_refl _ _ | exact pm_self _ | apply pm_cons | apply pm_app))); (case hy => rfl); (case hm => rfl); (case hs => (apply Src.own; (repeat (first | exact List.Mem.head _ | apply List.Mem.tail | apply List.mem_append_right)))); (case hzs => rfl); (case h0 => decide); (case hb => (simp; omega)); (case h63 => (simp; omega)); intro v2 ob2 ho2; obtain ⟨A2, c2, rfl⟩ := ho2.form) | refine Jo ?_ | intro _))
    refine q_back (m' := 8 - (q + 1)) ⟨rfl, A2, c2, U ++ [x], ob2, q + 1, rfl, by omega, by rw [hU, htk, List.append_assoc], ho2, rfl, rfl⟩ (by omega) ?_ sbL
    rw [show (7 : Int) - ((q + 1 : Nat) : Int) = 7 - (q : Int) - 1 by omega]
    exact sbF
  rintro S2 L F ⟨rfl, A2, c2, ob2, ho2, rfl, rfl⟩
  clear hoT hT hTl hzb
  obtain ⟨q, hpl, hpq⟩ := padded_len s
  refine W.freezeOwk ho2 (by repeat (first | exact pm_nil _ | exact pm_refl _ _ | exact pm_self _ | refine pm_cons ?_ | refine pm_app ?_)) fun S3 hle3 hsr => ?_
  obtain ⟨A3, c3, he, hc3, hA3⟩ := hsr
  injection he with e1 e2 e3
  subst e1 e3
  (repeat (first | refine Jc ?_ | ((apply z_call; rfl; rfl; rfl; exact Chunk_con A2 (padded s).length c2 S3; rintro S4 _ _ hle4 ⟨rfl, b2, b4, rfl, hp2, hp4⟩)) | refine Jo ?_ | intro _))
  refine W.trim (F' := [(3, .pointer (some ⟨b3, 0, none⟩)), (34, .func (.func 212) #[] #[.pointer (some ⟨b2, 0, none⟩), .pointer (some ⟨b4, 0, none⟩)])]) (L' := [(b3, .cells (cellsOf W8.init.list).toArray 278 (0, 0))]) sbF sbL ?_
  refine c_rangeFunc (caps := [.pointer (some ⟨b2, 0, none⟩), .pointer (some ⟨b4, 0, none⟩)]) rfl rfl fun r l fn tmps hfm => ?_
  generalize hrec : rec0 fn tmps _ _ _ r LoopState.ready none = o
  obtain ⟨I, hI⟩ : ∃ I : Nat → Blocks → Prop, I = fun j L => L = [(l, o), (b3, .cells (cellsOf (W8.blocks K W8.init (padded s) j).list).toArray 278 (0, 0))] := ⟨_, rfl⟩
  have hmem : ∀ x L, I x L → (l, o) ∈ L := fun x L h => by rw [hI] at h; rw [h]; exact List.mem_cons_self
  rw [← hrec] at hmem
  refine ⟨[(l, o), (b3, .cells (cellsOf W8.init.list).toArray 278 (0, 0))], [(r, .deferred (some []))], fun S' L' v => Le S4 S' ∧ I q L', (List.Perm.swap _ _ _).cons _, ?_, ?_⟩
  · refine Chunk1_con rfl I hmem (padded s) q hpl (by omega) A2 c2 hc3 _ _ S4 (hA3.le hle4) hp2 hp4 ?_ _ (by rw [hI]; show _ = _; rw [blocks_0])
    intro S5 j A' L hle5 hj hA' hi
    rw [hI] at hi
    subst hi
    have hfm' := hfm.put (d := 35) (.slice A' 64 64) rfl
    have hfm2 : Fm 40 { tmps := (#[35].zip #[Value.slice A' 64 64]).foldl (fun t (p : Tmp × Value) => t.setIfInBounds p.1 p.2) tmps, defers := [] } [(35, .slice A' 64 64), (3, .pointer (some ⟨b3, 0, none⟩)), (34, .func (.func 212) #[] #[.pointer (some ⟨b2, 0, none⟩), .pointer (some ⟨b4, 0, none⟩)])] := by simpa [Act.put] using hfm'
    rw [← hrec]
    refine rd_ofR hfm2 fun w' => ?_
    have hch : (((padded s).drop (64 * j)).take 64).length = 64 := by rw [List.length_take, List.length_drop, hpl]; omega
    have ac := add_con (W8.blocks K W8.init (padded s) j) b3 (((padded s).drop (64 * j)).take 64) A' 64 K S5 hA' hch ((((hK.le hle3).le hle4)).le hle5) hKl
    rw [hch, ← blocks_succ] at ac
    (repeat (first | refine Jz ?_ | intro _))
    apply r_begin
    (repeat (first | refine Jc ?_ | (apply s_call; (case hg => rfl); (case hd => rfl); (case ha => rfl); (case hc => exact ac); (case hL => (repeat (first | exact pm_nil _ | exact pm_refl _ _ | exact pm_self _ | apply pm_cons | apply pm_app))); rintro S6 L6 v6 hle6 ⟨rfl, rfl⟩) | refine Jo ?_ | intro _))
    refine W.perm ?_ (List.Perm.swap _ _ _)
    refine r_end (L' := [(b3, .cells (cellsOf (W8.blocks K W8.init (padded s) (j + 1)).list).toArray 278 (0, 0))]) (List.Sublist.refl _) fun w'' hs => ⟨rfl, S6, _, ⟨hle6, by rw [hI]⟩, ?_⟩
    rw [hrec] at hs
    exact hs
  · rintro S' L1' v hle ⟨hle5, hi⟩
    rw [hI] at hi
    subst hi
    rw [← hrec]
    refine ⟨.ready, none, [(b3, .cells (cellsOf (W8.blocks K W8.init (padded s) q).list).toArray 278 (0, 0)), (r, .deferred (some []))], List.Perm.refl _, by decide, ?_⟩
    have hcl : ∀ v : W8, (cellsOf v.list).length = 8 := fun v => rfl
    (repeat (first | refine Jc ?_ | (apply s_load_own_ag; (case hg => rfl); (case hd => rfl); (case hx => rfl); (case hm => (repeat (first | exact List.Mem.head _ | apply List.Mem.tail | apply List.mem_append_right))); (case hv => exact hcl _)) | ((apply z_call; rfl; rfl; rfl; exact digest_con (W8.blocks K W8.init (padded s) q) S'; rintro _ _ _ - ⟨rfl, rfl, rfl⟩)) | refine Jo ?_ | intro _))
    refine o_ret1m (L' := []) (L1 := [(b3, .cells (cellsOf (W8.blocks K W8.init (padded s) q).list).toArray 278 (0, 0))]) Tryz.results169 rfl rfl (List.Perm.swap _ _ _) (List.nil_sublist _) ⟨rfl, ?_⟩
    rw [sumK_q hpl]
end Go.Proofs.YtnlfohlngapkfaaGreatDoor
namespace Go.Proofs.YtnlfohlngapkfaaGreatDoor
open Go Go.X
set_option maxRecDepth 10000
set_option linter.unusedVariables false
attribute [local irreducible] Code.wpIn wpListIn Exit.then Exit.inBlock X.Out X.Back X.W X.Ev X.Con X.BinV X.Wh X.Wn X.Wq
attribute [local irreducible] sumK
/-- What digest.marked gives: a function with its mark. -/
theorem marked1_con (m a c : Bs) (A : Option Addr) (cap b : Nat) (K : List UInt32) (S : SH) (hA : At S A [(⟨a⟩ : Str), ⟨c⟩]) (hp : Pts S ⟨b, 0, none⟩ [strV m]) (h0 : a ≠ []) (hm : m.length ≤ 100000000) (ha : a.length ≤ 100000000) (hc : c.length ≤ 100000000) (hcap : 2 ≤ cap) (hK : Pts S ⟨4, 0, none⟩ (cellsOf K)) (hKl : K.length = 64) :
    Con Tryz.prog 168 #[.slice A 2 cap, .pointer (some ⟨b, 0, none⟩)] S [] (fun S' L' v => L' = [] ∧ v = strV (sumK K (m ++ (a ++ c)))) := by
  refine con_of (args := [.slice A 2 cap, .pointer (some ⟨b, 0, none⟩)]) Tryz.func168 rfl Tryz.ntmps168 rfl fun w => ?_
  (repeat (first | refine Jz ?_ | intro _))
  ((apply c_held ([]); (case hL => (exact sbT))); (apply h_first 0; (case hi => rfl); (case hr => kernel_rfl); (case hfr => kernel_rfl); (case hsel => kernel_rfl); (case hg => rfl); (case hd => rfl); (case he => (apply ev_load1; (case hx => rfl); (case h => exact hp)))); refine Jf 1 ?_; (apply h_one 2; (case hr => kernel_rfl)); (apply n_call; (case hi => rfl); (case i1 => infer_instance); (case hg => rfl); (case hd => rfl); (case ha => rfl); (case hc => exact Join_con a c A cap S hA h0 (by omega) (by omega) hcap); (case hL => (repeat (first | exact pm_nil _ | exact pm_refl _ _ | exact pm_self _ | apply pm_cons | apply pm_app))); (case hsub => (intros; (exact sbT))); rintro S7 _ _ - ⟨rfl, rfl, rfl⟩); (apply h_first 3; (case hi => rfl); (case hr => kernel_rfl); (case hfr => kernel_rfl); (case hsel => kernel_rfl); (case hg => rfl); (case hd => rfl); (case he => (apply ev_add_bs; (case hx => rfl); (case hy => rfl); (case h => (simp only [List.length_append]; omega))))); (apply h_one 4; (case hr => kernel_rfl)); (apply n_call; (case hi => rfl); (case i1 => infer_instance); (case hg => rfl); (case hd => rfl); (case ha => rfl); (case hc => exact Sum_con (m ++ (a ++ c)) K S7 (by simp only [List.length_append]; omega) hK hKl); (case hL => (repeat (first | exact pm_nil _ | exact pm_refl _ _ | exact pm_self _ | apply pm_cons | apply pm_app))); (case hsub => (intros; (exact sbT))); rintro _ _ _ - ⟨rfl, rfl⟩); refine Jf 5 ?_; (apply h_end; (case hr => kernel_rfl)))
  (repeat (first | refine Jz ?_ | intro _))
  exact o_ret Tryz.results168 rfl (List.nil_sublist _) ⟨rfl, rfl⟩
theorem marked_con (m : Bs) (S : SH) :
    Con Tryz.prog 136 #[strV m] S [] (fun S' L' v => ∃ b, L' = [(b, .cells [strV m].toArray 9 (0, 0))] ∧ S' = S ∧ v = .func (.func 168) #[] [.pointer (some ⟨b, 0, none⟩)].toArray) := by
  refine con_of (args := [strV m]) Tryz.func136 rfl Tryz.ntmps136 rfl fun w => ?_
  (repeat (first | refine Jz ?_ | intro _))
  rename_i b
  exact o_ret Tryz.results136 rfl (List.Sublist.refl _) ⟨b, rfl, rfl, rfl⟩
theorem Chain_con (a c : Bs) (K : List UInt32) (S : SH) (h0 : a ≠ []) (ha : a.length ≤ 100000000) (hc : c.length ≤ 100000000) (hK : Pts S ⟨4, 0, none⟩ (cellsOf K)) (hKl : K.length = 64) :
    Con Tryz.prog 93 #[strV a, strV c] S [] (fun S' L' v => L' = [] ∧ v = strV (sumK K ([2] ++ (a ++ c)))) := by
  refine con_of (args := [strV a, strV c]) Tryz.func93 rfl Tryz.ntmps93 rfl fun w => ?_
  (repeat (first | refine Jc ?_ | ((apply z_call; rfl; rfl; rfl; exact marked_con [2] S; rintro S2 _ _ hle2 ⟨b, rfl, rfl, rfl⟩); refine W.freeze fun S3 hle3 hb => ?_; have hp : Pts S3 ⟨b, 0, none⟩ [strV [2]] := pts_block hb rfl) | (apply s_buildSlice; (case hg => rfl); (case hd => rfl); (case hp => rfl); (case hq => rfl); (case hm => rfl); (case hv => rfl); (case hl => rfl); intro bl; refine W.freeze fun S4 hle4 hb4 => ?_) | refine Jo ?_ | intro _))
  have hA4 : At S4 (some ⟨bl, 0, none⟩) [(⟨a⟩ : Str), ⟨c⟩] := fun _ => ⟨_, rfl, pts_block hb4 rfl⟩
  (repeat (first | refine Jc ?_ | (apply s_callw (caps := [.pointer (some ⟨b, 0, none⟩)]); (case hg => rfl); (case hd => rfl); (case hx => rfl); (case i1 => infer_instance); (case ha => rfl); (case hc => exact marked1_con [2] a c (some ⟨bl, 0, none⟩) 2 b K S4 hA4 (hp.le hle4) h0 (Nat.le_of_ble_eq_true rfl) ha hc (Nat.le_refl _) ((hK.le hle3).le hle4) hKl); (case hL => exact List.Perm.refl _); rintro S5 L5 v5 hle5 ⟨rfl, rfl⟩) | refine Jo ?_ | intro _))
  exact o_ret Tryz.results93 rfl (List.nil_sublist _) ⟨rfl, rfl⟩
end Go.Proofs.YtnlfohlngapkfaaGreatDoor
namespace Go.Proofs.YtnlfohlngapkfaaGreatDoor
open Go Go.X
set_option maxRecDepth 10000
set_option linter.unusedVariables false
attribute [local irreducible] Code.wpIn wpListIn Exit.then Exit.inBlock X.Out X.Back X.W X.Ev X.Con X.BinV X.Wh X.Wn X.Wq
attribute [local irreducible] sumK
def chain (K : List UInt32) (h r : Bs) : Bs := sumK K ([2] ++ (h ++ r))
/-- How a record is stored behind a head. -/
def stored (K : List UInt32) (h r : Bs) : Bs := [1] ++ stw r ++ chain K h r
theorem chain_len (K : List UInt32) (h r : Bs) : (chain K h r).length = 32 := sumK_len K _
attribute [local irreducible] chain stw
/-- A tape in a block of the call's own. -/
def OwT (T : TypeId) (rest : List Value) (b : Nat) (recs : List Str) (head : Bs) (size : Nat) (L : Blocks) : Prop :=
  ∃ rv ob, L = (b, .cells (rv :: strV head :: .int .i64 size :: rest).toArray T (0, 0)) :: ob ∧ Ows 9 rv recs ob
theorem stw_len {s : Bs} (h : s.length ≤ 65536) : (stw s).length ≤ 65545 := by
  have hw : wOk (s.length : Int) := by unfold wOk; omega
  have hl := ibs_len hw
  unfold stw
  rw [List.length_append]
  omega
set_option maxHeartbeats 1600000 in
theorem tadd_con {T : TypeId} {rest : List Value} {b : Nat} {recs : List Str} {head : Bs} {size : Nat} {L : Blocks} (h : OwT T rest b recs head size L) (r : Bs) (K : List UInt32) (S : SH)
    (hr : r.length ≤ 65536) (hh : head.length = 32) (hs : size ≤ 1000000000000) (hn : recs.length ≤ 1000000000) (hK : Pts S ⟨4, 0, none⟩ (cellsOf K)) (hKl : K.length = 64) :
    Con Tryz.prog 46 #[.pointer (some ⟨b, 0, none⟩), strV r] S L (fun S' L' v => OwT T rest b (recs ++ [⟨r⟩]) (chain K head r) (size + (stored K head r).length) L' ∧ v = strV (stored K head r)) := by
  obtain ⟨rv, ob, rfl, ho⟩ := h
  refine con_of (args := [.pointer (some ⟨b, 0, none⟩), strV r]) Tryz.func46 rfl Tryz.ntmps46 rfl fun w => ?_
  obtain ⟨A, c, rfl⟩ := ho.form
  have h0 : head ≠ [] := by intro e; rw [e] at hh; cases hh
  have hc : Con Tryz.prog 93 #[strV head, strV r] S [] (fun S' L' v => L' = [] ∧ v = strV (chain K head r)) := by
    have := Chain_con head r K S h0 (by omega) (by omega) hK hKl
    unfold chain
    exact this
  have hpv : ∀ S', Con Tryz.prog 94 #[strV r] S' [] (X.Pure S' (.tuple #[strV (stw r), .int .i64 0])) := fun S' => (PutString_con r S' (by omega)).eq (if_pos hr)
  have hsl := stw_len hr
  have hcl := chain_len K head r
  have hst : (stored K head r).length = 1 + (stw r).length + 32 := by unfold stored; simp [hcl]; omega
  (repeat (first | refine Jc ?_ | (apply s_evb; (case hg => rfl); (case hd => rfl); (case hn => rfl); (case he => (apply ev_nilCheck; rfl))) | ((apply z_call; rfl; rfl; rfl; exact hc; rintro S2 _ _ hle2 ⟨rfl, rfl⟩)) | (apply s_append (ms := [(⟨r⟩ : Str)]); (case hg => rfl); (case hd => rfl); (case hx => rfl); (case ho => exact ho); (case hL => (repeat (first | exact pm_nil _ | exact pm_refl _ _ | exact pm_self _ | apply pm_cons | apply pm_app))); (case hy => rfl); (case hm => rfl); (case hs => (apply Src.own; (repeat (first | exact List.Mem.head _ | apply List.Mem.tail | apply List.mem_append_right)))); (case hzs => rfl); (case h0 => decide); (case hb => (simp; omega)); (case h63 => (simp; omega)); intro v1 ob1 ho1; obtain ⟨A1, c1, rfl⟩ := ho1.form) | ((apply z_call; rfl; rfl; rfl; exact hpv _; rintro _ _ _ - ⟨rfl, rfl, rfl⟩)) | refine Jo ?_ | intro _))
  refine W.trim (F' := [(5, strV (stw r)), (0, .pointer (some ⟨b, 0, none⟩))]) (L' := ob1 ++ [(b, .cells (.slice A1 (recs ++ [(⟨r⟩ : Str)]).length c1 :: strV (chain K head r) :: .int .i64 size :: rest).toArray T (0, 0))]) sbF (show List.Sublist (ob1 ++ _) (ob1 ++ _) from List.Sublist.append (List.Sublist.refl _) (List.Sublist.cons _ (List.Sublist.refl _))) ?_
  refine W.perm ?_ (List.perm_append_comm (l₂ := [_]))
  (repeat (first | refine Jz ?_ | intro _))
  ((apply c_held ([(b, .cells (.slice A1 (recs ++ [(⟨r⟩ : Str)]).length c1 :: strV (chain K head r) :: .int .i64 size :: rest).toArray T (0, 0))]); (case hL => (exact sbT))); refine Jf 2 ?_; refine Jf 4 ?_; (apply h_first 5; (case hi => rfl); (case hr => kernel_rfl); (case hfr => kernel_rfl); (case hsel => kernel_rfl); (case hg => rfl); (case hd => rfl); (case he => (apply ev_nilCheck; rfl))); refine Jf 6 ?_; refine Jf 7 ?_; (apply h_one 0; (case hr => kernel_rfl)); (apply n_buildSlice; (case hi => rfl); (case hg => rfl); (case hd => rfl); (case i1 => infer_instance); (case i2 => infer_instance); (case i3 => infer_instance); (case hp => rfl); (case hq => rfl); (case hm => rfl); (case hv => rfl); (case hl => rfl); intro bl); (apply h_one 1; (case hr => kernel_rfl)); (apply n_ev; (case hi => rfl); (case hg => rfl); (case hd => rfl); (case he => (apply ev_str_own (B := [1]); (case hx => rfl); (case hm => exact List.Mem.head _); (case hk => exact Nat.le_refl _)))); (apply h_first 3; (case hi => rfl); (case hr => kernel_rfl); (case hfr => kernel_rfl); (case hsel => kernel_rfl); (case hg => rfl); (case hd => rfl); (case he => (apply ev_add_bs; (case hx => rfl); (case hy => rfl); (case h => (simp; omega))))); (apply h_first 8; (case hi => rfl); (case hr => kernel_rfl); (case hfr => kernel_rfl); (case hsel => kernel_rfl); (case hg => rfl); (case hd => rfl); (case he => (apply ev_add_bs; (case hx => rfl); (case hy => rfl); (case h => (simp; omega))))); refine Jf 9 ?_; (apply h_end; (case hr => kernel_rfl)))
  refine W.trim (F' := [(7, strV (stored K head r)), (0, .pointer (some ⟨b, 0, none⟩))]) (L' := (b, .cells (.slice A1 (recs ++ [(⟨r⟩ : Str)]).length c1 :: strV (chain K head r) :: .int .i64 size :: rest).toArray T (0, 0)) :: ob1) sbF (List.Sublist.cons _ (List.Sublist.refl _)) ?_
  have hout : (stored K head r).length ≤ 1000000 := by omega
  (repeat (first | refine Jc ?_ | (apply s_evb; (case hg => rfl); (case hd => rfl); (case hn => rfl); (case he => (apply ev_len_b; rfl))) | (apply s_evb; (case hg => rfl); (case hd => rfl); (case hn => rfl); (case he => (apply ev_nilCheck; rfl))) | refine Jo ?_ | intro _))
  exact o_ret Tryz.results46 rfl (List.Sublist.refl _) ⟨⟨_, ob1, rfl, ho1⟩, rfl⟩
end Go.Proofs.YtnlfohlngapkfaaGreatDoor
namespace Go.Proofs.YtnlfohlngapkfaaGreatDoor
open Go Go.X
set_option maxRecDepth 10000
set_option linter.unusedVariables false
attribute [local irreducible] Code.wpIn wpListIn Exit.then Exit.inBlock X.Out X.Back X.W X.Ev X.Con X.BinV X.Wh X.Wn X.Wq
attribute [local irreducible] sumK chain stw
/-- What journal.first does: the calls up to the first error. -/
def firstP {σ : Type} (run : Nat → σ → σ × Int) : Nat → Nat → σ → σ × Int
  | 0, _, s => (s, 0)
  | n + 1, i, s => if (run i s).2 ≠ 0 then run i s else firstP run n (i + 1) (run i s).1
theorem first_con {σ : Type} (I : Nat → σ → Blocks → Prop) (fs : List Fv) (run : Nat → σ → σ × Int) (S : SH) (hf : ∀ x ∈ fs, Fun Tryz.prog x.f)
    (hc : ∀ (i : Nat) (x : Fv) (s : σ) (L : Blocks), fs[i]? = some x → I i s L → Con Tryz.prog x.f (x.fix ++ ([] ++ x.caps)).toArray S L (fun S' L' v => S' = S ∧ I (i + 1) (run i s).1 L' ∧ v = .int .i64 (run i s).2))
    (s0 : σ) (L0 : Blocks) (hI : I 0 s0 L0) (A : Option Addr) (c : Nat) (hA : At S A fs) (hl : fs.length ≤ 1000000) :
    Con Tryz.prog 48 #[.slice A fs.length c] S L0 (fun S' L' v => S' = S ∧ (∃ i, I i (firstP run fs.length 0 s0).1 L') ∧ v = .int .i64 (firstP run fs.length 0 s0).2) := by
  refine con_of (args := [.slice A fs.length c]) Tryz.func48 rfl Tryz.ntmps48 rfl fun w => ?_
  (repeat (first | refine Jz ?_ | intro _))
  refine c_loop (fun m S' L F => S' = S ∧ ∃ (k : Nat) (s : σ), m = fs.length - k ∧ k ≤ fs.length ∧ firstP run (fs.length - k) k s = firstP run fs.length 0 s0 ∧ I k s L ∧
      F = [(6, .slice A fs.length c), (7, .int .i64 fs.length), (8, .int .i64 k)]) ⟨rfl, 0, s0, rfl, by omega, rfl, hI, rfl⟩ sbF (List.Sublist.refl _) ?_
  rintro m S' L F ⟨rfl, k, s, rfl, hk1, he, hi, rfl⟩
  by_cases hlt : k < fs.length
  rotate_left
  · (repeat (first | refine Jz ?_ | intro _))
    rw [show fs.length - k = 0 by omega] at he
    rw [← he]
    exact o_ret Tryz.results48 rfl (List.Sublist.refl _) ⟨rfl, ⟨k, hi⟩, rfl⟩
  obtain ⟨x, hx⟩ : ∃ x, fs[k]? = some x := ⟨_, List.getElem?_eq_getElem hlt⟩
  have hmem := List.mem_of_getElem? hx
  rw [show fs.length - k = (fs.length - (k + 1)) + 1 by omega, firstP] at he
  have hcx := hc k x s L hx hi
  by_cases h0 : (run k s).2 = 0
  · rw [if_neg (by simp [h0])] at he
    rw [h0] at hcx
    (repeat (first | refine Jc ?_ | (apply s_idx hA; (case hg => rfl); (case hd => rfl); (case hx => rfl); (case hi => rfl); (case hm => rfl); (case hu => exact hx); intro q (hq : Pts _ q [x.val])) | (apply s_load1; (case hg => rfl); (case hd => rfl); (case hx => rfl); (case hv => exact hq)) | (apply s_callf (z := x) (hf x hmem); (case hg => rfl); (case hd => rfl); (case hx => rfl); (case ha => rfl); (case hc => exact hcx); (case hL => exact (List.Perm.of_eq (List.append_nil _).symm)); rintro S5 L5 v5 hle5 ⟨rfl, hi5, rfl⟩; rw [List.append_nil]) | refine Jo ?_ | intro _))
    refine q_back (m' := fs.length - (k + 1)) ⟨rfl, k + 1, _, rfl, by omega, he, hi5, rfl⟩ (by omega) sbF (List.Sublist.refl _)
  · rw [if_pos h0] at he
    (repeat (first | refine Jc ?_ | (apply s_idx hA; (case hg => rfl); (case hd => rfl); (case hx => rfl); (case hi => rfl); (case hm => rfl); (case hu => exact hx); intro q (hq : Pts _ q [x.val])) | (apply s_load1; (case hg => rfl); (case hd => rfl); (case hx => rfl); (case hv => exact hq)) | (apply s_callf (z := x) (hf x hmem); (case hg => rfl); (case hd => rfl); (case hx => rfl); (case ha => rfl); (case hc => exact hcx); (case hL => exact (List.Perm.of_eq (List.append_nil _).symm)); rintro S5 L5 v5 hle5 ⟨rfl, hi5, rfl⟩; rw [List.append_nil]) | refine Jo ?_ | intro _))
    rw [he] at hi5
    exact o_ret Tryz.results48 rfl (List.Sublist.refl _) ⟨rfl, ⟨_, hi5⟩, by rw [he]⟩
end Go.Proofs.YtnlfohlngapkfaaGreatDoor
namespace Go.Proofs.YtnlfohlngapkfaaGreatDoor
open Go Go.X
set_option maxRecDepth 10000
set_option linter.unusedVariables false
attribute [local irreducible] Code.wpIn wpListIn Exit.then Exit.inBlock X.Out X.Back X.W X.Ev X.Con X.BinV X.Wh X.Wn X.Wq
attribute [local irreducible] sumK chain stw
instance ptrJournal : Ptr Tryz.prog 28 := ⟨by kernel_rfl⟩
/-- A journal as it stands. -/
structure Jn where
  recs : List Str
  head : Bs
  size : Nat
  broken : Bool
/-- A journal of the call's own, on a disk. -/
def OwJ (jv v : Value) (J : Jn) (L : Blocks) : Prop := ∃ b, jv = .pointer (some ⟨b, 0, none⟩) ∧ OwT 92 [v, .bool J.broken] b J.recs J.head J.size L
theorem Room_con {jv v : Value} {J : Jn} {D : Dk} {LJ LD : Blocks} (hJ : OwJ jv v J LJ) (hD : OwD v D LD) (S : SH) (h1 : J.size ≤ 1000000000) (h2 : D.dur.length ≤ 1000000000) :
    Con Tryz.prog 21 #[jv] S (LJ ++ LD) (fun S' L' r => S' = S ∧ ∃ LD', L' = LJ ++ LD' ∧ OwD v D LD' ∧ r = .int .i64 ((D.dur.length : Int) - J.size)) := by
  obtain ⟨b, rfl, rv, ob, rfl, ho⟩ := hJ
  refine con_of (args := [.pointer (some ⟨b, 0, none⟩)]) Tryz.func21 rfl Tryz.ntmps21 rfl fun w => ?_
  (repeat (first | refine Jc ?_ | (apply s_evb; (case hg => rfl); (case hd => rfl); (case hn => rfl); (case he => (apply ev_eql_p; (case hx => rfl); (case hy => rfl)))) | refine Jo ?_ | intro _))
  ((apply c_held ([(b, .cells [rv, strV J.head, .int .i64 J.size, v, .bool J.broken].toArray 92 (0, 0))]); (case hL => (exact sbT))); refine Jf 0 ?_; (apply h_first 1; (case hi => rfl); (case hr => kernel_rfl); (case hfr => kernel_rfl); (case hsel => kernel_rfl); (case hg => rfl); (case hd => rfl); (case he => (apply ev_nilCheck; rfl))); refine Jf 2 ?_; refine Jf 3 ?_; refine Jf 5 ?_; (apply h_first 6; (case hi => rfl); (case hr => kernel_rfl); (case hfr => kernel_rfl); (case hsel => kernel_rfl); (case hg => rfl); (case hd => rfl); (case he => (apply ev_nilCheck; rfl))); refine Jf 7 ?_; refine Jf 8 ?_; refine Jf 9 ?_; (apply h_one 4; (case hr => kernel_rfl)); (apply n_call; (case hi => rfl); (case i1 => infer_instance); (case hg => rfl); (case hd => rfl); (case ha => rfl); (case hc => exact Size_con hD S); (case hL => (repeat (first | exact pm_nil _ | exact pm_refl _ _ | exact pm_self _ | apply pm_cons | apply pm_app))); (case hsub => (intros; (exact sbT))); rintro _ LD1 _ - ⟨rfl, hD1, rfl⟩); refine Jf 10 ?_; refine Jf 11 ?_; (apply h_end; (case hr => kernel_rfl)))
  (repeat (first | refine Jz ?_ | intro _))
  refine W.perm ?_ (List.perm_append_comm (l₁ := LD1))
  exact o_ret Tryz.results21 rfl (List.Sublist.refl _) ⟨rfl, LD1, (by rw [List.append_nil]), hD1, rfl⟩
theorem writing_con (jv : Value) (bj : Nat) (at_ : Int) (s : Bs) (S : SH) (hj : jv = .pointer (some ⟨bj, 0, none⟩)) :
    Con Tryz.prog 49 #[jv, .int .i64 at_, strV s] S [] (fun S' L' r => S' = S ∧ ∃ b1 b2 b3, r = Fv.val ⟨95, [], [.pointer (some ⟨b1, 0, none⟩), .pointer (some ⟨b2, 0, none⟩), .pointer (some ⟨b3, 0, none⟩)]⟩ ∧ L' = [(b3, .cells [strV s].toArray 9 (0, 0)), (b2, .cells [.int .i64 at_].toArray 3 (0, 0)), (b1, .cells [jv].toArray 28 (0, 0))]) := by
  subst hj
  refine con_of (args := [.pointer (some ⟨bj, 0, none⟩), .int .i64 at_, strV s]) Tryz.func49 rfl Tryz.ntmps49 rfl fun w => ?_
  (repeat (first | refine Jz ?_ | intro _))
  rename_i b1 b2 b3
  exact o_ret Tryz.results49 rfl (List.Sublist.refl _) ⟨rfl, b1, b2, b3, rfl, rfl⟩
theorem writing1_con {b : Nat} {v : Value} {J : Jn} {D : Dk} {rv : Value} {LD : Blocks} (hD : OwD v D LD) (b1 b2 b3 : Nat) (at_ : Int) (s : Bs) (S : SH)
    (p1 : Pts S ⟨b1, 0, none⟩ [.pointer (some ⟨b, 0, none⟩)]) (p2 : Pts S ⟨b2, 0, none⟩ [.int .i64 at_]) (p3 : Pts S ⟨b3, 0, none⟩ [strV s]) (h1 : i64 at_) (hs : s.length ≤ 9223372036854775807) (hl : D.pend.length ≤ 1000000) :
    Con Tryz.prog 95 #[.pointer (some ⟨b1, 0, none⟩), .pointer (some ⟨b2, 0, none⟩), .pointer (some ⟨b3, 0, none⟩)] S ((b, .cells [rv, strV J.head, .int .i64 J.size, v, .bool J.broken].toArray 92 (0, 0)) :: LD)
      (fun S' L' r => S' = S ∧ (∃ LD', L' = (b, .cells [rv, strV J.head, .int .i64 J.size, v, .bool J.broken].toArray 92 (0, 0)) :: LD' ∧ OwD v (wrD D at_ s) LD') ∧ r = .int .i64 (wrE D at_ s)) := by
  refine con_of (args := [.pointer (some ⟨b1, 0, none⟩), .pointer (some ⟨b2, 0, none⟩), .pointer (some ⟨b3, 0, none⟩)]) Tryz.func95 rfl Tryz.ntmps95 rfl fun w => ?_
  (repeat (first | refine Jz ?_ | intro _))
  ((apply c_held ([(b, .cells [rv, strV J.head, .int .i64 J.size, v, .bool J.broken].toArray 92 (0, 0))]); (case hL => (exact sbT))); (apply h_first 0; (case hi => rfl); (case hr => kernel_rfl); (case hfr => kernel_rfl); (case hsel => kernel_rfl); (case hg => rfl); (case hd => rfl); (case he => (apply ev_load1; (case hx => rfl); (case h => exact p1)))); (apply h_first 1; (case hi => rfl); (case hr => kernel_rfl); (case hfr => kernel_rfl); (case hsel => kernel_rfl); (case hg => rfl); (case hd => rfl); (case he => (apply ev_nilCheck; rfl))); refine Jf 2 ?_; refine Jf 3 ?_; (apply h_first 4; (case hi => rfl); (case hr => kernel_rfl); (case hfr => kernel_rfl); (case hsel => kernel_rfl); (case hg => rfl); (case hd => rfl); (case he => (apply ev_load1; (case hx => rfl); (case h => exact p2)))); (apply h_first 5; (case hi => rfl); (case hr => kernel_rfl); (case hfr => kernel_rfl); (case hsel => kernel_rfl); (case hg => rfl); (case hd => rfl); (case he => (apply ev_load1; (case hx => rfl); (case h => exact p3)))); (apply h_one 6; (case hr => kernel_rfl)); (apply n_call; (case hi => rfl); (case i1 => infer_instance); (case hg => rfl); (case hd => rfl); (case ha => rfl); (case hc => exact Write_con hD S at_ s h1 hs hl); (case hL => (repeat (first | exact pm_nil _ | exact pm_refl _ _ | exact pm_self _ | apply pm_cons | apply pm_app))); (case hsub => (intros; (exact sbT))); rintro _ LD1 _ - ⟨rfl, hD1, rfl⟩); refine Jf 7 ?_; (apply h_end; (case hr => kernel_rfl)))
  (repeat (first | refine Jz ?_ | intro _))
  refine W.perm ?_ (List.perm_append_comm (l₁ := LD1))
  exact o_ret Tryz.results95 rfl (List.Sublist.refl _) ⟨rfl, ⟨LD1, rfl, hD1⟩, rfl⟩
end Go.Proofs.YtnlfohlngapkfaaGreatDoor
namespace Go.Proofs.YtnlfohlngapkfaaGreatDoor
open Go Go.X
set_option maxRecDepth 10000
set_option linter.unusedVariables false
attribute [local irreducible] Code.wpIn wpListIn Exit.then Exit.inBlock X.Out X.Back X.W X.Ev X.Con X.BinV X.Wh X.Wn X.Wq
attribute [local irreducible] sumK chain stw
/-- slices.Clone of a slice of the call's own. -/
theorem sCloneO_con {v : Value} {l : List Str} {ob : Blocks} (ho : Ows 9 v l ob) (S : SH) (hl : l.length ≤ 1000000) : Con Tryz.prog 44 #[v] S ob (fun S' L' r => S' = S ∧ ∃ ob2, L' = ob ++ ob2 ∧ Ows 9 r l ob2) := by
  refine con_of (args := [v]) Tryz.func44 rfl Tryz.ntmps44 rfl fun w => ?_
  have hone : Cl.size Str = 1 := rfl
  rcases ho with ⟨rfl, rfl, rfl⟩ | ⟨gb, cap, cur, rfl, rfl, h1, h2, h3, h4⟩
  · (repeat (first | refine Jc ?_ | (apply s_evb; (case hg => rfl); (case hd => rfl); (case hn => rfl); (case he => ((apply ev_eql_nilsl; (case hx => rfl); (case hy => rfl))))) | refine Jo ?_ | intro _))
    exact o_ret (L' := []) Tryz.results44 rfl (List.nil_sublist _) ⟨rfl, [], rfl, Ows.nil 9⟩
  · (repeat (first | refine Jc ?_ | (apply s_evb; (case hg => rfl); (case hd => rfl); (case hn => rfl); (case he => ((apply ev_eql_nilsl; (case hx => rfl); (case hy => rfl))))) | (apply s_append (ms := l); (case hg => rfl); (case hd => rfl); (case hx => rfl); (case ho => exact Ows.full (α := Str) (l := []) rfl (by decide)); (case hL => exact List.Perm.refl _); (case hy => rfl); (case hm => rfl); (case hs => (refine Src.pre (tl := cur.toList.drop (l.length * Cl.size Str)) ?_; rw [← h4, List.take_append_drop]; exact Src.own (cs := cur.toList) (List.mem_cons_of_mem _ List.mem_cons_self))); (case hzs => rfl); (case h0 => decide); (case hb => (simp; omega)); (case h63 => (simp; omega)); intro v' ob' ho') | refine Jo ?_ | intro _))
    refine W.perm ?_ List.perm_append_comm
    exact o_ret (L' := _ ++ ob') Tryz.results44 rfl (List.Sublist.refl _) ⟨rfl, ob', rfl, ho'⟩
theorem Records_con {jv v : Value} {J : Jn} {LJ : Blocks} (hJ : OwJ jv v J LJ) (S : SH) (hl : J.recs.length ≤ 1000000) :
    Con Tryz.prog 20 #[jv] S LJ (fun S' L' r => S' = S ∧ ∃ ob2, L' = LJ ++ ob2 ∧ Ows 9 r J.recs ob2) := by
  obtain ⟨b, rfl, rv, ob, rfl, ho⟩ := hJ
  refine con_of (args := [.pointer (some ⟨b, 0, none⟩)]) Tryz.func20 rfl Tryz.ntmps20 rfl fun w => ?_
  (repeat (first | refine Jc ?_ | (apply s_evb; (case hg => rfl); (case hd => rfl); (case hn => rfl); (case he => (apply ev_eql_p; (case hx => rfl); (case hy => rfl)))) | (apply s_evb; (case hg => rfl); (case hd => rfl); (case hn => rfl); (case he => (apply ev_nilCheck; rfl))) | (apply s_call (L2 := [(b, .cells [rv, strV J.head, .int .i64 J.size, v, .bool J.broken].toArray 92 (0, 0))]); (case hg => rfl); (case hd => rfl); (case ha => rfl); (case hc => exact sCloneO_con ho S hl); (case hL => exact List.perm_append_comm (l₁ := [_])); rintro S3 L3 v3 hle3 ⟨rfl, ob2, rfl, ho2⟩) | refine Jo ?_ | intro _))
  refine W.perm ?_ (List.perm_append_comm (l₂ := [_]))
  exact o_ret Tryz.results20 rfl (List.Sublist.refl _) ⟨rfl, ob2, rfl, ho2⟩
def isLong (s : Str) : Bool := decide (65536 < s.b.length)
theorem isLong_con (s : Str) (S : SH) : Con Tryz.prog 42 #[strV s.b] S [] (X.Pure S (.bool (isLong s))) := by
  refine con_of (args := [strV s.b]) Tryz.func42 rfl Tryz.ntmps42 rfl fun w => ?_
  unfold isLong
  by_cases h : 65536 < s.b.length
  · (repeat (first | refine Jc ?_ | (apply s_evb; (case hg => rfl); (case hd => rfl); (case hn => rfl); (case he => (apply ev_len_b; rfl))) | refine Jo ?_ | intro _))
    exact o_ret Tryz.results42 rfl (List.nil_sublist _) ⟨rfl, rfl, by rw [decide_eq_true h]⟩
  · (repeat (first | refine Jc ?_ | (apply s_evb; (case hg => rfl); (case hd => rfl); (case hn => rfl); (case he => (apply ev_len_b; rfl))) | refine Jo ?_ | intro _))
    exact o_ret Tryz.results42 rfl (List.nil_sublist _) ⟨rfl, rfl, by rw [decide_eq_false h]⟩
theorem sIndex_con (l : List Str) (A : Option Addr) (c : Nat) (S : SH) (hA : At S A l) (hl : l.length ≤ 1000000) :
    Con Tryz.prog 91 #[.slice A l.length c, .func (.func 42) #[] #[]] S [] (fun S' L' r => S' = S ∧ L' = [] ∧ ∃ i : Int, r = .int .i64 i ∧ (l.any isLong = true ∧ 0 ≤ i ∨ l.any isLong = false ∧ i < 0)) := by
  refine con_of (args := [.slice A l.length c, .func (.func 42) #[] #[]]) Tryz.func91 rfl Tryz.ntmps91 rfl fun w => ?_
  (repeat (first | refine Jz ?_ | intro _))
  refine c_loop (fun m S' L F => S' = S ∧ L = [] ∧ ∃ (k : Nat), m = l.length - k ∧ k ≤ l.length ∧ ((l.take k).any isLong = false) ∧
      F = [(0, .slice A l.length c), (1, .func (.func 42) #[] #[]), (7, .int .i64 l.length), (8, .int .i64 k)]) ⟨rfl, rfl, 0, rfl, by omega, by simp, rfl⟩ sbF (List.nil_sublist _) ?_
  rintro m S' L F ⟨rfl, rfl, k, rfl, hk1, hi, rfl⟩
  by_cases hlt : k < l.length
  rotate_left
  · (repeat (first | refine Jz ?_ | intro _))
    rw [List.take_of_length_le (by omega)] at hi
    exact o_ret Tryz.results91 rfl (List.nil_sublist _) ⟨rfl, rfl, _, rfl, .inr ⟨hi, by omega⟩⟩
  obtain ⟨x, hx⟩ : ∃ x, l[k]? = some x := ⟨_, List.getElem?_eq_getElem hlt⟩
  have hcx := isLong_con x S'
  cases hlg : isLong x
  · rw [hlg] at hcx
    (repeat (first | refine Jc ?_ | (apply s_idx hA; (case hg => rfl); (case hd => rfl); (case hx => rfl); (case hi => rfl); (case hm => rfl); (case hu => exact hx); intro q (hq : Pts _ q [strV x.b])) | (apply s_load1; (case hg => rfl); (case hd => rfl); (case hx => rfl); (case hv => exact hq)) | (apply s_callw (caps := []); (case hg => rfl); (case hd => rfl); (case hx => rfl); (case i1 => infer_instance); (case ha => rfl); (case hc => exact hcx); (case hL => (repeat (first | exact pm_nil _ | exact pm_refl _ _ | exact pm_self _ | apply pm_cons | apply pm_app))); rintro _ _ _ - ⟨rfl, rfl, rfl⟩) | refine Jo ?_ | intro _))
    refine q_back (L' := []) (m' := l.length - (k + 1)) ⟨rfl, rfl, k + 1, rfl, by omega, ?_, rfl⟩ (by omega) sbF (List.nil_sublist _)
    rw [List.take_add_one, hx, List.any_append, hi]
    simp [hlg]
  · rw [hlg] at hcx
    (repeat (first | refine Jc ?_ | (apply s_idx hA; (case hg => rfl); (case hd => rfl); (case hx => rfl); (case hi => rfl); (case hm => rfl); (case hu => exact hx); intro q (hq : Pts _ q [strV x.b])) | (apply s_load1; (case hg => rfl); (case hd => rfl); (case hx => rfl); (case hv => exact hq)) | (apply s_callw (caps := []); (case hg => rfl); (case hd => rfl); (case hx => rfl); (case i1 => infer_instance); (case ha => rfl); (case hc => exact hcx); (case hL => (repeat (first | exact pm_nil _ | exact pm_refl _ _ | exact pm_self _ | apply pm_cons | apply pm_app))); rintro _ _ _ - ⟨rfl, rfl, rfl⟩) | refine Jo ?_ | intro _))
    exact o_ret Tryz.results91 rfl (List.nil_sublist _) ⟨rfl, rfl, _, rfl, .inl ⟨List.any_eq_true.2 ⟨x, List.mem_of_getElem? hx, hlg⟩, by omega⟩⟩
theorem sContains_con (l : List Str) (A : Option Addr) (c : Nat) (S : SH) (hA : At S A l) (hl : l.length ≤ 1000000) :
    Con Tryz.prog 43 #[.slice A l.length c, .func (.func 42) #[] #[]] S [] (X.Pure S (.bool (l.any isLong))) := by
  refine con_of (args := [.slice A l.length c, .func (.func 42) #[] #[]]) Tryz.func43 rfl Tryz.ntmps43 rfl fun w => ?_
  have hc := sIndex_con l A c S hA hl
  (repeat (first | refine Jc ?_ | ((apply z_call; rfl; rfl; rfl; exact hc; rintro S1 L1 v1 hle1 ⟨rfl, rfl, i, rfl, hi⟩); rcases hi with ⟨e, hi⟩ | ⟨e, hi⟩) | refine Jo ?_ | intro _))
  all_goals (repeat (first | refine Jz ?_ | intro _))
  all_goals exact o_ret Tryz.results43 rfl (List.nil_sublist _) ⟨rfl, rfl, by rw [e]⟩
end Go.Proofs.YtnlfohlngapkfaaGreatDoor
namespace Go.Proofs.YtnlfohlngapkfaaGreatDoor
open Go Go.X
set_option maxRecDepth 10000
set_option linter.unusedVariables false
attribute [local irreducible] Code.wpIn wpListIn Exit.then Exit.inBlock X.Out X.Back X.W X.Ev X.Con X.BinV X.Wh X.Wn X.Wq
attribute [local irreducible] sumK chain stw
/-- String of a builder that nothing was written to. -/
theorem String0_con (b : Nat) (p : Value) (S : SH) :
    Con Tryz.prog 47 #[.pointer (some ⟨b, 0, none⟩)] S [(b, .cells [p, .slice none 0 0].toArray 96 (0, 0))] (fun S' L' r => S' = S ∧ L' = [] ∧ r = strV []) := by
  refine con_of (args := [.pointer (some ⟨b, 0, none⟩)]) Tryz.func47 rfl Tryz.ntmps47 rfl fun w => ?_
  (repeat (first | refine Jz ?_ | intro _))
  ((apply c_held ([(b, .cells [p, .slice none 0 0].toArray 96 (0, 0))]); (case hL => (exact sbT))); refine Jf 0 ?_; refine Jf 1 ?_; refine Jf 2 ?_; refine Jf 3 ?_; (apply h_first 4; (case hi => rfl); (case hr => kernel_rfl); (case hfr => kernel_rfl); (case hsel => kernel_rfl); (case hg => rfl); (case hd => rfl); (case he => (apply ev_sliceData0; (case hx => rfl)))); refine Jf 5 ?_; refine Jf 6 ?_; refine Jf 7 ?_; refine Jf 8 ?_; refine Jf 9 ?_; (apply h_one 10; (case hr => kernel_rfl)); (apply n_ev; (case hi => rfl); (case hg => rfl); (case hd => rfl); (case he => (apply ev_unsafeString0; (case hx => rfl); (case hy => rfl)))); refine Jf 11 ?_; (apply h_end; (case hr => kernel_rfl)))
  (repeat (first | refine Jz ?_ | intro _))
  exact o_ret Tryz.results47 rfl (List.nil_sublist _) ⟨rfl, rfl, rfl⟩
/-- A broken journal, or a record that is too long. -/
theorem AppendBad_con {jv v : Value} {J : Jn} {LJ : Blocks} (hJ : OwJ jv v J LJ) (l : List Str) (A : Option Addr) (c : Nat) (S : SH) (hA : At S A l) (hl : l.length ≤ 1000000) (hb : J.broken = true ∨ l.any isLong = true) :
    Con Tryz.prog 11 #[jv, .slice A l.length c] S LJ (fun S' L' r => S' = S ∧ L' = LJ ∧ r = .int .i64 330) := by
  obtain ⟨b, rfl, rv, ob, rfl, ho⟩ := hJ
  refine con_of (args := [.pointer (some ⟨b, 0, none⟩), .slice A l.length c]) Tryz.func11 rfl Tryz.ntmps11 rfl fun w => ?_
  cases hbr : J.broken
  · have hc := sContains_con l A c S hA hl
    rw [hb.resolve_left (by rw [hbr]; decide)] at hc
    (repeat (first | refine Jc ?_ | (apply s_evb; (case hg => rfl); (case hd => rfl); (case hn => rfl); (case he => (apply ev_eql_p; (case hx => rfl); (case hy => rfl)))) | (apply s_evb; (case hg => rfl); (case hd => rfl); (case hn => rfl); (case he => (apply ev_nilCheck; rfl))) | ((apply z_call; rfl; rfl; rfl; exact hc; rintro _ _ _ - ⟨rfl, rfl, rfl⟩)) | refine Jo ?_ | intro _))
    exact o_ret Tryz.results11 rfl (List.Sublist.refl _) ⟨rfl, rfl, rfl⟩
  · (repeat (first | refine Jc ?_ | (apply s_evb; (case hg => rfl); (case hd => rfl); (case hn => rfl); (case he => (apply ev_eql_p; (case hx => rfl); (case hy => rfl)))) | (apply s_evb; (case hg => rfl); (case hd => rfl); (case hn => rfl); (case he => (apply ev_nilCheck; rfl))) | refine Jo ?_ | intro _))
    exact o_ret Tryz.results11 rfl (List.Sublist.refl _) ⟨rfl, rfl, rfl⟩
end Go.Proofs.YtnlfohlngapkfaaGreatDoor
namespace Go.Proofs.YtnlfohlngapkfaaGreatDoor
open Go Go.X
set_option maxRecDepth 10000
set_option linter.unusedVariables false
attribute [local irreducible] Code.wpIn wpListIn Exit.then Exit.inBlock X.Out X.Back X.W X.Ev X.Con X.BinV X.Wh X.Wn X.Wq
attribute [local irreducible] sumK chain stw
def gstep (K : List UInt32) (x : Bs × Bs) (r : Str) : Bs × Bs := (x.1 ++ stored K x.2 r.b, chain K x.2 r.b)
/-- How a group is stored, and the head behind it. -/
def group (K : List UInt32) (h : Bs) (l : List Str) : Bs × Bs := l.foldl (gstep K) ([], h)
theorem group_snoc (K : List UInt32) (h : Bs) (l : List Str) (r : Str) : group K h (l ++ [r]) = gstep K (group K h l) r := by
  unfold group; rw [List.foldl_append]; rfl
theorem group_take {K : List UInt32} {h : Bs} {l : List Str} {k : Nat} {r : Str} (hx : l[k]? = some r) : group K h (l.take (k + 1)) = gstep K (group K h (l.take k)) r := by
  rw [List.take_add_one, hx]; exact group_snoc K h _ r
theorem stored_len {K : List UInt32} {h r : Bs} (hr : r.length ≤ 65536) : 33 ≤ (stored K h r).length ∧ (stored K h r).length ≤ 65600 := by
  have h1 := stw_len hr
  have h2 := chain_len K h r
  unfold stored
  simp only [List.length_append, List.length_cons, List.length_nil]
  omega
theorem group_head {K : List UInt32} {h : Bs} (hh : h.length = 32) (l : List Str) : (group K h l).2.length = 32 := by
  rcases List.eq_nil_or_concat l with rfl | ⟨t, r, rfl⟩
  · exact hh
  · rw [List.concat_eq_append, group_snoc]; exact chain_len K _ _
theorem group_len {K : List UInt32} {h : Bs} (l : List Str) (hl : ∀ r ∈ l, r.b.length ≤ 65536) : ∀ k, k ≤ l.length → 33 * k ≤ (group K h (l.take k)).1.length ∧ (group K h (l.take k)).1.length ≤ 65600 * k
  | 0, _ => by simp [group]
  | k + 1, hk => by
    have ih := group_len (K := K) (h := h) l hl k (by omega)
    obtain ⟨x, hx⟩ : ∃ x, l[k]? = some x := ⟨_, List.getElem?_eq_getElem (by omega)⟩
    rw [group_take hx]
    have hs := stored_len (K := K) (h := (group K h (l.take k)).2) (hl x (List.mem_of_getElem? hx))
    simp only [gstep, List.length_append]
    omega
/-- What the four calls of Append do to the disk. -/
def app4 (size : Nat) (out : Bs) (i : Nat) (D : Dk) : Dk × Int :=
  if i = 0 then (wrD D (size + 1 : Nat) (out.drop 1), wrE D (size + 1 : Nat) (out.drop 1))
  else if i = 2 then (wrD D (size : Nat) (out.take 1), wrE D (size : Nat) (out.take 1))
  else (syncD D, if D.off then 321 else 0)
/-- What Append does to a journal that is not broken, no record being too long. -/
def appJ (K : List UInt32) (J : Jn) (D : Dk) (l : List Str) : Jn × Dk × Int :=
  if (D.dur.length : Int) - J.size < ((group K J.head l).1.length : Int) then (J, D, 331)
  else if (group K J.head l).1 = [] then (J, D, 0)
  else if (firstP (app4 J.size (group K J.head l).1) 4 0 D).2 ≠ 0 then ({ J with broken := true }, (firstP (app4 J.size (group K J.head l).1) 4 0 D))
  else (⟨J.recs ++ l, (group K J.head l).2, J.size + (group K J.head l).1.length, J.broken⟩, (firstP (app4 J.size (group K J.head l).1) 4 0 D))
theorem syncD_pend (D : Dk) : (syncD D).pend.length ≤ D.pend.length := by
  unfold syncD; split
  · exact Nat.le_refl _
  · exact Nat.zero_le _
theorem wrD_pend (D : Dk) (o : Int) (s : Bs) : (wrD D o s).pend.length ≤ D.pend.length + 1 := by
  unfold wrD; split <;> simp
/-- The four calls that write a group. -/
theorem four_con {b : Nat} {v : Value} {J : Jn} {D : Dk} {rv : Value} {LD : Blocks} (hD : OwD v D LD) (size : Nat) (out : Bs) (a1 a2 a3 a4 a5 a6 : Nat) (A : Option Addr) (c : Nat) (S : SH)
    (p1 : Pts S ⟨a1, 0, none⟩ [.pointer (some ⟨b, 0, none⟩)]) (p2 : Pts S ⟨a2, 0, none⟩ [.int .i64 (size + 1 : Nat)]) (p3 : Pts S ⟨a3, 0, none⟩ [strV (out.drop 1)])
    (p4 : Pts S ⟨a4, 0, none⟩ [.pointer (some ⟨b, 0, none⟩)]) (p5 : Pts S ⟨a5, 0, none⟩ [.int .i64 (size : Nat)]) (p6 : Pts S ⟨a6, 0, none⟩ [strV (out.take 1)])
    (hA : At S A [(⟨95, [], [.pointer (some ⟨a1, 0, none⟩), .pointer (some ⟨a2, 0, none⟩), .pointer (some ⟨a3, 0, none⟩)]⟩ : Fv), ⟨50, [v], []⟩, ⟨95, [], [.pointer (some ⟨a4, 0, none⟩), .pointer (some ⟨a5, 0, none⟩), .pointer (some ⟨a6, 0, none⟩)]⟩, ⟨50, [v], []⟩])
    (h1 : size ≤ 1000000000) (h2 : out.length ≤ 1000000000) (hl : D.pend.length ≤ 100000) :
    Con Tryz.prog 48 #[.slice A 4 c] S ((b, .cells [rv, strV J.head, .int .i64 J.size, v, .bool J.broken].toArray 92 (0, 0)) :: LD)
      (fun S' L' r => S' = S ∧ (∃ LD', L' = (b, .cells [rv, strV J.head, .int .i64 J.size, v, .bool J.broken].toArray 92 (0, 0)) :: LD' ∧ OwD v (firstP (app4 size out) 4 0 D).1 LD') ∧ r = .int .i64 (firstP (app4 size out) 4 0 D).2) := by
  have hfc := first_con (fun (i : Nat) (D' : Dk) L' => D'.pend.length ≤ 100000 + i ∧ ∃ LD', L' = (b, Obj.cells [rv, strV J.head, .int .i64 J.size, v, .bool J.broken].toArray 92 (0, 0)) :: LD' ∧ OwD v D' LD') _ (app4 size out) S ?_ ?_ D _ ⟨hl, LD, rfl, hD⟩ A c hA (show 4 ≤ 1000000 by decide)
  · refine hfc.mono fun S' L' r _ ⟨e1, ⟨i, hp, LD', e2, hD'⟩, e3⟩ => ⟨e1, ⟨LD', e2, hD'⟩, e3⟩
  · intro x hx
    simp only [List.mem_cons, List.not_mem_nil, or_false] at hx
    rcases hx with rfl | rfl | rfl | rfl <;> infer_instance
  · intro i x s L hx ⟨hp, LD1, e, hD1⟩
    subst e
    have hsync : Con Tryz.prog 50 #[v] S ((b, .cells [rv, strV J.head, .int .i64 J.size, v, .bool J.broken].toArray 92 (0, 0)) :: LD1) (fun S' L' r => S' = S ∧ (∃ LD', L' = (b, .cells [rv, strV J.head, .int .i64 J.size, v, .bool J.broken].toArray 92 (0, 0)) :: LD' ∧ OwD v (syncD s) LD') ∧ r = .int .i64 (if s.off then 321 else 0)) :=
      ((Sync_con hD1 S).frame (L2 := [_]) (List.perm_append_comm (l₁ := [_]))).out fun S' L1 r ⟨L2, e1, e2, hD2, e3⟩ => ⟨_ :: L2, by rw [e1]; exact List.perm_append_comm (l₂ := [_]), e2, ⟨L2, rfl, hD2⟩, e3⟩
    have hb1 : i64 ((size + 1 : Nat) : Int) := by unfold i64; omega
    have hb2 : i64 (size : Int) := by unfold i64; omega
    match i, hx with
    | 0, hx =>
      cases hx
      have hw := writing1_con (J := J) (rv := rv) hD1 a1 a2 a3 ((size + 1 : Nat) : Int) (out.drop 1) S p1 p2 p3 hb1 (by rw [List.length_drop]; omega) (by omega)
      exact hw.mono fun S' L' r _ ⟨e1, ⟨LD2, e2, hD2⟩, e3⟩ => ⟨e1, ⟨by have := wrD_pend s ((size + 1 : Nat) : Int) (out.drop 1); show (wrD _ _ _).pend.length ≤ _; omega, LD2, e2, hD2⟩, e3⟩
    | 1, hx =>
      cases hx
      exact hsync.mono fun S' L' r _ ⟨e1, ⟨LD2, e2, hD2⟩, e3⟩ => ⟨e1, ⟨by have := syncD_pend s; show (syncD _).pend.length ≤ _; omega, LD2, e2, hD2⟩, e3⟩
    | 2, hx =>
      cases hx
      have hw := writing1_con (J := J) (rv := rv) hD1 a4 a5 a6 (size : Int) (out.take 1) S p4 p5 p6 hb2 (by rw [List.length_take]; omega) (by omega)
      exact hw.mono fun S' L' r _ ⟨e1, ⟨LD2, e2, hD2⟩, e3⟩ => ⟨e1, ⟨by have := wrD_pend s (size : Int) (out.take 1); show (wrD _ _ _).pend.length ≤ _; omega, LD2, e2, hD2⟩, e3⟩
    | 3, hx =>
      cases hx
      exact hsync.mono fun S' L' r _ ⟨e1, ⟨LD2, e2, hD2⟩, e3⟩ => ⟨e1, ⟨by have := syncD_pend s; show (syncD _).pend.length ≤ _; omega, LD2, e2, hD2⟩, e3⟩
    | i + 4, hx => cases hx
end Go.Proofs.YtnlfohlngapkfaaGreatDoor
namespace Go.Proofs.YtnlfohlngapkfaaGreatDoor
open Go Go.X
set_option maxRecDepth 10000
set_option linter.unusedVariables false
attribute [local irreducible] Code.wpIn wpListIn Exit.then Exit.inBlock X.Out X.Back X.W X.Ev X.Con X.BinV X.Wh X.Wn X.Wq
attribute [local irreducible] sumK chain stw group stored
theorem perm7 (p7 p6 p : Nat × Obj) (ob ob2 LD : Blocks) : (p7 :: (ob ++ ob2 ++ p6 :: p :: LD)).Perm ((p6 :: ob2) ++ ([p7] ++ (p :: (ob ++ LD)))) := by
  rw [List.append_assoc]
  have e1 : (ob2 ++ p6 :: p :: LD).Perm (p6 :: (ob2 ++ p :: LD)) := List.perm_middle
  have e2 : (ob ++ p6 :: (ob2 ++ p :: LD)).Perm (p6 :: (ob ++ (ob2 ++ p :: LD))) := List.perm_middle
  have e3 : (ob ++ (ob2 ++ p :: LD)).Perm (ob2 ++ (ob ++ p :: LD)) := by rw [← List.append_assoc, ← List.append_assoc]; exact List.perm_append_comm.append_right _
  have e4 : (ob ++ p :: LD).Perm (p :: (ob ++ LD)) := List.perm_middle
  have e5 : (ob2 ++ p7 :: (p :: (ob ++ LD))).Perm (p7 :: (ob2 ++ (p :: (ob ++ LD)))) := List.perm_middle
  exact ((((e1.append_left ob).trans e2).cons p7).trans (List.Perm.swap _ _ _)).trans ((((e3.trans (e4.append_left ob2)).cons p7).trans e5.symm).cons p6)
theorem permE (p q : Nat × Obj) (LD2 ob obT : Blocks) : ((p :: LD2) ++ (ob ++ q :: obT)).Perm (((p :: obT) ++ LD2) ++ (q :: ob)) := by
  have e1 : (ob ++ q :: obT).Perm (obT ++ (q :: ob)) := (List.perm_middle.trans (List.perm_append_comm.cons q)).trans List.perm_middle.symm
  refine List.Perm.cons p ?_
  show (LD2 ++ (ob ++ q :: obT)).Perm ((obT ++ LD2) ++ (q :: ob))
  refine (e1.append_left LD2).trans ?_
  rw [← List.append_assoc]
  exact List.perm_append_comm.append_right _
theorem permF (p : Nat × Obj) (LD2 ob LT : Blocks) : ((p :: LD2) ++ (ob ++ LT)).Perm (((p :: ob) ++ LD2) ++ LT) := by
  refine List.Perm.cons p ?_
  show (LD2 ++ (ob ++ LT)).Perm ((ob ++ LD2) ++ LT)
  rw [← List.append_assoc]
  exact List.perm_append_comm.append_right _
theorem pm_app9 (ob LD LT : Blocks) : (ob ++ (LD ++ LT)).Perm (LD ++ (ob ++ LT)) := by
  rw [← List.append_assoc, ← List.append_assoc]
  exact List.perm_append_comm.append_right _
set_option maxHeartbeats 3200000 in
theorem Append_con {jv v : Value} {J : Jn} {D : Dk} {LJ LD : Blocks} (hJ : OwJ jv v J LJ) (hD : OwD v D LD) (K : List UInt32) (l : List Str) (A : Option Addr) (c : Nat) (S : SH) (hA : At S A l) (hl : l.length ≤ 1000) (hbr : J.broken = false) (hlg : l.any isLong = false)
    (hh : J.head.length = 32) (hsz : J.size ≤ 1000000000) (hrl : J.recs.length ≤ 100000) (hdl : D.dur.length ≤ 1000000000) (hpl : D.pend.length ≤ 100000) (hK : Pts S ⟨4, 0, none⟩ (cellsOf K)) (hKl : K.length = 64) :
    Con Tryz.prog 11 #[jv, .slice A l.length c] S (LJ ++ LD) (fun S' L' r => ∃ LJ' LD', L' = LJ' ++ LD' ∧ OwJ jv v (appJ K J D l).1 LJ' ∧ OwD v (appJ K J D l).2.1 LD' ∧ r = .int .i64 (appJ K J D l).2.2) := by
  obtain ⟨b, rfl, rv, ob, rfl, ho⟩ := hJ
  refine con_of (args := [.pointer (some ⟨b, 0, none⟩), .slice A l.length c]) Tryz.func11 rfl Tryz.ntmps11 rfl fun w => ?_
  have hsh : ∀ r ∈ l, r.b.length ≤ 65536 := fun r hr => by
    have := List.any_eq_false.1 hlg r hr
    simp only [isLong, decide_eq_true_eq] at this
    omega
  have hc := sContains_con l A c S hA (by omega)
  rw [hlg] at hc
  rw [hbr]
  obtain ⟨A0, c0, rfl⟩ := ho.form
  (repeat (first | refine Jc ?_ | (apply s_evb; (case hg => rfl); (case hd => rfl); (case hn => rfl); (case he => (apply ev_eql_p; (case hx => rfl); (case hy => rfl)))) | (apply s_evb; (case hg => rfl); (case hd => rfl); (case hn => rfl); (case he => (apply ev_nilCheck; rfl))) | ((apply z_call; rfl; rfl; rfl; exact hc; rintro _ _ _ - ⟨rfl, rfl, rfl⟩)) | (apply s_evb; (case hg => rfl); (case hd => rfl); (case hn => rfl); (case he => ((apply ev_load_src_ag (p := ⟨b, 0, none⟩) (cs := [.slice A0 J.recs.length c0, strV J.head, .int .i64 J.size]); (case hx => rfl); (case h => exact Src.pre (tl := [v, .bool false]) (Src.own (T := 92) (fz := (0, 0)) (List.Mem.head _))); (case hl => rfl))))) | (apply s_call (L2 := _ :: (b, .cells [.slice A0 J.recs.length c0, strV J.head, .int .i64 J.size, v, .bool false].toArray 92 (0, 0)) :: LD); (case hg => rfl); (case hd => rfl); (case ha => rfl); (case hc => exact sCloneO_con ho S (by omega)); (case hL => exact pm_cons (pm_cons (List.Perm.refl _))); rintro S3 L3 v3 hle3 ⟨rfl, ob2, rfl, ho2⟩; obtain ⟨A2, c2, rfl⟩ := ho2.form) | refine Jo ?_ | intro _))
  rename_i b6 b7
  refine W.perm ?_ (perm7 _ _ _ ob ob2 LD)
  obtain ⟨X, hX⟩ : ∃ X : Blocks, X = (b, .cells [.slice A0 J.recs.length c0, strV J.head, .int .i64 J.size, v, .bool false].toArray 92 (0, 0)) :: (ob ++ LD) := ⟨_, rfl⟩
  have hT0 : OwT 90 [] b6 J.recs J.head J.size ((b6, .cells [.slice A2 J.recs.length c2, strV J.head, .int .i64 J.size].toArray 90 (0, 0)) :: ob2) := ⟨_, ob2, rfl, ho2⟩
  rw [← hX]
  have hgl := group_len (K := K) (h := J.head) l hsh
  refine c_loop (fun m S' L F => Le S3 S' ∧ ∃ (k : Nat) (LT LB : Blocks), m = l.length - k ∧ k ≤ l.length ∧ OwT 90 [] b6 (J.recs ++ l.take k) (group K J.head (l.take k)).2 (J.size + (group K J.head (l.take k)).1.length) LT ∧ OwB b7 (group K J.head (l.take k)).1 LB ∧ (k = 0 → LB = [(b7, .cells [.pointer none, .slice none 0 0].toArray 96 (0, 0))]) ∧ L = LT ++ (LB ++ X) ∧
      F = [(0, .pointer (some ⟨b, 0, none⟩)), (6, .pointer (some ⟨b6, 0, none⟩)), (7, .pointer (some ⟨b7, 0, none⟩)), (31, .slice A l.length c), (32, .int .i64 l.length), (33, .int .i64 k)]) ⟨Le.refl _, 0, _, _, rfl, Nat.zero_le _, (by unfold group; simpa using hT0), (by unfold group; exact OwB.new b7), fun _ => rfl, rfl, rfl⟩ sbF (List.Sublist.refl _) ?_
  rintro m S' L F ⟨hle', k, LT, LB, rfl, hk1, hT, hB, hB0, rfl, rfl⟩
  have hKS := hK.le hle'
  have hAS := hA.le hle'
  by_cases hlt : k < l.length
  · obtain ⟨x, hx⟩ : ∃ x, l[k]? = some x := ⟨_, List.getElem?_eq_getElem hlt⟩
    have hxl := hsh x (List.mem_of_getElem? hx)
    have hg1 := hgl k hk1
    have hsl := stored_len (K := K) (h := (group K J.head (l.take k)).2) hxl
    (repeat (first | refine Jc ?_ | (apply s_idx hAS; (case hg => rfl); (case hd => rfl); (case hx => rfl); (case hi => rfl); (case hm => rfl); (case hu => exact hx); intro q (hq : Pts _ q [strV x.b])) | (apply s_load1; (case hg => rfl); (case hd => rfl); (case hx => rfl); (case hv => exact hq)) | (apply s_call (L2 := LB ++ X); (case hg => rfl); (case hd => rfl); (case ha => rfl); (case hc => exact tadd_con hT x.b K S' hxl (group_head hh _) (by omega) (by rw [List.length_append, List.length_take]; omega) hKS hKl); (case hL => exact List.Perm.refl _); rintro S5 L5 v5 hle5 ⟨hT5, rfl⟩) | (apply s_call (L2 := L5 ++ X); (case hg => rfl); (case hd => rfl); (case ha => rfl); (case hc => exact WriteString_con hB S5 (by omega)); (case hL => exact pm_app (List.Perm.refl _)); rintro S6 L6 v6 hle6 ⟨rfl, hB6⟩) | refine Jo ?_ | intro _))
    refine W.perm ?_ (pm_app (List.Perm.refl _) : (L6 ++ (L5 ++ X)).Perm (L5 ++ (L6 ++ X)))
    refine q_back (L' := L5 ++ (L6 ++ X)) (m' := l.length - (k + 1)) ⟨hle'.trans hle5, k + 1, L5, L6, rfl, by omega, ?_, ?_, by omega, rfl, rfl⟩ (by omega) sbF (List.Sublist.refl _)
    · rw [group_take hx, List.take_add_one, hx]
      simp only [gstep, List.length_append, ← Nat.add_assoc]
      rw [← List.append_assoc]
      exact hT5
    · rw [group_take hx]
      exact hB6
  obtain rfl : k = l.length := by omega
  rw [List.take_of_length_le (Nat.le_refl _)] at hT hB
  have hgk := hgl l.length (Nat.le_refl _)
  rw [List.take_of_length_le (Nat.le_refl _)] at hgk
  have hout0 : (group K J.head l).1 = [] ↔ l = [] := by
    constructor
    · intro e; rw [e] at hgk; simp at hgk; exact List.eq_nil_of_length_eq_zero (by omega)
    · rintro rfl; unfold group; rfl
  unfold appJ
  obtain ⟨out, hout⟩ : ∃ out, out = (group K J.head l).1 := ⟨_, rfl⟩
  obtain ⟨hd', hhd'⟩ : ∃ hd', hd' = (group K J.head l).2 := ⟨_, rfl⟩
  rw [← hout] at hT hB hgk hout0 ⊢
  rw [← hhd'] at hT ⊢
  have hStr : Con Tryz.prog 47 #[.pointer (some ⟨b7, 0, none⟩)] S' LB (fun S'' L'' r => S'' = S' ∧ L'' = [] ∧ r = strV out) := by
    by_cases h0 : out = []
    · have := hB0 (by rw [hout0.1 h0]; rfl)
      rw [this, h0]
      exact String0_con b7 _ S'
    · exact String_con hB S' h0 (by omega)
  have hJ1 : OwJ (.pointer (some ⟨b, 0, none⟩)) v J ((b, .cells [.slice A0 J.recs.length c0, strV J.head, .int .i64 J.size, v, .bool false].toArray 92 (0, 0)) :: ob) := ⟨b, rfl, _, ob, by rw [hbr], ho⟩
  have hX2 : X = ((b, .cells [.slice A0 J.recs.length c0, strV J.head, .int .i64 J.size, v, .bool false].toArray 92 (0, 0)) :: ob) ++ LD := hX
  by_cases hroom : (D.dur.length : Int) - J.size < (out.length : Int)
  · rw [if_pos hroom]
    (repeat (first | refine Jc ?_ | (apply s_call (L2 := LT ++ X); (case hg => rfl); (case hd => rfl); (case ha => rfl); (case hc => exact hStr); (case hL => exact pm_app (List.Perm.refl _)); rintro S8 L8 v8 hle8 ⟨rfl, rfl, rfl⟩) | (apply s_evb; (case hg => rfl); (case hd => rfl); (case hn => rfl); (case he => (apply ev_len_b; rfl))) | (apply s_call (L2 := LT); (case hg => rfl); (case hd => rfl); (case ha => rfl); (case hc => exact Room_con hJ1 hD _ hsz hdl); (case hL => rw [List.nil_append, hX2]; exact (List.perm_append_comm (l₁ := LT))); rintro S9 L9 v9 hle9 ⟨rfl, LD1, rfl, hD1, rfl⟩) | refine Jo ?_ | intro _))
    exact o_ret Tryz.results11 rfl (List.sublist_append_left _ _) ⟨_, LD1, rfl, hJ1, hD1, rfl⟩
  rw [if_neg hroom]
  by_cases h0 : out = []
  · rw [if_pos h0]
    subst h0
    (repeat (first | refine Jc ?_ | (apply s_call (L2 := LT ++ X); (case hg => rfl); (case hd => rfl); (case ha => rfl); (case hc => exact hStr); (case hL => exact pm_app (List.Perm.refl _)); rintro S8 L8 v8 hle8 ⟨rfl, rfl, rfl⟩) | (apply s_evb; (case hg => rfl); (case hd => rfl); (case hn => rfl); (case he => (apply ev_len_b; rfl))) | (apply s_call (L2 := LT); (case hg => rfl); (case hd => rfl); (case ha => rfl); (case hc => exact Room_con hJ1 hD _ hsz hdl); (case hL => rw [List.nil_append, hX2]; exact (List.perm_append_comm (l₁ := LT))); rintro S9 L9 v9 hle9 ⟨rfl, LD1, rfl, hD1, rfl⟩) | (apply s_evb; (case hg => rfl); (case hd => rfl); (case hn => rfl); (case he => ((apply ev_eql_bs' (r := true) (a := []) (b := []); (case hx => rfl); (case hy => rfl); (case h => rfl))))) | refine Jo ?_ | intro _))
    exact o_ret Tryz.results11 rfl (List.sublist_append_left _ _) ⟨_, LD1, rfl, hJ1, hD1, rfl⟩
  rw [if_neg h0]
  have hne : (out == []) = false := by simp [h0]
  (repeat (first | refine Jc ?_ | (apply s_call (L2 := LT ++ X); (case hg => rfl); (case hd => rfl); (case ha => rfl); (case hc => exact hStr); (case hL => exact pm_app (List.Perm.refl _)); rintro S8 L8 v8 hle8 ⟨rfl, rfl, rfl⟩) | (apply s_evb; (case hg => rfl); (case hd => rfl); (case hn => rfl); (case he => (apply ev_len_b; rfl))) | (apply s_call (L2 := LT); (case hg => rfl); (case hd => rfl); (case ha => rfl); (case hc => exact Room_con hJ1 hD _ hsz hdl); (case hL => rw [List.nil_append, hX2]; exact (List.perm_append_comm (l₁ := LT))); rintro S9 L9 v9 hle9 ⟨rfl, LD1, rfl, hD1, rfl⟩) | (apply s_evb; (case hg => rfl); (case hd => rfl); (case hn => rfl); (case he => ((apply ev_eql_bs' (r := false) (a := out) (b := []); (case hx => rfl); (case hy => rfl); (case h => exact hne))))) | refine Jo ?_ | intro _))
  have hpos : 1 ≤ out.length := by cases out with | nil => exact absurd rfl h0 | cons x r => simp
  refine W.perm ?_ (List.Perm.of_eq (show _ = (b, Obj.cells [.slice A0 J.recs.length c0, strV J.head, .int .i64 J.size, v, .bool false].toArray 92 (0, 0)) :: (ob ++ (LD1 ++ LT)) by simp))
  obtain ⟨rvT, obT, rfl, hoT⟩ := hT
  obtain ⟨A5, c5, rfl⟩ := hoT.form
  rcases hq : firstP (app4 J.size out) 4 0 D with ⟨D2, e⟩
  ((apply c_held ([(b, .cells [.slice A0 J.recs.length c0, strV J.head, .int .i64 J.size, v, .bool false].toArray 92 (0, 0))]); (case hL => (exact sbT))); refine Jf 0 ?_; refine Jf 1 ?_; (apply h_first 2; (case hi => rfl); (case hr => kernel_rfl); (case hfr => kernel_rfl); (case hsel => kernel_rfl); (case hg => rfl); (case hd => rfl); (case he => (apply ev_nilCheck; rfl))); refine Jf 3 ?_; refine Jf 4 ?_; refine Jf 5 ?_; refine Jf 6 ?_; refine Jf 7 ?_; (apply h_first 8; (case hi => rfl); (case hr => kernel_rfl); (case hfr => kernel_rfl); (case hsel => kernel_rfl); (case hg => rfl); (case hd => rfl); (case he => (apply ev_slice_bl (i := 1); (case hx => rfl); (case hy => rfl); (case hj => exact hpos)))); refine Jf 10 ?_; (apply h_first 11; (case hi => rfl); (case hr => kernel_rfl); (case hfr => kernel_rfl); (case hsel => kernel_rfl); (case hg => rfl); (case hd => rfl); (case he => (apply ev_nilCheck; rfl))); refine Jf 12 ?_; refine Jf 13 ?_; (apply h_first 14; (case hi => rfl); (case hr => kernel_rfl); (case hfr => kernel_rfl); (case hsel => kernel_rfl); (case hg => rfl); (case hd => rfl); (case he => (apply ev_makeFunc; (case h1 => rfl); (case h2 => rfl)))); refine Jf 15 ?_; refine Jf 16 ?_; (apply h_first 17; (case hi => rfl); (case hr => kernel_rfl); (case hfr => kernel_rfl); (case hsel => kernel_rfl); (case hg => rfl); (case hd => rfl); (case he => (apply ev_nilCheck; rfl))); refine Jf 18 ?_; refine Jf 19 ?_; refine Jf 20 ?_; refine Jf 21 ?_; (apply h_first 22; (case hi => rfl); (case hr => kernel_rfl); (case hfr => kernel_rfl); (case hsel => kernel_rfl); (case hg => rfl); (case hd => rfl); (case he => (apply ev_slice_bh (j := 1); (case hx => rfl); (case hz => rfl); (case hj => exact hpos)))); refine Jf 24 ?_; (apply h_first 25; (case hi => rfl); (case hr => kernel_rfl); (case hfr => kernel_rfl); (case hsel => kernel_rfl); (case hg => rfl); (case hd => rfl); (case he => (apply ev_nilCheck; rfl))); refine Jf 26 ?_; refine Jf 27 ?_; (apply h_first 28; (case hi => rfl); (case hr => kernel_rfl); (case hfr => kernel_rfl); (case hsel => kernel_rfl); (case hg => rfl); (case hd => rfl); (case he => (apply ev_makeFunc; (case h1 => rfl); (case h2 => rfl)))); (apply h_one 9; (case hr => kernel_rfl)); ((apply n_call; (case hi => rfl); (case i1 => infer_instance); (case hg => rfl); (case hd => rfl); (case ha => rfl); (case hc => exact writing_con _ b ((J.size + 1 : Nat) : Int) (out.drop 1) S9 rfl); (case hL => (repeat (first | exact pm_nil _ | exact pm_refl _ _ | exact pm_self _ | apply pm_cons | apply pm_app))); (case hsub => (intros; (exact sbT))); rintro S10 _ _ - ⟨rfl, a1, a2, a3, rfl, rfl⟩); refine h_freeze sbL fun T3 ht3 hf3 => ?_; refine h_freeze sbL fun T2 ht2 hf2 => ?_; refine h_freeze sbL fun T1 ht1 hf1 => ?_); (apply h_one 23; (case hr => kernel_rfl)); ((apply n_call; (case hi => rfl); (case i1 => infer_instance); (case hg => rfl); (case hd => rfl); (case ha => rfl); (case hc => exact writing_con _ b (J.size : Int) (out.take 1) T1 rfl); (case hL => (repeat (first | exact pm_nil _ | exact pm_refl _ _ | exact pm_self _ | apply pm_cons | apply pm_app))); (case hsub => (intros; (exact sbT))); rintro S11 _ _ - ⟨rfl, a4, a5, a6, rfl, rfl⟩); refine h_freeze sbL fun U3 hu3 hg3 => ?_; refine h_freeze sbL fun U2 hu2 hg2 => ?_; refine h_freeze sbL fun U1 hu1 hg1 => ?_); (apply h_one 29; (case hr => kernel_rfl)); ((apply n_buildSlice; (case hi => rfl); (case hg => rfl); (case hd => rfl); (case i1 => infer_instance); (case i2 => infer_instance); (case i3 => infer_instance); (case hp => rfl); (case hq => rfl); (case hm => rfl); (case hv => rfl); (case hl => rfl); intro bl); refine h_freeze sbL fun V hv hfV => ?_); (apply h_one 30; (case hr => kernel_rfl)); (have hfour := four_con (J := J) (rv := .slice A0 J.recs.length c0) hD1 J.size out a1 a2 a3 a4 a5 a6 (some ⟨bl, 0, none⟩) 4 V (((((pts_block hf1 rfl).le hu3).le hu2).le hu1).le hv) ((((((pts_block hf2 rfl).le ht1).le hu3).le hu2).le hu1).le hv) (((((((pts_block hf3 rfl).le ht2).le ht1).le hu3).le hu2).le hu1).le hv) ((pts_block hg1 rfl).le hv) (((pts_block hg2 rfl).le hu1).le hv) ((((pts_block hg3 rfl).le hu2).le hu1).le hv) (fun _ => ⟨_, rfl, pts_block hfV rfl⟩) hsz (by omega) hpl; rw [hbr, hq] at hfour; (apply n_callR (L2 := ob ++ ((b6, .cells [.slice A5 (J.recs ++ l).length c5, strV hd', .int .i64 (J.size + out.length : Nat)].toArray 90 (0, 0)) :: obT)); (case hi => rfl); (case i1 => infer_instance); (case hg => rfl); (case hd => rfl); (case ha => rfl); (case hc => exact hfour); (case hL => exact List.Perm.cons _ (pm_app9 ob LD1 _)); (case hsub => (rintro S' L1' v' ⟨-, ⟨LD', rfl, -⟩, -⟩; exact sbL)); rintro S12 L12 v12 hle12 ⟨rfl, ⟨LD2, rfl, hD2⟩, rfl⟩)); refine Jf 31 ?_; (apply h_end; (case hr => kernel_rfl)))
  by_cases he : e = 0
  · rw [if_neg (show ¬((D2, e) : Dk × Int).2 ≠ 0 by simp [he])]
    subst he
    refine W.trim (F' := [(11, .int .i64 0), (0, .pointer (some ⟨b, 0, none⟩)), (6, .pointer (some ⟨b6, 0, none⟩))]) (L' := ((b, .cells [.slice A0 J.recs.length c0, strV J.head, .int .i64 J.size, v, .bool false].toArray 92 (0, 0)) :: LD2) ++ (ob ++ (b6, .cells [.slice A5 (J.recs ++ l).length c5, strV hd', .int .i64 (J.size + out.length : Nat)].toArray 90 (0, 0)) :: obT)) sbF (List.Sublist.refl _) ?_
    (repeat (first | refine Jc ?_ | (apply s_evb; (case hg => rfl); (case hd => rfl); (case hn => rfl); (case he => (apply ev_nilCheck; rfl))) | (apply s_store_mid (vs := [.slice A5 (J.recs ++ l).length c5, strV hd', .int .i64 (J.size + out.length : Nat)]); (case hg => rfl); (case hx => rfl); (case hy => rfl); (case h1 => rfl); (case hv => rfl); (case hL => exact Upd.head); (case hu => exact Nat.le_of_ble_eq_true rfl)) | refine Jo ?_ | intro _))
    refine W.perm ?_ (permE _ _ LD2 ob obT)
    exact o_ret Tryz.results11 rfl (List.sublist_append_left _ _) ⟨_, LD2, rfl, ⟨b, rfl, _, obT, (by rw [hbr]; rfl), hoT⟩, hD2, rfl⟩
  · rw [if_pos (show ((D2, e) : Dk × Int).2 ≠ 0 from he)]
    refine W.trim (F' := [(11, .int .i64 e), (0, .pointer (some ⟨b, 0, none⟩))]) (L' := ((b, .cells [.slice A0 J.recs.length c0, strV J.head, .int .i64 J.size, v, .bool false].toArray 92 (0, 0)) :: LD2) ++ (ob ++ (b6, .cells [.slice A5 (J.recs ++ l).length c5, strV hd', .int .i64 (J.size + out.length : Nat)].toArray 90 (0, 0)) :: obT)) sbF (List.Sublist.refl _) ?_
    (repeat (first | refine Jc ?_ | (apply s_evb; (case hg => rfl); (case hd => rfl); (case hn => rfl); (case he => (apply ev_nilCheck; rfl))) | refine Jo ?_ | intro _))
    refine W.perm ?_ (permF _ LD2 ob _)
    exact o_ret Tryz.results11 rfl (List.sublist_append_left _ _) ⟨_, LD2, rfl, ⟨b, rfl, _, ob, rfl, ho⟩, hD2, rfl⟩
end Go.Proofs.YtnlfohlngapkfaaGreatDoor
namespace Go.Proofs.YtnlfohlngapkfaaGreatDoor
open Go Go.X
set_option maxRecDepth 10000
set_option linter.unusedVariables false
attribute [local irreducible] Code.wpIn wpListIn Exit.then Exit.inBlock X.Out X.Back X.W X.Ev X.Con X.BinV X.Wh X.Wn X.Wq
theorem fold_gstep (K : List UInt32) : ∀ (l : List Str) (a h : Bs), l.foldl (gstep K) (a, h) = (a ++ (l.foldl (gstep K) ([], h)).1, (l.foldl (gstep K) ([], h)).2)
  | [], a, h => by simp
  | r :: t, a, h => by
    simp only [List.foldl_cons, gstep, List.nil_append]
    rw [fold_gstep K t (a ++ _) _, fold_gstep K t (stored K h r.b) _]
    simp
theorem group_nil (K : List UInt32) (h : Bs) : group K h [] = ([], h) := rfl
theorem group_cons (K : List UInt32) (h : Bs) (r : Str) (t : List Str) : group K h (r :: t) = (stored K h r.b ++ (group K (chain K h r.b) t).1, (group K (chain K h r.b) t).2) := by
  unfold group
  rw [List.foldl_cons]
  exact fold_gstep K t (stored K h r.b) (chain K h r.b)
theorem decS_stw {r : Bs} (hr : r.length ≤ 65536) (t : Bs) : decS (stw r ++ t) = some (r, (stw r).length) := by
  have hw : wOk (r.length : Int) := by unfold wOk; omega
  unfold decS stw
  rw [List.append_assoc, decI_enc hw]
  simp only
  rw [if_pos ⟨by omega, by omega, by simp⟩]
  simp
theorem check_con_t (S : SH) : Con Tryz.prog 140 #[.bool true] S [] (X.Pure S (.tuple #[])) := by
  refine con_of (args := [.bool true]) Tryz.func140 rfl Tryz.ntmps140 rfl fun w => ?_
  (repeat (first | refine Jz ?_ | intro _))
  exact o_ret0 (.inr rfl) Tryz.results140 (List.nil_sublist _) ⟨rfl, rfl, rfl⟩
end Go.Proofs.YtnlfohlngapkfaaGreatDoor
namespace Go.Proofs.YtnlfohlngapkfaaGreatDoor
open Go Go.X
set_option maxRecDepth 10000
set_option linter.unusedVariables false
attribute [local irreducible] Code.wpIn wpListIn Exit.then Exit.inBlock X.Out X.Back X.W X.Ev X.Con X.BinV X.Wh X.Wn X.Wq
attribute [local irreducible] sumK chain stw group stored
set_option maxHeartbeats 3200000 in
theorem load_con {T : TypeId} {rest : List Value} {b : Nat} {h0 : Bs} {LT0 : Blocks} (hT0 : OwT T rest b [] h0 0 LT0) (K : List UInt32) (l : List Str) (tail s : Bs) (S : SH) (hs : s = (group K h0 l).1 ++ tail)
    (hh : h0.length = 32) (hsh : ∀ r ∈ l, r.b.length ≤ 65536) (hl : l.length ≤ 100000) (hlen : s.length ≤ 1000000000) (htl : ∀ c, tail[0]? = some c → c = 0) (hK : Pts S ⟨4, 0, none⟩ (cellsOf K)) (hKl : K.length = 64) :
    Con Tryz.prog 101 #[.pointer (some ⟨b, 0, none⟩), strV s] S LT0 (fun S' L' r => OwT T rest b l (group K h0 l).2 (group K h0 l).1.length L' ∧ r = .tuple #[]) := by
  refine con_of (args := [.pointer (some ⟨b, 0, none⟩), strV s]) Tryz.func101 rfl Tryz.ntmps101 rfl fun w => ?_
  (repeat (first | refine Jz ?_ | intro _))
  refine c_loop (fun m S' L F => Le S S' ∧ ∃ (d t : List Str) (pre h : Bs), m = t.length ∧ l = d ++ t ∧ s = pre ++ ((group K h t).1 ++ tail) ∧ (group K h0 l).2 = (group K h t).2 ∧ h.length = 32 ∧ OwT T rest b d h pre.length L ∧ F = [(0, .pointer (some ⟨b, 0, none⟩)), (1, strV s)]) ⟨Le.refl _, [], l, [], h0, rfl, rfl, (show s = [] ++ _ from hs), rfl, hh, hT0, rfl⟩ sbF (List.Sublist.refl _) ?_
  rintro m S' L F ⟨hle', d, t, pre, h, rfl, hdt, hpre, hg2, hh', hT, rfl⟩
  have hKS := hK.le hle'
  cases t with
  | nil =>
    rw [group_nil] at hpre hg2
    have hout : pre = (group K h0 l).1 := by rw [hpre] at hs; exact List.append_cancel_right hs
    rw [List.append_nil] at hdt
    have hfin : OwT T rest b l (group K h0 l).2 (group K h0 l).1.length L := by rw [hg2, ← hout, hdt]; exact hT
    have hT2 := hT
    obtain ⟨rv, ob, rfl, ho⟩ := hT
    obtain ⟨A, c, rfl⟩ := ho.form
    cases tail with
    | nil =>
      have e1 : s.length = pre.length := by rw [hpre]; simp
      (repeat (first | refine Jc ?_ | (apply s_evb; (case hg => rfl); (case hd => rfl); (case hn => rfl); (case he => (apply ev_len_b; rfl))) | (apply s_evb; (case hg => rfl); (case hd => rfl); (case hn => rfl); (case he => (apply ev_nilCheck; rfl))) | refine Jo ?_ | intro _))
      exact o_ret0 (.inr rfl) Tryz.results101 (List.Sublist.refl _) ⟨hfin, rfl⟩
    | cons x tl =>
      have e1 : pre.length < s.length := by rw [hpre]; simp
      have e2 : s[pre.length]? = some 0 := by rw [hpre, List.getElem?_append_right (Nat.le_refl _)]; simp [htl x rfl]
      (repeat (first | refine Jc ?_ | (apply s_evb; (case hg => rfl); (case hd => rfl); (case hn => rfl); (case he => (apply ev_len_b; rfl))) | (apply s_evb; (case hg => rfl); (case hd => rfl); (case hn => rfl); (case he => (apply ev_nilCheck; rfl))) | (apply s_evb; (case hg => rfl); (case hd => rfl); (case hn => rfl); (case he => ((apply ev_index_b (k := pre.length); (case hx => rfl); (case hi => rfl); (case hu => exact e2))))) | refine Jo ?_ | intro _))
      exact o_ret0 (.inr rfl) Tryz.results101 (List.Sublist.refl _) ⟨hfin, rfl⟩
  | cons r t =>
    rw [group_cons] at hpre hg2
    have hrl := hsh r (by rw [hdt]; simp)
    have hsl := stored_len (K := K) (h := h) hrl
    have hcl := chain_len K h r.b
    obtain ⟨st, hst⟩ : ∃ st, st = stored K h r.b := ⟨_, rfl⟩
    obtain ⟨rs, hrs⟩ : ∃ rs, rs = (group K (chain K h r.b) t).1 ++ tail := ⟨_, rfl⟩
    have hst2 : st = [1] ++ stw r.b ++ chain K h r.b := by rw [hst]; unfold stored; rfl
    have hpre2 : s = pre ++ (st ++ rs) := by rw [hpre, hst, hrs]; simp
    have hstl : st.length = 1 + (stw r.b).length + 32 := by rw [hst2]; simp [hcl]; omega
    have hslen : s.length = pre.length + (st.length + rs.length) := by rw [hpre2]; simp
    have e1 : pre.length < s.length := by omega
    have e2 : s[pre.length]? = some 1 := by rw [hpre2, List.getElem?_append_right (Nat.le_refl _), hst2]; simp
    have e3 : s.drop (pre.length + 1) = stw r.b ++ (chain K h r.b ++ rs) := by rw [hpre2, hst2, ← List.drop_drop]; simp
    have hsv : strgV s ((pre.length : Int) + 1) = .tuple #[strV r.b, .int .i64 ((pre.length : Int) + 1 + ((stw r.b).length : Nat)), .int .i64 0] := by
      unfold strgV
      rw [if_neg (by omega), show ((pre.length : Int) + 1).toNat = pre.length + 1 by omega, e3, decS_stw hrl]
    have hcs : ∀ S'', Con Tryz.prog 141 #[strV s, .int .i64 ((pre.length : Int) + 1)] S'' [] (X.Pure S'' (.tuple #[strV r.b, .int .i64 ((pre.length : Int) + 1 + ((stw r.b).length : Nat)), .int .i64 0])) := fun S'' => (wString_con s _ S'' (by omega)).eq hsv
    have hta := tadd_con hT r.b K S' hrl hh' (by omega) (by have := congrArg List.length hdt; simp at this; omega) hKS hKl
    rw [← hst] at hta
    have hsub : (s.take (pre.length + st.length)).drop pre.length = st := by rw [hpre2]; simp [List.take_append]
    obtain ⟨rv, ob, rfl, ho⟩ := hT
    obtain ⟨A, c, rfl⟩ := ho.form
    (repeat (first | refine Jc ?_ | (apply s_evb; (case hg => rfl); (case hd => rfl); (case hn => rfl); (case he => (apply ev_len_b; rfl))) | (apply s_evb; (case hg => rfl); (case hd => rfl); (case hn => rfl); (case he => (apply ev_nilCheck; rfl))) | (apply s_evb; (case hg => rfl); (case hd => rfl); (case hn => rfl); (case he => ((apply ev_index_b (k := pre.length); (case hx => rfl); (case hi => rfl); (case hu => exact e2))))) | ((apply z_call; rfl; rfl; rfl; exact check_con_t S'; rintro S8 _ _ - ⟨rfl, rfl, rfl⟩)) | ((apply z_call; rfl; rfl; rfl; exact hcs _; rintro _ _ _ - ⟨rfl, rfl, rfl⟩)) | refine Jo ?_ | intro _))
    refine W.trim (F' := [(6, .int .i64 ((pre.length : Int) + 1 + ((stw r.b).length : Nat))), (5, strV r.b), (4, .int .i64 (pre.length : Nat)), (0, .pointer (some ⟨b, 0, none⟩)), (1, strV s)]) (L' := (b, .cells (.slice A d.length c :: strV h :: .int .i64 pre.length :: rest).toArray T (0, 0)) :: ob) sbF (List.Sublist.refl _) ?_
    have hj : ((pre.length : Int) + 1 + ((stw r.b).length : Nat) + 32) = ((pre.length + st.length : Nat) : Int) := by omega
    ((apply c_held ([]); (case hL => (exact sbT))); refine Jf 0 ?_; refine Jf 1 ?_; refine Jf 3 ?_; refine Jf 4 ?_; refine Jf 5 ?_; refine Jf 6 ?_; (apply h_first 7; (case hi => rfl); (case hr => kernel_rfl); (case hfr => kernel_rfl); (case hsel => kernel_rfl); (case hg => rfl); (case hd => rfl); (case he => (apply ev_slice_b (i := pre.length) (j := pre.length + st.length); (case hx => rfl); (case hy => rfl); (case hz => exact congrArg (fun z => some (Value.int .i64 z)) hj); (case hj => exact ⟨by omega, by omega⟩)))); (apply h_one 2; (case hr => kernel_rfl)); (apply n_call; (case hi => rfl); (case i1 => infer_instance); (case hg => rfl); (case hd => rfl); (case ha => rfl); (case hc => exact hta); (case hL => (repeat (first | exact pm_nil _ | exact pm_refl _ _ | exact pm_self _ | apply pm_cons | apply pm_app))); (case hsub => (intros; (exact sbT))); rintro S9 L9 v9 hle9 ⟨hT9, rfl⟩); (apply h_first 8; (case hi => rfl); (case hr => kernel_rfl); (case hfr => kernel_rfl); (case hsel => kernel_rfl); (case hg => rfl); (case hd => rfl); (case he => (apply ev_eql_bs' (r := true) (a := st) (b := (s.take (pre.length + st.length)).drop pre.length); (case hx => rfl); (case hy => rfl); (case h => (rw [hsub]; exact beq_self_eq_true st))))); (apply h_one 9; (case hr => kernel_rfl)); (apply n_call; (case hi => rfl); (case i1 => infer_instance); (case hg => rfl); (case hd => rfl); (case ha => rfl); (case hc => exact check_con_t S9); (case hL => (repeat (first | exact pm_nil _ | exact pm_refl _ _ | exact pm_self _ | apply pm_cons | apply pm_app))); (case hsub => (intros; (exact sbT))); rintro S10 _ _ - ⟨rfl, rfl, rfl⟩); (apply h_end; (case hr => kernel_rfl)))
    (repeat (first | refine Jz ?_ | intro _))
    rw [List.nil_append, List.append_nil]
    refine q_back (L' := L9) (m' := t.length) ⟨hle'.trans hle9, d ++ [r], t, pre ++ st, chain K h r.b, rfl, (by rw [hdt]; simp), (by rw [hpre2, hrs]; simp), hg2, hcl, (by rw [List.length_append]; exact hT9), rfl⟩ (Nat.lt_succ_self _) sbF (List.Sublist.refl _)
end Go.Proofs.YtnlfohlngapkfaaGreatDoor
namespace Go.Proofs.YtnlfohlngapkfaaGreatDoor
open Go Go.X
set_option maxRecDepth 10000
set_option linter.unusedVariables false
attribute [local irreducible] Code.wpIn wpListIn Exit.then Exit.inBlock X.Out X.Back X.W X.Ev X.Con X.BinV X.Wh X.Wn X.Wq
theorem asrt (w : World) : (Instr.typeAssert Value.nilIface 20 98 true).run Tryz.prog w = .ok (.tuple #[.nilIface, .bool false]) w := by
  first | rfl | kernel_rfl | simp [Instr.typeAssert, go_sem]
/-- The deferred closure of journal.open, nothing having panicked: it does nothing. -/
theorem open1_conD (a4 a5 : Value) (S : SH) (L : Blocks) : ConD Tryz.prog 99 #[a4, a5] S L (fun S' L' => S' = S ∧ L' = L) := by
  intro cx w hs
  refine callsDIn_of_wpSIn Tryz.func99 rfl trivial fun c₀ cs hu => ?_
  apply wpSIn_seq
  apply wpSIn_region
  simp [wpOpsSIn, go_sem, recoverD, hu, asrt, Tryz.ntmps99, Exit.thenS]
  apply wpSIn_seq
  apply wpSIn_region
  simp [wpOpsSIn, go_sem, Exit.thenS]
  refine wpSIn_cond (t := false) (by simp [Act.eval]) ?_
  refine wpSIn_of_wpIn (by simp) ?_
  simp only [Bool.false_eq_true, if_false]
  refine wpIn_skip ?_
  refine ⟨rfl, .returning, by rw [← hu], .tuple #[], by simp [results, Tryz.results99], ⟨_, rfl⟩, rfl, S, L, ⟨rfl, rfl⟩, hs⟩
end Go.Proofs.YtnlfohlngapkfaaGreatDoor
namespace Go.Proofs.YtnlfohlngapkfaaGreatDoor
open Go Go.X
set_option maxRecDepth 10000
set_option linter.unusedVariables false
attribute [local irreducible] Code.wpIn wpListIn Exit.then Exit.inBlock X.Out X.Back X.W X.Ev X.Con X.BinV X.Wh X.Wn X.Wq
attribute [local irreducible] sumK chain stw group stored
def head0 : Bs := List.replicate 32 0
theorem open_con (p : Addr) (K : List UInt32) (l : List Str) (tail s : Bs) (S : SH) (hs : s = (group K head0 l).1 ++ tail)
    (hsh : ∀ r ∈ l, r.b.length ≤ 65536) (hl : l.length ≤ 100000) (hlen : s.length ≤ 1000000000) (htl : ∀ c, tail[0]? = some c → c = 0) (hK : Pts S ⟨4, 0, none⟩ (cellsOf K)) (hKl : K.length = 64) :
    Con Tryz.prog 62 #[.pointer (some p), strV s] S [] (fun S' L' r => ∃ jv, r = .tuple #[jv, .int .i64 0] ∧ OwJ jv (.pointer (some p)) ⟨l, (group K head0 l).2, (group K head0 l).1.length, false⟩ L') := by
  refine con_of (args := [.pointer (some p), strV s]) Tryz.func62 rfl Tryz.ntmps62 rfl fun w => ?_
  (repeat (first | refine Jc ?_ | (apply s_evb; (case hg => rfl); (case hd => rfl); (case hn => rfl); (case he => ((apply ev_build (cells := [.slice none 0 0, strV head0, .int .i64 0, .pointer (some p), .bool false].toArray); (case hp => rfl); (case hc => rfl))))) | (apply s_defer; (case hk => rfl); (case hg => rfl); (case hx => rfl)) | (apply s_evb; (case hg => rfl); (case hd => rfl); (case hn => rfl); (case he => (apply ev_nilCheck; rfl))) | (apply s_make1 (m := 32); (case hg => rfl); (case hd => rfl); (case hx => rfl); (case hy => rfl); (case hzc => rfl); (case hb => omega); (case h63 => omega); intro _) | (apply s_evb; (case hg => rfl); (case hd => rfl); (case hn => rfl); (case he => ((apply ev_str_own (B := head0); (case hx => rfl); (case hm => exact List.Mem.head _); (case hk => exact Nat.le_refl _))))) | (apply s_call; (case hg => rfl); (case hd => rfl); (case ha => rfl); (case hc => exact load_con (T := 92) (rest := [.pointer (some p), .bool false]) (h0 := head0) ⟨_, [], rfl, Ows.nil 9⟩ K l tail s S hs rfl hsh hl hlen htl hK hKl); (case hL => exact List.Perm.refl _); rintro S3 L3 v3 hle3 ⟨hT3, rfl⟩) | refine Jo ?_ | intro _))
  rename_i b4 b5 b8 b12
  refine out_retd (fix := []) (caps := [.pointer (some ⟨b4, 0, none⟩), .pointer (some ⟨b5, 0, none⟩)]) inferInstance (.inl rfl) rfl (open1_conD _ _ _ _) ?_
  rintro S' L1 ⟨rfl, rfl⟩
  refine ⟨.tuple #[.pointer (some ⟨b12, 0, none⟩), .int .i64 0], L3, List.sublist_append_left _ _, ⟨_, rfl, b12, rfl, hT3⟩, fun a w hf hst => ?_⟩
  have e4 := hf.slot 4 (.pointer (some ⟨b4, 0, none⟩)) rfl
  have e5 := hf.slot 5 (.pointer (some ⟨b5, 0, none⟩)) rfl
  have c4 : w.cell? ⟨b4, 0, none⟩ = some (.pointer (some ⟨b12, 0, none⟩)) := by
    rw [own_cell hst (List.mem_append_right _ (List.mem_cons_of_mem _ (List.mem_cons_of_mem _ List.mem_cons_self)))]; rfl
  have c5 : w.cell? ⟨b5, 0, none⟩ = some (.int .i64 0) := by
    rw [own_cell hst (List.mem_append_right _ (List.mem_cons_of_mem _ List.mem_cons_self))]; rfl
  have r4 : (loadVar 28 ⟨b4, 0, none⟩).run Tryz.prog w = .ok (.pointer (some ⟨b12, 0, none⟩)) w := run_loadVar_sc c4
  have r5 : (loadVar 33 ⟨b5, 0, none⟩).run Tryz.prog w = .ok (.int .i64 0) w := run_loadVar_sc c5
  simp [results, Tryz.results62, Array.getD_eq_getD_getElem?, e4, e5, asAddr, r4, r5]
end Go.Proofs.YtnlfohlngapkfaaGreatDoor
namespace Go.Proofs.YtnlfohlngapkfaaGreatDoor
open Go Go.X
set_option maxRecDepth 10000
set_option linter.unusedVariables false
attribute [local irreducible] Code.wpIn wpListIn Exit.then Exit.inBlock X.Out X.Back X.W X.Ev X.Con X.BinV X.Wh X.Wn X.Wq
def pickI (c n : Int) : Int := (if c < 0 then -(c + 1) else c) % n
theorem pickI_bd (c n : Int) (hn : 0 < n) : 0 ≤ pickI c n ∧ pickI c n ≤ n - 1 := by
  have h1 := Int.emod_nonneg (if c < 0 then -(c + 1) else c) (show n ≠ 0 by omega)
  have h2 := Int.emod_lt_of_pos (if c < 0 then -(c + 1) else c) hn
  unfold pickI
  omega
theorem lpick_con (c n : Int) (S : SH) (hc : i64 c) (hn : 0 < n) : Con Tryz.prog 15 #[.int .i64 c, .int .i64 n] S [] (X.Pure S (.int .i64 (pickI c n))) := by
  unfold i64 at hc
  refine con_of (args := [.int .i64 c, .int .i64 n]) Tryz.func15 rfl Tryz.ntmps15 rfl fun w => ?_
  unfold pickI
  by_cases h : c < 0
  · rw [if_pos h]
    (repeat (first | refine Jz ?_ | intro _))
    exact o_ret Tryz.results15 rfl (List.Sublist.refl _) (pure_mk _ _)
  · rw [if_neg h]
    (repeat (first | refine Jz ?_ | intro _))
    exact o_ret Tryz.results15 rfl (List.Sublist.refl _) (pure_mk _ _)
def sizeN (n : Int) : Nat := (1 + pickI n 1500).toNat
theorem sizeN_bd (n : Int) : 1 ≤ sizeN n ∧ sizeN n ≤ 1500 := by
  have := pickI_bd n 1500 (by decide)
  unfold sizeN
  omega
theorem size_con (n : Int) (S : SH) (hn : i64 n) : Con Tryz.prog 16 #[.int .i64 n] S [] (X.Pure S (.int .i64 (sizeN n))) := by
  refine con_of (args := [.int .i64 n]) Tryz.func16 rfl Tryz.ntmps16 rfl fun w => ?_
  have hb := pickI_bd n 1500 (by decide)
  have e : ((sizeN n : Nat) : Int) = 1 + pickI n 1500 := by unfold sizeN; omega
  rw [e]
  (repeat (first | refine Jc ?_ | ((apply z_call; rfl; rfl; rfl; exact lpick_con n 1500 S hn (by decide); rintro _ _ _ - ⟨rfl, rfl, rfl⟩)) | refine Jo ?_ | intro _))
  exact o_ret Tryz.results16 rfl (List.nil_sublist _) (pure_mk _ _)
/-- few: at most six strings, of at most 100 bytes. -/
def cut1 (s : Str) : Str := ⟨s.b.take (min s.b.length 100)⟩
def fewL (l : List Str) : List Str := (l.take 6).map cut1
theorem few_con (l : List Str) (A : Option Addr) (c : Nat) (S : SH) (hA : At S A l) :
    Con Tryz.prog 12 #[.slice A l.length c] S [] (fun S' L' r => S' = S ∧ Ows 9 r (fewL l) L') := by
  refine con_of (args := [.slice A l.length c]) Tryz.func12 rfl Tryz.ntmps12 rfl fun w => ?_
  (repeat (first | refine Jz ?_ | intro _))
  refine c_loop (fun m S' L F => S' = S ∧ ∃ (k : Nat) (v : Value), m = 6 - k ∧ k ≤ l.length ∧ k ≤ 6 ∧ Ows 9 v ((l.take k).map cut1) L ∧ F = [(0, .slice A l.length c), (3, v), (4, .int .i64 k)]) ⟨rfl, 0, _, rfl, by omega, by omega, Ows.nil _, rfl⟩ sbF (List.Sublist.refl _) ?_
  rintro m S' L F ⟨rfl, k, v, rfl, hk1, hk6, ho, rfl⟩
  by_cases hlt : k < l.length ∧ k < 6
  rotate_left
  · have hfin : (l.take k).map cut1 = fewL l := by
      unfold fewL
      congr 1
      by_cases h6 : k = 6
      · rw [h6]
      · rw [List.take_of_length_le (by omega), List.take_of_length_le (by omega)]
    rw [hfin] at ho
    by_cases h2 : k < l.length
    all_goals (repeat (first | refine Jz ?_ | intro _))
    all_goals exact o_ret Tryz.results12 rfl (List.Sublist.refl _) ⟨rfl, ho⟩
  obtain ⟨h1, h6⟩ := hlt
  obtain ⟨x, hx⟩ : ∃ x, l[k]? = some x := ⟨_, List.getElem?_eq_getElem h1⟩
  have hkl : ((l.take k).map cut1).length = k := by simp; omega
  have hsn : (l.take (k + 1)).map cut1 = (l.take k).map cut1 ++ [cut1 x] := by rw [List.take_add_one, hx]; simp
  obtain ⟨ls, hls⟩ : ∃ ls, ls = (l.take k).map cut1 := ⟨_, rfl⟩
  rw [← hls] at ho hkl hsn
  obtain ⟨A1, c1, rfl⟩ := ho.form
  have hmin : min (x.b.length : Int) 100 = ((min x.b.length 100 : Nat) : Int) := by omega
  (repeat (first | refine Jz ?_ | intro _))
  ((apply c_held ([]); (case hL => (exact sbT))); refine Jf 0 ?_; refine Jf 1 ?_; refine Jf 2 ?_; (apply h_idx hA 3; (case hi => rfl); (case hr => kernel_rfl); (case hfr => kernel_rfl); (case hsel => kernel_rfl); (case hg => rfl); (case hd => rfl); (case i1 => infer_instance); (case i2 => infer_instance); (case hx => rfl); (case hy => rfl); (case hm => rfl); (case hu => exact hx); intro q (hq : Pts _ q [strV x.b])); (apply h_first 4; (case hi => rfl); (case hr => kernel_rfl); (case hfr => kernel_rfl); (case hsel => kernel_rfl); (case hg => rfl); (case hd => rfl); (case he => (apply ev_load1; (case hx => rfl); (case h => exact hq)))); refine Jf 5 ?_; refine Jf 6 ?_; (apply h_idx hA 7; (case hi => rfl); (case hr => kernel_rfl); (case hfr => kernel_rfl); (case hsel => kernel_rfl); (case hg => rfl); (case hd => rfl); (case i1 => infer_instance); (case i2 => infer_instance); (case hx => rfl); (case hy => rfl); (case hm => rfl); (case hu => exact hx); intro q (hq : Pts _ q [strV x.b])); (apply h_first 8; (case hi => rfl); (case hr => kernel_rfl); (case hfr => kernel_rfl); (case hsel => kernel_rfl); (case hg => rfl); (case hd => rfl); (case he => (apply ev_load1; (case hx => rfl); (case h => exact hq)))); (apply h_first 9; (case hi => rfl); (case hr => kernel_rfl); (case hfr => kernel_rfl); (case hsel => kernel_rfl); (case hg => rfl); (case hd => rfl); (case he => (apply ev_len_b; rfl))); (apply h_first 10; (case hi => rfl); (case hr => kernel_rfl); (case hfr => kernel_rfl); (case hsel => kernel_rfl); (case hg => rfl); (case hd => rfl); (case he => (apply ev_minn (j := 100); (case hx => rfl); (case hy => rfl)))); (apply h_first 11; (case hi => rfl); (case hr => kernel_rfl); (case hfr => kernel_rfl); (case hsel => kernel_rfl); (case hg => rfl); (case hd => rfl); (case he => (apply ev_slice_bh (j := min x.b.length 100); (case hx => rfl); (case hz => rfl); (case hj => exact Nat.min_le_left _ _)))); (apply h_one 12; (case hr => kernel_rfl)); (apply n_buildSlice; (case hi => rfl); (case hg => rfl); (case hd => rfl); (case i1 => infer_instance); (case i2 => infer_instance); (case i3 => infer_instance); (case hp => rfl); (case hq => rfl); (case hm => rfl); (case hv => rfl); (case hl => rfl); intro bl); (apply h_one 13; (case hr => kernel_rfl)); (apply n_append (ms := [cut1 x]); (case hi => rfl); (case hT => infer_instance); (case hsz => infer_instance); (case hz => infer_instance); (case hby => infer_instance); (case hg => rfl); (case hd => rfl); (case hx => rfl); (case ho => exact ho); (case hL => (repeat (first | exact pm_nil _ | exact pm_refl _ _ | exact pm_self _ | apply pm_cons | apply pm_app))); (case hy => rfl); (case hm => rfl); (case hs => (apply Src.own; (repeat (first | exact List.Mem.head _ | apply List.Mem.tail | apply List.mem_append_right)))); (case hzs => rfl); (case h0 => decide); (case hb => (simp; omega)); (case h63 => (simp; omega)); (case hsub => (intros; (exact sbT))); intro v' ob' ho'); refine Jf 14 ?_; (apply h_end; (case hr => kernel_rfl)))
  (repeat (first | refine Jz ?_ | intro _))
  refine q_back (L' := ob') (m' := 6 - (k + 1)) ⟨rfl, k + 1, v', rfl, by omega, by omega, (by rw [hsn]; exact ho'), rfl⟩ (by omega) sbF (List.sublist_append_left _ _)
end Go.Proofs.YtnlfohlngapkfaaGreatDoor
namespace Go.Proofs.YtnlfohlngapkfaaGreatDoor
open Go Go.X
set_option maxRecDepth 10000
set_option linter.unusedVariables false
attribute [local irreducible] Code.wpIn wpListIn Exit.then Exit.inBlock X.Out X.Back X.W X.Ev X.Con X.BinV X.Wh X.Wn X.Wq
theorem content_con {v : Value} {D : Dk} {L : Blocks} (h : OwD v D L) (S : SH) (hoff : D.off = false) (hvl : D.vis.length = D.dur.length) (hd : D.dur.length ≤ 1000000000) : Con Tryz.prog 23 #[v] S L (Kp v D S (strV D.vis)) := by
  refine con_of (args := [v]) Tryz.func23 rfl Tryz.ntmps23 rfl fun w => ?_
  have hrv : readV D 0 (D.dur.length : Nat) = .tuple #[strV D.vis, .int .i64 0] := by
    unfold readV insideB
    rw [hoff]
    simp [← hvl]
  (repeat (first | refine Jc ?_ | (apply s_call (L2 := []); (case hg => rfl); (case hd => rfl); (case ha => rfl); (case hc => exact Size_con h S); (case hL => exact (List.Perm.of_eq (List.append_nil _).symm)); rintro S3 L3 v3 hle3 ⟨rfl, hD3, rfl⟩; rw [List.append_nil]) | (apply s_call (L2 := []); (case hg => rfl); (case hd => rfl); (case ha => rfl); (case hc => (have hr := Read_con hD3 S3 0 (D.dur.length : Nat) (by unfold i64; omega) (by unfold i64; omega); rw [hrv] at hr; exact hr)); (case hL => exact (List.Perm.of_eq (List.append_nil _).symm)); rintro S4 L4 v4 hle4 ⟨rfl, hD4, rfl⟩; rw [List.append_nil]) | refine Jo ?_ | intro _))
  exact o_ret Tryz.results23 rfl (List.Sublist.refl _) ⟨rfl, hD4, rfl⟩
theorem same_con (l r : List Str) (A B : Option Addr) (c c2 : Nat) (S : SH) (hA : At S A l) (hB : At S B r) (hl : l.length ≤ 1000000000) (hr : r.length ≤ 1000000000) :
    Con Tryz.prog 19 #[.slice A l.length c, .slice B r.length c2] S [] (X.Pure S (.bool (decide (l.map Str.b = r.map Str.b)))) := by
  refine con_of (args := [.slice A l.length c, .slice B r.length c2]) Tryz.func19 rfl Tryz.ntmps19 rfl fun w => ?_
  by_cases hlen : l.length = r.length
  rotate_left
  · have hne : ¬ l.map Str.b = r.map Str.b := fun e => hlen (by simpa using congrArg List.length e)
    rw [decide_eq_false hne]
    (repeat (first | refine Jz ?_ | intro _))
    exact o_ret Tryz.results19 rfl (List.nil_sublist _) (pure_mk _ _)
  (repeat (first | refine Jz ?_ | intro _))
  refine c_loop (fun m S' L F => S' = S ∧ L = [] ∧ ∃ k : Nat, m = l.length - k ∧ k ≤ l.length ∧ (l.take k).map Str.b = (r.take k).map Str.b ∧ F = [(0, .slice A l.length c), (1, .slice B r.length c2), (5, .int .i64 k)]) ⟨rfl, rfl, 0, rfl, by omega, rfl, rfl⟩ sbF (List.nil_sublist _) ?_
  rintro m S' L F ⟨rfl, rfl, k, rfl, hk1, hi, rfl⟩
  by_cases hlt : k < l.length
  rotate_left
  · rw [List.take_of_length_le (by omega), List.take_of_length_le (by omega)] at hi
    rw [decide_eq_true hi]
    (repeat (first | refine Jz ?_ | intro _))
    exact o_ret Tryz.results19 rfl (List.nil_sublist _) (pure_mk _ _)
  obtain ⟨x, hx⟩ : ∃ x, l[k]? = some x := ⟨_, List.getElem?_eq_getElem hlt⟩
  obtain ⟨y, hy⟩ : ∃ y, r[k]? = some y := ⟨_, List.getElem?_eq_getElem (by omega)⟩
  by_cases hxy : x.b = y.b
  · (repeat (first | refine Jz ?_ | intro _))
    ((apply c_held ([]); (case hL => (exact sbT))); refine Jf 0 ?_; refine Jf 1 ?_; (apply h_idx hA 2; (case hi => rfl); (case hr => kernel_rfl); (case hfr => kernel_rfl); (case hsel => kernel_rfl); (case hg => rfl); (case hd => rfl); (case i1 => infer_instance); (case i2 => infer_instance); (case hx => rfl); (case hy => rfl); (case hm => rfl); (case hu => exact hx); intro q (hq : Pts _ q [strV x.b])); (apply h_first 3; (case hi => rfl); (case hr => kernel_rfl); (case hfr => kernel_rfl); (case hsel => kernel_rfl); (case hg => rfl); (case hd => rfl); (case he => (apply ev_load1; (case hx => rfl); (case h => exact hq)))); refine Jf 4 ?_; refine Jf 5 ?_; (apply h_idx hB 6; (case hi => rfl); (case hr => kernel_rfl); (case hfr => kernel_rfl); (case hsel => kernel_rfl); (case hg => rfl); (case hd => rfl); (case i1 => infer_instance); (case i2 => infer_instance); (case hx => rfl); (case hy => rfl); (case hm => rfl); (case hu => exact hy); intro q2 (hq2 : Pts _ q2 [strV y.b])); (apply h_first 7; (case hi => rfl); (case hr => kernel_rfl); (case hfr => kernel_rfl); (case hsel => kernel_rfl); (case hg => rfl); (case hd => rfl); (case he => (apply ev_load1; (case hx => rfl); (case h => exact hq2)))); (apply h_first 8; (case hi => rfl); (case hr => kernel_rfl); (case hfr => kernel_rfl); (case hsel => kernel_rfl); (case hg => rfl); (case hd => rfl); (case he => (apply ev_neq_bs' (r := false); (case hx => rfl); (case hy => rfl); (case h => (rw [hxy]; simp))))); (apply h_end; (case hr => kernel_rfl)))
    (repeat (first | refine Jz ?_ | intro _))
    refine q_back (L' := []) (m' := l.length - (k + 1)) ⟨rfl, rfl, k + 1, rfl, by omega, ?_, rfl⟩ (by omega) sbF (List.nil_sublist _)
    rw [List.take_add_one, List.take_add_one, hx, hy, List.map_append, List.map_append, hi]
    simp [hxy]
  · have hne : ¬ l.map Str.b = r.map Str.b := fun e => hxy (by
      have := congrArg (·[k]?) e
      simp only [List.getElem?_map, hx, hy, Option.map_some, Option.some.injEq] at this
      exact this)
    rw [decide_eq_false hne]
    (repeat (first | refine Jz ?_ | intro _))
    ((apply c_held ([]); (case hL => (exact sbT))); refine Jf 0 ?_; refine Jf 1 ?_; (apply h_idx hA 2; (case hi => rfl); (case hr => kernel_rfl); (case hfr => kernel_rfl); (case hsel => kernel_rfl); (case hg => rfl); (case hd => rfl); (case i1 => infer_instance); (case i2 => infer_instance); (case hx => rfl); (case hy => rfl); (case hm => rfl); (case hu => exact hx); intro q (hq : Pts _ q [strV x.b])); (apply h_first 3; (case hi => rfl); (case hr => kernel_rfl); (case hfr => kernel_rfl); (case hsel => kernel_rfl); (case hg => rfl); (case hd => rfl); (case he => (apply ev_load1; (case hx => rfl); (case h => exact hq)))); refine Jf 4 ?_; refine Jf 5 ?_; (apply h_idx hB 6; (case hi => rfl); (case hr => kernel_rfl); (case hfr => kernel_rfl); (case hsel => kernel_rfl); (case hg => rfl); (case hd => rfl); (case i1 => infer_instance); (case i2 => infer_instance); (case hx => rfl); (case hy => rfl); (case hm => rfl); (case hu => exact hy); intro q2 (hq2 : Pts _ q2 [strV y.b])); (apply h_first 7; (case hi => rfl); (case hr => kernel_rfl); (case hfr => kernel_rfl); (case hsel => kernel_rfl); (case hg => rfl); (case hd => rfl); (case he => (apply ev_load1; (case hx => rfl); (case h => exact hq2)))); (apply h_first 8; (case hi => rfl); (case hr => kernel_rfl); (case hfr => kernel_rfl); (case hsel => kernel_rfl); (case hg => rfl); (case hd => rfl); (case he => (apply ev_neq_bs' (r := true); (case hx => rfl); (case hy => rfl); (case h => (simp [hxy]))))); (apply h_end; (case hr => kernel_rfl)))
    (repeat (first | refine Jz ?_ | intro _))
    exact o_ret Tryz.results19 rfl (List.nil_sublist _) (pure_mk _ _)
end Go.Proofs.YtnlfohlngapkfaaGreatDoor
namespace Go.Proofs.YtnlfohlngapkfaaGreatDoor
open Go Go.X
set_option maxRecDepth 10000
set_option linter.unusedVariables false
attribute [local irreducible] Code.wpIn wpListIn Exit.then Exit.inBlock X.Out X.Back X.W X.Ev X.Con X.BinV X.Wh X.Wn X.Wq
attribute [local irreducible] sumK chain stw group stored
theorem OpenNil_con (S : SH) : Con Tryz.prog 26 #[.pointer none] S [] (X.Pure S (.tuple #[.pointer none, .int .i64 1])) := by
  refine con_of (args := [.pointer none]) Tryz.func26 rfl Tryz.ntmps26 rfl fun w => ?_
  (repeat (first | refine Jc ?_ | (apply s_evb; (case hg => rfl); (case hd => rfl); (case hn => rfl); (case he => (apply ev_eql_p; (case hx => rfl); (case hy => rfl)))) | refine Jo ?_ | intro _))
  exact o_ret2 Tryz.results26 rfl rfl (List.nil_sublist _) ⟨rfl, rfl, rfl⟩
/-- Open on a disk whose power failed. -/
theorem OpenOff_con {v : Value} {D : Dk} {L : Blocks} (h : OwD v D L) (S : SH) (hoff : D.off = true) (hd : D.dur.length ≤ 1000000000) : Con Tryz.prog 26 #[v] S L (Kp v D S (.tuple #[.pointer none, .int .i64 321])) := by
  have hv := h
  obtain ⟨b, g1, g2, N, pv, ob, rfl, -⟩ := hv
  refine con_of (args := [.pointer (some ⟨b, 0, none⟩)]) Tryz.func26 rfl Tryz.ntmps26 rfl fun w => ?_
  have hrv : readV D 0 (D.dur.length : Nat) = .tuple #[strV [], .int .i64 321] := by
    unfold readV
    rw [hoff]; rfl
  (repeat (first | refine Jc ?_ | (apply s_evb; (case hg => rfl); (case hd => rfl); (case hn => rfl); (case he => (apply ev_eql_p; (case hx => rfl); (case hy => rfl)))) | (apply s_call (L2 := []); (case hg => rfl); (case hd => rfl); (case ha => rfl); (case hc => exact Size_con h S); (case hL => exact (List.Perm.of_eq (List.append_nil _).symm)); rintro S3 L3 v3 hle3 ⟨rfl, hD3, rfl⟩; rw [List.append_nil]) | (apply s_call (L2 := []); (case hg => rfl); (case hd => rfl); (case ha => rfl); (case hc => (have hr := Read_con hD3 S3 0 (D.dur.length : Nat) (by unfold i64; omega) (by unfold i64; omega); rw [hrv] at hr; exact hr)); (case hL => exact (List.Perm.of_eq (List.append_nil _).symm)); rintro S4 L4 v4 hle4 ⟨rfl, hD4, rfl⟩; rw [List.append_nil]) | refine Jo ?_ | intro _))
  exact o_ret2 Tryz.results26 rfl rfl (List.Sublist.refl _) ⟨rfl, hD4, rfl⟩
end Go.Proofs.YtnlfohlngapkfaaGreatDoor
namespace Go.Proofs.YtnlfohlngapkfaaGreatDoor
open Go Go.X
set_option maxRecDepth 10000
set_option linter.unusedVariables false
attribute [local irreducible] Code.wpIn wpListIn Exit.then Exit.inBlock X.Out X.Back X.W X.Ev X.Con X.BinV X.Wh X.Wn X.Wq
theorem Trim0_con (s : Bs) (S : SH) (hs : s.length ≤ 9223372036854775807) : Con Tryz.prog 63 #[strV s, strV [0]] S [] (X.Pure S (strV (Lib.trimB s 0))) :=
  con_of_kit fun w => Tryz.strings_Trim_one ⟨s.toArray⟩ 0 (by decide) w (by simpa [ByteArray.size] using hs)
end Go.Proofs.YtnlfohlngapkfaaGreatDoor
namespace Go.Proofs.YtnlfohlngapkfaaGreatDoor
open Go Go.X
set_option maxRecDepth 10000
set_option linter.unusedVariables false
attribute [local irreducible] Code.wpIn wpListIn Exit.then Exit.inBlock X.Out X.Back X.W X.Ev X.Con X.BinV X.Wh X.Wn X.Wq
attribute [local irreducible] sumK chain stw group stored
/-- Open where nothing lies behind the records. -/
theorem OpenOk_con {v : Value} {D : Dk} {LD : Blocks} (h : OwD v D LD) (K : List UInt32) (l : List Str) (tail : Bs) (S : SH) (hoff : D.off = false) (hvl : D.vis.length = D.dur.length) (hd : D.dur.length ≤ 1000000000) (hvis : D.vis = (group K head0 l).1 ++ tail)
    (hsh : ∀ r ∈ l, r.b.length ≤ 65536) (hl : l.length ≤ 100000) (htl : ∀ c, tail[0]? = some c → c = 0) (htr : Lib.trimB tail 0 = []) (hK : Pts S ⟨4, 0, none⟩ (cellsOf K)) (hKl : K.length = 64) :
    Con Tryz.prog 26 #[v] S LD (fun S' L' r => ∃ jv LJ LD', L' = LJ ++ LD' ∧ OwJ jv v ⟨l, (group K head0 l).2, (group K head0 l).1.length, false⟩ LJ ∧ OwD v D LD' ∧ r = .tuple #[jv, .int .i64 0]) := by
  have hv := h
  obtain ⟨b, g1, g2, N, pv, ob, rfl, -⟩ := hv
  refine con_of (args := [.pointer (some ⟨b, 0, none⟩)]) Tryz.func26 rfl Tryz.ntmps26 rfl fun w => ?_
  have hrv : readV D 0 (D.dur.length : Nat) = .tuple #[strV D.vis, .int .i64 0] := by
    unfold readV insideB
    rw [hoff]
    simp [← hvl]
  have hlen : D.vis.length ≤ 1000000000 := by omega
  have hvl2 : D.vis.length = (group K head0 l).1.length + tail.length := by rw [hvis]; simp
  have hdr : D.vis.drop (group K head0 l).1.length = tail := by rw [hvis]; simp
  have htc : ∀ S', Con Tryz.prog 63 #[strV (D.vis.drop (group K head0 l).1.length), strV [0]] S' [] (X.Pure S' (strV [])) := fun S' => by
    have := Trim0_con tail S' (by omega)
    rw [htr] at this
    rw [hdr]
    exact this
  (repeat (first | refine Jc ?_ | (apply s_evb; (case hg => rfl); (case hd => rfl); (case hn => rfl); (case he => (apply ev_eql_p; (case hx => rfl); (case hy => rfl)))) | (apply s_call (L2 := []); (case hg => rfl); (case hd => rfl); (case ha => rfl); (case hc => exact Size_con h S); (case hL => exact (List.Perm.of_eq (List.append_nil _).symm)); rintro S3 L3 v3 hle3 ⟨rfl, hD3, rfl⟩; rw [List.append_nil]) | (apply s_call (L2 := []); (case hg => rfl); (case hd => rfl); (case ha => rfl); (case hc => (have hr := Read_con hD3 S3 0 (D.dur.length : Nat) (by unfold i64; omega) (by unfold i64; omega); rw [hrv] at hr; exact hr)); (case hL => exact (List.Perm.of_eq (List.append_nil _).symm)); rintro S4 L4 v4 hle4 ⟨rfl, hD4, rfl⟩; rw [List.append_nil]) | (apply s_call (L2 := L4); (case hg => rfl); (case hd => rfl); (case ha => rfl); (case hc => exact open_con ⟨b, 0, none⟩ K l tail D.vis _ hvis hsh hl hlen htl hK hKl); (case hL => exact List.Perm.refl _); rintro S5 L5 v5 hle5 ⟨jv, rfl, hJ⟩; obtain ⟨bj, rfl, rv, obj, rfl, ho⟩ := hJ; obtain ⟨A0, c0, rfl⟩ := ho.form) | (apply s_evb; (case hg => rfl); (case hd => rfl); (case hn => rfl); (case he => (apply ev_nilCheck; rfl))) | (apply s_evb; (case hg => rfl); (case hd => rfl); (case hn => rfl); (case he => ((apply ev_slice_bl (i := (group K head0 l).1.length); (case hx => rfl); (case hy => rfl); (case hj => omega))))) | ((apply z_call; rfl; rfl; rfl; exact htc _; rintro _ _ _ - ⟨rfl, rfl, rfl⟩)) | (apply s_evb; (case hg => rfl); (case hd => rfl); (case hn => rfl); (case he => ((apply ev_neq_bs' (r := false) (a := []) (b := []); (case hx => rfl); (case hy => rfl); (case h => rfl))))) | refine Jo ?_ | intro _))
  exact o_ret2 Tryz.results26 rfl rfl (List.Sublist.refl _) ⟨_, _, L4, rfl, ⟨bj, rfl, _, obj, rfl, ho⟩, hD4, rfl⟩
end Go.Proofs.YtnlfohlngapkfaaGreatDoor
namespace Go.Proofs.YtnlfohlngapkfaaGreatDoor
open Go Go.X
set_option maxRecDepth 10000
set_option linter.unusedVariables false
attribute [local irreducible] Code.wpIn wpListIn Exit.then Exit.inBlock X.Out X.Back X.W X.Ev X.Con X.BinV X.Wh X.Wn X.Wq
/-- What the two calls of Open do to the disk. -/
def app2 (size : Nat) (out : Bs) (i : Nat) (D : Dk) : Dk × Int :=
  if i = 0 then (wrD D (size : Nat) out, wrE D (size : Nat) out) else (syncD D, if D.off then 321 else 0)
theorem two_con {b : Nat} {v : Value} {J : Jn} {D : Dk} {rv : Value} {LD : Blocks} (hD : OwD v D LD) (size : Nat) (out : Bs) (a1 a2 a3 : Nat) (A : Option Addr) (c : Nat) (S : SH)
    (p1 : Pts S ⟨a1, 0, none⟩ [.pointer (some ⟨b, 0, none⟩)]) (p2 : Pts S ⟨a2, 0, none⟩ [.int .i64 (size : Nat)]) (p3 : Pts S ⟨a3, 0, none⟩ [strV out])
    (hA : At S A [(⟨95, [], [.pointer (some ⟨a1, 0, none⟩), .pointer (some ⟨a2, 0, none⟩), .pointer (some ⟨a3, 0, none⟩)]⟩ : Fv), ⟨50, [v], []⟩])
    (h1 : size ≤ 1000000000) (h2 : out.length ≤ 1000000000) (hl : D.pend.length ≤ 100000) :
    Con Tryz.prog 48 #[.slice A 2 c] S ((b, .cells [rv, strV J.head, .int .i64 J.size, v, .bool J.broken].toArray 92 (0, 0)) :: LD)
      (fun S' L' r => S' = S ∧ (∃ LD', L' = (b, .cells [rv, strV J.head, .int .i64 J.size, v, .bool J.broken].toArray 92 (0, 0)) :: LD' ∧ OwD v (firstP (app2 size out) 2 0 D).1 LD') ∧ r = .int .i64 (firstP (app2 size out) 2 0 D).2) := by
  have hfc := first_con (fun (i : Nat) (D' : Dk) L' => D'.pend.length ≤ 100000 + i ∧ ∃ LD', L' = (b, Obj.cells [rv, strV J.head, .int .i64 J.size, v, .bool J.broken].toArray 92 (0, 0)) :: LD' ∧ OwD v D' LD') _ (app2 size out) S ?_ ?_ D _ ⟨hl, LD, rfl, hD⟩ A c hA (show 2 ≤ 1000000 by decide)
  · refine hfc.mono fun S' L' r _ ⟨e1, ⟨i, hp, LD', e2, hD'⟩, e3⟩ => ⟨e1, ⟨LD', e2, hD'⟩, e3⟩
  · intro x hx
    simp only [List.mem_cons, List.not_mem_nil, or_false] at hx
    rcases hx with rfl | rfl <;> infer_instance
  · intro i x s L hx ⟨hp, LD1, e, hD1⟩
    subst e
    have hsync : Con Tryz.prog 50 #[v] S ((b, .cells [rv, strV J.head, .int .i64 J.size, v, .bool J.broken].toArray 92 (0, 0)) :: LD1) (fun S' L' r => S' = S ∧ (∃ LD', L' = (b, .cells [rv, strV J.head, .int .i64 J.size, v, .bool J.broken].toArray 92 (0, 0)) :: LD' ∧ OwD v (syncD s) LD') ∧ r = .int .i64 (if s.off then 321 else 0)) :=
      ((Sync_con hD1 S).frame (L2 := [_]) (List.perm_append_comm (l₁ := [_]))).out fun S' L1 r ⟨L2, e1, e2, hD2, e3⟩ => ⟨_ :: L2, by rw [e1]; exact List.perm_append_comm (l₂ := [_]), e2, ⟨L2, rfl, hD2⟩, e3⟩
    have hb2 : i64 (size : Int) := by unfold i64; omega
    match i, hx with
    | 0, hx =>
      cases hx
      have hw := writing1_con (J := J) (rv := rv) hD1 a1 a2 a3 (size : Int) out S p1 p2 p3 hb2 (by omega) (by omega)
      exact hw.mono fun S' L' r _ ⟨e1, ⟨LD2, e2, hD2⟩, e3⟩ => ⟨e1, ⟨by have := wrD_pend s (size : Int) out; show (wrD _ _ _).pend.length ≤ _; omega, LD2, e2, hD2⟩, e3⟩
    | 1, hx =>
      cases hx
      exact hsync.mono fun S' L' r _ ⟨e1, ⟨LD2, e2, hD2⟩, e3⟩ => ⟨e1, ⟨by have := syncD_pend s; show (syncD _).pend.length ≤ _; omega, LD2, e2, hD2⟩, e3⟩
    | i + 2, hx => cases hx
end Go.Proofs.YtnlfohlngapkfaaGreatDoor
namespace Go.Proofs.YtnlfohlngapkfaaGreatDoor
open Go Go.X
set_option maxRecDepth 10000
set_option linter.unusedVariables false
attribute [local irreducible] Code.wpIn wpListIn Exit.then Exit.inBlock X.Out X.Back X.W X.Ev X.Con X.BinV X.Wh X.Wn X.Wq
attribute [local irreducible] sumK chain stw group stored
/-- What Open does where something lies behind the records. -/
def openE (size : Nat) (q : Nat) (D : Dk) : Dk × Int := firstP (app2 size (List.replicate q 0)) 2 0 D
theorem permE9 (p q : Nat × Obj) (LD2 obj : Blocks) : ((p :: LD2) ++ (q :: obj)).Perm (((p :: obj) ++ LD2) ++ [q]) := by
  refine List.Perm.cons p ?_
  show (LD2 ++ (q :: obj)).Perm ((obj ++ LD2) ++ [q])
  rw [List.append_assoc]
  exact (List.perm_middle.trans ((List.perm_append_comm (l₁ := LD2)).cons q)).trans (List.perm_append_comm (l₁ := [q]) (l₂ := obj ++ LD2) |>.trans (by rw [List.append_assoc]))
set_option maxHeartbeats 3200000 in
theorem OpenFix_con {v : Value} {D : Dk} {LD : Blocks} (h : OwD v D LD) (K : List UInt32) (l : List Str) (tail : Bs) (S : SH) (hoff : D.off = false) (hvl : D.vis.length = D.dur.length) (hd : D.dur.length ≤ 1000000) (hpl : D.pend.length ≤ 100000) (hvis : D.vis = (group K head0 l).1 ++ tail)
    (hsh : ∀ r ∈ l, r.b.length ≤ 65536) (hl : l.length ≤ 100000) (htl : ∀ c, tail[0]? = some c → c = 0) (htr : Lib.trimB tail 0 ≠ []) (hK : Pts S ⟨4, 0, none⟩ (cellsOf K)) (hKl : K.length = 64) :
    Con Tryz.prog 26 #[v] S LD (fun S' L' r => ∃ jv LJ LD', L' = LJ ++ LD' ∧ (openE (group K head0 l).1.length tail.length D).2 = 0 ∧ OwJ jv v ⟨l, (group K head0 l).2, (group K head0 l).1.length, false⟩ LJ ∧ OwD v (openE (group K head0 l).1.length tail.length D).1 LD' ∧ r = .tuple #[jv, .int .i64 0] ∨
      (openE (group K head0 l).1.length tail.length D).2 ≠ 0 ∧ OwD v (openE (group K head0 l).1.length tail.length D).1 L' ∧ r = .tuple #[.pointer none, .int .i64 (openE (group K head0 l).1.length tail.length D).2]) := by
  have hv := h
  obtain ⟨b, g1, g2, N, pv, ob, rfl, -⟩ := hv
  refine con_of (args := [.pointer (some ⟨b, 0, none⟩)]) Tryz.func26 rfl Tryz.ntmps26 rfl fun w => ?_
  have hrv : readV D 0 (D.dur.length : Nat) = .tuple #[strV D.vis, .int .i64 0] := by
    unfold readV insideB
    rw [hoff]
    simp [← hvl]
  have hlen : D.vis.length ≤ 1000000000 := by omega
  have hvl2 : D.vis.length = (group K head0 l).1.length + tail.length := by rw [hvis]; simp
  have hdr : D.vis.drop (group K head0 l).1.length = tail := by rw [hvis]; simp
  have htc : ∀ S', Con Tryz.prog 63 #[strV (D.vis.drop (group K head0 l).1.length), strV [0]] S' [] (X.Pure S' (strV (Lib.trimB tail 0))) := fun S' => by
    rw [hdr]
    exact Trim0_con tail S' (by omega)
  have hne : (Lib.trimB tail 0 != []) = true := by simp [htr]
  (repeat (first | refine Jc ?_ | (apply s_evb; (case hg => rfl); (case hd => rfl); (case hn => rfl); (case he => (apply ev_eql_p; (case hx => rfl); (case hy => rfl)))) | (apply s_call (L2 := []); (case hg => rfl); (case hd => rfl); (case ha => rfl); (case hc => exact Size_con h S); (case hL => exact (List.Perm.of_eq (List.append_nil _).symm)); rintro S3 L3 v3 hle3 ⟨rfl, hD3, rfl⟩; rw [List.append_nil]) | (apply s_call (L2 := []); (case hg => rfl); (case hd => rfl); (case ha => rfl); (case hc => (have hr := Read_con hD3 S3 0 (D.dur.length : Nat) (by unfold i64; omega) (by unfold i64; omega); rw [hrv] at hr; exact hr)); (case hL => exact (List.Perm.of_eq (List.append_nil _).symm)); rintro S4 L4 v4 hle4 ⟨rfl, hD4, rfl⟩; rw [List.append_nil]) | (apply s_call (L2 := L4); (case hg => rfl); (case hd => rfl); (case ha => rfl); (case hc => exact open_con ⟨b, 0, none⟩ K l tail D.vis _ hvis hsh hl hlen htl hK hKl); (case hL => exact List.Perm.refl _); rintro S5 L5 v5 hle5 ⟨jv, rfl, hJ⟩; obtain ⟨bj, rfl, rv, obj, rfl, ho⟩ := hJ; obtain ⟨A0, c0, rfl⟩ := ho.form) | (apply s_evb; (case hg => rfl); (case hd => rfl); (case hn => rfl); (case he => (apply ev_nilCheck; rfl))) | (apply s_evb; (case hg => rfl); (case hd => rfl); (case hn => rfl); (case he => ((apply ev_slice_bl (i := (group K head0 l).1.length); (case hx => rfl); (case hy => rfl); (case hj => omega))))) | ((apply z_call; rfl; rfl; rfl; exact htc _; rintro _ _ _ - ⟨rfl, rfl, rfl⟩)) | (apply s_evb; (case hg => rfl); (case hd => rfl); (case hn => rfl); (case he => ((apply ev_neq_bs' (r := true) (a := Lib.trimB tail 0) (b := []); (case hx => rfl); (case hy => rfl); (case h => exact hne))))) | refine Jo ?_ | intro _))
  refine W.trim (F' := [(4, strV D.vis), (6, .pointer (some ⟨bj, 0, none⟩)), (0, .pointer (some ⟨b, 0, none⟩))]) (L' := (bj, .cells [.slice A0 l.length c0, strV (group K head0 l).2, .int .i64 (group K head0 l).1.length, .pointer (some ⟨b, 0, none⟩), .bool false].toArray 92 (0, 0)) :: (obj ++ L4)) sbF (List.Sublist.refl _) ?_
  have hsubq : (D.vis.length : Int) - ((group K head0 l).1.length : Int) = ((tail.length : Nat) : Int) := by omega
  have hz : ((List.replicate tail.length (0 : UInt8)).drop 0).take tail.length = List.replicate tail.length 0 := by simp
  rcases hq : openE (group K head0 l).1.length tail.length D with ⟨D2, e⟩
  (repeat (first | refine Jz ?_ | intro _))
  ((apply c_held ([(bj, .cells [.slice A0 l.length c0, strV (group K head0 l).2, .int .i64 (group K head0 l).1.length, .pointer (some ⟨b, 0, none⟩), .bool false].toArray 92 (0, 0))]); (case hL => (exact sbT))); refine Jf 0 ?_; refine Jf 1 ?_; (apply h_first 2; (case hi => rfl); (case hr => kernel_rfl); (case hfr => kernel_rfl); (case hsel => kernel_rfl); (case hg => rfl); (case hd => rfl); (case he => (apply ev_nilCheck; rfl))); refine Jf 3 ?_; refine Jf 4 ?_; refine Jf 5 ?_; refine Jf 6 ?_; (apply h_first 7; (case hi => rfl); (case hr => kernel_rfl); (case hfr => kernel_rfl); (case hsel => kernel_rfl); (case hg => rfl); (case hd => rfl); (case he => (apply ev_len_b; rfl))); refine Jf 8 ?_; (apply h_first 9; (case hi => rfl); (case hr => kernel_rfl); (case hfr => kernel_rfl); (case hsel => kernel_rfl); (case hg => rfl); (case hd => rfl); (case he => (apply ev_nilCheck; rfl))); refine Jf 10 ?_; refine Jf 11 ?_; refine Jf 12 ?_; refine Jf 13 ?_; refine Jf 17 ?_; (apply h_first 18; (case hi => rfl); (case hr => kernel_rfl); (case hfr => kernel_rfl); (case hsel => kernel_rfl); (case hg => rfl); (case hd => rfl); (case he => (apply ev_makeFunc; (case h1 => rfl); (case h2 => rfl)))); (apply h_one 14; (case hr => kernel_rfl)); (apply n_make1 (m := tail.length); (case hi => rfl); (case i1 => infer_instance); (case i2 => infer_instance); (case i3 => infer_instance); (case i4 => infer_instance); (case hg => rfl); (case hd => rfl); (case hx => exact congrArg (fun z => some (Value.int .i64 z)) hsubq); (case hy => exact congrArg (fun z => some (Value.int .i64 z)) hsubq); (case hzc => rfl); (case hb => omega); (case h63 => omega); intro bz); (apply h_one 15; (case hr => kernel_rfl)); (apply n_ev; (case hi => rfl); (case hg => rfl); (case hd => rfl); (case he => (apply ev_str_own (B := List.replicate tail.length 0); (case hx => rfl); (case hm => (rw [← cellsOf_zero]; exact List.Mem.head _)); (case hk => simp)))); (apply h_one 16; (case hr => kernel_rfl)); ((apply n_call; (case hi => rfl); (case i1 => infer_instance); (case hg => rfl); (case hd => rfl); (case ha => rfl); (case hc => exact writing_con _ bj ((group K head0 l).1.length : Int) (((List.replicate tail.length (0 : UInt8)).drop 0).take tail.length) S5 rfl); (case hL => (repeat (first | exact pm_nil _ | exact pm_refl _ _ | exact pm_self _ | apply pm_cons | apply pm_app))); (case hsub => (intros; (exact sbT))); rintro S10 _ _ - ⟨rfl, a1, a2, a3, rfl, rfl⟩); refine h_freeze sbL fun T3 ht3 hf3 => ?_; refine h_freeze sbL fun T2 ht2 hf2 => ?_; refine h_freeze sbL fun T1 ht1 hf1 => ?_); (apply h_one 19; (case hr => kernel_rfl)); ((apply n_buildSlice; (case hi => rfl); (case hg => rfl); (case hd => rfl); (case i1 => infer_instance); (case i2 => infer_instance); (case i3 => infer_instance); (case hp => rfl); (case hq => rfl); (case hm => rfl); (case hv => rfl); (case hl => rfl); intro bl); refine h_freeze sbL fun V hv hfV => ?_); (apply h_one 20; (case hr => kernel_rfl)); (have htwo := two_con (J := ⟨l, (group K head0 l).2, (group K head0 l).1.length, false⟩) (rv := .slice A0 l.length c0) hD4 (group K head0 l).1.length (((List.replicate tail.length (0 : UInt8)).drop 0).take tail.length) a1 a2 a3 (some ⟨bl, 0, none⟩) 2 V ((pts_block hf1 rfl).le hv) (((pts_block hf2 rfl).le ht1).le hv) ((((pts_block hf3 rfl).le ht2).le ht1).le hv) (fun _ => ⟨_, rfl, pts_block hfV rfl⟩) (by omega) (by rw [hz]; simp; omega) hpl; rw [hz] at htwo; have hq2 : firstP (app2 (group K head0 l).1.length (List.replicate tail.length 0)) 2 0 D = (D2, e) := hq; rw [hq2] at htwo; (apply n_callR (L2 := _ :: obj); (case hi => rfl); (case i1 => infer_instance); (case hg => rfl); (case hd => rfl); (case ha => rfl); (case hc => exact htwo); (case hL => exact (List.Perm.swap _ _ _).trans (List.Perm.cons _ (List.perm_append_comm (l₁ := _ :: obj)))); (case hsub => (rintro S' L1' v' ⟨-, ⟨LD', rfl, -⟩, -⟩; exact sbL)); rintro S12 L12 v12 hle12 ⟨rfl, ⟨LD2, rfl, hD2⟩, rfl⟩)); refine Jf 21 ?_; (apply h_end; (case hr => kernel_rfl)))
  by_cases he : e = 0
  · subst he
    refine W.trim (F' := [(5, .int .i64 0), (6, .pointer (some ⟨bj, 0, none⟩))]) (L' := ((bj, .cells [.slice A0 l.length c0, strV (group K head0 l).2, .int .i64 (group K head0 l).1.length, .pointer (some ⟨b, 0, none⟩), .bool false].toArray 92 (0, 0)) :: LD2) ++ (_ :: obj)) sbF (List.Sublist.refl _) ?_
    (repeat (first | refine Jz ?_ | intro _))
    refine W.perm ?_ (permE9 _ _ LD2 obj)
    exact o_ret2 Tryz.results26 rfl rfl (List.sublist_append_left _ _) ⟨_, _, LD2, .inl ⟨rfl, rfl, ⟨bj, rfl, _, obj, rfl, ho⟩, hD2, rfl⟩⟩
  · refine W.trim (F' := [(5, .int .i64 e)]) (L' := ((bj, .cells [.slice A0 l.length c0, strV (group K head0 l).2, .int .i64 (group K head0 l).1.length, .pointer (some ⟨b, 0, none⟩), .bool false].toArray 92 (0, 0)) :: LD2) ++ (_ :: obj)) sbF (List.Sublist.refl _) ?_
    (repeat (first | refine Jz ?_ | intro _))
    exact o_ret2 Tryz.results26 rfl rfl ((List.sublist_cons_self _ _).trans (List.sublist_append_left _ _)) ⟨.pointer none, [], [], .inr ⟨he, hD2, rfl⟩⟩
end Go.Proofs.YtnlfohlngapkfaaGreatDoor
namespace Go.Proofs.YtnlfohlngapkfaaGreatDoor
open Go Go.X
set_option maxRecDepth 10000
set_option linter.unusedVariables false
attribute [local irreducible] Code.wpIn wpListIn Exit.then Exit.inBlock X.Out X.Back X.W X.Ev X.Con X.BinV X.Wh X.Wn X.Wq
attribute [local irreducible] sumK chain stw group stored
/-! What lies on the disk of a journal (plain). -/
def zs (n : Nat) : Bs := List.replicate n 0
theorem zs_len (n : Nat) : (zs n).length = n := List.length_replicate
theorem zs_drop (n k : Nat) : (zs n).drop k = zs (n - k) := by unfold zs; simp
theorem zs_at (n : Nat) (c : UInt8) (h : (zs n)[0]? = some c) : c = 0 := by
  have := List.mem_of_getElem? h
  unfold zs at this
  exact (List.mem_replicate.1 this).2
def recB (K : List UInt32) (l : List Str) : Bs := (group K head0 l).1
def Good (K : List UInt32) (N : Nat) (l : List Str) : Bs := recB K l ++ zs (N - (recB K l).length)
/-- The records l, and behind them nothing, or something that begins with 0. -/
def Mess (K : List UInt32) (N : Nat) (l : List Str) (B : Bs) : Prop := B.length = N ∧ ∃ tail, B = recB K l ++ tail ∧ ∀ c, tail[0]? = some c → c = 0
def Short (l : List Str) : Prop := ∀ r ∈ l, r.b.length ≤ 65536
theorem Short.nil : Short [] := fun _ h => by cases h
theorem Short.app {a b : List Str} (ha : Short a) (hb : Short b) : Short (a ++ b) := fun r hr => (List.mem_append.1 hr).elim (ha r) (hb r)
theorem group_append (K : List UInt32) (h : Bs) (a b : List Str) : group K h (a ++ b) = ((group K h a).1 ++ (group K (group K h a).2 b).1, (group K (group K h a).2 b).2) := by
  unfold group
  rw [List.foldl_append]
  exact fold_gstep K b _ _
theorem recB_append (K : List UInt32) (a b : List Str) : recB K (a ++ b) = recB K a ++ (group K (group K head0 a).2 b).1 := by
  unfold recB; rw [group_append]
theorem recB_nil (K : List UInt32) : recB K [] = [] := by unfold recB group; rfl
theorem recB_len {K : List UInt32} {l : List Str} (hl : Short l) : 33 * l.length ≤ (recB K l).length := by
  have := (group_len (K := K) (h := head0) l hl l.length (Nat.le_refl _)).1
  rw [List.take_of_length_le (Nat.le_refl _)] at this
  exact this
theorem grp_len {K : List UInt32} {h : Bs} {l : List Str} (hl : Short l) : 33 * l.length ≤ (group K h l).1.length ∧ (group K h l).1.length ≤ 65600 * l.length := by
  have := group_len (K := K) (h := h) l hl l.length (Nat.le_refl _)
  rw [List.take_of_length_le (Nat.le_refl _)] at this
  exact this
theorem grp_nil {K : List UInt32} {h : Bs} {l : List Str} (hl : Short l) : (group K h l).1 = [] ↔ l = [] := by
  constructor
  · intro e
    have := (grp_len (K := K) (h := h) hl).1
    rw [e] at this
    exact List.eq_nil_of_length_eq_zero (by simp at this; omega)
  · rintro rfl; unfold group; rfl
theorem Good_len {K : List UInt32} {N : Nat} {l : List Str} (h : (recB K l).length ≤ N) : (Good K N l).length = N := by
  unfold Good; rw [List.length_append, zs_len]; omega
theorem Good_mess {K : List UInt32} {N : Nat} {l : List Str} (h : (recB K l).length ≤ N) : Mess K N l (Good K N l) := ⟨Good_len h, _, rfl, fun c hc => zs_at _ c hc⟩
theorem Mess.le {K : List UInt32} {N : Nat} {l : List Str} {B : Bs} (h : Mess K N l B) : (recB K l).length ≤ N := by
  obtain ⟨h1, t, h2, -⟩ := h
  rw [h2, List.length_append] at h1; omega
theorem Good_nil (K : List UInt32) (N : Nat) : Good K N [] = zs N := by unfold Good; rw [recB_nil]; rfl
theorem lset_app {a b t : Bs} {o : Nat} : lset (a ++ b) (a.length + o) t = a ++ lset b o t := by
  unfold lset
  rw [List.take_append, List.drop_append]
  have e1 : a.length + o - a.length = o := by omega
  have e2 : a.length + o + t.length - a.length = o + t.length := by omega
  rw [e1, e2, List.take_of_length_le (by omega), List.drop_of_length_le (by omega)]
  simp
theorem lset_zs {z : Nat} {t : Bs} (h : t.length + 1 ≤ z) : lset (zs z) 1 t = 0 :: (t ++ zs (z - 1 - t.length)) := by
  unfold lset
  rw [zs_drop, show z - (1 + t.length) = z - 1 - t.length by omega]
  have : (zs z).take 1 = [0] := by
    unfold zs; rw [List.take_replicate, Nat.min_eq_left (by omega)]; rfl
  rw [this]; rfl
theorem w1_eq {K : List UInt32} {N : Nat} {l : List Str} {t : Bs} (h : (recB K l).length + (t.length + 1) ≤ N) : lset (Good K N l) ((recB K l).length + 1) t = recB K l ++ 0 :: (t ++ zs (N - (recB K l).length - 1 - t.length)) := by
  unfold Good
  rw [lset_app, lset_zs (by omega)]
/-- The second write: the whole group. -/
theorem w2_eq {K : List UInt32} {N : Nat} {l g : List Str} {x : UInt8} {t : Bs} (hg : (group K (group K head0 l).2 g).1 = x :: t) (h : (recB K l).length + (t.length + 1) ≤ N) : lset (lset (Good K N l) ((recB K l).length + 1) t) (recB K l).length [x] = Good K N (l ++ g) := by
  rw [w1_eq h]
  have e := lset_app (a := recB K l) (b := 0 :: (t ++ zs (N - (recB K l).length - 1 - t.length))) (t := [x]) (o := 0)
  rw [Nat.add_zero] at e
  rw [e]
  unfold Good
  rw [recB_append, hg, List.append_assoc]
  congr 1
  simp only [lset, List.take_zero, List.nil_append, List.length_cons, List.length_nil, Nat.zero_add, List.drop_succ_cons, List.drop_zero, List.cons_append, List.length_append]
  rw [show N - (recB K l).length - 1 - t.length = N - ((recB K l).length + (t.length + 1)) by omega]
/-- A disk with power, all of whose writes are durable. -/
def setD (B : Bs) : Dk := ⟨false, 0, B, B, []⟩
theorem newD_eq (K : List UInt32) (N : Nat) : newD N = setD (Good K N []) := by rw [Good_nil]; rfl
def jnK (K : List UInt32) (l : List Str) : Jn := ⟨l, (group K head0 l).2, (recB K l).length, false⟩
structure JW (K : List UInt32) (N : Nat) (J : Jn) : Prop where
  head : J.head = (group K head0 J.recs).2
  size : J.size = (recB K J.recs).length
  le : J.size ≤ N
  short : Short J.recs
/-- A journal that is not broken, on a disk of which all is durable. -/
structure JA (K : List UInt32) (N : Nat) (J : Jn) (D : Dk) : Prop where
  w : JW K N J
  br : J.broken = false
  dur : D.dur = Good K N J.recs
  vis : D.vis = Good K N J.recs
  pend : D.pend = []
theorem JA.new {K : List UInt32} {N : Nat} {l : List Str} (hs : Short l) (h : (recB K l).length ≤ N) : JA K N (jnK K l) (setD (Good K N l)) := ⟨⟨rfl, rfl, h, hs⟩, rfl, rfl, rfl, rfl⟩
theorem JW.recs {K : List UInt32} {N : Nat} {J : Jn} (h : JW K N J) : 33 * J.recs.length ≤ N := by
  have h1 := recB_len (K := K) h.short
  have h2 := h.le
  rw [h.size] at h2
  omega
end Go.Proofs.YtnlfohlngapkfaaGreatDoor
