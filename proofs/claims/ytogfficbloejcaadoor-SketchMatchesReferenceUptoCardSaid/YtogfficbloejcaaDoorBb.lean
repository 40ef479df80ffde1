/- Contracts of functions of this program, each proved by a walk through its code, and plain lemmas on what they compute; on no condition beyond those that each theorem states. -/
import Derived.Test.YtogfficbloejcaaDoorBa
namespace Go.Proofs.YtogfficbloejcaaDoor
open Go Go.X
set_option maxRecDepth 10000
set_option linter.unusedVariables false
attribute [local irreducible] Code.wpIn wpListIn Exit.then Exit.inBlock X.Out X.Back X.W X.Ev X.Con X.BinV X.Wh X.Wn X.Wq
theorem bitLen_43 (n : Nat) (h : n ≤ 4398046511104) : Lib.bitLen n ≤ 43 := Lib.bitLen_le n 43 (by decide) (by omega)
theorem bucket_nat {d : Int} (h : 0 ≤ d ∧ d ≤ 4398046511104) : ∃ n : Nat, bucket d = n ∧ n < 44 := by
  refine ⟨Lib.bitLen d.toNat, by unfold bucket; rw [if_neg (by omega)], ?_⟩
  have := bitLen_43 d.toNat (by omega)
  omega
def unitL (k : Int) : List Int := (List.range 44).map fun (i : Nat) => if (i : Int) = k then 1 else 0
def oneP (x : Fa) : PC := ⟨x.sv, x.ve, x.op, x.dy, ⟨1, x.lo, x.hi, x.by_, unitL (bucket x.lo), unitL (bucket x.hi)⟩⟩
theorem unitL_len (k : Int) : (unitL k).length = 44 := by simp [unitL]
theorem unit_cells (n : Nat) : cellsOf (unitL n) = ints (fun i => if i = n then 0 + 1 else 0) 44 := by
  rw [cells_int, unitL]
  simp only [ints, List.map_map]
  refine List.map_congr_left fun i _ => ?_
  simp only [Function.comp]
  congr 1
  by_cases h : i = n
  · subst h; simp
  · rw [if_neg h, if_neg (by omega)]
theorem at_unit {S : SH} {b : Nat} {T : TypeId} {n : Nat} (h : S b = some (.cells (ints (fun i => if i = n then 0 + 1 else 0) 44).toArray T (0, 0))) : At S (some ⟨b, 0, none⟩) (unitL n) := fun _ => ⟨_, rfl, pts_block h (by rw [unit_cells, ints_len, List.take_of_length_le (by rw [ints_len]; omega)])⟩
set_option maxHeartbeats 1600000 in
theorem one_con (x : Fa) (hx : FactP x) (S : SH) : Con Tryd.prog 43 #[.agg x.vals.toArray] S [] (fun S' L' v => L' = [] ∧ ∃ q' : Ce, v = .agg q'.vals.toArray ∧ q'.p = oneP x ∧ q'.ok S') := by
  refine con_of (args := [.agg x.vals.toArray]) Tryd.func43 rfl Tryd.ntmps43 rfl fun w => ?_
  have hlo := hx.lo1
  have hhi := hx.hi1
  obtain ⟨nl, hnl, hnl4⟩ := bucket_nat (d := x.lo) (by omega)
  obtain ⟨nh, hnh, hnh4⟩ := bucket_nat (d := x.hi) (by omega)
  have hbl : ∀ S, Con Tryd.prog 13 #[.int .i64 x.lo] S [] (Pure S (.int .i64 (nl : Int))) := fun S => hnl ▸ Bucket_con x.lo S
  have hbh : ∀ S, Con Tryd.prog 13 #[.int .i64 x.hi] S [] (Pure S (.int .i64 (nh : Int))) := fun S => hnh ▸ Bucket_con x.hi S
  have hone : oneP x = ⟨x.sv, x.ve, x.op, x.dy, ⟨1, x.lo, x.hi, x.by_, unitL nl, unitL nh⟩⟩ := by rw [oneP, hnl, hnh]
  rw [hone]
  obtain ⟨tr, sp, sv, ve, op, pe, dy, lo, hi, bb⟩ := x
  unfold Fa.vals
  dsimp only at *
  (repeat (first | refine Jz ?_ | intro _))
  rename_i b1 b2
  refine c_meet (fun S2 L2 F2 => S2 = S ∧ ∃ bc bl bh, L2.Perm [(bc, .cells [.int .i64 sv, .int .i64 ve, .int .i64 op, .int .i64 dy, .int .i64 1, .int .i64 lo, .int .i64 hi, .int .i64 bb, .slice (some ⟨bl, 0, none⟩) 44 44, .slice (some ⟨bh, 0, none⟩) 44 44].toArray 45 (0, 0)), (bl, .cells (List.replicate 44 (Value.int .i64 0)).toArray 3 (0, 0)), (bh, .cells (List.replicate 44 (Value.int .i64 0)).toArray 3 (0, 0)), (b2, .cells [.int .i64 0, .int .i64 0, .int .i64 0, .int .i64 0, .int .i64 0, .int .i64 0, .int .i64 0, .int .i64 0, .slice none 0 0, .slice none 0 0].toArray 45 (0, 0)), (b1, .cells [.int .i64 tr, .int .i64 sp, .int .i64 sv, .int .i64 ve, .int .i64 op, .int .i64 pe, .int .i64 dy, .int .i64 lo, .int .i64 hi, .int .i64 bb].toArray 27 (0, 0))] ∧
      F2 = [(1, .pointer (some ⟨b1, 0, none⟩)), (2, .pointer (some ⟨b2, 0, none⟩)), (3, .pointer (some ⟨bc, 0, none⟩))]) ?_ ?_
  · ((apply c_held ([(b1, .cells [.int .i64 tr, .int .i64 sp, .int .i64 sv, .int .i64 ve, .int .i64 op, .int .i64 pe, .int .i64 dy, .int .i64 lo, .int .i64 hi, .int .i64 bb].toArray 27 (0, 0))]); (case hL => (exact sbT))); (first | (apply h_first 0; (case hi => rfl); (case hr => kernel_rfl); (case hfr => kernel_rfl); (case hsel => kernel_rfl); (case hg => rfl); (case hd => rfl); (case he => (apply ev_buildS; (case hp => rfl); (case hz => rfl); (case h1 => rfl); (case hr => rfl)))) | refine Jf 0 ?_); (first | (apply h_first 1; (case hi => rfl); (case hr => kernel_rfl); (case hfr => kernel_rfl); (case hsel => kernel_rfl); (case hg => rfl); (case hd => rfl); (case he => (apply ev_buildS; (case hp => rfl); (case hz => rfl); (case h1 => rfl); (case hr => rfl)))) | refine Jf 1 ?_); (first | (apply h_first 2; (case hi => rfl); (case hr => kernel_rfl); (case hfr => kernel_rfl); (case hsel => kernel_rfl); (case hg => rfl); (case hd => rfl); (case he => (apply ev_buildS; (case hp => rfl); (case hz => rfl); (case h1 => rfl); (case hr => rfl)))) | refine Jf 2 ?_); (first | (apply h_first 3; (case hi => rfl); (case hr => kernel_rfl); (case hfr => kernel_rfl); (case hsel => kernel_rfl); (case hg => rfl); (case hd => rfl); (case he => (apply ev_buildS; (case hp => rfl); (case hz => rfl); (case h1 => rfl); (case hr => rfl)))) | refine Jf 3 ?_); (first | (apply h_first 4; (case hi => rfl); (case hr => kernel_rfl); (case hfr => kernel_rfl); (case hsel => kernel_rfl); (case hg => rfl); (case hd => rfl); (case he => (apply ev_buildS; (case hp => rfl); (case hz => rfl); (case h1 => rfl); (case hr => rfl)))) | refine Jf 4 ?_); (first | (apply h_first 5; (case hi => rfl); (case hr => kernel_rfl); (case hfr => kernel_rfl); (case hsel => kernel_rfl); (case hg => rfl); (case hd => rfl); (case he => (apply ev_buildS; (case hp => rfl); (case hz => rfl); (case h1 => rfl); (case hr => rfl)))) | refine Jf 5 ?_); (first | (apply h_first 6; (case hi => rfl); (case hr => kernel_rfl); (case hfr => kernel_rfl); (case hsel => kernel_rfl); (case hg => rfl); (case hd => rfl); (case he => (apply ev_buildS; (case hp => rfl); (case hz => rfl); (case h1 => rfl); (case hr => rfl)))) | refine Jf 6 ?_); (first | (apply h_first 7; (case hi => rfl); (case hr => kernel_rfl); (case hfr => kernel_rfl); (case hsel => kernel_rfl); (case hg => rfl); (case hd => rfl); (case he => (apply ev_buildS; (case hp => rfl); (case hz => rfl); (case h1 => rfl); (case hr => rfl)))) | refine Jf 7 ?_); (first | (apply h_first 8; (case hi => rfl); (case hr => kernel_rfl); (case hfr => kernel_rfl); (case hsel => kernel_rfl); (case hg => rfl); (case hd => rfl); (case he => (apply ev_buildS; (case hp => rfl); (case hz => rfl); (case h1 => rfl); (case hr => rfl)))) | refine Jf 8 ?_); (first | (apply h_first 9; (case hi => rfl); (case hr => kernel_rfl); (case hfr => kernel_rfl); (case hsel => kernel_rfl); (case hg => rfl); (case hd => rfl); (case he => (apply ev_buildS; (case hp => rfl); (case hz => rfl); (case h1 => rfl); (case hr => rfl)))) | refine Jf 9 ?_); (first | (apply h_first 10; (case hi => rfl); (case hr => kernel_rfl); (case hfr => kernel_rfl); (case hsel => kernel_rfl); (case hg => rfl); (case hd => rfl); (case he => (apply ev_buildS; (case hp => rfl); (case hz => rfl); (case h1 => rfl); (case hr => rfl)))) | refine Jf 10 ?_); (first | (apply h_first 11; (case hi => rfl); (case hr => kernel_rfl); (case hfr => kernel_rfl); (case hsel => kernel_rfl); (case hg => rfl); (case hd => rfl); (case he => (apply ev_buildS; (case hp => rfl); (case hz => rfl); (case h1 => rfl); (case hr => rfl)))) | refine Jf 11 ?_); (first | (apply h_first 12; (case hi => rfl); (case hr => kernel_rfl); (case hfr => kernel_rfl); (case hsel => kernel_rfl); (case hg => rfl); (case hd => rfl); (case he => (apply ev_buildS; (case hp => rfl); (case hz => rfl); (case h1 => rfl); (case hr => rfl)))) | refine Jf 12 ?_); (first | (apply h_first 13; (case hi => rfl); (case hr => kernel_rfl); (case hfr => kernel_rfl); (case hsel => kernel_rfl); (case hg => rfl); (case hd => rfl); (case he => (apply ev_buildS; (case hp => rfl); (case hz => rfl); (case h1 => rfl); (case hr => rfl)))) | refine Jf 13 ?_); (apply h_three 14 15 17; (case hr => kernel_rfl)); (case k1 => ((first | (apply n_make1 (m := 44); (case hi => rfl); (case i1 => infer_instance); (case i2 => infer_instance); (case i3 => infer_instance); (case i4 => infer_instance); (case hg => rfl); (case hd => rfl); (case hx => rfl); (case hy => rfl); (case hzc => rfl); (case hb => decide); (case h63 => decide); intro _) | (refine Jn ?_; try intro _)); (apply h_two 15 17; (case hr => kernel_rfl)); (case k1 => ((first | (apply n_make1 (m := 44); (case hi => rfl); (case i1 => infer_instance); (case i2 => infer_instance); (case i3 => infer_instance); (case i4 => infer_instance); (case hg => rfl); (case hd => rfl); (case hx => rfl); (case hy => rfl); (case hzc => rfl); (case hb => decide); (case h63 => decide); intro _) | (refine Jn ?_; try intro _)); (first | (apply h_first 16; (case hi => rfl); (case hr => kernel_rfl); (case hfr => kernel_rfl); (case hsel => kernel_rfl); (case hg => rfl); (case hd => rfl); (case he => (apply ev_buildS; (case hp => rfl); (case hz => rfl); (case h1 => rfl); (case hr => rfl)))) | refine Jf 16 ?_); (apply h_one 17; (case hr => kernel_rfl)); (first | (apply n_make1 (m := 44); (case hi => rfl); (case i1 => infer_instance); (case i2 => infer_instance); (case i3 => infer_instance); (case i4 => infer_instance); (case hg => rfl); (case hd => rfl); (case hx => rfl); (case hy => rfl); (case hzc => rfl); (case hb => decide); (case h63 => decide); intro _) | (refine Jn ?_; try intro _)); (apply h_one 18; (case hr => kernel_rfl)); (first | (apply n_make1 (m := 44); (case hi => rfl); (case i1 => infer_instance); (case i2 => infer_instance); (case i3 => infer_instance); (case i4 => infer_instance); (case hg => rfl); (case hd => rfl); (case hx => rfl); (case hy => rfl); (case hzc => rfl); (case hb => decide); (case h63 => decide); intro _) | (refine Jn ?_; try intro _)); (apply h_end; (case hr => kernel_rfl)); (apply q_then; exact q_cut ⟨rfl, _, _, _, (by first | exact List.Perm.refl _ | exact List.Perm.swap _ _ _ | exact (List.Perm.swap _ _ _).cons _ | exact (List.Perm.swap _ _ _).trans ((List.Perm.swap _ _ _).cons _) | exact ((List.Perm.swap _ _ _).cons _).trans (List.Perm.swap _ _ _) | exact (List.Perm.swap _ _ _).trans (((List.Perm.swap _ _ _).cons _).trans (List.Perm.swap _ _ _))), rfl⟩ sbF (List.Sublist.refl _)))); (case k2 => ((first | (apply n_make1 (m := 44); (case hi => rfl); (case i1 => infer_instance); (case i2 => infer_instance); (case i3 => infer_instance); (case i4 => infer_instance); (case hg => rfl); (case hd => rfl); (case hx => rfl); (case hy => rfl); (case hzc => rfl); (case hb => decide); (case h63 => decide); intro _) | (refine Jn ?_; try intro _)); (apply h_one 15; (case hr => kernel_rfl)); (first | (apply n_make1 (m := 44); (case hi => rfl); (case i1 => infer_instance); (case i2 => infer_instance); (case i3 => infer_instance); (case i4 => infer_instance); (case hg => rfl); (case hd => rfl); (case hx => rfl); (case hy => rfl); (case hzc => rfl); (case hb => decide); (case h63 => decide); intro _) | (refine Jn ?_; try intro _)); (first | (apply h_first 16; (case hi => rfl); (case hr => kernel_rfl); (case hfr => kernel_rfl); (case hsel => kernel_rfl); (case hg => rfl); (case hd => rfl); (case he => (apply ev_buildS; (case hp => rfl); (case hz => rfl); (case h1 => rfl); (case hr => rfl)))) | refine Jf 16 ?_); (apply h_one 18; (case hr => kernel_rfl)); (first | (apply n_make1 (m := 44); (case hi => rfl); (case i1 => infer_instance); (case i2 => infer_instance); (case i3 => infer_instance); (case i4 => infer_instance); (case hg => rfl); (case hd => rfl); (case hx => rfl); (case hy => rfl); (case hzc => rfl); (case hb => decide); (case h63 => decide); intro _) | (refine Jn ?_; try intro _)); (apply h_end; (case hr => kernel_rfl)); (apply q_then; exact q_cut ⟨rfl, _, _, _, (by first | exact List.Perm.refl _ | exact List.Perm.swap _ _ _ | exact (List.Perm.swap _ _ _).cons _ | exact (List.Perm.swap _ _ _).trans ((List.Perm.swap _ _ _).cons _) | exact ((List.Perm.swap _ _ _).cons _).trans (List.Perm.swap _ _ _) | exact (List.Perm.swap _ _ _).trans (((List.Perm.swap _ _ _).cons _).trans (List.Perm.swap _ _ _))), rfl⟩ sbF (List.Sublist.refl _)))))); (case k2 => ((first | (apply n_make1 (m := 44); (case hi => rfl); (case i1 => infer_instance); (case i2 => infer_instance); (case i3 => infer_instance); (case i4 => infer_instance); (case hg => rfl); (case hd => rfl); (case hx => rfl); (case hy => rfl); (case hzc => rfl); (case hb => decide); (case h63 => decide); intro _) | (refine Jn ?_; try intro _)); (apply h_two 14 17; (case hr => kernel_rfl)); (case k1 => ((first | (apply n_make1 (m := 44); (case hi => rfl); (case i1 => infer_instance); (case i2 => infer_instance); (case i3 => infer_instance); (case i4 => infer_instance); (case hg => rfl); (case hd => rfl); (case hx => rfl); (case hy => rfl); (case hzc => rfl); (case hb => decide); (case h63 => decide); intro _) | (refine Jn ?_; try intro _)); (first | (apply h_first 16; (case hi => rfl); (case hr => kernel_rfl); (case hfr => kernel_rfl); (case hsel => kernel_rfl); (case hg => rfl); (case hd => rfl); (case he => (apply ev_buildS; (case hp => rfl); (case hz => rfl); (case h1 => rfl); (case hr => rfl)))) | refine Jf 16 ?_); (apply h_one 17; (case hr => kernel_rfl)); (first | (apply n_make1 (m := 44); (case hi => rfl); (case i1 => infer_instance); (case i2 => infer_instance); (case i3 => infer_instance); (case i4 => infer_instance); (case hg => rfl); (case hd => rfl); (case hx => rfl); (case hy => rfl); (case hzc => rfl); (case hb => decide); (case h63 => decide); intro _) | (refine Jn ?_; try intro _)); (apply h_one 18; (case hr => kernel_rfl)); (first | (apply n_make1 (m := 44); (case hi => rfl); (case i1 => infer_instance); (case i2 => infer_instance); (case i3 => infer_instance); (case i4 => infer_instance); (case hg => rfl); (case hd => rfl); (case hx => rfl); (case hy => rfl); (case hzc => rfl); (case hb => decide); (case h63 => decide); intro _) | (refine Jn ?_; try intro _)); (apply h_end; (case hr => kernel_rfl)); (apply q_then; exact q_cut ⟨rfl, _, _, _, (by first | exact List.Perm.refl _ | exact List.Perm.swap _ _ _ | exact (List.Perm.swap _ _ _).cons _ | exact (List.Perm.swap _ _ _).trans ((List.Perm.swap _ _ _).cons _) | exact ((List.Perm.swap _ _ _).cons _).trans (List.Perm.swap _ _ _) | exact (List.Perm.swap _ _ _).trans (((List.Perm.swap _ _ _).cons _).trans (List.Perm.swap _ _ _))), rfl⟩ sbF (List.Sublist.refl _)))); (case k2 => ((first | (apply n_make1 (m := 44); (case hi => rfl); (case i1 => infer_instance); (case i2 => infer_instance); (case i3 => infer_instance); (case i4 => infer_instance); (case hg => rfl); (case hd => rfl); (case hx => rfl); (case hy => rfl); (case hzc => rfl); (case hb => decide); (case h63 => decide); intro _) | (refine Jn ?_; try intro _)); (apply h_one 14; (case hr => kernel_rfl)); (first | (apply n_make1 (m := 44); (case hi => rfl); (case i1 => infer_instance); (case i2 => infer_instance); (case i3 => infer_instance); (case i4 => infer_instance); (case hg => rfl); (case hd => rfl); (case hx => rfl); (case hy => rfl); (case hzc => rfl); (case hb => decide); (case h63 => decide); intro _) | (refine Jn ?_; try intro _)); (first | (apply h_first 16; (case hi => rfl); (case hr => kernel_rfl); (case hfr => kernel_rfl); (case hsel => kernel_rfl); (case hg => rfl); (case hd => rfl); (case he => (apply ev_buildS; (case hp => rfl); (case hz => rfl); (case h1 => rfl); (case hr => rfl)))) | refine Jf 16 ?_); (apply h_one 18; (case hr => kernel_rfl)); (first | (apply n_make1 (m := 44); (case hi => rfl); (case i1 => infer_instance); (case i2 => infer_instance); (case i3 => infer_instance); (case i4 => infer_instance); (case hg => rfl); (case hd => rfl); (case hx => rfl); (case hy => rfl); (case hzc => rfl); (case hb => decide); (case h63 => decide); intro _) | (refine Jn ?_; try intro _)); (apply h_end; (case hr => kernel_rfl)); (apply q_then; exact q_cut ⟨rfl, _, _, _, (by first | exact List.Perm.refl _ | exact List.Perm.swap _ _ _ | exact (List.Perm.swap _ _ _).cons _ | exact (List.Perm.swap _ _ _).trans ((List.Perm.swap _ _ _).cons _) | exact ((List.Perm.swap _ _ _).cons _).trans (List.Perm.swap _ _ _) | exact (List.Perm.swap _ _ _).trans (((List.Perm.swap _ _ _).cons _).trans (List.Perm.swap _ _ _))), rfl⟩ sbF (List.Sublist.refl _)))))); (case k3 => ((first | (apply n_make1 (m := 44); (case hi => rfl); (case i1 => infer_instance); (case i2 => infer_instance); (case i3 => infer_instance); (case i4 => infer_instance); (case hg => rfl); (case hd => rfl); (case hx => rfl); (case hy => rfl); (case hzc => rfl); (case hb => decide); (case h63 => decide); intro _) | (refine Jn ?_; try intro _)); (apply h_two 14 15; (case hr => kernel_rfl)); (case k1 => ((first | (apply n_make1 (m := 44); (case hi => rfl); (case i1 => infer_instance); (case i2 => infer_instance); (case i3 => infer_instance); (case i4 => infer_instance); (case hg => rfl); (case hd => rfl); (case hx => rfl); (case hy => rfl); (case hzc => rfl); (case hb => decide); (case h63 => decide); intro _) | (refine Jn ?_; try intro _)); (apply h_one 15; (case hr => kernel_rfl)); (first | (apply n_make1 (m := 44); (case hi => rfl); (case i1 => infer_instance); (case i2 => infer_instance); (case i3 => infer_instance); (case i4 => infer_instance); (case hg => rfl); (case hd => rfl); (case hx => rfl); (case hy => rfl); (case hzc => rfl); (case hb => decide); (case h63 => decide); intro _) | (refine Jn ?_; try intro _)); (first | (apply h_first 16; (case hi => rfl); (case hr => kernel_rfl); (case hfr => kernel_rfl); (case hsel => kernel_rfl); (case hg => rfl); (case hd => rfl); (case he => (apply ev_buildS; (case hp => rfl); (case hz => rfl); (case h1 => rfl); (case hr => rfl)))) | refine Jf 16 ?_); (apply h_one 18; (case hr => kernel_rfl)); (first | (apply n_make1 (m := 44); (case hi => rfl); (case i1 => infer_instance); (case i2 => infer_instance); (case i3 => infer_instance); (case i4 => infer_instance); (case hg => rfl); (case hd => rfl); (case hx => rfl); (case hy => rfl); (case hzc => rfl); (case hb => decide); (case h63 => decide); intro _) | (refine Jn ?_; try intro _)); (apply h_end; (case hr => kernel_rfl)); (apply q_then; exact q_cut ⟨rfl, _, _, _, (by first | exact List.Perm.refl _ | exact List.Perm.swap _ _ _ | exact (List.Perm.swap _ _ _).cons _ | exact (List.Perm.swap _ _ _).trans ((List.Perm.swap _ _ _).cons _) | exact ((List.Perm.swap _ _ _).cons _).trans (List.Perm.swap _ _ _) | exact (List.Perm.swap _ _ _).trans (((List.Perm.swap _ _ _).cons _).trans (List.Perm.swap _ _ _))), rfl⟩ sbF (List.Sublist.refl _)))); (case k2 => ((first | (apply n_make1 (m := 44); (case hi => rfl); (case i1 => infer_instance); (case i2 => infer_instance); (case i3 => infer_instance); (case i4 => infer_instance); (case hg => rfl); (case hd => rfl); (case hx => rfl); (case hy => rfl); (case hzc => rfl); (case hb => decide); (case h63 => decide); intro _) | (refine Jn ?_; try intro _)); (apply h_one 14; (case hr => kernel_rfl)); (first | (apply n_make1 (m := 44); (case hi => rfl); (case i1 => infer_instance); (case i2 => infer_instance); (case i3 => infer_instance); (case i4 => infer_instance); (case hg => rfl); (case hd => rfl); (case hx => rfl); (case hy => rfl); (case hzc => rfl); (case hb => decide); (case h63 => decide); intro _) | (refine Jn ?_; try intro _)); (first | (apply h_first 16; (case hi => rfl); (case hr => kernel_rfl); (case hfr => kernel_rfl); (case hsel => kernel_rfl); (case hg => rfl); (case hd => rfl); (case he => (apply ev_buildS; (case hp => rfl); (case hz => rfl); (case h1 => rfl); (case hr => rfl)))) | refine Jf 16 ?_); (apply h_one 18; (case hr => kernel_rfl)); (first | (apply n_make1 (m := 44); (case hi => rfl); (case i1 => infer_instance); (case i2 => infer_instance); (case i3 => infer_instance); (case i4 => infer_instance); (case hg => rfl); (case hd => rfl); (case hx => rfl); (case hy => rfl); (case hzc => rfl); (case hb => decide); (case h63 => decide); intro _) | (refine Jn ?_; try intro _)); (apply h_end; (case hr => kernel_rfl)); (apply q_then; exact q_cut ⟨rfl, _, _, _, (by first | exact List.Perm.refl _ | exact List.Perm.swap _ _ _ | exact (List.Perm.swap _ _ _).cons _ | exact (List.Perm.swap _ _ _).trans ((List.Perm.swap _ _ _).cons _) | exact ((List.Perm.swap _ _ _).cons _).trans (List.Perm.swap _ _ _) | exact (List.Perm.swap _ _ _).trans (((List.Perm.swap _ _ _).cons _).trans (List.Perm.swap _ _ _))), rfl⟩ sbF (List.Sublist.refl _)))))))
  rintro S2 L2 F2 ⟨rfl, bc, bl, bh, hp, rfl⟩
  refine W.perm ?_ hp
  rw [ints_zero]
  (repeat (first | refine Jz ?_ | intro _))
  ((apply c_held ([(bc, .cells [.int .i64 sv, .int .i64 ve, .int .i64 op, .int .i64 dy, .int .i64 1, .int .i64 lo, .int .i64 hi, .int .i64 bb, .slice (some ⟨bl, 0, none⟩) 44 44, .slice (some ⟨bh, 0, none⟩) 44 44].toArray 45 (0, 0)), (bh, .cells (ints (fun _ => 0) 44).toArray 3 (0, 0)), (b2, .cells [.int .i64 0, .int .i64 0, .int .i64 0, .int .i64 0, .int .i64 0, .int .i64 0, .int .i64 0, .int .i64 0, .slice none 0 0, .slice none 0 0].toArray 45 (0, 0)), (b1, .cells [.int .i64 tr, .int .i64 sp, .int .i64 sv, .int .i64 ve, .int .i64 op, .int .i64 pe, .int .i64 dy, .int .i64 lo, .int .i64 hi, .int .i64 bb].toArray 27 (0, 0))]); (case hL => (exact sbT))); (first | (apply h_first 0; (case hi => rfl); (case hr => kernel_rfl); (case hfr => kernel_rfl); (case hsel => kernel_rfl); (case hg => rfl); (case hd => rfl); (case he => (apply ev_idxo1; (case hx => rfl); (case hi => rfl); (case hk => omega)))) | refine Jf 0 ?_); (first | (apply h_first 1; (case hi => rfl); (case hr => kernel_rfl); (case hfr => kernel_rfl); (case hsel => kernel_rfl); (case hg => rfl); (case hd => rfl); (case he => (apply ev_idxo1; (case hx => rfl); (case hi => rfl); (case hk => omega)))) | refine Jf 1 ?_); (first | (apply h_first 2; (case hi => rfl); (case hr => kernel_rfl); (case hfr => kernel_rfl); (case hsel => kernel_rfl); (case hg => rfl); (case hd => rfl); (case he => (apply ev_idxo1; (case hx => rfl); (case hi => rfl); (case hk => omega)))) | refine Jf 2 ?_); (first | (apply h_first 3; (case hi => rfl); (case hr => kernel_rfl); (case hfr => kernel_rfl); (case hsel => kernel_rfl); (case hg => rfl); (case hd => rfl); (case he => (apply ev_idxo1; (case hx => rfl); (case hi => rfl); (case hk => omega)))) | refine Jf 3 ?_); (apply h_one 4; (case hr => kernel_rfl)); (first | (apply n_call; (case hi => rfl); (case i1 => infer_instance); (case hg => rfl); (case hd => rfl); (case ha => rfl); (case hc => exact hbl _); (case hL => (exact pmT)); (case hsub => (intros; (exact sbT))); rintro _ _ _ - ⟨rfl, rfl, rfl⟩) | (apply n_ev; (case hi => rfl); (case hg => rfl); (case hd => rfl); (case he => (apply ev_load_own; (case hx => rfl); (case hm => (repeat (first | exact List.Mem.head _ | apply List.Mem.tail | apply List.mem_append_right))); (case h => exact ints_nth _ _ nl (by omega))))) | (apply n_store; (case hi => rfl); (case i1 => infer_instance); (case hg => rfl); (case hx => rfl); (case hy => rfl); (case h1 => rfl); (case hL => (repeat (first | exact Upd.head | apply Upd.tail | apply Upd.app))); (case hu => exact ints_nth _ _ nl (by omega)); (case hsub => (intro _; exact sbL))) | (refine Jn ?_; try intro _)); (first | (apply h_first 5; (case hi => rfl); (case hr => kernel_rfl); (case hfr => kernel_rfl); (case hsel => kernel_rfl); (case hg => rfl); (case hd => rfl); (case he => (apply ev_idxo1; (case hx => rfl); (case hi => rfl); (case hk => omega)))) | refine Jf 5 ?_); (apply h_one 6; (case hr => kernel_rfl)); (first | (apply n_call; (case hi => rfl); (case i1 => infer_instance); (case hg => rfl); (case hd => rfl); (case ha => rfl); (case hc => exact hbl _); (case hL => (exact pmT)); (case hsub => (intros; (exact sbT))); rintro _ _ _ - ⟨rfl, rfl, rfl⟩) | (apply n_ev; (case hi => rfl); (case hg => rfl); (case hd => rfl); (case he => (apply ev_load_own; (case hx => rfl); (case hm => (repeat (first | exact List.Mem.head _ | apply List.Mem.tail | apply List.mem_append_right))); (case h => exact ints_nth _ _ nl (by omega))))) | (apply n_store; (case hi => rfl); (case i1 => infer_instance); (case hg => rfl); (case hx => rfl); (case hy => rfl); (case h1 => rfl); (case hL => (repeat (first | exact Upd.head | apply Upd.tail | apply Upd.app))); (case hu => exact ints_nth _ _ nl (by omega)); (case hsub => (intro _; exact sbL))) | (refine Jn ?_; try intro _)); (first | (apply h_first 7; (case hi => rfl); (case hr => kernel_rfl); (case hfr => kernel_rfl); (case hsel => kernel_rfl); (case hg => rfl); (case hd => rfl); (case he => (apply ev_idxo1; (case hx => rfl); (case hi => rfl); (case hk => omega)))) | refine Jf 7 ?_); (first | (apply h_first 8; (case hi => rfl); (case hr => kernel_rfl); (case hfr => kernel_rfl); (case hsel => kernel_rfl); (case hg => rfl); (case hd => rfl); (case he => (apply ev_idxo1; (case hx => rfl); (case hi => rfl); (case hk => omega)))) | refine Jf 8 ?_); (apply h_one 9; (case hr => kernel_rfl)); (first | (apply n_call; (case hi => rfl); (case i1 => infer_instance); (case hg => rfl); (case hd => rfl); (case ha => rfl); (case hc => exact hbl _); (case hL => (exact pmT)); (case hsub => (intros; (exact sbT))); rintro _ _ _ - ⟨rfl, rfl, rfl⟩) | (apply n_ev; (case hi => rfl); (case hg => rfl); (case hd => rfl); (case he => (apply ev_load_own; (case hx => rfl); (case hm => (repeat (first | exact List.Mem.head _ | apply List.Mem.tail | apply List.mem_append_right))); (case h => exact ints_nth _ _ nl (by omega))))) | (apply n_store; (case hi => rfl); (case i1 => infer_instance); (case hg => rfl); (case hx => rfl); (case hy => rfl); (case h1 => rfl); (case hL => (repeat (first | exact Upd.head | apply Upd.tail | apply Upd.app))); (case hu => exact ints_nth _ _ nl (by omega)); (case hsub => (intro _; exact sbL))) | (refine Jn ?_; try intro _)); (apply h_end; (case hr => kernel_rfl)))
  rw [ints_set]
  (repeat (first | refine Jz ?_ | intro _))
  ((apply c_held ([(bc, .cells [.int .i64 sv, .int .i64 ve, .int .i64 op, .int .i64 dy, .int .i64 1, .int .i64 lo, .int .i64 hi, .int .i64 bb, .slice (some ⟨bl, 0, none⟩) 44 44, .slice (some ⟨bh, 0, none⟩) 44 44].toArray 45 (0, 0)), (bl, .cells (ints (fun i => if i = nl then 0 + 1 else 0) 44).toArray 3 (0, 0)), (b2, .cells [.int .i64 0, .int .i64 0, .int .i64 0, .int .i64 0, .int .i64 0, .int .i64 0, .int .i64 0, .int .i64 0, .slice none 0 0, .slice none 0 0].toArray 45 (0, 0)), (b1, .cells [.int .i64 tr, .int .i64 sp, .int .i64 sv, .int .i64 ve, .int .i64 op, .int .i64 pe, .int .i64 dy, .int .i64 lo, .int .i64 hi, .int .i64 bb].toArray 27 (0, 0))]); (case hL => (exact sbT))); (first | (apply h_first 0; (case hi => rfl); (case hr => kernel_rfl); (case hfr => kernel_rfl); (case hsel => kernel_rfl); (case hg => rfl); (case hd => rfl); (case he => (apply ev_idxo1; (case hx => rfl); (case hi => rfl); (case hk => omega)))) | refine Jf 0 ?_); (first | (apply h_first 1; (case hi => rfl); (case hr => kernel_rfl); (case hfr => kernel_rfl); (case hsel => kernel_rfl); (case hg => rfl); (case hd => rfl); (case he => (apply ev_idxo1; (case hx => rfl); (case hi => rfl); (case hk => omega)))) | refine Jf 1 ?_); (first | (apply h_first 2; (case hi => rfl); (case hr => kernel_rfl); (case hfr => kernel_rfl); (case hsel => kernel_rfl); (case hg => rfl); (case hd => rfl); (case he => (apply ev_idxo1; (case hx => rfl); (case hi => rfl); (case hk => omega)))) | refine Jf 2 ?_); (first | (apply h_first 3; (case hi => rfl); (case hr => kernel_rfl); (case hfr => kernel_rfl); (case hsel => kernel_rfl); (case hg => rfl); (case hd => rfl); (case he => (apply ev_idxo1; (case hx => rfl); (case hi => rfl); (case hk => omega)))) | refine Jf 3 ?_); (apply h_one 4; (case hr => kernel_rfl)); (first | (apply n_call; (case hi => rfl); (case i1 => infer_instance); (case hg => rfl); (case hd => rfl); (case ha => rfl); (case hc => exact hbh _); (case hL => (exact pmT)); (case hsub => (intros; (exact sbT))); rintro _ _ _ - ⟨rfl, rfl, rfl⟩) | (apply n_ev; (case hi => rfl); (case hg => rfl); (case hd => rfl); (case he => (apply ev_load_own; (case hx => rfl); (case hm => (repeat (first | exact List.Mem.head _ | apply List.Mem.tail | apply List.mem_append_right))); (case h => exact ints_nth _ _ nh (by omega))))) | (apply n_store; (case hi => rfl); (case i1 => infer_instance); (case hg => rfl); (case hx => rfl); (case hy => rfl); (case h1 => rfl); (case hL => (repeat (first | exact Upd.head | apply Upd.tail | apply Upd.app))); (case hu => exact ints_nth _ _ nh (by omega)); (case hsub => (intro _; exact sbL))) | (refine Jn ?_; try intro _)); (first | (apply h_first 5; (case hi => rfl); (case hr => kernel_rfl); (case hfr => kernel_rfl); (case hsel => kernel_rfl); (case hg => rfl); (case hd => rfl); (case he => (apply ev_idxo1; (case hx => rfl); (case hi => rfl); (case hk => omega)))) | refine Jf 5 ?_); (apply h_one 6; (case hr => kernel_rfl)); (first | (apply n_call; (case hi => rfl); (case i1 => infer_instance); (case hg => rfl); (case hd => rfl); (case ha => rfl); (case hc => exact hbh _); (case hL => (exact pmT)); (case hsub => (intros; (exact sbT))); rintro _ _ _ - ⟨rfl, rfl, rfl⟩) | (apply n_ev; (case hi => rfl); (case hg => rfl); (case hd => rfl); (case he => (apply ev_load_own; (case hx => rfl); (case hm => (repeat (first | exact List.Mem.head _ | apply List.Mem.tail | apply List.mem_append_right))); (case h => exact ints_nth _ _ nh (by omega))))) | (apply n_store; (case hi => rfl); (case i1 => infer_instance); (case hg => rfl); (case hx => rfl); (case hy => rfl); (case h1 => rfl); (case hL => (repeat (first | exact Upd.head | apply Upd.tail | apply Upd.app))); (case hu => exact ints_nth _ _ nh (by omega)); (case hsub => (intro _; exact sbL))) | (refine Jn ?_; try intro _)); (first | (apply h_first 7; (case hi => rfl); (case hr => kernel_rfl); (case hfr => kernel_rfl); (case hsel => kernel_rfl); (case hg => rfl); (case hd => rfl); (case he => (apply ev_idxo1; (case hx => rfl); (case hi => rfl); (case hk => omega)))) | refine Jf 7 ?_); (first | (apply h_first 8; (case hi => rfl); (case hr => kernel_rfl); (case hfr => kernel_rfl); (case hsel => kernel_rfl); (case hg => rfl); (case hd => rfl); (case he => (apply ev_idxo1; (case hx => rfl); (case hi => rfl); (case hk => omega)))) | refine Jf 8 ?_); (apply h_one 9; (case hr => kernel_rfl)); (first | (apply n_call; (case hi => rfl); (case i1 => infer_instance); (case hg => rfl); (case hd => rfl); (case ha => rfl); (case hc => exact hbh _); (case hL => (exact pmT)); (case hsub => (intros; (exact sbT))); rintro _ _ _ - ⟨rfl, rfl, rfl⟩) | (apply n_ev; (case hi => rfl); (case hg => rfl); (case hd => rfl); (case he => (apply ev_load_own; (case hx => rfl); (case hm => (repeat (first | exact List.Mem.head _ | apply List.Mem.tail | apply List.mem_append_right))); (case h => exact ints_nth _ _ nh (by omega))))) | (apply n_store; (case hi => rfl); (case i1 => infer_instance); (case hg => rfl); (case hx => rfl); (case hy => rfl); (case h1 => rfl); (case hL => (repeat (first | exact Upd.head | apply Upd.tail | apply Upd.app))); (case hu => exact ints_nth _ _ nh (by omega)); (case hsub => (intro _; exact sbL))) | (refine Jn ?_; try intro _)); (apply h_end; (case hr => kernel_rfl)))
  rw [ints_set]
  (repeat (first | refine Jz ?_ | intro _))
  refine W.perm (L' := [(bl, .cells (ints (fun i => if i = nl then 0 + 1 else 0) 44).toArray 3 (0, 0)), (bh, .cells (ints (fun i => if i = nh then 0 + 1 else 0) 44).toArray 3 (0, 0)), (b2, .cells [.int .i64 sv, .int .i64 ve, .int .i64 op, .int .i64 dy, .int .i64 1, .int .i64 lo, .int .i64 hi, .int .i64 bb, .slice (some ⟨bl, 0, none⟩) 44 44, .slice (some ⟨bh, 0, none⟩) 44 44].toArray 45 (0, 0)), (bc, .cells [.int .i64 sv, .int .i64 ve, .int .i64 op, .int .i64 dy, .int .i64 1, .int .i64 lo, .int .i64 hi, .int .i64 bb, .slice (some ⟨bl, 0, none⟩) 44 44, .slice (some ⟨bh, 0, none⟩) 44 44].toArray 45 (0, 0)), (b1, .cells [.int .i64 tr, .int .i64 sp, .int .i64 sv, .int .i64 ve, .int .i64 op, .int .i64 pe, .int .i64 dy, .int .i64 lo, .int .i64 hi, .int .i64 bb].toArray 27 (0, 0))]) ?_ ?_
  · refine W.freeze fun S3 h3 hb3 => W.freeze fun S4 h4 hb4 => ?_
    have e1 := unitL_len (nl : Int)
    have e2 := unitL_len (nh : Int)
    have hq : (⟨⟨sv, ve, op, dy, ⟨1, lo, hi, bb, unitL nl, unitL nh⟩⟩, some ⟨bl, 0, none⟩, 44, some ⟨bh, 0, none⟩, 44⟩ : Ce).vals = [.int .i64 sv, .int .i64 ve, .int .i64 op, .int .i64 dy, .int .i64 1, .int .i64 lo, .int .i64 hi, .int .i64 bb, .slice (some ⟨bl, 0, none⟩) 44 44, .slice (some ⟨bh, 0, none⟩) 44 44] := by
      simp only [Ce.vals, e1, e2]
    have hok : (⟨⟨sv, ve, op, dy, ⟨1, lo, hi, bb, unitL nl, unitL nh⟩⟩, some ⟨bl, 0, none⟩, 44, some ⟨bh, 0, none⟩, 44⟩ : Ce).ok S4 :=
      ⟨at_unit (h4 _ _ hb3), at_unit hb4, Nat.le_of_eq e1, Nat.le_of_eq e2, by simp only [e1]; decide, by simp only [e2]; decide⟩
    exact o_ret_cell (L' := []) (sz := 10) (cs := [.int .i64 sv, .int .i64 ve, .int .i64 op, .int .i64 dy, .int .i64 1, .int .i64 lo, .int .i64 hi, .int .i64 bb, .slice (some ⟨bl, 0, none⟩) 44 44, .slice (some ⟨bh, 0, none⟩) 44 44]) Tryd.results43 rfl (by repeat (first | exact List.Mem.head _ | refine List.Mem.tail _ ?_ | exact List.mem_append_right _ (List.Mem.head _))) rfl (List.nil_sublist _) ⟨rfl, _, by rw [hq], rfl, hok⟩
  · exact pm_cons (Z := [_, _, _]) (List.Perm.refl _)
end Go.Proofs.YtogfficbloejcaaDoor
namespace Go.Proofs.YtogfficbloejcaaDoor
open Go Go.X
set_option maxRecDepth 10000
set_option linter.unusedVariables false
attribute [local irreducible] Code.wpIn wpListIn Exit.then Exit.inBlock X.Out X.Back X.W X.Ev X.Con X.BinV X.Wh X.Wn X.Wq
theorem Clone_con (l : List Int) (A : Option Addr) (c : Nat) (S : SH) (hA : At S A l) (hl : l.length ≤ 1000000) : Con Tryd.prog 79 #[.slice A l.length c] S [] (fun S' L' r => S' = S ∧ Ows 3 r l L') := by
  refine con_of (args := [.slice A l.length c]) Tryd.func79 rfl Tryd.ntmps79 rfl fun w => ?_
  cases A with
  | none =>
    have hl0 : l = [] := by
      rcases Nat.eq_zero_or_pos l.length with h | h
      · exact List.eq_nil_of_length_eq_zero h
      · obtain ⟨p, hp, _⟩ := hA h; cases hp
    subst hl0
    (repeat (first | refine Jc ?_ | (apply s_evb; (case hg => rfl); (case hd => rfl); (case hn => rfl); (case he => ((apply ev_eql_nilsl; (case hx => rfl); (case hy => rfl))))) | refine Jo ?_ | intro _))
    exact o_ret (L' := []) Tryd.results79 rfl (List.nil_sublist _) ⟨rfl, Ows.nil 3⟩
  | some p =>
    (repeat (first | refine Jc ?_ | (apply s_evb; (case hg => rfl); (case hd => rfl); (case hn => rfl); (case he => ((apply ev_eql_nilsl; (case hx => rfl); (case hy => rfl))))) | (apply s_append_st (ms := l) hA; (case hg => rfl); (case hd => rfl); (case hx => rfl); (case ho => exact Ows.full (α := Int) (l := []) rfl (by decide)); (case hL => (exact pmT)); (case hy => rfl); (case hm => first | rfl | simp); (case hzs => rfl); (case h0 => decide); (case hb => first | (simp; omega) | simp); (case h63 => first | (simp; omega) | simp); intro v' ob' ho') | refine Jo ?_ | intro _))
    exact o_ret (L' := ob') Tryd.results79 rfl (by rw [List.append_nil]; exact List.Sublist.refl _) ⟨rfl, ho'⟩
instance : Ka Tryd.prog 80 := ⟨⟨3, Tryd.underlying80, Tryd.underlying3, by kernel_rfl⟩⟩
section
variable {β : Type}
def lookG (k : List Int) : List (List Int × β) → Option β
  | [] => none
  | (k', v) :: r => if k = k' then some v else lookG k r
def upsG (k : List Int) (v : β) : List (List Int × β) → List (List Int × β)
  | [] => [(k, v)]
  | (k', v') :: r => if k = k' then (k, v) :: r else (k', v') :: upsG k v r
theorem lookG_map {γ : Type} (f : β → γ) (k : List Int) : ∀ l : List (List Int × β), lookG k (l.map fun p => (p.1, f p.2)) = (lookG k l).map f
  | [] => rfl
  | (k', v) :: r => by
    simp only [List.map_cons, lookG, lookG_map f k r]
    split <;> rfl
theorem upsG_map {γ : Type} (f : β → γ) (k : List Int) (v : β) : ∀ l : List (List Int × β), upsG k (f v) (l.map fun p => (p.1, f p.2)) = (upsG k v l).map fun p => (p.1, f p.2)
  | [] => rfl
  | (k', v') :: r => by
    simp only [List.map_cons, upsG]
    split
    · rfl
    · rw [List.map_cons, upsG_map f k v r]
theorem lookG_mem {k : List Int} {v : β} : ∀ {l : List (List Int × β)}, lookG k l = some v → (k, v) ∈ l
  | (k', v') :: r, h => by
    simp only [lookG] at h
    split at h
    · rename_i e; cases h; subst e; exact List.mem_cons_self
    · exact List.mem_cons_of_mem _ (lookG_mem h)
theorem upsG_mem {k : List Int} {v : β} {p : List Int × β} : ∀ {l : List (List Int × β)}, p ∈ upsG k v l → p = (k, v) ∨ p ∈ l
  | [], h => .inl (by simpa [upsG] using h)
  | (k', v') :: r, h => by
    simp only [upsG] at h
    split at h
    · rcases List.mem_cons.1 h with h | h
      · exact .inl h
      · exact .inr (List.mem_cons_of_mem _ h)
    · rcases List.mem_cons.1 h with h | h
      · exact .inr (h ▸ List.mem_cons_self)
      · exact (upsG_mem h).imp id (List.mem_cons_of_mem _)
end
theorem lookK_eq (k : List Int) : ∀ l : Ents, lookK k l = lookG k l
  | [] => rfl
  | (k', v) :: r => by simp only [lookK, lookG, lookK_eq k r]
theorem upsK_eq (k : List Int) (v : Value) : ∀ l : Ents, upsK k v l = upsG k v l
  | [] => rfl
  | (k', v') :: r => by simp only [upsK, upsG, upsK_eq k v r]
def zeroV : Vec := ⟨0, 0, 0, 0, [], []⟩
def q00 : Ce := ⟨⟨0, 0, 0, 0, zeroV⟩, none, 0, none, 0⟩
theorem q00_ok (S : SH) : q00.ok S := ⟨At.nil _ _, At.nil _ _, Nat.le_refl _, Nat.le_refl _, Nat.zero_le _, Nat.zero_le _⟩
abbrev Qs := List (List Int × Ce)
def entsOf (qs : Qs) : Ents := qs.map fun p => (p.1, .agg p.2.vals.toArray)
def lookQ (k : List Int) (qs : Qs) : Ce := (lookG k qs).getD q00
/-- What the map of cells holds: rows in memory, keys of four, no key in a cell. -/
def QsOk (S : SH) (qs : Qs) : Prop := ∀ p ∈ qs, p.1.length = 4 ∧ p.2.ok S ∧ p.2.p = ⟨0, 0, 0, 0, p.2.p.x⟩
theorem QsOk.le {S T : SH} {qs : Qs} (h : QsOk S qs) (k : Le S T) : QsOk T qs := fun p hp => ⟨(h p hp).1, (h p hp).2.1.le k, (h p hp).2.2⟩
theorem QsOk.keys {S : SH} {qs : Qs} (h : QsOk S qs) : Keys4 (entsOf qs) := fun p hp => by
  obtain ⟨q, hq, rfl⟩ := List.mem_map.1 hp
  exact (h q hq).1
theorem lookQ_ok {S : SH} {qs : Qs} (h : QsOk S qs) (k : List Int) : (lookQ k qs).ok S ∧ (lookQ k qs).p = ⟨0, 0, 0, 0, (lookQ k qs).p.x⟩ := by
  unfold lookQ
  cases hk : lookG k qs with
  | none => exact ⟨q00_ok S, rfl⟩
  | some q => exact (h _ (lookG_mem hk)).2
theorem upsQ_ok {S : SH} {qs : Qs} (h : QsOk S qs) {k : List Int} (hk : k.length = 4) {q : Ce} (hq : q.ok S) (hp : q.p = ⟨0, 0, 0, 0, q.p.x⟩) : QsOk S (upsG k q qs) := fun p hp' => by
  rcases upsG_mem hp' with rfl | h'
  · exact ⟨hk, hq, hp⟩
  · exact h p h'
def mOf (qs : Qs) : List (List Int × Vec) := qs.map fun p => (p.1, p.2.p.x)
def stepM (g : Int → Int → Int) (m : List (List Int × Vec)) (c : PC) : List (List Int × Vec) := upsG c.key (vop g ((lookG c.key m).getD zeroV) c.x) m
theorem step_of {qs : Qs} {g : Int → Int → Int} {c : PC} {q' : Ce} (h : q'.p = { (lookQ c.key qs).p with x := vop g (lookQ c.key qs).p.x c.x }) : mOf (upsG c.key q' qs) = stepM g (mOf qs) c := by
  unfold stepM mOf
  rw [lookG_map (fun q : Ce => q.p.x), ← upsG_map (fun q : Ce => q.p.x)]
  congr 1
  rw [h]
  unfold lookQ
  cases lookG c.key qs <;> rfl
instance : Mpt Tryd.prog 103 80 45 := ⟨Tryd.underlying103⟩
section
variable {cx : Cx} {n : Nat} {S : SH} {L : Blocks} {F : Slots} {ty : TypeId}
theorem ev_lookQ {x y : Operand} {b : Nat} {qs : Qs} {key : List Int} (hx : evO F x = some (.map (some b))) (hy : evO F y = some (keyV key)) (hm : (b, mapO (entsOf qs)) ∈ L) (hE : QsOk S qs) (hl : key.length = 4) :
    Ev Tryd.prog cx n S L F (.lookup 103 x y false) ty (.agg (lookQ key qs).vals.toArray) := by
  have h := ev_lookupK (P := Tryd.prog) (T := 103) (ty := ty) (cx := cx) (n := n) (S := S) hx hy hm hE.keys hl
  rw [lookK_eq, entsOf, lookG_map (fun q : Ce => Value.agg q.vals.toArray)] at h
  unfold lookQ
  cases hk : lookG key qs <;> rw [hk] at h <;> exact h
end
theorem mapO_ups (k : List Int) (q : Ce) (qs : Qs) : mapO (upsK k (.agg q.vals.toArray) (entsOf qs)) = mapO (entsOf (upsG k q qs)) := by
  rw [upsK_eq, entsOf, upsG_map (fun q : Ce => Value.agg q.vals.toArray)]; rfl
end Go.Proofs.YtogfficbloejcaaDoor
namespace Go.Proofs.YtogfficbloejcaaDoor
open Go Go.X
set_option maxRecDepth 10000
set_option linter.unusedVariables false
attribute [local irreducible] Code.wpIn wpListIn Exit.then Exit.inBlock X.Out X.Back X.W X.Ev X.Con X.BinV X.Wh X.Wn X.Wq
def plusW (x y : Int) : Int := w64 (x + y)
def minusW (x y : Int) : Int := w64 (x - y)
theorem plusW_con (x y : Int) (S : SH) : Con Tryd.prog 45 #[.int .i64 x, .int .i64 y] S [] (Pure S (.int .i64 (plusW x y))) := plus_con x y S
theorem minusW_con (x y : Int) (S : SH) : Con Tryd.prog 50 #[.int .i64 x, .int .i64 y] S [] (Pure S (.int .i64 (minusW x y))) := minus_con x y S
def mkPC (k : List Int) (x : Vec) : PC := ⟨k.getD 0 0, k.getD 1 0, k.getD 2 0, k.getD 3 0, x⟩
structure VoidV (x : Vec) : Prop where
  n : x.n = 0
  lo : x.lo = 0
  hi : x.hi = 0
  by_ : x.by_ = 0
  row : ¬ ∃ e ∈ x.ls ++ x.hs, e ≠ 0
noncomputable def kept (l : List PC) : List PC := l.filter fun c => !bP (VoidV c.x)
noncomputable def colP (qs : Qs) (seen : List Nat) : List PC := kept ((seen.filterMap fun i => qs[i]?).map fun p => mkPC p.1 p.2.p.x)
theorem colP_snoc {qs : Qs} {seen : List Nat} {i : Nat} {k : List Int} {q : Ce} (h : qs[i]? = some (k, q)) : colP qs (seen ++ [i]) = colP qs seen ++ if bP (VoidV q.p.x) then [] else [mkPC k q.p.x] := by
  unfold colP kept
  rw [List.filterMap_append, List.map_append, List.filter_append]
  congr 1
  simp only [List.filterMap_cons, h, List.filterMap_nil, List.map_cons, List.map_nil, List.filter_cons, List.filter_nil]
  have e : (mkPC k q.p.x).x = q.p.x := rfl
  rw [e]
  cases bP (VoidV q.p.x) <;> simp
theorem perm_of_nodup : ∀ {l1 l2 : List Nat}, l1.Nodup → l2.Nodup → (∀ a, a ∈ l1 ↔ a ∈ l2) → l1.Perm l2
  | [], l2, _, _, h => by
    cases l2 with
    | nil => exact List.Perm.refl _
    | cons b l2 => exact absurd ((h b).2 List.mem_cons_self) List.not_mem_nil
  | a :: l1, l2, h1, h2, h => by
    have ha : a ∈ l2 := (h a).1 List.mem_cons_self
    obtain ⟨n1, n2⟩ := List.nodup_cons.1 h1
    refine List.Perm.trans ?_ (List.perm_cons_erase ha).symm
    refine (perm_of_nodup n2 (h2.erase a) fun x => ?_).cons a
    rw [h2.mem_erase_iff]
    constructor
    · intro hx
      exact ⟨fun e => n1 (e ▸ hx), (h x).1 (List.mem_cons_of_mem _ hx)⟩
    · rintro ⟨hne, hx⟩
      exact (List.mem_cons.1 ((h x).2 hx)).resolve_left hne
theorem nodup_le {n : Nat} {l : List Nat} (h1 : l.Nodup) (h2 : ∀ j ∈ l, j < n) : l.length ≤ n := by
  have h3 : l.Perm ((List.range n).filter fun j => decide (j ∈ l)) := perm_of_nodup h1 (List.nodup_range.filter _) fun a => by
    simp only [List.mem_filter, List.mem_range, decide_eq_true_eq]
    exact ⟨fun h => ⟨h2 a h, h⟩, fun h => h.2⟩
  have h4 := List.length_filter_le (fun j => decide (j ∈ l)) (List.range n)
  rw [← h3.length_eq, List.length_range] at h4
  exact h4
theorem seen_perm {qs : Qs} {seen : List Nat} (h1 : seen.Nodup) (h2 : ∀ j ∈ seen, j < qs.length) (h3 : ∀ i, i < qs.length → i ∈ seen) : (colP qs seen).Perm (kept ((mOf qs).map fun p => mkPC p.1 p.2)) := by
  have hp : seen.Perm (List.range qs.length) := perm_of_nodup h1 List.nodup_range fun a => by
    rw [List.mem_range]; exact ⟨h2 a, h3 a⟩
  have e1 : ∀ (l : Qs) (m : Qs), (List.range l.length).filterMap (fun i => (l ++ m)[i]?) = l := by
    intro l m
    induction l generalizing m with
    | nil => rfl
    | cons x l ih =>
      rw [List.length_cons, List.range_succ_eq_map, List.filterMap_cons]
      simp only [List.cons_append, List.getElem?_cons_zero, List.filterMap_map]
      congr 1
      exact ih m
  have e2 := e1 qs []
  rw [List.append_nil] at e2
  have h4 := hp.filterMap (fun i => qs[i]?)
  rw [e2] at h4
  have e3 : (mOf qs).map (fun p => mkPC p.1 p.2) = qs.map fun p => mkPC p.1 p.2.p.x := by simp [mOf]
  rw [e3]
  exact (h4.map _).filter _
theorem upsG_len {β : Type} (k : List Int) (v : β) : ∀ m : List (List Int × β), (upsG k v m).length ≤ m.length + 1
  | [] => by simp [upsG]
  | (k', v') :: r => by
    simp only [upsG]
    split
    · simp
    · have := upsG_len k v r; simp; omega
theorem stepM_len {g : Int → Int → Int} : ∀ (cs : List Ce) (m : List (List Int × Vec)), (cs.foldl (fun m q => stepM g m q.p) m).length ≤ m.length + cs.length
  | [], m => by simp
  | c :: cs, m => by
    have h1 := stepM_len (g := g) cs (stepM g m c.p)
    have h2 : (stepM g m c.p).length ≤ m.length + 1 := upsG_len _ _ _
    simp only [List.foldl_cons, List.length_cons]; omega
/-- What join yields out of the map's contents. -/
def JoinP (M : List (List Int × Vec)) (l : List PC) (e : Int) : Prop := ∃ l0, l0.Perm (kept (M.map fun p => mkPC p.1 p.2)) ∧ l0.Pairwise (fun x y => ¬ cmpL y.key x.key < 0) ∧ ((ValidP l0 ∧ l = l0 ∧ e = 0) ∨ (¬ ValidP l0 ∧ l = [] ∧ e = 170))
/-- A sketch in memory. -/
def SkV (S : SH) (v : Value) (l : List PC) : Prop := ∃ (A : Option Addr) (c : Nat) (cs : List Ce), v = .agg #[.slice A cs.length c] ∧ At S A cs ∧ (∀ q ∈ cs, q.ok S) ∧ cs.length ≤ 1000 ∧ cs.map (·.p) = l
set_option maxHeartbeats 1600000 in
theorem join_con {f : FuncId} [hfun : Fun Tryd.prog f] {g : Int → Int → Int} (hg : ∀ (x y : Int) (S : SH), Con Tryd.prog f #[.int .i64 x, .int .i64 y] S [] (Pure S (.int .i64 (g x y))))
    (xs bs : List Ce) (A B : Option Addr) (ca cb : Nat) (S : SH) (hG : Gl S) (hA : At S A xs) (hB : At S B bs) (oka : ∀ q ∈ xs, q.ok S) (okb : ∀ q ∈ bs, q.ok S) (la : xs.length ≤ 1000) (lb : bs.length ≤ 1000) :
    Con Tryd.prog 44 #[.slice A xs.length ca, .slice B bs.length cb, .func (.func f) #[] #[]] S [] (fun S' L' r => L' = [] ∧ ∃ v l e, r = .tuple #[v, .int .i64 e] ∧ SkV S' v l ∧ JoinP (bs.foldl (fun m q => stepM g m q.p) (xs.foldl (fun m q => stepM plusW m q.p) [])) l e) := by
  refine con_of (args := [.slice A xs.length ca, .slice B bs.length cb, .func (.func f) #[] #[]]) Tryd.func44 rfl Tryd.ntmps44 rfl fun w => ?_
  (repeat (first | refine Jc ?_ | (apply s_makeMap; (case hg => rfl); (case hd => rfl); intro _) | refine Jo ?_ | intro _))
  rename_i br bm
  refine c_loop (fun m S' L F => Le S S' ∧ ∃ (i : Nat) (qs : Qs), m = xs.length - i ∧ i ≤ xs.length ∧ QsOk S' qs ∧ mOf qs = (xs.take i).foldl (fun m q => stepM plusW m q.p) [] ∧ L = [(bm, mapO (entsOf qs)), (br, .cells [.slice none 0 0].toArray 24 (0, 0))] ∧
      F = [(1, .slice B bs.length cb), (2, .func (.func f) #[] #[]), (6, .pointer (some ⟨br, 0, none⟩)), (8, .map (some bm)), (17, .slice A xs.length ca), (18, .int .i64 xs.length), (19, .int .i64 i)]) ⟨Le.refl _, 0, [], rfl, by omega, fun p hp => absurd hp List.not_mem_nil, rfl, rfl, rfl⟩ sbF (List.Sublist.refl _) ?_
  rintro m S' L F ⟨hle, i, qs, rfl, hi1, hqs, hm, rfl, rfl⟩
  by_cases hlt : i < xs.length
  · obtain ⟨q, hq⟩ := at_lt' hlt
    have hqok := (oka q (List.mem_of_getElem? hq)).le hle
    have hlk := lookQ_ok hqs q.p.key
    (repeat (first | refine Jc ?_ | (apply s_idx (hA.le hle); (case hg => rfl); (case hd => rfl); (case hx => rfl); (case hi => rfl); (case hm => rfl); (case hu => exact hq); intro p hp) | (apply s_load_ag; (case hg => rfl); (case hd => rfl); (case hx => rfl); (case hv => exact hp); (case hl => rfl)) | refine Jo ?_ | intro _))
    rename_i bc
    ((apply c_gate 9 ([(bc, .cells q.vals.toArray 45 (0, 0)), (bm, mapO (entsOf qs))]); (case hL => (exact sbT))); (first | (apply g_first 0; (case hi => rfl); (case hr => kernel_rfl); (case hfr => kernel_rfl); (case hsel => kernel_rfl); (case hw => kernel_rfl); (case hg => rfl); (case hd => rfl); (case he => (apply ev_lookQ; (case hx => rfl); (case hy => rfl); (case hm => (repeat (first | exact List.Mem.head _ | apply List.Mem.tail | apply List.mem_append_right))); (case hE => exact hqs); (case hl => rfl)))) | (apply g_first 0; (case hi => rfl); (case hr => kernel_rfl); (case hfr => kernel_rfl); (case hsel => kernel_rfl); (case hw => kernel_rfl); (case hg => rfl); (case hd => rfl); (case he => first | (apply ev_move; rfl) | (apply ev_assign; rfl) | (apply ev_binV; (case hx => rfl); (case hy => rfl); (case hb => first | (apply bv_lss_t; omega) | (apply bv_lss_f; omega) | exact bv_lss | (apply bv_leq_t; omega) | (apply bv_leq_f; omega) | exact bv_leq | (apply bv_gtr_t; omega) | (apply bv_gtr_f; omega) | exact bv_gtr | (apply bv_geq_t; omega) | (apply bv_geq_f; omega) | exact bv_geq | (apply bv_eql_t; omega) | (apply bv_eql_f; omega) | exact bv_eql | (apply bv_neq_t; omega) | (apply bv_neq_f; omega) | exact bv_neq | (apply bv_add; omega) | (apply bv_sub; omega) | (apply bv_quo; omega) | (apply bv_rem; omega) | (apply bv_mul; omega) | (apply bv_tdiv; omega))) | (apply ev_fieldAddr'; rfl) | (apply ev_load_own; (case hx => rfl); (case hm => (repeat (first | exact List.Mem.head _ | apply List.Mem.tail | apply List.mem_append_right))); (case h => rfl)) | (apply ev_pick; (case hc => rfl); (case hx => rfl)) | (apply ev_not; rfl) | (apply ev_len; rfl) | (apply ev_extract'; (case hx => rfl); (case hv => rfl)) | (apply ev_field'; (case hx => rfl); (case hv => rfl)) | (apply ev_len_s; rfl) | (apply ev_min; (case hx => rfl); (case hy => rfl)) | (apply ev_max; (case hx => rfl); (case hy => rfl)) | (apply ev_nilCheck; rfl) | (apply ev_eql_b; (case hx => rfl); (case hy => rfl)) | (apply ev_neq_b; (case hx => rfl); (case hy => rfl)) | (apply ev_build; (case hp => rfl); (case hc => rfl)) | (apply ev_load_own_ag; (case hx => rfl); (case hm => (repeat (first | exact List.Mem.head _ | apply List.Mem.tail | apply List.mem_append_right))); (case hl => rfl)) | (apply ev_fieldAddr; rfl) | (apply ev_idxc; (case hx => rfl); (case hi => rfl); (case hk => decide))))); (first | (apply g_first 1; (case hi => rfl); (case hr => kernel_rfl); (case hfr => kernel_rfl); (case hsel => kernel_rfl); (case hw => kernel_rfl); (case hg => rfl); (case hd => rfl); (case he => (apply ev_lookQ; (case hx => rfl); (case hy => rfl); (case hm => (repeat (first | exact List.Mem.head _ | apply List.Mem.tail | apply List.mem_append_right))); (case hE => exact hqs); (case hl => rfl)))) | (apply g_first 1; (case hi => rfl); (case hr => kernel_rfl); (case hfr => kernel_rfl); (case hsel => kernel_rfl); (case hw => kernel_rfl); (case hg => rfl); (case hd => rfl); (case he => first | (apply ev_move; rfl) | (apply ev_assign; rfl) | (apply ev_binV; (case hx => rfl); (case hy => rfl); (case hb => first | (apply bv_lss_t; omega) | (apply bv_lss_f; omega) | exact bv_lss | (apply bv_leq_t; omega) | (apply bv_leq_f; omega) | exact bv_leq | (apply bv_gtr_t; omega) | (apply bv_gtr_f; omega) | exact bv_gtr | (apply bv_geq_t; omega) | (apply bv_geq_f; omega) | exact bv_geq | (apply bv_eql_t; omega) | (apply bv_eql_f; omega) | exact bv_eql | (apply bv_neq_t; omega) | (apply bv_neq_f; omega) | exact bv_neq | (apply bv_add; omega) | (apply bv_sub; omega) | (apply bv_quo; omega) | (apply bv_rem; omega) | (apply bv_mul; omega) | (apply bv_tdiv; omega))) | (apply ev_fieldAddr'; rfl) | (apply ev_load_own; (case hx => rfl); (case hm => (repeat (first | exact List.Mem.head _ | apply List.Mem.tail | apply List.mem_append_right))); (case h => rfl)) | (apply ev_pick; (case hc => rfl); (case hx => rfl)) | (apply ev_not; rfl) | (apply ev_len; rfl) | (apply ev_extract'; (case hx => rfl); (case hv => rfl)) | (apply ev_field'; (case hx => rfl); (case hv => rfl)) | (apply ev_len_s; rfl) | (apply ev_min; (case hx => rfl); (case hy => rfl)) | (apply ev_max; (case hx => rfl); (case hy => rfl)) | (apply ev_nilCheck; rfl) | (apply ev_eql_b; (case hx => rfl); (case hy => rfl)) | (apply ev_neq_b; (case hx => rfl); (case hy => rfl)) | (apply ev_build; (case hp => rfl); (case hc => rfl)) | (apply ev_load_own_ag; (case hx => rfl); (case hm => (repeat (first | exact List.Mem.head _ | apply List.Mem.tail | apply List.mem_append_right))); (case hl => rfl)) | (apply ev_fieldAddr; rfl) | (apply ev_idxc; (case hx => rfl); (case hi => rfl); (case hk => decide))))); (first | (apply g_first 3; (case hi => rfl); (case hr => kernel_rfl); (case hfr => kernel_rfl); (case hsel => kernel_rfl); (case hw => kernel_rfl); (case hg => rfl); (case hd => rfl); (case he => (apply ev_lookQ; (case hx => rfl); (case hy => rfl); (case hm => (repeat (first | exact List.Mem.head _ | apply List.Mem.tail | apply List.mem_append_right))); (case hE => exact hqs); (case hl => rfl)))) | (apply g_first 3; (case hi => rfl); (case hr => kernel_rfl); (case hfr => kernel_rfl); (case hsel => kernel_rfl); (case hw => kernel_rfl); (case hg => rfl); (case hd => rfl); (case he => first | (apply ev_move; rfl) | (apply ev_assign; rfl) | (apply ev_binV; (case hx => rfl); (case hy => rfl); (case hb => first | (apply bv_lss_t; omega) | (apply bv_lss_f; omega) | exact bv_lss | (apply bv_leq_t; omega) | (apply bv_leq_f; omega) | exact bv_leq | (apply bv_gtr_t; omega) | (apply bv_gtr_f; omega) | exact bv_gtr | (apply bv_geq_t; omega) | (apply bv_geq_f; omega) | exact bv_geq | (apply bv_eql_t; omega) | (apply bv_eql_f; omega) | exact bv_eql | (apply bv_neq_t; omega) | (apply bv_neq_f; omega) | exact bv_neq | (apply bv_add; omega) | (apply bv_sub; omega) | (apply bv_quo; omega) | (apply bv_rem; omega) | (apply bv_mul; omega) | (apply bv_tdiv; omega))) | (apply ev_fieldAddr'; rfl) | (apply ev_load_own; (case hx => rfl); (case hm => (repeat (first | exact List.Mem.head _ | apply List.Mem.tail | apply List.mem_append_right))); (case h => rfl)) | (apply ev_pick; (case hc => rfl); (case hx => rfl)) | (apply ev_not; rfl) | (apply ev_len; rfl) | (apply ev_extract'; (case hx => rfl); (case hv => rfl)) | (apply ev_field'; (case hx => rfl); (case hv => rfl)) | (apply ev_len_s; rfl) | (apply ev_min; (case hx => rfl); (case hy => rfl)) | (apply ev_max; (case hx => rfl); (case hy => rfl)) | (apply ev_nilCheck; rfl) | (apply ev_eql_b; (case hx => rfl); (case hy => rfl)) | (apply ev_neq_b; (case hx => rfl); (case hy => rfl)) | (apply ev_build; (case hp => rfl); (case hc => rfl)) | (apply ev_load_own_ag; (case hx => rfl); (case hm => (repeat (first | exact List.Mem.head _ | apply List.Mem.tail | apply List.mem_append_right))); (case hl => rfl)) | (apply ev_fieldAddr; rfl) | (apply ev_idxc; (case hx => rfl); (case hi => rfl); (case hk => decide))))); (first | (apply g_first 4; (case hi => rfl); (case hr => kernel_rfl); (case hfr => kernel_rfl); (case hsel => kernel_rfl); (case hw => kernel_rfl); (case hg => rfl); (case hd => rfl); (case he => (apply ev_lookQ; (case hx => rfl); (case hy => rfl); (case hm => (repeat (first | exact List.Mem.head _ | apply List.Mem.tail | apply List.mem_append_right))); (case hE => exact hqs); (case hl => rfl)))) | (apply g_first 4; (case hi => rfl); (case hr => kernel_rfl); (case hfr => kernel_rfl); (case hsel => kernel_rfl); (case hw => kernel_rfl); (case hg => rfl); (case hd => rfl); (case he => first | (apply ev_move; rfl) | (apply ev_assign; rfl) | (apply ev_binV; (case hx => rfl); (case hy => rfl); (case hb => first | (apply bv_lss_t; omega) | (apply bv_lss_f; omega) | exact bv_lss | (apply bv_leq_t; omega) | (apply bv_leq_f; omega) | exact bv_leq | (apply bv_gtr_t; omega) | (apply bv_gtr_f; omega) | exact bv_gtr | (apply bv_geq_t; omega) | (apply bv_geq_f; omega) | exact bv_geq | (apply bv_eql_t; omega) | (apply bv_eql_f; omega) | exact bv_eql | (apply bv_neq_t; omega) | (apply bv_neq_f; omega) | exact bv_neq | (apply bv_add; omega) | (apply bv_sub; omega) | (apply bv_quo; omega) | (apply bv_rem; omega) | (apply bv_mul; omega) | (apply bv_tdiv; omega))) | (apply ev_fieldAddr'; rfl) | (apply ev_load_own; (case hx => rfl); (case hm => (repeat (first | exact List.Mem.head _ | apply List.Mem.tail | apply List.mem_append_right))); (case h => rfl)) | (apply ev_pick; (case hc => rfl); (case hx => rfl)) | (apply ev_not; rfl) | (apply ev_len; rfl) | (apply ev_extract'; (case hx => rfl); (case hv => rfl)) | (apply ev_field'; (case hx => rfl); (case hv => rfl)) | (apply ev_len_s; rfl) | (apply ev_min; (case hx => rfl); (case hy => rfl)) | (apply ev_max; (case hx => rfl); (case hy => rfl)) | (apply ev_nilCheck; rfl) | (apply ev_eql_b; (case hx => rfl); (case hy => rfl)) | (apply ev_neq_b; (case hx => rfl); (case hy => rfl)) | (apply ev_build; (case hp => rfl); (case hc => rfl)) | (apply ev_load_own_ag; (case hx => rfl); (case hm => (repeat (first | exact List.Mem.head _ | apply List.Mem.tail | apply List.mem_append_right))); (case hl => rfl)) | (apply ev_fieldAddr; rfl) | (apply ev_idxc; (case hx => rfl); (case hi => rfl); (case hk => decide))))); (first | (apply g_first 7; (case hi => rfl); (case hr => kernel_rfl); (case hfr => kernel_rfl); (case hsel => kernel_rfl); (case hw => kernel_rfl); (case hg => rfl); (case hd => rfl); (case he => (apply ev_lookQ; (case hx => rfl); (case hy => rfl); (case hm => (repeat (first | exact List.Mem.head _ | apply List.Mem.tail | apply List.mem_append_right))); (case hE => exact hqs); (case hl => rfl)))) | (apply g_first 7; (case hi => rfl); (case hr => kernel_rfl); (case hfr => kernel_rfl); (case hsel => kernel_rfl); (case hw => kernel_rfl); (case hg => rfl); (case hd => rfl); (case he => first | (apply ev_move; rfl) | (apply ev_assign; rfl) | (apply ev_binV; (case hx => rfl); (case hy => rfl); (case hb => first | (apply bv_lss_t; omega) | (apply bv_lss_f; omega) | exact bv_lss | (apply bv_leq_t; omega) | (apply bv_leq_f; omega) | exact bv_leq | (apply bv_gtr_t; omega) | (apply bv_gtr_f; omega) | exact bv_gtr | (apply bv_geq_t; omega) | (apply bv_geq_f; omega) | exact bv_geq | (apply bv_eql_t; omega) | (apply bv_eql_f; omega) | exact bv_eql | (apply bv_neq_t; omega) | (apply bv_neq_f; omega) | exact bv_neq | (apply bv_add; omega) | (apply bv_sub; omega) | (apply bv_quo; omega) | (apply bv_rem; omega) | (apply bv_mul; omega) | (apply bv_tdiv; omega))) | (apply ev_fieldAddr'; rfl) | (apply ev_load_own; (case hx => rfl); (case hm => (repeat (first | exact List.Mem.head _ | apply List.Mem.tail | apply List.mem_append_right))); (case h => rfl)) | (apply ev_pick; (case hc => rfl); (case hx => rfl)) | (apply ev_not; rfl) | (apply ev_len; rfl) | (apply ev_extract'; (case hx => rfl); (case hv => rfl)) | (apply ev_field'; (case hx => rfl); (case hv => rfl)) | (apply ev_len_s; rfl) | (apply ev_min; (case hx => rfl); (case hy => rfl)) | (apply ev_max; (case hx => rfl); (case hy => rfl)) | (apply ev_nilCheck; rfl) | (apply ev_eql_b; (case hx => rfl); (case hy => rfl)) | (apply ev_neq_b; (case hx => rfl); (case hy => rfl)) | (apply ev_build; (case hp => rfl); (case hc => rfl)) | (apply ev_load_own_ag; (case hx => rfl); (case hm => (repeat (first | exact List.Mem.head _ | apply List.Mem.tail | apply List.mem_append_right))); (case hl => rfl)) | (apply ev_fieldAddr; rfl) | (apply ev_idxc; (case hx => rfl); (case hi => rfl); (case hk => decide))))); (apply g_one 2; (case hr => kernel_rfl)); (first | (apply g_call (caps := []); (case hi => rfl); (case hg => rfl); (case hd => rfl); (case hx => rfl); (case i1 => infer_instance); (case ha => rfl); (case hc => exact keyOf_con q _); (case hL => (exact pmT)); (case hsub => (intros; (exact sbT))); rintro _ _ _ - ⟨rfl, rfl, rfl⟩) | (apply g_call (caps := []); (case hi => rfl); (case hg => rfl); (case hd => rfl); (case hx => rfl); (case i1 => infer_instance); (case ha => rfl); (case hc => exact combine_con plusW_con (lookQ q.p.key qs) q _ hlk.1 hqok); (case hL => (exact pmT)); (case hsub => (intros; (exact sbT))); rintro S3 L3 v3 hle3 ⟨rfl, q', rfl, hq1, hq2⟩)); (apply g_one 5; (case hr => kernel_rfl)); (first | (apply g_call (caps := []); (case hi => rfl); (case hg => rfl); (case hd => rfl); (case hx => rfl); (case i1 => infer_instance); (case ha => rfl); (case hc => exact keyOf_con q _); (case hL => (exact pmT)); (case hsub => (intros; (exact sbT))); rintro _ _ _ - ⟨rfl, rfl, rfl⟩) | (apply g_call (caps := []); (case hi => rfl); (case hg => rfl); (case hd => rfl); (case hx => rfl); (case i1 => infer_instance); (case ha => rfl); (case hc => exact combine_con plusW_con (lookQ q.p.key qs) q _ hlk.1 hqok); (case hL => (exact pmT)); (case hsub => (intros; (exact sbT))); rintro S3 L3 v3 hle3 ⟨rfl, q', rfl, hq1, hq2⟩)); (first | (apply g_first 6; (case hi => rfl); (case hr => kernel_rfl); (case hfr => kernel_rfl); (case hsel => kernel_rfl); (case hw => kernel_rfl); (case hg => rfl); (case hd => rfl); (case he => (apply ev_lookQ; (case hx => rfl); (case hy => rfl); (case hm => (repeat (first | exact List.Mem.head _ | apply List.Mem.tail | apply List.mem_append_right))); (case hE => exact hqs); (case hl => rfl)))) | (apply g_first 6; (case hi => rfl); (case hr => kernel_rfl); (case hfr => kernel_rfl); (case hsel => kernel_rfl); (case hw => kernel_rfl); (case hg => rfl); (case hd => rfl); (case he => first | (apply ev_move; rfl) | (apply ev_assign; rfl) | (apply ev_binV; (case hx => rfl); (case hy => rfl); (case hb => first | (apply bv_lss_t; omega) | (apply bv_lss_f; omega) | exact bv_lss | (apply bv_leq_t; omega) | (apply bv_leq_f; omega) | exact bv_leq | (apply bv_gtr_t; omega) | (apply bv_gtr_f; omega) | exact bv_gtr | (apply bv_geq_t; omega) | (apply bv_geq_f; omega) | exact bv_geq | (apply bv_eql_t; omega) | (apply bv_eql_f; omega) | exact bv_eql | (apply bv_neq_t; omega) | (apply bv_neq_f; omega) | exact bv_neq | (apply bv_add; omega) | (apply bv_sub; omega) | (apply bv_quo; omega) | (apply bv_rem; omega) | (apply bv_mul; omega) | (apply bv_tdiv; omega))) | (apply ev_fieldAddr'; rfl) | (apply ev_load_own; (case hx => rfl); (case hm => (repeat (first | exact List.Mem.head _ | apply List.Mem.tail | apply List.mem_append_right))); (case h => rfl)) | (apply ev_pick; (case hc => rfl); (case hx => rfl)) | (apply ev_not; rfl) | (apply ev_len; rfl) | (apply ev_extract'; (case hx => rfl); (case hv => rfl)) | (apply ev_field'; (case hx => rfl); (case hv => rfl)) | (apply ev_len_s; rfl) | (apply ev_min; (case hx => rfl); (case hy => rfl)) | (apply ev_max; (case hx => rfl); (case hy => rfl)) | (apply ev_nilCheck; rfl) | (apply ev_eql_b; (case hx => rfl); (case hy => rfl)) | (apply ev_neq_b; (case hx => rfl); (case hy => rfl)) | (apply ev_build; (case hp => rfl); (case hc => rfl)) | (apply ev_load_own_ag; (case hx => rfl); (case hm => (repeat (first | exact List.Mem.head _ | apply List.Mem.tail | apply List.mem_append_right))); (case hl => rfl)) | (apply ev_fieldAddr; rfl) | (apply ev_idxc; (case hx => rfl); (case hi => rfl); (case hk => decide))))); (apply g_one 8; (case hr => kernel_rfl)); (first | (apply g_call (caps := []); (case hi => rfl); (case hg => rfl); (case hd => rfl); (case hx => rfl); (case i1 => infer_instance); (case ha => rfl); (case hc => exact keyOf_con q _); (case hL => (exact pmT)); (case hsub => (intros; (exact sbT))); rintro _ _ _ - ⟨rfl, rfl, rfl⟩) | (apply g_call (caps := []); (case hi => rfl); (case hg => rfl); (case hd => rfl); (case hx => rfl); (case i1 => infer_instance); (case ha => rfl); (case hc => exact combine_con plusW_con (lookQ q.p.key qs) q _ hlk.1 hqok); (case hL => (exact pmT)); (case hsub => (intros; (exact sbT))); rintro S3 L3 v3 hle3 ⟨rfl, q', rfl, hq1, hq2⟩)); (apply g_open ([(bc, .cells q.vals.toArray 45 (0, 0))]); (case hr => kernel_rfl); (case hL => (exact sbT))); (apply h_one 9; (case hr => kernel_rfl)); (first | (apply n_mapUpdate; (case hi => rfl); (case i1 => infer_instance); (case i2 => infer_instance); (case hg => rfl); (case hx => rfl); (case hy => rfl); (case hz => rfl); (case hL => (repeat (first | exact Upd.head | apply Upd.tail | apply Upd.app))); (case hE => exact hqs.keys); (case hl => rfl); (case hsub => (intro _; exact sbL))) | (refine Jn ?_; try intro _)); (apply h_end; (case hr => kernel_rfl)))
    rw [mapO_ups]
    (repeat (first | refine Jz ?_ | intro _))
    refine q_back (m' := xs.length - (i + 1)) ⟨hle.trans hle3, i + 1, upsG q.p.key q' qs, rfl, by omega, upsQ_ok (hqs.le hle3) rfl hq2 (by rw [hq1, hlk.2]), ?_, rfl, rfl⟩ (by omega) sbF sbL
    rw [step_of hq1, hm, take_at' hq, List.foldl_append]; rfl
  obtain rfl : i = xs.length := by omega
  rw [List.take_length] at hm
  have hns : ¬ (xs.length < xs.length) := by omega
  (repeat (first | refine Jz ?_ | intro _))
  refine c_loop (fun m S2 L F => Le S S2 ∧ ∃ (i : Nat) (qs : Qs), m = bs.length - i ∧ i ≤ bs.length ∧ QsOk S2 qs ∧ mOf qs = (bs.take i).foldl (fun m q => stepM g m q.p) (xs.foldl (fun m q => stepM plusW m q.p) []) ∧ L = [(bm, mapO (entsOf qs)), (br, .cells [.slice none 0 0].toArray 24 (0, 0))] ∧
      F = [(2, .func (.func f) #[] #[]), (6, .pointer (some ⟨br, 0, none⟩)), (8, .map (some bm)), (33, .slice B bs.length cb), (34, .int .i64 bs.length), (35, .int .i64 i)]) ⟨hle, 0, qs, rfl, by omega, hqs, hm, rfl, rfl⟩ sbF (List.Sublist.refl _) ?_
  clear hqs hm hle
  rintro m S2 L F ⟨hle, i, qs, rfl, hi1, hqs, hm, rfl, rfl⟩
  by_cases hlt : i < bs.length
  · obtain ⟨q, hq⟩ := at_lt' hlt
    have hqok := (okb q (List.mem_of_getElem? hq)).le hle
    have hlk := lookQ_ok hqs q.p.key
    (repeat (first | refine Jc ?_ | (apply s_idx (hB.le hle); (case hg => rfl); (case hd => rfl); (case hx => rfl); (case hi => rfl); (case hm => rfl); (case hu => exact hq); intro p hp) | (apply s_load_ag; (case hg => rfl); (case hd => rfl); (case hx => rfl); (case hv => exact hp); (case hl => rfl)) | refine Jo ?_ | intro _))
    rename_i bc
    ((apply c_gate 10 ([(bc, .cells q.vals.toArray 45 (0, 0)), (bm, mapO (entsOf qs))]); (case hL => (exact sbT))); (first | (apply g_first 0; (case hi => rfl); (case hr => kernel_rfl); (case hfr => kernel_rfl); (case hsel => kernel_rfl); (case hw => kernel_rfl); (case hg => rfl); (case hd => rfl); (case he => (apply ev_lookQ; (case hx => rfl); (case hy => rfl); (case hm => (repeat (first | exact List.Mem.head _ | apply List.Mem.tail | apply List.mem_append_right))); (case hE => exact hqs); (case hl => rfl)))) | (apply g_first 0; (case hi => rfl); (case hr => kernel_rfl); (case hfr => kernel_rfl); (case hsel => kernel_rfl); (case hw => kernel_rfl); (case hg => rfl); (case hd => rfl); (case he => first | (apply ev_move; rfl) | (apply ev_assign; rfl) | (apply ev_binV; (case hx => rfl); (case hy => rfl); (case hb => first | (apply bv_lss_t; omega) | (apply bv_lss_f; omega) | exact bv_lss | (apply bv_leq_t; omega) | (apply bv_leq_f; omega) | exact bv_leq | (apply bv_gtr_t; omega) | (apply bv_gtr_f; omega) | exact bv_gtr | (apply bv_geq_t; omega) | (apply bv_geq_f; omega) | exact bv_geq | (apply bv_eql_t; omega) | (apply bv_eql_f; omega) | exact bv_eql | (apply bv_neq_t; omega) | (apply bv_neq_f; omega) | exact bv_neq | (apply bv_add; omega) | (apply bv_sub; omega) | (apply bv_quo; omega) | (apply bv_rem; omega) | (apply bv_mul; omega) | (apply bv_tdiv; omega))) | (apply ev_fieldAddr'; rfl) | (apply ev_load_own; (case hx => rfl); (case hm => (repeat (first | exact List.Mem.head _ | apply List.Mem.tail | apply List.mem_append_right))); (case h => rfl)) | (apply ev_pick; (case hc => rfl); (case hx => rfl)) | (apply ev_not; rfl) | (apply ev_len; rfl) | (apply ev_extract'; (case hx => rfl); (case hv => rfl)) | (apply ev_field'; (case hx => rfl); (case hv => rfl)) | (apply ev_len_s; rfl) | (apply ev_min; (case hx => rfl); (case hy => rfl)) | (apply ev_max; (case hx => rfl); (case hy => rfl)) | (apply ev_nilCheck; rfl) | (apply ev_eql_b; (case hx => rfl); (case hy => rfl)) | (apply ev_neq_b; (case hx => rfl); (case hy => rfl)) | (apply ev_build; (case hp => rfl); (case hc => rfl)) | (apply ev_load_own_ag; (case hx => rfl); (case hm => (repeat (first | exact List.Mem.head _ | apply List.Mem.tail | apply List.mem_append_right))); (case hl => rfl)) | (apply ev_fieldAddr; rfl) | (apply ev_idxc; (case hx => rfl); (case hi => rfl); (case hk => decide))))); (first | (apply g_first 1; (case hi => rfl); (case hr => kernel_rfl); (case hfr => kernel_rfl); (case hsel => kernel_rfl); (case hw => kernel_rfl); (case hg => rfl); (case hd => rfl); (case he => (apply ev_lookQ; (case hx => rfl); (case hy => rfl); (case hm => (repeat (first | exact List.Mem.head _ | apply List.Mem.tail | apply List.mem_append_right))); (case hE => exact hqs); (case hl => rfl)))) | (apply g_first 1; (case hi => rfl); (case hr => kernel_rfl); (case hfr => kernel_rfl); (case hsel => kernel_rfl); (case hw => kernel_rfl); (case hg => rfl); (case hd => rfl); (case he => first | (apply ev_move; rfl) | (apply ev_assign; rfl) | (apply ev_binV; (case hx => rfl); (case hy => rfl); (case hb => first | (apply bv_lss_t; omega) | (apply bv_lss_f; omega) | exact bv_lss | (apply bv_leq_t; omega) | (apply bv_leq_f; omega) | exact bv_leq | (apply bv_gtr_t; omega) | (apply bv_gtr_f; omega) | exact bv_gtr | (apply bv_geq_t; omega) | (apply bv_geq_f; omega) | exact bv_geq | (apply bv_eql_t; omega) | (apply bv_eql_f; omega) | exact bv_eql | (apply bv_neq_t; omega) | (apply bv_neq_f; omega) | exact bv_neq | (apply bv_add; omega) | (apply bv_sub; omega) | (apply bv_quo; omega) | (apply bv_rem; omega) | (apply bv_mul; omega) | (apply bv_tdiv; omega))) | (apply ev_fieldAddr'; rfl) | (apply ev_load_own; (case hx => rfl); (case hm => (repeat (first | exact List.Mem.head _ | apply List.Mem.tail | apply List.mem_append_right))); (case h => rfl)) | (apply ev_pick; (case hc => rfl); (case hx => rfl)) | (apply ev_not; rfl) | (apply ev_len; rfl) | (apply ev_extract'; (case hx => rfl); (case hv => rfl)) | (apply ev_field'; (case hx => rfl); (case hv => rfl)) | (apply ev_len_s; rfl) | (apply ev_min; (case hx => rfl); (case hy => rfl)) | (apply ev_max; (case hx => rfl); (case hy => rfl)) | (apply ev_nilCheck; rfl) | (apply ev_eql_b; (case hx => rfl); (case hy => rfl)) | (apply ev_neq_b; (case hx => rfl); (case hy => rfl)) | (apply ev_build; (case hp => rfl); (case hc => rfl)) | (apply ev_load_own_ag; (case hx => rfl); (case hm => (repeat (first | exact List.Mem.head _ | apply List.Mem.tail | apply List.mem_append_right))); (case hl => rfl)) | (apply ev_fieldAddr; rfl) | (apply ev_idxc; (case hx => rfl); (case hi => rfl); (case hk => decide))))); (first | (apply g_first 3; (case hi => rfl); (case hr => kernel_rfl); (case hfr => kernel_rfl); (case hsel => kernel_rfl); (case hw => kernel_rfl); (case hg => rfl); (case hd => rfl); (case he => (apply ev_lookQ; (case hx => rfl); (case hy => rfl); (case hm => (repeat (first | exact List.Mem.head _ | apply List.Mem.tail | apply List.mem_append_right))); (case hE => exact hqs); (case hl => rfl)))) | (apply g_first 3; (case hi => rfl); (case hr => kernel_rfl); (case hfr => kernel_rfl); (case hsel => kernel_rfl); (case hw => kernel_rfl); (case hg => rfl); (case hd => rfl); (case he => first | (apply ev_move; rfl) | (apply ev_assign; rfl) | (apply ev_binV; (case hx => rfl); (case hy => rfl); (case hb => first | (apply bv_lss_t; omega) | (apply bv_lss_f; omega) | exact bv_lss | (apply bv_leq_t; omega) | (apply bv_leq_f; omega) | exact bv_leq | (apply bv_gtr_t; omega) | (apply bv_gtr_f; omega) | exact bv_gtr | (apply bv_geq_t; omega) | (apply bv_geq_f; omega) | exact bv_geq | (apply bv_eql_t; omega) | (apply bv_eql_f; omega) | exact bv_eql | (apply bv_neq_t; omega) | (apply bv_neq_f; omega) | exact bv_neq | (apply bv_add; omega) | (apply bv_sub; omega) | (apply bv_quo; omega) | (apply bv_rem; omega) | (apply bv_mul; omega) | (apply bv_tdiv; omega))) | (apply ev_fieldAddr'; rfl) | (apply ev_load_own; (case hx => rfl); (case hm => (repeat (first | exact List.Mem.head _ | apply List.Mem.tail | apply List.mem_append_right))); (case h => rfl)) | (apply ev_pick; (case hc => rfl); (case hx => rfl)) | (apply ev_not; rfl) | (apply ev_len; rfl) | (apply ev_extract'; (case hx => rfl); (case hv => rfl)) | (apply ev_field'; (case hx => rfl); (case hv => rfl)) | (apply ev_len_s; rfl) | (apply ev_min; (case hx => rfl); (case hy => rfl)) | (apply ev_max; (case hx => rfl); (case hy => rfl)) | (apply ev_nilCheck; rfl) | (apply ev_eql_b; (case hx => rfl); (case hy => rfl)) | (apply ev_neq_b; (case hx => rfl); (case hy => rfl)) | (apply ev_build; (case hp => rfl); (case hc => rfl)) | (apply ev_load_own_ag; (case hx => rfl); (case hm => (repeat (first | exact List.Mem.head _ | apply List.Mem.tail | apply List.mem_append_right))); (case hl => rfl)) | (apply ev_fieldAddr; rfl) | (apply ev_idxc; (case hx => rfl); (case hi => rfl); (case hk => decide))))); (first | (apply g_first 4; (case hi => rfl); (case hr => kernel_rfl); (case hfr => kernel_rfl); (case hsel => kernel_rfl); (case hw => kernel_rfl); (case hg => rfl); (case hd => rfl); (case he => (apply ev_lookQ; (case hx => rfl); (case hy => rfl); (case hm => (repeat (first | exact List.Mem.head _ | apply List.Mem.tail | apply List.mem_append_right))); (case hE => exact hqs); (case hl => rfl)))) | (apply g_first 4; (case hi => rfl); (case hr => kernel_rfl); (case hfr => kernel_rfl); (case hsel => kernel_rfl); (case hw => kernel_rfl); (case hg => rfl); (case hd => rfl); (case he => first | (apply ev_move; rfl) | (apply ev_assign; rfl) | (apply ev_binV; (case hx => rfl); (case hy => rfl); (case hb => first | (apply bv_lss_t; omega) | (apply bv_lss_f; omega) | exact bv_lss | (apply bv_leq_t; omega) | (apply bv_leq_f; omega) | exact bv_leq | (apply bv_gtr_t; omega) | (apply bv_gtr_f; omega) | exact bv_gtr | (apply bv_geq_t; omega) | (apply bv_geq_f; omega) | exact bv_geq | (apply bv_eql_t; omega) | (apply bv_eql_f; omega) | exact bv_eql | (apply bv_neq_t; omega) | (apply bv_neq_f; omega) | exact bv_neq | (apply bv_add; omega) | (apply bv_sub; omega) | (apply bv_quo; omega) | (apply bv_rem; omega) | (apply bv_mul; omega) | (apply bv_tdiv; omega))) | (apply ev_fieldAddr'; rfl) | (apply ev_load_own; (case hx => rfl); (case hm => (repeat (first | exact List.Mem.head _ | apply List.Mem.tail | apply List.mem_append_right))); (case h => rfl)) | (apply ev_pick; (case hc => rfl); (case hx => rfl)) | (apply ev_not; rfl) | (apply ev_len; rfl) | (apply ev_extract'; (case hx => rfl); (case hv => rfl)) | (apply ev_field'; (case hx => rfl); (case hv => rfl)) | (apply ev_len_s; rfl) | (apply ev_min; (case hx => rfl); (case hy => rfl)) | (apply ev_max; (case hx => rfl); (case hy => rfl)) | (apply ev_nilCheck; rfl) | (apply ev_eql_b; (case hx => rfl); (case hy => rfl)) | (apply ev_neq_b; (case hx => rfl); (case hy => rfl)) | (apply ev_build; (case hp => rfl); (case hc => rfl)) | (apply ev_load_own_ag; (case hx => rfl); (case hm => (repeat (first | exact List.Mem.head _ | apply List.Mem.tail | apply List.mem_append_right))); (case hl => rfl)) | (apply ev_fieldAddr; rfl) | (apply ev_idxc; (case hx => rfl); (case hi => rfl); (case hk => decide))))); (first | (apply g_first 7; (case hi => rfl); (case hr => kernel_rfl); (case hfr => kernel_rfl); (case hsel => kernel_rfl); (case hw => kernel_rfl); (case hg => rfl); (case hd => rfl); (case he => (apply ev_lookQ; (case hx => rfl); (case hy => rfl); (case hm => (repeat (first | exact List.Mem.head _ | apply List.Mem.tail | apply List.mem_append_right))); (case hE => exact hqs); (case hl => rfl)))) | (apply g_first 7; (case hi => rfl); (case hr => kernel_rfl); (case hfr => kernel_rfl); (case hsel => kernel_rfl); (case hw => kernel_rfl); (case hg => rfl); (case hd => rfl); (case he => first | (apply ev_move; rfl) | (apply ev_assign; rfl) | (apply ev_binV; (case hx => rfl); (case hy => rfl); (case hb => first | (apply bv_lss_t; omega) | (apply bv_lss_f; omega) | exact bv_lss | (apply bv_leq_t; omega) | (apply bv_leq_f; omega) | exact bv_leq | (apply bv_gtr_t; omega) | (apply bv_gtr_f; omega) | exact bv_gtr | (apply bv_geq_t; omega) | (apply bv_geq_f; omega) | exact bv_geq | (apply bv_eql_t; omega) | (apply bv_eql_f; omega) | exact bv_eql | (apply bv_neq_t; omega) | (apply bv_neq_f; omega) | exact bv_neq | (apply bv_add; omega) | (apply bv_sub; omega) | (apply bv_quo; omega) | (apply bv_rem; omega) | (apply bv_mul; omega) | (apply bv_tdiv; omega))) | (apply ev_fieldAddr'; rfl) | (apply ev_load_own; (case hx => rfl); (case hm => (repeat (first | exact List.Mem.head _ | apply List.Mem.tail | apply List.mem_append_right))); (case h => rfl)) | (apply ev_pick; (case hc => rfl); (case hx => rfl)) | (apply ev_not; rfl) | (apply ev_len; rfl) | (apply ev_extract'; (case hx => rfl); (case hv => rfl)) | (apply ev_field'; (case hx => rfl); (case hv => rfl)) | (apply ev_len_s; rfl) | (apply ev_min; (case hx => rfl); (case hy => rfl)) | (apply ev_max; (case hx => rfl); (case hy => rfl)) | (apply ev_nilCheck; rfl) | (apply ev_eql_b; (case hx => rfl); (case hy => rfl)) | (apply ev_neq_b; (case hx => rfl); (case hy => rfl)) | (apply ev_build; (case hp => rfl); (case hc => rfl)) | (apply ev_load_own_ag; (case hx => rfl); (case hm => (repeat (first | exact List.Mem.head _ | apply List.Mem.tail | apply List.mem_append_right))); (case hl => rfl)) | (apply ev_fieldAddr; rfl) | (apply ev_idxc; (case hx => rfl); (case hi => rfl); (case hk => decide))))); (first | (apply g_first 8; (case hi => rfl); (case hr => kernel_rfl); (case hfr => kernel_rfl); (case hsel => kernel_rfl); (case hw => kernel_rfl); (case hg => rfl); (case hd => rfl); (case he => (apply ev_lookQ; (case hx => rfl); (case hy => rfl); (case hm => (repeat (first | exact List.Mem.head _ | apply List.Mem.tail | apply List.mem_append_right))); (case hE => exact hqs); (case hl => rfl)))) | (apply g_first 8; (case hi => rfl); (case hr => kernel_rfl); (case hfr => kernel_rfl); (case hsel => kernel_rfl); (case hw => kernel_rfl); (case hg => rfl); (case hd => rfl); (case he => first | (apply ev_move; rfl) | (apply ev_assign; rfl) | (apply ev_binV; (case hx => rfl); (case hy => rfl); (case hb => first | (apply bv_lss_t; omega) | (apply bv_lss_f; omega) | exact bv_lss | (apply bv_leq_t; omega) | (apply bv_leq_f; omega) | exact bv_leq | (apply bv_gtr_t; omega) | (apply bv_gtr_f; omega) | exact bv_gtr | (apply bv_geq_t; omega) | (apply bv_geq_f; omega) | exact bv_geq | (apply bv_eql_t; omega) | (apply bv_eql_f; omega) | exact bv_eql | (apply bv_neq_t; omega) | (apply bv_neq_f; omega) | exact bv_neq | (apply bv_add; omega) | (apply bv_sub; omega) | (apply bv_quo; omega) | (apply bv_rem; omega) | (apply bv_mul; omega) | (apply bv_tdiv; omega))) | (apply ev_fieldAddr'; rfl) | (apply ev_load_own; (case hx => rfl); (case hm => (repeat (first | exact List.Mem.head _ | apply List.Mem.tail | apply List.mem_append_right))); (case h => rfl)) | (apply ev_pick; (case hc => rfl); (case hx => rfl)) | (apply ev_not; rfl) | (apply ev_len; rfl) | (apply ev_extract'; (case hx => rfl); (case hv => rfl)) | (apply ev_field'; (case hx => rfl); (case hv => rfl)) | (apply ev_len_s; rfl) | (apply ev_min; (case hx => rfl); (case hy => rfl)) | (apply ev_max; (case hx => rfl); (case hy => rfl)) | (apply ev_nilCheck; rfl) | (apply ev_eql_b; (case hx => rfl); (case hy => rfl)) | (apply ev_neq_b; (case hx => rfl); (case hy => rfl)) | (apply ev_build; (case hp => rfl); (case hc => rfl)) | (apply ev_load_own_ag; (case hx => rfl); (case hm => (repeat (first | exact List.Mem.head _ | apply List.Mem.tail | apply List.mem_append_right))); (case hl => rfl)) | (apply ev_fieldAddr; rfl) | (apply ev_idxc; (case hx => rfl); (case hi => rfl); (case hk => decide))))); (apply g_one 2; (case hr => kernel_rfl)); (first | (apply g_call (caps := []); (case hi => rfl); (case hg => rfl); (case hd => rfl); (case hx => rfl); (case i1 => infer_instance); (case ha => rfl); (case hc => exact keyOf_con q _); (case hL => (exact pmT)); (case hsub => (intros; (exact sbT))); rintro _ _ _ - ⟨rfl, rfl, rfl⟩) | (apply g_call (caps := []); (case hi => rfl); (case hg => rfl); (case hd => rfl); (case hx => rfl); (case i1 => infer_instance); (case ha => rfl); (case hc => exact combine_con hg (lookQ q.p.key qs) q _ hlk.1 hqok); (case hL => (exact pmT)); (case hsub => (intros; (exact sbT))); rintro S3 L3 v3 hle3 ⟨rfl, q', rfl, hq1, hq2⟩)); (apply g_one 5; (case hr => kernel_rfl)); (first | (apply g_call (caps := []); (case hi => rfl); (case hg => rfl); (case hd => rfl); (case hx => rfl); (case i1 => infer_instance); (case ha => rfl); (case hc => exact keyOf_con q _); (case hL => (exact pmT)); (case hsub => (intros; (exact sbT))); rintro _ _ _ - ⟨rfl, rfl, rfl⟩) | (apply g_call (caps := []); (case hi => rfl); (case hg => rfl); (case hd => rfl); (case hx => rfl); (case i1 => infer_instance); (case ha => rfl); (case hc => exact combine_con hg (lookQ q.p.key qs) q _ hlk.1 hqok); (case hL => (exact pmT)); (case hsub => (intros; (exact sbT))); rintro S3 L3 v3 hle3 ⟨rfl, q', rfl, hq1, hq2⟩)); (first | (apply g_first 6; (case hi => rfl); (case hr => kernel_rfl); (case hfr => kernel_rfl); (case hsel => kernel_rfl); (case hw => kernel_rfl); (case hg => rfl); (case hd => rfl); (case he => (apply ev_lookQ; (case hx => rfl); (case hy => rfl); (case hm => (repeat (first | exact List.Mem.head _ | apply List.Mem.tail | apply List.mem_append_right))); (case hE => exact hqs); (case hl => rfl)))) | (apply g_first 6; (case hi => rfl); (case hr => kernel_rfl); (case hfr => kernel_rfl); (case hsel => kernel_rfl); (case hw => kernel_rfl); (case hg => rfl); (case hd => rfl); (case he => first | (apply ev_move; rfl) | (apply ev_assign; rfl) | (apply ev_binV; (case hx => rfl); (case hy => rfl); (case hb => first | (apply bv_lss_t; omega) | (apply bv_lss_f; omega) | exact bv_lss | (apply bv_leq_t; omega) | (apply bv_leq_f; omega) | exact bv_leq | (apply bv_gtr_t; omega) | (apply bv_gtr_f; omega) | exact bv_gtr | (apply bv_geq_t; omega) | (apply bv_geq_f; omega) | exact bv_geq | (apply bv_eql_t; omega) | (apply bv_eql_f; omega) | exact bv_eql | (apply bv_neq_t; omega) | (apply bv_neq_f; omega) | exact bv_neq | (apply bv_add; omega) | (apply bv_sub; omega) | (apply bv_quo; omega) | (apply bv_rem; omega) | (apply bv_mul; omega) | (apply bv_tdiv; omega))) | (apply ev_fieldAddr'; rfl) | (apply ev_load_own; (case hx => rfl); (case hm => (repeat (first | exact List.Mem.head _ | apply List.Mem.tail | apply List.mem_append_right))); (case h => rfl)) | (apply ev_pick; (case hc => rfl); (case hx => rfl)) | (apply ev_not; rfl) | (apply ev_len; rfl) | (apply ev_extract'; (case hx => rfl); (case hv => rfl)) | (apply ev_field'; (case hx => rfl); (case hv => rfl)) | (apply ev_len_s; rfl) | (apply ev_min; (case hx => rfl); (case hy => rfl)) | (apply ev_max; (case hx => rfl); (case hy => rfl)) | (apply ev_nilCheck; rfl) | (apply ev_eql_b; (case hx => rfl); (case hy => rfl)) | (apply ev_neq_b; (case hx => rfl); (case hy => rfl)) | (apply ev_build; (case hp => rfl); (case hc => rfl)) | (apply ev_load_own_ag; (case hx => rfl); (case hm => (repeat (first | exact List.Mem.head _ | apply List.Mem.tail | apply List.mem_append_right))); (case hl => rfl)) | (apply ev_fieldAddr; rfl) | (apply ev_idxc; (case hx => rfl); (case hi => rfl); (case hk => decide))))); (apply g_one 9; (case hr => kernel_rfl)); (first | (apply g_call (caps := []); (case hi => rfl); (case hg => rfl); (case hd => rfl); (case hx => rfl); (case i1 => infer_instance); (case ha => rfl); (case hc => exact keyOf_con q _); (case hL => (exact pmT)); (case hsub => (intros; (exact sbT))); rintro _ _ _ - ⟨rfl, rfl, rfl⟩) | (apply g_call (caps := []); (case hi => rfl); (case hg => rfl); (case hd => rfl); (case hx => rfl); (case i1 => infer_instance); (case ha => rfl); (case hc => exact combine_con hg (lookQ q.p.key qs) q _ hlk.1 hqok); (case hL => (exact pmT)); (case hsub => (intros; (exact sbT))); rintro S3 L3 v3 hle3 ⟨rfl, q', rfl, hq1, hq2⟩)); (apply g_open ([(bc, .cells q.vals.toArray 45 (0, 0))]); (case hr => kernel_rfl); (case hL => (exact sbT))); (apply h_one 10; (case hr => kernel_rfl)); (first | (apply n_mapUpdate; (case hi => rfl); (case i1 => infer_instance); (case i2 => infer_instance); (case hg => rfl); (case hx => rfl); (case hy => rfl); (case hz => rfl); (case hL => (repeat (first | exact Upd.head | apply Upd.tail | apply Upd.app))); (case hE => exact hqs.keys); (case hl => rfl); (case hsub => (intro _; exact sbL))) | (refine Jn ?_; try intro _)); (apply h_end; (case hr => kernel_rfl)))
    rw [mapO_ups]
    (repeat (first | refine Jz ?_ | intro _))
    refine q_back (m' := bs.length - (i + 1)) ⟨hle.trans hle3, i + 1, upsG q.p.key q' qs, rfl, by omega, upsQ_ok (hqs.le hle3) rfl hq2 (by rw [hq1, hlk.2]), ?_, rfl, rfl⟩ (by omega) sbF sbL
    rw [step_of hq1, hm, take_at' hq, List.foldl_append]; rfl
  obtain rfl : i = bs.length := by omega
  rw [List.take_length] at hm
  (repeat (first | refine Jc ?_ | (apply s_rangeK (ent := entsOf qs); (case hg => rfl); (case hd => rfl); (case hx => rfl); (case hm => (repeat (first | exact List.Mem.head _ | apply List.Mem.tail | apply List.mem_append_right))); intro _) | refine Jo ?_ | intro _))
  rename_i bo rb
  have hel : (entsOf qs).length = qs.length := by simp [entsOf]
  refine c_loop (fun m S3 L F => Le S2 S3 ∧ ∃ (seen : List Nat) (l : List Ce) (pv : Value) (ob : Blocks), m = qs.length - seen.length ∧ seen.Nodup ∧ (∀ j ∈ seen, j < qs.length) ∧ Ows 45 pv l ob ∧ (∀ q ∈ l, q.ok S3) ∧ l.length ≤ seen.length ∧ l.map (·.p) = colP qs seen ∧
      L = ob ++ [(rb, iterO bm (entsOf qs).length seen), (bo, .cells [pv].toArray 24 (0, 0)), (bm, mapO (entsOf qs)), (br, .cells [.slice none 0 0].toArray 24 (0, 0))] ∧
      F = [(6, .pointer (some ⟨br, 0, none⟩)), (13, .pointer (some ⟨bo, 0, none⟩)), (51, .pointer (some ⟨rb, 0, none⟩))]) ⟨Le.refl _, [], [], .slice none 0 0, [], rfl, List.nodup_nil, fun j hj => absurd hj List.not_mem_nil, Ows.nil 45, fun q hq => absurd hq List.not_mem_nil, Nat.le_refl _, rfl, rfl, rfl⟩ sbF (List.Sublist.refl _) ?_
  rintro m S3 L F ⟨hle3, seen, l, pv, ob, rfl, hnd, hsn, hown, hlok, hls, hlm, rfl, rfl⟩
  have hqs3 := hqs.le hle3
  have hql : qs.length ≤ 2000 := by
    have h1 := stepM_len (g := g) bs (xs.foldl (fun m q => stepM plusW m q.p) [])
    have h2 := stepM_len (g := plusW) xs []
    rw [← hm] at h1
    simp only [mOf, List.length_map, List.length_nil] at h1 h2
    omega
  (repeat (first | refine Jz ?_ | intro _))
  apply s_nextK (ent := entsOf qs) (seen := seen); (case hg => rfl); (case hd => rfl); (case hx => rfl); (case hm => (repeat (first | exact List.Mem.head _ | apply List.Mem.tail | apply List.mem_append_right))); (case hL => (intro i; exact (by (repeat (first | exact Upd.head | apply Upd.tail | apply Upd.app)))))
  · intro hall
    have hsl : seen.length ≤ qs.length := nodup_le hnd hsn
    (repeat (first | refine Jc ?_ | (apply s_call; (case hg => rfl); (case hd => rfl); (case ha => rfl); (case hc => exact SortCells_con hown (by omega) _); (case hL => (exact pmT)); rintro S4 L4 _ hle4 ⟨rfl, l', hperm, hsorted, hown'⟩) | refine Jo ?_ | intro _))
    refine W.freezeOws hown' (List.Perm.refl _) fun S5 hle5 hsr => ?_
    obtain ⟨A5, c5, rfl, hc5, hA5⟩ := hsr
    have hok5 : ∀ q ∈ l', q.ok S5 := fun q hq => ((hlok q (hperm.mem_iff.1 hq)).le hle4).le hle5
    have hG5 : Gl S5 := hG.le (hle.trans (hle3.trans (hle4.trans hle5)))
    have hlen5 : l'.length ≤ 2000 := by have := hperm.length_eq; omega
    have hP1 : (l'.map (·.p)).Perm (kept ((mOf qs).map fun p => mkPC p.1 p.2)) := by
      have h1 := hperm.map (·.p)
      rw [hlm] at h1
      exact h1.trans (seen_perm hnd hsn fun i hi => hall i (by rw [hel]; exact hi))
    have hP2 : (l'.map (·.p)).Pairwise (fun x y => ¬ cmpL y.key x.key < 0) := List.pairwise_map.2 hsorted
    have hvc := Valid_con l' A5 c5 S5 hG5 hA5 hok5 (by omega)
    rw [hm] at hP1
    by_cases hval : ValidP (l'.map (·.p))
    · rw [bP_t hval] at hvc
      have hl4 := hval.len
      rw [List.length_map] at hl4
      (repeat (first | refine Jc ?_ | (apply z_call; rfl; rfl; rfl; exact hvc; rintro _ _ _ - ⟨rfl, rfl, rfl⟩) | refine Jo ?_ | intro _))
      exact o_ret_c2 (L' := []) (sz := 1) (cs := [.slice A5 l'.length c5]) Tryd.results44 rfl rfl (by repeat (first | exact List.Mem.head _ | refine List.Mem.tail _ ?_ | exact List.mem_append_right _ (List.Mem.head _))) rfl (List.nil_sublist _) ⟨rfl, _, l'.map (·.p), 0, rfl, ⟨A5, c5, l', rfl, hA5, hok5, by omega, rfl⟩, _, hP1, hP2, .inl ⟨hval, rfl, rfl⟩⟩
    · rw [bP_f hval] at hvc
      (repeat (first | refine Jc ?_ | (apply z_call; rfl; rfl; rfl; exact hvc; rintro _ _ _ - ⟨rfl, rfl, rfl⟩) | refine Jo ?_ | intro _))
      exact o_ret_c2 (L' := []) (sz := 1) (cs := [.slice none 0 0]) Tryd.results44 rfl rfl (by repeat (first | exact List.Mem.head _ | refine List.Mem.tail _ ?_ | exact List.mem_append_right _ (List.Mem.head _))) rfl (List.nil_sublist _) ⟨rfl, _, [], 170, rfl, ⟨none, 0, [], rfl, At.nil _ _, fun q hq => absurd hq List.not_mem_nil, by decide, rfl⟩, _, hP1, hP2, .inr ⟨hval, rfl, rfl⟩⟩
  · intro i k v hin hiv
    obtain ⟨q, rfl, hiq⟩ : ∃ q : Ce, v = .agg q.vals.toArray ∧ qs[i]? = some (k, q) := by
      rw [entsOf, List.getElem?_map] at hiv
      cases hq : qs[i]? with
      | none => rw [hq] at hiv; cases hiv
      | some p => rw [hq] at hiv; cases hiv; exact ⟨p.2, rfl, rfl⟩
    obtain ⟨hk4, hqok, hqp⟩ := hqs3 _ (List.mem_of_getElem? hiq)
    simp only at hk4 hqok hqp
    have hcol := colP_snoc (seen := seen) hiq
    have hnd' : (seen ++ [i]).Nodup := List.nodup_append.2 ⟨hnd, by simp, fun a ha b hb => by rw [List.mem_singleton.1 hb]; exact fun e => hin (e ▸ ha)⟩
    have hil : i < qs.length := (List.getElem?_eq_some_iff.1 hiq).1
    have hsn' : ∀ j ∈ seen ++ [i], j < qs.length := fun j hj => (List.mem_append.1 hj).elim (hsn j) fun h => by rw [List.mem_singleton.1 h]; exact hil
    have hsl' := nodup_le hnd' hsn'
    rw [List.length_append, List.length_singleton] at hsl'
    match k, hk4 with
    | [k0, k1, k2, k3], _ =>
    (repeat (first | refine Jc ?_ | (apply s_evb; (case hg => rfl); (case hd => rfl); (case hn => rfl); (case he => ((apply ev_entryK; (case hx => rfl); (case hm => (repeat (first | exact List.Mem.head _ | apply List.Mem.tail | apply List.mem_append_right))); (case hr => (repeat (first | exact List.Mem.head _ | apply List.Mem.tail | apply List.mem_append_right))); (case hi => exact hiv))))) | refine Jo ?_ | intro _))
    rename_i bk bc
    obtain ⟨⟨z0, z1, z2, z3, ⟨xn, xl, xh, xb, xls, xhs⟩⟩, qla, qlc, qha, qhc⟩ := q
    obtain ⟨q1, q2, q3, q4, q5, q6⟩ := hqok
    unfold Ce.vals
    dsimp only at *
    ((apply c_held ([(bk, .cells ([k0, k1, k2, k3].map (Value.int .i64)).toArray 80 (0, 0))]); (case hL => (exact sbT))); refine Jf 0 ?_; refine Jf 1 ?_; refine Jf 2 ?_; refine Jf 3 ?_; refine Jf 4 ?_; refine Jf 5 ?_; refine Jf 6 ?_; refine Jf 7 ?_; refine Jf 8 ?_; (apply h_one 9; (case hr => kernel_rfl)); (refine Jn ?_; try intro _); refine Jf 10 ?_; (apply h_one 11; (case hr => kernel_rfl)); (refine Jn ?_; try intro _); refine Jf 12 ?_; (apply h_one 13; (case hr => kernel_rfl)); (refine Jn ?_; try intro _); refine Jf 14 ?_; (apply h_one 15; (case hr => kernel_rfl)); (refine Jn ?_; try intro _); (apply h_end; (case hr => kernel_rfl)))
    refine W.trim (L' := (bc, .cells [.int .i64 k0, .int .i64 k1, .int .i64 k2, .int .i64 k3, .int .i64 xn, .int .i64 xl, .int .i64 xh, .int .i64 xb, .slice qla xls.length qlc, .slice qha xhs.length qhc].toArray 45 (0, 0)) :: (ob ++ [(rb, iterO bm (entsOf qs).length (seen ++ [i])), (bo, .cells [pv].toArray 24 (0, 0)), (bm, mapO (entsOf qs)), (br, .cells [.slice none 0 0].toArray 24 (0, 0))])) (F' := [(6, .pointer (some ⟨br, 0, none⟩)), (13, .pointer (some ⟨bo, 0, none⟩)), (15, .pointer (some ⟨bc, 0, none⟩)), (51, .pointer (some ⟨rb, 0, none⟩))]) sbF sbL ?_
    (repeat (first | refine Jz ?_ | intro _))
    generalize htb : bP (VoidV ⟨xn, xl, xh, xb, xls, xhs⟩) = tb at hcol
    refine c_meet (fun S4 L4 F4 => Le S3 S4 ∧ L4 = (bc, .cells [.int .i64 k0, .int .i64 k1, .int .i64 k2, .int .i64 k3, .int .i64 xn, .int .i64 xl, .int .i64 xh, .int .i64 xb, .slice qla xls.length qlc, .slice qha xhs.length qhc].toArray 45 (0, 0)) :: (ob ++ [(rb, iterO bm (entsOf qs).length (seen ++ [i])), (bo, .cells [pv].toArray 24 (0, 0)), (bm, mapO (entsOf qs)), (br, .cells [.slice none 0 0].toArray 24 (0, 0))]) ∧ F4 = [(6, .pointer (some ⟨br, 0, none⟩)), (13, .pointer (some ⟨bo, 0, none⟩)), (15, .pointer (some ⟨bc, 0, none⟩)), (51, .pointer (some ⟨rb, 0, none⟩)), (96, .bool tb)]) ?_ ?_
    · by_cases h_xn : xn = 0
      rotate_left
      · rw [bP_f fun h => h_xn h.n] at htb
        subst htb
        ((apply c_held ([(bc, .cells [.int .i64 k0, .int .i64 k1, .int .i64 k2, .int .i64 k3, .int .i64 xn, .int .i64 xl, .int .i64 xh, .int .i64 xb, .slice qla xls.length qlc, .slice qha xhs.length qhc].toArray 45 (0, 0))]); (case hL => (exact sbT))); refine Jf 0 ?_; refine Jf 1 ?_; refine Jf 2 ?_; refine Jf 3 ?_; refine Jf 4 ?_; refine Jf 5 ?_; refine Jf 6 ?_; refine Jf 7 ?_; refine Jf 8 ?_; refine Jf 9 ?_; refine Jf 10 ?_; refine Jf 11 ?_; refine Jf 12 ?_; refine Jf 13 ?_; refine Jf 14 ?_; refine Jf 15 ?_; refine Jf 16 ?_; refine Jf 17 ?_; refine Jf 18 ?_; refine Jf 19 ?_; refine Jf 20 ?_; refine Jf 22 ?_; refine Jf 23 ?_; (apply h_one 21; (case hr => kernel_rfl)); (refine Jn ?_; try intro _); (apply h_one 24; (case hr => kernel_rfl)); (refine Jn ?_; try intro _); (apply h_one 25; (case hr => kernel_rfl)); (refine Jn ?_; try intro _); refine Jf 26 ?_; refine Jf 27 ?_; (apply h_end; (case hr => kernel_rfl)); (apply q_then; exact q_cut ⟨Le.refl _, rfl, rfl⟩ sbF sbL))
      by_cases h_xl : xl = 0
      rotate_left
      · rw [bP_f fun h => h_xl h.lo] at htb
        subst htb
        ((apply c_held ([(bc, .cells [.int .i64 k0, .int .i64 k1, .int .i64 k2, .int .i64 k3, .int .i64 xn, .int .i64 xl, .int .i64 xh, .int .i64 xb, .slice qla xls.length qlc, .slice qha xhs.length qhc].toArray 45 (0, 0))]); (case hL => (exact sbT))); refine Jf 0 ?_; refine Jf 1 ?_; refine Jf 2 ?_; refine Jf 3 ?_; refine Jf 4 ?_; refine Jf 5 ?_; refine Jf 6 ?_; refine Jf 7 ?_; refine Jf 8 ?_; refine Jf 9 ?_; refine Jf 10 ?_; refine Jf 11 ?_; refine Jf 12 ?_; refine Jf 13 ?_; refine Jf 14 ?_; refine Jf 15 ?_; refine Jf 16 ?_; refine Jf 17 ?_; refine Jf 18 ?_; refine Jf 19 ?_; refine Jf 20 ?_; refine Jf 22 ?_; refine Jf 23 ?_; (apply h_one 21; (case hr => kernel_rfl)); (refine Jn ?_; try intro _); (apply h_one 24; (case hr => kernel_rfl)); (refine Jn ?_; try intro _); (apply h_one 25; (case hr => kernel_rfl)); (refine Jn ?_; try intro _); refine Jf 26 ?_; refine Jf 27 ?_; (apply h_end; (case hr => kernel_rfl)); (apply q_then; exact q_cut ⟨Le.refl _, rfl, rfl⟩ sbF sbL))
      by_cases h_xh : xh = 0
      rotate_left
      · rw [bP_f fun h => h_xh h.hi] at htb
        subst htb
        ((apply c_held ([(bc, .cells [.int .i64 k0, .int .i64 k1, .int .i64 k2, .int .i64 k3, .int .i64 xn, .int .i64 xl, .int .i64 xh, .int .i64 xb, .slice qla xls.length qlc, .slice qha xhs.length qhc].toArray 45 (0, 0))]); (case hL => (exact sbT))); refine Jf 0 ?_; refine Jf 1 ?_; refine Jf 2 ?_; refine Jf 3 ?_; refine Jf 4 ?_; refine Jf 5 ?_; refine Jf 6 ?_; refine Jf 7 ?_; refine Jf 8 ?_; refine Jf 9 ?_; refine Jf 10 ?_; refine Jf 11 ?_; refine Jf 12 ?_; refine Jf 13 ?_; refine Jf 14 ?_; refine Jf 15 ?_; refine Jf 16 ?_; refine Jf 17 ?_; refine Jf 18 ?_; refine Jf 19 ?_; refine Jf 20 ?_; refine Jf 22 ?_; refine Jf 23 ?_; (apply h_one 21; (case hr => kernel_rfl)); (refine Jn ?_; try intro _); (apply h_one 24; (case hr => kernel_rfl)); (refine Jn ?_; try intro _); (apply h_one 25; (case hr => kernel_rfl)); (refine Jn ?_; try intro _); refine Jf 26 ?_; refine Jf 27 ?_; (apply h_end; (case hr => kernel_rfl)); (apply q_then; exact q_cut ⟨Le.refl _, rfl, rfl⟩ sbF sbL))
      by_cases h_xb : xb = 0
      rotate_left
      · rw [bP_f fun h => h_xb h.by_] at htb
        subst htb
        ((apply c_held ([(bc, .cells [.int .i64 k0, .int .i64 k1, .int .i64 k2, .int .i64 k3, .int .i64 xn, .int .i64 xl, .int .i64 xh, .int .i64 xb, .slice qla xls.length qlc, .slice qha xhs.length qhc].toArray 45 (0, 0))]); (case hL => (exact sbT))); refine Jf 0 ?_; refine Jf 1 ?_; refine Jf 2 ?_; refine Jf 3 ?_; refine Jf 4 ?_; refine Jf 5 ?_; refine Jf 6 ?_; refine Jf 7 ?_; refine Jf 8 ?_; refine Jf 9 ?_; refine Jf 10 ?_; refine Jf 11 ?_; refine Jf 12 ?_; refine Jf 13 ?_; refine Jf 14 ?_; refine Jf 15 ?_; refine Jf 16 ?_; refine Jf 17 ?_; refine Jf 18 ?_; refine Jf 19 ?_; refine Jf 20 ?_; refine Jf 22 ?_; refine Jf 23 ?_; (apply h_one 21; (case hr => kernel_rfl)); (refine Jn ?_; try intro _); (apply h_one 24; (case hr => kernel_rfl)); (refine Jn ?_; try intro _); (apply h_one 25; (case hr => kernel_rfl)); (refine Jn ?_; try intro _); refine Jf 26 ?_; refine Jf 27 ?_; (apply h_end; (case hr => kernel_rfl)); (apply q_then; exact q_cut ⟨Le.refl _, rfl, rfl⟩ sbF sbL))
      have htb2 : tb = !bP (∃ e ∈ xls ++ xhs, e ≠ 0) := by
        rw [← htb, bP_not]
        by_cases hr : ∃ e ∈ xls ++ xhs, e ≠ 0
        · rw [bP_f (fun h : VoidV _ => h.row hr), bP_f (fun h => h hr)]
        · rw [bP_t hr, bP_t (show VoidV ⟨xn, xl, xh, xb, xls, xhs⟩ from ⟨h_xn, h_xl, h_xh, h_xb, hr⟩)]
      subst htb2
      ((apply c_held ([(bc, .cells [.int .i64 k0, .int .i64 k1, .int .i64 k2, .int .i64 k3, .int .i64 xn, .int .i64 xl, .int .i64 xh, .int .i64 xb, .slice qla xls.length qlc, .slice qha xhs.length qhc].toArray 45 (0, 0))]); (case hL => (exact sbT))); refine Jf 0 ?_; refine Jf 1 ?_; refine Jf 2 ?_; refine Jf 3 ?_; refine Jf 4 ?_; refine Jf 5 ?_; refine Jf 6 ?_; refine Jf 7 ?_; refine Jf 8 ?_; refine Jf 9 ?_; refine Jf 10 ?_; refine Jf 11 ?_; refine Jf 12 ?_; refine Jf 13 ?_; refine Jf 14 ?_; refine Jf 15 ?_; refine Jf 16 ?_; refine Jf 17 ?_; refine Jf 18 ?_; refine Jf 19 ?_; refine Jf 20 ?_; refine Jf 22 ?_; refine Jf 23 ?_; (apply h_one 21; (case hr => kernel_rfl)); (first | (apply n_call; (case hi => rfl); (case i1 => infer_instance); (case hg => rfl); (case hd => rfl); (case ha => rfl); (case hc => exact Clone_con xls qla qlc _ q1 (by omega)); (case hL => (exact pmT)); (case hsub => (intros; (exact sbT))); rintro Sx Lx vx hlex ⟨rfl, hcl⟩) | (apply n_append_st (ms := xhs) q2; (case hi => rfl); (case hT => infer_instance); (case hsz => infer_instance); (case hz => infer_instance); (case hby => infer_instance); (case hg => rfl); (case hd => rfl); (case hx => rfl); (case ho => exact hcl); (case hL => (exact pmT)); (case hy => rfl); (case hm => rfl); (case hzs => rfl); (case h0 => decide); (case hb => omega); (case h63 => omega); (case hsub => (intro _ _; exact sbL)); intro v' ob' ho'; refine Wh.freezeOws ho' (List.Perm.refl _) sbL fun S5 hle5 hsr => ?_; obtain ⟨A5, c5, rfl, hc5, hA5⟩ := hsr) | (apply n_call; (case hi => rfl); (case i1 => infer_instance); (case hg => rfl); (case hd => rfl); (case ha => rfl); (case hc => exact anyInt_con (xls ++ xhs) A5 c5 _ hA5 (by rw [List.length_append]; omega)); (case hL => (exact pmT)); (case hsub => (intros; (exact sbT))); rintro S6 L6 _ hle6 ⟨rfl, rfl⟩) | (refine Jn ?_; try intro _)); (apply h_one 24; (case hr => kernel_rfl)); (first | (apply n_call; (case hi => rfl); (case i1 => infer_instance); (case hg => rfl); (case hd => rfl); (case ha => rfl); (case hc => exact Clone_con xls qla qlc _ q1 (by omega)); (case hL => (exact pmT)); (case hsub => (intros; (exact sbT))); rintro Sx Lx vx hlex ⟨rfl, hcl⟩) | (apply n_append_st (ms := xhs) q2; (case hi => rfl); (case hT => infer_instance); (case hsz => infer_instance); (case hz => infer_instance); (case hby => infer_instance); (case hg => rfl); (case hd => rfl); (case hx => rfl); (case ho => exact hcl); (case hL => (exact pmT)); (case hy => rfl); (case hm => rfl); (case hzs => rfl); (case h0 => decide); (case hb => omega); (case h63 => omega); (case hsub => (intro _ _; exact sbL)); intro v' ob' ho'; refine Wh.freezeOws ho' (List.Perm.refl _) sbL fun S5 hle5 hsr => ?_; obtain ⟨A5, c5, rfl, hc5, hA5⟩ := hsr) | (apply n_call; (case hi => rfl); (case i1 => infer_instance); (case hg => rfl); (case hd => rfl); (case ha => rfl); (case hc => exact anyInt_con (xls ++ xhs) A5 c5 _ hA5 (by rw [List.length_append]; omega)); (case hL => (exact pmT)); (case hsub => (intros; (exact sbT))); rintro S6 L6 _ hle6 ⟨rfl, rfl⟩) | (refine Jn ?_; try intro _)); (apply h_one 25; (case hr => kernel_rfl)); (first | (apply n_call; (case hi => rfl); (case i1 => infer_instance); (case hg => rfl); (case hd => rfl); (case ha => rfl); (case hc => exact Clone_con xls qla qlc _ q1 (by omega)); (case hL => (exact pmT)); (case hsub => (intros; (exact sbT))); rintro Sx Lx vx hlex ⟨rfl, hcl⟩) | (apply n_append_st (ms := xhs) q2; (case hi => rfl); (case hT => infer_instance); (case hsz => infer_instance); (case hz => infer_instance); (case hby => infer_instance); (case hg => rfl); (case hd => rfl); (case hx => rfl); (case ho => exact hcl); (case hL => (exact pmT)); (case hy => rfl); (case hm => rfl); (case hzs => rfl); (case h0 => decide); (case hb => omega); (case h63 => omega); (case hsub => (intro _ _; exact sbL)); intro v' ob' ho'; refine Wh.freezeOws ho' (List.Perm.refl _) sbL fun S5 hle5 hsr => ?_; obtain ⟨A5, c5, rfl, hc5, hA5⟩ := hsr) | (apply n_call; (case hi => rfl); (case i1 => infer_instance); (case hg => rfl); (case hd => rfl); (case ha => rfl); (case hc => exact anyInt_con (xls ++ xhs) A5 c5 _ hA5 (by rw [List.length_append]; omega)); (case hL => (exact pmT)); (case hsub => (intros; (exact sbT))); rintro S6 L6 _ hle6 ⟨rfl, rfl⟩) | (refine Jn ?_; try intro _)); refine Jf 26 ?_; refine Jf 27 ?_; (apply h_end; (case hr => kernel_rfl)); (apply q_then; exact q_cut ⟨Le.trans hle5 hle6, rfl, rfl⟩ sbF sbL))
    rintro S4 L4 F4 ⟨hle4, rfl, rfl⟩
    cases tb
    rotate_left
    · (repeat (first | refine Jz ?_ | intro _))
      simp only [if_true, List.append_nil] at hcol
      exact q_back (m' := qs.length - (seen ++ [i]).length) ⟨hle3.trans hle4, seen ++ [i], l, pv, ob, rfl, hnd', hsn', hown, fun q hq => (hlok q hq).le hle4, by rw [List.length_append, List.length_singleton]; omega, by rw [hlm, hcol], rfl, rfl⟩ (by rw [List.length_append, List.length_singleton]; omega) sbF sbL
    · simp only [Bool.false_eq_true, if_false] at hcol
      (repeat (first | refine Jc ?_ | ((apply s_append (ms := ([⟨⟨k0, k1, k2, k3, ⟨xn, xl, xh, xb, xls, xhs⟩⟩, qla, qlc, qha, qhc⟩] : List Ce)); (case hg => rfl); (case hd => rfl); (case hx => rfl); (case ho => exact hown); (case hL => (exact pmT)); (case hy => rfl); (case hm => rfl); (case hs => (apply Src.own; (repeat (first | exact List.Mem.head _ | apply List.Mem.tail | apply List.mem_append_right)))); (case hzs => rfl); (case h0 => decide); (case hb => (simp; omega)); (case h63 => (simp; omega)); intro v' ob' ho'); obtain ⟨Av, cv, rfl⟩ := ho'.form) | refine Jo ?_ | intro _))
      refine q_back (m' := qs.length - (seen ++ [i]).length) ⟨hle3.trans hle4, seen ++ [i], l ++ [⟨⟨k0, k1, k2, k3, ⟨xn, xl, xh, xb, xls, xhs⟩⟩, qla, qlc, qha, qhc⟩], _, ob', rfl, hnd', hsn', ho', ?_, by rw [List.length_append, List.length_append, List.length_singleton, List.length_singleton]; omega, ?_, rfl, rfl⟩ (by rw [List.length_append, List.length_singleton]; omega) sbF sbL
      · intro q hq
        rcases List.mem_append.1 hq with hq | hq
        · exact (hlok q hq).le hle4
        · rw [List.mem_singleton.1 hq]; exact ⟨q1.le hle4, q2.le hle4, q3, q4, q5, q6⟩
      · rw [List.map_append, hlm, hcol]; rfl
end Go.Proofs.YtogfficbloejcaaDoor
namespace Go.Proofs.YtogfficbloejcaaDoor
open Go Go.X
set_option maxRecDepth 10000
set_option linter.unusedVariables false
attribute [local irreducible] Code.wpIn wpListIn Exit.then Exit.inBlock X.Out X.Back X.W X.Ev X.Con X.BinV X.Wh X.Wn X.Wq
def foldM (g : Int → Int → Int) (l : List PC) (m : List (List Int × Vec)) : List (List Int × Vec) := l.foldl (stepM g) m
theorem foldM_map (g : Int → Int → Int) (cs : List Ce) (m : List (List Int × Vec)) : cs.foldl (fun m q => stepM g m q.p) m = foldM g (cs.map (·.p)) m := by rw [foldM, List.foldl_map]
def MakeP (l : List Fa) (s : List PC) (e : Int) : Prop := (l.length ≤ 400 ∧ (∀ x ∈ l, FactP x) ∧ JoinP (foldM plusW (l.map oneP) []) s e) ∨ (¬ (l.length ≤ 400 ∧ ∀ x ∈ l, FactP x) ∧ s = [] ∧ e = 170)
theorem nil_sk (S : SH) : SkV S (.agg #[.slice none 0 0]) [] := ⟨none, 0, [], rfl, At.nil _ _, fun q hq => absurd hq List.not_mem_nil, by decide, rfl⟩
theorem SkV.form {S : SH} {v : Value} {l : List PC} (h : SkV S v l) : ∃ A n c, v = .agg [.slice A n c].toArray := by obtain ⟨A, c, cs, rfl, _⟩ := h; exact ⟨A, cs.length, c, rfl⟩
theorem SkV.le {S T : SH} {v : Value} {l : List PC} (h : SkV S v l) (k : Le S T) : SkV T v l := by
  obtain ⟨A, c, cs, h1, h2, h3, h4, h5⟩ := h
  exact ⟨A, c, cs, h1, h2.le k, fun q hq => (h3 q hq).le k, h4, h5⟩
set_option maxHeartbeats 800000 in
theorem Make_con (l : List Fa) (A : Option Addr) (c : Nat) (S : SH) (hG : Gl S) (hA : At S A l) (hl : l.length ≤ 1000000) :
    Con Tryd.prog 16 #[.slice A l.length c] S [] (fun S' L' r => L' = [] ∧ ∃ v s e, r = .tuple #[v, .int .i64 e] ∧ SkV S' v s ∧ MakeP l s e) := by
  refine con_of (args := [.slice A l.length c]) Tryd.func16 rfl Tryd.ntmps16 rfl fun w => ?_
  by_cases h4 : l.length ≤ 400
  rotate_left
  · (repeat (first | refine Jz ?_ | intro _))
    exact o_ret_c2 (L' := []) (sz := 1) (cs := [.slice none 0 0]) Tryd.results16 rfl rfl (by repeat (first | exact List.Mem.head _ | refine List.Mem.tail _ ?_ | exact List.mem_append_right _ (List.Mem.head _))) rfl (List.nil_sublist _) ⟨rfl, _, [], 170, rfl, nil_sk _, .inr ⟨fun h => h4 h.1, rfl, rfl⟩⟩
  have hac := anyFa_con l A c S hA hl
  by_cases hall : ∀ x ∈ l, FactP x
  rotate_left
  · have hex : ∃ x ∈ l, ¬ FactP x := by
      refine Classical.byContradiction fun h => hall fun x hx => Classical.byContradiction fun h2 => h ⟨x, hx, h2⟩
    rw [bP_t hex] at hac
    (repeat (first | refine Jc ?_ | (apply z_call; rfl; rfl; rfl; exact hac; rintro S1 _ _ hle1 ⟨rfl, rfl⟩) | refine Jo ?_ | intro _))
    exact o_ret_c2 (L' := []) (sz := 1) (cs := [.slice none 0 0]) Tryd.results16 rfl rfl (by repeat (first | exact List.Mem.head _ | refine List.Mem.tail _ ?_ | exact List.mem_append_right _ (List.Mem.head _))) rfl (List.nil_sublist _) ⟨rfl, _, [], 170, rfl, nil_sk _, .inr ⟨fun h => hall h.2, rfl, rfl⟩⟩
  rw [bP_f fun ⟨x, hx, h⟩ => h (hall x hx)] at hac
  (repeat (first | refine Jc ?_ | (apply z_call; rfl; rfl; rfl; exact hac; rintro S1 _ _ hle1 ⟨rfl, rfl⟩) | refine Jo ?_ | intro _))
  rename_i br
  refine c_loop (fun m S2 L F => Le S1 S2 ∧ ∃ (i : Nat) (cs : List Ce) (pv : Value) (ob : Blocks), m = l.length - i ∧ i ≤ l.length ∧ Ows 45 pv cs ob ∧ (∀ q ∈ cs, q.ok S2) ∧ cs.length = i ∧ cs.map (·.p) = (l.take i).map oneP ∧
      L = ob ++ [(br, .cells [.slice none 0 0].toArray 24 (0, 0))] ∧
      F = [(2, .pointer (some ⟨br, 0, none⟩)), (4, pv), (15, .slice A l.length c), (16, .int .i64 l.length), (17, .int .i64 i)]) ⟨Le.refl _, 0, [], .slice none 0 0, [], rfl, by omega, Ows.nil 45, fun q hq => absurd hq List.not_mem_nil, rfl, rfl, rfl, rfl⟩ sbF (List.Sublist.refl _) ?_
  rintro m S2 L F ⟨hle2, i, cs, pv, ob, rfl, hi1, hown, hok, hcl, hcm, rfl, rfl⟩
  by_cases hlt : i < l.length
  · obtain ⟨x, hx⟩ := at_lt' hlt
    have hone := one_con x (hall x (List.mem_of_getElem? hx))
    (repeat (first | refine Jc ?_ | (apply s_idx (hA.le (hle1.trans hle2)); (case hg => rfl); (case hd => rfl); (case hx => rfl); (case hi => rfl); (case hm => rfl); (case hu => exact hx); intro p hp) | (apply s_load_ag; (case hg => rfl); (case hd => rfl); (case hx => rfl); (case hv => exact hp); (case hl => rfl)) | (apply z_call; rfl; rfl; rfl; exact hone _; rintro S3 _ _ hle3 ⟨rfl, q', rfl, hq1, hq2⟩) | (apply s_append (ms := [q']); (case hg => rfl); (case hd => rfl); (case hx => rfl); (case ho => exact hown); (case hL => (exact pmT)); (case hy => rfl); (case hm => rfl); (case hs => (apply Src.own; (repeat (first | exact List.Mem.head _ | apply List.Mem.tail | apply List.mem_append_right)))); (case hzs => rfl); (case h0 => decide); (case hb => (simp; omega)); (case h63 => (simp; omega)); intro v' ob' ho') | refine Jo ?_ | intro _))
    refine q_back (m' := l.length - (i + 1)) ⟨hle2.trans hle3, i + 1, cs ++ [q'], v', ob', rfl, by omega, ho', ?_, by rw [List.length_append, hcl]; rfl, ?_, rfl, rfl⟩ (by omega) sbF sbL
    · intro q hq
      rcases List.mem_append.1 hq with hq | hq
      · exact (hok q hq).le hle3
      · rw [List.mem_singleton.1 hq]; exact hq2
    · rw [take_at' hx, List.map_append, List.map_append, hcm]
      simp [hq1]
  obtain rfl : i = l.length := by omega
  rw [List.take_length] at hcm
  refine W.freezeOws hown (List.Perm.refl _) fun S3 hle3 hsr => ?_
  obtain ⟨A3, c3, rfl, hc3, hA3⟩ := hsr
  have hG3 := hG.le (hle1.trans (hle2.trans hle3))
  have hj := join_con plusW_con cs [] A3 none c3 0 S3 hG3 hA3 (At.nil _ _) (fun q hq => (hok q hq).le hle3) (fun q hq => absurd hq List.not_mem_nil) (by omega) (by decide)
  (repeat (first | refine Jc ?_ | (apply z_call; rfl; rfl; rfl; exact hj; rintro S4 _ _ hle4 ⟨rfl, v, s, e, rfl, hsk, hjp⟩; obtain ⟨A4, n4, c4, rfl⟩ := hsk.form) | refine Jo ?_ | intro _))
  refine o_ret_c2 (L' := []) (sz := 1) (cs := [.slice A4 n4 c4]) Tryd.results16 rfl rfl (by repeat (first | exact List.Mem.head _ | refine List.Mem.tail _ ?_ | exact List.mem_append_right _ (List.Mem.head _))) rfl (List.nil_sublist _) ⟨rfl, _, s, e, rfl, hsk, .inl ⟨h4, hall, ?_⟩⟩
  simp only [List.foldl_nil] at hjp
  rw [foldM_map, hcm] at hjp
  exact hjp
def MergeP (g : Int → Int → Int) (a b s : List PC) (e : Int) : Prop := (ValidP a ∧ ValidP b ∧ JoinP (foldM g b (foldM plusW a [])) s e) ∨ (¬ (ValidP a ∧ ValidP b) ∧ s = [] ∧ e = 170)
theorem Merge_con {va vb : Value} {a b : List PC} (S : SH) (hG : Gl S) (ha : SkV S va a) (hb : SkV S vb b) :
    Con Tryd.prog 21 #[va, vb] S [] (fun S' L' r => L' = [] ∧ ∃ v s e, r = .tuple #[v, .int .i64 e] ∧ SkV S' v s ∧ MergeP plusW a b s e) := by
  obtain ⟨A, ca, xs, rfl, hA, oka, la, rfl⟩ := ha
  obtain ⟨B, cb, ys, rfl, hB, okb, lb, rfl⟩ := hb
  refine con_of (args := [.agg [.slice A xs.length ca].toArray, .agg [.slice B ys.length cb].toArray]) Tryd.func21 rfl Tryd.ntmps21 rfl fun w => ?_
  have v1 := Valid_con xs A ca S hG hA oka (by omega)
  have v2 := Valid_con ys B cb S hG hB okb (by omega)
  by_cases h1 : ValidP (xs.map (·.p))
  rotate_left
  · rw [bP_f h1] at v1
    (repeat (first | refine Jc ?_ | (apply z_call; rfl; rfl; rfl; exact v1; rintro _ _ _ - ⟨rfl, rfl, rfl⟩) | refine Jo ?_ | intro _))
    exact o_ret_c2 (L' := []) (sz := 1) (cs := [.slice none 0 0]) Tryd.results21 rfl rfl (by repeat (first | exact List.Mem.head _ | refine List.Mem.tail _ ?_ | exact List.mem_append_right _ (List.Mem.head _))) rfl (List.nil_sublist _) ⟨rfl, _, [], 170, rfl, nil_sk _, .inr ⟨fun h => h1 h.1, rfl, rfl⟩⟩
  rw [bP_t h1] at v1
  by_cases h2 : ValidP (ys.map (·.p))
  rotate_left
  · rw [bP_f h2] at v2
    (repeat (first | refine Jc ?_ | (apply z_call; rfl; rfl; rfl; exact v1; rintro _ _ _ - ⟨rfl, rfl, rfl⟩) | (apply z_call; rfl; rfl; rfl; exact v2; rintro _ _ _ - ⟨rfl, rfl, rfl⟩) | refine Jo ?_ | intro _))
    exact o_ret_c2 (L' := []) (sz := 1) (cs := [.slice none 0 0]) Tryd.results21 rfl rfl (by repeat (first | exact List.Mem.head _ | refine List.Mem.tail _ ?_ | exact List.mem_append_right _ (List.Mem.head _))) rfl (List.nil_sublist _) ⟨rfl, _, [], 170, rfl, nil_sk _, .inr ⟨fun h => h2 h.2, rfl, rfl⟩⟩
  rw [bP_t h2] at v2
  have hj := join_con plusW_con xs ys A B ca cb S hG hA hB oka okb la lb
  (repeat (first | refine Jc ?_ | (apply z_call; rfl; rfl; rfl; exact v1; rintro _ _ _ - ⟨rfl, rfl, rfl⟩) | (apply z_call; rfl; rfl; rfl; exact v2; rintro _ _ _ - ⟨rfl, rfl, rfl⟩) | (apply z_call; rfl; rfl; rfl; exact hj; rintro S4 _ _ hle4 ⟨rfl, v, s, e, rfl, hsk, hjp⟩; obtain ⟨A4, n4, c4, rfl⟩ := hsk.form) | refine Jo ?_ | intro _))
  refine o_ret_c2 (L' := []) (sz := 1) (cs := [.slice A4 n4 c4]) Tryd.results21 rfl rfl (by repeat (first | exact List.Mem.head _ | refine List.Mem.tail _ ?_ | exact List.mem_append_right _ (List.Mem.head _))) rfl (List.nil_sublist _) ⟨rfl, _, s, e, rfl, hsk, .inl ⟨h1, h2, ?_⟩⟩
  rw [foldM_map, foldM_map] at hjp
  exact hjp
theorem Sub_con {va vb : Value} {a b : List PC} (S : SH) (hG : Gl S) (ha : SkV S va a) (hb : SkV S vb b) :
    Con Tryd.prog 23 #[va, vb] S [] (fun S' L' r => L' = [] ∧ ∃ v s e, r = .tuple #[v, .int .i64 e] ∧ SkV S' v s ∧ MergeP minusW a b s e) := by
  obtain ⟨A, ca, xs, rfl, hA, oka, la, rfl⟩ := ha
  obtain ⟨B, cb, ys, rfl, hB, okb, lb, rfl⟩ := hb
  refine con_of (args := [.agg [.slice A xs.length ca].toArray, .agg [.slice B ys.length cb].toArray]) Tryd.func23 rfl Tryd.ntmps23 rfl fun w => ?_
  have v1 := Valid_con xs A ca S hG hA oka (by omega)
  have v2 := Valid_con ys B cb S hG hB okb (by omega)
  by_cases h1 : ValidP (xs.map (·.p))
  rotate_left
  · rw [bP_f h1] at v1
    (repeat (first | refine Jc ?_ | (apply z_call; rfl; rfl; rfl; exact v1; rintro _ _ _ - ⟨rfl, rfl, rfl⟩) | refine Jo ?_ | intro _))
    exact o_ret_c2 (L' := []) (sz := 1) (cs := [.slice none 0 0]) Tryd.results23 rfl rfl (by repeat (first | exact List.Mem.head _ | refine List.Mem.tail _ ?_ | exact List.mem_append_right _ (List.Mem.head _))) rfl (List.nil_sublist _) ⟨rfl, _, [], 170, rfl, nil_sk _, .inr ⟨fun h => h1 h.1, rfl, rfl⟩⟩
  rw [bP_t h1] at v1
  by_cases h2 : ValidP (ys.map (·.p))
  rotate_left
  · rw [bP_f h2] at v2
    (repeat (first | refine Jc ?_ | (apply z_call; rfl; rfl; rfl; exact v1; rintro _ _ _ - ⟨rfl, rfl, rfl⟩) | (apply z_call; rfl; rfl; rfl; exact v2; rintro _ _ _ - ⟨rfl, rfl, rfl⟩) | refine Jo ?_ | intro _))
    exact o_ret_c2 (L' := []) (sz := 1) (cs := [.slice none 0 0]) Tryd.results23 rfl rfl (by repeat (first | exact List.Mem.head _ | refine List.Mem.tail _ ?_ | exact List.mem_append_right _ (List.Mem.head _))) rfl (List.nil_sublist _) ⟨rfl, _, [], 170, rfl, nil_sk _, .inr ⟨fun h => h2 h.2, rfl, rfl⟩⟩
  rw [bP_t h2] at v2
  have hj := join_con minusW_con xs ys A B ca cb S hG hA hB oka okb la lb
  (repeat (first | refine Jc ?_ | (apply z_call; rfl; rfl; rfl; exact v1; rintro _ _ _ - ⟨rfl, rfl, rfl⟩) | (apply z_call; rfl; rfl; rfl; exact v2; rintro _ _ _ - ⟨rfl, rfl, rfl⟩) | (apply z_call; rfl; rfl; rfl; exact hj; rintro S4 _ _ hle4 ⟨rfl, v, s, e, rfl, hsk, hjp⟩; obtain ⟨A4, n4, c4, rfl⟩ := hsk.form) | refine Jo ?_ | intro _))
  refine o_ret_c2 (L' := []) (sz := 1) (cs := [.slice A4 n4 c4]) Tryd.results23 rfl rfl (by repeat (first | exact List.Mem.head _ | refine List.Mem.tail _ ?_ | exact List.mem_append_right _ (List.Mem.head _))) rfl (List.nil_sublist _) ⟨rfl, _, s, e, rfl, hsk, .inl ⟨h1, h2, ?_⟩⟩
  rw [foldM_map, foldM_map] at hjp
  exact hjp
end Go.Proofs.YtogfficbloejcaaDoor
namespace Go.Proofs.YtogfficbloejcaaDoor
open Go Go.X
set_option maxRecDepth 10000
set_option linter.unusedVariables false
attribute [local irreducible] Code.wpIn wpListIn Exit.then Exit.inBlock X.Out X.Back X.W X.Ev X.Con X.BinV X.Wh X.Wn X.Wq
theorem Equal_con (a b : List Int) (A B : Option Addr) (ca cb : Nat) (S : SH) (hA : At S A a) (hB : At S B b) (la : a.length ≤ 1000000) (lb : b.length ≤ 1000000) :
    Con Tryd.prog 84 #[.slice A a.length ca, .slice B b.length cb] S [] (Pure S (.bool (bP (a = b)))) := by
  refine con_of (args := [.slice A a.length ca, .slice B b.length cb]) Tryd.func84 rfl Tryd.ntmps84 rfl fun w => ?_
  by_cases hlen : a.length = b.length
  rotate_left
  · (repeat (first | refine Jz ?_ | intro _))
    exact o_ret Tryd.results84 rfl (List.nil_sublist _) ⟨rfl, rfl, by rw [bP_f fun h => hlen (by rw [h])]⟩
  (repeat (first | refine Jz ?_ | intro _))
  refine c_loop (fun m S' L F => S' = S ∧ L = [] ∧ ∃ (k : Nat), m = a.length - k ∧ k ≤ a.length ∧ a.take k = b.take k ∧
      F = [(0, .slice A a.length ca), (1, .slice B b.length cb), (12, .int .i64 a.length), (13, .int .i64 k)]) ⟨rfl, rfl, 0, rfl, by omega, by simp, rfl⟩ sbF (List.Sublist.refl _) ?_
  rintro m S' L F ⟨rfl, rfl, k, rfl, hk1, heq, rfl⟩
  by_cases hlt : k < a.length
  rotate_left
  · obtain rfl : k = a.length := by omega
    rw [List.take_length, hlen, List.take_length] at heq
    (repeat (first | refine Jz ?_ | intro _))
    exact o_ret Tryd.results84 rfl (List.nil_sublist _) ⟨rfl, rfl, by rw [bP_t heq]⟩
  obtain ⟨x, hx⟩ := at_lt' hlt
  obtain ⟨y, hy⟩ := at_lt' (show k < b.length by omega)
  by_cases hxy : x = y
  · (repeat (first | refine Jc ?_ | (apply c_draw; (case hB => kernel_rfl); (repeat (first | (apply q_idx hA; (case hg => rfl); (case hd => rfl); (case hx => rfl); (case hi => rfl); (case hm => rfl); (case hu => exact hx); intro p hp) | (apply q_ev; (case hg => rfl); (case hd => rfl); (case he => (apply ev_load1; (case hx => rfl); (case h => exact hp)))) | (apply q_idx hB; (case hg => rfl); (case hd => rfl); (case hx => rfl); (case hi => rfl); (case hm => rfl); (case hu => exact hy); intro p2 hp2) | (apply q_ev; (case hg => rfl); (case hd => rfl); (case he => (apply ev_load1; (case hx => rfl); (case h => exact hp2)))) | refine Jd ?_))) | refine Jo ?_ | intro _))
    exact q_back (m' := a.length - (k + 1)) ⟨rfl, rfl, k + 1, rfl, by omega, by rw [take_at' hx, take_at' hy, heq, hxy], rfl⟩ (by omega) sbF (List.Sublist.refl _)
  · (repeat (first | refine Jc ?_ | (apply c_draw; (case hB => kernel_rfl); (repeat (first | (apply q_idx hA; (case hg => rfl); (case hd => rfl); (case hx => rfl); (case hi => rfl); (case hm => rfl); (case hu => exact hx); intro p hp) | (apply q_ev; (case hg => rfl); (case hd => rfl); (case he => (apply ev_load1; (case hx => rfl); (case h => exact hp)))) | (apply q_idx hB; (case hg => rfl); (case hd => rfl); (case hx => rfl); (case hi => rfl); (case hm => rfl); (case hu => exact hy); intro p2 hp2) | (apply q_ev; (case hg => rfl); (case hd => rfl); (case he => (apply ev_load1; (case hx => rfl); (case h => exact hp2)))) | refine Jd ?_))) | refine Jo ?_ | intro _))
    refine o_ret (L' := []) Tryd.results84 rfl (List.nil_sublist _) ?_
    have hne : ¬ a = b := fun h => by
      rw [h, hy] at hx
      injection hx with hx
      exact hxy hx.symm
    rw [bP_f hne]
    exact ⟨rfl, rfl, rfl⟩
instance : Ng Tryd.prog 80 := ⟨by kernel_rfl⟩
set_option maxHeartbeats 1600000 in
theorem same_con (q r : Ce) (S : SH) (hq : q.ok S) (hr : r.ok S) : Con Tryd.prog 52 #[.agg q.vals.toArray, .agg r.vals.toArray] S [] (Pure S (.bool (bP (q.p = r.p)))) := by
  refine con_of (args := [.agg q.vals.toArray, .agg r.vals.toArray]) Tryd.func52 rfl Tryd.ntmps52 rfl fun w => ?_
  obtain ⟨q1, q2, q3, q4, q5, q6⟩ := hq
  obtain ⟨r1, r2, r3, r4, r5, r6⟩ := hr
  have k1 := fun S => keyOf_con q S
  have k2 := fun S => keyOf_con r S
  have hkey : (q.p.key == r.p.key) = bP (q.p.key = r.p.key) := by
    by_cases h : q.p.key = r.p.key
    · rw [bP_t h]; simpa using h
    · rw [bP_f h]; simpa using h
  have l1 : q.p.key.length = 4 := rfl
  have l2 : r.p.key.length = 4 := rfl
  have hkiff : q.p.key = r.p.key ↔ q.p.s = r.p.s ∧ q.p.v = r.p.v ∧ q.p.o = r.p.o ∧ q.p.d = r.p.d := by simp [PC.key]
  generalize q.p.key = kq at *
  generalize r.p.key = kr at *
  obtain ⟨⟨qs, qv, qo, qd, ⟨qn, ql, qh, qb, qls, qhs⟩⟩, qla, qlc, qha, qhc⟩ := q
  obtain ⟨⟨rs, rv, ro, rd, ⟨rn, rl, rh, rb, rls, rhs⟩⟩, rla, rlc, rha, rhc⟩ := r
  unfold Ce.vals at *
  dsimp only at *
  have c1 := fun S1 (h : Le S S1) => Equal_con qls rls qla rla qlc rlc S1 (q1.le h) (r1.le h) (by omega) (by omega)
  have c2 := fun S1 (h : Le S S1) => Equal_con qhs rhs qha rha qhc rhc S1 (q2.le h) (r2.le h) (by omega) (by omega)
  by_cases hk : kq = kr
  rotate_left
  · have hkb : (kq == kr) = false := by rw [hkey, bP_f hk]
    (repeat (first | refine Jc ?_ | (apply c_draw; (case hB => kernel_rfl); (repeat (first | (apply q_call; (case hg => rfl); (case hd => rfl); (case ha => rfl); (case hc => (intro S1 hle1 hm1; exact k1 S1)); (case hq => (rintro _ _ _ _ ⟨-, -, rfl⟩; rfl))) | (apply q_call; (case hg => rfl); (case hd => rfl); (case ha => rfl); (case hc => (intro S1 hle1 hm1; exact k2 S1)); (case hq => (rintro _ _ _ _ ⟨-, -, rfl⟩; rfl))) | (apply q_ev; (case hg => rfl); (case hd => rfl); (case he => (apply ev_eql_keyb (a := kq) (b := kr); (case hx => rfl); (case hy => rfl); (case ha => exact l1); (case hb => exact l2); (case ht => exact hkb)))) | (apply q_call; (case hg => rfl); (case hd => rfl); (case ha => rfl); (case hc => (intro S1 hle1 hm1; exact c1 S1 hle1)); (case hq => (rintro _ _ _ _ ⟨-, -, rfl⟩; rfl))) | (apply q_call; (case hg => rfl); (case hd => rfl); (case ha => rfl); (case hc => (intro S1 hle1 hm1; exact c2 S1 hle1)); (case hq => (rintro _ _ _ _ ⟨-, -, rfl⟩; rfl))) | refine Jd ?_))) | refine Jo ?_ | intro _))
    refine o_ret (L' := []) Tryd.results52 rfl (List.nil_sublist _) ?_
    rw [bP_f fun h => hk (hkiff.2 (by injection h with h1 h2 h3 h4; exact ⟨h1, h2, h3, h4⟩))]
    exact ⟨rfl, rfl, rfl⟩
  have hkb : (kq == kr) = true := by rw [hkey, bP_t hk]
  by_cases h_qn : qn = rn
  rotate_left
  · (repeat (first | refine Jc ?_ | (apply c_draw; (case hB => kernel_rfl); (repeat (first | (apply q_call; (case hg => rfl); (case hd => rfl); (case ha => rfl); (case hc => (intro S1 hle1 hm1; exact k1 S1)); (case hq => (rintro _ _ _ _ ⟨-, -, rfl⟩; rfl))) | (apply q_call; (case hg => rfl); (case hd => rfl); (case ha => rfl); (case hc => (intro S1 hle1 hm1; exact k2 S1)); (case hq => (rintro _ _ _ _ ⟨-, -, rfl⟩; rfl))) | (apply q_ev; (case hg => rfl); (case hd => rfl); (case he => (apply ev_eql_keyb (a := kq) (b := kr); (case hx => rfl); (case hy => rfl); (case ha => exact l1); (case hb => exact l2); (case ht => exact hkb)))) | (apply q_call; (case hg => rfl); (case hd => rfl); (case ha => rfl); (case hc => (intro S1 hle1 hm1; exact c1 S1 hle1)); (case hq => (rintro _ _ _ _ ⟨-, -, rfl⟩; rfl))) | (apply q_call; (case hg => rfl); (case hd => rfl); (case ha => rfl); (case hc => (intro S1 hle1 hm1; exact c2 S1 hle1)); (case hq => (rintro _ _ _ _ ⟨-, -, rfl⟩; rfl))) | refine Jd ?_))) | refine Jo ?_ | intro _))
    refine o_ret (L' := []) Tryd.results52 rfl (List.nil_sublist _) ?_
    rw [bP_f fun h => h_qn (by injection h with h1 h2 h3 h4 h5; injection h5 with a1 a2 a3 a4 a5 a6)]
    exact ⟨rfl, rfl, rfl⟩
  by_cases h_ql : ql = rl
  rotate_left
  · (repeat (first | refine Jc ?_ | (apply c_draw; (case hB => kernel_rfl); (repeat (first | (apply q_call; (case hg => rfl); (case hd => rfl); (case ha => rfl); (case hc => (intro S1 hle1 hm1; exact k1 S1)); (case hq => (rintro _ _ _ _ ⟨-, -, rfl⟩; rfl))) | (apply q_call; (case hg => rfl); (case hd => rfl); (case ha => rfl); (case hc => (intro S1 hle1 hm1; exact k2 S1)); (case hq => (rintro _ _ _ _ ⟨-, -, rfl⟩; rfl))) | (apply q_ev; (case hg => rfl); (case hd => rfl); (case he => (apply ev_eql_keyb (a := kq) (b := kr); (case hx => rfl); (case hy => rfl); (case ha => exact l1); (case hb => exact l2); (case ht => exact hkb)))) | (apply q_call; (case hg => rfl); (case hd => rfl); (case ha => rfl); (case hc => (intro S1 hle1 hm1; exact c1 S1 hle1)); (case hq => (rintro _ _ _ _ ⟨-, -, rfl⟩; rfl))) | (apply q_call; (case hg => rfl); (case hd => rfl); (case ha => rfl); (case hc => (intro S1 hle1 hm1; exact c2 S1 hle1)); (case hq => (rintro _ _ _ _ ⟨-, -, rfl⟩; rfl))) | refine Jd ?_))) | refine Jo ?_ | intro _))
    refine o_ret (L' := []) Tryd.results52 rfl (List.nil_sublist _) ?_
    rw [bP_f fun h => h_ql (by injection h with h1 h2 h3 h4 h5; injection h5 with a1 a2 a3 a4 a5 a6)]
    exact ⟨rfl, rfl, rfl⟩
  by_cases h_qh : qh = rh
  rotate_left
  · (repeat (first | refine Jc ?_ | (apply c_draw; (case hB => kernel_rfl); (repeat (first | (apply q_call; (case hg => rfl); (case hd => rfl); (case ha => rfl); (case hc => (intro S1 hle1 hm1; exact k1 S1)); (case hq => (rintro _ _ _ _ ⟨-, -, rfl⟩; rfl))) | (apply q_call; (case hg => rfl); (case hd => rfl); (case ha => rfl); (case hc => (intro S1 hle1 hm1; exact k2 S1)); (case hq => (rintro _ _ _ _ ⟨-, -, rfl⟩; rfl))) | (apply q_ev; (case hg => rfl); (case hd => rfl); (case he => (apply ev_eql_keyb (a := kq) (b := kr); (case hx => rfl); (case hy => rfl); (case ha => exact l1); (case hb => exact l2); (case ht => exact hkb)))) | (apply q_call; (case hg => rfl); (case hd => rfl); (case ha => rfl); (case hc => (intro S1 hle1 hm1; exact c1 S1 hle1)); (case hq => (rintro _ _ _ _ ⟨-, -, rfl⟩; rfl))) | (apply q_call; (case hg => rfl); (case hd => rfl); (case ha => rfl); (case hc => (intro S1 hle1 hm1; exact c2 S1 hle1)); (case hq => (rintro _ _ _ _ ⟨-, -, rfl⟩; rfl))) | refine Jd ?_))) | refine Jo ?_ | intro _))
    refine o_ret (L' := []) Tryd.results52 rfl (List.nil_sublist _) ?_
    rw [bP_f fun h => h_qh (by injection h with h1 h2 h3 h4 h5; injection h5 with a1 a2 a3 a4 a5 a6)]
    exact ⟨rfl, rfl, rfl⟩
  by_cases h_qb : qb = rb
  rotate_left
  · (repeat (first | refine Jc ?_ | (apply c_draw; (case hB => kernel_rfl); (repeat (first | (apply q_call; (case hg => rfl); (case hd => rfl); (case ha => rfl); (case hc => (intro S1 hle1 hm1; exact k1 S1)); (case hq => (rintro _ _ _ _ ⟨-, -, rfl⟩; rfl))) | (apply q_call; (case hg => rfl); (case hd => rfl); (case ha => rfl); (case hc => (intro S1 hle1 hm1; exact k2 S1)); (case hq => (rintro _ _ _ _ ⟨-, -, rfl⟩; rfl))) | (apply q_ev; (case hg => rfl); (case hd => rfl); (case he => (apply ev_eql_keyb (a := kq) (b := kr); (case hx => rfl); (case hy => rfl); (case ha => exact l1); (case hb => exact l2); (case ht => exact hkb)))) | (apply q_call; (case hg => rfl); (case hd => rfl); (case ha => rfl); (case hc => (intro S1 hle1 hm1; exact c1 S1 hle1)); (case hq => (rintro _ _ _ _ ⟨-, -, rfl⟩; rfl))) | (apply q_call; (case hg => rfl); (case hd => rfl); (case ha => rfl); (case hc => (intro S1 hle1 hm1; exact c2 S1 hle1)); (case hq => (rintro _ _ _ _ ⟨-, -, rfl⟩; rfl))) | refine Jd ?_))) | refine Jo ?_ | intro _))
    refine o_ret (L' := []) Tryd.results52 rfl (List.nil_sublist _) ?_
    rw [bP_f fun h => h_qb (by injection h with h1 h2 h3 h4 h5; injection h5 with a1 a2 a3 a4 a5 a6)]
    exact ⟨rfl, rfl, rfl⟩
  by_cases h_qls : qls = rls
  rotate_left
  · rw [bP_f h_qls] at c1
    (repeat (first | refine Jc ?_ | (apply c_draw; (case hB => kernel_rfl); (repeat (first | (apply q_call; (case hg => rfl); (case hd => rfl); (case ha => rfl); (case hc => (intro S1 hle1 hm1; exact k1 S1)); (case hq => (rintro _ _ _ _ ⟨-, -, rfl⟩; rfl))) | (apply q_call; (case hg => rfl); (case hd => rfl); (case ha => rfl); (case hc => (intro S1 hle1 hm1; exact k2 S1)); (case hq => (rintro _ _ _ _ ⟨-, -, rfl⟩; rfl))) | (apply q_ev; (case hg => rfl); (case hd => rfl); (case he => (apply ev_eql_keyb (a := kq) (b := kr); (case hx => rfl); (case hy => rfl); (case ha => exact l1); (case hb => exact l2); (case ht => exact hkb)))) | (apply q_call; (case hg => rfl); (case hd => rfl); (case ha => rfl); (case hc => (intro S1 hle1 hm1; exact c1 S1 hle1)); (case hq => (rintro _ _ _ _ ⟨-, -, rfl⟩; rfl))) | (apply q_call; (case hg => rfl); (case hd => rfl); (case ha => rfl); (case hc => (intro S1 hle1 hm1; exact c2 S1 hle1)); (case hq => (rintro _ _ _ _ ⟨-, -, rfl⟩; rfl))) | refine Jd ?_))) | refine Jo ?_ | intro _))
    refine o_ret (L' := []) Tryd.results52 rfl (List.nil_sublist _) ?_
    rw [bP_f fun h => h_qls (by injection h with h1 h2 h3 h4 h5; injection h5 with a1 a2 a3 a4 a5 a6)]
    exact ⟨rfl, rfl, rfl⟩
  rw [bP_t h_qls] at c1
  by_cases h_qhs : qhs = rhs
  rotate_left
  · rw [bP_f h_qhs] at c2
    (repeat (first | refine Jc ?_ | (apply c_draw; (case hB => kernel_rfl); (repeat (first | (apply q_call; (case hg => rfl); (case hd => rfl); (case ha => rfl); (case hc => (intro S1 hle1 hm1; exact k1 S1)); (case hq => (rintro _ _ _ _ ⟨-, -, rfl⟩; rfl))) | (apply q_call; (case hg => rfl); (case hd => rfl); (case ha => rfl); (case hc => (intro S1 hle1 hm1; exact k2 S1)); (case hq => (rintro _ _ _ _ ⟨-, -, rfl⟩; rfl))) | (apply q_ev; (case hg => rfl); (case hd => rfl); (case he => (apply ev_eql_keyb (a := kq) (b := kr); (case hx => rfl); (case hy => rfl); (case ha => exact l1); (case hb => exact l2); (case ht => exact hkb)))) | (apply q_call; (case hg => rfl); (case hd => rfl); (case ha => rfl); (case hc => (intro S1 hle1 hm1; exact c1 S1 hle1)); (case hq => (rintro _ _ _ _ ⟨-, -, rfl⟩; rfl))) | (apply q_call; (case hg => rfl); (case hd => rfl); (case ha => rfl); (case hc => (intro S1 hle1 hm1; exact c2 S1 hle1)); (case hq => (rintro _ _ _ _ ⟨-, -, rfl⟩; rfl))) | refine Jd ?_))) | refine Jo ?_ | intro _))
    refine o_ret (L' := []) Tryd.results52 rfl (List.nil_sublist _) ?_
    rw [bP_f fun h => h_qhs (by injection h with h1 h2 h3 h4 h5; injection h5 with a1 a2 a3 a4 a5 a6)]
    exact ⟨rfl, rfl, rfl⟩
  rw [bP_t h_qhs] at c2
  (repeat (first | refine Jc ?_ | (apply c_draw; (case hB => kernel_rfl); (repeat (first | (apply q_call; (case hg => rfl); (case hd => rfl); (case ha => rfl); (case hc => (intro S1 hle1 hm1; exact k1 S1)); (case hq => (rintro _ _ _ _ ⟨-, -, rfl⟩; rfl))) | (apply q_call; (case hg => rfl); (case hd => rfl); (case ha => rfl); (case hc => (intro S1 hle1 hm1; exact k2 S1)); (case hq => (rintro _ _ _ _ ⟨-, -, rfl⟩; rfl))) | (apply q_ev; (case hg => rfl); (case hd => rfl); (case he => (apply ev_eql_keyb (a := kq) (b := kr); (case hx => rfl); (case hy => rfl); (case ha => exact l1); (case hb => exact l2); (case ht => exact hkb)))) | (apply q_call; (case hg => rfl); (case hd => rfl); (case ha => rfl); (case hc => (intro S1 hle1 hm1; exact c1 S1 hle1)); (case hq => (rintro _ _ _ _ ⟨-, -, rfl⟩; rfl))) | (apply q_call; (case hg => rfl); (case hd => rfl); (case ha => rfl); (case hc => (intro S1 hle1 hm1; exact c2 S1 hle1)); (case hq => (rintro _ _ _ _ ⟨-, -, rfl⟩; rfl))) | refine Jd ?_))) | refine Jo ?_ | intro _))
  refine o_ret (L' := []) Tryd.results52 rfl (List.nil_sublist _) ?_
  rw [bP_t (by obtain ⟨e1, e2, e3, e4⟩ := hkiff.1 hk; subst e1 e2 e3 e4 h_qn h_ql h_qh h_qb h_qls h_qhs; rfl)]
  exact ⟨rfl, rfl, rfl⟩
theorem EqualFunc_con (xs ys : List Ce) (A B : Option Addr) (ca cb : Nat) (S : SH) (hA : At S A xs) (hB : At S B ys) (oka : ∀ q ∈ xs, q.ok S) (okb : ∀ q ∈ ys, q.ok S) (la : xs.length ≤ 1000) (lb : ys.length ≤ 1000) :
    Con Tryd.prog 51 #[.slice A xs.length ca, .slice B ys.length cb, .func (.func 52) #[] #[]] S [] (Pure S (.bool (bP (xs.map (·.p) = ys.map (·.p))))) := by
  refine con_of (args := [.slice A xs.length ca, .slice B ys.length cb, .func (.func 52) #[] #[]]) Tryd.func51 rfl Tryd.ntmps51 rfl fun w => ?_
  by_cases hlen : xs.length = ys.length
  rotate_left
  · (repeat (first | refine Jz ?_ | intro _))
    exact o_ret Tryd.results51 rfl (List.nil_sublist _) ⟨rfl, rfl, by rw [bP_f fun h => hlen (by have := congrArg List.length h; simpa using this)]⟩
  (repeat (first | refine Jz ?_ | intro _))
  refine c_loop (fun m S' L F => S' = S ∧ L = [] ∧ ∃ (k : Nat), m = xs.length - k ∧ k ≤ xs.length ∧ (xs.take k).map (·.p) = (ys.take k).map (·.p) ∧
      F = [(1, .slice B ys.length cb), (2, .func (.func 52) #[] #[]), (15, .slice A xs.length ca), (16, .int .i64 xs.length), (17, .int .i64 k)]) ⟨rfl, rfl, 0, rfl, by omega, by simp, rfl⟩ sbF (List.Sublist.refl _) ?_
  rintro m S' L F ⟨rfl, rfl, k, rfl, hk1, heq, rfl⟩
  by_cases hlt : k < xs.length
  rotate_left
  · obtain rfl : k = xs.length := by omega
    rw [List.take_length, hlen, List.take_length] at heq
    (repeat (first | refine Jz ?_ | intro _))
    exact o_ret Tryd.results51 rfl (List.nil_sublist _) ⟨rfl, rfl, by rw [bP_t heq]⟩
  obtain ⟨x, hx⟩ := at_lt' hlt
  obtain ⟨y, hy⟩ := at_lt' (show k < ys.length by omega)
  have hsame : ∀ S1, S1 = S' → Con Tryd.prog 52 #[.agg x.vals.toArray, .agg y.vals.toArray] S1 [] (Pure S1 (.bool (bP (x.p = y.p)))) := fun S1 e => e ▸ same_con x y S' (oka x (List.mem_of_getElem? hx)) (okb y (List.mem_of_getElem? hy))
  by_cases hxy : x.p = y.p
  · rw [bP_t hxy] at hsame
    (repeat (first | refine Jc ?_ | (apply s_idx hA; (case hg => rfl); (case hd => rfl); (case hx => rfl); (case hi => rfl); (case hm => rfl); (case hu => exact hx); intro p hp) | (apply s_load_ag; (case hg => rfl); (case hd => rfl); (case hx => rfl); (case hv => exact hp); (case hl => rfl)) | (apply s_idx hB; (case hg => rfl); (case hd => rfl); (case hx => rfl); (case hi => rfl); (case hm => rfl); (case hu => exact hy); intro p2 hp2) | (apply s_load_ag; (case hg => rfl); (case hd => rfl); (case hx => rfl); (case hv => exact hp2); (case hl => rfl)) | (apply s_callw (caps := []); (case hg => rfl); (case hd => rfl); (case hx => rfl); (case i1 => infer_instance); (case ha => rfl); (case hc => exact hsame _ rfl); (case hL => (exact pmT)); rintro _ _ _ - ⟨rfl, rfl, rfl⟩) | refine Jo ?_ | intro _))
    refine q_back (m' := xs.length - (k + 1)) ⟨rfl, rfl, k + 1, rfl, by omega, ?_, rfl⟩ (by omega) sbF (List.nil_sublist _)
    rw [take_at' hx, take_at' hy, List.map_append, List.map_append, heq]
    simp [hxy]
  · rw [bP_f hxy] at hsame
    (repeat (first | refine Jc ?_ | (apply s_idx hA; (case hg => rfl); (case hd => rfl); (case hx => rfl); (case hi => rfl); (case hm => rfl); (case hu => exact hx); intro p hp) | (apply s_load_ag; (case hg => rfl); (case hd => rfl); (case hx => rfl); (case hv => exact hp); (case hl => rfl)) | (apply s_idx hB; (case hg => rfl); (case hd => rfl); (case hx => rfl); (case hi => rfl); (case hm => rfl); (case hu => exact hy); intro p2 hp2) | (apply s_load_ag; (case hg => rfl); (case hd => rfl); (case hx => rfl); (case hv => exact hp2); (case hl => rfl)) | (apply s_callw (caps := []); (case hg => rfl); (case hd => rfl); (case hx => rfl); (case i1 => infer_instance); (case ha => rfl); (case hc => exact hsame _ rfl); (case hL => (exact pmT)); rintro _ _ _ - ⟨rfl, rfl, rfl⟩) | refine Jo ?_ | intro _))
    refine o_ret (L' := []) Tryd.results51 rfl (List.nil_sublist _) ?_
    have hne : ¬ xs.map (·.p) = ys.map (·.p) := fun h => by
      have h2 : (xs.map (·.p))[k]? = (ys.map (·.p))[k]? := by rw [h]
      rw [List.getElem?_map, List.getElem?_map, hx, hy] at h2
      injection h2 with h2
      exact hxy h2
    rw [bP_f hne]
    exact ⟨rfl, rfl, rfl⟩
theorem Same_con {va vb : Value} {a b : List PC} (S : SH) (ha : SkV S va a) (hb : SkV S vb b) : Con Tryd.prog 25 #[va, vb] S [] (Pure S (.bool (bP (a = b)))) := by
  obtain ⟨A, ca, xs, rfl, hA, oka, la, rfl⟩ := ha
  obtain ⟨B, cb, ys, rfl, hB, okb, lb, rfl⟩ := hb
  refine con_of (args := [.agg [.slice A xs.length ca].toArray, .agg [.slice B ys.length cb].toArray]) Tryd.func25 rfl Tryd.ntmps25 rfl fun w => ?_
  (repeat (first | refine Jc ?_ | (apply z_call; rfl; rfl; rfl; exact EqualFunc_con xs ys A B ca cb _ hA hB oka okb la lb; rintro _ _ _ - ⟨rfl, rfl, rfl⟩) | refine Jo ?_ | intro _))
  exact o_ret Tryd.results25 rfl (List.nil_sublist _) ⟨rfl, rfl, rfl⟩
end Go.Proofs.YtogfficbloejcaaDoor
namespace Go.Proofs.YtogfficbloejcaaDoor
open Go Go.X
set_option maxRecDepth 10000
set_option linter.unusedVariables false
attribute [local irreducible] Code.wpIn wpListIn Exit.then Exit.inBlock X.Out X.Back X.W X.Ev X.Con X.BinV X.Wh X.Wn X.Wq
theorem at_lit {S : SH} {b : Nat} {T : TypeId} {q : Ce} (h : S b = some (.cells ([Value.agg q.vals.toArray].flatMap (·.cells.toList)).toArray T (0, 0))) : At S (some ⟨b, 0, none⟩) [q] := fun _ => ⟨_, rfl, pts_block h (by rfl)⟩
theorem valid_one (c : PC) : ValidP [c] ↔ PcP c := by
  constructor
  · exact fun h => h.each c List.mem_cons_self
  · intro h
    refine ⟨fun x hx => by rw [List.mem_singleton.1 hx]; exact h, fun i a b _ hb => ?_, by simp⟩
    simp at hb
def sumV (l : List PC) : Vec := l.foldl (fun x c => vop plusW x c.x) zeroV
def zeroC : PC := ⟨0, 0, 0, 0, zeroV⟩
def TotalP (l : List PC) (c : PC) (e : Int) : Prop :=
  ((l = [] ∨ l.length ≤ 400) ∧ (∀ c ∈ l, PcP c) ∧ CellP (sumV l) ∧ c = ⟨0, 0, 0, 0, sumV l⟩ ∧ e = 0) ∨ (¬ ((l = [] ∨ l.length ≤ 400) ∧ (∀ c ∈ l, PcP c) ∧ CellP (sumV l)) ∧ c = zeroC ∧ e = 170)
theorem Total_con (cs : List Ce) (A : Option Addr) (c : Nat) (S : SH) (hG : Gl S) (hA : At S A cs) (hok : ∀ q ∈ cs, q.ok S) (hl : cs.length ≤ 1000) :
    Con Tryd.prog 26 #[.slice A cs.length c] S [] (fun S' L' r => L' = [] ∧ ∃ (q' : Ce) (e : Int), r = .tuple #[.agg q'.vals.toArray, .int .i64 e] ∧ q'.ok S' ∧ TotalP (cs.map (·.p)) q'.p e) := by
  refine con_of (args := [.slice A cs.length c]) Tryd.func26 rfl Tryd.ntmps26 rfl fun w => ?_
  (repeat (first | refine Jz ?_ | intro _))
  rename_i br bt
  refine c_loop (fun m S2 L F => Le S S2 ∧ ∃ (i : Nat) (q : Ce), m = cs.length - i ∧ i ≤ cs.length ∧ (i ≠ 0 → cs.length ≤ 400) ∧ q.ok S2 ∧ q.p = ⟨0, 0, 0, 0, sumV ((cs.take i).map (·.p))⟩ ∧ (∀ x ∈ cs.take i, PcP x.p) ∧
      L = [(bt, .cells q.vals.toArray 45 (0, 0)), (br, .cells q00.vals.toArray 45 (0, 0))] ∧
      F = [(0, .slice A cs.length c), (2, .pointer (some ⟨br, 0, none⟩)), (4, .pointer (some ⟨bt, 0, none⟩)), (7, .slice A cs.length c), (8, .int .i64 cs.length), (9, .int .i64 i)]) ⟨Le.refl _, 0, q00, rfl, by omega, fun h => absurd rfl h, q00_ok _, rfl, fun x hx => absurd hx List.not_mem_nil, rfl, rfl⟩ sbF (List.Sublist.refl _) ?_
  rintro m S2 L F ⟨hle, i, q, rfl, hi1, h400, hq, hqp, hall, rfl, rfl⟩
  by_cases hlt : i < cs.length
  rotate_left
  · obtain rfl : i = cs.length := by omega
    rw [List.take_length] at hqp hall
    have hcond : (cs.map (·.p) = [] ∨ (cs.map (·.p)).length ≤ 400) ∧ (∀ x ∈ cs.map (·.p), PcP x) := by
      refine ⟨?_, fun x hx => by obtain ⟨y, hy, rfl⟩ := List.mem_map.1 hx; exact hall y hy⟩
      by_cases h0 : cs.length = 0
      · left; rw [List.eq_nil_of_length_eq_zero h0]; rfl
      · right; rw [List.length_map]; exact h400 h0
    have hv := isValid_con q S2 hq
    have hx : q.p.x = sumV (cs.map (·.p)) := by rw [hqp]
    by_cases hval : CellP (sumV (cs.map (·.p)))
    · rw [hx, bP_t hval] at hv
      (repeat (first | refine Jc ?_ | (apply z_call; rfl; rfl; rfl; exact hv; rintro _ _ _ - ⟨rfl, rfl, rfl⟩) | refine Jo ?_ | intro _))
      exact o_ret_c2 (L' := []) (sz := 10) (cs := q.vals) Tryd.results26 rfl rfl (by repeat (first | exact List.Mem.head _ | refine List.Mem.tail _ ?_ | exact List.mem_append_right _ (List.Mem.head _))) rfl (List.nil_sublist _) ⟨rfl, q, 0, rfl, hq, .inl ⟨hcond.1, hcond.2, hval, hqp, rfl⟩⟩
    · rw [hx, bP_f hval] at hv
      (repeat (first | refine Jc ?_ | (apply z_call; rfl; rfl; rfl; exact hv; rintro _ _ _ - ⟨rfl, rfl, rfl⟩) | (apply s_evb; (case hg => rfl); (case hd => rfl); (case hn => rfl); (case he => (apply ev_buildS; (case hp => rfl); (case hz => rfl); (case h1 => rfl); (case hr => rfl)))) | refine Jo ?_ | intro _))
      exact o_ret_c2 (L' := []) (sz := 10) (cs := q00.vals) Tryd.results26 rfl rfl (by repeat (first | exact List.Mem.head _ | refine List.Mem.tail _ ?_ | exact List.mem_append_right _ (List.Mem.head _))) rfl (List.nil_sublist _) ⟨rfl, q00, 170, rfl, q00_ok _, .inr ⟨fun h => hval h.2.2, rfl, rfl⟩⟩
  obtain ⟨x, hx⟩ := at_lt' hlt
  have hxok := (hok x (List.mem_of_getElem? hx)).le hle
  have hxm : x.p ∈ cs.map (·.p) := List.mem_map_of_mem (List.mem_of_getElem? hx)
  by_cases h4 : cs.length ≤ 400
  rotate_left
  · (repeat (first | refine Jc ?_ | (apply s_idx (hA.le hle); (case hg => rfl); (case hd => rfl); (case hx => rfl); (case hi => rfl); (case hm => rfl); (case hu => exact hx); intro p hp) | (apply s_load_ag; (case hg => rfl); (case hd => rfl); (case hx => rfl); (case hv => exact hp); (case hl => rfl)) | (apply s_evb; (case hg => rfl); (case hd => rfl); (case hn => rfl); (case he => (apply ev_buildS; (case hp => rfl); (case hz => rfl); (case h1 => rfl); (case hr => rfl)))) | refine Jo ?_ | intro _))
    refine o_ret_c2 (L' := []) (sz := 10) (cs := q00.vals) Tryd.results26 rfl rfl (by repeat (first | exact List.Mem.head _ | refine List.Mem.tail _ ?_ | exact List.mem_append_right _ (List.Mem.head _))) rfl (List.nil_sublist _) ⟨rfl, q00, 170, rfl, q00_ok _, .inr ⟨fun h => ?_, rfl, rfl⟩⟩
    rcases h.1 with h | h
    · rw [h] at hxm; cases hxm
    · rw [List.length_map] at h; exact h4 h
  (repeat (first | refine Jc ?_ | (apply s_idx (hA.le hle); (case hg => rfl); (case hd => rfl); (case hx => rfl); (case hi => rfl); (case hm => rfl); (case hu => exact hx); intro p hp) | (apply s_load_ag; (case hg => rfl); (case hd => rfl); (case hx => rfl); (case hv => exact hp); (case hl => rfl)) | (apply s_evb; (case hg => rfl); (case hd => rfl); (case hn => rfl); (case he => (apply ev_buildS; (case hp => rfl); (case hz => rfl); (case h1 => rfl); (case hr => rfl)))) | refine Jo ?_ | intro _))
  rename_i bs bx
  have hone : ∀ S1, Le S2 S1 → S1 bx = some (.cells ([Value.agg x.vals.toArray].flatMap (·.cells.toList)).toArray 45 (0, 0)) → Con Tryd.prog 28 #[.agg #[.slice (some ⟨bx, 0, none⟩) 1 1]] S1 [] (Pure S1 (.bool (bP (ValidP [x.p])))) := fun S1 h1 hb => Valid_con [x] (some ⟨bx, 0, none⟩) 1 S1 (hG.le (hle.trans h1)) (at_lit hb) (fun q hq => by rw [List.mem_singleton.1 hq]; exact hxok.le h1) (by simp)
  apply s_call_q (φ := fun v => v = .bool (bP (ValidP [x.p]))); (case hg => rfl); (case hd => rfl); (case ha => rfl); (case hc => (intro S1 h1 hm1; exact hone S1 h1 (hm1 _ List.mem_cons_self))); (case hq => (rintro _ _ _ _ ⟨-, -, rfl⟩; rfl))
  rintro _ rfl
  by_cases hv : PcP x.p
  rotate_left
  · rw [bP_f fun h => hv ((valid_one _).1 h)]
    (repeat (first | refine Jc ?_ | (apply s_evb; (case hg => rfl); (case hd => rfl); (case hn => rfl); (case he => (apply ev_buildS; (case hp => rfl); (case hz => rfl); (case h1 => rfl); (case hr => rfl)))) | refine Jo ?_ | intro _))
    exact o_ret_c2 (L' := []) (sz := 10) (cs := q00.vals) Tryd.results26 rfl rfl (by repeat (first | exact List.Mem.head _ | refine List.Mem.tail _ ?_ | exact List.mem_append_right _ (List.Mem.head _))) rfl (List.nil_sublist _) ⟨rfl, q00, 170, rfl, q00_ok _, .inr ⟨fun h => hv (h.2.1 _ hxm), rfl, rfl⟩⟩
  rw [bP_t ((valid_one _).2 hv)]
  have hcb := combine_con plusW_con q x S2 hq hxok
  (repeat (first | refine Jc ?_ | (apply z_call; rfl; rfl; rfl; exact hcb; rintro S3 _ _ hle3 ⟨rfl, q', rfl, hq1, hq2⟩) | refine Jo ?_ | intro _))
  refine q_back (m' := cs.length - (i + 1)) ⟨hle.trans hle3, i + 1, q', rfl, by omega, fun _ => h4, hq2, ?_, ?_, rfl, rfl⟩ (by omega) sbF sbL
  · rw [hq1, hqp, take_at' hx, List.map_append]
    simp [sumV]
  · intro y hy
    rw [take_at' hx] at hy
    rcases List.mem_append.1 hy with hy | hy
    · exact hall y hy
    · rw [List.mem_singleton.1 hy]; exact hv
def rankF : Nat → List Int → Int → Int
  | _, [], _ => -1
  | k, n :: t, r => if r - n ≤ 0 then k else rankF (k + 1) t (r - n)
theorem rank_con (l : List Int) (A : Option Addr) (c : Nat) (r : Int) (S : SH) (hA : At S A l) (hl : l.length ≤ 1000000) (hr : -1000000000 ≤ r ∧ r ≤ 1000000000 + 1000) (hn : ∀ x ∈ l, 0 ≤ x ∧ x ≤ 1000000) :
    Con Tryd.prog 62 #[.slice A l.length c, .int .i64 r] S [] (Pure S (.int .i64 (rankF 0 l r))) := by
  refine con_of (args := [.slice A l.length c, .int .i64 r]) Tryd.func62 rfl Tryd.ntmps62 rfl fun w => ?_
  (repeat (first | refine Jz ?_ | intro _))
  refine c_loop (fun m S' L F => S' = S ∧ L = [] ∧ ∃ (k : Nat) (r' : Int), m = l.length - k ∧ k ≤ l.length ∧ -1000000000 ≤ r' ∧ r' ≤ 1000000000 + 1000 ∧ rankF 0 l r = rankF k (l.drop k) r' ∧ (k = 0 ∨ 0 < r') ∧
      F = [(1, .int .i64 r'), (7, .slice A l.length c), (8, .int .i64 l.length), (9, .int .i64 k)]) ⟨rfl, rfl, 0, r, rfl, by omega, hr.1, hr.2, rfl, .inl rfl, rfl⟩ sbF (List.Sublist.refl _) ?_
  rintro m S' L F ⟨rfl, rfl, k, r', rfl, hk1, hr1, hr2, heq, hpos, rfl⟩
  by_cases hlt : k < l.length
  rotate_left
  · (repeat (first | refine Jz ?_ | intro _))
    refine o_ret (L' := []) Tryd.results62 rfl (List.nil_sublist _) ?_
    rw [heq, List.drop_of_length_le (by omega)]
    exact ⟨rfl, rfl, rfl⟩
  obtain ⟨x, hx⟩ := at_lt' hlt
  have hx1 := hn x (List.mem_of_getElem? hx)
  rw [drop_at hx, rankF] at heq
  by_cases hle : r' - x ≤ 0
  · rw [if_pos hle] at heq
    (repeat (first | refine Jc ?_ | (apply s_idx hA; (case hg => rfl); (case hd => rfl); (case hx => rfl); (case hi => rfl); (case hm => rfl); (case hu => exact hx); intro p hp) | (apply s_load1; (case hg => rfl); (case hd => rfl); (case hx => rfl); (case hv => exact hp)) | refine Jo ?_ | intro _))
    refine o_ret (L' := []) Tryd.results62 rfl (List.nil_sublist _) ?_
    rw [heq]
    exact ⟨rfl, rfl, rfl⟩
  · rw [if_neg hle] at heq
    (repeat (first | refine Jc ?_ | (apply s_idx hA; (case hg => rfl); (case hd => rfl); (case hx => rfl); (case hi => rfl); (case hm => rfl); (case hu => exact hx); intro p hp) | (apply s_load1; (case hg => rfl); (case hd => rfl); (case hx => rfl); (case hv => exact hp)) | refine Jo ?_ | intro _))
    exact q_back (m' := l.length - (k + 1)) ⟨rfl, rfl, k + 1, r' - x, rfl, by omega, by omega, by omega, heq, .inr (by omega), rfl⟩ (by omega) sbF (List.Sublist.refl _)
def qrank (c : PC) (num den : Int) : Int := max 1 ((num * c.x.n + den - 1) / den)
def QuantP (c : PC) (num den lo hi e : Int) : Prop :=
  (PcP c ∧ 1 ≤ den ∧ den ≤ 1000 ∧ 0 ≤ num ∧ num ≤ den ∧ lo = eLo (rankF 0 c.x.ls (qrank c num den)) ∧ hi = eHi (rankF 0 c.x.hs (qrank c num den)) ∧ e = 0) ∨ (¬ (PcP c ∧ 1 ≤ den ∧ den ≤ 1000 ∧ 0 ≤ num ∧ num ≤ den) ∧ lo = 0 ∧ hi = 0 ∧ e = 170)
theorem Quantile_con (q : Ce) (num den : Int) (S : SH) (hG : Gl S) (hq : q.ok S) :
    Con Tryd.prog 31 #[.agg q.vals.toArray, .int .i64 num, .int .i64 den] S [] (fun S' L' r => S' = S ∧ L' = [] ∧ ∃ lo hi e : Int, r = .tuple #[.int .i64 lo, .int .i64 hi, .int .i64 e] ∧ QuantP q.p num den lo hi e) := by
  refine con_of (args := [.agg q.vals.toArray, .int .i64 num, .int .i64 den]) Tryd.func31 rfl Tryd.ntmps31 rfl fun w => ?_
  (repeat (first | refine Jc ?_ | (apply s_evb; (case hg => rfl); (case hd => rfl); (case hn => rfl); (case he => (apply ev_buildS; (case hp => rfl); (case hz => rfl); (case h1 => rfl); (case hr => rfl)))) | refine Jo ?_ | intro _))
  rename_i bq bx
  have hone : ∀ S1, Le S S1 → S1 bx = some (.cells ([Value.agg q.vals.toArray].flatMap (·.cells.toList)).toArray 45 (0, 0)) → Con Tryd.prog 28 #[.agg #[.slice (some ⟨bx, 0, none⟩) 1 1]] S1 [] (Pure S1 (.bool (bP (ValidP [q.p])))) := fun S1 h1 hb => Valid_con [q] (some ⟨bx, 0, none⟩) 1 S1 (hG.le h1) (at_lit hb) (fun x hx => by rw [List.mem_singleton.1 hx]; exact hq.le h1) (by simp)
  apply s_call_q (φ := fun v => v = .bool (bP (ValidP [q.p]))); (case hg => rfl); (case hd => rfl); (case ha => rfl); (case hc => (intro S1 h1 hm1; exact hone S1 h1 (hm1 _ List.mem_cons_self))); (case hq => (rintro _ _ _ _ ⟨-, -, rfl⟩; rfl))
  rintro _ rfl
  by_cases hv : PcP q.p
  rotate_left
  · rw [bP_f fun h => hv ((valid_one _).1 h)]
    (repeat (first | refine Jz ?_ | intro _))
    exact o_ret3 (L' := []) Tryd.results31 rfl rfl rfl (List.nil_sublist _) ⟨rfl, rfl, 0, 0, 170, rfl, .inr ⟨fun h => hv h.1, rfl, rfl, rfl⟩⟩
  rw [bP_t ((valid_one _).2 hv)]
  by_cases h_d1 : 1 ≤ den
  rotate_left
  · (repeat (first | refine Jz ?_ | intro _))
    exact o_ret3 (L' := []) Tryd.results31 rfl rfl rfl (List.nil_sublist _) ⟨rfl, rfl, 0, 0, 170, rfl, .inr ⟨fun h => h_d1 h.2.1, rfl, rfl, rfl⟩⟩
  by_cases h_d2 : den ≤ 1000
  rotate_left
  · (repeat (first | refine Jz ?_ | intro _))
    exact o_ret3 (L' := []) Tryd.results31 rfl rfl rfl (List.nil_sublist _) ⟨rfl, rfl, 0, 0, 170, rfl, .inr ⟨fun h => h_d2 h.2.2.1, rfl, rfl, rfl⟩⟩
  by_cases h_n1 : 0 ≤ num
  rotate_left
  · (repeat (first | refine Jz ?_ | intro _))
    exact o_ret3 (L' := []) Tryd.results31 rfl rfl rfl (List.nil_sublist _) ⟨rfl, rfl, 0, 0, 170, rfl, .inr ⟨fun h => h_n1 h.2.2.2.1, rfl, rfl, rfl⟩⟩
  by_cases h_n2 : num ≤ den
  rotate_left
  · (repeat (first | refine Jz ?_ | intro _))
    exact o_ret3 (L' := []) Tryd.results31 rfl rfl rfl (List.nil_sublist _) ⟨rfl, rfl, 0, 0, 170, rfl, .inr ⟨fun h => h_n2 h.2.2.2.2, rfl, rfl, rfl⟩⟩
  have hc := hv.cell
  have hlo := hc.lo.each
  have hhi := hc.hi.each
  have hn1 := hc.n1
  have hn2 := hc.n2
  obtain ⟨⟨qs, qv, qo, qd, ⟨qn, ql, qh, qb, qls, qhs⟩⟩, qla, qlc, qha, qhc⟩ := q
  obtain ⟨q1, q2, q3, q4, q5, q6⟩ := hq
  have m0 := Int.mul_nonneg h_n1 (show 0 ≤ qn by simp only at hn1; omega)
  have m1 : num * qn ≤ 1000 * 1000000 := Int.mul_le_mul (by omega) hn2 (by simp only at hn1; omega) (by decide)
  simp only at hn1 hn2 hlo hhi q1 q2 q3 q4 q5 q6
  have d0 : 0 ≤ (num * qn + den - 1) / den := Int.ediv_nonneg (by omega) (by omega)
  have d1 : (num * qn + den - 1) / den ≤ num * qn + den - 1 := Int.ediv_le_self _ (by omega)
  have hb : -1000000000 ≤ max 1 ((num * qn + den - 1) / den) ∧ max 1 ((num * qn + den - 1) / den) ≤ 1000000000 + 1000 := by
    generalize (num * qn + den - 1) / den = dd at d0 d1
    generalize num * qn = nq at *
    omega
  have r1 := rank_con qls qla qlc (max 1 ((num * qn + den - 1) / den)) S q1 (by omega) hb hlo
  have r2 := rank_con qhs qha qhc (max 1 ((num * qn + den - 1) / den)) S q2 (by omega) hb hhi
  unfold Ce.vals
  dsimp only
  (repeat (first | refine Jc ?_ | (apply z_call; rfl; rfl; rfl; exact r1; rintro _ _ _ - ⟨rfl, rfl, rfl⟩) | (apply z_call; rfl; rfl; rfl; exact r2; rintro _ _ _ - ⟨rfl, rfl, rfl⟩) | (apply z_call; rfl; rfl; rfl; exact Edges_con _ _; rintro _ _ _ - ⟨rfl, rfl, rfl⟩) | refine Jo ?_ | intro _))
  exact o_ret3 (L' := []) Tryd.results31 rfl rfl rfl (List.nil_sublist _) ⟨rfl, rfl, _, _, 0, rfl, .inl ⟨hv, h_d1, h_d2, h_n1, h_n2, rfl, rfl, rfl⟩⟩
end Go.Proofs.YtogfficbloejcaaDoor
