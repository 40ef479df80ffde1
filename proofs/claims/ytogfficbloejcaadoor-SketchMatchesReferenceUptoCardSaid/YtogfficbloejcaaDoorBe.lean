/- Contracts of functions of this program, each proved by a walk through its code, and plain lemmas on what they compute; on no condition beyond those that each theorem states. -/
import Derived.Test.YtogfficbloejcaaDoorBd
import Derived.Test.YtogfficbloejcaaDoorBb
import Derived.Test.YtogfficbloejcaaDoorBc
namespace Go.Proofs.YtogfficbloejcaaDoor
open Go Go.X
set_option maxRecDepth 10000
set_option linter.unusedVariables false
attribute [local irreducible] Code.wpIn wpListIn Exit.then Exit.inBlock X.Out X.Back X.W X.Ev X.Con X.BinV X.Wh X.Wn X.Wq
theorem VoidV_iff {x : Vec} (h1 : x.ls.length = 44) (h2 : x.hs.length = 44) : VoidV x ↔ x.n = 0 ∧ x.lo = 0 ∧ x.hi = 0 ∧ x.by_ = 0 ∧ x.ls = List.replicate 44 0 ∧ x.hs = List.replicate 44 0 := by
  have hz : ∀ {l : List Int}, l.length = 44 → ((∀ e ∈ l, e = 0) ↔ l = List.replicate 44 0) := fun {l} h => ⟨fun k => List.eq_replicate_iff.2 ⟨h, k⟩, fun k e he => (List.eq_replicate_iff.1 k).2 e he⟩
  constructor
  · rintro ⟨a, b, c, d, r⟩
    have r2 : ∀ e ∈ x.ls ++ x.hs, e = 0 := fun e he => Classical.not_not.1 fun hne => r ⟨e, he, hne⟩
    exact ⟨a, b, c, d, (hz h1).1 fun e he => r2 e (List.mem_append_left _ he), (hz h2).1 fun e he => r2 e (List.mem_append_right _ he)⟩
  · rintro ⟨a, b, c, d, e, f⟩
    refine ⟨a, b, c, d, ?_⟩
    rintro ⟨y, hy, hne⟩
    rcases List.mem_append.1 hy with hy | hy
    · exact hne ((hz h1).2 e y hy)
    · exact hne ((hz h2).2 f y hy)
theorem rVoid_con (q : Ce) (S : SH) (hq : q.ok S) (hr : R44 q.p) : Con Tryd.prog 83 #[.agg q.vals.toArray] S [] (fun S' L' r => L' = [] ∧ r = .bool (bP (VoidV q.p.x))) := by
  refine con_of (args := [.agg q.vals.toArray]) Tryd.func83 rfl Tryd.ntmps83 rfl fun w => ?_
  have hiff := VoidV_iff hr.1 hr.2
  obtain ⟨⟨a0, a1, a2, a3, ⟨an, al, ah, ab, als, ahs⟩⟩, pla, plc, pha, phc⟩ := q
  obtain ⟨q1, q2, q3, q4, q5, q6⟩ := hq
  obtain ⟨r1, r2⟩ := hr
  dsimp only at *
  unfold Ce.vals
  dsimp only
  have hzl : (List.replicate 44 (0 : Int)).length = 44 := by simp
  have hzc : cellsOf (List.replicate 44 (0 : Int)) = List.replicate 44 (Value.int .i64 0) := by rw [cells_int]; simp
  have hz : ∀ {S2 : SH} {b : Nat}, S2 b = some (.cells (List.replicate 44 (Value.int .i64 0)).toArray 3 (0, 0)) → At S2 (some ⟨b, 0, none⟩) (List.replicate 44 (0 : Int)) := fun h => at_litB h (by rw [hzc])
  have ic := fun (S2 : SH) (b : Nat) (l : List Int) (A : Option Addr) (c : Nat) (hA : At S2 A l) (hl : l.length = 44) (hB : At S2 (some ⟨b, 0, none⟩) (List.replicate 44 (0 : Int))) => rints_con l (List.replicate 44 0) A (some ⟨b, 0, none⟩) c 44 S2 hA hB (by omega) (by simp)
  simp only [hzl] at ic
  (repeat (first | refine Jz ?_ | intro _))
  rename_i b1
  refine c_meet (fun S2 L2 F2 => L2 = [(b1, .cells [.int .i64 a0, .int .i64 a1, .int .i64 a2, .int .i64 a3, .int .i64 an, .int .i64 al, .int .i64 ah, .int .i64 ab, .slice pla als.length plc, .slice pha ahs.length phc].toArray 45 (0, 0))] ∧ F2 = [(2, .bool (bP (VoidV ⟨an, al, ah, ab, als, ahs⟩)))]) ?_ ?_
  rotate_left
  · rintro S2 L2 F2 ⟨rfl, rfl⟩
    (repeat (first | refine Jz ?_ | intro _))
    exact o_ret (L' := []) Tryd.results83 rfl (List.nil_sublist _) ⟨rfl, rfl⟩
  by_cases g1 : an = 0
  rotate_left
  · rw [bP_f (fun h => g1 (hiff.1 h).1)]
    ((apply c_held ([(b1, .cells [.int .i64 a0, .int .i64 a1, .int .i64 a2, .int .i64 a3, .int .i64 an, .int .i64 al, .int .i64 ah, .int .i64 ab, .slice pla als.length plc, .slice pha ahs.length phc].toArray 45 (0, 0))]); (case hL => (exact sbT))); refine Jf 0 ?_; refine Jf 1 ?_; refine Jf 2 ?_; refine Jf 3 ?_; refine Jf 4 ?_; refine Jf 5 ?_; refine Jf 6 ?_; refine Jf 7 ?_; refine Jf 8 ?_; refine Jf 9 ?_; refine Jf 10 ?_; refine Jf 11 ?_; refine Jf 12 ?_; refine Jf 13 ?_; refine Jf 14 ?_; refine Jf 15 ?_; refine Jf 16 ?_; refine Jf 17 ?_; refine Jf 18 ?_; refine Jf 19 ?_; refine Jf 20 ?_; (apply h_one 21; (case hr => kernel_rfl)); (first | (apply n_make1 (m := 44); (case hi => rfl); (case i1 => infer_instance); (case i2 => infer_instance); (case i3 => infer_instance); (case i4 => infer_instance); (case hg => rfl); (case hd => rfl); (case hx => rfl); (case hy => rfl); (case hzc => rfl); (case hb => decide); (case h63 => decide); intro bm; refine Wh.freeze sbL fun S9 hle9 hb9 => ?_) | (apply n_call; (case hi => rfl); (case i1 => infer_instance); (case hg => rfl); (case hd => rfl); (case ha => rfl); (case hc => exact i1 _ _ (q1.le hle9) (hz hb9)); (case hL => (exact pmT)); (case hsub => (intros; (exact sbT))); rintro _ _ _ - ⟨rfl, rfl, rfl⟩) | (apply n_call; (case hi => rfl); (case i1 => infer_instance); (case hg => rfl); (case hd => rfl); (case ha => rfl); (case hc => exact i2 _ _ ((q2.le (by assumption)).le hle9) (hz hb9)); (case hL => (exact pmT)); (case hsub => (intros; (exact sbT))); rintro _ _ _ - ⟨rfl, rfl, rfl⟩) | (refine Jn ?_; try intro _)); (apply h_one 22; (case hr => kernel_rfl)); (first | (apply n_make1 (m := 44); (case hi => rfl); (case i1 => infer_instance); (case i2 => infer_instance); (case i3 => infer_instance); (case i4 => infer_instance); (case hg => rfl); (case hd => rfl); (case hx => rfl); (case hy => rfl); (case hzc => rfl); (case hb => decide); (case h63 => decide); intro bm; refine Wh.freeze sbL fun S9 hle9 hb9 => ?_) | (apply n_call; (case hi => rfl); (case i1 => infer_instance); (case hg => rfl); (case hd => rfl); (case ha => rfl); (case hc => exact i1 _ _ (q1.le hle9) (hz hb9)); (case hL => (exact pmT)); (case hsub => (intros; (exact sbT))); rintro _ _ _ - ⟨rfl, rfl, rfl⟩) | (apply n_call; (case hi => rfl); (case i1 => infer_instance); (case hg => rfl); (case hd => rfl); (case ha => rfl); (case hc => exact i2 _ _ ((q2.le (by assumption)).le hle9) (hz hb9)); (case hL => (exact pmT)); (case hsub => (intros; (exact sbT))); rintro _ _ _ - ⟨rfl, rfl, rfl⟩) | (refine Jn ?_; try intro _)); refine Jf 23 ?_; refine Jf 24 ?_; refine Jf 25 ?_; refine Jf 26 ?_; (apply h_one 27; (case hr => kernel_rfl)); (first | (apply n_make1 (m := 44); (case hi => rfl); (case i1 => infer_instance); (case i2 => infer_instance); (case i3 => infer_instance); (case i4 => infer_instance); (case hg => rfl); (case hd => rfl); (case hx => rfl); (case hy => rfl); (case hzc => rfl); (case hb => decide); (case h63 => decide); intro bm; refine Wh.freeze sbL fun S9 hle9 hb9 => ?_) | (apply n_call; (case hi => rfl); (case i1 => infer_instance); (case hg => rfl); (case hd => rfl); (case ha => rfl); (case hc => exact i1 _ _ (q1.le hle9) (hz hb9)); (case hL => (exact pmT)); (case hsub => (intros; (exact sbT))); rintro _ _ _ - ⟨rfl, rfl, rfl⟩) | (apply n_call; (case hi => rfl); (case i1 => infer_instance); (case hg => rfl); (case hd => rfl); (case ha => rfl); (case hc => exact i2 _ _ ((q2.le (by assumption)).le hle9) (hz hb9)); (case hL => (exact pmT)); (case hsub => (intros; (exact sbT))); rintro _ _ _ - ⟨rfl, rfl, rfl⟩) | (refine Jn ?_; try intro _)); (apply h_one 28; (case hr => kernel_rfl)); (first | (apply n_make1 (m := 44); (case hi => rfl); (case i1 => infer_instance); (case i2 => infer_instance); (case i3 => infer_instance); (case i4 => infer_instance); (case hg => rfl); (case hd => rfl); (case hx => rfl); (case hy => rfl); (case hzc => rfl); (case hb => decide); (case h63 => decide); intro bm; refine Wh.freeze sbL fun S9 hle9 hb9 => ?_) | (apply n_call; (case hi => rfl); (case i1 => infer_instance); (case hg => rfl); (case hd => rfl); (case ha => rfl); (case hc => exact i1 _ _ (q1.le hle9) (hz hb9)); (case hL => (exact pmT)); (case hsub => (intros; (exact sbT))); rintro _ _ _ - ⟨rfl, rfl, rfl⟩) | (apply n_call; (case hi => rfl); (case i1 => infer_instance); (case hg => rfl); (case hd => rfl); (case ha => rfl); (case hc => exact i2 _ _ ((q2.le (by assumption)).le hle9) (hz hb9)); (case hL => (exact pmT)); (case hsub => (intros; (exact sbT))); rintro _ _ _ - ⟨rfl, rfl, rfl⟩) | (refine Jn ?_; try intro _)); refine Jf 29 ?_; refine Jf 30 ?_; (apply h_end; (case hr => kernel_rfl)); (apply q_then; exact q_cut ⟨rfl, rfl⟩ sbF sbL))
  by_cases g2 : al = 0
  rotate_left
  · rw [bP_f (fun h => g2 (hiff.1 h).2.1)]
    ((apply c_held ([(b1, .cells [.int .i64 a0, .int .i64 a1, .int .i64 a2, .int .i64 a3, .int .i64 an, .int .i64 al, .int .i64 ah, .int .i64 ab, .slice pla als.length plc, .slice pha ahs.length phc].toArray 45 (0, 0))]); (case hL => (exact sbT))); refine Jf 0 ?_; refine Jf 1 ?_; refine Jf 2 ?_; refine Jf 3 ?_; refine Jf 4 ?_; refine Jf 5 ?_; refine Jf 6 ?_; refine Jf 7 ?_; refine Jf 8 ?_; refine Jf 9 ?_; refine Jf 10 ?_; refine Jf 11 ?_; refine Jf 12 ?_; refine Jf 13 ?_; refine Jf 14 ?_; refine Jf 15 ?_; refine Jf 16 ?_; refine Jf 17 ?_; refine Jf 18 ?_; refine Jf 19 ?_; refine Jf 20 ?_; (apply h_one 21; (case hr => kernel_rfl)); (first | (apply n_make1 (m := 44); (case hi => rfl); (case i1 => infer_instance); (case i2 => infer_instance); (case i3 => infer_instance); (case i4 => infer_instance); (case hg => rfl); (case hd => rfl); (case hx => rfl); (case hy => rfl); (case hzc => rfl); (case hb => decide); (case h63 => decide); intro bm; refine Wh.freeze sbL fun S9 hle9 hb9 => ?_) | (apply n_call; (case hi => rfl); (case i1 => infer_instance); (case hg => rfl); (case hd => rfl); (case ha => rfl); (case hc => exact i1 _ _ (q1.le hle9) (hz hb9)); (case hL => (exact pmT)); (case hsub => (intros; (exact sbT))); rintro _ _ _ - ⟨rfl, rfl, rfl⟩) | (apply n_call; (case hi => rfl); (case i1 => infer_instance); (case hg => rfl); (case hd => rfl); (case ha => rfl); (case hc => exact i2 _ _ ((q2.le (by assumption)).le hle9) (hz hb9)); (case hL => (exact pmT)); (case hsub => (intros; (exact sbT))); rintro _ _ _ - ⟨rfl, rfl, rfl⟩) | (refine Jn ?_; try intro _)); (apply h_one 22; (case hr => kernel_rfl)); (first | (apply n_make1 (m := 44); (case hi => rfl); (case i1 => infer_instance); (case i2 => infer_instance); (case i3 => infer_instance); (case i4 => infer_instance); (case hg => rfl); (case hd => rfl); (case hx => rfl); (case hy => rfl); (case hzc => rfl); (case hb => decide); (case h63 => decide); intro bm; refine Wh.freeze sbL fun S9 hle9 hb9 => ?_) | (apply n_call; (case hi => rfl); (case i1 => infer_instance); (case hg => rfl); (case hd => rfl); (case ha => rfl); (case hc => exact i1 _ _ (q1.le hle9) (hz hb9)); (case hL => (exact pmT)); (case hsub => (intros; (exact sbT))); rintro _ _ _ - ⟨rfl, rfl, rfl⟩) | (apply n_call; (case hi => rfl); (case i1 => infer_instance); (case hg => rfl); (case hd => rfl); (case ha => rfl); (case hc => exact i2 _ _ ((q2.le (by assumption)).le hle9) (hz hb9)); (case hL => (exact pmT)); (case hsub => (intros; (exact sbT))); rintro _ _ _ - ⟨rfl, rfl, rfl⟩) | (refine Jn ?_; try intro _)); refine Jf 23 ?_; refine Jf 24 ?_; refine Jf 25 ?_; refine Jf 26 ?_; (apply h_one 27; (case hr => kernel_rfl)); (first | (apply n_make1 (m := 44); (case hi => rfl); (case i1 => infer_instance); (case i2 => infer_instance); (case i3 => infer_instance); (case i4 => infer_instance); (case hg => rfl); (case hd => rfl); (case hx => rfl); (case hy => rfl); (case hzc => rfl); (case hb => decide); (case h63 => decide); intro bm; refine Wh.freeze sbL fun S9 hle9 hb9 => ?_) | (apply n_call; (case hi => rfl); (case i1 => infer_instance); (case hg => rfl); (case hd => rfl); (case ha => rfl); (case hc => exact i1 _ _ (q1.le hle9) (hz hb9)); (case hL => (exact pmT)); (case hsub => (intros; (exact sbT))); rintro _ _ _ - ⟨rfl, rfl, rfl⟩) | (apply n_call; (case hi => rfl); (case i1 => infer_instance); (case hg => rfl); (case hd => rfl); (case ha => rfl); (case hc => exact i2 _ _ ((q2.le (by assumption)).le hle9) (hz hb9)); (case hL => (exact pmT)); (case hsub => (intros; (exact sbT))); rintro _ _ _ - ⟨rfl, rfl, rfl⟩) | (refine Jn ?_; try intro _)); (apply h_one 28; (case hr => kernel_rfl)); (first | (apply n_make1 (m := 44); (case hi => rfl); (case i1 => infer_instance); (case i2 => infer_instance); (case i3 => infer_instance); (case i4 => infer_instance); (case hg => rfl); (case hd => rfl); (case hx => rfl); (case hy => rfl); (case hzc => rfl); (case hb => decide); (case h63 => decide); intro bm; refine Wh.freeze sbL fun S9 hle9 hb9 => ?_) | (apply n_call; (case hi => rfl); (case i1 => infer_instance); (case hg => rfl); (case hd => rfl); (case ha => rfl); (case hc => exact i1 _ _ (q1.le hle9) (hz hb9)); (case hL => (exact pmT)); (case hsub => (intros; (exact sbT))); rintro _ _ _ - ⟨rfl, rfl, rfl⟩) | (apply n_call; (case hi => rfl); (case i1 => infer_instance); (case hg => rfl); (case hd => rfl); (case ha => rfl); (case hc => exact i2 _ _ ((q2.le (by assumption)).le hle9) (hz hb9)); (case hL => (exact pmT)); (case hsub => (intros; (exact sbT))); rintro _ _ _ - ⟨rfl, rfl, rfl⟩) | (refine Jn ?_; try intro _)); refine Jf 29 ?_; refine Jf 30 ?_; (apply h_end; (case hr => kernel_rfl)); (apply q_then; exact q_cut ⟨rfl, rfl⟩ sbF sbL))
  by_cases g3 : ah = 0
  rotate_left
  · rw [bP_f (fun h => g3 (hiff.1 h).2.2.1)]
    ((apply c_held ([(b1, .cells [.int .i64 a0, .int .i64 a1, .int .i64 a2, .int .i64 a3, .int .i64 an, .int .i64 al, .int .i64 ah, .int .i64 ab, .slice pla als.length plc, .slice pha ahs.length phc].toArray 45 (0, 0))]); (case hL => (exact sbT))); refine Jf 0 ?_; refine Jf 1 ?_; refine Jf 2 ?_; refine Jf 3 ?_; refine Jf 4 ?_; refine Jf 5 ?_; refine Jf 6 ?_; refine Jf 7 ?_; refine Jf 8 ?_; refine Jf 9 ?_; refine Jf 10 ?_; refine Jf 11 ?_; refine Jf 12 ?_; refine Jf 13 ?_; refine Jf 14 ?_; refine Jf 15 ?_; refine Jf 16 ?_; refine Jf 17 ?_; refine Jf 18 ?_; refine Jf 19 ?_; refine Jf 20 ?_; (apply h_one 21; (case hr => kernel_rfl)); (first | (apply n_make1 (m := 44); (case hi => rfl); (case i1 => infer_instance); (case i2 => infer_instance); (case i3 => infer_instance); (case i4 => infer_instance); (case hg => rfl); (case hd => rfl); (case hx => rfl); (case hy => rfl); (case hzc => rfl); (case hb => decide); (case h63 => decide); intro bm; refine Wh.freeze sbL fun S9 hle9 hb9 => ?_) | (apply n_call; (case hi => rfl); (case i1 => infer_instance); (case hg => rfl); (case hd => rfl); (case ha => rfl); (case hc => exact i1 _ _ (q1.le hle9) (hz hb9)); (case hL => (exact pmT)); (case hsub => (intros; (exact sbT))); rintro _ _ _ - ⟨rfl, rfl, rfl⟩) | (apply n_call; (case hi => rfl); (case i1 => infer_instance); (case hg => rfl); (case hd => rfl); (case ha => rfl); (case hc => exact i2 _ _ ((q2.le (by assumption)).le hle9) (hz hb9)); (case hL => (exact pmT)); (case hsub => (intros; (exact sbT))); rintro _ _ _ - ⟨rfl, rfl, rfl⟩) | (refine Jn ?_; try intro _)); (apply h_one 22; (case hr => kernel_rfl)); (first | (apply n_make1 (m := 44); (case hi => rfl); (case i1 => infer_instance); (case i2 => infer_instance); (case i3 => infer_instance); (case i4 => infer_instance); (case hg => rfl); (case hd => rfl); (case hx => rfl); (case hy => rfl); (case hzc => rfl); (case hb => decide); (case h63 => decide); intro bm; refine Wh.freeze sbL fun S9 hle9 hb9 => ?_) | (apply n_call; (case hi => rfl); (case i1 => infer_instance); (case hg => rfl); (case hd => rfl); (case ha => rfl); (case hc => exact i1 _ _ (q1.le hle9) (hz hb9)); (case hL => (exact pmT)); (case hsub => (intros; (exact sbT))); rintro _ _ _ - ⟨rfl, rfl, rfl⟩) | (apply n_call; (case hi => rfl); (case i1 => infer_instance); (case hg => rfl); (case hd => rfl); (case ha => rfl); (case hc => exact i2 _ _ ((q2.le (by assumption)).le hle9) (hz hb9)); (case hL => (exact pmT)); (case hsub => (intros; (exact sbT))); rintro _ _ _ - ⟨rfl, rfl, rfl⟩) | (refine Jn ?_; try intro _)); refine Jf 23 ?_; refine Jf 24 ?_; refine Jf 25 ?_; refine Jf 26 ?_; (apply h_one 27; (case hr => kernel_rfl)); (first | (apply n_make1 (m := 44); (case hi => rfl); (case i1 => infer_instance); (case i2 => infer_instance); (case i3 => infer_instance); (case i4 => infer_instance); (case hg => rfl); (case hd => rfl); (case hx => rfl); (case hy => rfl); (case hzc => rfl); (case hb => decide); (case h63 => decide); intro bm; refine Wh.freeze sbL fun S9 hle9 hb9 => ?_) | (apply n_call; (case hi => rfl); (case i1 => infer_instance); (case hg => rfl); (case hd => rfl); (case ha => rfl); (case hc => exact i1 _ _ (q1.le hle9) (hz hb9)); (case hL => (exact pmT)); (case hsub => (intros; (exact sbT))); rintro _ _ _ - ⟨rfl, rfl, rfl⟩) | (apply n_call; (case hi => rfl); (case i1 => infer_instance); (case hg => rfl); (case hd => rfl); (case ha => rfl); (case hc => exact i2 _ _ ((q2.le (by assumption)).le hle9) (hz hb9)); (case hL => (exact pmT)); (case hsub => (intros; (exact sbT))); rintro _ _ _ - ⟨rfl, rfl, rfl⟩) | (refine Jn ?_; try intro _)); (apply h_one 28; (case hr => kernel_rfl)); (first | (apply n_make1 (m := 44); (case hi => rfl); (case i1 => infer_instance); (case i2 => infer_instance); (case i3 => infer_instance); (case i4 => infer_instance); (case hg => rfl); (case hd => rfl); (case hx => rfl); (case hy => rfl); (case hzc => rfl); (case hb => decide); (case h63 => decide); intro bm; refine Wh.freeze sbL fun S9 hle9 hb9 => ?_) | (apply n_call; (case hi => rfl); (case i1 => infer_instance); (case hg => rfl); (case hd => rfl); (case ha => rfl); (case hc => exact i1 _ _ (q1.le hle9) (hz hb9)); (case hL => (exact pmT)); (case hsub => (intros; (exact sbT))); rintro _ _ _ - ⟨rfl, rfl, rfl⟩) | (apply n_call; (case hi => rfl); (case i1 => infer_instance); (case hg => rfl); (case hd => rfl); (case ha => rfl); (case hc => exact i2 _ _ ((q2.le (by assumption)).le hle9) (hz hb9)); (case hL => (exact pmT)); (case hsub => (intros; (exact sbT))); rintro _ _ _ - ⟨rfl, rfl, rfl⟩) | (refine Jn ?_; try intro _)); refine Jf 29 ?_; refine Jf 30 ?_; (apply h_end; (case hr => kernel_rfl)); (apply q_then; exact q_cut ⟨rfl, rfl⟩ sbF sbL))
  by_cases g4 : ab = 0
  rotate_left
  · rw [bP_f (fun h => g4 (hiff.1 h).2.2.2.1)]
    ((apply c_held ([(b1, .cells [.int .i64 a0, .int .i64 a1, .int .i64 a2, .int .i64 a3, .int .i64 an, .int .i64 al, .int .i64 ah, .int .i64 ab, .slice pla als.length plc, .slice pha ahs.length phc].toArray 45 (0, 0))]); (case hL => (exact sbT))); refine Jf 0 ?_; refine Jf 1 ?_; refine Jf 2 ?_; refine Jf 3 ?_; refine Jf 4 ?_; refine Jf 5 ?_; refine Jf 6 ?_; refine Jf 7 ?_; refine Jf 8 ?_; refine Jf 9 ?_; refine Jf 10 ?_; refine Jf 11 ?_; refine Jf 12 ?_; refine Jf 13 ?_; refine Jf 14 ?_; refine Jf 15 ?_; refine Jf 16 ?_; refine Jf 17 ?_; refine Jf 18 ?_; refine Jf 19 ?_; refine Jf 20 ?_; (apply h_one 21; (case hr => kernel_rfl)); (first | (apply n_make1 (m := 44); (case hi => rfl); (case i1 => infer_instance); (case i2 => infer_instance); (case i3 => infer_instance); (case i4 => infer_instance); (case hg => rfl); (case hd => rfl); (case hx => rfl); (case hy => rfl); (case hzc => rfl); (case hb => decide); (case h63 => decide); intro bm; refine Wh.freeze sbL fun S9 hle9 hb9 => ?_) | (apply n_call; (case hi => rfl); (case i1 => infer_instance); (case hg => rfl); (case hd => rfl); (case ha => rfl); (case hc => exact i1 _ _ (q1.le hle9) (hz hb9)); (case hL => (exact pmT)); (case hsub => (intros; (exact sbT))); rintro _ _ _ - ⟨rfl, rfl, rfl⟩) | (apply n_call; (case hi => rfl); (case i1 => infer_instance); (case hg => rfl); (case hd => rfl); (case ha => rfl); (case hc => exact i2 _ _ ((q2.le (by assumption)).le hle9) (hz hb9)); (case hL => (exact pmT)); (case hsub => (intros; (exact sbT))); rintro _ _ _ - ⟨rfl, rfl, rfl⟩) | (refine Jn ?_; try intro _)); (apply h_one 22; (case hr => kernel_rfl)); (first | (apply n_make1 (m := 44); (case hi => rfl); (case i1 => infer_instance); (case i2 => infer_instance); (case i3 => infer_instance); (case i4 => infer_instance); (case hg => rfl); (case hd => rfl); (case hx => rfl); (case hy => rfl); (case hzc => rfl); (case hb => decide); (case h63 => decide); intro bm; refine Wh.freeze sbL fun S9 hle9 hb9 => ?_) | (apply n_call; (case hi => rfl); (case i1 => infer_instance); (case hg => rfl); (case hd => rfl); (case ha => rfl); (case hc => exact i1 _ _ (q1.le hle9) (hz hb9)); (case hL => (exact pmT)); (case hsub => (intros; (exact sbT))); rintro _ _ _ - ⟨rfl, rfl, rfl⟩) | (apply n_call; (case hi => rfl); (case i1 => infer_instance); (case hg => rfl); (case hd => rfl); (case ha => rfl); (case hc => exact i2 _ _ ((q2.le (by assumption)).le hle9) (hz hb9)); (case hL => (exact pmT)); (case hsub => (intros; (exact sbT))); rintro _ _ _ - ⟨rfl, rfl, rfl⟩) | (refine Jn ?_; try intro _)); refine Jf 23 ?_; refine Jf 24 ?_; refine Jf 25 ?_; refine Jf 26 ?_; (apply h_one 27; (case hr => kernel_rfl)); (first | (apply n_make1 (m := 44); (case hi => rfl); (case i1 => infer_instance); (case i2 => infer_instance); (case i3 => infer_instance); (case i4 => infer_instance); (case hg => rfl); (case hd => rfl); (case hx => rfl); (case hy => rfl); (case hzc => rfl); (case hb => decide); (case h63 => decide); intro bm; refine Wh.freeze sbL fun S9 hle9 hb9 => ?_) | (apply n_call; (case hi => rfl); (case i1 => infer_instance); (case hg => rfl); (case hd => rfl); (case ha => rfl); (case hc => exact i1 _ _ (q1.le hle9) (hz hb9)); (case hL => (exact pmT)); (case hsub => (intros; (exact sbT))); rintro _ _ _ - ⟨rfl, rfl, rfl⟩) | (apply n_call; (case hi => rfl); (case i1 => infer_instance); (case hg => rfl); (case hd => rfl); (case ha => rfl); (case hc => exact i2 _ _ ((q2.le (by assumption)).le hle9) (hz hb9)); (case hL => (exact pmT)); (case hsub => (intros; (exact sbT))); rintro _ _ _ - ⟨rfl, rfl, rfl⟩) | (refine Jn ?_; try intro _)); (apply h_one 28; (case hr => kernel_rfl)); (first | (apply n_make1 (m := 44); (case hi => rfl); (case i1 => infer_instance); (case i2 => infer_instance); (case i3 => infer_instance); (case i4 => infer_instance); (case hg => rfl); (case hd => rfl); (case hx => rfl); (case hy => rfl); (case hzc => rfl); (case hb => decide); (case h63 => decide); intro bm; refine Wh.freeze sbL fun S9 hle9 hb9 => ?_) | (apply n_call; (case hi => rfl); (case i1 => infer_instance); (case hg => rfl); (case hd => rfl); (case ha => rfl); (case hc => exact i1 _ _ (q1.le hle9) (hz hb9)); (case hL => (exact pmT)); (case hsub => (intros; (exact sbT))); rintro _ _ _ - ⟨rfl, rfl, rfl⟩) | (apply n_call; (case hi => rfl); (case i1 => infer_instance); (case hg => rfl); (case hd => rfl); (case ha => rfl); (case hc => exact i2 _ _ ((q2.le (by assumption)).le hle9) (hz hb9)); (case hL => (exact pmT)); (case hsub => (intros; (exact sbT))); rintro _ _ _ - ⟨rfl, rfl, rfl⟩) | (refine Jn ?_; try intro _)); refine Jf 29 ?_; refine Jf 30 ?_; (apply h_end; (case hr => kernel_rfl)); (apply q_then; exact q_cut ⟨rfl, rfl⟩ sbF sbL))
  by_cases g5 : als = List.replicate 44 0
  rotate_left
  · rw [bP_f (fun h => g5 (hiff.1 h).2.2.2.2.1)]
    have i1 := fun S2 b hA hB => ic S2 b als pla plc hA r1 hB
    simp only [bP_f g5] at i1
    ((apply c_held ([(b1, .cells [.int .i64 a0, .int .i64 a1, .int .i64 a2, .int .i64 a3, .int .i64 an, .int .i64 al, .int .i64 ah, .int .i64 ab, .slice pla als.length plc, .slice pha ahs.length phc].toArray 45 (0, 0))]); (case hL => (exact sbT))); refine Jf 0 ?_; refine Jf 1 ?_; refine Jf 2 ?_; refine Jf 3 ?_; refine Jf 4 ?_; refine Jf 5 ?_; refine Jf 6 ?_; refine Jf 7 ?_; refine Jf 8 ?_; refine Jf 9 ?_; refine Jf 10 ?_; refine Jf 11 ?_; refine Jf 12 ?_; refine Jf 13 ?_; refine Jf 14 ?_; refine Jf 15 ?_; refine Jf 16 ?_; refine Jf 17 ?_; refine Jf 18 ?_; refine Jf 19 ?_; refine Jf 20 ?_; (apply h_one 21; (case hr => kernel_rfl)); (first | (apply n_make1 (m := 44); (case hi => rfl); (case i1 => infer_instance); (case i2 => infer_instance); (case i3 => infer_instance); (case i4 => infer_instance); (case hg => rfl); (case hd => rfl); (case hx => rfl); (case hy => rfl); (case hzc => rfl); (case hb => decide); (case h63 => decide); intro bm; refine Wh.freeze sbL fun S9 hle9 hb9 => ?_) | (apply n_call; (case hi => rfl); (case i1 => infer_instance); (case hg => rfl); (case hd => rfl); (case ha => rfl); (case hc => exact i1 _ _ (q1.le hle9) (hz hb9)); (case hL => (exact pmT)); (case hsub => (intros; (exact sbT))); rintro _ _ _ - ⟨rfl, rfl, rfl⟩) | (apply n_call; (case hi => rfl); (case i1 => infer_instance); (case hg => rfl); (case hd => rfl); (case ha => rfl); (case hc => exact i2 _ _ ((q2.le (by assumption)).le hle9) (hz hb9)); (case hL => (exact pmT)); (case hsub => (intros; (exact sbT))); rintro _ _ _ - ⟨rfl, rfl, rfl⟩) | (refine Jn ?_; try intro _)); (apply h_one 22; (case hr => kernel_rfl)); (first | (apply n_make1 (m := 44); (case hi => rfl); (case i1 => infer_instance); (case i2 => infer_instance); (case i3 => infer_instance); (case i4 => infer_instance); (case hg => rfl); (case hd => rfl); (case hx => rfl); (case hy => rfl); (case hzc => rfl); (case hb => decide); (case h63 => decide); intro bm; refine Wh.freeze sbL fun S9 hle9 hb9 => ?_) | (apply n_call; (case hi => rfl); (case i1 => infer_instance); (case hg => rfl); (case hd => rfl); (case ha => rfl); (case hc => exact i1 _ _ (q1.le hle9) (hz hb9)); (case hL => (exact pmT)); (case hsub => (intros; (exact sbT))); rintro _ _ _ - ⟨rfl, rfl, rfl⟩) | (apply n_call; (case hi => rfl); (case i1 => infer_instance); (case hg => rfl); (case hd => rfl); (case ha => rfl); (case hc => exact i2 _ _ ((q2.le (by assumption)).le hle9) (hz hb9)); (case hL => (exact pmT)); (case hsub => (intros; (exact sbT))); rintro _ _ _ - ⟨rfl, rfl, rfl⟩) | (refine Jn ?_; try intro _)); refine Jf 23 ?_; refine Jf 24 ?_; refine Jf 25 ?_; refine Jf 26 ?_; (apply h_one 27; (case hr => kernel_rfl)); (first | (apply n_make1 (m := 44); (case hi => rfl); (case i1 => infer_instance); (case i2 => infer_instance); (case i3 => infer_instance); (case i4 => infer_instance); (case hg => rfl); (case hd => rfl); (case hx => rfl); (case hy => rfl); (case hzc => rfl); (case hb => decide); (case h63 => decide); intro bm; refine Wh.freeze sbL fun S9 hle9 hb9 => ?_) | (apply n_call; (case hi => rfl); (case i1 => infer_instance); (case hg => rfl); (case hd => rfl); (case ha => rfl); (case hc => exact i1 _ _ (q1.le hle9) (hz hb9)); (case hL => (exact pmT)); (case hsub => (intros; (exact sbT))); rintro _ _ _ - ⟨rfl, rfl, rfl⟩) | (apply n_call; (case hi => rfl); (case i1 => infer_instance); (case hg => rfl); (case hd => rfl); (case ha => rfl); (case hc => exact i2 _ _ ((q2.le (by assumption)).le hle9) (hz hb9)); (case hL => (exact pmT)); (case hsub => (intros; (exact sbT))); rintro _ _ _ - ⟨rfl, rfl, rfl⟩) | (refine Jn ?_; try intro _)); (apply h_one 28; (case hr => kernel_rfl)); (first | (apply n_make1 (m := 44); (case hi => rfl); (case i1 => infer_instance); (case i2 => infer_instance); (case i3 => infer_instance); (case i4 => infer_instance); (case hg => rfl); (case hd => rfl); (case hx => rfl); (case hy => rfl); (case hzc => rfl); (case hb => decide); (case h63 => decide); intro bm; refine Wh.freeze sbL fun S9 hle9 hb9 => ?_) | (apply n_call; (case hi => rfl); (case i1 => infer_instance); (case hg => rfl); (case hd => rfl); (case ha => rfl); (case hc => exact i1 _ _ (q1.le hle9) (hz hb9)); (case hL => (exact pmT)); (case hsub => (intros; (exact sbT))); rintro _ _ _ - ⟨rfl, rfl, rfl⟩) | (apply n_call; (case hi => rfl); (case i1 => infer_instance); (case hg => rfl); (case hd => rfl); (case ha => rfl); (case hc => exact i2 _ _ ((q2.le (by assumption)).le hle9) (hz hb9)); (case hL => (exact pmT)); (case hsub => (intros; (exact sbT))); rintro _ _ _ - ⟨rfl, rfl, rfl⟩) | (refine Jn ?_; try intro _)); refine Jf 29 ?_; refine Jf 30 ?_; (apply h_end; (case hr => kernel_rfl)); (apply q_then; exact q_cut ⟨rfl, rfl⟩ sbF sbL))
  have hb : bP (VoidV ⟨an, al, ah, ab, als, ahs⟩) = bP (ahs = List.replicate 44 0) := by
    by_cases g6 : ahs = List.replicate 44 0
    · rw [bP_t g6, bP_t (hiff.2 ⟨g1, g2, g3, g4, g5, g6⟩)]
    · rw [bP_f g6, bP_f (fun h => g6 (hiff.1 h).2.2.2.2.2)]
  rw [hb]
  have i1 := fun S2 b hA hB => ic S2 b als pla plc hA r1 hB
  simp only [bP_t g5] at i1
  have i2 := fun S2 b hA hB => ic S2 b ahs pha phc hA r2 hB
  generalize bP (ahs = List.replicate 44 0) = tb at *
  ((apply c_held ([(b1, .cells [.int .i64 a0, .int .i64 a1, .int .i64 a2, .int .i64 a3, .int .i64 an, .int .i64 al, .int .i64 ah, .int .i64 ab, .slice pla als.length plc, .slice pha ahs.length phc].toArray 45 (0, 0))]); (case hL => (exact sbT))); refine Jf 0 ?_; refine Jf 1 ?_; refine Jf 2 ?_; refine Jf 3 ?_; refine Jf 4 ?_; refine Jf 5 ?_; refine Jf 6 ?_; refine Jf 7 ?_; refine Jf 8 ?_; refine Jf 9 ?_; refine Jf 10 ?_; refine Jf 11 ?_; refine Jf 12 ?_; refine Jf 13 ?_; refine Jf 14 ?_; refine Jf 15 ?_; refine Jf 16 ?_; refine Jf 17 ?_; refine Jf 18 ?_; refine Jf 19 ?_; refine Jf 20 ?_; (apply h_one 21; (case hr => kernel_rfl)); (first | (apply n_make1 (m := 44); (case hi => rfl); (case i1 => infer_instance); (case i2 => infer_instance); (case i3 => infer_instance); (case i4 => infer_instance); (case hg => rfl); (case hd => rfl); (case hx => rfl); (case hy => rfl); (case hzc => rfl); (case hb => decide); (case h63 => decide); intro bm; refine Wh.freeze sbL fun S9 hle9 hb9 => ?_) | (apply n_call; (case hi => rfl); (case i1 => infer_instance); (case hg => rfl); (case hd => rfl); (case ha => rfl); (case hc => exact i1 _ _ (q1.le hle9) (hz hb9)); (case hL => (exact pmT)); (case hsub => (intros; (exact sbT))); rintro _ _ _ - ⟨rfl, rfl, rfl⟩) | (apply n_call; (case hi => rfl); (case i1 => infer_instance); (case hg => rfl); (case hd => rfl); (case ha => rfl); (case hc => exact i2 _ _ ((q2.le (by assumption)).le hle9) (hz hb9)); (case hL => (exact pmT)); (case hsub => (intros; (exact sbT))); rintro _ _ _ - ⟨rfl, rfl, rfl⟩) | (refine Jn ?_; try intro _)); (apply h_one 22; (case hr => kernel_rfl)); (first | (apply n_make1 (m := 44); (case hi => rfl); (case i1 => infer_instance); (case i2 => infer_instance); (case i3 => infer_instance); (case i4 => infer_instance); (case hg => rfl); (case hd => rfl); (case hx => rfl); (case hy => rfl); (case hzc => rfl); (case hb => decide); (case h63 => decide); intro bm; refine Wh.freeze sbL fun S9 hle9 hb9 => ?_) | (apply n_call; (case hi => rfl); (case i1 => infer_instance); (case hg => rfl); (case hd => rfl); (case ha => rfl); (case hc => exact i1 _ _ (q1.le hle9) (hz hb9)); (case hL => (exact pmT)); (case hsub => (intros; (exact sbT))); rintro _ _ _ - ⟨rfl, rfl, rfl⟩) | (apply n_call; (case hi => rfl); (case i1 => infer_instance); (case hg => rfl); (case hd => rfl); (case ha => rfl); (case hc => exact i2 _ _ ((q2.le (by assumption)).le hle9) (hz hb9)); (case hL => (exact pmT)); (case hsub => (intros; (exact sbT))); rintro _ _ _ - ⟨rfl, rfl, rfl⟩) | (refine Jn ?_; try intro _)); refine Jf 23 ?_; refine Jf 24 ?_; refine Jf 25 ?_; refine Jf 26 ?_; (apply h_one 27; (case hr => kernel_rfl)); (first | (apply n_make1 (m := 44); (case hi => rfl); (case i1 => infer_instance); (case i2 => infer_instance); (case i3 => infer_instance); (case i4 => infer_instance); (case hg => rfl); (case hd => rfl); (case hx => rfl); (case hy => rfl); (case hzc => rfl); (case hb => decide); (case h63 => decide); intro bm; refine Wh.freeze sbL fun S9 hle9 hb9 => ?_) | (apply n_call; (case hi => rfl); (case i1 => infer_instance); (case hg => rfl); (case hd => rfl); (case ha => rfl); (case hc => exact i1 _ _ (q1.le hle9) (hz hb9)); (case hL => (exact pmT)); (case hsub => (intros; (exact sbT))); rintro _ _ _ - ⟨rfl, rfl, rfl⟩) | (apply n_call; (case hi => rfl); (case i1 => infer_instance); (case hg => rfl); (case hd => rfl); (case ha => rfl); (case hc => exact i2 _ _ ((q2.le (by assumption)).le hle9) (hz hb9)); (case hL => (exact pmT)); (case hsub => (intros; (exact sbT))); rintro _ _ _ - ⟨rfl, rfl, rfl⟩) | (refine Jn ?_; try intro _)); (apply h_one 28; (case hr => kernel_rfl)); (first | (apply n_make1 (m := 44); (case hi => rfl); (case i1 => infer_instance); (case i2 => infer_instance); (case i3 => infer_instance); (case i4 => infer_instance); (case hg => rfl); (case hd => rfl); (case hx => rfl); (case hy => rfl); (case hzc => rfl); (case hb => decide); (case h63 => decide); intro bm; refine Wh.freeze sbL fun S9 hle9 hb9 => ?_) | (apply n_call; (case hi => rfl); (case i1 => infer_instance); (case hg => rfl); (case hd => rfl); (case ha => rfl); (case hc => exact i1 _ _ (q1.le hle9) (hz hb9)); (case hL => (exact pmT)); (case hsub => (intros; (exact sbT))); rintro _ _ _ - ⟨rfl, rfl, rfl⟩) | (apply n_call; (case hi => rfl); (case i1 => infer_instance); (case hg => rfl); (case hd => rfl); (case ha => rfl); (case hc => exact i2 _ _ ((q2.le (by assumption)).le hle9) (hz hb9)); (case hL => (exact pmT)); (case hsub => (intros; (exact sbT))); rintro _ _ _ - ⟨rfl, rfl, rfl⟩) | (refine Jn ?_; try intro _)); refine Jf 29 ?_; refine Jf 30 ?_; (apply h_end; (case hr => kernel_rfl)); (apply q_then; exact q_cut ⟨rfl, rfl⟩ sbF sbL))
end Go.Proofs.YtogfficbloejcaaDoor
namespace Go.Proofs.YtogfficbloejcaaDoor
open Go Go.X
set_option maxRecDepth 10000
set_option linter.unusedVariables false
attribute [local irreducible] Code.wpIn wpListIn Exit.then Exit.inBlock X.Out X.Back X.W X.Ev X.Con X.BinV X.Wh X.Wn X.Wq
theorem rValid_con (cs : List Ce) (A : Option Addr) (c : Nat) (S : SH) (hA : At S A cs) (hok : ∀ q ∈ cs, q.ok S) (hl : cs.length ≤ 1000000) :
    Con Tryd.prog 29 #[.agg #[.slice A cs.length c]] S [] (Pure S (.bool (bP (ValidP (cs.map (·.p)))))) := by
  refine con_of (args := [.agg [.slice A cs.length c].toArray]) Tryd.func29 rfl Tryd.ntmps29 rfl fun w => ?_
  by_cases h4 : cs.length ≤ 400
  rotate_left
  · (repeat (first | refine Jz ?_ | intro _))
    exact o_ret Tryd.results29 rfl (List.nil_sublist _) ⟨rfl, rfl, by rw [bP_f fun h => h4 (by simpa using h.len)]⟩
  (repeat (first | refine Jz ?_ | intro _))
  rename_i b1
  refine c_loop (fun m S' L F => S' = S ∧ L = [(b1, .cells [.slice A cs.length c].toArray 24 (0, 0))] ∧ ∃ (i : Nat), m = cs.length - i ∧ i ≤ cs.length ∧ (∀ q ∈ cs.take i, PcP q.p) ∧ (∀ (j : Nat) (a b : Ce), j + 1 < i → cs[j]? = some a → cs[j + 1]? = some b → cmpL a.p.key b.p.key < 0) ∧
      F = [(1, .pointer (some ⟨b1, 0, none⟩)), (3, .int .i64 i)]) ⟨rfl, rfl, 0, rfl, by omega, by simp, by omega, rfl⟩ sbF sbL ?_
  rintro m S' L F ⟨rfl, rfl, i, rfl, hi1, hall, hasc, rfl⟩
  by_cases hlt : i < cs.length
  rotate_left
  · obtain rfl : i = cs.length := by omega
    rw [List.take_length] at hall
    (repeat (first | refine Jz ?_ | intro _))
    refine o_ret Tryd.results29 rfl (List.nil_sublist _) ⟨rfl, rfl, ?_⟩
    have hv : ValidP (cs.map (·.p)) := by
      refine ⟨?_, ?_, by simpa using h4⟩
      · intro p hp
        obtain ⟨q, hq, rfl⟩ := List.mem_map.1 hp
        exact hall q hq
      · intro j a b ha hb
        rw [List.getElem?_map] at ha hb
        cases ha' : cs[j]? with
        | none => rw [ha'] at ha; cases ha
        | some qa =>
          cases hb' : cs[j + 1]? with
          | none => rw [hb'] at hb; cases hb
          | some qb =>
            rw [ha'] at ha; rw [hb'] at hb
            injection ha with ha; injection hb with hb
            subst ha hb
            exact hasc j qa qb (List.getElem?_eq_some_iff.1 hb').1 ha' hb'
    rw [bP_t hv]
  obtain ⟨q, hq⟩ := at_lt' hlt
  have hqok := hok q (List.mem_of_getElem? hq)
  have hqm : (cs.map (·.p))[i]? = some q.p := by rw [List.getElem?_map, hq]; rfl
  have vc := rValidCell_con q S' hqok
  by_cases hc : PcP q.p
  rotate_left
  · rw [bP_f hc] at vc
    (repeat (first | refine Jc ?_ | (apply s_idx hA; (case hg => rfl); (case hd => rfl); (case hx => rfl); (case hi => rfl); (case hm => rfl); (case hu => exact hq); intro p hp) | (apply s_load_ag; (case hg => rfl); (case hd => rfl); (case hx => rfl); (case hv => exact hp); (case hl => rfl)) | ((apply z_call; rfl; rfl; rfl; exact vc; rintro _ _ _ - ⟨rfl, rfl, rfl⟩)) | refine Jo ?_ | intro _))
    exact o_ret Tryd.results29 rfl (List.nil_sublist _) ⟨rfl, rfl, by rw [bP_f fun h => hc (h.each q.p (List.mem_of_getElem? hqm))]⟩
  rw [bP_t hc] at vc
  have hnext : ∀ x ∈ cs.take (i + 1), PcP x.p := by
    intro x hx
    rw [take_at' hq] at hx
    rcases List.mem_append.1 hx with hx | hx
    · exact hall x hx
    · rw [List.mem_singleton.1 hx]; exact hc
  cases i with
  | zero =>
    (repeat (first | refine Jc ?_ | (apply s_idx hA; (case hg => rfl); (case hd => rfl); (case hx => rfl); (case hi => rfl); (case hm => rfl); (case hu => exact hq); intro p hp) | (apply s_load_ag; (case hg => rfl); (case hd => rfl); (case hx => rfl); (case hv => exact hp); (case hl => rfl)) | ((apply z_call; rfl; rfl; rfl; exact vc; rintro _ _ _ - ⟨rfl, rfl, rfl⟩)) | refine Jo ?_ | intro _))
    exact q_back (m' := cs.length - (0 + 1)) ⟨rfl, rfl, 0 + 1, rfl, by omega, hnext, fun j a b hj => by omega, rfl⟩ (by omega) sbF sbL
  | succ i =>
    obtain ⟨q0, hq0⟩ := at_lt' (show i < cs.length by omega)
    have hq0m : (cs.map (·.p))[i]? = some q0.p := by rw [List.getElem?_map, hq0]; rfl
    have bc := rBefore_con q0 q S'
    by_cases hb : Bef q0.p q.p
    · rw [bP_t hb] at bc
      (repeat (first | refine Jc ?_ | (apply s_idx hA; (case hg => rfl); (case hd => rfl); (case hx => rfl); (case hi => rfl); (case hm => rfl); (case hu => exact hq); intro p hp) | (apply s_load_ag; (case hg => rfl); (case hd => rfl); (case hx => rfl); (case hv => exact hp); (case hl => rfl)) | ((apply z_call; rfl; rfl; rfl; exact vc; rintro _ _ _ - ⟨rfl, rfl, rfl⟩)) | refine Jo ?_ | intro _))
      ((apply c_held ([(b1, .cells [.slice A cs.length c].toArray 24 (0, 0))]); (case hL => (exact sbT))); refine Jf 0 ?_; refine Jf 1 ?_; refine Jf 2 ?_; refine Jf 3 ?_; (apply h_idx (j := i) hA 4; (case hi => rfl); (case hr => kernel_rfl); (case hfr => kernel_rfl); (case hsel => kernel_rfl); (case hg => rfl); (case hd => rfl); (case i1 => infer_instance); (case i2 => infer_instance); (case hx => rfl); (case hy => (refine congrArg some (congrArg (Value.int .i64) ?_); omega)); (case hm => rfl); (case hu => exact hq0); intro p0 hp0); (apply h_first 5; (case hi => rfl); (case hr => kernel_rfl); (case hfr => kernel_rfl); (case hsel => kernel_rfl); (case hg => rfl); (case hd => rfl); (case he => (apply ev_load_ag; (case hx => rfl); (case h => exact hp0); (case hl => rfl)))); refine Jf 6 ?_; refine Jf 7 ?_; refine Jf 8 ?_; (apply h_idx hA 9; (case hi => rfl); (case hr => kernel_rfl); (case hfr => kernel_rfl); (case hsel => kernel_rfl); (case hg => rfl); (case hd => rfl); (case i1 => infer_instance); (case i2 => infer_instance); (case hx => rfl); (case hy => rfl); (case hm => rfl); (case hu => exact hq); intro p1 hp1); (apply h_first 10; (case hi => rfl); (case hr => kernel_rfl); (case hfr => kernel_rfl); (case hsel => kernel_rfl); (case hg => rfl); (case hd => rfl); (case he => (apply ev_load_ag; (case hx => rfl); (case h => exact hp1); (case hl => rfl)))); (apply h_one 11; (case hr => kernel_rfl)); (apply n_call; (case hi => rfl); (case i1 => infer_instance); (case hg => rfl); (case hd => rfl); (case ha => rfl); (case hc => exact bc); (case hL => (exact pmT)); (case hsub => (intros; (exact sbT))); rintro _ _ _ - ⟨rfl, rfl, rfl⟩); refine Jf 12 ?_; (apply h_end; (case hr => kernel_rfl)))
      (repeat (first | refine Jz ?_ | intro _))
      refine q_back (m' := cs.length - (i + 1 + 1)) ⟨rfl, rfl, i + 1 + 1, rfl, by omega, hnext, ?_, rfl⟩ (by omega) sbF sbL
      intro j a b hj ha hb'
      by_cases hji : j = i
      · subst hji
        rw [hq0] at ha; rw [hq] at hb'
        injection ha with ha; injection hb' with hb'
        subst ha hb'
        exact hb
      · exact hasc j a b (by omega) ha hb'
    · rw [bP_f hb] at bc
      (repeat (first | refine Jc ?_ | (apply s_idx hA; (case hg => rfl); (case hd => rfl); (case hx => rfl); (case hi => rfl); (case hm => rfl); (case hu => exact hq); intro p hp) | (apply s_load_ag; (case hg => rfl); (case hd => rfl); (case hx => rfl); (case hv => exact hp); (case hl => rfl)) | ((apply z_call; rfl; rfl; rfl; exact vc; rintro _ _ _ - ⟨rfl, rfl, rfl⟩)) | refine Jo ?_ | intro _))
      ((apply c_held ([(b1, .cells [.slice A cs.length c].toArray 24 (0, 0))]); (case hL => (exact sbT))); refine Jf 0 ?_; refine Jf 1 ?_; refine Jf 2 ?_; refine Jf 3 ?_; (apply h_idx (j := i) hA 4; (case hi => rfl); (case hr => kernel_rfl); (case hfr => kernel_rfl); (case hsel => kernel_rfl); (case hg => rfl); (case hd => rfl); (case i1 => infer_instance); (case i2 => infer_instance); (case hx => rfl); (case hy => (refine congrArg some (congrArg (Value.int .i64) ?_); omega)); (case hm => rfl); (case hu => exact hq0); intro p0 hp0); (apply h_first 5; (case hi => rfl); (case hr => kernel_rfl); (case hfr => kernel_rfl); (case hsel => kernel_rfl); (case hg => rfl); (case hd => rfl); (case he => (apply ev_load_ag; (case hx => rfl); (case h => exact hp0); (case hl => rfl)))); refine Jf 6 ?_; refine Jf 7 ?_; refine Jf 8 ?_; (apply h_idx hA 9; (case hi => rfl); (case hr => kernel_rfl); (case hfr => kernel_rfl); (case hsel => kernel_rfl); (case hg => rfl); (case hd => rfl); (case i1 => infer_instance); (case i2 => infer_instance); (case hx => rfl); (case hy => rfl); (case hm => rfl); (case hu => exact hq); intro p1 hp1); (apply h_first 10; (case hi => rfl); (case hr => kernel_rfl); (case hfr => kernel_rfl); (case hsel => kernel_rfl); (case hg => rfl); (case hd => rfl); (case he => (apply ev_load_ag; (case hx => rfl); (case h => exact hp1); (case hl => rfl)))); (apply h_one 11; (case hr => kernel_rfl)); (apply n_call; (case hi => rfl); (case i1 => infer_instance); (case hg => rfl); (case hd => rfl); (case ha => rfl); (case hc => exact bc); (case hL => (exact pmT)); (case hsub => (intros; (exact sbT))); rintro _ _ _ - ⟨rfl, rfl, rfl⟩); refine Jf 12 ?_; (apply h_end; (case hr => kernel_rfl)))
      (repeat (first | refine Jz ?_ | intro _))
      exact o_ret Tryd.results29 rfl (List.nil_sublist _) ⟨rfl, rfl, by rw [bP_f fun h => hb (h.asc i _ _ hq0m hqm)]⟩
noncomputable def skOf (l : List PC) : List PC × Int := by classical exact if ValidP l then (l, 0) else ([], 170)
theorem kept_snoc (l : List PC) (c : PC) : kept (l ++ [c]) = kept l ++ if bP (VoidV c.x) then [] else [c] := by
  unfold kept
  rw [List.filter_append]
  congr 1
  simp only [List.filter_cons, List.filter_nil]
  cases bP (VoidV c.x) <;> rfl
theorem kept_len (l : List PC) : (kept l).length ≤ l.length := List.length_filter_le _ _
/-- A sketch in memory, its slice no longer than its room. -/
def SkC (S : SH) (v : Value) (l : List PC) : Prop := ∃ (A : Option Addr) (c : Nat) (cs : List Ce), v = .agg #[.slice A cs.length c] ∧ cs.length ≤ c ∧ At S A cs ∧ (∀ q ∈ cs, q.ok S) ∧ cs.length ≤ 1000 ∧ cs.map (·.p) = l
theorem SkC.sk {S : SH} {v : Value} {l : List PC} (h : SkC S v l) : SkV S v l := by
  obtain ⟨A, c, cs, h1, _, h2, h3, h4, h5⟩ := h
  exact ⟨A, c, cs, h1, h2, h3, h4, h5⟩
theorem SkC.le {S T : SH} {v : Value} {l : List PC} (h : SkC S v l) (k : Le S T) : SkC T v l := by
  obtain ⟨A, c, cs, h1, h0, h2, h3, h4, h5⟩ := h
  exact ⟨A, c, cs, h1, h0, h2.le k, fun q hq => (h3 q hq).le k, h4, h5⟩
theorem nil_skc (S : SH) : SkC S (.agg #[.slice none 0 0]) [] := ⟨none, 0, [], rfl, Nat.le_refl _, At.nil _ _, fun q hq => absurd hq List.not_mem_nil, by decide, rfl⟩
theorem rSketchC_con {va : Value} {l : List PC} (S : SH) (hl : ClV S va l) (hlen : l.length ≤ 900) (r1 : ∀ p ∈ l, R44 p) :
    Con Tryd.prog 49 #[va] S [] (fun S' L' r => L' = [] ∧ ∃ v, r = .tuple #[v, .int .i64 (skOf (kept l)).2] ∧ SkC S' v (skOf (kept l)).1) := by
  obtain ⟨A, ca, cs, rfl, hca, hA, oka, rfl⟩ := hl
  rw [List.length_map] at hlen
  refine con_of (args := [.slice A cs.length ca]) Tryd.func49 rfl Tryd.ntmps49 rfl fun w => ?_
  (repeat (first | refine Jc ?_ | (apply s_evb; (case hg => rfl); (case hd => rfl); (case hn => rfl); (case he => (apply ev_buildS; (case hp => rfl); (case hz => rfl); (case h1 => rfl); (case hr => rfl)))) | refine Jo ?_ | intro _))
  rename_i b2 b4
  refine c_loop (fun m S' L F => Le S S' ∧ ∃ (i : Nat) (lc : List Ce) (pv : Value) (ob : Blocks), m = cs.length - i ∧ i ≤ cs.length ∧ Ows 45 pv lc ob ∧ lc.map (·.p) = kept ((cs.map (·.p)).take i) ∧ (∀ q ∈ lc, q.ok S') ∧ lc.length ≤ i ∧ L = ob ++ [(b4, .cells [pv].toArray 24 (0, 0)), (b2, .cells [.slice none 0 0].toArray 24 (0, 0))] ∧
      F = [(0, .slice A cs.length ca), (2, .pointer (some ⟨b2, 0, none⟩)), (4, .pointer (some ⟨b4, 0, none⟩)), (5, .int .i64 i)]) ⟨Le.refl _, 0, [], .slice none 0 0, [], rfl, by omega, Ows.nil 45, rfl, fun q hq => absurd hq List.not_mem_nil, by simp, rfl, rfl⟩ sbF (List.Sublist.refl _) ?_
  rintro m S' L F ⟨hle, i, lc, pv, ob, rfl, hi, hob, hmp, hok, hlc, rfl, rfl⟩
  by_cases hlt : i < cs.length
  · obtain ⟨q, hq⟩ := at_lt' hlt
    have hqok := (oka q (List.mem_of_getElem? hq)).le hle
    have hqm : (cs.map (·.p))[i]? = some q.p := by rw [List.getElem?_map, hq]; rfl
    have vc := rVoid_con q S' hqok (r1 q.p (List.mem_of_getElem? hqm))
    have hks := kept_snoc ((cs.map (·.p)).take i) q.p
    rw [← take_at' hqm] at hks
    generalize bP (VoidV q.p.x) = tb at *
    cases tb
    · (repeat (first | refine Jc ?_ | (apply s_idx (hA.le hle); (case hg => rfl); (case hd => rfl); (case hx => rfl); (case hi => rfl); (case hm => rfl); (case hu => exact hq); intro p hp) | (apply s_load_ag; (case hg => rfl); (case hd => rfl); (case hx => rfl); (case hv => exact hp); (case hl => rfl)) | ((apply z_call; rfl; rfl; rfl; exact vc; rintro S2 _ _ hle2 ⟨rfl, rfl⟩)) | refine Jo ?_ | intro _))
      have hA2 := (hA.le hle).le hle2
      have hokn : ∀ c ∈ lc ++ [q], c.ok S2 := fun c hc => by
        rcases List.mem_append.1 hc with hc | hc
        · exact (hok c hc).le hle2
        · rw [List.mem_singleton.1 hc]; exact hqok.le hle2
      ((apply c_held ([]); (case hL => (exact sbT))); refine Jf 0 ?_; refine Jf 2 ?_; refine Jf 3 ?_; (apply h_idx hA2 4; (case hi => rfl); (case hr => kernel_rfl); (case hfr => kernel_rfl); (case hsel => kernel_rfl); (case hg => rfl); (case hd => rfl); (case i1 => infer_instance); (case i2 => infer_instance); (case hx => rfl); (case hy => rfl); (case hm => rfl); (case hu => exact hq); intro p1 hp1); (apply h_first 5; (case hi => rfl); (case hr => kernel_rfl); (case hfr => kernel_rfl); (case hsel => kernel_rfl); (case hg => rfl); (case hd => rfl); (case he => (apply ev_load_ag; (case hx => rfl); (case h => exact hp1); (case hl => rfl)))); (apply h_two 1 6; (case hr => kernel_rfl)); (case k1 => ((refine Jn ?_; try intro _); (apply h_one 6; (case hr => kernel_rfl)); (apply n_buildSlice; (case hi => rfl); (case hg => rfl); (case hd => rfl); (case i1 => infer_instance); (case i2 => infer_instance); (case i3 => infer_instance); (case hp => rfl); (case hq => rfl); (case hm => rfl); (case hv => rfl); (case hl => rfl); intro bl); (apply h_one 7; (case hr => kernel_rfl)); (apply n_append (ms := [q]); (case hi => rfl); (case hT => infer_instance); (case hsz => infer_instance); (case hz => infer_instance); (case hby => infer_instance); (case hg => rfl); (case hd => rfl); (case hx => rfl); (case ho => exact hob); (case hL => (exact pmT)); (case hy => rfl); (case hm => rfl); (case hs => (apply Src.own; (repeat (first | exact List.Mem.head _ | apply List.Mem.tail | apply List.mem_append_right)))); (case hzs => rfl); (case h0 => decide); (case hb => (simp; omega)); (case h63 => (simp; omega)); (case hsub => (intros; (exact sbT))); intro v' ob' ho'; obtain ⟨Av, cv, rfl⟩ := ho'.form); refine Jf 8 ?_; (apply h_one 9; (case hr => kernel_rfl)); (refine Jn ?_; try intro _); (apply h_end; (case hr => kernel_rfl)); ((repeat (first | refine Jz ?_ | intro _)); exact q_back (m' := cs.length - (i + 1)) ⟨hle.trans hle2, i + 1, lc ++ [q], _, ob', rfl, by omega, ho', by rw [hks, List.map_append, hmp]; rfl, hokn, by rw [List.length_append, List.length_singleton]; omega, rfl, rfl⟩ (by omega) sbF sbL))); (case k2 => ((apply n_buildSlice; (case hi => rfl); (case hg => rfl); (case hd => rfl); (case i1 => infer_instance); (case i2 => infer_instance); (case i3 => infer_instance); (case hp => rfl); (case hq => rfl); (case hm => rfl); (case hv => rfl); (case hl => rfl); intro bl); (apply h_one 1; (case hr => kernel_rfl)); (refine Jn ?_; try intro _); (apply h_one 7; (case hr => kernel_rfl)); (apply n_append (ms := [q]); (case hi => rfl); (case hT => infer_instance); (case hsz => infer_instance); (case hz => infer_instance); (case hby => infer_instance); (case hg => rfl); (case hd => rfl); (case hx => rfl); (case ho => exact hob); (case hL => (exact pmT)); (case hy => rfl); (case hm => rfl); (case hs => (apply Src.own; (repeat (first | exact List.Mem.head _ | apply List.Mem.tail | apply List.mem_append_right)))); (case hzs => rfl); (case h0 => decide); (case hb => (simp; omega)); (case h63 => (simp; omega)); (case hsub => (intros; (exact sbT))); intro v' ob' ho'; obtain ⟨Av, cv, rfl⟩ := ho'.form); refine Jf 8 ?_; (apply h_one 9; (case hr => kernel_rfl)); (refine Jn ?_; try intro _); (apply h_end; (case hr => kernel_rfl)); ((repeat (first | refine Jz ?_ | intro _)); exact q_back (m' := cs.length - (i + 1)) ⟨hle.trans hle2, i + 1, lc ++ [q], _, ob', rfl, by omega, ho', by rw [hks, List.map_append, hmp]; rfl, hokn, by rw [List.length_append, List.length_singleton]; omega, rfl, rfl⟩ (by omega) sbF sbL))))
    · (repeat (first | refine Jc ?_ | (apply s_idx (hA.le hle); (case hg => rfl); (case hd => rfl); (case hx => rfl); (case hi => rfl); (case hm => rfl); (case hu => exact hq); intro p hp) | (apply s_load_ag; (case hg => rfl); (case hd => rfl); (case hx => rfl); (case hv => exact hp); (case hl => rfl)) | ((apply z_call; rfl; rfl; rfl; exact vc; rintro S2 _ _ hle2 ⟨rfl, rfl⟩)) | refine Jo ?_ | intro _))
      exact q_back (m' := cs.length - (i + 1)) ⟨hle.trans hle2, i + 1, lc, pv, ob, rfl, by omega, hob, by rw [hks, hmp]; simp, fun q hq => (hok q hq).le hle2, by omega, rfl, rfl⟩ (by omega) sbF sbL
  obtain rfl : i = cs.length := by omega
  rw [List.take_of_length_le (by rw [List.length_map]; omega)] at hmp
  refine W.freezeOws hob (List.Perm.refl _) fun S2 hle2 hsr => ?_
  obtain ⟨A2, c2, rfl, hc2, hA2⟩ := hsr
  have hok2 : ∀ q ∈ lc, q.ok S2 := fun q hq => (hok q hq).le hle2
  have vc := rValid_con lc A2 c2 S2 hA2 hok2 (by omega)
  rw [hmp] at vc
  unfold skOf
  by_cases hv : ValidP (kept (cs.map (·.p)))
  · rw [bP_t hv] at vc
    rw [if_pos hv]
    (repeat (first | refine Jc ?_ | ((apply z_call; rfl; rfl; rfl; exact vc; rintro _ _ _ - ⟨rfl, rfl, rfl⟩)) | refine Jo ?_ | intro _))
    exact o_ret_c2 (L' := []) (sz := 1) (cs := [.slice A2 lc.length c2]) Tryd.results49 rfl rfl (by repeat (first | exact List.Mem.head _ | refine List.Mem.tail _ ?_ | exact List.mem_append_right _ (List.Mem.head _))) rfl (List.nil_sublist _) ⟨rfl, _, rfl, ⟨A2, c2, lc, rfl, hc2, hA2, hok2, by omega, hmp⟩⟩
  · rw [bP_f hv] at vc
    rw [if_neg hv]
    (repeat (first | refine Jc ?_ | (apply s_evb; (case hg => rfl); (case hd => rfl); (case hn => rfl); (case he => (apply ev_buildS; (case hp => rfl); (case hz => rfl); (case h1 => rfl); (case hr => rfl)))) | ((apply z_call; rfl; rfl; rfl; exact vc; rintro _ _ _ - ⟨rfl, rfl, rfl⟩)) | refine Jo ?_ | intro _))
    exact o_ret_c2 (L' := []) (sz := 1) (cs := [.slice none 0 0]) Tryd.results49 rfl rfl (by repeat (first | exact List.Mem.head _ | refine List.Mem.tail _ ?_ | exact List.mem_append_right _ (List.Mem.head _))) rfl (List.nil_sublist _) ⟨rfl, _, rfl, nil_skc _⟩
theorem rSketch_con {va : Value} {l : List PC} (S : SH) (hl : ClV S va l) (hlen : l.length ≤ 900) (r1 : ∀ p ∈ l, R44 p) :
    Con Tryd.prog 49 #[va] S [] (fun S' L' r => L' = [] ∧ ∃ v, r = .tuple #[v, .int .i64 (skOf (kept l)).2] ∧ SkV S' v (skOf (kept l)).1) :=
  (rSketchC_con S hl hlen r1).mono fun S' L' r _ ⟨h1, v, h2, h3⟩ => ⟨h1, v, h2, h3.sk⟩
end Go.Proofs.YtogfficbloejcaaDoor
namespace Go.Proofs.YtogfficbloejcaaDoor
open Go Go.X
set_option maxRecDepth 10000
set_option linter.unusedVariables false
attribute [local irreducible] Code.wpIn wpListIn Exit.then Exit.inBlock X.Out X.Back X.W X.Ev X.Con X.BinV X.Wh X.Wn X.Wq
theorem win14_con (a b c : Int) (S : SH) : Con Tryd.prog 82 #[.int .i64 a, .int .i64 b, .int .i64 c] S [] (Pure S (.bool (bP (b ≤ a ∧ a ≤ c)))) := by
  refine con_of (args := [.int .i64 a, .int .i64 b, .int .i64 c]) Tryd.func82 rfl Tryd.ntmps82 rfl fun w => ?_
  by_cases h1 : b ≤ a
  · by_cases h2 : a ≤ c
    · (repeat (first | refine Jz ?_ | intro _))
      exact o_ret Tryd.results82 rfl (List.nil_sublist _) ⟨rfl, rfl, by rw [bP_t ⟨h1, h2⟩]⟩
    · (repeat (first | refine Jz ?_ | intro _))
      exact o_ret Tryd.results82 rfl (List.nil_sublist _) ⟨rfl, rfl, by rw [bP_f fun h => h2 h.2]⟩
  · (repeat (first | refine Jz ?_ | intro _))
    exact o_ret Tryd.results82 rfl (List.nil_sublist _) ⟨rfl, rfl, by rw [bP_f fun h => h1 h.1]⟩
theorem win14_t {a b c : Int} (h : b ≤ a ∧ a ≤ c) (S : SH) : Con Tryd.prog 82 #[.int .i64 a, .int .i64 b, .int .i64 c] S [] (Pure S (.bool true)) := bP_t h ▸ win14_con a b c S
theorem win14_f {a b c : Int} (h : ¬ (b ≤ a ∧ a ≤ c)) (S : SH) : Con Tryd.prog 82 #[.int .i64 a, .int .i64 b, .int .i64 c] S [] (Pure S (.bool false)) := bP_f h ▸ win14_con a b c S
set_option maxHeartbeats 1600000 in
theorem rValidFact_con (x : Fa) (S : SH) : Con Tryd.prog 46 #[.agg x.vals.toArray] S [] (Pure S (.bool (bP (FactP x)))) := by
  refine con_of (args := [.agg x.vals.toArray]) Tryd.func46 rfl Tryd.ntmps46 rfl fun w => ?_
  obtain ⟨tr, sp, sv, ve, op, pe, dy, lo, hi, bb⟩ := x
  unfold Fa.vals
  dsimp only at *
  by_cases h_tr1 : 0 ≤ tr ∧ tr ≤ 999
  rotate_left
  · (repeat (first | refine Jc ?_ | (apply z_call; rfl; rfl; rfl; exact win14_t (by omega) _; rintro _ _ _ - ⟨rfl, rfl, rfl⟩) | (apply z_call; rfl; rfl; rfl; exact win14_f (by omega) _; rintro _ _ _ - ⟨rfl, rfl, rfl⟩) | refine Jo ?_ | intro _))
    exact o_ret Tryd.results46 rfl (List.nil_sublist _) ⟨rfl, rfl, by rw [bP_f fun h => h_tr1 h.tr1]⟩
  by_cases h_sp1 : 0 ≤ sp ∧ sp ≤ 9
  rotate_left
  · (repeat (first | refine Jc ?_ | (apply z_call; rfl; rfl; rfl; exact win14_t (by omega) _; rintro _ _ _ - ⟨rfl, rfl, rfl⟩) | (apply z_call; rfl; rfl; rfl; exact win14_f (by omega) _; rintro _ _ _ - ⟨rfl, rfl, rfl⟩) | refine Jo ?_ | intro _))
    exact o_ret Tryd.results46 rfl (List.nil_sublist _) ⟨rfl, rfl, by rw [bP_f fun h => h_sp1 h.sp1]⟩
  by_cases h_sv1 : 0 ≤ sv ∧ sv ≤ 7
  rotate_left
  · (repeat (first | refine Jc ?_ | (apply z_call; rfl; rfl; rfl; exact win14_t (by omega) _; rintro _ _ _ - ⟨rfl, rfl, rfl⟩) | (apply z_call; rfl; rfl; rfl; exact win14_f (by omega) _; rintro _ _ _ - ⟨rfl, rfl, rfl⟩) | refine Jo ?_ | intro _))
    exact o_ret Tryd.results46 rfl (List.nil_sublist _) ⟨rfl, rfl, by rw [bP_f fun h => h_sv1 h.sv1]⟩
  by_cases h_ve1 : 0 ≤ ve ∧ ve ≤ 9
  rotate_left
  · (repeat (first | refine Jc ?_ | (apply z_call; rfl; rfl; rfl; exact win14_t (by omega) _; rintro _ _ _ - ⟨rfl, rfl, rfl⟩) | (apply z_call; rfl; rfl; rfl; exact win14_f (by omega) _; rintro _ _ _ - ⟨rfl, rfl, rfl⟩) | refine Jo ?_ | intro _))
    exact o_ret Tryd.results46 rfl (List.nil_sublist _) ⟨rfl, rfl, by rw [bP_f fun h => h_ve1 h.ve1]⟩
  by_cases h_op1 : 0 ≤ op ∧ op ≤ 11
  rotate_left
  · (repeat (first | refine Jc ?_ | (apply z_call; rfl; rfl; rfl; exact win14_t (by omega) _; rintro _ _ _ - ⟨rfl, rfl, rfl⟩) | (apply z_call; rfl; rfl; rfl; exact win14_f (by omega) _; rintro _ _ _ - ⟨rfl, rfl, rfl⟩) | refine Jo ?_ | intro _))
    exact o_ret Tryd.results46 rfl (List.nil_sublist _) ⟨rfl, rfl, by rw [bP_f fun h => h_op1 h.op1]⟩
  by_cases h_pe1 : -1 ≤ pe ∧ pe ≤ 19
  rotate_left
  · (repeat (first | refine Jc ?_ | (apply z_call; rfl; rfl; rfl; exact win14_t (by omega) _; rintro _ _ _ - ⟨rfl, rfl, rfl⟩) | (apply z_call; rfl; rfl; rfl; exact win14_f (by omega) _; rintro _ _ _ - ⟨rfl, rfl, rfl⟩) | refine Jo ?_ | intro _))
    exact o_ret Tryd.results46 rfl (List.nil_sublist _) ⟨rfl, rfl, by rw [bP_f fun h => h_pe1 h.pe1]⟩
  by_cases h_dy1 : dy = tr / 10
  rotate_left
  · (repeat (first | refine Jc ?_ | (apply z_call; rfl; rfl; rfl; exact win14_t (by omega) _; rintro _ _ _ - ⟨rfl, rfl, rfl⟩) | (apply z_call; rfl; rfl; rfl; exact win14_f (by omega) _; rintro _ _ _ - ⟨rfl, rfl, rfl⟩) | refine Jo ?_ | intro _))
    exact o_ret Tryd.results46 rfl (List.nil_sublist _) ⟨rfl, rfl, by rw [bP_f fun h => h_dy1 h.dy1]⟩
  by_cases h_loa : 0 ≤ lo
  rotate_left
  · (repeat (first | refine Jc ?_ | (apply z_call; rfl; rfl; rfl; exact win14_t (by omega) _; rintro _ _ _ - ⟨rfl, rfl, rfl⟩) | (apply z_call; rfl; rfl; rfl; exact win14_f (by omega) _; rintro _ _ _ - ⟨rfl, rfl, rfl⟩) | refine Jo ?_ | intro _))
    exact o_ret Tryd.results46 rfl (List.nil_sublist _) ⟨rfl, rfl, by rw [bP_f fun h => h_loa h.lo1.1]⟩
  by_cases h_lob : lo ≤ hi
  rotate_left
  · (repeat (first | refine Jc ?_ | (apply z_call; rfl; rfl; rfl; exact win14_t (by omega) _; rintro _ _ _ - ⟨rfl, rfl, rfl⟩) | (apply z_call; rfl; rfl; rfl; exact win14_f (by omega) _; rintro _ _ _ - ⟨rfl, rfl, rfl⟩) | refine Jo ?_ | intro _))
    exact o_ret Tryd.results46 rfl (List.nil_sublist _) ⟨rfl, rfl, by rw [bP_f fun h => h_lob h.lo1.2]⟩
  by_cases h_hi1 : hi ≤ 4398046511104
  rotate_left
  · (repeat (first | refine Jc ?_ | (apply z_call; rfl; rfl; rfl; exact win14_t (by omega) _; rintro _ _ _ - ⟨rfl, rfl, rfl⟩) | (apply z_call; rfl; rfl; rfl; exact win14_f (by omega) _; rintro _ _ _ - ⟨rfl, rfl, rfl⟩) | refine Jo ?_ | intro _))
    exact o_ret Tryd.results46 rfl (List.nil_sublist _) ⟨rfl, rfl, by rw [bP_f fun h => h_hi1 h.hi1]⟩
  by_cases h_by1 : 0 ≤ bb ∧ bb ≤ 24000
  rotate_left
  · (repeat (first | refine Jc ?_ | (apply z_call; rfl; rfl; rfl; exact win14_t (by omega) _; rintro _ _ _ - ⟨rfl, rfl, rfl⟩) | (apply z_call; rfl; rfl; rfl; exact win14_f (by omega) _; rintro _ _ _ - ⟨rfl, rfl, rfl⟩) | refine Jo ?_ | intro _))
    exact o_ret Tryd.results46 rfl (List.nil_sublist _) ⟨rfl, rfl, by rw [bP_f fun h => h_by1 h.by1]⟩
  (repeat (first | refine Jc ?_ | (apply z_call; rfl; rfl; rfl; exact win14_t (by omega) _; rintro _ _ _ - ⟨rfl, rfl, rfl⟩) | (apply z_call; rfl; rfl; rfl; exact win14_f (by omega) _; rintro _ _ _ - ⟨rfl, rfl, rfl⟩) | refine Jo ?_ | intro _))
  exact o_ret Tryd.results46 rfl (List.nil_sublist _) ⟨rfl, rfl, by rw [bP_t (show FactP ⟨tr, sp, sv, ve, op, pe, dy, lo, hi, bb⟩ from ⟨h_tr1, h_sp1, h_sv1, h_ve1, h_op1, h_pe1, h_dy1, ⟨h_loa, h_lob⟩, h_hi1, h_by1⟩)]⟩
noncomputable def mP (by_ : Int) (a b : List PC) : List PC := b.foldl (putP by_) a
theorem R44_of {c : PC} (h : PcP c) : R44 c := ⟨h.cell.lo.len, h.cell.hi.len⟩
theorem R44_zero {by_ : Int} {c : PC} (h : R44 c) : R44 { c with x := vop (addB by_) zero44 c.x } := ⟨zipL_R (by simp [zero44]) h.1, zipL_R (by simp [zero44]) h.2⟩
theorem R44_put {by_ : Int} {c : PC} (hc : R44 c) : ∀ {l : List PC}, (∀ p ∈ l, R44 p) → ∀ p ∈ putP by_ l c, R44 p
  | [], _, p, hp => by
    rw [putP, List.mem_singleton] at hp
    subst hp
    exact R44_zero hc
  | q :: l, h, p, hp => by
    have hq := h q List.mem_cons_self
    have hl : ∀ p ∈ l, R44 p := fun p hp => h p (List.mem_cons_of_mem _ hp)
    rw [putP] at hp
    split at hp
    · rcases List.mem_cons.1 hp with rfl | hp
      · exact hq
      · exact R44_put hc hl p hp
    · split at hp
      · rcases List.mem_cons.1 hp with rfl | hp
        · exact R44_zero hc
        · exact h p hp
      · rcases List.mem_cons.1 hp with rfl | hp
        · exact ⟨zipL_R hq.1 hc.1, zipL_R hq.2 hc.2⟩
        · exact hl p hp
noncomputable def mergeR (by_ : Int) (a b : List PC) : List PC × Int := by classical exact if ValidP a ∧ ValidP b then skOf (kept (mP by_ a b)) else ([], 170)
theorem SkV.cl {S : SH} {A : Option Addr} {n c : Nat} {l : List PC} {cs : List Ce} (h1 : At S A cs) (h2 : ∀ q ∈ cs, q.ok S) (h3 : cs.map (·.p) = l) (h4 : n = cs.length) (hc : cs.length ≤ c) : ClV S (.slice A n c) l := ⟨A, c, cs, by rw [h4], hc, h1, h2, h3⟩
set_option maxHeartbeats 1600000 in
theorem rMerge_con {va vb : Value} {a b : List PC} (S : SH) (ha : SkC S va a) (hb : SkC S vb b) :
    Con Tryd.prog 22 #[va, vb] S [] (fun S' L' r => L' = [] ∧ ∃ v, r = .tuple #[v, .int .i64 (mergeR (1) a b).2] ∧ SkV S' v (mergeR (1) a b).1) := by
  obtain ⟨A, ca, xs, rfl, hca, hA, oka, la, rfl⟩ := ha
  obtain ⟨B, cb, ys, rfl, hcb, hB, okb, lb, rfl⟩ := hb
  refine con_of (args := [.agg [.slice A xs.length ca].toArray, .agg [.slice B ys.length cb].toArray]) Tryd.func22 rfl Tryd.ntmps22 rfl fun w => ?_
  have v1 := rValid_con xs A ca S hA oka (by omega)
  have v2 := rValid_con ys B cb S hB okb (by omega)
  unfold mergeR
  by_cases h1 : ValidP (xs.map (·.p))
  rotate_left
  · rw [bP_f h1] at v1
    rw [if_neg (fun h => h1 h.1)]
    (repeat (first | refine Jc ?_ | (apply s_evb; (case hg => rfl); (case hd => rfl); (case hn => rfl); (case he => (apply ev_buildS; (case hp => rfl); (case hz => rfl); (case h1 => rfl); (case hr => rfl)))) | ((apply z_call; rfl; rfl; rfl; exact v1; rintro _ _ _ - ⟨rfl, rfl, rfl⟩)) | refine Jo ?_ | intro _))
    exact o_ret_c2 (L' := []) (sz := 1) (cs := [.slice none 0 0]) Tryd.results22 rfl rfl (by repeat (first | exact List.Mem.head _ | refine List.Mem.tail _ ?_ | exact List.mem_append_right _ (List.Mem.head _))) rfl (List.nil_sublist _) ⟨rfl, _, rfl, nil_sk _⟩
  by_cases h2 : ValidP (ys.map (·.p))
  rotate_left
  · rw [bP_t h1] at v1
    rw [bP_f h2] at v2
    rw [if_neg (fun h => h2 h.2)]
    (repeat (first | refine Jc ?_ | (apply s_evb; (case hg => rfl); (case hd => rfl); (case hn => rfl); (case he => (apply ev_buildS; (case hp => rfl); (case hz => rfl); (case h1 => rfl); (case hr => rfl)))) | ((apply z_call; rfl; rfl; rfl; exact v1; rintro _ _ _ - ⟨rfl, rfl, rfl⟩)) | ((apply z_call; rfl; rfl; rfl; exact v2; rintro _ _ _ - ⟨rfl, rfl, rfl⟩)) | refine Jo ?_ | intro _))
    exact o_ret_c2 (L' := []) (sz := 1) (cs := [.slice none 0 0]) Tryd.results22 rfl rfl (by repeat (first | exact List.Mem.head _ | refine List.Mem.tail _ ?_ | exact List.mem_append_right _ (List.Mem.head _))) rfl (List.nil_sublist _) ⟨rfl, _, rfl, nil_sk _⟩
  rw [bP_t h1] at v1
  rw [bP_t h2] at v2
  rw [if_pos ⟨h1, h2⟩]
  have l1 := h1.len
  have l2 := h2.len
  rw [List.length_map] at l1 l2
  (repeat (first | refine Jc ?_ | ((apply z_call; rfl; rfl; rfl; exact v1; rintro _ _ _ - ⟨rfl, rfl, rfl⟩)) | ((apply z_call; rfl; rfl; rfl; exact v2; rintro _ _ _ - ⟨rfl, rfl, rfl⟩)) | refine Jo ?_ | intro _))
  rename_i b2 b3 b4
  refine c_loop (fun m S' L F => Le S S' ∧ ∃ (i : Nat) (v : Value) (l : List PC), m = ys.length - i ∧ i ≤ ys.length ∧ ClV S' v l ∧ l = ((ys.map (·.p)).take i).foldl (putP (1)) (xs.map (·.p)) ∧ l.length ≤ xs.length + i ∧ (∀ p ∈ l, R44 p) ∧ L = [(b4, .cells [.slice none 0 0].toArray 24 (0, 0)), (b3, .cells [.slice B ys.length cb].toArray 24 (0, 0))] ∧
      F = [(3, .pointer (some ⟨b3, 0, none⟩)), (4, .pointer (some ⟨b4, 0, none⟩)), (6, v), (7, .int .i64 i)]) ⟨Le.refl _, 0, _, _, rfl, by omega, SkV.cl hA oka rfl rfl hca, rfl, by simp, fun p hp => R44_of (h1.each p hp), rfl, rfl⟩ sbF sbL ?_
  rintro m S' L F ⟨hle, i, v, l, rfl, hi, hcl, hlf, hll, hr, rfl, rfl⟩
  by_cases hlt : i < ys.length
  · obtain ⟨q, hq⟩ := at_lt' hlt
    have hqm : (ys.map (·.p))[i]? = some q.p := by rw [List.getElem?_map, hq]; rfl
    have hrq := R44_of (h2.each q.p (List.mem_of_getElem? hqm))
    have pc := rPut_con q (1) S' hcl ((okb q (List.mem_of_getElem? hq)).le hle) (by omega) hr hrq
    have hnl := putP_len (1) q.p l
    (repeat (first | refine Jc ?_ | (apply s_idx (hB.le hle); (case hg => rfl); (case hd => rfl); (case hx => rfl); (case hi => rfl); (case hm => rfl); (case hu => exact hq); intro p hp) | (apply s_load_ag; (case hg => rfl); (case hd => rfl); (case hx => rfl); (case hv => exact hp); (case hl => rfl)) | ((apply z_call; rfl; rfl; rfl; exact pc; rintro S2 _ v2' hle2 ⟨rfl, hcl2⟩)) | refine Jo ?_ | intro _))
    exact q_back (m' := ys.length - (i + 1)) ⟨hle.trans hle2, i + 1, v2', _, rfl, by omega, hcl2, by rw [take_at' hqm, List.foldl_append, ← hlf]; rfl, by omega, R44_put hrq hr, rfl, rfl⟩ (by omega) sbF sbL
  obtain rfl : i = ys.length := by omega
  rw [List.take_of_length_le (by rw [List.length_map]; omega)] at hlf
  have sc := rSketch_con S' hcl (by omega) hr
  rw [hlf] at sc
  (repeat (first | refine Jc ?_ | ((apply z_call; rfl; rfl; rfl; exact sc; rintro S2 _ _ hle2 ⟨rfl, v3, rfl, hsk⟩)) | refine Jo ?_ | intro _))
  obtain ⟨A3, n3, c3, rfl⟩ := hsk.form
  (repeat (first | refine Jz ?_ | intro _))
  exact o_ret_c2 (L' := []) (sz := 1) (cs := [.slice A3 n3 c3]) Tryd.results22 rfl rfl (by repeat (first | exact List.Mem.head _ | refine List.Mem.tail _ ?_ | exact List.mem_append_right _ (List.Mem.head _))) rfl (List.nil_sublist _) ⟨rfl, _, rfl, hsk⟩
set_option maxHeartbeats 1600000 in
theorem rSub_con {va vb : Value} {a b : List PC} (S : SH) (ha : SkC S va a) (hb : SkC S vb b) :
    Con Tryd.prog 24 #[va, vb] S [] (fun S' L' r => L' = [] ∧ ∃ v, r = .tuple #[v, .int .i64 (mergeR (-1) a b).2] ∧ SkV S' v (mergeR (-1) a b).1) := by
  obtain ⟨A, ca, xs, rfl, hca, hA, oka, la, rfl⟩ := ha
  obtain ⟨B, cb, ys, rfl, hcb, hB, okb, lb, rfl⟩ := hb
  refine con_of (args := [.agg [.slice A xs.length ca].toArray, .agg [.slice B ys.length cb].toArray]) Tryd.func24 rfl Tryd.ntmps24 rfl fun w => ?_
  have v1 := rValid_con xs A ca S hA oka (by omega)
  have v2 := rValid_con ys B cb S hB okb (by omega)
  unfold mergeR
  by_cases h1 : ValidP (xs.map (·.p))
  rotate_left
  · rw [bP_f h1] at v1
    rw [if_neg (fun h => h1 h.1)]
    (repeat (first | refine Jc ?_ | (apply s_evb; (case hg => rfl); (case hd => rfl); (case hn => rfl); (case he => (apply ev_buildS; (case hp => rfl); (case hz => rfl); (case h1 => rfl); (case hr => rfl)))) | ((apply z_call; rfl; rfl; rfl; exact v1; rintro _ _ _ - ⟨rfl, rfl, rfl⟩)) | refine Jo ?_ | intro _))
    exact o_ret_c2 (L' := []) (sz := 1) (cs := [.slice none 0 0]) Tryd.results24 rfl rfl (by repeat (first | exact List.Mem.head _ | refine List.Mem.tail _ ?_ | exact List.mem_append_right _ (List.Mem.head _))) rfl (List.nil_sublist _) ⟨rfl, _, rfl, nil_sk _⟩
  by_cases h2 : ValidP (ys.map (·.p))
  rotate_left
  · rw [bP_t h1] at v1
    rw [bP_f h2] at v2
    rw [if_neg (fun h => h2 h.2)]
    (repeat (first | refine Jc ?_ | (apply s_evb; (case hg => rfl); (case hd => rfl); (case hn => rfl); (case he => (apply ev_buildS; (case hp => rfl); (case hz => rfl); (case h1 => rfl); (case hr => rfl)))) | ((apply z_call; rfl; rfl; rfl; exact v1; rintro _ _ _ - ⟨rfl, rfl, rfl⟩)) | ((apply z_call; rfl; rfl; rfl; exact v2; rintro _ _ _ - ⟨rfl, rfl, rfl⟩)) | refine Jo ?_ | intro _))
    exact o_ret_c2 (L' := []) (sz := 1) (cs := [.slice none 0 0]) Tryd.results24 rfl rfl (by repeat (first | exact List.Mem.head _ | refine List.Mem.tail _ ?_ | exact List.mem_append_right _ (List.Mem.head _))) rfl (List.nil_sublist _) ⟨rfl, _, rfl, nil_sk _⟩
  rw [bP_t h1] at v1
  rw [bP_t h2] at v2
  rw [if_pos ⟨h1, h2⟩]
  have l1 := h1.len
  have l2 := h2.len
  rw [List.length_map] at l1 l2
  (repeat (first | refine Jc ?_ | ((apply z_call; rfl; rfl; rfl; exact v1; rintro _ _ _ - ⟨rfl, rfl, rfl⟩)) | ((apply z_call; rfl; rfl; rfl; exact v2; rintro _ _ _ - ⟨rfl, rfl, rfl⟩)) | refine Jo ?_ | intro _))
  rename_i b2 b3 b4
  refine c_loop (fun m S' L F => Le S S' ∧ ∃ (i : Nat) (v : Value) (l : List PC), m = ys.length - i ∧ i ≤ ys.length ∧ ClV S' v l ∧ l = ((ys.map (·.p)).take i).foldl (putP (-1)) (xs.map (·.p)) ∧ l.length ≤ xs.length + i ∧ (∀ p ∈ l, R44 p) ∧ L = [(b4, .cells [.slice none 0 0].toArray 24 (0, 0)), (b3, .cells [.slice B ys.length cb].toArray 24 (0, 0))] ∧
      F = [(3, .pointer (some ⟨b3, 0, none⟩)), (4, .pointer (some ⟨b4, 0, none⟩)), (6, v), (7, .int .i64 i)]) ⟨Le.refl _, 0, _, _, rfl, by omega, SkV.cl hA oka rfl rfl hca, rfl, by simp, fun p hp => R44_of (h1.each p hp), rfl, rfl⟩ sbF sbL ?_
  rintro m S' L F ⟨hle, i, v, l, rfl, hi, hcl, hlf, hll, hr, rfl, rfl⟩
  by_cases hlt : i < ys.length
  · obtain ⟨q, hq⟩ := at_lt' hlt
    have hqm : (ys.map (·.p))[i]? = some q.p := by rw [List.getElem?_map, hq]; rfl
    have hrq := R44_of (h2.each q.p (List.mem_of_getElem? hqm))
    have pc := rPut_con q (-1) S' hcl ((okb q (List.mem_of_getElem? hq)).le hle) (by omega) hr hrq
    have hnl := putP_len (-1) q.p l
    (repeat (first | refine Jc ?_ | (apply s_idx (hB.le hle); (case hg => rfl); (case hd => rfl); (case hx => rfl); (case hi => rfl); (case hm => rfl); (case hu => exact hq); intro p hp) | (apply s_load_ag; (case hg => rfl); (case hd => rfl); (case hx => rfl); (case hv => exact hp); (case hl => rfl)) | ((apply z_call; rfl; rfl; rfl; exact pc; rintro S2 _ v2' hle2 ⟨rfl, hcl2⟩)) | refine Jo ?_ | intro _))
    exact q_back (m' := ys.length - (i + 1)) ⟨hle.trans hle2, i + 1, v2', _, rfl, by omega, hcl2, by rw [take_at' hqm, List.foldl_append, ← hlf]; rfl, by omega, R44_put hrq hr, rfl, rfl⟩ (by omega) sbF sbL
  obtain rfl : i = ys.length := by omega
  rw [List.take_of_length_le (by rw [List.length_map]; omega)] at hlf
  have sc := rSketch_con S' hcl (by omega) hr
  rw [hlf] at sc
  (repeat (first | refine Jc ?_ | ((apply z_call; rfl; rfl; rfl; exact sc; rintro S2 _ _ hle2 ⟨rfl, v3, rfl, hsk⟩)) | refine Jo ?_ | intro _))
  obtain ⟨A3, n3, c3, rfl⟩ := hsk.form
  (repeat (first | refine Jz ?_ | intro _))
  exact o_ret_c2 (L' := []) (sz := 1) (cs := [.slice A3 n3 c3]) Tryd.results24 rfl rfl (by repeat (first | exact List.Mem.head _ | refine List.Mem.tail _ ?_ | exact List.mem_append_right _ (List.Mem.head _))) rfl (List.nil_sublist _) ⟨rfl, _, rfl, hsk⟩
end Go.Proofs.YtogfficbloejcaaDoor
namespace Go.Proofs.YtogfficbloejcaaDoor
open Go Go.X
set_option maxRecDepth 10000
set_option linter.unusedVariables false
attribute [local irreducible] Code.wpIn wpListIn Exit.then Exit.inBlock X.Out X.Back X.W X.Ev X.Con X.BinV X.Wh X.Wn X.Wq
noncomputable def makeR (l : List Fa) : List PC × Int := by classical exact if l.length ≤ 400 ∧ ∀ x ∈ l, FactP x then skOf (kept (mP 1 [] (l.map oneP))) else ([], 170)
theorem R44_one (x : Fa) : R44 (oneP x) := ⟨unitL_len _, unitL_len _⟩
set_option maxHeartbeats 3200000 in
theorem rMakeC_con (l : List Fa) (A : Option Addr) (c : Nat) (S : SH) (hA : At S A l) (hl : l.length ≤ 1000000) :
    Con Tryd.prog 17 #[.slice A l.length c] S [] (fun S' L' r => L' = [] ∧ ∃ v, r = .tuple #[v, .int .i64 (makeR l).2] ∧ SkC S' v (makeR l).1) := by
  refine con_of (args := [.slice A l.length c]) Tryd.func17 rfl Tryd.ntmps17 rfl fun w => ?_
  unfold makeR
  by_cases h4 : l.length ≤ 400
  rotate_left
  · rw [if_neg (fun h => h4 h.1)]
    (repeat (first | refine Jc ?_ | (apply s_evb; (case hg => rfl); (case hd => rfl); (case hn => rfl); (case he => (apply ev_buildS; (case hp => rfl); (case hz => rfl); (case h1 => rfl); (case hr => rfl)))) | refine Jo ?_ | intro _))
    exact o_ret_c2 (L' := []) (sz := 1) (cs := [.slice none 0 0]) Tryd.results17 rfl rfl (by repeat (first | exact List.Mem.head _ | refine List.Mem.tail _ ?_ | exact List.mem_append_right _ (List.Mem.head _))) rfl (List.nil_sublist _) ⟨rfl, _, rfl, nil_skc _⟩
  (repeat (first | refine Jz ?_ | intro _))
  rename_i b2
  refine c_loop (fun m S' L F => Le S S' ∧ ∃ (i : Nat) (v : Value) (cl : List PC), m = l.length - i ∧ i ≤ l.length ∧ (∀ x ∈ l.take i, FactP x) ∧ ClV S' v cl ∧ cl = mP 1 [] ((l.take i).map oneP) ∧ cl.length ≤ i ∧ (∀ p ∈ cl, R44 p) ∧ L = [(b2, .cells [.slice none 0 0].toArray 24 (0, 0))] ∧
      F = [(0, .slice A l.length c), (2, .pointer (some ⟨b2, 0, none⟩)), (4, v), (5, .int .i64 i)]) ⟨Le.refl _, 0, _, [], rfl, by omega, by simp, ⟨none, 0, [], rfl, by simp, At.nil _ _, fun q hq => absurd hq List.not_mem_nil, rfl⟩, rfl, by simp, fun p hp => absurd hp List.not_mem_nil, rfl, rfl⟩ sbF sbL ?_
  rintro m S' L F ⟨hle, i, v, cl, rfl, hi, hall, hcl, hclm, hcll, hr, rfl, rfl⟩
  by_cases hlt : i < l.length
  rotate_left
  · obtain rfl : i = l.length := by omega
    rw [List.take_length] at hall hclm
    rw [if_pos ⟨h4, hall⟩, ← hclm]
    have sc := rSketchC_con S' hcl (by omega) hr
    (repeat (first | refine Jc ?_ | ((apply z_call; rfl; rfl; rfl; exact sc; rintro S2 _ _ hle2 ⟨rfl, v3, rfl, hsk⟩)) | refine Jo ?_ | intro _))
    obtain ⟨A3, n3, c3, rfl⟩ := hsk.sk.form
    (repeat (first | refine Jz ?_ | intro _))
    exact o_ret_c2 (L' := []) (sz := 1) (cs := [.slice A3 n3 c3]) Tryd.results17 rfl rfl (by repeat (first | exact List.Mem.head _ | refine List.Mem.tail _ ?_ | exact List.mem_append_right _ (List.Mem.head _))) rfl (List.nil_sublist _) ⟨rfl, _, rfl, hsk⟩
  obtain ⟨x, hx⟩ := at_lt' hlt
  have vf := rValidFact_con x S'
  by_cases hf : FactP x
  rotate_left
  · rw [bP_f hf] at vf
    rw [if_neg (fun h => hf (h.2 x (List.mem_of_getElem? hx)))]
    (repeat (first | refine Jc ?_ | (apply s_evb; (case hg => rfl); (case hd => rfl); (case hn => rfl); (case he => (apply ev_buildS; (case hp => rfl); (case hz => rfl); (case h1 => rfl); (case hr => rfl)))) | (apply s_idx (hA.le hle); (case hg => rfl); (case hd => rfl); (case hx => rfl); (case hi => rfl); (case hm => rfl); (case hu => exact hx); intro p hp) | (apply s_load_ag; (case hg => rfl); (case hd => rfl); (case hx => rfl); (case hv => exact hp); (case hl => rfl)) | ((apply z_call; rfl; rfl; rfl; exact vf; rintro _ _ _ - ⟨rfl, rfl, rfl⟩)) | refine Jo ?_ | intro _))
    exact o_ret_c2 (L' := []) (sz := 1) (cs := [.slice none 0 0]) Tryd.results17 rfl rfl (by repeat (first | exact List.Mem.head _ | refine List.Mem.tail _ ?_ | exact List.mem_append_right _ (List.Mem.head _))) rfl (List.nil_sublist _) ⟨rfl, _, rfl, nil_skc _⟩
  rw [bP_t hf] at vf
  have hlo := hf.lo1
  have hhi := hf.hi1
  obtain ⟨nl, hnl, hnl4⟩ := bucket_nat (d := x.lo) (by omega)
  obtain ⟨nh, hnh, hnh4⟩ := bucket_nat (d := x.hi) (by omega)
  have hbl : ∀ S, Con Tryd.prog 14 #[.int .i64 x.lo] S [] (Pure S (.int .i64 (nl : Int))) := fun S => hnl ▸ rBucket_con x.lo S
  have hbh : ∀ S, Con Tryd.prog 14 #[.int .i64 x.hi] S [] (Pure S (.int .i64 (nh : Int))) := fun S => hnh ▸ rBucket_con x.hi S
  have hone : oneP x = ⟨x.sv, x.ve, x.op, x.dy, ⟨1, x.lo, x.hi, x.by_, unitL nl, unitL nh⟩⟩ := by rw [oneP, hnl, hnh]
  have hr1 := R44_one x
  have htk : mP 1 [] ((l.take (i + 1)).map oneP) = putP 1 cl (oneP x) := by
    rw [take_at' hx, List.map_append, mP, List.foldl_append, hclm]; rfl
  have hall' : ∀ y ∈ l.take (i + 1), FactP y := by
    intro y hy
    rw [take_at' hx] at hy
    rcases List.mem_append.1 hy with hy | hy
    · exact hall y hy
    · rw [List.mem_singleton.1 hy]; exact hf
  rw [hone] at htk hr1
  obtain ⟨tr, sp, sv, ve, op, pe, dy, lo, hi', bb⟩ := x
  unfold Fa.vals at vf
  dsimp only at *
  have he := rEmpty_con (⟨⟨sv, ve, op, dy, ⟨0, 0, 0, 0, [], []⟩⟩, none, 0, none, 0⟩ : Ce) S'
  (repeat (first | refine Jc ?_ | (apply s_evb; (case hg => rfl); (case hd => rfl); (case hn => rfl); (case he => (apply ev_buildS; (case hp => rfl); (case hz => rfl); (case h1 => rfl); (case hr => rfl)))) | (apply s_idx (hA.le hle); (case hg => rfl); (case hd => rfl); (case hx => rfl); (case hi => rfl); (case hm => rfl); (case hu => exact hx); intro p (hp : Pts _ p [.int .i64 tr, .int .i64 sp, .int .i64 sv, .int .i64 ve, .int .i64 op, .int .i64 pe, .int .i64 dy, .int .i64 lo, .int .i64 hi', .int .i64 bb])) | (apply s_load_ag; (case hg => rfl); (case hd => rfl); (case hx => rfl); (case hv => exact hp); (case hl => rfl)) | ((apply z_call; rfl; rfl; rfl; exact vf; rintro _ _ _ - ⟨rfl, rfl, rfl⟩)) | ((apply z_call; rfl; rfl; rfl; exact he; rintro S2 L2 v2 - ⟨rfl, el, eh, rfl, rfl⟩)) | refine Jo ?_ | intro _))
  rename_i bx bc
  refine W.perm (L' := [(bc, .cells [.int .i64 sv, .int .i64 ve, .int .i64 op, .int .i64 dy, .int .i64 1, .int .i64 lo, .int .i64 hi', .int .i64 bb, .slice (some ⟨el, 0, none⟩) 44 44, .slice (some ⟨eh, 0, none⟩) 44 44].toArray 45 (0, 0)), (el, .cells (ints (fun _ => 0) 44).toArray 3 (0, 0)), (eh, .cells (ints (fun _ => 0) 44).toArray 3 (0, 0)), (bx, .cells [.int .i64 tr, .int .i64 sp, .int .i64 sv, .int .i64 ve, .int .i64 op, .int .i64 pe, .int .i64 dy, .int .i64 lo, .int .i64 hi', .int .i64 bb].toArray 27 (0, 0)), (b2, .cells [.slice none 0 0].toArray 24 (0, 0))]) ?_ (List.Perm.refl _)
  ((apply c_held ([(bc, .cells [.int .i64 sv, .int .i64 ve, .int .i64 op, .int .i64 dy, .int .i64 1, .int .i64 lo, .int .i64 hi', .int .i64 bb, .slice (some ⟨el, 0, none⟩) 44 44, .slice (some ⟨eh, 0, none⟩) 44 44].toArray 45 (0, 0)), (eh, .cells (ints (fun _ => 0) 44).toArray 3 (0, 0)), (bx, .cells [.int .i64 tr, .int .i64 sp, .int .i64 sv, .int .i64 ve, .int .i64 op, .int .i64 pe, .int .i64 dy, .int .i64 lo, .int .i64 hi', .int .i64 bb].toArray 27 (0, 0)), (b2, .cells [.slice none 0 0].toArray 24 (0, 0))]); (case hL => (exact sbT))); (first | (apply h_first 0; (case hi => rfl); (case hr => kernel_rfl); (case hfr => kernel_rfl); (case hsel => kernel_rfl); (case hg => rfl); (case hd => rfl); (case he => (apply ev_idxo1; (case hx => rfl); (case hi => rfl); (case hk => omega)))) | refine Jf 0 ?_); (first | (apply h_first 1; (case hi => rfl); (case hr => kernel_rfl); (case hfr => kernel_rfl); (case hsel => kernel_rfl); (case hg => rfl); (case hd => rfl); (case he => (apply ev_idxo1; (case hx => rfl); (case hi => rfl); (case hk => omega)))) | refine Jf 1 ?_); (first | (apply h_first 2; (case hi => rfl); (case hr => kernel_rfl); (case hfr => kernel_rfl); (case hsel => kernel_rfl); (case hg => rfl); (case hd => rfl); (case he => (apply ev_idxo1; (case hx => rfl); (case hi => rfl); (case hk => omega)))) | refine Jf 2 ?_); (first | (apply h_first 3; (case hi => rfl); (case hr => kernel_rfl); (case hfr => kernel_rfl); (case hsel => kernel_rfl); (case hg => rfl); (case hd => rfl); (case he => (apply ev_idxo1; (case hx => rfl); (case hi => rfl); (case hk => omega)))) | refine Jf 3 ?_); (apply h_one 4; (case hr => kernel_rfl)); (first | (apply n_call; (case hi => rfl); (case i1 => infer_instance); (case hg => rfl); (case hd => rfl); (case ha => rfl); (case hc => exact hbl _); (case hL => (exact pmT)); (case hsub => (intros; (exact sbT))); rintro _ _ _ - ⟨rfl, rfl, rfl⟩) | (apply n_ev; (case hi => rfl); (case hg => rfl); (case hd => rfl); (case he => (apply ev_load_own; (case hx => rfl); (case hm => (repeat (first | exact List.Mem.head _ | apply List.Mem.tail | apply List.mem_append_right))); (case h => exact ints_nth _ _ nl (by omega))))) | (apply n_store; (case hi => rfl); (case i1 => infer_instance); (case hg => rfl); (case hx => rfl); (case hy => rfl); (case h1 => rfl); (case hL => (repeat (first | exact Upd.head | apply Upd.tail | apply Upd.app))); (case hu => exact ints_nth _ _ nl (by omega)); (case hsub => (intro _; exact sbL))) | (refine Jn ?_; try intro _)); (first | (apply h_first 5; (case hi => rfl); (case hr => kernel_rfl); (case hfr => kernel_rfl); (case hsel => kernel_rfl); (case hg => rfl); (case hd => rfl); (case he => (apply ev_idxo1; (case hx => rfl); (case hi => rfl); (case hk => omega)))) | refine Jf 5 ?_); (apply h_one 6; (case hr => kernel_rfl)); (first | (apply n_call; (case hi => rfl); (case i1 => infer_instance); (case hg => rfl); (case hd => rfl); (case ha => rfl); (case hc => exact hbl _); (case hL => (exact pmT)); (case hsub => (intros; (exact sbT))); rintro _ _ _ - ⟨rfl, rfl, rfl⟩) | (apply n_ev; (case hi => rfl); (case hg => rfl); (case hd => rfl); (case he => (apply ev_load_own; (case hx => rfl); (case hm => (repeat (first | exact List.Mem.head _ | apply List.Mem.tail | apply List.mem_append_right))); (case h => exact ints_nth _ _ nl (by omega))))) | (apply n_store; (case hi => rfl); (case i1 => infer_instance); (case hg => rfl); (case hx => rfl); (case hy => rfl); (case h1 => rfl); (case hL => (repeat (first | exact Upd.head | apply Upd.tail | apply Upd.app))); (case hu => exact ints_nth _ _ nl (by omega)); (case hsub => (intro _; exact sbL))) | (refine Jn ?_; try intro _)); (first | (apply h_first 7; (case hi => rfl); (case hr => kernel_rfl); (case hfr => kernel_rfl); (case hsel => kernel_rfl); (case hg => rfl); (case hd => rfl); (case he => (apply ev_idxo1; (case hx => rfl); (case hi => rfl); (case hk => omega)))) | refine Jf 7 ?_); (first | (apply h_first 8; (case hi => rfl); (case hr => kernel_rfl); (case hfr => kernel_rfl); (case hsel => kernel_rfl); (case hg => rfl); (case hd => rfl); (case he => (apply ev_idxo1; (case hx => rfl); (case hi => rfl); (case hk => omega)))) | refine Jf 8 ?_); (apply h_one 9; (case hr => kernel_rfl)); (first | (apply n_call; (case hi => rfl); (case i1 => infer_instance); (case hg => rfl); (case hd => rfl); (case ha => rfl); (case hc => exact hbl _); (case hL => (exact pmT)); (case hsub => (intros; (exact sbT))); rintro _ _ _ - ⟨rfl, rfl, rfl⟩) | (apply n_ev; (case hi => rfl); (case hg => rfl); (case hd => rfl); (case he => (apply ev_load_own; (case hx => rfl); (case hm => (repeat (first | exact List.Mem.head _ | apply List.Mem.tail | apply List.mem_append_right))); (case h => exact ints_nth _ _ nl (by omega))))) | (apply n_store; (case hi => rfl); (case i1 => infer_instance); (case hg => rfl); (case hx => rfl); (case hy => rfl); (case h1 => rfl); (case hL => (repeat (first | exact Upd.head | apply Upd.tail | apply Upd.app))); (case hu => exact ints_nth _ _ nl (by omega)); (case hsub => (intro _; exact sbL))) | (refine Jn ?_; try intro _)); (apply h_end; (case hr => kernel_rfl)))
  rw [ints_set]
  (repeat (first | refine Jz ?_ | intro _))
  ((apply c_held ([(bc, .cells [.int .i64 sv, .int .i64 ve, .int .i64 op, .int .i64 dy, .int .i64 1, .int .i64 lo, .int .i64 hi', .int .i64 bb, .slice (some ⟨el, 0, none⟩) 44 44, .slice (some ⟨eh, 0, none⟩) 44 44].toArray 45 (0, 0)), (el, .cells (ints (fun i => if i = nl then 0 + 1 else 0) 44).toArray 3 (0, 0)), (bx, .cells [.int .i64 tr, .int .i64 sp, .int .i64 sv, .int .i64 ve, .int .i64 op, .int .i64 pe, .int .i64 dy, .int .i64 lo, .int .i64 hi', .int .i64 bb].toArray 27 (0, 0)), (b2, .cells [.slice none 0 0].toArray 24 (0, 0))]); (case hL => (exact sbT))); (first | (apply h_first 0; (case hi => rfl); (case hr => kernel_rfl); (case hfr => kernel_rfl); (case hsel => kernel_rfl); (case hg => rfl); (case hd => rfl); (case he => (apply ev_idxo1; (case hx => rfl); (case hi => rfl); (case hk => omega)))) | refine Jf 0 ?_); (first | (apply h_first 1; (case hi => rfl); (case hr => kernel_rfl); (case hfr => kernel_rfl); (case hsel => kernel_rfl); (case hg => rfl); (case hd => rfl); (case he => (apply ev_idxo1; (case hx => rfl); (case hi => rfl); (case hk => omega)))) | refine Jf 1 ?_); (first | (apply h_first 2; (case hi => rfl); (case hr => kernel_rfl); (case hfr => kernel_rfl); (case hsel => kernel_rfl); (case hg => rfl); (case hd => rfl); (case he => (apply ev_idxo1; (case hx => rfl); (case hi => rfl); (case hk => omega)))) | refine Jf 2 ?_); (first | (apply h_first 3; (case hi => rfl); (case hr => kernel_rfl); (case hfr => kernel_rfl); (case hsel => kernel_rfl); (case hg => rfl); (case hd => rfl); (case he => (apply ev_idxo1; (case hx => rfl); (case hi => rfl); (case hk => omega)))) | refine Jf 3 ?_); (apply h_one 4; (case hr => kernel_rfl)); (first | (apply n_call; (case hi => rfl); (case i1 => infer_instance); (case hg => rfl); (case hd => rfl); (case ha => rfl); (case hc => exact hbh _); (case hL => (exact pmT)); (case hsub => (intros; (exact sbT))); rintro _ _ _ - ⟨rfl, rfl, rfl⟩) | (apply n_ev; (case hi => rfl); (case hg => rfl); (case hd => rfl); (case he => (apply ev_load_own; (case hx => rfl); (case hm => (repeat (first | exact List.Mem.head _ | apply List.Mem.tail | apply List.mem_append_right))); (case h => exact ints_nth _ _ nh (by omega))))) | (apply n_store; (case hi => rfl); (case i1 => infer_instance); (case hg => rfl); (case hx => rfl); (case hy => rfl); (case h1 => rfl); (case hL => (repeat (first | exact Upd.head | apply Upd.tail | apply Upd.app))); (case hu => exact ints_nth _ _ nh (by omega)); (case hsub => (intro _; exact sbL))) | (refine Jn ?_; try intro _)); (first | (apply h_first 5; (case hi => rfl); (case hr => kernel_rfl); (case hfr => kernel_rfl); (case hsel => kernel_rfl); (case hg => rfl); (case hd => rfl); (case he => (apply ev_idxo1; (case hx => rfl); (case hi => rfl); (case hk => omega)))) | refine Jf 5 ?_); (apply h_one 6; (case hr => kernel_rfl)); (first | (apply n_call; (case hi => rfl); (case i1 => infer_instance); (case hg => rfl); (case hd => rfl); (case ha => rfl); (case hc => exact hbh _); (case hL => (exact pmT)); (case hsub => (intros; (exact sbT))); rintro _ _ _ - ⟨rfl, rfl, rfl⟩) | (apply n_ev; (case hi => rfl); (case hg => rfl); (case hd => rfl); (case he => (apply ev_load_own; (case hx => rfl); (case hm => (repeat (first | exact List.Mem.head _ | apply List.Mem.tail | apply List.mem_append_right))); (case h => exact ints_nth _ _ nh (by omega))))) | (apply n_store; (case hi => rfl); (case i1 => infer_instance); (case hg => rfl); (case hx => rfl); (case hy => rfl); (case h1 => rfl); (case hL => (repeat (first | exact Upd.head | apply Upd.tail | apply Upd.app))); (case hu => exact ints_nth _ _ nh (by omega)); (case hsub => (intro _; exact sbL))) | (refine Jn ?_; try intro _)); (first | (apply h_first 7; (case hi => rfl); (case hr => kernel_rfl); (case hfr => kernel_rfl); (case hsel => kernel_rfl); (case hg => rfl); (case hd => rfl); (case he => (apply ev_idxo1; (case hx => rfl); (case hi => rfl); (case hk => omega)))) | refine Jf 7 ?_); (first | (apply h_first 8; (case hi => rfl); (case hr => kernel_rfl); (case hfr => kernel_rfl); (case hsel => kernel_rfl); (case hg => rfl); (case hd => rfl); (case he => (apply ev_idxo1; (case hx => rfl); (case hi => rfl); (case hk => omega)))) | refine Jf 8 ?_); (apply h_one 9; (case hr => kernel_rfl)); (first | (apply n_call; (case hi => rfl); (case i1 => infer_instance); (case hg => rfl); (case hd => rfl); (case ha => rfl); (case hc => exact hbh _); (case hL => (exact pmT)); (case hsub => (intros; (exact sbT))); rintro _ _ _ - ⟨rfl, rfl, rfl⟩) | (apply n_ev; (case hi => rfl); (case hg => rfl); (case hd => rfl); (case he => (apply ev_load_own; (case hx => rfl); (case hm => (repeat (first | exact List.Mem.head _ | apply List.Mem.tail | apply List.mem_append_right))); (case h => exact ints_nth _ _ nh (by omega))))) | (apply n_store; (case hi => rfl); (case i1 => infer_instance); (case hg => rfl); (case hx => rfl); (case hy => rfl); (case h1 => rfl); (case hL => (repeat (first | exact Upd.head | apply Upd.tail | apply Upd.app))); (case hu => exact ints_nth _ _ nh (by omega)); (case hsub => (intro _; exact sbL))) | (refine Jn ?_; try intro _)); (apply h_end; (case hr => kernel_rfl)))
  rw [ints_set]
  refine W.perm ?_ ((List.Perm.swap _ _ _).trans ((List.Perm.swap _ _ _).cons _))
  refine W.freeze fun S3 h3 hb3 => W.freeze fun S4 h4' hb4 => ?_
  have e1 := unitL_len (nl : Int)
  have e2 := unitL_len (nh : Int)
  have hq : (⟨⟨sv, ve, op, dy, ⟨1, lo, hi', bb, unitL nl, unitL nh⟩⟩, some ⟨el, 0, none⟩, 44, some ⟨eh, 0, none⟩, 44⟩ : Ce).vals = [.int .i64 sv, .int .i64 ve, .int .i64 op, .int .i64 dy, .int .i64 1, .int .i64 lo, .int .i64 hi', .int .i64 bb, .slice (some ⟨el, 0, none⟩) 44 44, .slice (some ⟨eh, 0, none⟩) 44 44] := by
    simp only [Ce.vals, e1, e2]
  have hok : (⟨⟨sv, ve, op, dy, ⟨1, lo, hi', bb, unitL nl, unitL nh⟩⟩, some ⟨el, 0, none⟩, 44, some ⟨eh, 0, none⟩, 44⟩ : Ce).ok S4 :=
    ⟨at_unit (h4' _ _ hb3), at_unit hb4, Nat.le_of_eq e1, Nat.le_of_eq e2, by simp only [e1]; decide, by simp only [e2]; decide⟩
  have pc := rPut_con (⟨⟨sv, ve, op, dy, ⟨1, lo, hi', bb, unitL nl, unitL nh⟩⟩, some ⟨el, 0, none⟩, 44, some ⟨eh, 0, none⟩, 44⟩ : Ce) 1 S4 (hcl.le (h3.trans h4')) hok (by omega) hr hr1
  rw [hq] at pc
  have hpl := putP_len 1 ⟨sv, ve, op, dy, ⟨1, lo, hi', bb, unitL nl, unitL nh⟩⟩ cl
  (repeat (first | refine Jc ?_ | ((apply z_call; rfl; rfl; rfl; exact pc; rintro S5 _ v5 hle5 ⟨rfl, hcl5⟩)) | refine Jo ?_ | intro _))
  exact q_back (m' := l.length - (i + 1)) ⟨((hle.trans h3).trans h4').trans hle5, i + 1, v5, _, rfl, by omega, hall', hcl5, htk.symm, Nat.le_trans hpl (by omega), R44_put hr1 hr, rfl, rfl⟩ (by omega) sbF sbL
theorem rMake_con (l : List Fa) (A : Option Addr) (c : Nat) (S : SH) (hA : At S A l) (hl : l.length ≤ 1000000) :
    Con Tryd.prog 17 #[.slice A l.length c] S [] (fun S' L' r => L' = [] ∧ ∃ v, r = .tuple #[v, .int .i64 (makeR l).2] ∧ SkV S' v (makeR l).1) :=
  (rMakeC_con l A c S hA hl).mono fun S' L' r _ ⟨h1, v, h2, h3⟩ => ⟨h1, v, h2, h3.sk⟩
end Go.Proofs.YtogfficbloejcaaDoor
namespace Go.Proofs.YtogfficbloejcaaDoor
open Go Go.X
set_option maxRecDepth 10000
set_option linter.unusedVariables false
attribute [local irreducible] Code.wpIn wpListIn Exit.then Exit.inBlock X.Out X.Back X.W X.Ev X.Con X.BinV X.Wh X.Wn X.Wq
def rawOk (S : SH) (q : Ce) : Prop := At S q.la q.p.x.ls ∧ At S q.ha q.p.x.hs ∧ q.p.x.ls.length ≤ q.lc ∧ q.p.x.hs.length ≤ q.hc
theorem rawOk.le {S T : SH} {q : Ce} (h : rawOk S q) (k : Le S T) : rawOk T q := ⟨h.1.le k, h.2.1.le k, h.2.2⟩
theorem valid_nil : ValidP [] := ⟨fun c hc => absurd hc List.not_mem_nil, fun i a b h => by simp at h, by simp⟩
set_option maxHeartbeats 1600000 in
theorem fewC_con (raw : List Ce) (A : Option Addr) (c : Nat) (S : SH) (hA : At S A raw) (hr : ∀ q ∈ raw, rawOk S q) :
    Con Tryd.prog 19 #[.agg #[.slice A raw.length c]] S [] (fun S' L' v => L' = [] ∧ ∃ l, SkC S' v l) := by
  refine con_of (args := [.agg [.slice A raw.length c].toArray]) Tryd.func19 rfl Tryd.ntmps19 rfl fun w => ?_
  (repeat (first | refine Jc ?_ | (apply s_evb; (case hg => rfl); (case hd => rfl); (case hn => rfl); (case he => (apply ev_buildS; (case hp => rfl); (case hz => rfl); (case h1 => rfl); (case hr => rfl)))) | refine Jo ?_ | intro _))
  rename_i b1 b2 b3
  refine c_loop (fun m S' L F => S' = S ∧ ∃ (i : Nat) (lc : List Ce) (pv : Value) (ob : Blocks), m = raw.length - i ∧ i ≤ raw.length ∧ i ≤ 6 ∧ Ows 45 pv lc ob ∧ (∀ q ∈ lc, q.ok S) ∧ lc.length = i ∧ L = ob ++ [(b3, .cells [pv].toArray 24 (0, 0)), (b2, .cells [.slice none 0 0].toArray 24 (0, 0)), (b1, .cells [.slice A raw.length c].toArray 24 (0, 0))] ∧
      F = [(1, .pointer (some ⟨b1, 0, none⟩)), (2, .pointer (some ⟨b2, 0, none⟩)), (3, .pointer (some ⟨b3, 0, none⟩)), (4, .int .i64 i)]) ⟨rfl, 0, [], .slice none 0 0, [], rfl, by omega, by omega, Ows.nil 45, fun q hq => absurd hq List.not_mem_nil, rfl, rfl, rfl⟩ sbF (List.Sublist.refl _) ?_
  rintro m S' L F ⟨rfl, i, lc, pv, ob, rfl, hi, hi6, hob, hok, hlc, rfl, rfl⟩
  by_cases hlt : i < raw.length
  rotate_left
  · (repeat (first | refine Jz ?_ | intro _))
    refine W.freezeOws hob (by repeat (first | exact pm_nil _ | exact pm_refl _ _ | exact pm_self _ | refine pm_cons ?_ | refine pm_app ?_)) fun S2 hle2 hsr => ?_
    obtain ⟨A2, c2, rfl, hc2, hA2⟩ := hsr
    (repeat (first | refine Jz ?_ | intro _))
    exact o_ret_cell (L' := []) (sz := 1) (cs := [.slice A2 lc.length c2]) Tryd.results19 rfl (by repeat (first | exact List.Mem.head _ | refine List.Mem.tail _ ?_ | exact List.mem_append_right _ (List.Mem.head _))) rfl (List.nil_sublist _) ⟨rfl, _, ⟨A2, c2, lc, rfl, hc2, hA2, fun q hq => (hok q hq).le hle2, by omega, rfl⟩⟩
  by_cases hlt6 : i < 6
  rotate_left
  · (repeat (first | refine Jz ?_ | intro _))
    refine W.freezeOws hob (by repeat (first | exact pm_nil _ | exact pm_refl _ _ | exact pm_self _ | refine pm_cons ?_ | refine pm_app ?_)) fun S2 hle2 hsr => ?_
    obtain ⟨A2, c2, rfl, hc2, hA2⟩ := hsr
    (repeat (first | refine Jz ?_ | intro _))
    exact o_ret_cell (L' := []) (sz := 1) (cs := [.slice A2 lc.length c2]) Tryd.results19 rfl (by repeat (first | exact List.Mem.head _ | refine List.Mem.tail _ ?_ | exact List.mem_append_right _ (List.Mem.head _))) rfl (List.nil_sublist _) ⟨rfl, _, ⟨A2, c2, lc, rfl, hc2, hA2, fun q hq => (hok q hq).le hle2, by omega, rfl⟩⟩
  obtain ⟨q, hq⟩ := at_lt' hlt
  have hqok := hr q (List.mem_of_getElem? hq)
  obtain ⟨⟨ps, pv', po, pd, ⟨xn, xl, xh, xb, xls, xhs⟩⟩, qla, qlc, qha, qhc⟩ := q
  obtain ⟨q1, q2, q3, q4⟩ := hqok
  dsimp only at q1 q2 q3 q4
  (repeat (first | refine Jc ?_ | (apply s_idx hA; (case hg => rfl); (case hd => rfl); (case hx => rfl); (case hi => rfl); (case hm => rfl); (case hu => exact hq); intro p (hp : Pts _ p [.int .i64 ps, .int .i64 pv', .int .i64 po, .int .i64 pd, .int .i64 xn, .int .i64 xl, .int .i64 xh, .int .i64 xb, .slice qla xls.length qlc, .slice qha xhs.length qhc])) | (apply s_load_ag; (case hg => rfl); (case hd => rfl); (case hx => rfl); (case hv => exact hp); (case hl => rfl)) | (apply s_minn (j := 45); (case hg => rfl); (case hd => rfl); (case hx => rfl); (case hy => rfl)) | (apply s_slice_hi q1; (case hg => rfl); (case hd => rfl); (case hx => rfl); (case hy => rfl); (case hm => rfl); (case hmc => exact q3); (case hj => omega); intro A1 hA1) | (apply s_slice_hi q2; (case hg => rfl); (case hd => rfl); (case hx => rfl); (case hy => rfl); (case hm => rfl); (case hmc => exact q4); (case hj => omega); intro A2 hA2) | refine Jo ?_ | intro _))
  obtain ⟨cc, hcc⟩ : ∃ cc : Ce, cc = ⟨⟨ps, pv', po, pd, ⟨xn, xl, xh, xb, xls.take (min xls.length 45), xhs.take (min xhs.length 45)⟩⟩, A1, qlc, A2, qhc⟩ := ⟨_, rfl⟩
  have hok' : cc.ok S' := by
    rw [hcc]
    exact ⟨hA1, hA2, by simp only [List.length_take]; omega, by simp only [List.length_take]; omega, by simp only [List.length_take]; omega, by simp only [List.length_take]; omega⟩
  have hvs : cc.vals = [.int .i64 ps, .int .i64 pv', .int .i64 po, .int .i64 pd, .int .i64 xn, .int .i64 xl, .int .i64 xh, .int .i64 xb, .slice A1 (xls.take (min xls.length 45)).length qlc, .slice A2 (xhs.take (min xhs.length 45)).length qhc] := by rw [hcc]; rfl
  clear hcc
  (repeat (first | refine Jc ?_ | (apply s_append (ms := [cc]); (case hg => rfl); (case hd => rfl); (case hx => rfl); (case ho => exact hob); (case hL => (exact pmT)); (case hy => rfl); (case hm => rfl); (case hs => (apply Src.own; rw [show cellsOf [cc] = cc.vals from List.append_nil _, hvs]; (repeat (first | exact List.Mem.head _ | apply List.Mem.tail | apply List.mem_append_right)))); (case hzs => rfl); (case h0 => decide); (case hb => (simp; omega)); (case h63 => (simp; omega)); intro v' ob' ho'; obtain ⟨A', c', rfl⟩ := ho'.form) | refine Jo ?_ | intro _))
  refine q_back (m' := raw.length - (i + 1)) ⟨rfl, i + 1, lc ++ [cc], _, ob', rfl, by omega, by omega, ho', fun x hx => ?_, by simp [hlc], rfl, rfl⟩ (by omega) sbF sbL
  rcases List.mem_append.1 hx with hx | hx
  · exact hok x hx
  · rw [List.mem_singleton.1 hx]; exact hok'
theorem madeC_con (xs : List K4) (A : Option Addr) (c : Nat) (S : SH) (hA : At S A xs) (hx : ∀ x ∈ xs, K4ok x) :
    Con Tryd.prog 20 #[.slice A xs.length c] S [] (fun S' L' v => L' = [] ∧ ∃ l, SkC S' v l ∧ ValidP l) := by
  refine con_of (args := [.slice A xs.length c]) Tryd.func20 rfl Tryd.ntmps20 rfl fun w => ?_
  (repeat (first | refine Jc ?_ | ((apply z_call; rfl; rfl; rfl; exact MadeFacts_con xs A c S hA hx; rintro S2 _ _ hle2 ⟨rfl, Al, cl, l, rfl, hAl, hcl, hll, hlf⟩)) | refine Jo ?_ | intro _))
  have hm := rMakeC_con l Al cl S2 hAl (by omega)
  have hv : ((makeR l).2 = 0 ∧ ValidP (makeR l).1) ∨ (makeR l).2 = 170 := by
    unfold makeR
    split
    · unfold skOf
      split
      · exact .inl ⟨rfl, by assumption⟩
      · exact .inr rfl
    · exact .inr rfl
  generalize makeR l = ml at *
  obtain ⟨ms, me⟩ := ml
  simp only at hm hv
  rcases hv with ⟨rfl, hv⟩ | rfl
  · (repeat (first | refine Jc ?_ | ((apply z_call; rfl; rfl; rfl; exact hm; rintro S3 _ _ hle3 ⟨rfl, v, rfl, hs⟩; obtain ⟨B, nb, cb, rfl⟩ := hs.sk.form)) | refine Jo ?_ | intro _))
    exact o_ret_cell (L' := []) (sz := 1) (cs := [.slice B nb cb]) Tryd.results20 rfl (by repeat (first | exact List.Mem.head _ | refine List.Mem.tail _ ?_ | exact List.mem_append_right _ (List.Mem.head _))) rfl (List.nil_sublist _) ⟨rfl, ms, hs, hv⟩
  · (repeat (first | refine Jc ?_ | (apply s_evb; (case hg => rfl); (case hd => rfl); (case hn => rfl); (case he => (apply ev_buildS; (case hp => rfl); (case hz => rfl); (case h1 => rfl); (case hr => rfl)))) | ((apply z_call; rfl; rfl; rfl; exact hm; rintro S3 _ _ hle3 ⟨rfl, v, rfl, hs⟩; obtain ⟨B, nb, cb, rfl⟩ := hs.sk.form)) | refine Jo ?_ | intro _))
    exact o_ret_cell (L' := []) (sz := 1) (cs := [.slice none 0 0]) Tryd.results20 rfl (by repeat (first | exact List.Mem.head _ | refine List.Mem.tail _ ?_ | exact List.mem_append_right _ (List.Mem.head _))) rfl (List.nil_sublist _) ⟨rfl, [], nil_skc _, valid_nil⟩
theorem few_con (raw : List Ce) (A : Option Addr) (c : Nat) (S : SH) (hA : At S A raw) (hr : ∀ q ∈ raw, rawOk S q) :
    Con Tryd.prog 19 #[.agg #[.slice A raw.length c]] S [] (fun S' L' v => L' = [] ∧ ∃ l, SkV S' v l) :=
  (fewC_con raw A c S hA hr).mono fun S' L' r _ ⟨h1, l, h2⟩ => ⟨h1, l, h2.sk⟩
theorem made_con (xs : List K4) (A : Option Addr) (c : Nat) (S : SH) (hA : At S A xs) (hx : ∀ x ∈ xs, K4ok x) :
    Con Tryd.prog 20 #[.slice A xs.length c] S [] (fun S' L' v => L' = [] ∧ ∃ l, SkV S' v l ∧ ValidP l) :=
  (madeC_con xs A c S hA hx).mono fun S' L' r _ ⟨h1, l, h2, h3⟩ => ⟨h1, l, h2.sk, h3⟩
end Go.Proofs.YtogfficbloejcaaDoor
namespace Go.Proofs.YtogfficbloejcaaDoor
open Go Go.X
set_option maxRecDepth 10000
set_option linter.unusedVariables false
attribute [local irreducible] Code.wpIn wpListIn Exit.then Exit.inBlock X.Out X.Back X.W X.Ev X.Con X.BinV X.Wh X.Wn X.Wq
theorem bef_trans {a b c : PC} (h1 : Bef a b) (h2 : Bef b c) : Bef a c := by
  unfold Bef at *
  exact (cmpL_le (Int.le_of_lt h1) (Int.le_of_lt h2)).2 (.inl h1)
theorem bef_key {a b c : PC} (h : b.key = c.key) : Bef a b ↔ Bef a c := by unfold Bef; rw [h]
theorem bef_key' {a b c : PC} (h : a.key = b.key) : Bef a c ↔ Bef b c := by unfold Bef; rw [h]
/-- How a cell is put into a list in order. -/
theorem putP_form (by_ : Int) (c : PC) : ∀ P : List PC, P.Pairwise Bef →
    (∃ P1 p P2, P = P1 ++ p :: P2 ∧ p.key = c.key ∧ putP by_ P c = P1 ++ { p with x := vop (addB by_) p.x c.x } :: P2) ∨
    ((∀ p ∈ P, p.key ≠ c.key) ∧ ∃ P1 P2, P = P1 ++ P2 ∧ putP by_ P c = P1 ++ { c with x := vop (addB by_) zero44 c.x } :: P2 ∧ (∀ p ∈ P1, Bef p c) ∧ ∀ p ∈ P2, Bef c p)
  | [], _ => .inr ⟨fun p hp => absurd hp List.not_mem_nil, [], [], rfl, rfl, fun p hp => absurd hp List.not_mem_nil, fun p hp => absurd hp List.not_mem_nil⟩
  | p :: P, h => by
    obtain ⟨h1, h2⟩ := List.pairwise_cons.1 h
    by_cases b1 : Bef p c
    · rw [putP, if_pos b1]
      rcases putP_form by_ c P h2 with ⟨P1, q, P2, e1, e2, e3⟩ | ⟨hn, P1, P2, e1, e2, e3, e4⟩
      · exact .inl ⟨p :: P1, q, P2, by rw [e1]; rfl, e2, by rw [e3]; rfl⟩
      · refine .inr ⟨fun q hq => ?_, p :: P1, P2, by rw [e1]; rfl, by rw [e2]; rfl, fun q hq => ?_, e4⟩
        · rcases List.mem_cons.1 hq with rfl | hq
          · exact fun e => bef_irr _ _ e b1
          · exact hn q hq
        · rcases List.mem_cons.1 hq with rfl | hq
          · exact b1
          · exact e3 q hq
    · by_cases b2 : Bef c p
      · rw [putP, if_neg b1, if_pos b2]
        refine .inr ⟨fun q hq => ?_, [], p :: P, rfl, rfl, fun q hq => absurd hq List.not_mem_nil, fun q hq => ?_⟩
        · rcases List.mem_cons.1 hq with rfl | hq
          · exact fun e => bef_irr _ _ e.symm b2
          · exact fun e => bef_irr _ _ e.symm (bef_trans b2 (h1 q hq))
        · rcases List.mem_cons.1 hq with rfl | hq
          · exact b2
          · exact bef_trans b2 (h1 q hq)
      · rw [putP, if_neg b1, if_neg b2]
        exact .inl ⟨[], p, P, rfl, bef_eq b1 b2, rfl⟩
theorem putP_sorted {by_ : Int} {c : PC} {P : List PC} (h : P.Pairwise Bef) : (putP by_ P c).Pairwise Bef := by
  rcases putP_form by_ c P h with ⟨P1, p, P2, rfl, hk, e⟩ | ⟨hn, P1, P2, rfl, e, h1, h2⟩
  · rw [e]
    rw [List.pairwise_append] at h ⊢
    obtain ⟨a1, a2, a3⟩ := h
    obtain ⟨b1, b2⟩ := List.pairwise_cons.1 a2
    refine ⟨a1, List.pairwise_cons.2 ⟨fun q hq => (bef_key' rfl).1 (b1 q hq), b2⟩, fun x hx y hy => ?_⟩
    rcases List.mem_cons.1 hy with rfl | hy
    · exact (bef_key rfl).1 (a3 x hx p List.mem_cons_self)
    · exact a3 x hx y (List.mem_cons_of_mem _ hy)
  · rw [e]
    rw [List.pairwise_append] at h ⊢
    obtain ⟨a1, a2, a3⟩ := h
    refine ⟨a1, List.pairwise_cons.2 ⟨fun q hq => (bef_key' rfl).1 (h2 q hq), a2⟩, fun x hx y hy => ?_⟩
    rcases List.mem_cons.1 hy with rfl | hy
    · exact (bef_key rfl).1 (h1 x hx)
    · exact a3 x hx y hy
/-- A list of cells in order holds what a map holds. -/
structure RelM (P : List PC) (M : List (List Int × Vec)) : Prop where
  asc : P.Pairwise Bef
  look : ∀ k x, k.length = 4 → (lookG k M = some x ↔ mkPC k x ∈ P)
  nd : (M.map (·.1)).Nodup
  four : ∀ p ∈ M, p.1.length = 4
theorem mkPC_self (c : PC) : mkPC c.key c.x = c := rfl
theorem mkPC_inj {k : List Int} {x : Vec} {c : PC} (hk : k.length = 4) : mkPC k x = c ↔ c.key = k ∧ c.x = x := by
  constructor
  · rintro rfl; exact ⟨mkPC_key hk, rfl⟩
  · rintro ⟨rfl, rfl⟩; rfl
theorem rep_getD (n i : Nat) : (List.replicate n (0 : Int)).getD i 0 = 0 := by
  rw [List.getD_eq_getElem?_getD, List.getElem?_replicate]
  split <;> rfl
theorem vop_zero44 {g : Int → Int → Int} {x : Vec} (h1 : x.ls.length = 44) (h2 : x.hs.length = 44) : vop g zeroV x = vop g zero44 x := by
  have hz : ∀ {r : List Int}, r.length = 44 → zipL g [] r = zipL g (List.replicate 44 0) r := fun {r} h => by
    rw [zipL_44 g (a := List.replicate 44 0) (by simp) h]
    unfold zipL
    rw [h]
    refine List.map_congr_left fun i hi => ?_
    have hi' : i < 44 := by simpa using hi
    rw [zipF, if_pos hi']
    rw [rep_getD]; rfl
  unfold vop
  rw [show zeroV.ls = [] from rfl, show zeroV.hs = [] from rfl, hz h1, hz h2]
  rfl
theorem rel_put {by_ : Int} {P : List PC} {M : List (List Int × Vec)} {c : PC} (h : RelM P M) (hc : R44 c) : RelM (putP by_ P c) (stepM (addB by_) M c) := by
  refine ⟨putP_sorted h.asc, fun k x hk => ?_, upsG_nodup h.nd, fun p hp => ?_⟩
  · rw [show lookG k (stepM (addB by_) M c) = if k = c.key then some (vop (addB by_) ((lookG c.key M).getD zeroV) c.x) else lookG k M from lookG_ups _ _ _ _]
    have hlk := h.look c.key
    rcases putP_form by_ c P h.asc with ⟨P1, p, P2, rfl, hkp, e⟩ | ⟨hn, P1, P2, rfl, e, h1, h2⟩
    · have hlp : lookG c.key M = some p.x := (hlk p.x rfl).2 (by rw [← hkp, mkPC_self]; simp)
      rw [hlp, e]
      have hP1 : ∀ q ∈ P1, q.key ≠ c.key := fun q hq e2 => by
        have := (List.pairwise_append.1 h.asc).2.2 q hq p List.mem_cons_self
        exact bef_irr _ _ (e2.trans hkp.symm) this
      have hP2 : ∀ q ∈ P2, q.key ≠ c.key := fun q hq e2 => by
        have := (List.pairwise_cons.1 (List.pairwise_append.1 h.asc).2.1).1 q hq
        exact bef_irr _ _ (hkp.trans e2.symm) this
      by_cases hkc : k = c.key
      · subst hkc
        rw [if_pos rfl, List.mem_append, List.mem_cons, mkPC_inj rfl]
        simp only [Option.getD_some, Option.some.injEq]
        constructor
        · rintro rfl; exact .inr (.inl ⟨hkp, rfl⟩)
        · rintro (hq | ⟨_, e3⟩ | hq)
          · exact absurd rfl (hP1 (mkPC c.key x) hq)
          · exact e3
          · exact absurd rfl (hP2 (mkPC c.key x) hq)
      · rw [if_neg hkc, h.look k x hk, List.mem_append, List.mem_cons, List.mem_append, List.mem_cons, mkPC_inj hk, mkPC_inj hk]
        have hne : ∀ y : Vec, ¬ (({ p with x := y } : PC).key = k) := fun y e3 => hkc (e3.symm.trans hkp)
        constructor
        · rintro (hq | ⟨e3, _⟩ | hq)
          · exact .inl hq
          · exact absurd e3 (hne p.x)
          · exact .inr (.inr hq)
        · rintro (hq | ⟨e3, _⟩ | hq)
          · exact .inl hq
          · exact absurd e3 (hne _)
          · exact .inr (.inr hq)
    · have hlp : lookG c.key M = none := by
        cases hl : lookG c.key M with
        | none => rfl
        | some y => exact absurd (mkPC_key rfl) (hn _ ((hlk y rfl).1 hl))
      rw [hlp, e]
      simp only [Option.getD_none]
      rw [vop_zero44 hc.1 hc.2]
      by_cases hkc : k = c.key
      · subst hkc
        rw [if_pos rfl, List.mem_append, List.mem_cons, mkPC_inj rfl]
        simp only [Option.some.injEq]
        constructor
        · rintro rfl; exact .inr (.inl ⟨rfl, rfl⟩)
        · rintro (hq | ⟨_, e3⟩ | hq)
          · exact absurd rfl (hn (mkPC c.key x) (List.mem_append_left _ hq))
          · exact e3
          · exact absurd rfl (hn (mkPC c.key x) (List.mem_append_right _ hq))
      · rw [if_neg hkc, h.look k x hk, List.mem_append, List.mem_append, List.mem_cons, mkPC_inj hk]
        have hne : ∀ y : Vec, ¬ (({ c with x := y } : PC).key = k) := fun y e3 => hkc e3.symm
        constructor
        · rintro (hq | hq)
          · exact .inl hq
          · exact .inr (.inr hq)
        · rintro (hq | ⟨e3, _⟩ | hq)
          · exact .inl hq
          · exact absurd e3 (hne _)
          · exact .inr hq
  · rcases upsG_mem hp with rfl | hp
    · rfl
    · exact h.four p hp
theorem rel_fold {by_ : Int} : ∀ {b P : List PC} {M : List (List Int × Vec)}, RelM P M → (∀ c ∈ b, R44 c) → RelM (b.foldl (putP by_) P) (foldM (addB by_) b M)
  | [], _, _, h, _ => h
  | c :: b, P, M, h, hb => rel_fold (b := b) (rel_put h (hb c List.mem_cons_self)) fun d hd => hb d (List.mem_cons_of_mem _ hd)
theorem rel_nil : RelM [] [] := ⟨List.Pairwise.nil, fun k x _ => by simp [lookG], by simp, fun p hp => absurd hp List.not_mem_nil⟩
theorem kept_sorted {P : List PC} (h : P.Pairwise Bef) : (kept P).Pairwise Bef := h.filter _
/-- What join yields is what the reference yields. -/
theorem join_ref {M : List (List Int × Vec)} {P l : List PC} {e : Int} (hj : JoinP M l e) (h : RelM P M) : (l, e) = skOf (kept P) := by
  obtain ⟨l0, hp, hs, hr⟩ := hj
  have hmem : ∀ c, c ∈ l0 ↔ c ∈ kept P := by
    intro c
    rw [hp.mem_iff, kept, kept, List.mem_filter, List.mem_filter]
    have : c ∈ M.map (fun p => mkPC p.1 p.2) ↔ c ∈ P := by
      constructor
      · intro hc
        obtain ⟨⟨k, x⟩, hk, rfl⟩ := List.mem_map.1 hc
        exact (h.look k x (h.four _ hk)).1 (lookG_some h.nd hk)
      · intro hc
        have := (h.look c.key c.x rfl).2 (by rw [mkPC_self]; exact hc)
        exact List.mem_map.2 ⟨_, lookG_mem this, mkPC_self c⟩
    rw [this]
  have hkeys : (l0.map PC.key).Nodup := by
    rw [(hp.map PC.key).nodup_iff]
    have hk : (M.map fun p => mkPC p.1 p.2).map PC.key = M.map (·.1) := by
      rw [List.map_map]
      exact List.map_congr_left fun p hp => mkPC_key (h.four p hp)
    have : ((kept (M.map fun p => mkPC p.1 p.2)).map PC.key).Sublist (M.map (·.1)) := by rw [← hk]; exact (List.filter_sublist).map _
    exact h.nd.sublist this
  have hstr : l0.Pairwise fun a b => cmpL a.key b.key < 0 := by
    have h1 : l0.Pairwise fun a b => a.key ≠ b.key := by rw [List.nodup_iff_pairwise_ne, List.pairwise_map] at hkeys; exact hkeys
    exact (hs.and h1).imp fun {a b} ⟨q1, q2⟩ => by
      have q3 := cmpL_neg a.key b.key
      have q4 : cmpL a.key b.key ≠ 0 := fun e => q2 (cmpL_eq0 e)
      omega
  have heq : l0 = kept P := sorted_eq hstr (kept_sorted h.asc) hmem
  subst heq
  unfold skOf
  rcases hr with ⟨hv, rfl, rfl⟩ | ⟨hv, rfl, rfl⟩
  · rw [if_pos hv]
  · rw [if_neg hv]
theorem make_ref {l : List Fa} {s : List PC} {e : Int} (h : MakeP l s e) : (s, e) = makeR l := by
  unfold makeR
  rcases h with ⟨h1, h2, hj⟩ | ⟨h1, rfl, rfl⟩
  · rw [if_pos ⟨h1, h2⟩]
    rw [← addB_1] at hj
    refine join_ref hj (rel_fold rel_nil fun c hc => ?_)
    obtain ⟨x, _, rfl⟩ := List.mem_map.1 hc
    exact R44_one x
  · rw [if_neg h1]
theorem w64_0 {x : Int} (h : -9223372036854775808 ≤ x ∧ x ≤ 9223372036854775807) : plusW 0 x = x := by
  unfold plusW; rw [Int.zero_add]; exact w64_in h
theorem zip_zero44 {r : List Int} {n s : Int} (h : CountsP r n s) : zipL plusW (List.replicate 44 0) r = r := by
  rw [zipL_44 plusW (by simp) h.len]
  refine List.ext_getElem? fun i => ?_
  by_cases hi : i < 44
  · obtain ⟨y, hy⟩ := at_lt' (l := r) (by have := h.len; omega : i < r.length)
    have hb := h.each y (List.mem_of_getElem? hy)
    rw [hy, List.getElem?_map, List.getElem?_range hi]
    simp only [Option.map_some, getD_some hy]
    rw [rep_getD, w64_0 (by omega)]
  · rw [List.getElem?_eq_none (by simp; omega), List.getElem?_eq_none (by have := h.len; omega)]
theorem vop_zero_id {x : Vec} (h : CellP x) : vop plusW zero44 x = x := by
  obtain ⟨n1, n2, b1, b2, lo, hi⟩ := h
  have l1 := lo.sum_bd
  have l2 := hi.sum_bd
  unfold vop
  rw [show zero44.ls = List.replicate 44 0 from rfl, show zero44.hs = List.replicate 44 0 from rfl, zip_zero44 lo, zip_zero44 hi]
  rw [show zero44.n = 0 from rfl, show zero44.lo = 0 from rfl, show zero44.hi = 0 from rfl, show zero44.by_ = 0 from rfl, w64_0 (by omega), w64_0 (by omega), w64_0 (by omega), w64_0 (by omega)]
theorem valid_sorted {a : List PC} (h : ValidP a) : a.Pairwise Bef := by
  have key : ∀ (l : List PC), (∀ (i : Nat) (x y : PC), l[i]? = some x → l[i + 1]? = some y → Bef x y) → l.Pairwise Bef := by
    intro l
    induction l with
    | nil => exact fun _ => List.Pairwise.nil
    | cons p l ih =>
      intro hl
      have ih' := ih fun i x y hx hy => hl (i + 1) x y (by simpa using hx) (by simpa using hy)
      refine List.pairwise_cons.2 ⟨?_, ih'⟩
      cases l with
      | nil => exact fun q hq => absurd hq List.not_mem_nil
      | cons q l =>
        have hpq := hl 0 p q rfl rfl
        intro r hr
        rcases List.mem_cons.1 hr with rfl | hr
        · exact hpq
        · exact bef_trans hpq ((List.pairwise_cons.1 ih').1 r hr)
  exact key a h.asc
theorem mP_id : ∀ (b acc : List PC), (acc ++ b).Pairwise Bef → (∀ c ∈ b, PcP c) → b.foldl (putP 1) acc = acc ++ b
  | [], acc, _, _ => by simp
  | c :: b, acc, h, hb => by
    have hall : ∀ p ∈ acc, Bef p c := fun p hp => (List.pairwise_append.1 h).2.2 p hp c List.mem_cons_self
    have hput : putP 1 acc c = acc ++ [c] := by
      have := putP_skip (by_ := 1) (c := c) (l := acc) (k := acc.length) (by rw [List.take_length]; exact hall)
      rw [this, List.take_length, List.drop_length, putP, addB_1, vop_zero_id (hb c List.mem_cons_self).cell]
    have e : acc ++ c :: b = (acc ++ [c]) ++ b := by simp
    rw [List.foldl_cons, hput, e]
    exact mP_id b (acc ++ [c]) (by rw [← e]; exact h) fun d hd => hb d (List.mem_cons_of_mem _ hd)
theorem merge_ref {by_ : Int} {g : Int → Int → Int} (hg : addB by_ = g) {a b s : List PC} {e : Int} (h : MergeP g a b s e) : (s, e) = mergeR by_ a b := by
  unfold mergeR
  rcases h with ⟨h1, h2, hj⟩ | ⟨h1, rfl, rfl⟩
  · rw [if_pos ⟨h1, h2⟩]
    subst hg
    have hr := rel_fold (by_ := 1) (b := a) rel_nil fun c hc => R44_of (h1.each c hc)
    rw [addB_1, mP_id a [] (by simpa using valid_sorted h1) h1.each, List.nil_append] at hr
    exact join_ref hj (rel_fold hr fun c hc => R44_of (h2.each c hc))
  · rw [if_neg h1]
end Go.Proofs.YtogfficbloejcaaDoor
namespace Go.Proofs.YtogfficbloejcaaDoor
open Go Go.X
set_option maxRecDepth 10000
set_option linter.unusedVariables false
attribute [local irreducible] Code.wpIn wpListIn Exit.then Exit.inBlock X.Out X.Back X.W X.Ev X.Con X.BinV X.Wh X.Wn X.Wq
def sumR (l : List PC) : Vec := l.foldl (fun x c => vop plusW x c.x) zero44
theorem sumR_44 : ∀ (l : List PC) (x : Vec), (∀ c ∈ l, R44 c) → x.ls.length = 44 ∧ x.hs.length = 44 → (l.foldl (fun x c => vop plusW x c.x) x).ls.length = 44 ∧ (l.foldl (fun x c => vop plusW x c.x) x).hs.length = 44
  | [], _, _, h => h
  | c :: l, x, hl, h => sumR_44 l _ (fun d hd => hl d (List.mem_cons_of_mem _ hd)) ⟨zipL_R h.1 (hl c List.mem_cons_self).1, zipL_R h.2 (hl c List.mem_cons_self).2⟩
theorem sumV_R {l : List PC} (h : l ≠ []) (hr : ∀ c ∈ l, R44 c) : sumV l = sumR l := by
  cases l with
  | nil => exact absurd rfl h
  | cons c l =>
    have := hr c List.mem_cons_self
    unfold sumV sumR
    rw [List.foldl_cons, List.foldl_cons, vop_zero44 this.1 this.2]
set_option maxHeartbeats 1600000 in
theorem rTotal_con (cs : List Ce) (A : Option Addr) (c : Nat) (S : SH) (hA : At S A cs) (hok : ∀ q ∈ cs, q.ok S) (hl : cs.length ≤ 1000) :
    Con Tryd.prog 27 #[.slice A cs.length c] S [] (fun S' L' r => L' = [] ∧ ∃ (q' : Ce) (e : Int), r = .tuple #[.agg q'.vals.toArray, .int .i64 e] ∧ q'.ok S' ∧ TotalP (cs.map (·.p)) q'.p e) := by
  refine con_of (args := [.slice A cs.length c]) Tryd.func27 rfl Tryd.ntmps27 rfl fun w => ?_
  by_cases h4 : cs.length ≤ 400
  rotate_left
  · (repeat (first | refine Jc ?_ | (apply s_evb; (case hg => rfl); (case hd => rfl); (case hn => rfl); (case he => (apply ev_buildS; (case hp => rfl); (case hz => rfl); (case h1 => rfl); (case hr => rfl)))) | refine Jo ?_ | intro _))
    refine o_ret_c2 (L' := []) (sz := 10) (cs := q00.vals) Tryd.results27 rfl rfl (by repeat (first | exact List.Mem.head _ | refine List.Mem.tail _ ?_ | exact List.mem_append_right _ (List.Mem.head _))) rfl (List.nil_sublist _) ⟨rfl, q00, 170, rfl, q00_ok _, .inr ⟨fun h => ?_, rfl, rfl⟩⟩
    rcases h.1 with h | h
    · have := congrArg List.length h; simp at this; rw [this] at h4; simp at h4
    · rw [List.length_map] at h; exact h4 h
  have he := rEmptyF_con q00 S
  (repeat (first | refine Jc ?_ | (apply s_evb; (case hg => rfl); (case hd => rfl); (case hn => rfl); (case he => (apply ev_buildS; (case hp => rfl); (case hz => rfl); (case h1 => rfl); (case hr => rfl)))) | ((apply z_call; rfl; rfl; rfl; exact he; rintro S1 _ _ hle1 ⟨rfl, qe, rfl, hqe, hqeok⟩)) | refine Jo ?_ | intro _))
  rename_i br bt
  refine c_loop (fun m S2 L F => Le S1 S2 ∧ ∃ (i : Nat) (q : Ce), m = cs.length - i ∧ i ≤ cs.length ∧ q.ok S2 ∧ q.p = ⟨0, 0, 0, 0, sumR ((cs.take i).map (·.p))⟩ ∧ (∀ x ∈ cs.take i, PcP x.p) ∧
      L = [(bt, .cells q.vals.toArray 45 (0, 0)), (br, .cells q00.vals.toArray 45 (0, 0))] ∧
      F = [(0, .slice A cs.length c), (2, .pointer (some ⟨br, 0, none⟩)), (4, .pointer (some ⟨bt, 0, none⟩)), (5, .int .i64 i)]) ⟨Le.refl _, 0, qe, rfl, by omega, hqeok, hqe, fun x hx => absurd hx List.not_mem_nil, rfl, rfl⟩ sbF sbL ?_
  rintro m S2 L F ⟨hle, i, q, rfl, hi1, hq, hqp, hall, rfl, rfl⟩
  by_cases hlt : i < cs.length
  rotate_left
  · obtain rfl : i = cs.length := by omega
    rw [List.take_length] at hqp hall
    have hall' : ∀ x ∈ cs.map (·.p), PcP x := fun x hx => by obtain ⟨y, hy, rfl⟩ := List.mem_map.1 hx; exact hall y hy
    have hcond : (cs.map (·.p) = [] ∨ (cs.map (·.p)).length ≤ 400) := .inr (by rw [List.length_map]; exact h4)
    have hv := rWhole_con q S2 hq
    have hx : q.p.x = sumR (cs.map (·.p)) := by rw [hqp]
    have hcell : CellP (sumR (cs.map (·.p))) ↔ CellP (sumV (cs.map (·.p))) := by
      by_cases h0 : cs.map (·.p) = []
      · rw [h0]
        exact ⟨fun h => by have := h.n1; exact absurd this (by decide), fun h => by have := h.n1; exact absurd this (by decide)⟩
      · rw [sumV_R h0 fun c hc => R44_of (hall' c hc)]
    by_cases hval : CellP (sumV (cs.map (·.p)))
    · rw [hx, bP_t (hcell.2 hval)] at hv
      have hne : cs.map (·.p) ≠ [] := fun h => by rw [h] at hval; exact absurd hval.n1 (by decide)
      (repeat (first | refine Jc ?_ | (apply z_call; rfl; rfl; rfl; exact hv; rintro _ _ _ - ⟨rfl, rfl, rfl⟩) | refine Jo ?_ | intro _))
      exact o_ret_c2 (L' := []) (sz := 10) (cs := q.vals) Tryd.results27 rfl rfl (by repeat (first | exact List.Mem.head _ | refine List.Mem.tail _ ?_ | exact List.mem_append_right _ (List.Mem.head _))) rfl (List.nil_sublist _) ⟨rfl, q, 0, rfl, hq, .inl ⟨hcond, hall', hval, by rw [hqp, sumV_R hne fun c hc => R44_of (hall' c hc)], rfl⟩⟩
    · rw [hx, bP_f (fun h => hval (hcell.1 h))] at hv
      (repeat (first | refine Jc ?_ | (apply z_call; rfl; rfl; rfl; exact hv; rintro _ _ _ - ⟨rfl, rfl, rfl⟩) | (apply s_evb; (case hg => rfl); (case hd => rfl); (case hn => rfl); (case he => (apply ev_buildS; (case hp => rfl); (case hz => rfl); (case h1 => rfl); (case hr => rfl)))) | refine Jo ?_ | intro _))
      exact o_ret_c2 (L' := []) (sz := 10) (cs := q00.vals) Tryd.results27 rfl rfl (by repeat (first | exact List.Mem.head _ | refine List.Mem.tail _ ?_ | exact List.mem_append_right _ (List.Mem.head _))) rfl (List.nil_sublist _) ⟨rfl, q00, 170, rfl, q00_ok _, .inr ⟨fun h => hval h.2.2, rfl, rfl⟩⟩
  obtain ⟨x, hx⟩ := at_lt' hlt
  have hxok := ((hok x (List.mem_of_getElem? hx)).le hle1).le hle
  have hxm : x.p ∈ cs.map (·.p) := List.mem_map_of_mem (List.mem_of_getElem? hx)
  have vc := rValidCell_con x S2 hxok
  have hA2 := (hA.le hle1).le hle
  by_cases hv : PcP x.p
  rotate_left
  · rw [bP_f hv] at vc
    (repeat (first | refine Jc ?_ | (apply s_idx hA2; (case hg => rfl); (case hd => rfl); (case hx => rfl); (case hi => rfl); (case hm => rfl); (case hu => exact hx); intro p hp) | (apply s_load_ag; (case hg => rfl); (case hd => rfl); (case hx => rfl); (case hv => exact hp); (case hl => rfl)) | (apply s_evb; (case hg => rfl); (case hd => rfl); (case hn => rfl); (case he => (apply ev_buildS; (case hp => rfl); (case hz => rfl); (case h1 => rfl); (case hr => rfl)))) | ((apply z_call; rfl; rfl; rfl; exact vc; rintro _ _ _ - ⟨rfl, rfl, rfl⟩)) | refine Jo ?_ | intro _))
    exact o_ret_c2 (L' := []) (sz := 10) (cs := q00.vals) Tryd.results27 rfl rfl (by repeat (first | exact List.Mem.head _ | refine List.Mem.tail _ ?_ | exact List.mem_append_right _ (List.Mem.head _))) rfl (List.nil_sublist _) ⟨rfl, q00, 170, rfl, q00_ok _, .inr ⟨fun h => hv (h.2.1 _ hxm), rfl, rfl⟩⟩
  rw [bP_t hv] at vc
  have hr := R44_of hv
  have hq44 : q.p.x.ls.length = 44 ∧ q.p.x.hs.length = 44 := by
    rw [hqp]
    refine sumR_44 _ _ (fun c hc => ?_) ⟨by simp [zero44], by simp [zero44]⟩
    obtain ⟨y, hy, rfl⟩ := List.mem_map.1 hc
    exact R44_of (hall y hy)
  have ac := rAdd_con q x 1 S2 hq hxok hq44.1 hq44.2 hr.1 hr.2
  (repeat (first | refine Jc ?_ | (apply s_idx hA2; (case hg => rfl); (case hd => rfl); (case hx => rfl); (case hi => rfl); (case hm => rfl); (case hu => exact hx); intro p hp) | (apply s_load_ag; (case hg => rfl); (case hd => rfl); (case hx => rfl); (case hv => exact hp); (case hl => rfl)) | ((apply z_call; rfl; rfl; rfl; exact vc; rintro _ _ _ - ⟨rfl, rfl, rfl⟩)) | refine Jo ?_ | intro _))
  ((apply c_held ([]); (case hL => (exact sbT))); refine Jf 1 ?_; refine Jf 2 ?_; (apply h_idx hA2 3; (case hi => rfl); (case hr => kernel_rfl); (case hfr => kernel_rfl); (case hsel => kernel_rfl); (case hg => rfl); (case hd => rfl); (case i1 => infer_instance); (case i2 => infer_instance); (case hx => rfl); (case hy => rfl); (case hm => rfl); (case hu => exact hx); intro p1 hp1); (apply h_first 4; (case hi => rfl); (case hr => kernel_rfl); (case hfr => kernel_rfl); (case hsel => kernel_rfl); (case hg => rfl); (case hd => rfl); (case he => (apply ev_load_ag; (case hx => rfl); (case h => exact hp1); (case hl => rfl)))); (apply h_one 0; (case hr => kernel_rfl)); (refine Jn ?_; try intro _); (apply h_one 5; (case hr => kernel_rfl)); (apply n_call; (case hi => rfl); (case i1 => infer_instance); (case hg => rfl); (case hd => rfl); (case ha => rfl); (case hc => exact ac); (case hL => (exact pmT)); (case hsub => (intros; (exact sbT))); rintro S3 _ _ hle3 ⟨rfl, q', rfl, hq1, hq2⟩); (apply h_one 6; (case hr => kernel_rfl)); (refine Jn ?_; try intro _); (apply h_end; (case hr => kernel_rfl)))
  (repeat (first | refine Jz ?_ | intro _))
  refine q_back (m' := cs.length - (i + 1)) ⟨hle.trans hle3, i + 1, q', rfl, by omega, hq2, ?_, ?_, rfl, rfl⟩ (by omega) sbF sbL
  · rw [hq1, hqp, take_at' hx, List.map_append, addB_1]
    simp [sumR]
  · intro y hy
    rw [take_at' hx] at hy
    rcases List.mem_append.1 hy with hy | hy
    · exact hall y hy
    · rw [List.mem_singleton.1 hy]; exact hv
end Go.Proofs.YtogfficbloejcaaDoor
namespace Go.Proofs.YtogfficbloejcaaDoor
open Go Go.X
set_option maxRecDepth 10000
set_option linter.unusedVariables false
attribute [local irreducible] Code.wpIn wpListIn Exit.then Exit.inBlock X.Out X.Back X.W X.Ev X.Con X.BinV X.Wh X.Wn X.Wq
theorem rRank_con (l : List Int) (A : Option Addr) (c : Nat) (r : Int) (S : SH) (hA : At S A l) (hl : l.length ≤ 1000) (hn : ∀ x ∈ l, 0 ≤ x ∧ x ≤ 1000000) :
    Con Tryd.prog 64 #[.slice A l.length c, .int .i64 r] S [] (Pure S (.int .i64 (rankF 0 l r))) := by
  refine con_of (args := [.slice A l.length c, .int .i64 r]) Tryd.func64 rfl Tryd.ntmps64 rfl fun w => ?_
  (repeat (first | refine Jz ?_ | intro _))
  refine c_loop (fun m S' L F => S' = S ∧ L = [] ∧ ∃ (k : Nat) (s : Int), m = l.length - k ∧ k ≤ l.length ∧ 0 ≤ s ∧ s ≤ k * 1000000 ∧ rankF 0 l r = rankF k (l.drop k) (r - s) ∧
      F = [(0, .slice A l.length c), (1, .int .i64 r), (5, .int .i64 s), (6, .int .i64 k)]) ⟨rfl, rfl, 0, 0, rfl, by omega, by omega, by omega, by simp, rfl⟩ sbF sbL ?_
  rintro m S' L F ⟨rfl, rfl, k, s, rfl, hk, hs0, hs1, heq, rfl⟩
  by_cases hlt : k < l.length
  rotate_left
  · (repeat (first | refine Jz ?_ | intro _))
    refine o_ret (L' := []) Tryd.results64 rfl (List.nil_sublist _) ?_
    rw [heq, List.drop_of_length_le (by omega)]
    exact ⟨rfl, rfl, rfl⟩
  obtain ⟨x, hx⟩ := at_lt' hlt
  have hx1 := hn x (List.mem_of_getElem? hx)
  rw [drop_at hx, rankF] at heq
  by_cases hle : r ≤ s + x
  · rw [if_pos (by omega)] at heq
    (repeat (first | refine Jc ?_ | (apply s_idx hA; (case hg => rfl); (case hd => rfl); (case hx => rfl); (case hi => rfl); (case hm => rfl); (case hu => exact hx); intro p hp) | (apply s_load1; (case hg => rfl); (case hd => rfl); (case hx => rfl); (case hv => exact hp)) | refine Jo ?_ | intro _))
    refine o_ret (L' := []) Tryd.results64 rfl (List.nil_sublist _) ?_
    rw [heq]
    exact ⟨rfl, rfl, rfl⟩
  · rw [if_neg (by omega)] at heq
    (repeat (first | refine Jc ?_ | (apply s_idx hA; (case hg => rfl); (case hd => rfl); (case hx => rfl); (case hi => rfl); (case hm => rfl); (case hu => exact hx); intro p hp) | (apply s_load1; (case hg => rfl); (case hd => rfl); (case hx => rfl); (case hv => exact hp)) | refine Jo ?_ | intro _))
    exact q_back (m' := l.length - (k + 1)) ⟨rfl, rfl, k + 1, s + x, rfl, by omega, by omega, by omega, by rw [heq]; congr 1; omega, rfl⟩ (by omega) sbF (List.Sublist.refl _)
theorem ceil_eq {m d : Int} (hm : 0 ≤ m) (hd : 1 ≤ d) : (m + d - 1) / d = if m / d * d < m then m / d + 1 else m / d := by
  have h1 := Int.ediv_mul_le m (show d ≠ 0 by omega)
  have h2 := Int.lt_ediv_add_one_mul_self m (show 0 < d by omega)
  rw [Int.add_mul, Int.one_mul] at h2
  split
  · refine Int.le_antisymm ?_ ?_
    · have : (m + d - 1) / d < m / d + 1 + 1 := Int.ediv_lt_of_lt_mul (by omega) (by rw [Int.add_mul, Int.add_mul, Int.one_mul]; omega)
      omega
    · exact Int.le_ediv_of_mul_le (by omega) (by rw [Int.add_mul, Int.one_mul]; omega)
  · refine Int.le_antisymm ?_ ?_
    · have : (m + d - 1) / d < m / d + 1 := Int.ediv_lt_of_lt_mul (by omega) (by rw [Int.add_mul, Int.one_mul]; omega)
      omega
    · exact Int.le_ediv_of_mul_le (by omega) (by omega)
theorem rQuantile_con (q : Ce) (num den : Int) (S : SH) (hq : q.ok S) :
    Con Tryd.prog 32 #[.agg q.vals.toArray, .int .i64 num, .int .i64 den] S [] (fun S' L' r => S' = S ∧ L' = [] ∧ ∃ lo hi e : Int, r = .tuple #[.int .i64 lo, .int .i64 hi, .int .i64 e] ∧ QuantP q.p num den lo hi e) := by
  refine con_of (args := [.agg q.vals.toArray, .int .i64 num, .int .i64 den]) Tryd.func32 rfl Tryd.ntmps32 rfl fun w => ?_
  have vc := rValidCell_con q S hq
  have i1 := rin_con den 1 1000 S
  have i2 := rin_con num 0 den S
  by_cases hv : PcP q.p
  rotate_left
  · rw [bP_f hv] at vc
    (repeat (first | refine Jc ?_ | ((apply z_call; rfl; rfl; rfl; exact vc; rintro _ _ _ - ⟨rfl, rfl, rfl⟩)) | refine Jo ?_ | intro _))
    exact o_ret3 (L' := []) Tryd.results32 rfl rfl rfl (List.nil_sublist _) ⟨rfl, rfl, 0, 0, 170, rfl, .inr ⟨fun h => hv h.1, rfl, rfl, rfl⟩⟩
  rw [bP_t hv] at vc
  by_cases h_d : 1 ≤ den ∧ den ≤ 1000
  rotate_left
  · rw [bP_f h_d] at i1
    (repeat (first | refine Jc ?_ | ((apply z_call; rfl; rfl; rfl; exact vc; rintro _ _ _ - ⟨rfl, rfl, rfl⟩)) | ((apply z_call; rfl; rfl; rfl; exact i1; rintro _ _ _ - ⟨rfl, rfl, rfl⟩)) | refine Jo ?_ | intro _))
    exact o_ret3 (L' := []) Tryd.results32 rfl rfl rfl (List.nil_sublist _) ⟨rfl, rfl, 0, 0, 170, rfl, .inr ⟨fun h => h_d ⟨h.2.1, h.2.2.1⟩, rfl, rfl, rfl⟩⟩
  rw [bP_t h_d] at i1
  by_cases h_n : 0 ≤ num ∧ num ≤ den
  rotate_left
  · rw [bP_f h_n] at i2
    (repeat (first | refine Jc ?_ | ((apply z_call; rfl; rfl; rfl; exact vc; rintro _ _ _ - ⟨rfl, rfl, rfl⟩)) | ((apply z_call; rfl; rfl; rfl; exact i1; rintro _ _ _ - ⟨rfl, rfl, rfl⟩)) | ((apply z_call; rfl; rfl; rfl; exact i2; rintro _ _ _ - ⟨rfl, rfl, rfl⟩)) | refine Jo ?_ | intro _))
    exact o_ret3 (L' := []) Tryd.results32 rfl rfl rfl (List.nil_sublist _) ⟨rfl, rfl, 0, 0, 170, rfl, .inr ⟨fun h => h_n h.2.2.2, rfl, rfl, rfl⟩⟩
  rw [bP_t h_n] at i2
  have hc := hv.cell
  have hlo := hc.lo.each
  have hhi := hc.hi.each
  have hn1 := hc.n1
  have hn2 := hc.n2
  have fin : ∀ r : Int, r = qrank q.p num den → QuantP q.p num den (eLo (rankF 0 q.p.x.ls r)) (eHi (rankF 0 q.p.x.hs r)) 0 := fun r h => by
    rw [h]; exact .inl ⟨hv, h_d.1, h_d.2, h_n.1, h_n.2, rfl, rfl, rfl⟩
  have hqr : qrank q.p num den = max (if num * q.p.x.n / den * den < num * q.p.x.n then num * q.p.x.n / den + 1 else num * q.p.x.n / den) 1 := by
    unfold qrank
    rw [ceil_eq (Int.mul_nonneg h_n.1 (by omega)) h_d.1, Int.max_comm]
  obtain ⟨⟨qs, qv, qo, qd, ⟨qn, ql, qh, qb, qls, qhs⟩⟩, qla, qlc, qha, qhc⟩ := q
  obtain ⟨q1, q2, q3, q4, q5, q6⟩ := hq
  have m0 := Int.mul_nonneg h_n.1 (show 0 ≤ qn by simp only at hn1; omega)
  have m1 : num * qn ≤ 1000 * 1000000 := Int.mul_le_mul (by omega) hn2 (by simp only at hn1; omega) (by decide)
  simp only at hn1 hn2 hlo hhi q1 q2 q3 q4 q5 q6 hqr
  have d0 : 0 ≤ num * qn / den := Int.ediv_nonneg (by omega) (by omega)
  have d1 : num * qn / den * den ≤ num * qn := Int.ediv_mul_le _ (by omega)
  have d2 : num * qn / den ≤ num * qn := Int.ediv_le_self _ m0
  have d3 : 0 ≤ num * qn / den * den := Int.mul_nonneg d0 (by omega)
  have r1 := fun r => rRank_con qls qla qlc r S q1 q5 hlo
  have r2 := fun r => rRank_con qhs qha qhc r S q2 q6 hhi
  unfold Ce.vals at *
  dsimp only at *
  by_cases hlt : num * qn / den * den < num * qn
  · rw [if_pos hlt] at hqr
    (repeat (first | refine Jc ?_ | ((apply z_call; rfl; rfl; rfl; exact vc; rintro _ _ _ - ⟨rfl, rfl, rfl⟩)) | ((apply z_call; rfl; rfl; rfl; exact i1; rintro _ _ _ - ⟨rfl, rfl, rfl⟩)) | ((apply z_call; rfl; rfl; rfl; exact i2; rintro _ _ _ - ⟨rfl, rfl, rfl⟩)) | (apply z_call; rfl; rfl; rfl; exact r1 _; rintro _ _ _ - ⟨rfl, rfl, rfl⟩) | (apply z_call; rfl; rfl; rfl; exact r2 _; rintro _ _ _ - ⟨rfl, rfl, rfl⟩) | (apply z_call; rfl; rfl; rfl; exact rEdges_con _ _; rintro _ _ _ - ⟨rfl, rfl, rfl⟩) | refine Jo ?_ | intro _))
    exact o_ret3 (L' := []) Tryd.results32 rfl rfl rfl (List.nil_sublist _) ⟨rfl, rfl, _, _, 0, rfl, fin _ hqr.symm⟩
  · rw [if_neg hlt] at hqr
    (repeat (first | refine Jc ?_ | ((apply z_call; rfl; rfl; rfl; exact vc; rintro _ _ _ - ⟨rfl, rfl, rfl⟩)) | ((apply z_call; rfl; rfl; rfl; exact i1; rintro _ _ _ - ⟨rfl, rfl, rfl⟩)) | ((apply z_call; rfl; rfl; rfl; exact i2; rintro _ _ _ - ⟨rfl, rfl, rfl⟩)) | (apply z_call; rfl; rfl; rfl; exact r1 _; rintro _ _ _ - ⟨rfl, rfl, rfl⟩) | (apply z_call; rfl; rfl; rfl; exact r2 _; rintro _ _ _ - ⟨rfl, rfl, rfl⟩) | (apply z_call; rfl; rfl; rfl; exact rEdges_con _ _; rintro _ _ _ - ⟨rfl, rfl, rfl⟩) | refine Jo ?_ | intro _))
    exact o_ret3 (L' := []) Tryd.results32 rfl rfl rfl (List.nil_sublist _) ⟨rfl, rfl, _, _, 0, rfl, fin _ hqr.symm⟩
end Go.Proofs.YtogfficbloejcaaDoor
