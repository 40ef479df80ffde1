/- Contracts of functions of this program, each proved by a walk through its code, and plain lemmas on what they compute; on no condition beyond those that each theorem states. -/
import Derived.Test.YtogfficbloejcaaDoorBd
import Derived.Test.YtogfficbloejcaaDoorBb
namespace Go.Proofs.YtogfficbloejcaaDoor
open Go Go.X
set_option maxRecDepth 10000
set_option linter.unusedVariables false
attribute [local irreducible] Code.wpIn wpListIn Exit.then Exit.inBlock X.Out X.Back X.W X.Ev X.Con X.BinV X.Wh X.Wn X.Wq
theorem VoidV_iff {x : Vec} (h1 : x.ls.length = 44) (h2 : x.hs.length = 44) : VoidV x ↔ x.n = 0 ∧ x.lo = 0 ∧ x.hi = 0 ∧ x.by_ = 0 ∧ x.ls = List.replicate 44 0 ∧ x.hs = List.replicate 44 0 := by
  have hz : ∀ {l : List Int}, l.length = 44 → ((∀ e ∈ l, e = 0) ↔ l = List.replicate 44 0) := fun {l} h => ⟨fun k => List.eq_replicate_iff.2 ⟨h, k⟩, fun k e he => (List.eq_replicate_iff.1 k).2 e he⟩
  constructor
  · rintro ⟨a, b, c, d, r⟩
    have r2 : ∀ e ∈ x.ls ++ x.hs, e = 0 := fun e he => Classical.not_not.1 fun hne => r ⟨e, he, hne⟩
    exact ⟨a, b, c, d, (hz h1).1 fun e he => r2 e (List.mem_append_left _ he), (hz h2).1 fun e he => r2 e (List.mem_append_right _ he)⟩
  · rintro ⟨a, b, c, d, e, f⟩
    refine ⟨a, b, c, d, ?_⟩
    rintro ⟨y, hy, hne⟩
    rcases List.mem_append.1 hy with hy | hy
    · exact hne ((hz h1).2 e y hy)
    · exact hne ((hz h2).2 f y hy)
theorem rVoid_con (q : Ce) (S : SH) (hq : q.ok S) (hr : R44 q.p) : Con Tryd.prog 83 #[.agg q.vals.toArray] S [] (fun S' L' r => L' = [] ∧ r = .bool (bP (VoidV q.p.x))) := by
  refine con_of (args := [.agg q.vals.toArray]) Tryd.func83 rfl Tryd.ntmps83 rfl fun w => ?_
  have hiff := VoidV_iff hr.1 hr.2
  obtain ⟨⟨a0, a1, a2, a3, ⟨an, al, ah, ab, als, ahs⟩⟩, pla, plc, pha, phc⟩ := q
  obtain ⟨q1, q2, q3, q4, q5, q6⟩ := hq
  obtain ⟨r1, r2⟩ := hr
  dsimp only at *
  unfold Ce.vals
  dsimp only
  have hzl : (List.replicate 44 (0 : Int)).length = 44 := by simp
  have hzc : cellsOf (List.replicate 44 (0 : Int)) = List.replicate 44 (Value.int .i64 0) := by rw [cells_int]; simp
  have hz : ∀ {S2 : SH} {b : Nat}, S2 b = some (.cells (List.replicate 44 (Value.int .i64 0)).toArray 3 (0, 0)) → At S2 (some ⟨b, 0, none⟩) (List.replicate 44 (0 : Int)) := fun h => at_litB h (by rw [hzc])
  have ic := fun (S2 : SH) (b : Nat) (l : List Int) (A : Option Addr) (c : Nat) (hA : At S2 A l) (hl : l.length = 44) (hB : At S2 (some ⟨b, 0, none⟩) (List.replicate 44 (0 : Int))) => rints_con l (List.replicate 44 0) A (some ⟨b, 0, none⟩) c 44 S2 hA hB (by omega) (by simp)
  simp only [hzl] at ic
  (repeat (first | refine Jz ?_ | intro _))
  rename_i b1
  refine c_meet (fun S2 L2 F2 => L2 = [(b1, .cells [.int .i64 a0, .int .i64 a1, .int .i64 a2, .int .i64 a3, .int .i64 an, .int .i64 al, .int .i64 ah, .int .i64 ab, .slice pla als.length plc, .slice pha ahs.length phc].toArray 45 (0, 0))] ∧ F2 = [(2, .bool (bP (VoidV ⟨an, al, ah, ab, als, ahs⟩)))]) ?_ ?_
  rotate_left
  · rintro S2 L2 F2 ⟨rfl, rfl⟩
    (repeat (first | refine Jz ?_ | intro _))
    exact o_ret (L' := []) Tryd.results83 rfl (List.nil_sublist _) ⟨rfl, rfl⟩
  by_cases g1 : an = 0
  rotate_left
  · rw [bP_f (fun h => g1 (hiff.1 h).1)]
    ((apply c_held ([(b1, .cells [.int .i64 a0, .int .i64 a1, .int .i64 a2, .int .i64 a3, .int .i64 an, .int .i64 al, .int .i64 ah, .int .i64 ab, .slice pla als.length plc, .slice pha ahs.length phc].toArray 45 (0, 0))]); (case hL => (exact sbT))); refine Jf 0 ?_; refine Jf 1 ?_; refine Jf 2 ?_; refine Jf 3 ?_; refine Jf 4 ?_; refine Jf 5 ?_; refine Jf 6 ?_; refine Jf 7 ?_; refine Jf 8 ?_; refine Jf 9 ?_; refine Jf 10 ?_; refine Jf 11 ?_; refine Jf 12 ?_; refine Jf 13 ?_; refine Jf 14 ?_; refine Jf 15 ?_; refine Jf 16 ?_; refine Jf 17 ?_; refine Jf 18 ?_; refine Jf 19 ?_; refine Jf 20 ?_; (apply h_one 21; (case hr => kernel_rfl)); (first | (apply n_make1 (m := 44); (case hi => rfl); (case i1 => infer_instance); (case i2 => infer_instance); (case i3 => infer_instance); (case i4 => infer_instance); (case hg => rfl); (case hd => rfl); (case hx => rfl); (case hy => rfl); (case hzc => rfl); (case hb => decide); (case h63 => decide); intro bm; refine Wh.freeze sbL fun S9 hle9 hb9 => ?_) | (apply n_call; (case hi => rfl); (case i1 => infer_instance); (case hg => rfl); (case hd => rfl); (case ha => rfl); (case hc => exact i1 _ _ (q1.le hle9) (hz hb9)); (case hL => (exact pmT)); (case hsub => (intros; (exact sbT))); rintro _ _ _ - ⟨rfl, rfl, rfl⟩) | (apply n_call; (case hi => rfl); (case i1 => infer_instance); (case hg => rfl); (case hd => rfl); (case ha => rfl); (case hc => exact i2 _ _ ((q2.le (by assumption)).le hle9) (hz hb9)); (case hL => (exact pmT)); (case hsub => (intros; (exact sbT))); rintro _ _ _ - ⟨rfl, rfl, rfl⟩) | (refine Jn ?_; try intro _)); (apply h_one 22; (case hr => kernel_rfl)); (first | (apply n_make1 (m := 44); (case hi => rfl); (case i1 => infer_instance); (case i2 => infer_instance); (case i3 => infer_instance); (case i4 => infer_instance); (case hg => rfl); (case hd => rfl); (case hx => rfl); (case hy => rfl); (case hzc => rfl); (case hb => decide); (case h63 => decide); intro bm; refine Wh.freeze sbL fun S9 hle9 hb9 => ?_) | (apply n_call; (case hi => rfl); (case i1 => infer_instance); (case hg => rfl); (case hd => rfl); (case ha => rfl); (case hc => exact i1 _ _ (q1.le hle9) (hz hb9)); (case hL => (exact pmT)); (case hsub => (intros; (exact sbT))); rintro _ _ _ - ⟨rfl, rfl, rfl⟩) | (apply n_call; (case hi => rfl); (case i1 => infer_instance); (case hg => rfl); (case hd => rfl); (case ha => rfl); (case hc => exact i2 _ _ ((q2.le (by assumption)).le hle9) (hz hb9)); (case hL => (exact pmT)); (case hsub => (intros; (exact sbT))); rintro _ _ _ - ⟨rfl, rfl, rfl⟩) | (refine Jn ?_; try intro _)); refine Jf 23 ?_; refine Jf 24 ?_; refine Jf 25 ?_; refine Jf 26 ?_; (apply h_one 27; (case hr => kernel_rfl)); (first | (apply n_make1 (m := 44); (case hi => rfl); (case i1 => infer_instance); (case i2 => infer_instance); (case i3 => infer_instance); (case i4 => infer_instance); (case hg => rfl); (case hd => rfl); (case hx => rfl); (case hy => rfl); (case hzc => rfl); (case hb => decide); (case h63 => decide); intro bm; refine Wh.freeze sbL fun S9 hle9 hb9 => ?_) | (apply n_call; (case hi => rfl); (case i1 => infer_instance); (case hg => rfl); (case hd => rfl); (case ha => rfl); (case hc => exact i1 _ _ (q1.le hle9) (hz hb9)); (case hL => (exact pmT)); (case hsub => (intros; (exact sbT))); rintro _ _ _ - ⟨rfl, rfl, rfl⟩) | (apply n_call; (case hi => rfl); (case i1 => infer_instance); (case hg => rfl); (case hd => rfl); (case ha => rfl); (case hc => exact i2 _ _ ((q2.le (by assumption)).le hle9) (hz hb9)); (case hL => (exact pmT)); (case hsub => (intros; (exact sbT))); rintro _ _ _ - ⟨rfl, rfl, rfl⟩) | (refine Jn ?_; try intro _)); (apply h_one 28; (case hr => kernel_rfl)); (first | (apply n_make1 (m := 44); (case hi => rfl); (case i1 => infer_instance); (case i2 => infer_instance); (case i3 => infer_instance); (case i4 => infer_instance); (case hg => rfl); (case hd => rfl); (case hx => rfl); (case hy => rfl); (case hzc => rfl); (case hb => decide); (case h63 => decide); intro bm; refine Wh.freeze sbL fun S9 hle9 hb9 => ?_) | (apply n_call; (case hi => rfl); (case i1 => infer_instance); (case hg => rfl); (case hd => rfl); (case ha => rfl); (case hc => exact i1 _ _ (q1.le hle9) (hz hb9)); (case hL => (exact pmT)); (case hsub => (intros; (exact sbT))); rintro _ _ _ - ⟨rfl, rfl, rfl⟩) | (apply n_call; (case hi => rfl); (case i1 => infer_instance); (case hg => rfl); (case hd => rfl); (case ha => rfl); (case hc => exact i2 _ _ ((q2.le (by assumption)).le hle9) (hz hb9)); (case hL => (exact pmT)); (case hsub => (intros; (exact sbT))); rintro _ _ _ - ⟨rfl, rfl, rfl⟩) | (refine Jn ?_; try intro _)); refine Jf 29 ?_; refine Jf 30 ?_; (apply h_end; (case hr => kernel_rfl)); (apply q_then; exact q_cut ⟨rfl, rfl⟩ sbF sbL))
  by_cases g2 : al = 0
  rotate_left
  · rw [bP_f (fun h => g2 (hiff.1 h).2.1)]
    ((apply c_held ([(b1, .cells [.int .i64 a0, .int .i64 a1, .int .i64 a2, .int .i64 a3, .int .i64 an, .int .i64 al, .int .i64 ah, .int .i64 ab, .slice pla als.length plc, .slice pha ahs.length phc].toArray 45 (0, 0))]); (case hL => (exact sbT))); refine Jf 0 ?_; refine Jf 1 ?_; refine Jf 2 ?_; refine Jf 3 ?_; refine Jf 4 ?_; refine Jf 5 ?_; refine Jf 6 ?_; refine Jf 7 ?_; refine Jf 8 ?_; refine Jf 9 ?_; refine Jf 10 ?_; refine Jf 11 ?_; refine Jf 12 ?_; refine Jf 13 ?_; refine Jf 14 ?_; refine Jf 15 ?_; refine Jf 16 ?_; refine Jf 17 ?_; refine Jf 18 ?_; refine Jf 19 ?_; refine Jf 20 ?_; (apply h_one 21; (case hr => kernel_rfl)); (first | (apply n_make1 (m := 44); (case hi => rfl); (case i1 => infer_instance); (case i2 => infer_instance); (case i3 => infer_instance); (case i4 => infer_instance); (case hg => rfl); (case hd => rfl); (case hx => rfl); (case hy => rfl); (case hzc => rfl); (case hb => decide); (case h63 => decide); intro bm; refine Wh.freeze sbL fun S9 hle9 hb9 => ?_) | (apply n_call; (case hi => rfl); (case i1 => infer_instance); (case hg => rfl); (case hd => rfl); (case ha => rfl); (case hc => exact i1 _ _ (q1.le hle9) (hz hb9)); (case hL => (exact pmT)); (case hsub => (intros; (exact sbT))); rintro _ _ _ - ⟨rfl, rfl, rfl⟩) | (apply n_call; (case hi => rfl); (case i1 => infer_instance); (case hg => rfl); (case hd => rfl); (case ha => rfl); (case hc => exact i2 _ _ ((q2.le (by assumption)).le hle9) (hz hb9)); (case hL => (exact pmT)); (case hsub => (intros; (exact sbT))); rintro _ _ _ - ⟨rfl, rfl, rfl⟩) | (refine Jn ?_; try intro _)); (apply h_one 22; (case hr => kernel_rfl)); (first | (apply n_make1 (m := 44); (case hi => rfl); (case i1 => infer_instance); (case i2 => infer_instance); (case i3 => infer_instance); (case i4 => infer_instance); (case hg => rfl); (case hd => rfl); (case hx => rfl); (case hy => rfl); (case hzc => rfl); (case hb => decide); (case h63 => decide); intro bm; refine Wh.freeze sbL fun S9 hle9 hb9 => ?_) | (apply n_call; (case hi => rfl); (case i1 => infer_instance); (case hg => rfl); (case hd => rfl); (case ha => rfl); (case hc => exact i1 _ _ (q1.le hle9) (hz hb9)); (case hL => (exact pmT)); (case hsub => (intros; (exact sbT))); rintro _ _ _ - ⟨rfl, rfl, rfl⟩) | (apply n_call; (case hi => rfl); (case i1 => infer_instance); (case hg => rfl); (case hd => rfl); (case ha => rfl); (case hc => exact i2 _ _ ((q2.le (by assumption)).le hle9) (hz hb9)); (case hL => (exact pmT)); (case hsub => (intros; (exact sbT))); rintro _ _ _ - ⟨rfl, rfl, rfl⟩) | (refine Jn ?_; try intro _)); refine Jf 23 ?_; refine Jf 24 ?_; refine Jf 25 ?_; refine Jf 26 ?_; (apply h_one 27; (case hr => kernel_rfl)); (first | (apply n_make1 (m := 44); (case hi => rfl); (case i1 => infer_instance); (case i2 => infer_instance); (case i3 => infer_instance); (case i4 => infer_instance); (case hg => rfl); (case hd => rfl); (case hx => rfl); (case hy => rfl); (case hzc => rfl); (case hb => decide); (case h63 => decide); intro bm; refine Wh.freeze sbL fun S9 hle9 hb9 => ?_) | (apply n_call; (case hi => rfl); (case i1 => infer_instance); (case hg => rfl); (case hd => rfl); (case ha => rfl); (case hc => exact i1 _ _ (q1.le hle9) (hz hb9)); (case hL => (exact pmT)); (case hsub => (intros; (exact sbT))); rintro _ _ _ - ⟨rfl, rfl, rfl⟩) | (apply n_call; (case hi => rfl); (case i1 => infer_instance); (case hg => rfl); (case hd => rfl); (case ha => rfl); (case hc => exact i2 _ _ ((q2.le (by assumption)).le hle9) (hz hb9)); (case hL => (exact pmT)); (case hsub => (intros; (exact sbT))); rintro _ _ _ - ⟨rfl, rfl, rfl⟩) | (refine Jn ?_; try intro _)); (apply h_one 28; (case hr => kernel_rfl)); (first | (apply n_make1 (m := 44); (case hi => rfl); (case i1 => infer_instance); (case i2 => infer_instance); (case i3 => infer_instance); (case i4 => infer_instance); (case hg => rfl); (case hd => rfl); (case hx => rfl); (case hy => rfl); (case hzc => rfl); (case hb => decide); (case h63 => decide); intro bm; refine Wh.freeze sbL fun S9 hle9 hb9 => ?_) | (apply n_call; (case hi => rfl); (case i1 => infer_instance); (case hg => rfl); (case hd => rfl); (case ha => rfl); (case hc => exact i1 _ _ (q1.le hle9) (hz hb9)); (case hL => (exact pmT)); (case hsub => (intros; (exact sbT))); rintro _ _ _ - ⟨rfl, rfl, rfl⟩) | (apply n_call; (case hi => rfl); (case i1 => infer_instance); (case hg => rfl); (case hd => rfl); (case ha => rfl); (case hc => exact i2 _ _ ((q2.le (by assumption)).le hle9) (hz hb9)); (case hL => (exact pmT)); (case hsub => (intros; (exact sbT))); rintro _ _ _ - ⟨rfl, rfl, rfl⟩) | (refine Jn ?_; try intro _)); refine Jf 29 ?_; refine Jf 30 ?_; (apply h_end; (case hr => kernel_rfl)); (apply q_then; exact q_cut ⟨rfl, rfl⟩ sbF sbL))
  by_cases g3 : ah = 0
  rotate_left
  · rw [bP_f (fun h => g3 (hiff.1 h).2.2.1)]
    ((apply c_held ([(b1, .cells [.int .i64 a0, .int .i64 a1, .int .i64 a2, .int .i64 a3, .int .i64 an, .int .i64 al, .int .i64 ah, .int .i64 ab, .slice pla als.length plc, .slice pha ahs.length phc].toArray 45 (0, 0))]); (case hL => (exact sbT))); refine Jf 0 ?_; refine Jf 1 ?_; refine Jf 2 ?_; refine Jf 3 ?_; refine Jf 4 ?_; refine Jf 5 ?_; refine Jf 6 ?_; refine Jf 7 ?_; refine Jf 8 ?_; refine Jf 9 ?_; refine Jf 10 ?_; refine Jf 11 ?_; refine Jf 12 ?_; refine Jf 13 ?_; refine Jf 14 ?_; refine Jf 15 ?_; refine Jf 16 ?_; refine Jf 17 ?_; refine Jf 18 ?_; refine Jf 19 ?_; refine Jf 20 ?_; (apply h_one 21; (case hr => kernel_rfl)); (first | (apply n_make1 (m := 44); (case hi => rfl); (case i1 => infer_instance); (case i2 => infer_instance); (case i3 => infer_instance); (case i4 => infer_instance); (case hg => rfl); (case hd => rfl); (case hx => rfl); (case hy => rfl); (case hzc => rfl); (case hb => decide); (case h63 => decide); intro bm; refine Wh.freeze sbL fun S9 hle9 hb9 => ?_) | (apply n_call; (case hi => rfl); (case i1 => infer_instance); (case hg => rfl); (case hd => rfl); (case ha => rfl); (case hc => exact i1 _ _ (q1.le hle9) (hz hb9)); (case hL => (exact pmT)); (case hsub => (intros; (exact sbT))); rintro _ _ _ - ⟨rfl, rfl, rfl⟩) | (apply n_call; (case hi => rfl); (case i1 => infer_instance); (case hg => rfl); (case hd => rfl); (case ha => rfl); (case hc => exact i2 _ _ ((q2.le (by assumption)).le hle9) (hz hb9)); (case hL => (exact pmT)); (case hsub => (intros; (exact sbT))); rintro _ _ _ - ⟨rfl, rfl, rfl⟩) | (refine Jn ?_; try intro _)); (apply h_one 22; (case hr => kernel_rfl)); (first | (apply n_make1 (m := 44); (case hi => rfl); (case i1 => infer_instance); (case i2 => infer_instance); (case i3 => infer_instance); (case i4 => infer_instance); (case hg => rfl); (case hd => rfl); (case hx => rfl); (case hy => rfl); (case hzc => rfl); (case hb => decide); (case h63 => decide); intro bm; refine Wh.freeze sbL fun S9 hle9 hb9 => ?_) | (apply n_call; (case hi => rfl); (case i1 => infer_instance); (case hg => rfl); (case hd => rfl); (case ha => rfl); (case hc => exact i1 _ _ (q1.le hle9) (hz hb9)); (case hL => (exact pmT)); (case hsub => (intros; (exact sbT))); rintro _ _ _ - ⟨rfl, rfl, rfl⟩) | (apply n_call; (case hi => rfl); (case i1 => infer_instance); (case hg => rfl); (case hd => rfl); (case ha => rfl); (case hc => exact i2 _ _ ((q2.le (by assumption)).le hle9) (hz hb9)); (case hL => (exact pmT)); (case hsub => (intros; (exact sbT))); rintro _ _ _ - ⟨rfl, rfl, rfl⟩) | (refine Jn ?_; try intro _)); refine Jf 23 ?_; refine Jf 24 ?_; refine Jf 25 ?_; refine Jf 26 ?_; (apply h_one 27; (case hr => kernel_rfl)); (first | (apply n_make1 (m := 44); (case hi => rfl); (case i1 => infer_instance); (case i2 => infer_instance); (case i3 => infer_instance); (case i4 => infer_instance); (case hg => rfl); (case hd => rfl); (case hx => rfl); (case hy => rfl); (case hzc => rfl); (case hb => decide); (case h63 => decide); intro bm; refine Wh.freeze sbL fun S9 hle9 hb9 => ?_) | (apply n_call; (case hi => rfl); (case i1 => infer_instance); (case hg => rfl); (case hd => rfl); (case ha => rfl); (case hc => exact i1 _ _ (q1.le hle9) (hz hb9)); (case hL => (exact pmT)); (case hsub => (intros; (exact sbT))); rintro _ _ _ - ⟨rfl, rfl, rfl⟩) | (apply n_call; (case hi => rfl); (case i1 => infer_instance); (case hg => rfl); (case hd => rfl); (case ha => rfl); (case hc => exact i2 _ _ ((q2.le (by assumption)).le hle9) (hz hb9)); (case hL => (exact pmT)); (case hsub => (intros; (exact sbT))); rintro _ _ _ - ⟨rfl, rfl, rfl⟩) | (refine Jn ?_; try intro _)); (apply h_one 28; (case hr => kernel_rfl)); (first | (apply n_make1 (m := 44); (case hi => rfl); (case i1 => infer_instance); (case i2 => infer_instance); (case i3 => infer_instance); (case i4 => infer_instance); (case hg => rfl); (case hd => rfl); (case hx => rfl); (case hy => rfl); (case hzc => rfl); (case hb => decide); (case h63 => decide); intro bm; refine Wh.freeze sbL fun S9 hle9 hb9 => ?_) | (apply n_call; (case hi => rfl); (case i1 => infer_instance); (case hg => rfl); (case hd => rfl); (case ha => rfl); (case hc => exact i1 _ _ (q1.le hle9) (hz hb9)); (case hL => (exact pmT)); (case hsub => (intros; (exact sbT))); rintro _ _ _ - ⟨rfl, rfl, rfl⟩) | (apply n_call; (case hi => rfl); (case i1 => infer_instance); (case hg => rfl); (case hd => rfl); (case ha => rfl); (case hc => exact i2 _ _ ((q2.le (by assumption)).le hle9) (hz hb9)); (case hL => (exact pmT)); (case hsub => (intros; (exact sbT))); rintro _ _ _ - ⟨rfl, rfl, rfl⟩) | (refine Jn ?_; try intro _)); refine Jf 29 ?_; refine Jf 30 ?_; (apply h_end; (case hr => kernel_rfl)); (apply q_then; exact q_cut ⟨rfl, rfl⟩ sbF sbL))
  by_cases g4 : ab = 0
  rotate_left
  · rw [bP_f (fun h => g4 (hiff.1 h).2.2.2.1)]
    ((apply c_held ([(b1, .cells [.int .i64 a0, .int .i64 a1, .int .i64 a2, .int .i64 a3, .int .i64 an, .int .i64 al, .int .i64 ah, .int .i64 ab, .slice pla als.length plc, .slice pha ahs.length phc].toArray 45 (0, 0))]); (case hL => (exact sbT))); refine Jf 0 ?_; refine Jf 1 ?_; refine Jf 2 ?_; refine Jf 3 ?_; refine Jf 4 ?_; refine Jf 5 ?_; refine Jf 6 ?_; refine Jf 7 ?_; refine Jf 8 ?_; refine Jf 9 ?_; refine Jf 10 ?_; refine Jf 11 ?_; refine Jf 12 ?_; refine Jf 13 ?_; refine Jf 14 ?_; refine Jf 15 ?_; refine Jf 16 ?_; refine Jf 17 ?_; refine Jf 18 ?_; refine Jf 19 ?_; refine Jf 20 ?_; (apply h_one 21; (case hr => kernel_rfl)); (first | (apply n_make1 (m := 44); (case hi => rfl); (case i1 => infer_instance); (case i2 => infer_instance); (case i3 => infer_instance); (case i4 => infer_instance); (case hg => rfl); (case hd => rfl); (case hx => rfl); (case hy => rfl); (case hzc => rfl); (case hb => decide); (case h63 => decide); intro bm; refine Wh.freeze sbL fun S9 hle9 hb9 => ?_) | (apply n_call; (case hi => rfl); (case i1 => infer_instance); (case hg => rfl); (case hd => rfl); (case ha => rfl); (case hc => exact i1 _ _ (q1.le hle9) (hz hb9)); (case hL => (exact pmT)); (case hsub => (intros; (exact sbT))); rintro _ _ _ - ⟨rfl, rfl, rfl⟩) | (apply n_call; (case hi => rfl); (case i1 => infer_instance); (case hg => rfl); (case hd => rfl); (case ha => rfl); (case hc => exact i2 _ _ ((q2.le (by assumption)).le hle9) (hz hb9)); (case hL => (exact pmT)); (case hsub => (intros; (exact sbT))); rintro _ _ _ - ⟨rfl, rfl, rfl⟩) | (refine Jn ?_; try intro _)); (apply h_one 22; (case hr => kernel_rfl)); (first | (apply n_make1 (m := 44); (case hi => rfl); (case i1 => infer_instance); (case i2 => infer_instance); (case i3 => infer_instance); (case i4 => infer_instance); (case hg => rfl); (case hd => rfl); (case hx => rfl); (case hy => rfl); (case hzc => rfl); (case hb => decide); (case h63 => decide); intro bm; refine Wh.freeze sbL fun S9 hle9 hb9 => ?_) | (apply n_call; (case hi => rfl); (case i1 => infer_instance); (case hg => rfl); (case hd => rfl); (case ha => rfl); (case hc => exact i1 _ _ (q1.le hle9) (hz hb9)); (case hL => (exact pmT)); (case hsub => (intros; (exact sbT))); rintro _ _ _ - ⟨rfl, rfl, rfl⟩) | (apply n_call; (case hi => rfl); (case i1 => infer_instance); (case hg => rfl); (case hd => rfl); (case ha => rfl); (case hc => exact i2 _ _ ((q2.le (by assumption)).le hle9) (hz hb9)); (case hL => (exact pmT)); (case hsub => (intros; (exact sbT))); rintro _ _ _ - ⟨rfl, rfl, rfl⟩) | (refine Jn ?_; try intro _)); refine Jf 23 ?_; refine Jf 24 ?_; refine Jf 25 ?_; refine Jf 26 ?_; (apply h_one 27; (case hr => kernel_rfl)); (first | (apply n_make1 (m := 44); (case hi => rfl); (case i1 => infer_instance); (case i2 => infer_instance); (case i3 => infer_instance); (case i4 => infer_instance); (case hg => rfl); (case hd => rfl); (case hx => rfl); (case hy => rfl); (case hzc => rfl); (case hb => decide); (case h63 => decide); intro bm; refine Wh.freeze sbL fun S9 hle9 hb9 => ?_) | (apply n_call; (case hi => rfl); (case i1 => infer_instance); (case hg => rfl); (case hd => rfl); (case ha => rfl); (case hc => exact i1 _ _ (q1.le hle9) (hz hb9)); (case hL => (exact pmT)); (case hsub => (intros; (exact sbT))); rintro _ _ _ - ⟨rfl, rfl, rfl⟩) | (apply n_call; (case hi => rfl); (case i1 => infer_instance); (case hg => rfl); (case hd => rfl); (case ha => rfl); (case hc => exact i2 _ _ ((q2.le (by assumption)).le hle9) (hz hb9)); (case hL => (exact pmT)); (case hsub => (intros; (exact sbT))); rintro _ _ _ - ⟨rfl, rfl, rfl⟩) | (refine Jn ?_; try intro _)); (apply h_one 28; (case hr => kernel_rfl)); (first | (apply n_make1 (m := 44); (case hi => rfl); (case i1 => infer_instance); (case i2 => infer_instance); (case i3 => infer_instance); (case i4 => infer_instance); (case hg => rfl); (case hd => rfl); (case hx => rfl); (case hy => rfl); (case hzc => rfl); (case hb => decide); (case h63 => decide); intro bm; refine Wh.freeze sbL fun S9 hle9 hb9 => ?_) | (apply n_call; (case hi => rfl); (case i1 => infer_instance); (case hg => rfl); (case hd => rfl); (case ha => rfl); (case hc => exact i1 _ _ (q1.le hle9) (hz hb9)); (case hL => (exact pmT)); (case hsub => (intros; (exact sbT))); rintro _ _ _ - ⟨rfl, rfl, rfl⟩) | (apply n_call; (case hi => rfl); (case i1 => infer_instance); (case hg => rfl); (case hd => rfl); (case ha => rfl); (case hc => exact i2 _ _ ((q2.le (by assumption)).le hle9) (hz hb9)); (case hL => (exact pmT)); (case hsub => (intros; (exact sbT))); rintro _ _ _ - ⟨rfl, rfl, rfl⟩) | (refine Jn ?_; try intro _)); refine Jf 29 ?_; refine Jf 30 ?_; (apply h_end; (case hr => kernel_rfl)); (apply q_then; exact q_cut ⟨rfl, rfl⟩ sbF sbL))
  by_cases g5 : als = List.replicate 44 0
  rotate_left
  · rw [bP_f (fun h => g5 (hiff.1 h).2.2.2.2.1)]
    have i1 := fun S2 b hA hB => ic S2 b als pla plc hA r1 hB
    simp only [bP_f g5] at i1
    ((apply c_held ([(b1, .cells [.int .i64 a0, .int .i64 a1, .int .i64 a2, .int .i64 a3, .int .i64 an, .int .i64 al, .int .i64 ah, .int .i64 ab, .slice pla als.length plc, .slice pha ahs.length phc].toArray 45 (0, 0))]); (case hL => (exact sbT))); refine Jf 0 ?_; refine Jf 1 ?_; refine Jf 2 ?_; refine Jf 3 ?_; refine Jf 4 ?_; refine Jf 5 ?_; refine Jf 6 ?_; refine Jf 7 ?_; refine Jf 8 ?_; refine Jf 9 ?_; refine Jf 10 ?_; refine Jf 11 ?_; refine Jf 12 ?_; refine Jf 13 ?_; refine Jf 14 ?_; refine Jf 15 ?_; refine Jf 16 ?_; refine Jf 17 ?_; refine Jf 18 ?_; refine Jf 19 ?_; refine Jf 20 ?_; (apply h_one 21; (case hr => kernel_rfl)); (first | (apply n_make1 (m := 44); (case hi => rfl); (case i1 => infer_instance); (case i2 => infer_instance); (case i3 => infer_instance); (case i4 => infer_instance); (case hg => rfl); (case hd => rfl); (case hx => rfl); (case hy => rfl); (case hzc => rfl); (case hb => decide); (case h63 => decide); intro bm; refine Wh.freeze sbL fun S9 hle9 hb9 => ?_) | (apply n_call; (case hi => rfl); (case i1 => infer_instance); (case hg => rfl); (case hd => rfl); (case ha => rfl); (case hc => exact i1 _ _ (q1.le hle9) (hz hb9)); (case hL => (exact pmT)); (case hsub => (intros; (exact sbT))); rintro _ _ _ - ⟨rfl, rfl, rfl⟩) | (apply n_call; (case hi => rfl); (case i1 => infer_instance); (case hg => rfl); (case hd => rfl); (case ha => rfl); (case hc => exact i2 _ _ ((q2.le (by assumption)).le hle9) (hz hb9)); (case hL => (exact pmT)); (case hsub => (intros; (exact sbT))); rintro _ _ _ - ⟨rfl, rfl, rfl⟩) | (refine Jn ?_; try intro _)); (apply h_one 22; (case hr => kernel_rfl)); (first | (apply n_make1 (m := 44); (case hi => rfl); (case i1 => infer_instance); (case i2 => infer_instance); (case i3 => infer_instance); (case i4 => infer_instance); (case hg => rfl); (case hd => rfl); (case hx => rfl); (case hy => rfl); (case hzc => rfl); (case hb => decide); (case h63 => decide); intro bm; refine Wh.freeze sbL fun S9 hle9 hb9 => ?_) | (apply n_call; (case hi => rfl); (case i1 => infer_instance); (case hg => rfl); (case hd => rfl); (case ha => rfl); (case hc => exact i1 _ _ (q1.le hle9) (hz hb9)); (case hL => (exact pmT)); (case hsub => (intros; (exact sbT))); rintro _ _ _ - ⟨rfl, rfl, rfl⟩) | (apply n_call; (case hi => rfl); (case i1 => infer_instance); (case hg => rfl); (case hd => rfl); (case ha => rfl); (case hc => exact i2 _ _ ((q2.le (by assumption)).le hle9) (hz hb9)); (case hL => (exact pmT)); (case hsub => (intros; (exact sbT))); rintro _ _ _ - ⟨rfl, rfl, rfl⟩) | (refine Jn ?_; try intro _)); refine Jf 23 ?_; refine Jf 24 ?_; refine Jf 25 ?_; refine Jf 26 ?_; (apply h_one 27; (case hr => kernel_rfl)); (first | (apply n_make1 (m := 44); (case hi => rfl); (case i1 => infer_instance); (case i2 => infer_instance); (case i3 => infer_instance); (case i4 => infer_instance); (case hg => rfl); (case hd => rfl); (case hx => rfl); (case hy => rfl); (case hzc => rfl); (case hb => decide); (case h63 => decide); intro bm; refine Wh.freeze sbL fun S9 hle9 hb9 => ?_) | (apply n_call; (case hi => rfl); (case i1 => infer_instance); (case hg => rfl); (case hd => rfl); (case ha => rfl); (case hc => exact i1 _ _ (q1.le hle9) (hz hb9)); (case hL => (exact pmT)); (case hsub => (intros; (exact sbT))); rintro _ _ _ - ⟨rfl, rfl, rfl⟩) | (apply n_call; (case hi => rfl); (case i1 => infer_instance); (case hg => rfl); (case hd => rfl); (case ha => rfl); (case hc => exact i2 _ _ ((q2.le (by assumption)).le hle9) (hz hb9)); (case hL => (exact pmT)); (case hsub => (intros; (exact sbT))); rintro _ _ _ - ⟨rfl, rfl, rfl⟩) | (refine Jn ?_; try intro _)); (apply h_one 28; (case hr => kernel_rfl)); (first | (apply n_make1 (m := 44); (case hi => rfl); (case i1 => infer_instance); (case i2 => infer_instance); (case i3 => infer_instance); (case i4 => infer_instance); (case hg => rfl); (case hd => rfl); (case hx => rfl); (case hy => rfl); (case hzc => rfl); (case hb => decide); (case h63 => decide); intro bm; refine Wh.freeze sbL fun S9 hle9 hb9 => ?_) | (apply n_call; (case hi => rfl); (case i1 => infer_instance); (case hg => rfl); (case hd => rfl); (case ha => rfl); (case hc => exact i1 _ _ (q1.le hle9) (hz hb9)); (case hL => (exact pmT)); (case hsub => (intros; (exact sbT))); rintro _ _ _ - ⟨rfl, rfl, rfl⟩) | (apply n_call; (case hi => rfl); (case i1 => infer_instance); (case hg => rfl); (case hd => rfl); (case ha => rfl); (case hc => exact i2 _ _ ((q2.le (by assumption)).le hle9) (hz hb9)); (case hL => (exact pmT)); (case hsub => (intros; (exact sbT))); rintro _ _ _ - ⟨rfl, rfl, rfl⟩) | (refine Jn ?_; try intro _)); refine Jf 29 ?_; refine Jf 30 ?_; (apply h_end; (case hr => kernel_rfl)); (apply q_then; exact q_cut ⟨rfl, rfl⟩ sbF sbL))
  have hb : bP (VoidV ⟨an, al, ah, ab, als, ahs⟩) = bP (ahs = List.replicate 44 0) := by
    by_cases g6 : ahs = List.replicate 44 0
    · rw [bP_t g6, bP_t (hiff.2 ⟨g1, g2, g3, g4, g5, g6⟩)]
    · rw [bP_f g6, bP_f (fun h => g6 (hiff.1 h).2.2.2.2.2)]
  rw [hb]
  have i1 := fun S2 b hA hB => ic S2 b als pla plc hA r1 hB
  simp only [bP_t g5] at i1
  have i2 := fun S2 b hA hB => ic S2 b ahs pha phc hA r2 hB
  generalize bP (ahs = List.replicate 44 0) = tb at *
  ((apply c_held ([(b1, .cells [.int .i64 a0, .int .i64 a1, .int .i64 a2, .int .i64 a3, .int .i64 an, .int .i64 al, .int .i64 ah, .int .i64 ab, .slice pla als.length plc, .slice pha ahs.length phc].toArray 45 (0, 0))]); (case hL => (exact sbT))); refine Jf 0 ?_; refine Jf 1 ?_; refine Jf 2 ?_; refine Jf 3 ?_; refine Jf 4 ?_; refine Jf 5 ?_; refine Jf 6 ?_; refine Jf 7 ?_; refine Jf 8 ?_; refine Jf 9 ?_; refine Jf 10 ?_; refine Jf 11 ?_; refine Jf 12 ?_; refine Jf 13 ?_; refine Jf 14 ?_; refine Jf 15 ?_; refine Jf 16 ?_; refine Jf 17 ?_; refine Jf 18 ?_; refine Jf 19 ?_; refine Jf 20 ?_; (apply h_one 21; (case hr => kernel_rfl)); (first | (apply n_make1 (m := 44); (case hi => rfl); (case i1 => infer_instance); (case i2 => infer_instance); (case i3 => infer_instance); (case i4 => infer_instance); (case hg => rfl); (case hd => rfl); (case hx => rfl); (case hy => rfl); (case hzc => rfl); (case hb => decide); (case h63 => decide); intro bm; refine Wh.freeze sbL fun S9 hle9 hb9 => ?_) | (apply n_call; (case hi => rfl); (case i1 => infer_instance); (case hg => rfl); (case hd => rfl); (case ha => rfl); (case hc => exact i1 _ _ (q1.le hle9) (hz hb9)); (case hL => (exact pmT)); (case hsub => (intros; (exact sbT))); rintro _ _ _ - ⟨rfl, rfl, rfl⟩) | (apply n_call; (case hi => rfl); (case i1 => infer_instance); (case hg => rfl); (case hd => rfl); (case ha => rfl); (case hc => exact i2 _ _ ((q2.le (by assumption)).le hle9) (hz hb9)); (case hL => (exact pmT)); (case hsub => (intros; (exact sbT))); rintro _ _ _ - ⟨rfl, rfl, rfl⟩) | (refine Jn ?_; try intro _)); (apply h_one 22; (case hr => kernel_rfl)); (first | (apply n_make1 (m := 44); (case hi => rfl); (case i1 => infer_instance); (case i2 => infer_instance); (case i3 => infer_instance); (case i4 => infer_instance); (case hg => rfl); (case hd => rfl); (case hx => rfl); (case hy => rfl); (case hzc => rfl); (case hb => decide); (case h63 => decide); intro bm; refine Wh.freeze sbL fun S9 hle9 hb9 => ?_) | (apply n_call; (case hi => rfl); (case i1 => infer_instance); (case hg => rfl); (case hd => rfl); (case ha => rfl); (case hc => exact i1 _ _ (q1.le hle9) (hz hb9)); (case hL => (exact pmT)); (case hsub => (intros; (exact sbT))); rintro _ _ _ - ⟨rfl, rfl, rfl⟩) | (apply n_call; (case hi => rfl); (case i1 => infer_instance); (case hg => rfl); (case hd => rfl); (case ha => rfl); (case hc => exact i2 _ _ ((q2.le (by assumption)).le hle9) (hz hb9)); (case hL => (exact pmT)); (case hsub => (intros; (exact sbT))); rintro _ _ _ - ⟨rfl, rfl, rfl⟩) | (refine Jn ?_; try intro _)); refine Jf 23 ?_; refine Jf 24 ?_; refine Jf 25 ?_; refine Jf 26 ?_; (apply h_one 27; (case hr => kernel_rfl)); (first | (apply n_make1 (m := 44); (case hi => rfl); (case i1 => infer_instance); (case i2 => infer_instance); (case i3 => infer_instance); (case i4 => infer_instance); (case hg => rfl); (case hd => rfl); (case hx => rfl); (case hy => rfl); (case hzc => rfl); (case hb => decide); (case h63 => decide); intro bm; refine Wh.freeze sbL fun S9 hle9 hb9 => ?_) | (apply n_call; (case hi => rfl); (case i1 => infer_instance); (case hg => rfl); (case hd => rfl); (case ha => rfl); (case hc => exact i1 _ _ (q1.le hle9) (hz hb9)); (case hL => (exact pmT)); (case hsub => (intros; (exact sbT))); rintro _ _ _ - ⟨rfl, rfl, rfl⟩) | (apply n_call; (case hi => rfl); (case i1 => infer_instance); (case hg => rfl); (case hd => rfl); (case ha => rfl); (case hc => exact i2 _ _ ((q2.le (by assumption)).le hle9) (hz hb9)); (case hL => (exact pmT)); (case hsub => (intros; (exact sbT))); rintro _ _ _ - ⟨rfl, rfl, rfl⟩) | (refine Jn ?_; try intro _)); (apply h_one 28; (case hr => kernel_rfl)); (first | (apply n_make1 (m := 44); (case hi => rfl); (case i1 => infer_instance); (case i2 => infer_instance); (case i3 => infer_instance); (case i4 => infer_instance); (case hg => rfl); (case hd => rfl); (case hx => rfl); (case hy => rfl); (case hzc => rfl); (case hb => decide); (case h63 => decide); intro bm; refine Wh.freeze sbL fun S9 hle9 hb9 => ?_) | (apply n_call; (case hi => rfl); (case i1 => infer_instance); (case hg => rfl); (case hd => rfl); (case ha => rfl); (case hc => exact i1 _ _ (q1.le hle9) (hz hb9)); (case hL => (exact pmT)); (case hsub => (intros; (exact sbT))); rintro _ _ _ - ⟨rfl, rfl, rfl⟩) | (apply n_call; (case hi => rfl); (case i1 => infer_instance); (case hg => rfl); (case hd => rfl); (case ha => rfl); (case hc => exact i2 _ _ ((q2.le (by assumption)).le hle9) (hz hb9)); (case hL => (exact pmT)); (case hsub => (intros; (exact sbT))); rintro _ _ _ - ⟨rfl, rfl, rfl⟩) | (refine Jn ?_; try intro _)); refine Jf 29 ?_; refine Jf 30 ?_; (apply h_end; (case hr => kernel_rfl)); (apply q_then; exact q_cut ⟨rfl, rfl⟩ sbF sbL))
end Go.Proofs.YtogfficbloejcaaDoor
namespace Go.Proofs.YtogfficbloejcaaDoor
open Go Go.X
set_option maxRecDepth 10000
set_option linter.unusedVariables false
attribute [local irreducible] Code.wpIn wpListIn Exit.then Exit.inBlock X.Out X.Back X.W X.Ev X.Con X.BinV X.Wh X.Wn X.Wq
theorem rValid_con (cs : List Ce) (A : Option Addr) (c : Nat) (S : SH) (hA : At S A cs) (hok : ∀ q ∈ cs, q.ok S) (hl : cs.length ≤ 1000000) :
    Con Tryd.prog 29 #[.agg #[.slice A cs.length c]] S [] (Pure S (.bool (bP (ValidP (cs.map (·.p)))))) := by
  refine con_of (args := [.agg [.slice A cs.length c].toArray]) Tryd.func29 rfl Tryd.ntmps29 rfl fun w => ?_
  by_cases h4 : cs.length ≤ 400
  rotate_left
  · (repeat (first | refine Jz ?_ | intro _))
    exact o_ret Tryd.results29 rfl (List.nil_sublist _) ⟨rfl, rfl, by rw [bP_f fun h => h4 (by simpa using h.len)]⟩
  (repeat (first | refine Jz ?_ | intro _))
  rename_i b1
  refine c_loop (fun m S' L F => S' = S ∧ L = [(b1, .cells [.slice A cs.length c].toArray 24 (0, 0))] ∧ ∃ (i : Nat), m = cs.length - i ∧ i ≤ cs.length ∧ (∀ q ∈ cs.take i, PcP q.p) ∧ (∀ (j : Nat) (a b : Ce), j + 1 < i → cs[j]? = some a → cs[j + 1]? = some b → cmpL a.p.key b.p.key < 0) ∧
      F = [(1, .pointer (some ⟨b1, 0, none⟩)), (3, .int .i64 i)]) ⟨rfl, rfl, 0, rfl, by omega, by simp, by omega, rfl⟩ sbF sbL ?_
  rintro m S' L F ⟨rfl, rfl, i, rfl, hi1, hall, hasc, rfl⟩
  by_cases hlt : i < cs.length
  rotate_left
  · obtain rfl : i = cs.length := by omega
    rw [List.take_length] at hall
    (repeat (first | refine Jz ?_ | intro _))
    refine o_ret Tryd.results29 rfl (List.nil_sublist _) ⟨rfl, rfl, ?_⟩
    have hv : ValidP (cs.map (·.p)) := by
      refine ⟨?_, ?_, by simpa using h4⟩
      · intro p hp
        obtain ⟨q, hq, rfl⟩ := List.mem_map.1 hp
        exact hall q hq
      · intro j a b ha hb
        rw [List.getElem?_map] at ha hb
        cases ha' : cs[j]? with
        | none => rw [ha'] at ha; cases ha
        | some qa =>
          cases hb' : cs[j + 1]? with
          | none => rw [hb'] at hb; cases hb
          | some qb =>
            rw [ha'] at ha; rw [hb'] at hb
            injection ha with ha; injection hb with hb
            subst ha hb
            exact hasc j qa qb (List.getElem?_eq_some_iff.1 hb').1 ha' hb'
    rw [bP_t hv]
  obtain ⟨q, hq⟩ := at_lt' hlt
  have hqok := hok q (List.mem_of_getElem? hq)
  have hqm : (cs.map (·.p))[i]? = some q.p := by rw [List.getElem?_map, hq]; rfl
  have vc := rValidCell_con q S' hqok
  by_cases hc : PcP q.p
  rotate_left
  · rw [bP_f hc] at vc
    (repeat (first | refine Jc ?_ | (apply s_idx hA; (case hg => rfl); (case hd => rfl); (case hx => rfl); (case hi => rfl); (case hm => rfl); (case hu => exact hq); intro p hp) | (apply s_load_ag; (case hg => rfl); (case hd => rfl); (case hx => rfl); (case hv => exact hp); (case hl => rfl)) | ((apply z_call; rfl; rfl; rfl; exact vc; rintro _ _ _ - ⟨rfl, rfl, rfl⟩)) | refine Jo ?_ | intro _))
    exact o_ret Tryd.results29 rfl (List.nil_sublist _) ⟨rfl, rfl, by rw [bP_f fun h => hc (h.each q.p (List.mem_of_getElem? hqm))]⟩
  rw [bP_t hc] at vc
  have hnext : ∀ x ∈ cs.take (i + 1), PcP x.p := by
    intro x hx
    rw [take_at' hq] at hx
    rcases List.mem_append.1 hx with hx | hx
    · exact hall x hx
    · rw [List.mem_singleton.1 hx]; exact hc
  cases i with
  | zero =>
    (repeat (first | refine Jc ?_ | (apply s_idx hA; (case hg => rfl); (case hd => rfl); (case hx => rfl); (case hi => rfl); (case hm => rfl); (case hu => exact hq); intro p hp) | (apply s_load_ag; (case hg => rfl); (case hd => rfl); (case hx => rfl); (case hv => exact hp); (case hl => rfl)) | ((apply z_call; rfl; rfl; rfl; exact vc; rintro _ _ _ - ⟨rfl, rfl, rfl⟩)) | refine Jo ?_ | intro _))
    exact q_back (m' := cs.length - (0 + 1)) ⟨rfl, rfl, 0 + 1, rfl, by omega, hnext, fun j a b hj => by omega, rfl⟩ (by omega) sbF sbL
  | succ i =>
    obtain ⟨q0, hq0⟩ := at_lt' (show i < cs.length by omega)
    have hq0m : (cs.map (·.p))[i]? = some q0.p := by rw [List.getElem?_map, hq0]; rfl
    have bc := rBefore_con q0 q S'
    by_cases hb : Bef q0.p q.p
    · rw [bP_t hb] at bc
      (repeat (first | refine Jc ?_ | (apply s_idx hA; (case hg => rfl); (case hd => rfl); (case hx => rfl); (case hi => rfl); (case hm => rfl); (case hu => exact hq); intro p hp) | (apply s_load_ag; (case hg => rfl); (case hd => rfl); (case hx => rfl); (case hv => exact hp); (case hl => rfl)) | ((apply z_call; rfl; rfl; rfl; exact vc; rintro _ _ _ - ⟨rfl, rfl, rfl⟩)) | refine Jo ?_ | intro _))
      ((apply c_held ([(b1, .cells [.slice A cs.length c].toArray 24 (0, 0))]); (case hL => (exact sbT))); refine Jf 0 ?_; refine Jf 1 ?_; refine Jf 2 ?_; refine Jf 3 ?_; (apply h_idx (j := i) hA 4; (case hi => rfl); (case hr => kernel_rfl); (case hfr => kernel_rfl); (case hsel => kernel_rfl); (case hg => rfl); (case hd => rfl); (case i1 => infer_instance); (case i2 => infer_instance); (case hx => rfl); (case hy => (refine congrArg some (congrArg (Value.int .i64) ?_); omega)); (case hm => rfl); (case hu => exact hq0); intro p0 hp0); (apply h_first 5; (case hi => rfl); (case hr => kernel_rfl); (case hfr => kernel_rfl); (case hsel => kernel_rfl); (case hg => rfl); (case hd => rfl); (case he => (apply ev_load_ag; (case hx => rfl); (case h => exact hp0); (case hl => rfl)))); refine Jf 6 ?_; refine Jf 7 ?_; refine Jf 8 ?_; (apply h_idx hA 9; (case hi => rfl); (case hr => kernel_rfl); (case hfr => kernel_rfl); (case hsel => kernel_rfl); (case hg => rfl); (case hd => rfl); (case i1 => infer_instance); (case i2 => infer_instance); (case hx => rfl); (case hy => rfl); (case hm => rfl); (case hu => exact hq); intro p1 hp1); (apply h_first 10; (case hi => rfl); (case hr => kernel_rfl); (case hfr => kernel_rfl); (case hsel => kernel_rfl); (case hg => rfl); (case hd => rfl); (case he => (apply ev_load_ag; (case hx => rfl); (case h => exact hp1); (case hl => rfl)))); (apply h_one 11; (case hr => kernel_rfl)); (apply n_call; (case hi => rfl); (case i1 => infer_instance); (case hg => rfl); (case hd => rfl); (case ha => rfl); (case hc => exact bc); (case hL => (exact pmT)); (case hsub => (intros; (exact sbT))); rintro _ _ _ - ⟨rfl, rfl, rfl⟩); refine Jf 12 ?_; (apply h_end; (case hr => kernel_rfl)))
      (repeat (first | refine Jz ?_ | intro _))
      refine q_back (m' := cs.length - (i + 1 + 1)) ⟨rfl, rfl, i + 1 + 1, rfl, by omega, hnext, ?_, rfl⟩ (by omega) sbF sbL
      intro j a b hj ha hb'
      by_cases hji : j = i
      · subst hji
        rw [hq0] at ha; rw [hq] at hb'
        injection ha with ha; injection hb' with hb'
        subst ha hb'
        exact hb
      · exact hasc j a b (by omega) ha hb'
    · rw [bP_f hb] at bc
      (repeat (first | refine Jc ?_ | (apply s_idx hA; (case hg => rfl); (case hd => rfl); (case hx => rfl); (case hi => rfl); (case hm => rfl); (case hu => exact hq); intro p hp) | (apply s_load_ag; (case hg => rfl); (case hd => rfl); (case hx => rfl); (case hv => exact hp); (case hl => rfl)) | ((apply z_call; rfl; rfl; rfl; exact vc; rintro _ _ _ - ⟨rfl, rfl, rfl⟩)) | refine Jo ?_ | intro _))
      ((apply c_held ([(b1, .cells [.slice A cs.length c].toArray 24 (0, 0))]); (case hL => (exact sbT))); refine Jf 0 ?_; refine Jf 1 ?_; refine Jf 2 ?_; refine Jf 3 ?_; (apply h_idx (j := i) hA 4; (case hi => rfl); (case hr => kernel_rfl); (case hfr => kernel_rfl); (case hsel => kernel_rfl); (case hg => rfl); (case hd => rfl); (case i1 => infer_instance); (case i2 => infer_instance); (case hx => rfl); (case hy => (refine congrArg some (congrArg (Value.int .i64) ?_); omega)); (case hm => rfl); (case hu => exact hq0); intro p0 hp0); (apply h_first 5; (case hi => rfl); (case hr => kernel_rfl); (case hfr => kernel_rfl); (case hsel => kernel_rfl); (case hg => rfl); (case hd => rfl); (case he => (apply ev_load_ag; (case hx => rfl); (case h => exact hp0); (case hl => rfl)))); refine Jf 6 ?_; refine Jf 7 ?_; refine Jf 8 ?_; (apply h_idx hA 9; (case hi => rfl); (case hr => kernel_rfl); (case hfr => kernel_rfl); (case hsel => kernel_rfl); (case hg => rfl); (case hd => rfl); (case i1 => infer_instance); (case i2 => infer_instance); (case hx => rfl); (case hy => rfl); (case hm => rfl); (case hu => exact hq); intro p1 hp1); (apply h_first 10; (case hi => rfl); (case hr => kernel_rfl); (case hfr => kernel_rfl); (case hsel => kernel_rfl); (case hg => rfl); (case hd => rfl); (case he => (apply ev_load_ag; (case hx => rfl); (case h => exact hp1); (case hl => rfl)))); (apply h_one 11; (case hr => kernel_rfl)); (apply n_call; (case hi => rfl); (case i1 => infer_instance); (case hg => rfl); (case hd => rfl); (case ha => rfl); (case hc => exact bc); (case hL => (exact pmT)); (case hsub => (intros; (exact sbT))); rintro _ _ _ - ⟨rfl, rfl, rfl⟩); refine Jf 12 ?_; (apply h_end; (case hr => kernel_rfl)))
      (repeat (first | refine Jz ?_ | intro _))
      exact o_ret Tryd.results29 rfl (List.nil_sublist _) ⟨rfl, rfl, by rw [bP_f fun h => hb (h.asc i _ _ hq0m hqm)]⟩
noncomputable def skOf (l : List PC) : List PC × Int := by classical exact if ValidP l then (l, 0) else ([], 170)
theorem kept_snoc (l : List PC) (c : PC) : kept (l ++ [c]) = kept l ++ if bP (VoidV c.x) then [] else [c] := by
  unfold kept
  rw [List.filter_append]
  congr 1
  simp only [List.filter_cons, List.filter_nil]
  cases bP (VoidV c.x) <;> rfl
theorem kept_len (l : List PC) : (kept l).length ≤ l.length := List.length_filter_le _ _
/-- A sketch in memory, its slice no longer than its room. -/
def SkC (S : SH) (v : Value) (l : List PC) : Prop := ∃ (A : Option Addr) (c : Nat) (cs : List Ce), v = .agg #[.slice A cs.length c] ∧ cs.length ≤ c ∧ At S A cs ∧ (∀ q ∈ cs, q.ok S) ∧ cs.length ≤ 1000 ∧ cs.map (·.p) = l
theorem SkC.sk {S : SH} {v : Value} {l : List PC} (h : SkC S v l) : SkV S v l := by
  obtain ⟨A, c, cs, h1, _, h2, h3, h4, h5⟩ := h
  exact ⟨A, c, cs, h1, h2, h3, h4, h5⟩
theorem SkC.le {S T : SH} {v : Value} {l : List PC} (h : SkC S v l) (k : Le S T) : SkC T v l := by
  obtain ⟨A, c, cs, h1, h0, h2, h3, h4, h5⟩ := h
  exact ⟨A, c, cs, h1, h0, h2.le k, fun q hq => (h3 q hq).le k, h4, h5⟩
theorem nil_skc (S : SH) : SkC S (.agg #[.slice none 0 0]) [] := ⟨none, 0, [], rfl, Nat.le_refl _, At.nil _ _, fun q hq => absurd hq List.not_mem_nil, by decide, rfl⟩
theorem rSketchC_con {va : Value} {l : List PC} (S : SH) (hl : ClV S va l) (hlen : l.length ≤ 900) (r1 : ∀ p ∈ l, R44 p) :
    Con Tryd.prog 49 #[va] S [] (fun S' L' r => L' = [] ∧ ∃ v, r = .tuple #[v, .int .i64 (skOf (kept l)).2] ∧ SkC S' v (skOf (kept l)).1) := by
  obtain ⟨A, ca, cs, rfl, hca, hA, oka, rfl⟩ := hl
  rw [List.length_map] at hlen
  refine con_of (args := [.slice A cs.length ca]) Tryd.func49 rfl Tryd.ntmps49 rfl fun w => ?_
  (repeat (first | refine Jc ?_ | (apply s_evb; (case hg => rfl); (case hd => rfl); (case hn => rfl); (case he => (apply ev_buildS; (case hp => rfl); (case hz => rfl); (case h1 => rfl); (case hr => rfl)))) | refine Jo ?_ | intro _))
  rename_i b2 b4
  refine c_loop (fun m S' L F => Le S S' ∧ ∃ (i : Nat) (lc : List Ce) (pv : Value) (ob : Blocks), m = cs.length - i ∧ i ≤ cs.length ∧ Ows 45 pv lc ob ∧ lc.map (·.p) = kept ((cs.map (·.p)).take i) ∧ (∀ q ∈ lc, q.ok S') ∧ lc.length ≤ i ∧ L = ob ++ [(b4, .cells [pv].toArray 24 (0, 0)), (b2, .cells [.slice none 0 0].toArray 24 (0, 0))] ∧
      F = [(0, .slice A cs.length ca), (2, .pointer (some ⟨b2, 0, none⟩)), (4, .pointer (some ⟨b4, 0, none⟩)), (5, .int .i64 i)]) ⟨Le.refl _, 0, [], .slice none 0 0, [], rfl, by omega, Ows.nil 45, rfl, fun q hq => absurd hq List.not_mem_nil, by simp, rfl, rfl⟩ sbF (List.Sublist.refl _) ?_
  rintro m S' L F ⟨hle, i, lc, pv, ob, rfl, hi, hob, hmp, hok, hlc, rfl, rfl⟩
  by_cases hlt : i < cs.length
  · obtain ⟨q, hq⟩ := at_lt' hlt
    have hqok := (oka q (List.mem_of_getElem? hq)).le hle
    have hqm : (cs.map (·.p))[i]? = some q.p := by rw [List.getElem?_map, hq]; rfl
    have vc := rVoid_con q S' hqok (r1 q.p (List.mem_of_getElem? hqm))
    have hks := kept_snoc ((cs.map (·.p)).take i) q.p
    rw [← take_at' hqm] at hks
    generalize bP (VoidV q.p.x) = tb at *
    cases tb
    · (repeat (first | refine Jc ?_ | (apply s_idx (hA.le hle); (case hg => rfl); (case hd => rfl); (case hx => rfl); (case hi => rfl); (case hm => rfl); (case hu => exact hq); intro p hp) | (apply s_load_ag; (case hg => rfl); (case hd => rfl); (case hx => rfl); (case hv => exact hp); (case hl => rfl)) | ((apply z_call; rfl; rfl; rfl; exact vc; rintro S2 _ _ hle2 ⟨rfl, rfl⟩)) | refine Jo ?_ | intro _))
      have hA2 := (hA.le hle).le hle2
      have hokn : ∀ c ∈ lc ++ [q], c.ok S2 := fun c hc => by
        rcases List.mem_append.1 hc with hc | hc
        · exact (hok c hc).le hle2
        · rw [List.mem_singleton.1 hc]; exact hqok.le hle2
      ((apply c_held ([]); (case hL => (exact sbT))); refine Jf 0 ?_; refine Jf 2 ?_; refine Jf 3 ?_; (apply h_idx hA2 4; (case hi => rfl); (case hr => kernel_rfl); (case hfr => kernel_rfl); (case hsel => kernel_rfl); (case hg => rfl); (case hd => rfl); (case i1 => infer_instance); (case i2 => infer_instance); (case hx => rfl); (case hy => rfl); (case hm => rfl); (case hu => exact hq); intro p1 hp1); (apply h_first 5; (case hi => rfl); (case hr => kernel_rfl); (case hfr => kernel_rfl); (case hsel => kernel_rfl); (case hg => rfl); (case hd => rfl); (case he => (apply ev_load_ag; (case hx => rfl); (case h => exact hp1); (case hl => rfl)))); (apply h_two 1 6; (case hr => kernel_rfl)); (case k1 => ((refine Jn ?_; try intro _); (apply h_one 6; (case hr => kernel_rfl)); (apply n_buildSlice; (case hi => rfl); (case hg => rfl); (case hd => rfl); (case i1 => infer_instance); (case i2 => infer_instance); (case i3 => infer_instance); (case hp => rfl); (case hq => rfl); (case hm => rfl); (case hv => rfl); (case hl => rfl); intro bl); (apply h_one 7; (case hr => kernel_rfl)); (apply n_append (ms := [q]); (case hi => rfl); (case hT => infer_instance); (case hsz => infer_instance); (case hz => infer_instance); (case hby => infer_instance); (case hg => rfl); (case hd => rfl); (case hx => rfl); (case ho => exact hob); (case hL => (exact pmT)); (case hy => rfl); (case hm => rfl); (case hs => (apply Src.own; (repeat (first | exact List.Mem.head _ | apply List.Mem.tail | apply List.mem_append_right)))); (case hzs => rfl); (case h0 => decide); (case hb => (simp; omega)); (case h63 => (simp; omega)); (case hsub => (intros; (exact sbT))); intro v' ob' ho'; obtain ⟨Av, cv, rfl⟩ := ho'.form); refine Jf 8 ?_; (apply h_one 9; (case hr => kernel_rfl)); (refine Jn ?_; try intro _); (apply h_end; (case hr => kernel_rfl)); ((repeat (first | refine Jz ?_ | intro _)); exact q_back (m' := cs.length - (i + 1)) ⟨hle.trans hle2, i + 1, lc ++ [q], _, ob', rfl, by omega, ho', by rw [hks, List.map_append, hmp]; rfl, hokn, by rw [List.length_append, List.length_singleton]; omega, rfl, rfl⟩ (by omega) sbF sbL))); (case k2 => ((apply n_buildSlice; (case hi => rfl); (case hg => rfl); (case hd => rfl); (case i1 => infer_instance); (case i2 => infer_instance); (case i3 => infer_instance); (case hp => rfl); (case hq => rfl); (case hm => rfl); (case hv => rfl); (case hl => rfl); intro bl); (apply h_one 1; (case hr => kernel_rfl)); (refine Jn ?_; try intro _); (apply h_one 7; (case hr => kernel_rfl)); (apply n_append (ms := [q]); (case hi => rfl); (case hT => infer_instance); (case hsz => infer_instance); (case hz => infer_instance); (case hby => infer_instance); (case hg => rfl); (case hd => rfl); (case hx => rfl); (case ho => exact hob); (case hL => (exact pmT)); (case hy => rfl); (case hm => rfl); (case hs => (apply Src.own; (repeat (first | exact List.Mem.head _ | apply List.Mem.tail | apply List.mem_append_right)))); (case hzs => rfl); (case h0 => decide); (case hb => (simp; omega)); (case h63 => (simp; omega)); (case hsub => (intros; (exact sbT))); intro v' ob' ho'; obtain ⟨Av, cv, rfl⟩ := ho'.form); refine Jf 8 ?_; (apply h_one 9; (case hr => kernel_rfl)); (refine Jn ?_; try intro _); (apply h_end; (case hr => kernel_rfl)); ((repeat (first | refine Jz ?_ | intro _)); exact q_back (m' := cs.length - (i + 1)) ⟨hle.trans hle2, i + 1, lc ++ [q], _, ob', rfl, by omega, ho', by rw [hks, List.map_append, hmp]; rfl, hokn, by rw [List.length_append, List.length_singleton]; omega, rfl, rfl⟩ (by omega) sbF sbL))))
    · (repeat (first | refine Jc ?_ | (apply s_idx (hA.le hle); (case hg => rfl); (case hd => rfl); (case hx => rfl); (case hi => rfl); (case hm => rfl); (case hu => exact hq); intro p hp) | (apply s_load_ag; (case hg => rfl); (case hd => rfl); (case hx => rfl); (case hv => exact hp); (case hl => rfl)) | ((apply z_call; rfl; rfl; rfl; exact vc; rintro S2 _ _ hle2 ⟨rfl, rfl⟩)) | refine Jo ?_ | intro _))
      exact q_back (m' := cs.length - (i + 1)) ⟨hle.trans hle2, i + 1, lc, pv, ob, rfl, by omega, hob, by rw [hks, hmp]; simp, fun q hq => (hok q hq).le hle2, by omega, rfl, rfl⟩ (by omega) sbF sbL
  obtain rfl : i = cs.length := by omega
  rw [List.take_of_length_le (by rw [List.length_map]; omega)] at hmp
  refine W.freezeOws hob (List.Perm.refl _) fun S2 hle2 hsr => ?_
  obtain ⟨A2, c2, rfl, hc2, hA2⟩ := hsr
  have hok2 : ∀ q ∈ lc, q.ok S2 := fun q hq => (hok q hq).le hle2
  have vc := rValid_con lc A2 c2 S2 hA2 hok2 (by omega)
  rw [hmp] at vc
  unfold skOf
  by_cases hv : ValidP (kept (cs.map (·.p)))
  · rw [bP_t hv] at vc
    rw [if_pos hv]
    (repeat (first | refine Jc ?_ | ((apply z_call; rfl; rfl; rfl; exact vc; rintro _ _ _ - ⟨rfl, rfl, rfl⟩)) | refine Jo ?_ | intro _))
    exact o_ret_c2 (L' := []) (sz := 1) (cs := [.slice A2 lc.length c2]) Tryd.results49 rfl rfl (by repeat (first | exact List.Mem.head _ | refine List.Mem.tail _ ?_ | exact List.mem_append_right _ (List.Mem.head _))) rfl (List.nil_sublist _) ⟨rfl, _, rfl, ⟨A2, c2, lc, rfl, hc2, hA2, hok2, by omega, hmp⟩⟩
  · rw [bP_f hv] at vc
    rw [if_neg hv]
    (repeat (first | refine Jc ?_ | (apply s_evb; (case hg => rfl); (case hd => rfl); (case hn => rfl); (case he => (apply ev_buildS; (case hp => rfl); (case hz => rfl); (case h1 => rfl); (case hr => rfl)))) | ((apply z_call; rfl; rfl; rfl; exact vc; rintro _ _ _ - ⟨rfl, rfl, rfl⟩)) | refine Jo ?_ | intro _))
    exact o_ret_c2 (L' := []) (sz := 1) (cs := [.slice none 0 0]) Tryd.results49 rfl rfl (by repeat (first | exact List.Mem.head _ | refine List.Mem.tail _ ?_ | exact List.mem_append_right _ (List.Mem.head _))) rfl (List.nil_sublist _) ⟨rfl, _, rfl, nil_skc _⟩
theorem rSketch_con {va : Value} {l : List PC} (S : SH) (hl : ClV S va l) (hlen : l.length ≤ 900) (r1 : ∀ p ∈ l, R44 p) :
    Con Tryd.prog 49 #[va] S [] (fun S' L' r => L' = [] ∧ ∃ v, r = .tuple #[v, .int .i64 (skOf (kept l)).2] ∧ SkV S' v (skOf (kept l)).1) :=
  (rSketchC_con S hl hlen r1).mono fun S' L' r _ ⟨h1, v, h2, h3⟩ => ⟨h1, v, h2, h3.sk⟩
end Go.Proofs.YtogfficbloejcaaDoor
namespace Go.Proofs.YtogfficbloejcaaDoor
open Go Go.X
set_option maxRecDepth 10000
set_option linter.unusedVariables false
attribute [local irreducible] Code.wpIn wpListIn Exit.then Exit.inBlock X.Out X.Back X.W X.Ev X.Con X.BinV X.Wh X.Wn X.Wq
/-- One integer is read; none: nothing can be read any more. -/
def get1 (s : Bs) : Option Nat → Int × Option Nat
  | none => (0, none)
  | some p => match decI (s.drop p) with
    | none => (0, none)
    | some (n, k) => (n, some (p + k))
def okO (q : Option Nat) : Obj := .cells [.bool q.isSome].toArray 4 (0, 0)
def endO (e : Int) : Obj := .cells [.int .i64 e].toArray 3 (0, 0)
def EndIs (s : Bs) (q : Option Nat) (e : Int) : Prop := ∀ p, q = some p → e = p ∧ p ≤ s.length
theorem decI_len {l : Bs} {n : Int} {k : Nat} (h : decI l = some (n, k)) : 1 ≤ k ∧ k ≤ l.length ∧ k ≤ 9 ∧ wOk n := by
  obtain ⟨h1, h2, h3⟩ := (decI_iff l n k).1 h
  have h4 := congrArg List.length h3
  rw [List.length_take] at h4
  have h5 := ibs_len h1
  have h6 : 0 < (ibs n).length := enc_pos _
  exact ⟨by omega, by omega, by omega, h1⟩
theorem get1_end {s : Bs} {q : Option Nat} {e : Int} (h : EndIs s q e) : ∃ e', EndIs s (get1 s q).2 e' := by
  cases q with
  | none => exact ⟨0, fun p hp => by simp [get1] at hp⟩
  | some p =>
    simp only [get1]
    cases hd : decI (s.drop p) with
    | none => exact ⟨0, fun p hp => by simp at hp⟩
    | some x =>
      obtain ⟨n, k⟩ := x
      have := decI_len hd
      rw [List.length_drop] at this
      have h2 := h p rfl
      exact ⟨((p + k : Nat) : Int), fun p' hp => by simp only [Option.some.injEq] at hp; subst hp; exact ⟨rfl, by omega⟩⟩
theorem get_con (s : Bs) (hs : s.length ≤ 9223372036854775807) (q : Option Nat) (e : Int) (he : EndIs s q e) (bo be : Nat) (ps : Addr) (S : SH) (hps : Pts S ps [strV s]) :
    Con Tryd.prog 69 #[.pointer (some ⟨bo, 0, none⟩), .pointer (some ps), .pointer (some ⟨be, 0, none⟩)] S [(bo, okO q), (be, endO e)] (fun S' L' v => S' = S ∧ v = .int .i64 (get1 s q).1 ∧ ∃ e', EndIs s (get1 s q).2 e' ∧ L' = [(bo, okO (get1 s q).2), (be, endO e')]) := by
  refine con_of (args := [.pointer (some ⟨bo, 0, none⟩), .pointer (some ps), .pointer (some ⟨be, 0, none⟩)]) Tryd.func69 rfl Tryd.ntmps69 rfl fun w => ?_
  cases q with
  | none =>
    unfold okO endO
    (repeat (first | refine Jz ?_ | intro _))
    exact o_ret (L' := [(bo, okO none), (be, endO e)]) Tryd.results69 rfl (List.Sublist.refl _) ⟨rfl, rfl, e, he, rfl⟩
  | some p =>
    obtain ⟨rfl, hp⟩ := he p rfl
    have hi := Int_con s p S hs
    rw [intV, if_neg (by omega), Int.toNat_natCast] at hi
    unfold okO endO
    cases hd : decI (s.drop p) with
    | none =>
      rw [hd] at hi
      (repeat (first | refine Jc ?_ | (apply s_load1; (case hg => rfl); (case hd => rfl); (case hx => rfl); (case hv => exact hps)) | ((apply z_call; rfl; rfl; rfl; exact hi; rintro _ _ _ - ⟨rfl, rfl, rfl⟩)) | refine Jo ?_ | intro _))
      exact o_ret (L' := [(bo, okO none), (be, endO 0)]) Tryd.results69 rfl (List.Sublist.refl _) ⟨rfl, by rw [get1, hd], 0, fun p hp => by simp [get1, hd] at hp, by rw [get1, hd]; rfl⟩
    | some x =>
      obtain ⟨n, k⟩ := x
      rw [hd] at hi
      have := decI_len hd
      rw [List.length_drop] at this
      (repeat (first | refine Jc ?_ | (apply s_load1; (case hg => rfl); (case hd => rfl); (case hx => rfl); (case hv => exact hps)) | ((apply z_call; rfl; rfl; rfl; exact hi; rintro _ _ _ - ⟨rfl, rfl, rfl⟩)) | refine Jo ?_ | intro _))
      exact o_ret (L' := [(bo, okO (some (p + k))), (be, endO ((p : Int) + k))]) Tryd.results69 rfl (List.Sublist.refl _) ⟨rfl, by rw [get1, hd], (p : Int) + k, fun p' hp => by simp only [get1, hd, Option.some.injEq] at hp; subst hp; exact ⟨by omega, by omega⟩, by rw [get1, hd]; rfl⟩
def rdRow (s : Bs) : Nat → Option Nat → Int → List Int → List Int × Option Nat
  | 0, q, _, l => (l, q)
  | _ + 1, none, _, l => (l, none)
  | n + 1, some p, last, l =>
    if (get1 s (get1 s (some p)).2).2.isSome = true ∧ last < (get1 s (some p)).1 ∧ (get1 s (some p)).1 < 44 ∧ (get1 s (get1 s (some p)).2).1 ≠ 0 then
      rdRow s n (get1 s (get1 s (some p)).2).2 (get1 s (some p)).1 (l.set (get1 s (some p)).1.toNat (get1 s (get1 s (some p)).2).1)
    else (l, none)
theorem rdRow_none (s : Bs) (n : Nat) (last : Int) (l : List Int) : rdRow s n none last l = (l, none) := by cases n <;> rfl
/-- A row of counts is read. -/
def rowR (s : Bs) (q : Option Nat) : List Int × Option Nat := rdRow s (get1 s q).1.toNat (get1 s q).2 (-1) (List.replicate 44 0)
theorem get1_bd (s : Bs) (q : Option Nat) : wOk (get1 s q).1 := by
  cases q with
  | none => show wOk 0; unfold wOk; omega
  | some p =>
    simp only [get1]
    cases hd : decI (s.drop p) with
    | none => unfold wOk; simp
    | some x => obtain ⟨n, k⟩ := x; exact (decI_len hd).2.2.2
set_option maxHeartbeats 1600000 in
theorem row_con (s : Bs) (hs : s.length ≤ 9223372036854775807) (q : Option Nat) (e : Int) (he : EndIs s q e) (bo be : Nat) (ps pg : Addr) (S : SH) (hps : Pts S ps [strV s]) (hpg : Pts S pg [.func (.func 69) #[] #[.pointer (some ⟨bo, 0, none⟩), .pointer (some ps), .pointer (some ⟨be, 0, none⟩)]]) :
    Con Tryd.prog 71 #[.pointer (some pg), .pointer (some ⟨bo, 0, none⟩)] S [(bo, okO q), (be, endO e)] (fun S' L' v => (rowR s q).1.length = 44 ∧ ∃ A e', v = .slice A (rowR s q).1.length 44 ∧ At S' A (rowR s q).1 ∧ EndIs s (rowR s q).2 e' ∧ L' = [(bo, okO (rowR s q).2), (be, endO e')]) := by
  refine con_of (args := [.pointer (some pg), .pointer (some ⟨bo, 0, none⟩)]) Tryd.func71 rfl Tryd.ntmps71 rfl fun w => ?_
  obtain ⟨g, hg⟩ : ∃ g, g = get1 s q := ⟨_, rfl⟩
  have hgc := get_con s hs q e he bo be ps S hps
  rw [← hg] at hgc
  have hb1 := get1_bd s q
  rw [← hg] at hb1
  obtain ⟨n0, q0⟩ := g
  have hrr : rowR s q = rdRow s n0.toNat q0 (-1) (List.replicate 44 0) := by rw [rowR, ← hg]
  rw [hrr]
  simp only at hgc hb1
  unfold wOk at hb1
  (repeat (first | refine Jc ?_ | (apply s_load1; (case hg => rfl); (case hd => rfl); (case hx => rfl); (case hv => exact hpg)) | (apply s_make1 (m := 44); (case hg => rfl); (case hd => rfl); (case hx => rfl); (case hy => rfl); (case hzc => rfl); (case hb => omega); (case h63 => omega); intro _) | (apply s_callw (caps := [.pointer (some ⟨bo, 0, none⟩), .pointer (some ps), .pointer (some ⟨be, 0, none⟩)]); (case hg => rfl); (case hd => rfl); (case hx => rfl); (case i1 => infer_instance); (case ha => rfl); (case hc => exact hgc); (case hL => (exact pmT)); rintro S2 L2 v2 hle2 ⟨rfl, rfl, e1, he1, rfl⟩) | refine Jo ?_ | intro _))
  rename_i br
  refine c_loop (fun m S' L F => S' = S2 ∧ ∃ (nv last : Int) (q1 : Option Nat) (l : List Int) (e2 : Int), m = nv.toNat ∧ -4611686018427387903 ≤ nv ∧ nv ≤ 4611686018427387903 ∧ l.length = 44 ∧ EndIs s q1 e2 ∧ -1 ≤ last ∧ rdRow s nv.toNat q1 last l = rdRow s n0.toNat q0 (-1) (List.replicate 44 0) ∧ L = [(bo, okO q1), (be, endO e2), (br, .cells (l.map (Value.int .i64)).toArray 3 (0, 0))] ∧
      F = [(5, .int .i64 nv), (4, .int .i64 last), (3, .slice (some ⟨br, 0, none⟩) 44 44), (1, .pointer (some ⟨bo, 0, none⟩)), (0, .pointer (some pg))])
    (L' := [(bo, okO q0), (be, endO e1), (br, .cells (List.replicate 44 (Value.int .i64 0)).toArray 3 (0, 0))]) ⟨rfl, n0, -1, q0, List.replicate 44 0, e1, rfl, by omega, by omega, by simp, he1, by omega, rfl, by rw [List.map_replicate], rfl⟩ sbF (List.Sublist.refl _) ?_
  rintro m S' L F ⟨rfl, nv, last, q1, l, e2, rfl, n1, n2, hl, he2, hla, hrf, rfl, rfl⟩
  rw [← hrf]
  by_cases hn : 0 < nv
  rotate_left
  · rw [show nv.toNat = 0 by omega, rdRow]
    (repeat (first | refine Jz ?_ | intro _))
    refine W.perm (L' := (br, .cells (l.map (Value.int .i64)).toArray 3 (0, 0)) :: [(bo, okO q1), (be, endO e2)]) ?_ (List.perm_append_comm (l₁ := [_, _]) (l₂ := [_]))
    refine W.freeze fun S3 hle3 hb3 => ?_
    exact o_ret (L' := [(bo, okO q1), (be, endO e2)]) Tryd.results71 rfl (List.Sublist.refl _) ⟨hl, some ⟨br, 0, none⟩, e2, by rw [hl], at_litB hb3 (by simp [cells_int]), he2, rfl⟩
  obtain ⟨k1, hk1⟩ : ∃ k1, nv.toNat = k1 + 1 := ⟨nv.toNat - 1, by omega⟩
  cases q1 with
  | none =>
    rw [hk1, rdRow]
    unfold okO
    (repeat (first | refine Jz ?_ | intro _))
    refine W.perm (L' := (br, .cells (l.map (Value.int .i64)).toArray 3 (0, 0)) :: [(bo, okO none), (be, endO e2)]) ?_ (List.perm_append_comm (l₁ := [_, _]) (l₂ := [_]))
    refine W.freeze fun S3 hle3 hb3 => ?_
    exact o_ret (L' := [(bo, okO none), (be, endO e2)]) Tryd.results71 rfl (List.Sublist.refl _) ⟨hl, some ⟨br, 0, none⟩, e2, by rw [hl], at_litB hb3 (by simp [cells_int]), he2, rfl⟩
  | some p =>
    have hgc1 := get_con s hs (some p) e2 he2 bo be ps S' (hps.le hle2)
    rw [hk1, rdRow] at hrf ⊢
    have kb := get1_bd s (some p)
    have cb := get1_bd s (get1 s (some p)).2
    have hgc2 := fun e3 he3 => get_con s hs (get1 s (some p)).2 e3 he3 bo be ps S' (hps.le hle2)
    generalize get1 s (some p) = g1 at *
    obtain ⟨k, q2⟩ := g1
    simp only at *
    generalize get1 s q2 = g2 at *
    obtain ⟨c, q3⟩ := g2
    simp only at *
    unfold wOk at kb cb
    have hpg2 := hpg.le hle2
    (repeat (first | refine Jz ?_ | intro _))
    ((apply c_held ([(br, .cells (l.map (Value.int .i64)).toArray 3 (0, 0))]); (case hL => (exact sbT))); (apply h_first 0; (case hi => rfl); (case hr => kernel_rfl); (case hfr => kernel_rfl); (case hsel => kernel_rfl); (case hg => rfl); (case hd => rfl); (case he => (apply ev_load1; (case hx => rfl); (case h => exact hpg2)))); (apply h_first 2; (case hi => rfl); (case hr => kernel_rfl); (case hfr => kernel_rfl); (case hsel => kernel_rfl); (case hg => rfl); (case hd => rfl); (case he => (apply ev_load1; (case hx => rfl); (case h => exact hpg2)))); (apply h_one 1; (case hr => kernel_rfl)); (apply n_callv (caps := [.pointer (some ⟨bo, 0, none⟩), .pointer (some ps), .pointer (some ⟨be, 0, none⟩)]); (case hi => rfl); (case hg => rfl); (case hd => rfl); (case hx => rfl); (case i1 => infer_instance); (case ha => rfl); (case hc => exact hgc1); (case hL => (exact pmT)); (case hsub => (intros; (exact sbT))); rintro _ _ _ - ⟨rfl, rfl, e3, he3, rfl⟩); (apply h_one 3; (case hr => kernel_rfl)); (apply n_callv (caps := [.pointer (some ⟨bo, 0, none⟩), .pointer (some ps), .pointer (some ⟨be, 0, none⟩)]); (case hi => rfl); (case hg => rfl); (case hd => rfl); (case hx => rfl); (case i1 => infer_instance); (case ha => rfl); (case hc => exact hgc2 e3 he3); (case hL => (exact pmT)); (case hsub => (intros; (exact sbT))); rintro _ _ _ - ⟨rfl, rfl, e4, he4, rfl⟩); refine Jf 4 ?_; refine Jf 5 ?_; (apply h_end; (case hr => kernel_rfl)))
    refine W.perm (L' := [(bo, okO q3), (be, endO e4), (br, .cells (l.map (Value.int .i64)).toArray 3 (0, 0))]) ?_ (List.Perm.refl _)
    cases q3 with
    | none =>
      rw [if_neg (fun h => by cases h.1)] at hrf ⊢
      unfold okO
      (repeat (first | refine Jz ?_ | intro _))
      refine q_back (m' := (nv - 1).toNat) ⟨rfl, nv - 1, last, none, l, e4, rfl, by omega, by omega, hl, he4, hla, ?_, rfl, rfl⟩ (by omega) sbF (List.Sublist.refl _)
      exact rdRow_none _ _ _ _
    | some p3 =>
      unfold okO
      by_cases c1 : last < k
      rotate_left
      · rw [if_neg (fun h => c1 h.2.1)] at hrf ⊢
        (repeat (first | refine Jz ?_ | intro _))
        refine q_back (m' := (nv - 1).toNat) ⟨rfl, nv - 1, last, none, l, e4, rfl, by omega, by omega, hl, (fun p h => by cases h), hla, rdRow_none _ _ _ _, rfl, rfl⟩ (by omega) sbF (List.Sublist.refl _)
      by_cases c2 : k < 44
      rotate_left
      · rw [if_neg (fun h => c2 h.2.2.1)] at hrf ⊢
        (repeat (first | refine Jz ?_ | intro _))
        exact q_back (m' := (nv - 1).toNat) ⟨rfl, nv - 1, last, none, l, e4, rfl, by omega, by omega, hl, (fun p h => by cases h), hla, rdRow_none _ _ _ _, rfl, rfl⟩ (by omega) sbF (List.Sublist.refl _)
      by_cases c3 : c = 0
      · rw [if_neg (fun h => h.2.2.2 c3)] at hrf ⊢
        (repeat (first | refine Jz ?_ | intro _))
        exact q_back (m' := (nv - 1).toNat) ⟨rfl, nv - 1, last, none, l, e4, rfl, by omega, by omega, hl, (fun p h => by cases h), hla, rdRow_none _ _ _ _, rfl, rfl⟩ (by omega) sbF (List.Sublist.refl _)
      rw [if_pos ⟨rfl, c1, c2, c3⟩] at hrf ⊢
      obtain ⟨kn, rfl⟩ : ∃ kn : Nat, k = kn := ⟨k.toNat, by omega⟩
      have hcell : (l.map (Value.int .i64))[kn]? = some (.int .i64 (l[kn]'(by omega))) := by rw [List.getElem?_map, List.getElem?_eq_getElem]; rfl
      (repeat (first | refine Jc ?_ | (apply s_idxo1 (j := kn); (case hg => rfl); (case hd => rfl); (case hx => rfl); (case hi => rfl); (case hk => omega)) | (apply s_store; (case hg => rfl); (case hx => rfl); (case hy => rfl); (case h1 => rfl); (case hL => (repeat (first | exact Upd.head | apply Upd.tail | apply Upd.app))); (case hu => exact hcell)) | refine Jo ?_ | intro _))
      rw [show k1 = (nv - 1).toNat by omega] at hrf ⊢
      exact q_back (m' := (nv - 1).toNat) ⟨rfl, nv - 1, kn, some p3, l.set kn c, e4, rfl, by omega, by omega, by simpa using hl, he4, by omega, rfl, by rw [List.map_set]; rfl, rfl⟩ (by omega) sbF (List.Sublist.refl _)
end Go.Proofs.YtogfficbloejcaaDoor
namespace Go.Proofs.YtogfficbloejcaaDoor
open Go Go.X
set_option maxRecDepth 10000
set_option linter.unusedVariables false
attribute [local irreducible] Code.wpIn wpListIn Exit.then Exit.inBlock X.Out X.Back X.W X.Ev X.Con X.BinV X.Wh X.Wn X.Wq
/-- After so many reads. -/
def qn (s : Bs) : Nat → Option Nat → Option Nat
  | 0, q => q
  | k + 1, q => (get1 s (qn s k q)).2
def vn (s : Bs) (k : Nat) (q : Option Nat) : Int := (get1 s (qn s k q)).1
/-- A cell is read. -/
def cellD (s : Bs) (q : Option Nat) : PC × Option Nat :=
  (⟨vn s 0 q, vn s 1 q, vn s 2 q, vn s 3 q, ⟨vn s 4 q, vn s 5 q, vn s 6 q, vn s 7 q, (rowR s (qn s 8 q)).1, (rowR s (rowR s (qn s 8 q)).2).1⟩⟩, (rowR s (rowR s (qn s 8 q)).2).2)
def decC (s : Bs) : Nat → Option Nat → List PC → List PC × Option Nat
  | 0, q, l => (l, q)
  | _ + 1, none, l => (l, none)
  | n + 1, some p, l => decC s n (cellD s (some p)).2 (l ++ [(cellD s (some p)).1])
theorem decC_none (s : Bs) (n : Nat) (l : List PC) : decC s n none l = (l, none) := by cases n <;> rfl
/-- What Decode answers: the sketch, the end, the error. -/
noncomputable def decR (s : Bs) (p : Nat) : List PC × Int × Int :=
  if (get1 s (some p)).2.isSome = true ∧ 0 ≤ (get1 s (some p)).1 ∧ (get1 s (some p)).1 ≤ 400 then
    match decC s (get1 s (some p)).1.toNat (get1 s (some p)).2 [] with
    | (_, none) => ([], 0, 170)
    | (l, some e) => by classical exact if ValidP l ∧ txt (skI l) = (s.take e).drop p then (l, (e : Int), 0) else ([], 0, 170)
  else ([], 0, 170)
noncomputable def decA (s : Bs) (at_ : Int) : List PC × Int × Int := if at_ < 0 ∨ (s.length : Int) < at_ then ([], 0, 2) else decR s at_.toNat
theorem skv_empty (S : SH) : SkV S (.agg #[.slice none 0 0]) [] := ⟨none, 0, [], rfl, At.nil _ _, fun q hq => absurd hq List.not_mem_nil, by decide, rfl⟩
def Ge (q : Option Nat) (p : Nat) : Prop := ∀ e, q = some e → p ≤ e
theorem get1_ge {s : Bs} {q : Option Nat} {p : Nat} (h : Ge q p) : Ge (get1 s q).2 p := by
  cases q with
  | none => exact fun e he => by simp [get1] at he
  | some x =>
    have := h x rfl
    intro e he
    simp only [get1] at he
    cases hd : decI (s.drop x) with
    | none => rw [hd] at he; cases he
    | some y =>
      obtain ⟨n, k⟩ := y
      rw [hd] at he
      simp only [Option.some.injEq] at he
      omega
theorem rdRow_ge {s : Bs} : ∀ (n : Nat) (q : Option Nat) (last : Int) (l : List Int) (p : Nat), Ge q p → Ge (rdRow s n q last l).2 p
  | 0, q, _, _, p, h => h
  | n + 1, none, _, _, p, _ => fun e he => by cases he
  | n + 1, some x, last, l, p, h => by
    rw [rdRow]
    split
    · exact rdRow_ge n _ _ _ p (get1_ge (get1_ge h))
    · exact fun e he => by cases he
theorem rowR_ge {s : Bs} {q : Option Nat} {p : Nat} (h : Ge q p) : Ge (rowR s q).2 p := rdRow_ge _ _ _ _ p (get1_ge h)
theorem qn_ge {s : Bs} {q : Option Nat} {p : Nat} (h : Ge q p) : ∀ k, Ge (qn s k q) p
  | 0 => h
  | k + 1 => get1_ge (qn_ge h k)
theorem cellD_ge {s : Bs} {q : Option Nat} {p : Nat} (h : Ge q p) : Ge (cellD s q).2 p := rowR_ge (rowR_ge (qn_ge h 8))
theorem decC_ge {s : Bs} : ∀ (n : Nat) (q : Option Nat) (l : List PC) (p : Nat), Ge q p → Ge (decC s n q l).2 p
  | 0, _, _, _, h => h
  | n + 1, none, _, p, _ => fun e he => by cases he
  | n + 1, some x, l, p, h => by rw [decC]; exact decC_ge n _ _ p (cellD_ge h)
set_option maxHeartbeats 3200000 in
theorem Decode_con (s : Bs) (at_ : Int) (S : SH) (hG : Gl S) (hs : s.length ≤ 9223372036854775807) :
    Con Tryd.prog 36 #[strV s, .int .i64 at_] S [] (fun S' L' r => L' = [] ∧ ∃ v, r = .tuple #[v, .int .i64 (decA s at_).2.1, .int .i64 (decA s at_).2.2] ∧ SkV S' v (decA s at_).1) := by
  refine con_of (args := [strV s, .int .i64 at_]) Tryd.func36 rfl Tryd.ntmps36 rfl fun w => ?_
  by_cases h1 : at_ < 0
  · rw [decA, if_pos (.inl h1)]
    (repeat (first | refine Jc ?_ | (apply s_evb; (case hg => rfl); (case hd => rfl); (case hn => rfl); (case he => (apply ev_buildS; (case hp => rfl); (case hz => rfl); (case h1 => rfl); (case hr => rfl)))) | refine Jo ?_ | intro _))
    exact o_ret_c3 (L' := []) (sz := 1) (cs := [.slice none 0 0]) Tryd.results36 rfl rfl rfl (by repeat (first | exact List.Mem.head _ | refine List.Mem.tail _ ?_ | exact List.mem_append_right _ (List.Mem.head _))) rfl (List.nil_sublist _) ⟨rfl, _, rfl, skv_empty _⟩
  by_cases h2 : (s.length : Int) < at_
  · rw [decA, if_pos (.inr h2)]
    (repeat (first | refine Jc ?_ | (apply s_evb; (case hg => rfl); (case hd => rfl); (case hn => rfl); (case he => (apply ev_len_b; rfl))) | (apply s_evb; (case hg => rfl); (case hd => rfl); (case hn => rfl); (case he => (apply ev_buildS; (case hp => rfl); (case hz => rfl); (case h1 => rfl); (case hr => rfl)))) | refine Jo ?_ | intro _))
    exact o_ret_c3 (L' := []) (sz := 1) (cs := [.slice none 0 0]) Tryd.results36 rfl rfl rfl (by repeat (first | exact List.Mem.head _ | refine List.Mem.tail _ ?_ | exact List.mem_append_right _ (List.Mem.head _))) rfl (List.nil_sublist _) ⟨rfl, _, rfl, skv_empty _⟩
  obtain ⟨p, rfl⟩ : ∃ p : Nat, at_ = p := ⟨at_.toNat, by omega⟩
  rw [decA, if_neg (by omega), Int.toNat_natCast]
  (repeat (first | refine Jc ?_ | (apply s_evb; (case hg => rfl); (case hd => rfl); (case hn => rfl); (case he => (apply ev_len_b; rfl))) | refine Jo ?_ | intro _))
  rename_i bs b4 be bo bg b11
  refine W.perm ?_ ((List.Perm.swap _ _ _).trans ((List.perm_append_comm (l₁ := [_, _, _, _]) (l₂ := [_])).cons _))
  refine W.freeze fun S1 hle1 hb1 => ?_
  refine W.perm (L' := (bs, .cells [strV s].toArray 9 (0, 0)) :: [(b11, .cells [.slice none 0 0].toArray 24 (0, 0)), (bo, okO (some p)), (be, endO p), (b4, .cells [.slice none 0 0].toArray 24 (0, 0))]) ?_ (List.Perm.refl _)
  refine W.freeze fun S2 hle2 hb2 => ?_
  have hps : Pts S2 ⟨bs, 0, none⟩ [strV s] := pts_block hb2 rfl
  have hpg : Pts S2 ⟨bg, 0, none⟩ [(.func (.func 69) #[] #[.pointer (some ⟨bo, 0, none⟩), .pointer (some ⟨bs, 0, none⟩), .pointer (some ⟨be, 0, none⟩)])] := pts_block (hle2 _ _ hb1) rfl
  have he0 : EndIs s (some p) p := fun p' h => by injection h with h; subst h; exact ⟨rfl, by omega⟩
  have hg0 := get_con s hs (some p) p he0 bo be ⟨bs, 0, none⟩ S2 hps
  have hnb := get1_bd s (some p)
  have hge : Ge (get1 s (some p)).2 p := get1_ge (fun e he => by injection he with he; omega)
  unfold decR
  generalize get1 s (some p) = g0 at *
  obtain ⟨n0, q0⟩ := g0
  simp only at *
  unfold wOk at hnb
  (repeat (first | refine Jc ?_ | (apply s_load1; (case hg => rfl); (case hd => rfl); (case hx => rfl); (case hv => exact hpg)) | refine Jo ?_ | intro _))
  (apply s_callw (caps := [.pointer (some ⟨bo, 0, none⟩), .pointer (some ⟨bs, 0, none⟩), .pointer (some ⟨be, 0, none⟩)]); (case hg => rfl); (case hd => rfl); (case hx => rfl); (case i1 => infer_instance); (case ha => rfl); (case hc => exact hg0); (case hL => (exact pmT)); rintro S3 _ _ - ⟨rfl, rfl, e0, he0', rfl⟩)
  refine Jo ?_
  apply s_end
  apply q_then
  apply c_seq
  generalize hR : (if q0.isSome = true ∧ 0 ≤ n0 ∧ n0 ≤ 400 then _ else _) = R
  refine c_meet (fun S' L F => S' = S3 ∧ ∃ q e, EndIs s q e ∧ Ge q p ∧ (q ≠ none → 0 ≤ n0 ∧ n0 ≤ 400) ∧ (match decC s n0.toNat q [] with | (_, none) => ([], 0, 170) | (l, some e) => by classical exact if ValidP l ∧ txt (skI l) = (s.take e).drop p then (l, (e : Int), 0) else ([], 0, 170)) = R ∧
      L = [(bo, okO q), (be, endO e), (b11, .cells [.slice none 0 0].toArray 24 (0, 0)), (b4, .cells [.slice none 0 0].toArray 24 (0, 0))] ∧ F = [(12, .int .i64 n0), (11, .pointer (some ⟨b11, 0, none⟩)), (10, .func (.func 71) #[] #[.pointer (some ⟨bg, 0, none⟩), .pointer (some ⟨bo, 0, none⟩)]), (9, .pointer (some ⟨bg, 0, none⟩)), (8, .pointer (some ⟨bo, 0, none⟩)), (7, .pointer (some ⟨be, 0, none⟩)), (4, .pointer (some ⟨b4, 0, none⟩)), (2, .pointer (some ⟨bs, 0, none⟩)), (1, .int .i64 p)]) ?_ ?_
  · by_cases c1 : q0.isSome = true
    rotate_left
    · have hq : q0 = none := by cases q0 with | none => rfl | some x => exact absurd rfl c1
      subst hq
      rw [if_neg (fun h => by cases h.1)] at hR
      unfold okO
      (repeat (first | refine Jz ?_ | intro _))
      exact q_cut ⟨rfl, none, e0, he0', (fun p h => by cases h), (fun h => absurd rfl h), by rw [decC_none]; exact hR, rfl, rfl⟩ sbF (List.Sublist.refl _)
    by_cases c2 : 0 ≤ n0
    rotate_left
    · rw [if_neg (fun h => c2 h.2.1)] at hR
      unfold okO
      rw [c1]
      (repeat (first | refine Jz ?_ | intro _))
      exact q_cut ⟨rfl, none, e0, (fun p h => by cases h), (fun p h => by cases h), (fun h => absurd rfl h), by rw [decC_none]; exact hR, rfl, rfl⟩ sbF (List.Sublist.refl _)
    by_cases c3 : n0 ≤ 400
    rotate_left
    · rw [if_neg (fun h => c3 h.2.2)] at hR
      unfold okO
      rw [c1]
      (repeat (first | refine Jz ?_ | intro _))
      exact q_cut ⟨rfl, none, e0, (fun p h => by cases h), (fun p h => by cases h), (fun h => absurd rfl h), by rw [decC_none]; exact hR, rfl, rfl⟩ sbF (List.Sublist.refl _)
    rw [if_pos ⟨c1, c2, c3⟩] at hR
    obtain ⟨x0, rfl⟩ := Option.isSome_iff_exists.1 c1
    unfold okO
    (repeat (first | refine Jz ?_ | intro _))
    exact q_cut ⟨rfl, some x0, e0, he0', hge, (fun _ => ⟨c2, c3⟩), hR, rfl, rfl⟩ sbF (List.Sublist.refl _)
  rintro S' L F ⟨rfl, q, e, he, hge, hq, hR, rfl, rfl⟩
  (repeat (first | refine Jz ?_ | intro _))
  refine c_meetB (fun S5 L5 F5 => Le S' S5 ∧ ∃ (q5 : Option Nat) (e5 : Int) (l : List Ce) (pv : Value) (ob : Blocks), EndIs s q5 e5 ∧ Ows 45 pv l ob ∧ (∀ c ∈ l, c.ok S5) ∧ (q5 ≠ none → l.length ≤ 400) ∧ decC s n0.toNat q [] = (l.map (·.p), q5) ∧
      L5 = [(bo, okO q5), (be, endO e5), (b11, .cells [pv].toArray 24 (0, 0)), (b4, .cells [.slice none 0 0].toArray 24 (0, 0))] ++ ob ∧ F5 = [(11, .pointer (some ⟨b11, 0, none⟩)), (10, .func (.func 71) #[] #[.pointer (some ⟨bg, 0, none⟩), .pointer (some ⟨bo, 0, none⟩)]), (9, .pointer (some ⟨bg, 0, none⟩)), (8, .pointer (some ⟨bo, 0, none⟩)), (7, .pointer (some ⟨be, 0, none⟩)), (4, .pointer (some ⟨b4, 0, none⟩)), (2, .pointer (some ⟨bs, 0, none⟩)), (1, .int .i64 p)]) ?_ ?_
  · refine c_loop (fun m S5 L5 F5 => Le S' S5 ∧ ∃ (nv : Int) (q5 : Option Nat) (e5 : Int) (l : List Ce) (pv : Value) (ob : Blocks), m = nv.toNat ∧ nv ≤ n0 ∧ -4611686018427387903 ≤ nv ∧ EndIs s q5 e5 ∧ Ows 45 pv l ob ∧ (∀ c ∈ l, c.ok S5) ∧ (q ≠ none → l.length + nv = n0 ∧ 0 ≤ nv) ∧ (q = none → q5 = none) ∧ decC s n0.toNat q [] = decC s nv.toNat q5 (l.map (·.p)) ∧
      L5 = [(bo, okO q5), (be, endO e5), (b11, .cells [pv].toArray 24 (0, 0)), (b4, .cells [.slice none 0 0].toArray 24 (0, 0))] ++ ob ∧ F5 = [(12, .int .i64 nv), (11, .pointer (some ⟨b11, 0, none⟩)), (10, .func (.func 71) #[] #[.pointer (some ⟨bg, 0, none⟩), .pointer (some ⟨bo, 0, none⟩)]), (9, .pointer (some ⟨bg, 0, none⟩)), (8, .pointer (some ⟨bo, 0, none⟩)), (7, .pointer (some ⟨be, 0, none⟩)), (4, .pointer (some ⟨b4, 0, none⟩)), (2, .pointer (some ⟨bs, 0, none⟩)), (1, .int .i64 p)])
      ⟨Le.refl _, n0, q, e, [], _, [], rfl, Int.le_refl _, hnb.1, he, Ows.nil 45, (fun c hc => absurd hc List.not_mem_nil), (fun h => ⟨by simp, (hq h).1⟩), (fun h => h), rfl, rfl, rfl⟩ sbF (List.Sublist.refl _) ?_
    rintro m S5 L5 F5 ⟨hle5, nv, q5, e5, l, pv, ob, rfl, hnv, hnv2, he5, hob, hok, hnl, hqn, hdc, rfl, rfl⟩
    by_cases hn : 0 < nv
    rotate_left
    · rw [show nv.toNat = 0 by omega, decC] at hdc
      (repeat (first | refine Jz ?_ | intro _))
      exact q_cut ⟨hle5, q5, e5, l, pv, ob, he5, hob, hok, (fun h => by have h3 : q ≠ none := fun h2 => h (hqn h2); have := hnl h3; have := hq h3; omega), hdc, rfl, rfl⟩ sbF (List.Sublist.refl _)
    obtain ⟨k1, hk1⟩ : ∃ k1, nv.toNat = k1 + 1 := ⟨nv.toNat - 1, by omega⟩
    cases q5 with
    | none =>
      rw [decC_none] at hdc
      unfold okO
      (repeat (first | refine Jz ?_ | intro _))
      exact q_cut ⟨hle5, none, e5, l, pv, ob, he5, hob, hok, (fun h => absurd rfl h), hdc, rfl, rfl⟩ sbF (List.Sublist.refl _)
    | some pp =>
      rw [hk1, decC] at hdc
      have hps5 := hps.le hle5
      have hpg5 := hpg.le hle5
      (repeat (first | refine Jz ?_ | intro _))
      refine c_meet (fun S6 L6 F6 => S6 = S5 ∧ ∃ (e6 : Int) (bc : Nat), EndIs s (qn s 8 (some pp)) e6 ∧ L6.Perm ([(bo, okO (qn s 8 (some pp))), (be, endO e6), (bc, .cells [.int .i64 (vn s 0 (some pp)), .int .i64 (vn s 1 (some pp)), .int .i64 (vn s 2 (some pp)), .int .i64 (vn s 3 (some pp)), .int .i64 (vn s 4 (some pp)), .int .i64 (vn s 5 (some pp)), .int .i64 (vn s 6 (some pp)), .int .i64 (vn s 7 (some pp)), .slice none 0 0, .slice none 0 0].toArray 45 (0, 0)), (b11, .cells [pv].toArray 24 (0, 0)), (b4, .cells [.slice none 0 0].toArray 24 (0, 0))] ++ ob) ∧ F6 = [(13, .pointer (some ⟨bc, 0, none⟩)), (12, .int .i64 nv), (11, .pointer (some ⟨b11, 0, none⟩)), (10, .func (.func 71) #[] #[.pointer (some ⟨bg, 0, none⟩), .pointer (some ⟨bo, 0, none⟩)]), (9, .pointer (some ⟨bg, 0, none⟩)), (8, .pointer (some ⟨bo, 0, none⟩)), (7, .pointer (some ⟨be, 0, none⟩)), (4, .pointer (some ⟨b4, 0, none⟩)), (2, .pointer (some ⟨bs, 0, none⟩)), (1, .int .i64 p)]) ?_ ?_
      · ((apply c_held ((b11, .cells [pv].toArray 24 (0, 0)) :: (b4, .cells [.slice none 0 0].toArray 24 (0, 0)) :: ob); (case hL => (exact sbT))); (apply h_first 0; (case hi => rfl); (case hr => kernel_rfl); (case hfr => kernel_rfl); (case hsel => kernel_rfl); (case hg => rfl); (case hd => rfl); (case he => (apply ev_load1; (case hx => rfl); (case h => exact hpg5)))); (apply h_first 2; (case hi => rfl); (case hr => kernel_rfl); (case hfr => kernel_rfl); (case hsel => kernel_rfl); (case hg => rfl); (case hd => rfl); (case he => (apply ev_load1; (case hx => rfl); (case h => exact hpg5)))); (apply h_first 4; (case hi => rfl); (case hr => kernel_rfl); (case hfr => kernel_rfl); (case hsel => kernel_rfl); (case hg => rfl); (case hd => rfl); (case he => (apply ev_load1; (case hx => rfl); (case h => exact hpg5)))); (apply h_first 6; (case hi => rfl); (case hr => kernel_rfl); (case hfr => kernel_rfl); (case hsel => kernel_rfl); (case hg => rfl); (case hd => rfl); (case he => (apply ev_load1; (case hx => rfl); (case h => exact hpg5)))); (apply h_first 8; (case hi => rfl); (case hr => kernel_rfl); (case hfr => kernel_rfl); (case hsel => kernel_rfl); (case hg => rfl); (case hd => rfl); (case he => (apply ev_load1; (case hx => rfl); (case h => exact hpg5)))); (apply h_first 10; (case hi => rfl); (case hr => kernel_rfl); (case hfr => kernel_rfl); (case hsel => kernel_rfl); (case hg => rfl); (case hd => rfl); (case he => (apply ev_load1; (case hx => rfl); (case h => exact hpg5)))); (apply h_first 12; (case hi => rfl); (case hr => kernel_rfl); (case hfr => kernel_rfl); (case hsel => kernel_rfl); (case hg => rfl); (case hd => rfl); (case he => (apply ev_load1; (case hx => rfl); (case h => exact hpg5)))); (apply h_first 14; (case hi => rfl); (case hr => kernel_rfl); (case hfr => kernel_rfl); (case hsel => kernel_rfl); (case hg => rfl); (case hd => rfl); (case he => (apply ev_load1; (case hx => rfl); (case h => exact hpg5)))); (apply h_two 1 17; (case hr => kernel_rfl)); (case k1 => ((apply n_callv (caps := [.pointer (some ⟨bo, 0, none⟩), .pointer (some ⟨bs, 0, none⟩), .pointer (some ⟨be, 0, none⟩)]); (case hi => rfl); (case hg => rfl); (case hd => rfl); (case hx => rfl); (case i1 => infer_instance); (case ha => rfl); (case hc => exact get_con s hs _ _ (by assumption) bo be ⟨bs, 0, none⟩ _ hps5); (case hL => (exact pmT)); (case hsub => (intros; (exact sbT))); rintro _ _ _ - ⟨rfl, rfl, _, _, rfl⟩); (apply h_two 3 17; (case hr => kernel_rfl)); (case k1 => ((apply n_callv (caps := [.pointer (some ⟨bo, 0, none⟩), .pointer (some ⟨bs, 0, none⟩), .pointer (some ⟨be, 0, none⟩)]); (case hi => rfl); (case hg => rfl); (case hd => rfl); (case hx => rfl); (case i1 => infer_instance); (case ha => rfl); (case hc => exact get_con s hs _ _ (by assumption) bo be ⟨bs, 0, none⟩ _ hps5); (case hL => (exact pmT)); (case hsub => (intros; (exact sbT))); rintro _ _ _ - ⟨rfl, rfl, _, _, rfl⟩); (apply h_two 5 17; (case hr => kernel_rfl)); (case k1 => ((apply n_callv (caps := [.pointer (some ⟨bo, 0, none⟩), .pointer (some ⟨bs, 0, none⟩), .pointer (some ⟨be, 0, none⟩)]); (case hi => rfl); (case hg => rfl); (case hd => rfl); (case hx => rfl); (case i1 => infer_instance); (case ha => rfl); (case hc => exact get_con s hs _ _ (by assumption) bo be ⟨bs, 0, none⟩ _ hps5); (case hL => (exact pmT)); (case hsub => (intros; (exact sbT))); rintro _ _ _ - ⟨rfl, rfl, _, _, rfl⟩); (apply h_two 7 17; (case hr => kernel_rfl)); (case k1 => ((apply n_callv (caps := [.pointer (some ⟨bo, 0, none⟩), .pointer (some ⟨bs, 0, none⟩), .pointer (some ⟨be, 0, none⟩)]); (case hi => rfl); (case hg => rfl); (case hd => rfl); (case hx => rfl); (case i1 => infer_instance); (case ha => rfl); (case hc => exact get_con s hs _ _ (by assumption) bo be ⟨bs, 0, none⟩ _ hps5); (case hL => (exact pmT)); (case hsub => (intros; (exact sbT))); rintro _ _ _ - ⟨rfl, rfl, _, _, rfl⟩); (apply h_two 9 17; (case hr => kernel_rfl)); (case k1 => ((apply n_callv (caps := [.pointer (some ⟨bo, 0, none⟩), .pointer (some ⟨bs, 0, none⟩), .pointer (some ⟨be, 0, none⟩)]); (case hi => rfl); (case hg => rfl); (case hd => rfl); (case hx => rfl); (case i1 => infer_instance); (case ha => rfl); (case hc => exact get_con s hs _ _ (by assumption) bo be ⟨bs, 0, none⟩ _ hps5); (case hL => (exact pmT)); (case hsub => (intros; (exact sbT))); rintro _ _ _ - ⟨rfl, rfl, _, _, rfl⟩); (apply h_two 11 17; (case hr => kernel_rfl)); (case k1 => ((apply n_callv (caps := [.pointer (some ⟨bo, 0, none⟩), .pointer (some ⟨bs, 0, none⟩), .pointer (some ⟨be, 0, none⟩)]); (case hi => rfl); (case hg => rfl); (case hd => rfl); (case hx => rfl); (case i1 => infer_instance); (case ha => rfl); (case hc => exact get_con s hs _ _ (by assumption) bo be ⟨bs, 0, none⟩ _ hps5); (case hL => (exact pmT)); (case hsub => (intros; (exact sbT))); rintro _ _ _ - ⟨rfl, rfl, _, _, rfl⟩); (apply h_two 13 17; (case hr => kernel_rfl)); (case k1 => ((apply n_callv (caps := [.pointer (some ⟨bo, 0, none⟩), .pointer (some ⟨bs, 0, none⟩), .pointer (some ⟨be, 0, none⟩)]); (case hi => rfl); (case hg => rfl); (case hd => rfl); (case hx => rfl); (case i1 => infer_instance); (case ha => rfl); (case hc => exact get_con s hs _ _ (by assumption) bo be ⟨bs, 0, none⟩ _ hps5); (case hL => (exact pmT)); (case hsub => (intros; (exact sbT))); rintro _ _ _ - ⟨rfl, rfl, _, _, rfl⟩); (apply h_two 15 17; (case hr => kernel_rfl)); (case k1 => ((apply n_callv (caps := [.pointer (some ⟨bo, 0, none⟩), .pointer (some ⟨bs, 0, none⟩), .pointer (some ⟨be, 0, none⟩)]); (case hi => rfl); (case hg => rfl); (case hd => rfl); (case hx => rfl); (case i1 => infer_instance); (case ha => rfl); (case hc => exact get_con s hs _ _ (by assumption) bo be ⟨bs, 0, none⟩ _ hps5); (case hL => (exact pmT)); (case hsub => (intros; (exact sbT))); rintro _ _ _ - ⟨rfl, rfl, _, _, rfl⟩); (first | (apply h_first 16; (case hi => rfl); (case hr => kernel_rfl); (case hfr => kernel_rfl); (case hsel => kernel_rfl); (case hg => rfl); (case hd => rfl); (case he => (apply ev_buildS; (case hp => rfl); (case hz => rfl); (case h1 => rfl); (case hr => rfl)))) | refine Jf 16 ?_); (apply h_one 17; (case hr => kernel_rfl)); (refine Jn ?_; try intro _); (apply h_one 18; (case hr => kernel_rfl)); (refine Jn ?_; try intro _); (apply h_end; (case hr => kernel_rfl)); (apply q_then; exact q_cut ⟨rfl, _, _, (by assumption), (by first | exact List.Perm.refl _ | exact (List.Perm.swap _ _ _).trans ((List.Perm.swap _ _ _).cons _) | exact ((List.Perm.swap _ _ _).trans ((List.Perm.swap _ _ _).cons _))), rfl⟩ sbF (List.Sublist.refl _)))); (case k2 => ((refine Jn ?_; try intro _); (apply h_one 15; (case hr => kernel_rfl)); (apply n_callv (caps := [.pointer (some ⟨bo, 0, none⟩), .pointer (some ⟨bs, 0, none⟩), .pointer (some ⟨be, 0, none⟩)]); (case hi => rfl); (case hg => rfl); (case hd => rfl); (case hx => rfl); (case i1 => infer_instance); (case ha => rfl); (case hc => exact get_con s hs _ _ (by assumption) bo be ⟨bs, 0, none⟩ _ hps5); (case hL => (exact pmT)); (case hsub => (intros; (exact sbT))); rintro _ _ _ - ⟨rfl, rfl, _, _, rfl⟩); (first | (apply h_first 16; (case hi => rfl); (case hr => kernel_rfl); (case hfr => kernel_rfl); (case hsel => kernel_rfl); (case hg => rfl); (case hd => rfl); (case he => (apply ev_buildS; (case hp => rfl); (case hz => rfl); (case h1 => rfl); (case hr => rfl)))) | refine Jf 16 ?_); (apply h_one 18; (case hr => kernel_rfl)); (refine Jn ?_; try intro _); (apply h_end; (case hr => kernel_rfl)); (apply q_then; exact q_cut ⟨rfl, _, _, (by assumption), (by first | exact List.Perm.refl _ | exact (List.Perm.swap _ _ _).trans ((List.Perm.swap _ _ _).cons _) | exact ((List.Perm.swap _ _ _).trans ((List.Perm.swap _ _ _).cons _))), rfl⟩ sbF (List.Sublist.refl _)))))); (case k2 => ((refine Jn ?_; try intro _); (apply h_one 13; (case hr => kernel_rfl)); (apply n_callv (caps := [.pointer (some ⟨bo, 0, none⟩), .pointer (some ⟨bs, 0, none⟩), .pointer (some ⟨be, 0, none⟩)]); (case hi => rfl); (case hg => rfl); (case hd => rfl); (case hx => rfl); (case i1 => infer_instance); (case ha => rfl); (case hc => exact get_con s hs _ _ (by assumption) bo be ⟨bs, 0, none⟩ _ hps5); (case hL => (exact pmT)); (case hsub => (intros; (exact sbT))); rintro _ _ _ - ⟨rfl, rfl, _, _, rfl⟩); (apply h_one 15; (case hr => kernel_rfl)); (apply n_callv (caps := [.pointer (some ⟨bo, 0, none⟩), .pointer (some ⟨bs, 0, none⟩), .pointer (some ⟨be, 0, none⟩)]); (case hi => rfl); (case hg => rfl); (case hd => rfl); (case hx => rfl); (case i1 => infer_instance); (case ha => rfl); (case hc => exact get_con s hs _ _ (by assumption) bo be ⟨bs, 0, none⟩ _ hps5); (case hL => (exact pmT)); (case hsub => (intros; (exact sbT))); rintro _ _ _ - ⟨rfl, rfl, _, _, rfl⟩); (first | (apply h_first 16; (case hi => rfl); (case hr => kernel_rfl); (case hfr => kernel_rfl); (case hsel => kernel_rfl); (case hg => rfl); (case hd => rfl); (case he => (apply ev_buildS; (case hp => rfl); (case hz => rfl); (case h1 => rfl); (case hr => rfl)))) | refine Jf 16 ?_); (apply h_one 18; (case hr => kernel_rfl)); (refine Jn ?_; try intro _); (apply h_end; (case hr => kernel_rfl)); (apply q_then; exact q_cut ⟨rfl, _, _, (by assumption), (by first | exact List.Perm.refl _ | exact (List.Perm.swap _ _ _).trans ((List.Perm.swap _ _ _).cons _) | exact ((List.Perm.swap _ _ _).trans ((List.Perm.swap _ _ _).cons _))), rfl⟩ sbF (List.Sublist.refl _)))))); (case k2 => ((refine Jn ?_; try intro _); (apply h_one 11; (case hr => kernel_rfl)); (apply n_callv (caps := [.pointer (some ⟨bo, 0, none⟩), .pointer (some ⟨bs, 0, none⟩), .pointer (some ⟨be, 0, none⟩)]); (case hi => rfl); (case hg => rfl); (case hd => rfl); (case hx => rfl); (case i1 => infer_instance); (case ha => rfl); (case hc => exact get_con s hs _ _ (by assumption) bo be ⟨bs, 0, none⟩ _ hps5); (case hL => (exact pmT)); (case hsub => (intros; (exact sbT))); rintro _ _ _ - ⟨rfl, rfl, _, _, rfl⟩); (apply h_one 13; (case hr => kernel_rfl)); (apply n_callv (caps := [.pointer (some ⟨bo, 0, none⟩), .pointer (some ⟨bs, 0, none⟩), .pointer (some ⟨be, 0, none⟩)]); (case hi => rfl); (case hg => rfl); (case hd => rfl); (case hx => rfl); (case i1 => infer_instance); (case ha => rfl); (case hc => exact get_con s hs _ _ (by assumption) bo be ⟨bs, 0, none⟩ _ hps5); (case hL => (exact pmT)); (case hsub => (intros; (exact sbT))); rintro _ _ _ - ⟨rfl, rfl, _, _, rfl⟩); (apply h_one 15; (case hr => kernel_rfl)); (apply n_callv (caps := [.pointer (some ⟨bo, 0, none⟩), .pointer (some ⟨bs, 0, none⟩), .pointer (some ⟨be, 0, none⟩)]); (case hi => rfl); (case hg => rfl); (case hd => rfl); (case hx => rfl); (case i1 => infer_instance); (case ha => rfl); (case hc => exact get_con s hs _ _ (by assumption) bo be ⟨bs, 0, none⟩ _ hps5); (case hL => (exact pmT)); (case hsub => (intros; (exact sbT))); rintro _ _ _ - ⟨rfl, rfl, _, _, rfl⟩); (first | (apply h_first 16; (case hi => rfl); (case hr => kernel_rfl); (case hfr => kernel_rfl); (case hsel => kernel_rfl); (case hg => rfl); (case hd => rfl); (case he => (apply ev_buildS; (case hp => rfl); (case hz => rfl); (case h1 => rfl); (case hr => rfl)))) | refine Jf 16 ?_); (apply h_one 18; (case hr => kernel_rfl)); (refine Jn ?_; try intro _); (apply h_end; (case hr => kernel_rfl)); (apply q_then; exact q_cut ⟨rfl, _, _, (by assumption), (by first | exact List.Perm.refl _ | exact (List.Perm.swap _ _ _).trans ((List.Perm.swap _ _ _).cons _) | exact ((List.Perm.swap _ _ _).trans ((List.Perm.swap _ _ _).cons _))), rfl⟩ sbF (List.Sublist.refl _)))))); (case k2 => ((refine Jn ?_; try intro _); (apply h_one 9; (case hr => kernel_rfl)); (apply n_callv (caps := [.pointer (some ⟨bo, 0, none⟩), .pointer (some ⟨bs, 0, none⟩), .pointer (some ⟨be, 0, none⟩)]); (case hi => rfl); (case hg => rfl); (case hd => rfl); (case hx => rfl); (case i1 => infer_instance); (case ha => rfl); (case hc => exact get_con s hs _ _ (by assumption) bo be ⟨bs, 0, none⟩ _ hps5); (case hL => (exact pmT)); (case hsub => (intros; (exact sbT))); rintro _ _ _ - ⟨rfl, rfl, _, _, rfl⟩); (apply h_one 11; (case hr => kernel_rfl)); (apply n_callv (caps := [.pointer (some ⟨bo, 0, none⟩), .pointer (some ⟨bs, 0, none⟩), .pointer (some ⟨be, 0, none⟩)]); (case hi => rfl); (case hg => rfl); (case hd => rfl); (case hx => rfl); (case i1 => infer_instance); (case ha => rfl); (case hc => exact get_con s hs _ _ (by assumption) bo be ⟨bs, 0, none⟩ _ hps5); (case hL => (exact pmT)); (case hsub => (intros; (exact sbT))); rintro _ _ _ - ⟨rfl, rfl, _, _, rfl⟩); (apply h_one 13; (case hr => kernel_rfl)); (apply n_callv (caps := [.pointer (some ⟨bo, 0, none⟩), .pointer (some ⟨bs, 0, none⟩), .pointer (some ⟨be, 0, none⟩)]); (case hi => rfl); (case hg => rfl); (case hd => rfl); (case hx => rfl); (case i1 => infer_instance); (case ha => rfl); (case hc => exact get_con s hs _ _ (by assumption) bo be ⟨bs, 0, none⟩ _ hps5); (case hL => (exact pmT)); (case hsub => (intros; (exact sbT))); rintro _ _ _ - ⟨rfl, rfl, _, _, rfl⟩); (apply h_one 15; (case hr => kernel_rfl)); (apply n_callv (caps := [.pointer (some ⟨bo, 0, none⟩), .pointer (some ⟨bs, 0, none⟩), .pointer (some ⟨be, 0, none⟩)]); (case hi => rfl); (case hg => rfl); (case hd => rfl); (case hx => rfl); (case i1 => infer_instance); (case ha => rfl); (case hc => exact get_con s hs _ _ (by assumption) bo be ⟨bs, 0, none⟩ _ hps5); (case hL => (exact pmT)); (case hsub => (intros; (exact sbT))); rintro _ _ _ - ⟨rfl, rfl, _, _, rfl⟩); (first | (apply h_first 16; (case hi => rfl); (case hr => kernel_rfl); (case hfr => kernel_rfl); (case hsel => kernel_rfl); (case hg => rfl); (case hd => rfl); (case he => (apply ev_buildS; (case hp => rfl); (case hz => rfl); (case h1 => rfl); (case hr => rfl)))) | refine Jf 16 ?_); (apply h_one 18; (case hr => kernel_rfl)); (refine Jn ?_; try intro _); (apply h_end; (case hr => kernel_rfl)); (apply q_then; exact q_cut ⟨rfl, _, _, (by assumption), (by first | exact List.Perm.refl _ | exact (List.Perm.swap _ _ _).trans ((List.Perm.swap _ _ _).cons _) | exact ((List.Perm.swap _ _ _).trans ((List.Perm.swap _ _ _).cons _))), rfl⟩ sbF (List.Sublist.refl _)))))); (case k2 => ((refine Jn ?_; try intro _); (apply h_one 7; (case hr => kernel_rfl)); (apply n_callv (caps := [.pointer (some ⟨bo, 0, none⟩), .pointer (some ⟨bs, 0, none⟩), .pointer (some ⟨be, 0, none⟩)]); (case hi => rfl); (case hg => rfl); (case hd => rfl); (case hx => rfl); (case i1 => infer_instance); (case ha => rfl); (case hc => exact get_con s hs _ _ (by assumption) bo be ⟨bs, 0, none⟩ _ hps5); (case hL => (exact pmT)); (case hsub => (intros; (exact sbT))); rintro _ _ _ - ⟨rfl, rfl, _, _, rfl⟩); (apply h_one 9; (case hr => kernel_rfl)); (apply n_callv (caps := [.pointer (some ⟨bo, 0, none⟩), .pointer (some ⟨bs, 0, none⟩), .pointer (some ⟨be, 0, none⟩)]); (case hi => rfl); (case hg => rfl); (case hd => rfl); (case hx => rfl); (case i1 => infer_instance); (case ha => rfl); (case hc => exact get_con s hs _ _ (by assumption) bo be ⟨bs, 0, none⟩ _ hps5); (case hL => (exact pmT)); (case hsub => (intros; (exact sbT))); rintro _ _ _ - ⟨rfl, rfl, _, _, rfl⟩); (apply h_one 11; (case hr => kernel_rfl)); (apply n_callv (caps := [.pointer (some ⟨bo, 0, none⟩), .pointer (some ⟨bs, 0, none⟩), .pointer (some ⟨be, 0, none⟩)]); (case hi => rfl); (case hg => rfl); (case hd => rfl); (case hx => rfl); (case i1 => infer_instance); (case ha => rfl); (case hc => exact get_con s hs _ _ (by assumption) bo be ⟨bs, 0, none⟩ _ hps5); (case hL => (exact pmT)); (case hsub => (intros; (exact sbT))); rintro _ _ _ - ⟨rfl, rfl, _, _, rfl⟩); (apply h_one 13; (case hr => kernel_rfl)); (apply n_callv (caps := [.pointer (some ⟨bo, 0, none⟩), .pointer (some ⟨bs, 0, none⟩), .pointer (some ⟨be, 0, none⟩)]); (case hi => rfl); (case hg => rfl); (case hd => rfl); (case hx => rfl); (case i1 => infer_instance); (case ha => rfl); (case hc => exact get_con s hs _ _ (by assumption) bo be ⟨bs, 0, none⟩ _ hps5); (case hL => (exact pmT)); (case hsub => (intros; (exact sbT))); rintro _ _ _ - ⟨rfl, rfl, _, _, rfl⟩); (apply h_one 15; (case hr => kernel_rfl)); (apply n_callv (caps := [.pointer (some ⟨bo, 0, none⟩), .pointer (some ⟨bs, 0, none⟩), .pointer (some ⟨be, 0, none⟩)]); (case hi => rfl); (case hg => rfl); (case hd => rfl); (case hx => rfl); (case i1 => infer_instance); (case ha => rfl); (case hc => exact get_con s hs _ _ (by assumption) bo be ⟨bs, 0, none⟩ _ hps5); (case hL => (exact pmT)); (case hsub => (intros; (exact sbT))); rintro _ _ _ - ⟨rfl, rfl, _, _, rfl⟩); (first | (apply h_first 16; (case hi => rfl); (case hr => kernel_rfl); (case hfr => kernel_rfl); (case hsel => kernel_rfl); (case hg => rfl); (case hd => rfl); (case he => (apply ev_buildS; (case hp => rfl); (case hz => rfl); (case h1 => rfl); (case hr => rfl)))) | refine Jf 16 ?_); (apply h_one 18; (case hr => kernel_rfl)); (refine Jn ?_; try intro _); (apply h_end; (case hr => kernel_rfl)); (apply q_then; exact q_cut ⟨rfl, _, _, (by assumption), (by first | exact List.Perm.refl _ | exact (List.Perm.swap _ _ _).trans ((List.Perm.swap _ _ _).cons _) | exact ((List.Perm.swap _ _ _).trans ((List.Perm.swap _ _ _).cons _))), rfl⟩ sbF (List.Sublist.refl _)))))); (case k2 => ((refine Jn ?_; try intro _); (apply h_one 5; (case hr => kernel_rfl)); (apply n_callv (caps := [.pointer (some ⟨bo, 0, none⟩), .pointer (some ⟨bs, 0, none⟩), .pointer (some ⟨be, 0, none⟩)]); (case hi => rfl); (case hg => rfl); (case hd => rfl); (case hx => rfl); (case i1 => infer_instance); (case ha => rfl); (case hc => exact get_con s hs _ _ (by assumption) bo be ⟨bs, 0, none⟩ _ hps5); (case hL => (exact pmT)); (case hsub => (intros; (exact sbT))); rintro _ _ _ - ⟨rfl, rfl, _, _, rfl⟩); (apply h_one 7; (case hr => kernel_rfl)); (apply n_callv (caps := [.pointer (some ⟨bo, 0, none⟩), .pointer (some ⟨bs, 0, none⟩), .pointer (some ⟨be, 0, none⟩)]); (case hi => rfl); (case hg => rfl); (case hd => rfl); (case hx => rfl); (case i1 => infer_instance); (case ha => rfl); (case hc => exact get_con s hs _ _ (by assumption) bo be ⟨bs, 0, none⟩ _ hps5); (case hL => (exact pmT)); (case hsub => (intros; (exact sbT))); rintro _ _ _ - ⟨rfl, rfl, _, _, rfl⟩); (apply h_one 9; (case hr => kernel_rfl)); (apply n_callv (caps := [.pointer (some ⟨bo, 0, none⟩), .pointer (some ⟨bs, 0, none⟩), .pointer (some ⟨be, 0, none⟩)]); (case hi => rfl); (case hg => rfl); (case hd => rfl); (case hx => rfl); (case i1 => infer_instance); (case ha => rfl); (case hc => exact get_con s hs _ _ (by assumption) bo be ⟨bs, 0, none⟩ _ hps5); (case hL => (exact pmT)); (case hsub => (intros; (exact sbT))); rintro _ _ _ - ⟨rfl, rfl, _, _, rfl⟩); (apply h_one 11; (case hr => kernel_rfl)); (apply n_callv (caps := [.pointer (some ⟨bo, 0, none⟩), .pointer (some ⟨bs, 0, none⟩), .pointer (some ⟨be, 0, none⟩)]); (case hi => rfl); (case hg => rfl); (case hd => rfl); (case hx => rfl); (case i1 => infer_instance); (case ha => rfl); (case hc => exact get_con s hs _ _ (by assumption) bo be ⟨bs, 0, none⟩ _ hps5); (case hL => (exact pmT)); (case hsub => (intros; (exact sbT))); rintro _ _ _ - ⟨rfl, rfl, _, _, rfl⟩); (apply h_one 13; (case hr => kernel_rfl)); (apply n_callv (caps := [.pointer (some ⟨bo, 0, none⟩), .pointer (some ⟨bs, 0, none⟩), .pointer (some ⟨be, 0, none⟩)]); (case hi => rfl); (case hg => rfl); (case hd => rfl); (case hx => rfl); (case i1 => infer_instance); (case ha => rfl); (case hc => exact get_con s hs _ _ (by assumption) bo be ⟨bs, 0, none⟩ _ hps5); (case hL => (exact pmT)); (case hsub => (intros; (exact sbT))); rintro _ _ _ - ⟨rfl, rfl, _, _, rfl⟩); (apply h_one 15; (case hr => kernel_rfl)); (apply n_callv (caps := [.pointer (some ⟨bo, 0, none⟩), .pointer (some ⟨bs, 0, none⟩), .pointer (some ⟨be, 0, none⟩)]); (case hi => rfl); (case hg => rfl); (case hd => rfl); (case hx => rfl); (case i1 => infer_instance); (case ha => rfl); (case hc => exact get_con s hs _ _ (by assumption) bo be ⟨bs, 0, none⟩ _ hps5); (case hL => (exact pmT)); (case hsub => (intros; (exact sbT))); rintro _ _ _ - ⟨rfl, rfl, _, _, rfl⟩); (first | (apply h_first 16; (case hi => rfl); (case hr => kernel_rfl); (case hfr => kernel_rfl); (case hsel => kernel_rfl); (case hg => rfl); (case hd => rfl); (case he => (apply ev_buildS; (case hp => rfl); (case hz => rfl); (case h1 => rfl); (case hr => rfl)))) | refine Jf 16 ?_); (apply h_one 18; (case hr => kernel_rfl)); (refine Jn ?_; try intro _); (apply h_end; (case hr => kernel_rfl)); (apply q_then; exact q_cut ⟨rfl, _, _, (by assumption), (by first | exact List.Perm.refl _ | exact (List.Perm.swap _ _ _).trans ((List.Perm.swap _ _ _).cons _) | exact ((List.Perm.swap _ _ _).trans ((List.Perm.swap _ _ _).cons _))), rfl⟩ sbF (List.Sublist.refl _)))))); (case k2 => ((refine Jn ?_; try intro _); (apply h_one 3; (case hr => kernel_rfl)); (apply n_callv (caps := [.pointer (some ⟨bo, 0, none⟩), .pointer (some ⟨bs, 0, none⟩), .pointer (some ⟨be, 0, none⟩)]); (case hi => rfl); (case hg => rfl); (case hd => rfl); (case hx => rfl); (case i1 => infer_instance); (case ha => rfl); (case hc => exact get_con s hs _ _ (by assumption) bo be ⟨bs, 0, none⟩ _ hps5); (case hL => (exact pmT)); (case hsub => (intros; (exact sbT))); rintro _ _ _ - ⟨rfl, rfl, _, _, rfl⟩); (apply h_one 5; (case hr => kernel_rfl)); (apply n_callv (caps := [.pointer (some ⟨bo, 0, none⟩), .pointer (some ⟨bs, 0, none⟩), .pointer (some ⟨be, 0, none⟩)]); (case hi => rfl); (case hg => rfl); (case hd => rfl); (case hx => rfl); (case i1 => infer_instance); (case ha => rfl); (case hc => exact get_con s hs _ _ (by assumption) bo be ⟨bs, 0, none⟩ _ hps5); (case hL => (exact pmT)); (case hsub => (intros; (exact sbT))); rintro _ _ _ - ⟨rfl, rfl, _, _, rfl⟩); (apply h_one 7; (case hr => kernel_rfl)); (apply n_callv (caps := [.pointer (some ⟨bo, 0, none⟩), .pointer (some ⟨bs, 0, none⟩), .pointer (some ⟨be, 0, none⟩)]); (case hi => rfl); (case hg => rfl); (case hd => rfl); (case hx => rfl); (case i1 => infer_instance); (case ha => rfl); (case hc => exact get_con s hs _ _ (by assumption) bo be ⟨bs, 0, none⟩ _ hps5); (case hL => (exact pmT)); (case hsub => (intros; (exact sbT))); rintro _ _ _ - ⟨rfl, rfl, _, _, rfl⟩); (apply h_one 9; (case hr => kernel_rfl)); (apply n_callv (caps := [.pointer (some ⟨bo, 0, none⟩), .pointer (some ⟨bs, 0, none⟩), .pointer (some ⟨be, 0, none⟩)]); (case hi => rfl); (case hg => rfl); (case hd => rfl); (case hx => rfl); (case i1 => infer_instance); (case ha => rfl); (case hc => exact get_con s hs _ _ (by assumption) bo be ⟨bs, 0, none⟩ _ hps5); (case hL => (exact pmT)); (case hsub => (intros; (exact sbT))); rintro _ _ _ - ⟨rfl, rfl, _, _, rfl⟩); (apply h_one 11; (case hr => kernel_rfl)); (apply n_callv (caps := [.pointer (some ⟨bo, 0, none⟩), .pointer (some ⟨bs, 0, none⟩), .pointer (some ⟨be, 0, none⟩)]); (case hi => rfl); (case hg => rfl); (case hd => rfl); (case hx => rfl); (case i1 => infer_instance); (case ha => rfl); (case hc => exact get_con s hs _ _ (by assumption) bo be ⟨bs, 0, none⟩ _ hps5); (case hL => (exact pmT)); (case hsub => (intros; (exact sbT))); rintro _ _ _ - ⟨rfl, rfl, _, _, rfl⟩); (apply h_one 13; (case hr => kernel_rfl)); (apply n_callv (caps := [.pointer (some ⟨bo, 0, none⟩), .pointer (some ⟨bs, 0, none⟩), .pointer (some ⟨be, 0, none⟩)]); (case hi => rfl); (case hg => rfl); (case hd => rfl); (case hx => rfl); (case i1 => infer_instance); (case ha => rfl); (case hc => exact get_con s hs _ _ (by assumption) bo be ⟨bs, 0, none⟩ _ hps5); (case hL => (exact pmT)); (case hsub => (intros; (exact sbT))); rintro _ _ _ - ⟨rfl, rfl, _, _, rfl⟩); (apply h_one 15; (case hr => kernel_rfl)); (apply n_callv (caps := [.pointer (some ⟨bo, 0, none⟩), .pointer (some ⟨bs, 0, none⟩), .pointer (some ⟨be, 0, none⟩)]); (case hi => rfl); (case hg => rfl); (case hd => rfl); (case hx => rfl); (case i1 => infer_instance); (case ha => rfl); (case hc => exact get_con s hs _ _ (by assumption) bo be ⟨bs, 0, none⟩ _ hps5); (case hL => (exact pmT)); (case hsub => (intros; (exact sbT))); rintro _ _ _ - ⟨rfl, rfl, _, _, rfl⟩); (first | (apply h_first 16; (case hi => rfl); (case hr => kernel_rfl); (case hfr => kernel_rfl); (case hsel => kernel_rfl); (case hg => rfl); (case hd => rfl); (case he => (apply ev_buildS; (case hp => rfl); (case hz => rfl); (case h1 => rfl); (case hr => rfl)))) | refine Jf 16 ?_); (apply h_one 18; (case hr => kernel_rfl)); (refine Jn ?_; try intro _); (apply h_end; (case hr => kernel_rfl)); (apply q_then; exact q_cut ⟨rfl, _, _, (by assumption), (by first | exact List.Perm.refl _ | exact (List.Perm.swap _ _ _).trans ((List.Perm.swap _ _ _).cons _) | exact ((List.Perm.swap _ _ _).trans ((List.Perm.swap _ _ _).cons _))), rfl⟩ sbF (List.Sublist.refl _)))))); (case k2 => ((refine Jn ?_; try intro _); (apply h_one 1; (case hr => kernel_rfl)); (apply n_callv (caps := [.pointer (some ⟨bo, 0, none⟩), .pointer (some ⟨bs, 0, none⟩), .pointer (some ⟨be, 0, none⟩)]); (case hi => rfl); (case hg => rfl); (case hd => rfl); (case hx => rfl); (case i1 => infer_instance); (case ha => rfl); (case hc => exact get_con s hs _ _ (by assumption) bo be ⟨bs, 0, none⟩ _ hps5); (case hL => (exact pmT)); (case hsub => (intros; (exact sbT))); rintro _ _ _ - ⟨rfl, rfl, _, _, rfl⟩); (apply h_one 3; (case hr => kernel_rfl)); (apply n_callv (caps := [.pointer (some ⟨bo, 0, none⟩), .pointer (some ⟨bs, 0, none⟩), .pointer (some ⟨be, 0, none⟩)]); (case hi => rfl); (case hg => rfl); (case hd => rfl); (case hx => rfl); (case i1 => infer_instance); (case ha => rfl); (case hc => exact get_con s hs _ _ (by assumption) bo be ⟨bs, 0, none⟩ _ hps5); (case hL => (exact pmT)); (case hsub => (intros; (exact sbT))); rintro _ _ _ - ⟨rfl, rfl, _, _, rfl⟩); (apply h_one 5; (case hr => kernel_rfl)); (apply n_callv (caps := [.pointer (some ⟨bo, 0, none⟩), .pointer (some ⟨bs, 0, none⟩), .pointer (some ⟨be, 0, none⟩)]); (case hi => rfl); (case hg => rfl); (case hd => rfl); (case hx => rfl); (case i1 => infer_instance); (case ha => rfl); (case hc => exact get_con s hs _ _ (by assumption) bo be ⟨bs, 0, none⟩ _ hps5); (case hL => (exact pmT)); (case hsub => (intros; (exact sbT))); rintro _ _ _ - ⟨rfl, rfl, _, _, rfl⟩); (apply h_one 7; (case hr => kernel_rfl)); (apply n_callv (caps := [.pointer (some ⟨bo, 0, none⟩), .pointer (some ⟨bs, 0, none⟩), .pointer (some ⟨be, 0, none⟩)]); (case hi => rfl); (case hg => rfl); (case hd => rfl); (case hx => rfl); (case i1 => infer_instance); (case ha => rfl); (case hc => exact get_con s hs _ _ (by assumption) bo be ⟨bs, 0, none⟩ _ hps5); (case hL => (exact pmT)); (case hsub => (intros; (exact sbT))); rintro _ _ _ - ⟨rfl, rfl, _, _, rfl⟩); (apply h_one 9; (case hr => kernel_rfl)); (apply n_callv (caps := [.pointer (some ⟨bo, 0, none⟩), .pointer (some ⟨bs, 0, none⟩), .pointer (some ⟨be, 0, none⟩)]); (case hi => rfl); (case hg => rfl); (case hd => rfl); (case hx => rfl); (case i1 => infer_instance); (case ha => rfl); (case hc => exact get_con s hs _ _ (by assumption) bo be ⟨bs, 0, none⟩ _ hps5); (case hL => (exact pmT)); (case hsub => (intros; (exact sbT))); rintro _ _ _ - ⟨rfl, rfl, _, _, rfl⟩); (apply h_one 11; (case hr => kernel_rfl)); (apply n_callv (caps := [.pointer (some ⟨bo, 0, none⟩), .pointer (some ⟨bs, 0, none⟩), .pointer (some ⟨be, 0, none⟩)]); (case hi => rfl); (case hg => rfl); (case hd => rfl); (case hx => rfl); (case i1 => infer_instance); (case ha => rfl); (case hc => exact get_con s hs _ _ (by assumption) bo be ⟨bs, 0, none⟩ _ hps5); (case hL => (exact pmT)); (case hsub => (intros; (exact sbT))); rintro _ _ _ - ⟨rfl, rfl, _, _, rfl⟩); (apply h_one 13; (case hr => kernel_rfl)); (apply n_callv (caps := [.pointer (some ⟨bo, 0, none⟩), .pointer (some ⟨bs, 0, none⟩), .pointer (some ⟨be, 0, none⟩)]); (case hi => rfl); (case hg => rfl); (case hd => rfl); (case hx => rfl); (case i1 => infer_instance); (case ha => rfl); (case hc => exact get_con s hs _ _ (by assumption) bo be ⟨bs, 0, none⟩ _ hps5); (case hL => (exact pmT)); (case hsub => (intros; (exact sbT))); rintro _ _ _ - ⟨rfl, rfl, _, _, rfl⟩); (apply h_one 15; (case hr => kernel_rfl)); (apply n_callv (caps := [.pointer (some ⟨bo, 0, none⟩), .pointer (some ⟨bs, 0, none⟩), .pointer (some ⟨be, 0, none⟩)]); (case hi => rfl); (case hg => rfl); (case hd => rfl); (case hx => rfl); (case i1 => infer_instance); (case ha => rfl); (case hc => exact get_con s hs _ _ (by assumption) bo be ⟨bs, 0, none⟩ _ hps5); (case hL => (exact pmT)); (case hsub => (intros; (exact sbT))); rintro _ _ _ - ⟨rfl, rfl, _, _, rfl⟩); (first | (apply h_first 16; (case hi => rfl); (case hr => kernel_rfl); (case hfr => kernel_rfl); (case hsel => kernel_rfl); (case hg => rfl); (case hd => rfl); (case he => (apply ev_buildS; (case hp => rfl); (case hz => rfl); (case h1 => rfl); (case hr => rfl)))) | refine Jf 16 ?_); (apply h_one 18; (case hr => kernel_rfl)); (refine Jn ?_; try intro _); (apply h_end; (case hr => kernel_rfl)); (apply q_then; exact q_cut ⟨rfl, _, _, (by assumption), (by first | exact List.Perm.refl _ | exact (List.Perm.swap _ _ _).trans ((List.Perm.swap _ _ _).cons _) | exact ((List.Perm.swap _ _ _).trans ((List.Perm.swap _ _ _).cons _))), rfl⟩ sbF (List.Sublist.refl _)))))
      rintro S6 L6 F6 ⟨rfl, e6, bc, he6, hp6, rfl⟩
      refine W.perm ?_ hp6
      have hnl1 := hnl (fun h => by cases hqn h)
      have hqb := hq (fun h => by cases hqn h)
      obtain ⟨x, hx⟩ : ∃ x, x = cellD s (some pp) := ⟨_, rfl⟩
      rw [← hx] at hdc
      unfold cellD at hx
      generalize qn s 8 (some pp) = q8 at *
      (repeat (first | refine Jc ?_ | (apply s_callw (caps := [.pointer (some ⟨bg, 0, none⟩), .pointer (some ⟨bo, 0, none⟩)]); (case hg => rfl); (case hd => rfl); (case hx => rfl); (case i1 => infer_instance); (case ha => rfl); (case hc => exact row_con s hs _ _ he6 bo be ⟨bs, 0, none⟩ ⟨bg, 0, none⟩ _ hps5 hpg5); (case hL => (exact pmT)); rintro S7 _ _ hle7 ⟨hrl1, A1, e7, rfl, hA1, he7, rfl⟩) | (apply s_callw (caps := [.pointer (some ⟨bg, 0, none⟩), .pointer (some ⟨bo, 0, none⟩)]); (case hg => rfl); (case hd => rfl); (case hx => rfl); (case i1 => infer_instance); (case ha => rfl); (case hc => exact row_con s hs _ _ he7 bo be ⟨bs, 0, none⟩ ⟨bg, 0, none⟩ _ (hps5.le hle7) (hpg5.le hle7)); (case hL => (exact pmT)); rintro S8 _ _ hle8 ⟨hrl2, A2, e8, rfl, hA2, he8, rfl⟩) | refine Jo ?_ | intro _))
      have hok' : (⟨x.1, A1, 44, A2, 44⟩ : Ce).ok S8 := by
        rw [hx]
        exact ⟨hA1.le hle8, hA2, Nat.le_of_eq hrl1, Nat.le_of_eq hrl2, by simp only [hrl1]; decide, by simp only [hrl2]; decide⟩
      have hxq : x.2 = (rowR s (rowR s q8).2).2 := by rw [hx]
      have hvs : (⟨x.1, A1, 44, A2, 44⟩ : Ce).vals = [.int .i64 (vn s 0 (some pp)), .int .i64 (vn s 1 (some pp)), .int .i64 (vn s 2 (some pp)), .int .i64 (vn s 3 (some pp)), .int .i64 (vn s 4 (some pp)), .int .i64 (vn s 5 (some pp)), .int .i64 (vn s 6 (some pp)), .int .i64 (vn s 7 (some pp)), .slice A1 (rowR s q8).1.length 44, .slice A2 (rowR s (rowR s q8).2).1.length 44] := by rw [hx]; rfl
      rw [hxq] at hdc
      refine W.perm ?_ (List.perm_append_comm (l₁ := [_, _, _, _, _, _]) (l₂ := ob))
      generalize hcc : (⟨x.1, A1, 44, A2, 44⟩ : Ce) = cc at *
      have hccp : cc.p = x.1 := by rw [← hcc]
      rw [← hccp] at hdc
      (repeat (first | refine Jc ?_ | (apply s_append (ms := [cc]); (case hg => rfl); (case hd => rfl); (case hx => rfl); (case ho => exact hob); (case hL => (exact pmT)); (case hy => rfl); (case hm => rfl); (case hs => (apply Src.own; rw [show cellsOf [cc] = cc.vals from List.append_nil _, hvs]; (repeat (first | exact List.Mem.head _ | apply List.Mem.tail | apply List.mem_append_right)))); (case hzs => rfl); (case h0 => decide); (case hb => (simp; omega)); (case h63 => (simp; omega)); intro v' ob' ho'; obtain ⟨A', c', rfl⟩ := ho'.form) | refine Jo ?_ | intro _))
      refine W.perm ?_ (List.perm_append_comm (l₂ := [_, _, _, _, _, _]))
      refine q_back (m' := (nv - 1).toNat) ⟨(hle5.trans hle7).trans hle8, nv - 1, (rowR s (rowR s q8).2).2, e8, l ++ [cc], _, ob', rfl, by omega, by omega, he8, ho', ?_, (fun h => ?_), (fun h => by cases hqn h), ?_, rfl, rfl⟩ (by omega) sbF sbL
      · intro c hc
        rcases List.mem_append.1 hc with hc | hc
        · exact ((hok c hc).le hle7).le hle8
        · rw [List.mem_singleton.1 hc]; exact hok'
      · have := hnl h
        rw [List.length_append, List.length_singleton]; omega
      · rw [List.map_append, show (nv - 1).toNat = k1 by omega]; exact hdc
  rintro S5 L5 F5 ⟨hle5, q5, e5, l, pv, ob, he5, hob, hok, hll, hdc, rfl, rfl⟩
  have hge5 := decC_ge (s := s) n0.toNat q [] p hge
  rw [hdc] at hR hge5
  cases q5 with
  | none =>
    simp only at hR
    subst hR
    unfold okO
    (repeat (first | refine Jc ?_ | (apply s_evb; (case hg => rfl); (case hd => rfl); (case hn => rfl); (case he => (apply ev_buildS; (case hp => rfl); (case hz => rfl); (case h1 => rfl); (case hr => rfl)))) | refine Jo ?_ | intro _))
    exact o_ret_c3 (L' := []) (sz := 1) (cs := [.slice none 0 0]) Tryd.results36 rfl rfl rfl (by repeat (first | exact List.Mem.head _ | refine List.Mem.tail _ ?_ | exact List.mem_append_right _ (List.Mem.head _))) rfl (List.nil_sublist _) ⟨rfl, _, rfl, skv_empty _⟩
  | some ee =>
    obtain ⟨rfl, hee⟩ := he5 ee rfl
    have hpe := hge5 ee rfl
    have hll := hll (by simp)
    simp only at hR
    refine W.perm ?_ (List.perm_append_comm (l₁ := [_, _, _, _]))
    refine W.freezeOws hob (List.Perm.refl _) fun S6 hle6 hsr => ?_
    obtain ⟨A6, c6, rfl, hc6, hA6⟩ := hsr
    have hG6 : Gl S6 := hG.le ((((hle1.trans hle2).trans hle5)).trans hle6)
    have hok6 : ∀ c ∈ l, c.ok S6 := fun c hc => (hok c hc).le hle6
    have hvc := Valid_con l A6 c6 S6 hG6 hA6 hok6 (by omega)
    have henc := Encode_con l A6 c6 S6 hG6 hA6 hok6 (by omega)
    have hps6 := (hps.le hle5).le hle6
    unfold okO
    by_cases hv : ValidP (l.map (·.p))
    rotate_left
    · rw [if_neg (fun h => hv h.1)] at hR
      subst hR
      rw [bP_f hv] at hvc
      (repeat (first | refine Jc ?_ | (apply s_evb; (case hg => rfl); (case hd => rfl); (case hn => rfl); (case he => (apply ev_buildS; (case hp => rfl); (case hz => rfl); (case h1 => rfl); (case hr => rfl)))) | ((apply z_call; rfl; rfl; rfl; exact hvc; rintro _ _ _ - ⟨rfl, rfl, rfl⟩)) | refine Jo ?_ | intro _))
      exact o_ret_c3 (L' := []) (sz := 1) (cs := [.slice none 0 0]) Tryd.results36 rfl rfl rfl (by repeat (first | exact List.Mem.head _ | refine List.Mem.tail _ ?_ | exact List.mem_append_right _ (List.Mem.head _))) rfl (List.nil_sublist _) ⟨rfl, _, rfl, skv_empty _⟩
    rw [bP_t hv] at hvc
    rw [encV_t hv] at henc
    by_cases hc : txt (skI (l.map (·.p))) = (s.take ee).drop p
    rotate_left
    · rw [if_neg (fun h => hc h.2)] at hR
      subst hR
      (repeat (first | refine Jc ?_ | (apply s_evb; (case hg => rfl); (case hd => rfl); (case hn => rfl); (case he => (apply ev_buildS; (case hp => rfl); (case hz => rfl); (case h1 => rfl); (case hr => rfl)))) | ((apply z_call; rfl; rfl; rfl; exact hvc; rintro _ _ _ - ⟨rfl, rfl, rfl⟩)) | ((apply z_call; rfl; rfl; rfl; exact henc; rintro S7 _ _ hle7 ⟨rfl, rfl⟩)) | (apply s_load1; (case hg => rfl); (case hd => rfl); (case hx => rfl); (case hv => exact (hps6.le hle7))) | (apply s_evb; (case hg => rfl); (case hd => rfl); (case hn => rfl); (case he => ((apply ev_slice_b (i := p) (j := ee); (case hx => rfl); (case hy => rfl); (case hz => rfl); (case hj => omega))))) | (apply s_evb; (case hg => rfl); (case hd => rfl); (case hn => rfl); (case he => ((apply ev_neq_bs' (r := true); (case hx => rfl); (case hy => rfl); (case h => simpa using hc))))) | refine Jo ?_ | intro _))
      exact o_ret_c3 (L' := []) (sz := 1) (cs := [.slice none 0 0]) Tryd.results36 rfl rfl rfl (by repeat (first | exact List.Mem.head _ | refine List.Mem.tail _ ?_ | exact List.mem_append_right _ (List.Mem.head _))) rfl (List.nil_sublist _) ⟨rfl, _, rfl, skv_empty _⟩
    rw [if_pos ⟨hv, hc⟩] at hR
    subst hR
    (repeat (first | refine Jc ?_ | (apply s_evb; (case hg => rfl); (case hd => rfl); (case hn => rfl); (case he => (apply ev_buildS; (case hp => rfl); (case hz => rfl); (case h1 => rfl); (case hr => rfl)))) | ((apply z_call; rfl; rfl; rfl; exact hvc; rintro _ _ _ - ⟨rfl, rfl, rfl⟩)) | ((apply z_call; rfl; rfl; rfl; exact henc; rintro S7 _ _ hle7 ⟨rfl, rfl⟩)) | (apply s_load1; (case hg => rfl); (case hd => rfl); (case hx => rfl); (case hv => exact (hps6.le hle7))) | (apply s_evb; (case hg => rfl); (case hd => rfl); (case hn => rfl); (case he => ((apply ev_slice_b (i := p) (j := ee); (case hx => rfl); (case hy => rfl); (case hz => rfl); (case hj => omega))))) | (apply s_evb; (case hg => rfl); (case hd => rfl); (case hn => rfl); (case he => ((apply ev_neq_bs' (r := false); (case hx => rfl); (case hy => rfl); (case h => (rw [hc]; simp)))))) | refine Jo ?_ | intro _))
    ((apply c_held ([(bo, .cells [.bool (some ee).isSome].toArray 4 (0, 0)), (be, endO ee), (b11, .cells [.slice A6 l.length c6].toArray 24 (0, 0))]); (case hL => (exact sbT))); refine Jf 0 ?_; refine Jf 1 ?_; (apply h_one 2; (case hr => kernel_rfl)); (refine Jn ?_; try intro _); refine Jf 3 ?_; refine Jf 4 ?_; (apply h_end; (case hr => kernel_rfl)))
    (repeat (first | refine Jz ?_ | intro _))
    exact o_ret_c3 (L' := []) (sz := 1) (cs := [.slice A6 l.length c6]) Tryd.results36 rfl rfl rfl (by repeat (first | exact List.Mem.head _ | refine List.Mem.tail _ ?_ | exact List.mem_append_right _ (List.Mem.head _))) rfl (List.nil_sublist _) ⟨rfl, _, rfl, ⟨A6, c6, l, rfl, hA6.le hle7, fun c hc => (hok6 c hc).le hle7, by omega, rfl⟩⟩
end Go.Proofs.YtogfficbloejcaaDoor
namespace Go.Proofs.YtogfficbloejcaaDoor
open Go Go.X
set_option maxRecDepth 10000
set_option linter.unusedVariables false
attribute [local irreducible] Code.wpIn wpListIn Exit.then Exit.inBlock X.Out X.Back X.W X.Ev X.Con X.BinV X.Wh X.Wn X.Wq
theorem get_step {s : Bs} {p : Nat} {n : Int} {l : List Int} {t : Bs} (h : s.drop p = txt (n :: l) ++ t) (hw : wOk n) : get1 s (some p) = (n, some (p + (ibs n).length)) ∧ s.drop (p + (ibs n).length) = txt l ++ t := by
  rw [txt_cons, List.append_assoc] at h
  constructor
  · simp only [get1, h, decI_enc hw]
  · rw [← List.drop_drop, h, List.drop_left]
theorem rdRow_spec {s : Bs} : ∀ (r a : List Int) (p : Nat) (last : Int) (t : Bs), a.length + r.length = 44 → last < a.length → (∀ c ∈ r, 0 ≤ c ∧ c ≤ 1000000) → s.drop p = txt (someI a.length r) ++ t →
    rdRow s ((someI a.length r).length / 2) (some p) last (a ++ List.replicate r.length 0) = (a ++ r, some (p + (txt (someI a.length r)).length))
  | [], a, p, last, t, _, _, _, _ => by simp [someI, rdRow, txt]
  | n :: r, a, p, last, t, ha, hl, hr, h => by
    rw [List.length_cons] at ha
    have hrn := hr n List.mem_cons_self
    have hr2 : ∀ c ∈ r, 0 ≤ c ∧ c ≤ 1000000 := fun c hc => hr c (List.mem_cons_of_mem _ hc)
    have hlen : (a ++ [n]).length = a.length + 1 := by simp
    by_cases h0 : n = 0
    · subst h0
      have e : someI a.length (0 :: r) = someI (a.length + 1) r := by simp [someI]
      rw [e] at h ⊢
      have ih := rdRow_spec r (a ++ [0]) p last t (by rw [hlen]; omega) (by rw [hlen]; omega) hr2 (by rw [hlen]; exact h)
      rw [hlen, List.append_assoc, List.append_assoc] at ih
      exact ih
    · have e : someI a.length (n :: r) = (a.length : Int) :: n :: someI (a.length + 1) r := by simp [someI, h0]
      rw [e] at h ⊢
      obtain ⟨g1, h1⟩ := get_step h (by unfold wOk; omega)
      obtain ⟨g2, h2⟩ := get_step h1 (by unfold wOk; omega)
      have ih := rdRow_spec r (a ++ [n]) _ a.length t (by rw [hlen]; omega) (by rw [hlen]; omega) hr2 (by rw [hlen]; exact h2)
      rw [show ((a.length : Int) :: n :: someI (a.length + 1) r).length / 2 = (someI (a.length + 1) r).length / 2 + 1 by simp only [List.length_cons]; omega, rdRow, g1]
      simp only
      rw [g2]
      simp only
      have hset : List.set (a ++ List.replicate (n :: r).length (0 : Int)) a.length n = (a ++ [n]) ++ List.replicate r.length (0 : Int) := by simp [List.replicate_succ]
      rw [if_pos ⟨rfl, hl, by omega, h0⟩, Int.toNat_natCast, hset]
      rw [hlen] at ih
      rw [ih, txt_cons, txt_cons]
      simp only [List.length_append, Prod.mk.injEq, Option.some.injEq]
      exact ⟨by simp, by omega⟩
theorem rowR_spec {s : Bs} {p : Nat} {r : List Int} {t : Bs} {n x : Int} (hc : CountsP r n x) (h : s.drop p = txt (rowI r) ++ t) : rowR s (some p) = (r, some (p + (txt (rowI r)).length)) := by
  have h0 := hc.len
  have hs := someI_len r 0
  obtain ⟨g1, h1⟩ := get_step h (by unfold wOk; omega)
  have := rdRow_spec r [] _ (-1) t (by simpa using h0) (by simp) hc.each h1
  rw [rowR, g1]
  simp only [List.length_nil, List.nil_append, h0] at this
  rw [show ((someI 0 r).length : Int) / 2 = (((someI 0 r).length / 2 : Nat) : Int) by omega] at *
  simp only [Int.toNat_natCast]
  rw [this, rowI, txt_cons]
  simp only [List.length_append, Prod.mk.injEq, Option.some.injEq, true_and]
  rw [show ((someI 0 r).length : Int) / 2 = (((someI 0 r).length / 2 : Nat) : Int) by omega]
  omega
theorem cellD_spec {s : Bs} {p : Nat} {c : PC} {t : Bs} (hc : PcP c) (h : s.drop p = txt (cellI c) ++ t) : cellD s (some p) = (c, some (p + (txt (cellI c)).length)) := by
  have hh := hc.head
  have h0 := h
  rw [cellI, txt_app, List.append_assoc, txt_app, List.append_assoc] at h
  obtain ⟨g0, h⟩ := get_step h (hh _ (by simp))
  obtain ⟨g1, h⟩ := get_step h (hh _ (by simp))
  obtain ⟨g2, h⟩ := get_step h (hh _ (by simp))
  obtain ⟨g3, h⟩ := get_step h (hh _ (by simp))
  obtain ⟨g4, h⟩ := get_step h (hh _ (by simp))
  obtain ⟨g5, h⟩ := get_step h (hh _ (by simp))
  obtain ⟨g6, h⟩ := get_step h (hh _ (by simp))
  obtain ⟨g7, h⟩ := get_step h (hh _ (by simp))
  rw [txt_nil, List.nil_append] at h
  have r1 := rowR_spec hc.cell.lo h
  have h2 : s.drop (p + (ibs c.s).length + (ibs c.v).length + (ibs c.o).length + (ibs c.d).length + (ibs c.x.n).length + (ibs c.x.lo).length + (ibs c.x.hi).length + (ibs c.x.by_).length + (txt (rowI c.x.ls)).length) = txt (rowI c.x.hs) ++ t := by rw [← List.drop_drop, h, List.drop_left]
  have r2 := rowR_spec hc.cell.hi h2
  have q0 : qn s 0 (some p) = some p := rfl
  have q1 : qn s 1 (some p) = some (p + (ibs c.s).length) := by rw [qn, q0, g0]
  have q2 : qn s 2 (some p) = some (p + (ibs c.s).length + (ibs c.v).length) := by rw [qn, q1, g1]
  have q3 : qn s 3 (some p) = some (p + (ibs c.s).length + (ibs c.v).length + (ibs c.o).length) := by rw [qn, q2, g2]
  have q4 : qn s 4 (some p) = some (p + (ibs c.s).length + (ibs c.v).length + (ibs c.o).length + (ibs c.d).length) := by rw [qn, q3, g3]
  have q5 : qn s 5 (some p) = some (p + (ibs c.s).length + (ibs c.v).length + (ibs c.o).length + (ibs c.d).length + (ibs c.x.n).length) := by rw [qn, q4, g4]
  have q6 : qn s 6 (some p) = some (p + (ibs c.s).length + (ibs c.v).length + (ibs c.o).length + (ibs c.d).length + (ibs c.x.n).length + (ibs c.x.lo).length) := by rw [qn, q5, g5]
  have q7 : qn s 7 (some p) = some (p + (ibs c.s).length + (ibs c.v).length + (ibs c.o).length + (ibs c.d).length + (ibs c.x.n).length + (ibs c.x.lo).length + (ibs c.x.hi).length) := by rw [qn, q6, g6]
  have q8 : qn s 8 (some p) = some (p + (ibs c.s).length + (ibs c.v).length + (ibs c.o).length + (ibs c.d).length + (ibs c.x.n).length + (ibs c.x.lo).length + (ibs c.x.hi).length + (ibs c.x.by_).length) := by rw [qn, q7, g7]
  unfold cellD vn
  rw [q8, r1]
  simp only
  rw [r2, q0, q1, q2, q3, q4, q5, q6, q7, g0, g1, g2, g3, g4, g5, g6, g7]
  simp only [cellI, txt_app, txt_cons, txt_nil, List.length_append, List.length_nil, Prod.mk.injEq, Option.some.injEq, true_and]
  omega
theorem decC_spec {s : Bs} : ∀ (l acc : List PC) (p : Nat) (t : Bs), (∀ c ∈ l, PcP c) → s.drop p = txt (l.flatMap cellI) ++ t → decC s l.length (some p) acc = (acc ++ l, some (p + (txt (l.flatMap cellI)).length))
  | [], acc, p, t, _, _ => by simp [decC, txt]
  | c :: l, acc, p, t, hl, h => by
    rw [List.flatMap_cons, txt_app, List.append_assoc] at h
    have hc := cellD_spec (hl c List.mem_cons_self) h
    have h2 : s.drop (p + (txt (cellI c)).length) = txt (l.flatMap cellI) ++ t := by rw [← List.drop_drop, h, List.drop_left]
    have ih := decC_spec l (acc ++ [c]) _ t (fun x hx => hl x (List.mem_cons_of_mem _ hx)) h2
    rw [List.length_cons, decC, hc]
    simp only
    rw [ih, List.flatMap_cons, txt_app, List.length_append]
    simp only [Prod.mk.injEq, Option.some.injEq]
    exact ⟨by simp, by omega⟩
/-- What was encoded is read back, wherever it lies. -/
theorem decR_spec {s : Bs} {p : Nat} {l : List PC} {t : Bs} (hv : ValidP l) (h : s.drop p = txt (skI l) ++ t) : decR s p = (l, ((p + (txt (skI l)).length : Nat) : Int), 0) := by
  have hlen := hv.len
  have h0 := h
  obtain ⟨g, h1⟩ := get_step h (by unfold wOk; omega)
  have hc := decC_spec l [] _ t hv.each h1
  have e1 : (txt (skI l)).length = (ibs (l.length : Int)).length + (txt (l.flatMap cellI)).length := by rw [skI, txt_cons, List.length_append]
  have e2 : (s.take (p + (ibs (l.length : Int)).length + (txt (l.flatMap cellI)).length)).drop p = txt (skI l) := by
    rw [List.drop_take, h0, show p + (ibs (l.length : Int)).length + (txt (l.flatMap cellI)).length - p = (txt (skI l)).length by omega, List.take_left]
  unfold decR
  rw [g]
  simp only
  rw [if_pos ⟨rfl, by omega, by omega⟩, Int.toNat_natCast, hc]
  simp only [List.nil_append]
  rw [if_pos ⟨hv, e2.symm⟩, e1, Nat.add_assoc]
end Go.Proofs.YtogfficbloejcaaDoor
