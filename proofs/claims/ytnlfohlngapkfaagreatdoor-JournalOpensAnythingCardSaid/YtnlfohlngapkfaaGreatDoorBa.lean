/- Contracts of functions of this program, each proved by a walk through its code, and plain lemmas on what they compute; on no condition beyond those that each theorem states. -/
import Derived.Test.YtnlfohlngapkfaaGreatDoorPFacts
import Derived.Test.YtnlfohlngapkfaaGreatDoorXA
namespace Go.Proofs.YtnlfohlngapkfaaGreatDoor
open Go Go.X
set_option maxRecDepth 10000
set_option linter.unusedVariables false
attribute [local irreducible] Code.wpIn wpListIn Exit.then Exit.inBlock X.Out X.Back X.W X.Ev X.Con X.BinV X.Wh X.Wn X.Wq
instance : Ptr Tryz.prog 27 := ⟨by kernel_rfl⟩
def i64 (n : Int) : Prop := -9223372036854775808 ≤ n ∧ n ≤ 9223372036854775807
structure Wr where
  off : Nat
  s : Bs
instance : Inhabited Wr := ⟨⟨0, []⟩⟩
instance : Cl Wr := ⟨2, fun w => [.int .i64 w.off, strV w.s], fun _ => rfl, fun _ u hu => by simp at hu; rcases hu with rfl | rfl <;> rfl⟩
structure Dk where
  off : Bool
  left : Int
  dur : Bs
  vis : Bs
  pend : List Wr
def row (g : Nat) (B : Bs) : Nat × Obj := (g, .cells (cellsOf B).toArray 5 (0, 0))
def dkB (b g1 g2 N : Nat) (pv : Value) (ob : Blocks) (D : Dk) : Blocks :=
  (b, .cells [.bool D.off, .int .i64 D.left, .slice (some ⟨g1, 0, none⟩) N N, .slice (some ⟨g2, 0, none⟩) N N, pv].toArray 115 (0, 0)) :: (g1, .cells (cellsOf D.dur).toArray 5 (0, 0)) :: (g2, .cells (cellsOf D.vis).toArray 5 (0, 0)) :: ob
structure Wf (N : Nat) (D : Dk) : Prop where
  dur : D.dur.length = N
  vis : D.vis.length = N
  pos : 1 ≤ N
  max : N ≤ 4194304
  left : 0 ≤ D.left ∧ D.left ≤ 9223372036854775807
  fit : ∀ w ∈ D.pend, w.off + w.s.length ≤ N
def OwD (v : Value) (D : Dk) (L : Blocks) : Prop := ∃ b g1 g2 N pv ob, v = .pointer (some ⟨b, 0, none⟩) ∧ L.Perm (dkB b g1 g2 N pv ob D) ∧ Ows 110 pv D.pend ob ∧ Wf N D
theorem OwD.mk' {b g1 g2 N : Nat} {pv : Value} {ob : Blocks} {D : Dk} {L : Blocks} (ho : Ows 110 pv D.pend ob) (hw : Wf N D) (hp : L.Perm (dkB b g1 g2 N pv ob D)) : OwD (.pointer (some ⟨b, 0, none⟩)) D L := ⟨b, g1, g2, N, pv, ob, rfl, hp, ho, hw⟩
/-- The disk stays as it is. -/
def Kp (v : Value) (D : Dk) (S : SH) (r0 : Value) : SH → Blocks → Value → Prop := fun S' L' r => S' = S ∧ OwD v D L' ∧ r = r0
theorem pm1 {p : Nat × Obj} {Y : Blocks} : (p :: Y).Perm ([p] ++ Y) := List.Perm.refl _
theorem pm3 {a b p : Nat × Obj} {Y : Blocks} : (a :: b :: p :: Y).Perm ([p] ++ (a :: b :: Y)) := ((List.Perm.swap p b Y).cons a).trans (List.Perm.swap p a _)
theorem pm4 {a b c p : Nat × Obj} {Y : Blocks} : (a :: b :: c :: p :: Y).Perm ([p] ++ (a :: b :: c :: Y)) := ((pm3 (a := b) (b := c) (p := p) (Y := Y)).cons a).trans (List.Perm.swap p a _)
theorem check_con {v : Value} {D : Dk} {L : Blocks} (h : OwD v D L) (S : SH) : Con Tryz.prog 54 #[v] S L (Kp v D S (.int .i64 (if D.off then 321 else 0))) := by
  obtain ⟨b, g1, g2, N, pv, ob, rfl, hp, ho, hw⟩ := h
  refine con_of (args := [.pointer (some ⟨b, 0, none⟩)]) Tryz.func54 rfl Tryz.ntmps54 rfl fun w => W.perm ?_ hp
  obtain ⟨o, l, du, vi, pe⟩ := D
  unfold dkB
  cases o
  all_goals
    (repeat (first | refine Jc ?_ | (apply s_evb; (case hg => rfl); (case hd => rfl); (case hn => rfl); (case he => (apply ev_eql_p; (case hx => rfl); (case hy => rfl)))) | refine Jo ?_ | intro _))
    exact o_ret Tryz.results54 rfl sbL ⟨rfl, OwD.mk' ho hw (List.Perm.refl _), rfl⟩
def insideB (N : Nat) (off n : Int) : Bool := decide (0 ≤ off) && decide (0 ≤ n) && decide (off ≤ N) && decide (n ≤ N - off)
theorem inside_con {v : Value} {D : Dk} {L : Blocks} (h : OwD v D L) (S : SH) (off n : Int) (h1 : i64 off) (h2 : i64 n) : Con Tryz.prog 55 #[v, .int .i64 off, .int .i64 n] S L (Kp v D S (.bool (insideB D.dur.length off n))) := by
  obtain ⟨b, g1, g2, N, pv, ob, rfl, hp, ho, hw⟩ := h
  refine con_of (args := [.pointer (some ⟨b, 0, none⟩), .int .i64 off, .int .i64 n]) Tryz.func55 rfl Tryz.ntmps55 rfl fun w => W.perm ?_ hp
  have hN := hw.dur
  have hm := hw.max
  unfold i64 at h1 h2
  unfold dkB
  by_cases c1 : 0 ≤ off
  rotate_left
  · (repeat (first | refine Jz ?_ | intro _))
    exact o_ret Tryz.results55 rfl sbL ⟨rfl, OwD.mk' ho hw (List.Perm.refl _), by simp [insideB, c1]⟩
  by_cases c2 : 0 ≤ n
  rotate_left
  · (repeat (first | refine Jz ?_ | intro _))
    exact o_ret Tryz.results55 rfl sbL ⟨rfl, OwD.mk' ho hw (List.Perm.refl _), by simp [insideB, c2]⟩
  by_cases c3 : off ≤ N
  rotate_left
  · (repeat (first | refine Jz ?_ | intro _))
    exact o_ret Tryz.results55 rfl sbL ⟨rfl, OwD.mk' ho hw (List.Perm.refl _), by simp [insideB, hN, c3]⟩
  by_cases c4 : n ≤ N - off
  all_goals
    (repeat (first | refine Jz ?_ | intro _))
    exact o_ret Tryz.results55 rfl sbL ⟨rfl, OwD.mk' ho hw (List.Perm.refl _), by simp [insideB, hN, c1, c2, c3, c4]⟩
theorem Size_con {v : Value} {D : Dk} {L : Blocks} (h : OwD v D L) (S : SH) : Con Tryz.prog 59 #[v] S L (Kp v D S (.int .i64 D.dur.length)) := by
  obtain ⟨b, g1, g2, N, pv, ob, rfl, hp, ho, hw⟩ := h
  refine con_of (args := [.pointer (some ⟨b, 0, none⟩)]) Tryz.func59 rfl Tryz.ntmps59 rfl fun w => W.perm ?_ hp
  have hN := hw.dur
  unfold dkB
  (repeat (first | refine Jc ?_ | (apply s_evb; (case hg => rfl); (case hd => rfl); (case hn => rfl); (case he => (apply ev_eql_p; (case hx => rfl); (case hy => rfl)))) | refine Jo ?_ | intro _))
  exact o_ret Tryz.results59 rfl sbL ⟨rfl, OwD.mk' ho hw (List.Perm.refl _), by rw [hN]⟩
end Go.Proofs.YtnlfohlngapkfaaGreatDoor
namespace Go.Proofs.YtnlfohlngapkfaaGreatDoor
open Go Go.X
set_option maxRecDepth 10000
set_option linter.unusedVariables false
attribute [local irreducible] Code.wpIn wpListIn Exit.then Exit.inBlock X.Out X.Back X.W X.Ev X.Con X.BinV X.Wh X.Wn X.Wq
theorem lset_off {B s : Bs} {o N : Nat} (h : B.length = N) (ho : o + s.length ≤ N) : lset B (if N = o then 0 else o) (s.take (N - o)) = lset B o s := by
  rw [List.take_of_length_le (by omega)]
  split
  · have : s = [] := List.eq_nil_of_length_eq_zero (by omega)
    rw [this, lset_nil, lset_nil]
  · rfl
theorem onto_con (g N o : Nat) (B s : Bs) (S : SH) (h : B.length = N) (ho : o + s.length ≤ N) : Con Tryz.prog 56 #[.agg [.int .i64 (o : Nat), strV s].toArray, .slice (some ⟨g, 0, none⟩) N N] S [(g, .cells (cellsOf B).toArray 5 (0, 0))]
    (fun S' L' r => S' = S ∧ L' = [(g, .cells (cellsOf (lset B o s)).toArray 5 (0, 0))]) := by
  refine con_of (args := [.agg [.int .i64 (o : Nat), strV s].toArray, .slice (some ⟨g, 0, none⟩) N N]) Tryz.func56 rfl Tryz.ntmps56 rfl fun w => ?_
  (repeat (first | refine Jz ?_ | intro _))
  rename_i b1
  ((apply c_held ([(b1, .cells [.int .i64 (o : Nat), strV s].toArray 110 (0, 0))]); (case hL => (exact sbT))); (first | (apply h_first 0; (case hi => rfl); (case hr => kernel_rfl); (case hfr => kernel_rfl); (case hsel => kernel_rfl); (case hg => rfl); (case hd => rfl); (case he => (apply ev_sub_lo; (case hx => rfl); (case hy => rfl); (case hmc => omega); (case hi => omega)))) | refine Jf 0 ?_); (first | (apply h_first 1; (case hi => rfl); (case hr => kernel_rfl); (case hfr => kernel_rfl); (case hsel => kernel_rfl); (case hg => rfl); (case hd => rfl); (case he => (apply ev_sub_lo; (case hx => rfl); (case hy => rfl); (case hmc => omega); (case hi => omega)))) | refine Jf 1 ?_); (first | (apply h_first 2; (case hi => rfl); (case hr => kernel_rfl); (case hfr => kernel_rfl); (case hsel => kernel_rfl); (case hg => rfl); (case hd => rfl); (case he => (apply ev_sub_lo; (case hx => rfl); (case hy => rfl); (case hmc => omega); (case hi => omega)))) | refine Jf 2 ?_); (first | (apply h_first 3; (case hi => rfl); (case hr => kernel_rfl); (case hfr => kernel_rfl); (case hsel => kernel_rfl); (case hg => rfl); (case hd => rfl); (case he => (apply ev_sub_lo; (case hx => rfl); (case hy => rfl); (case hmc => omega); (case hi => omega)))) | refine Jf 3 ?_); (first | (apply h_first 4; (case hi => rfl); (case hr => kernel_rfl); (case hfr => kernel_rfl); (case hsel => kernel_rfl); (case hg => rfl); (case hd => rfl); (case he => (apply ev_sub_lo; (case hx => rfl); (case hy => rfl); (case hmc => omega); (case hi => omega)))) | refine Jf 4 ?_); (first | (apply h_first 5; (case hi => rfl); (case hr => kernel_rfl); (case hfr => kernel_rfl); (case hsel => kernel_rfl); (case hg => rfl); (case hd => rfl); (case he => (apply ev_sub_lo; (case hx => rfl); (case hy => rfl); (case hmc => omega); (case hi => omega)))) | refine Jf 5 ?_); (apply h_one 6; (case hr => kernel_rfl)); (first | (apply n_copy_s; (case hi => rfl); (case i1 => infer_instance); (case i2 => infer_instance); (case hg => rfl); (case hd => rfl); (case hx => rfl); (case hy => rfl); (case hm => (rw [h]; split <;> omega)); (case hL => (repeat (first | exact Upd.head | apply Upd.tail | apply Upd.app))); (case hsub => (intro _; exact sbL))) | (refine X.Jn ?_; try intro _)); (apply h_end; (case hr => kernel_rfl)); (skip))
  (repeat (first | refine Jz ?_ | intro _))
  refine o_ret0 (L' := [(g, .cells (cellsOf (lset B (if N = o then 0 else o) (s.take (N - o)))).toArray 5 (0, 0))]) (.inr rfl) Tryz.results56 sbL ⟨rfl, ?_⟩
  rw [lset_off h ho]
def usedP (o : Bool) (l : Int) : Bool × Int := if l = 0 then (o, l) else (decide (l - 1 = 0), l - 1)
theorem used_con (b : Nat) (o : Bool) (l : Int) (x2 x3 x4 : Value) (S : SH) (hl : 0 ≤ l ∧ l ≤ 9223372036854775807) : Con Tryz.prog 57 #[.pointer (some ⟨b, 0, none⟩)] S [(b, .cells [.bool o, .int .i64 l, x2, x3, x4].toArray 115 (0, 0))]
    (fun S' L' r => S' = S ∧ L' = [(b, .cells [.bool (usedP o l).1, .int .i64 (usedP o l).2, x2, x3, x4].toArray 115 (0, 0))]) := by
  refine con_of (args := [.pointer (some ⟨b, 0, none⟩)]) Tryz.func57 rfl Tryz.ntmps57 rfl fun w => ?_
  by_cases c1 : l = 0
  · subst c1
    (repeat (first | refine Jz ?_ | intro _))
    exact o_ret0 (.inl rfl) Tryz.results57 sbL ⟨rfl, rfl⟩
  by_cases c2 : l - 1 = 0
  all_goals
    (repeat (first | refine Jz ?_ | intro _))
    refine o_ret0 (.inr rfl) Tryz.results57 sbL ⟨rfl, ?_⟩
    simp [usedP, c1, c2]
theorem cellsOf_zero (m : Nat) : List.replicate m (Value.int .u8 0) = cellsOf (List.replicate m (0 : UInt8)) := by simp [cellsOf_u8]
def newD (N : Nat) : Dk := ⟨false, 0, List.replicate N 0, List.replicate N 0, []⟩
theorem newD_wf {N : Nat} (h : 1 ≤ N ∧ N ≤ 4194304) : Wf N (newD N) := ⟨by simp [newD], by simp [newD], h.1, h.2, by simp [newD], by simp [newD]⟩
theorem New_con (N : Nat) (S : SH) (h : 1 ≤ N ∧ N ≤ 4194304) : Con Tryz.prog 25 #[.int .i64 N] S [] (fun S' L' r => S' = S ∧ ∃ v, OwD v (newD N) L' ∧ r = .tuple #[v, .int .i64 0]) := by
  refine con_of (args := [.int .i64 N]) Tryz.func25 rfl Tryz.ntmps25 rfl fun w => ?_
  (repeat (first | refine Jz ?_ | intro _))
  ((apply c_held ([]); (case hL => (exact sbT))); refine Jf 0 ?_; refine Jf 2 ?_; (apply h_two 1 3; (case hr => kernel_rfl)); (case k1 => ((first | (apply n_make1; (case hi => rfl); (case i1 => infer_instance); (case i2 => infer_instance); (case i3 => infer_instance); (case i4 => infer_instance); (case hg => rfl); (case hd => rfl); (case hx => rfl); (case hy => rfl); (case hzc => rfl); (case hb => omega); (case h63 => omega); intro _) | (refine X.Jn ?_; try intro _)); (apply h_one 3; (case hr => kernel_rfl)); (first | (apply n_make1; (case hi => rfl); (case i1 => infer_instance); (case i2 => infer_instance); (case i3 => infer_instance); (case i4 => infer_instance); (case hg => rfl); (case hd => rfl); (case hx => rfl); (case hy => rfl); (case hzc => rfl); (case hb => omega); (case h63 => omega); intro _) | (refine X.Jn ?_; try intro _)); refine Jf 4 ?_; (apply h_one 5; (case hr => kernel_rfl)); (first | (apply n_make1; (case hi => rfl); (case i1 => infer_instance); (case i2 => infer_instance); (case i3 => infer_instance); (case i4 => infer_instance); (case hg => rfl); (case hd => rfl); (case hx => rfl); (case hy => rfl); (case hzc => rfl); (case hb => omega); (case h63 => omega); intro _) | (refine X.Jn ?_; try intro _)); refine Jf 6 ?_; refine Jf 7 ?_; (apply h_end; (case hr => kernel_rfl)); ((repeat (first | refine Jz ?_ | intro _)); rename_i b1 b2 b3; rw [cellsOf_zero]; (first | exact o_ret2 Tryz.results25 rfl rfl (List.Sublist.refl _) ⟨rfl, _, OwD.mk' (g1 := b1) (g2 := b2) (N := N) (Ows.nil 110) (newD_wf h) ((List.Perm.swap _ _ _).cons _), rfl⟩ | exact o_ret2 Tryz.results25 rfl rfl (List.Sublist.refl _) ⟨rfl, _, OwD.mk' (g1 := b2) (g2 := b1) (N := N) (Ows.nil 110) (newD_wf h) (List.Perm.refl _), rfl⟩)))); (case k2 => ((first | (apply n_make1; (case hi => rfl); (case i1 => infer_instance); (case i2 => infer_instance); (case i3 => infer_instance); (case i4 => infer_instance); (case hg => rfl); (case hd => rfl); (case hx => rfl); (case hy => rfl); (case hzc => rfl); (case hb => omega); (case h63 => omega); intro _) | (refine X.Jn ?_; try intro _)); (apply h_one 1; (case hr => kernel_rfl)); (first | (apply n_make1; (case hi => rfl); (case i1 => infer_instance); (case i2 => infer_instance); (case i3 => infer_instance); (case i4 => infer_instance); (case hg => rfl); (case hd => rfl); (case hx => rfl); (case hy => rfl); (case hzc => rfl); (case hb => omega); (case h63 => omega); intro _) | (refine X.Jn ?_; try intro _)); refine Jf 4 ?_; (apply h_one 5; (case hr => kernel_rfl)); (first | (apply n_make1; (case hi => rfl); (case i1 => infer_instance); (case i2 => infer_instance); (case i3 => infer_instance); (case i4 => infer_instance); (case hg => rfl); (case hd => rfl); (case hx => rfl); (case hy => rfl); (case hzc => rfl); (case hb => omega); (case h63 => omega); intro _) | (refine X.Jn ?_; try intro _)); refine Jf 6 ?_; refine Jf 7 ?_; (apply h_end; (case hr => kernel_rfl)); ((repeat (first | refine Jz ?_ | intro _)); rename_i b1 b2 b3; rw [cellsOf_zero]; (first | exact o_ret2 Tryz.results25 rfl rfl (List.Sublist.refl _) ⟨rfl, _, OwD.mk' (g1 := b1) (g2 := b2) (N := N) (Ows.nil 110) (newD_wf h) ((List.Perm.swap _ _ _).cons _), rfl⟩ | exact o_ret2 Tryz.results25 rfl rfl (List.Sublist.refl _) ⟨rfl, _, OwD.mk' (g1 := b2) (g2 := b1) (N := N) (Ows.nil 110) (newD_wf h) (List.Perm.refl _), rfl⟩)))))
end Go.Proofs.YtnlfohlngapkfaaGreatDoor
namespace Go.Proofs.YtnlfohlngapkfaaGreatDoor
open Go Go.X
set_option maxRecDepth 10000
set_option linter.unusedVariables false
attribute [local irreducible] Code.wpIn wpListIn Exit.then Exit.inBlock X.Out X.Back X.W X.Ev X.Con X.BinV X.Wh X.Wn X.Wq
theorem check_v {v : Value} {D : Dk} {L : Blocks} (h : OwD v D L) {S : SH} {e : Int} (he : (if D.off then 321 else 0) = e) : Con Tryz.prog 54 #[v] S L (Kp v D S (.int .i64 e)) := he ▸ check_con h S
theorem pnil {X Y : Blocks} (h : X.Perm Y) : (X ++ []).Perm Y := by simpa using h
theorem lset_len {α : Type} {B s : List α} {o : Nat} (h : o + s.length ≤ B.length) : (lset B o s).length = B.length := lset_length B o s h
theorem settle_con (b gf gt N : Nat) (x0 x1 x2 x3 pv : Value) (Bf Bt : Bs) (l : List Wr) (ob : Blocks) (S : SH) (ho : Ows 110 pv l ob) (h1 : Bf.length = N) (h2 : Bt.length = N) :
    Con Tryz.prog 73 #[.pointer (some ⟨b, 0, none⟩), .slice (some ⟨gf, 0, none⟩) N N, .slice (some ⟨gt, 0, none⟩) N N] S ((b, .cells [x0, x1, x2, x3, pv].toArray 115 (0, 0)) :: (gf, .cells (cellsOf Bf).toArray 5 (0, 0)) :: (gt, .cells (cellsOf Bt).toArray 5 (0, 0)) :: ob)
      (fun S' L' r => S' = S ∧ ∃ pv' ob', Ows (α := Wr) 110 pv' [] ob' ∧ L' = (b, .cells [x0, x1, x2, x3, pv'].toArray 115 (0, 0)) :: (gf, .cells (cellsOf Bf).toArray 5 (0, 0)) :: (gt, .cells (cellsOf Bf).toArray 5 (0, 0)) :: ob') := by
  refine con_of (args := [.pointer (some ⟨b, 0, none⟩), .slice (some ⟨gf, 0, none⟩) N N, .slice (some ⟨gt, 0, none⟩) N N]) Tryz.func73 rfl Tryz.ntmps73 rfl fun w => ?_
  rcases ho with ⟨rfl, rfl, rfl⟩ | ⟨gp, cap, cur, rfl, rfl, q1, q2, q3, q4⟩
  · (repeat (first | refine Jc ?_ | (apply s_copy_o; (case hg => rfl); (case hd => rfl); (case hx => rfl); (case hy => rfl); (case hm2 => exact List.Mem.tail _ (List.Mem.head _)); (case h1 => exact h2); (case h2 => exact h1); (case hL => (repeat (first | exact Upd.head | apply Upd.tail | apply Upd.app)))) | (apply s_clear_nil; (case hg => rfl); (case hx => rfl)) | (apply s_evb; (case hg => rfl); (case hd => rfl); (case hn => rfl); (case he => ((apply ev_sub_hi; (case hx => rfl); (case hy => rfl); (case hmc => exact Nat.zero_le _))))) | refine Jo ?_ | intro _))
    refine o_ret0 (L' := (b, .cells [x0, x1, x2, x3, .slice none 0 0].toArray 115 (0, 0)) :: (gf, .cells (cellsOf Bf).toArray 5 (0, 0)) :: (gt, .cells (cellsOf Bf).toArray 5 (0, 0)) :: []) (.inr rfl) Tryz.results73 (List.Sublist.refl _) ⟨rfl, _, _, Ows.nil 110, rfl⟩
  · have q3' : cur.size = cap * 2 := q3
    have hcl : l.length * 2 ≤ cur.toList.length := by have e := Array.length_toList (xs := cur); omega
    (repeat (first | refine Jc ?_ | (apply s_copy_o; (case hg => rfl); (case hd => rfl); (case hx => rfl); (case hy => rfl); (case hm2 => exact List.Mem.tail _ (List.Mem.head _)); (case h1 => exact h2); (case h2 => exact h1); (case hL => (repeat (first | exact Upd.head | apply Upd.tail | apply Upd.app)))) | (apply s_clear (cs := cur.toList) (m := l.length); (case hg => rfl); (case hz1 => rfl); (case hzs => rfl); (case hx => rfl); (case hl => omega); (case hL => exact pm4); (intro vs hvs)) | (apply s_evb; (case hg => rfl); (case hd => rfl); (case hn => rfl); (case he => ((apply ev_sub_hi; (case hx => rfl); (case hy => rfl); (case hmc => exact Nat.zero_le _))))) | refine Jo ?_ | intro _))
    refine W.perm ?_ pm4.symm
    refine o_ret0 (L' := (b, .cells [x0, x1, x2, x3, .slice (some ⟨gp, 0, none⟩) 0 cap].toArray 115 (0, 0)) :: (gf, .cells (cellsOf Bf).toArray 5 (0, 0)) :: (gt, .cells (cellsOf Bf).toArray 5 (0, 0)) :: [(gp, .cells (lset cur.toList 0 vs).toArray 110 (0, 0))]) (.inr rfl) Tryz.results73 (List.Sublist.refl _) ⟨rfl, _, _, .inr ⟨gp, cap, _, rfl, rfl, Nat.zero_le _, q2, ?_, ?_⟩, rfl⟩
    · have := lset_len (B := cur.toList) (s := vs) (o := 0) (by omega)
      simp [this, q3]
    · simp [cellsOf]
def syncD (D : Dk) : Dk := if D.off then D else { D with dur := D.vis, pend := [] }
theorem pm_s {b x y : Nat × Obj} {Y : Blocks} : (b :: x :: y :: Y).Perm (b :: y :: x :: Y) := (List.Perm.swap _ _ _).cons _
theorem Sync_con {v : Value} {D : Dk} {L : Blocks} (h : OwD v D L) (S : SH) : Con Tryz.prog 50 #[v] S L (fun S' L' r => S' = S ∧ OwD v (syncD D) L' ∧ r = .int .i64 (if D.off then 321 else 0)) := by
  obtain ⟨o, l, du, vi, pe⟩ := D
  refine con_of (args := [v]) Tryz.func50 rfl Tryz.ntmps50 rfl fun w => ?_
  cases o
  rotate_left
  · (repeat (first | refine Jc ?_ | (apply s_call; (case hg => rfl); (case hd => rfl); (case ha => rfl); (case hL => exact pm_self _); (case hc => exact check_v h (e := 321) rfl); rintro _ L2 _ - ⟨rfl, hO2, rfl⟩) | refine Jo ?_ | intro _))
    exact o_ret Tryz.results50 rfl (List.Sublist.refl _) ⟨rfl, by simpa [syncD] using hO2, rfl⟩
  · (repeat (first | refine Jc ?_ | (apply s_call; (case hg => rfl); (case hd => rfl); (case ha => rfl); (case hL => exact pm_self _); (case hc => exact check_v h (e := 0) rfl); rintro _ L2 _ - ⟨rfl, hO2, rfl⟩) | refine Jo ?_ | intro _))
    obtain ⟨b, g1, g2, N, pv, ob, rfl, hp, ho, hw⟩ := hO2
    refine W.perm ?_ (pnil hp)
    have w1 := hw.dur
    have w2 := hw.vis
    unfold dkB
    simp only at w1 w2 ho
    ((apply c_held ([]); (case hL => (exact sbT))); refine Jf 0 ?_; refine Jf 1 ?_; refine Jf 2 ?_; refine Jf 3 ?_; refine Jf 5 ?_; refine Jf 6 ?_; refine Jf 7 ?_; (apply h_two 4 8; (case hr => kernel_rfl)); (case k1 => ((first | (apply n_call; (case hi => rfl); (case i1 => infer_instance); (case hg => rfl); (case hd => rfl); (case ha => rfl); (case hc => exact settle_con b g2 g1 N (.bool false) (.int .i64 l) (.slice (some ⟨g1, 0, none⟩) N N) (.slice (some ⟨g2, 0, none⟩) N N) pv vi du pe ob _ ho w2 w1); (case hL => exact (pm_s.trans (pm_self _))); (case hsub => (intro _ _; exact List.nil_sublist _)); rintro _ _ _ - ⟨rfl, pv', ob', ho', rfl⟩) | (refine X.Jn ?_; try intro _)); (apply h_one 8; (case hr => kernel_rfl)); (first | (apply n_call; (case hi => rfl); (case i1 => infer_instance); (case hg => rfl); (case hd => rfl); (case ha => rfl); (case hc => exact settle_con b g2 g1 N (.bool false) (.int .i64 l) (.slice (some ⟨g1, 0, none⟩) N N) (.slice (some ⟨g2, 0, none⟩) N N) pv vi du pe ob _ ho w2 w1); (case hL => exact (pm_s.trans (pm_self _))); (case hsub => (intro _ _; exact List.nil_sublist _)); rintro _ _ _ - ⟨rfl, pv', ob', ho', rfl⟩) | (refine X.Jn ?_; try intro _)); (apply h_one 9; (case hr => kernel_rfl)); (first | (apply n_call; (case hi => rfl); (case i1 => infer_instance); (case hg => rfl); (case hd => rfl); (case ha => rfl); (case hc => exact settle_con b g2 g1 N (.bool false) (.int .i64 l) (.slice (some ⟨g1, 0, none⟩) N N) (.slice (some ⟨g2, 0, none⟩) N N) pv vi du pe ob _ ho w2 w1); (case hL => exact (pm_s.trans (pm_self _))); (case hsub => (intro _ _; exact List.nil_sublist _)); rintro _ _ _ - ⟨rfl, pv', ob', ho', rfl⟩) | (refine X.Jn ?_; try intro _)); (apply h_end; (case hr => kernel_rfl)); ((repeat (first | refine Jz ?_ | intro _)); exact W.perm (o_ret Tryz.results50 rfl (List.Sublist.refl _) ⟨rfl, OwD.mk' (b := b) (g1 := g1) (g2 := g2) (D := ⟨false, l, vi, vi, []⟩) ho' ⟨w2, w2, hw.pos, hw.max, hw.left, by simp⟩ (List.Perm.refl _), rfl⟩) (pnil pm_s)))); (case k2 => ((first | (apply n_call; (case hi => rfl); (case i1 => infer_instance); (case hg => rfl); (case hd => rfl); (case ha => rfl); (case hc => exact settle_con b g2 g1 N (.bool false) (.int .i64 l) (.slice (some ⟨g1, 0, none⟩) N N) (.slice (some ⟨g2, 0, none⟩) N N) pv vi du pe ob _ ho w2 w1); (case hL => exact (pm_s.trans (pm_self _))); (case hsub => (intro _ _; exact List.nil_sublist _)); rintro _ _ _ - ⟨rfl, pv', ob', ho', rfl⟩) | (refine X.Jn ?_; try intro _)); (apply h_one 4; (case hr => kernel_rfl)); (first | (apply n_call; (case hi => rfl); (case i1 => infer_instance); (case hg => rfl); (case hd => rfl); (case ha => rfl); (case hc => exact settle_con b g2 g1 N (.bool false) (.int .i64 l) (.slice (some ⟨g1, 0, none⟩) N N) (.slice (some ⟨g2, 0, none⟩) N N) pv vi du pe ob _ ho w2 w1); (case hL => exact (pm_s.trans (pm_self _))); (case hsub => (intro _ _; exact List.nil_sublist _)); rintro _ _ _ - ⟨rfl, pv', ob', ho', rfl⟩) | (refine X.Jn ?_; try intro _)); (apply h_one 9; (case hr => kernel_rfl)); (first | (apply n_call; (case hi => rfl); (case i1 => infer_instance); (case hg => rfl); (case hd => rfl); (case ha => rfl); (case hc => exact settle_con b g2 g1 N (.bool false) (.int .i64 l) (.slice (some ⟨g1, 0, none⟩) N N) (.slice (some ⟨g2, 0, none⟩) N N) pv vi du pe ob _ ho w2 w1); (case hL => exact (pm_s.trans (pm_self _))); (case hsub => (intro _ _; exact List.nil_sublist _)); rintro _ _ _ - ⟨rfl, pv', ob', ho', rfl⟩) | (refine X.Jn ?_; try intro _)); (apply h_end; (case hr => kernel_rfl)); ((repeat (first | refine Jz ?_ | intro _)); exact W.perm (o_ret Tryz.results50 rfl (List.Sublist.refl _) ⟨rfl, OwD.mk' (b := b) (g1 := g1) (g2 := g2) (D := ⟨false, l, vi, vi, []⟩) ho' ⟨w2, w2, hw.pos, hw.max, hw.left, by simp⟩ (List.Perm.refl _), rfl⟩) (pnil pm_s)))))
end Go.Proofs.YtnlfohlngapkfaaGreatDoor
namespace Go.Proofs.YtnlfohlngapkfaaGreatDoor
open Go Go.X
set_option maxRecDepth 10000
set_option linter.unusedVariables false
attribute [local irreducible] Code.wpIn wpListIn Exit.then Exit.inBlock X.Out X.Back X.W X.Ev X.Con X.BinV X.Wh X.Wn X.Wq
def cutD (D : Dk) (n : Int) : Dk := if D.off = true ∨ n < 0 then D else { D with off := decide (n = 0), left := n }
def cutE (D : Dk) (n : Int) : Int := if D.off then 321 else if n < 0 then 2 else 0
end Go.Proofs.YtnlfohlngapkfaaGreatDoor
namespace Go.Proofs.YtnlfohlngapkfaaGreatDoor
open Go Go.X
set_option maxRecDepth 10000
set_option linter.unusedVariables false
attribute [local irreducible] Code.wpIn wpListIn Exit.then Exit.inBlock X.Out X.Back X.W X.Ev X.Con X.BinV X.Wh X.Wn X.Wq
theorem inside_v {v : Value} {D : Dk} {L : Blocks} (h : OwD v D L) {S : SH} {off n : Int} {b : Bool} (h1 : i64 off) (h2 : i64 n) (hb : insideB D.dur.length off n = b) : Con Tryz.prog 55 #[v, .int .i64 off, .int .i64 n] S L (Kp v D S (.bool b)) := hb ▸ inside_con h S off n h1 h2
def readV (D : Dk) (off n : Int) : Value := .tuple (if D.off then #[strV [], .int .i64 321] else if insideB D.dur.length off n then #[strV ((D.vis.drop off.toNat).take n.toNat), .int .i64 0] else #[strV [], .int .i64 320])
theorem drop_take0 {B : Bs} {N o n : Nat} (h : B.length = N) (hn : n ≤ N - o) : (B.drop (if N = o then 0 else o)).take n = (B.drop o).take n := by
  split
  · have : n = 0 := by omega
    subst this; simp
  · rfl
theorem Read_con {v : Value} {D : Dk} {L : Blocks} (h : OwD v D L) (S : SH) (off n : Int) (h1 : i64 off) (h2 : i64 n) : Con Tryz.prog 60 #[v, .int .i64 off, .int .i64 n] S L (Kp v D S (readV D off n)) := by
  cases hoff : D.off
  rotate_left
  · refine con_of (args := [v, .int .i64 off, .int .i64 n]) Tryz.func60 rfl Tryz.ntmps60 rfl fun w => ?_
    (repeat (first | refine Jc ?_ | (apply s_call; (case hg => rfl); (case hd => rfl); (case ha => rfl); (case hc => exact check_v h (e := 321) (by rw [hoff]; rfl)); (case hL => (repeat (first | exact pm_nil _ | exact pm_refl _ _ | exact pm_self _ | apply pm_cons | apply pm_app))); rintro _ L2 _ - ⟨rfl, hO2, rfl⟩) | refine Jo ?_ | intro _))
    exact o_ret2 Tryz.results60 rfl rfl (List.Sublist.refl _) ⟨rfl, by simpa using hO2, by simp [readV, hoff, strV]⟩
  cases hin : insideB D.dur.length off n
  · refine con_of (args := [v, .int .i64 off, .int .i64 n]) Tryz.func60 rfl Tryz.ntmps60 rfl fun w => ?_
    (repeat (first | refine Jc ?_ | (apply s_call; (case hg => rfl); (case hd => rfl); (case ha => rfl); (case hc => exact check_v h (e := 0) (by rw [hoff]; rfl)); (case hL => (repeat (first | exact pm_nil _ | exact pm_refl _ _ | exact pm_self _ | apply pm_cons | apply pm_app))); rintro _ L2 _ - ⟨rfl, hO2, rfl⟩) | (apply s_call; (case hg => rfl); (case hd => rfl); (case ha => rfl); (case hc => exact inside_v hO2 h1 h2 hin); (case hL => (repeat (first | exact pm_nil _ | exact pm_refl _ _ | exact pm_self _ | apply pm_cons | apply pm_app))); rintro _ L3 _ - ⟨rfl, hO3, rfl⟩) | refine Jo ?_ | intro _))
    exact o_ret2 Tryz.results60 rfl rfl (List.Sublist.refl _) ⟨rfl, by simpa using hO3, by simp [readV, hoff, hin, strV]⟩
  · have hin' := hin
    simp only [insideB, Bool.and_eq_true, decide_eq_true_eq] at hin'
    obtain ⟨⟨⟨q1, q2⟩, q3⟩, q4⟩ := hin'
    obtain ⟨o, rfl⟩ : ∃ o : Nat, off = o := ⟨off.toNat, by omega⟩
    obtain ⟨m, rfl⟩ : ∃ m : Nat, n = m := ⟨n.toNat, by omega⟩
    refine con_of (args := [v, .int .i64 o, .int .i64 m]) Tryz.func60 rfl Tryz.ntmps60 rfl fun w => ?_
    (repeat (first | refine Jc ?_ | (apply s_call; (case hg => rfl); (case hd => rfl); (case ha => rfl); (case hc => exact check_v h (e := 0) (by rw [hoff]; rfl)); (case hL => (repeat (first | exact pm_nil _ | exact pm_refl _ _ | exact pm_self _ | apply pm_cons | apply pm_app))); rintro _ L2 _ - ⟨rfl, hO2, rfl⟩) | (apply s_call; (case hg => rfl); (case hd => rfl); (case ha => rfl); (case hc => exact inside_v hO2 h1 h2 hin); (case hL => (repeat (first | exact pm_nil _ | exact pm_refl _ _ | exact pm_self _ | apply pm_cons | apply pm_app))); rintro _ L3 _ - ⟨rfl, hO3, rfl⟩) | refine Jo ?_ | intro _))
    obtain ⟨b, g1, g2, N, pv, ob, rfl, hp, ho, hw⟩ := hO3
    have w1 := hw.dur
    have w2 := hw.vis
    refine W.perm ?_ (pnil (by simpa using hp))
    unfold dkB
    (repeat (first | refine Jc ?_ | (apply s_evb; (case hg => rfl); (case hd => rfl); (case hn => rfl); (case he => ((apply ev_sub_lo; (case hx => rfl); (case hy => rfl); (case hmc => omega); (case hi => omega))))) | (apply s_evb; (case hg => rfl); (case hd => rfl); (case hn => rfl); (case he => ((apply ev_sub_hi; (case hx => rfl); (case hy => rfl); (case hmc => omega))))) | (apply s_evb; (case hg => rfl); (case hd => rfl); (case hn => rfl); (case he => ((apply ev_str_own; (case hx => rfl); (case hm => exact List.Mem.tail _ (List.Mem.tail _ (List.Mem.head _))); (case hk => (split <;> omega)))))) | refine Jo ?_ | intro _))
    refine o_ret2 Tryz.results60 rfl rfl (List.Sublist.refl _) ⟨rfl, OwD.mk' ho hw (List.Perm.refl _), ?_⟩
    rw [drop_take0 w2 (by omega)]
    simp [readV, hoff, hin]
def okW (D : Dk) (off : Int) (s : Bs) : Bool := !D.off && insideB D.dur.length off s.length
def wrD (D : Dk) (off : Int) (s : Bs) : Dk := if okW D off s then ⟨(usedP D.off D.left).1, (usedP D.off D.left).2, D.dur, lset D.vis off.toNat s, D.pend ++ [⟨off.toNat, s⟩]⟩ else D
def wrE (D : Dk) (off : Int) (s : Bs) : Int := if D.off then 321 else if insideB D.dur.length off s.length then 0 else 320
theorem Write_con {v : Value} {D : Dk} {L : Blocks} (h : OwD v D L) (S : SH) (off : Int) (s : Bs) (h1 : i64 off) (hs : s.length ≤ 9223372036854775807) (hl : D.pend.length ≤ 1000000) : Con Tryz.prog 14 #[v, .int .i64 off, strV s] S L (fun S' L' r => S' = S ∧ OwD v (wrD D off s) L' ∧ r = .int .i64 (wrE D off s)) := by
  have h2 : i64 s.length := ⟨by omega, by omega⟩
  cases hoff : D.off
  rotate_left
  · refine con_of (args := [v, .int .i64 off, strV s]) Tryz.func14 rfl Tryz.ntmps14 rfl fun w => ?_
    (repeat (first | refine Jc ?_ | (apply s_call; (case hg => rfl); (case hd => rfl); (case ha => rfl); (case hc => exact check_v h (e := 321) (by rw [hoff]; rfl)); (case hL => (repeat (first | exact pm_nil _ | exact pm_refl _ _ | exact pm_self _ | apply pm_cons | apply pm_app))); rintro _ L2 _ - ⟨rfl, hO2, rfl⟩) | refine Jo ?_ | intro _))
    exact o_ret Tryz.results14 rfl (List.Sublist.refl _) ⟨rfl, by simpa [wrD, okW, hoff] using hO2, by simp [wrE, hoff]⟩
  cases hin : insideB D.dur.length off s.length
  · refine con_of (args := [v, .int .i64 off, strV s]) Tryz.func14 rfl Tryz.ntmps14 rfl fun w => ?_
    (repeat (first | refine Jc ?_ | (apply s_call; (case hg => rfl); (case hd => rfl); (case ha => rfl); (case hc => exact check_v h (e := 0) (by rw [hoff]; rfl)); (case hL => (repeat (first | exact pm_nil _ | exact pm_refl _ _ | exact pm_self _ | apply pm_cons | apply pm_app))); rintro _ L2 _ - ⟨rfl, hO2, rfl⟩) | (apply s_evb; (case hg => rfl); (case hd => rfl); (case hn => rfl); (case he => (apply ev_len_b; rfl))) | (apply s_call; (case hg => rfl); (case hd => rfl); (case ha => rfl); (case hc => exact inside_v hO2 h1 h2 hin); (case hL => (repeat (first | exact pm_nil _ | exact pm_refl _ _ | exact pm_self _ | apply pm_cons | apply pm_app))); rintro _ L3 _ - ⟨rfl, hO3, rfl⟩) | refine Jo ?_ | intro _))
    exact o_ret Tryz.results14 rfl (List.Sublist.refl _) ⟨rfl, by simpa [wrD, okW, hoff, hin] using hO3, by simp [wrE, hoff, hin]⟩
  · have hin' := hin
    simp only [insideB, Bool.and_eq_true, decide_eq_true_eq] at hin'
    obtain ⟨⟨⟨q1, q2⟩, q3⟩, q4⟩ := hin'
    obtain ⟨o, rfl⟩ : ∃ o : Nat, off = o := ⟨off.toNat, by omega⟩
    refine con_of (args := [v, .int .i64 o, strV s]) Tryz.func14 rfl Tryz.ntmps14 rfl fun w => ?_
    (repeat (first | refine Jc ?_ | (apply s_call; (case hg => rfl); (case hd => rfl); (case ha => rfl); (case hc => exact check_v h (e := 0) (by rw [hoff]; rfl)); (case hL => (repeat (first | exact pm_nil _ | exact pm_refl _ _ | exact pm_self _ | apply pm_cons | apply pm_app))); rintro _ L2 _ - ⟨rfl, hO2, rfl⟩) | (apply s_evb; (case hg => rfl); (case hd => rfl); (case hn => rfl); (case he => (apply ev_len_b; rfl))) | (apply s_call; (case hg => rfl); (case hd => rfl); (case ha => rfl); (case hc => exact inside_v hO2 h1 h2 hin); (case hL => (repeat (first | exact pm_nil _ | exact pm_refl _ _ | exact pm_self _ | apply pm_cons | apply pm_app))); rintro S3 L3 _ - ⟨rfl, hO3, rfl⟩) | refine Jo ?_ | intro _))
    obtain ⟨b, g1, g2, N, pv, ob, rfl, hp, ho, hw⟩ := hO3
    have w1 := hw.dur
    have w2 := hw.vis
    rename_i bw
    refine W.perm ?_ ((pnil (by simpa using hp)).cons _)
    unfold dkB
    have hpl : (D.pend ++ [Wr.mk o s]).length ≤ 1000001 := by simp; omega
    refine c_meet (fun S2 L2 F2 => S2 = S3 ∧ ∃ pv' ob', Ows 110 pv' (D.pend ++ [Wr.mk o s]) ob' ∧ L2 = ob' ++ [(bw, .cells [.int .i64 (o : Nat), strV s].toArray 110 (0, 0)), (b, .cells [.bool D.off, .int .i64 D.left, .slice (some ⟨g1, 0, none⟩) N N, .slice (some ⟨g2, 0, none⟩) N N, pv'].toArray 115 (0, 0)), (g1, .cells (cellsOf D.dur).toArray 5 (0, 0)), (g2, .cells (cellsOf D.vis).toArray 5 (0, 0))] ∧ F2 = [(0, .pointer (some ⟨b, 0, none⟩)), (8, .pointer (some ⟨bw, 0, none⟩))]) ?_ ?_
    · ((apply c_held ([(bw, .cells [.int .i64 (o : Nat), strV s].toArray 110 (0, 0))]); (case hL => (exact sbT))); refine Jf 0 ?_; refine Jf 1 ?_; refine Jf 2 ?_; refine Jf 3 ?_; refine Jf 5 ?_; (apply h_two 4 6; (case hr => kernel_rfl)); (case k1 => ((first | (apply n_append (ms := [Wr.mk o s]); (case hi => rfl); (case hT => infer_instance); (case hsz => infer_instance); (case hz => infer_instance); (case hby => infer_instance); (case hg => rfl); (case hd => rfl); (case hx => rfl); (case ho => exact ho); (case hL => (repeat (first | exact pm_nil _ | exact pm_refl _ _ | exact pm_self _ | apply pm_cons | apply pm_app))); (case hy => rfl); (case hm => rfl); (case hs => (apply Src.own; (repeat (first | exact List.Mem.head _ | apply List.Mem.tail | apply List.mem_append_right)))); (case hzs => rfl); (case h0 => decide); (case hb => (simp; omega)); (case h63 => (simp; omega)); (case hsub => (intros; (exact sbT))); intro pv' ob' ho'; obtain ⟨A', c', rfl⟩ := ho'.form) | (apply n_store; (case hi => rfl); (case i1 => infer_instance); (case hg => rfl); (case hx => rfl); (case hy => rfl); (case h1 => rfl); (case hL => (repeat (first | exact Upd.head | apply Upd.tail | apply Upd.app))); (case hu => rfl); (case hsub => (intro _; (exact sbT)))) | (refine X.Jn ?_; try intro _)); (apply h_one 6; (case hr => kernel_rfl)); (first | (apply n_append (ms := [Wr.mk o s]); (case hi => rfl); (case hT => infer_instance); (case hsz => infer_instance); (case hz => infer_instance); (case hby => infer_instance); (case hg => rfl); (case hd => rfl); (case hx => rfl); (case ho => exact ho); (case hL => (repeat (first | exact pm_nil _ | exact pm_refl _ _ | exact pm_self _ | apply pm_cons | apply pm_app))); (case hy => rfl); (case hm => rfl); (case hs => (apply Src.own; (repeat (first | exact List.Mem.head _ | apply List.Mem.tail | apply List.mem_append_right)))); (case hzs => rfl); (case h0 => decide); (case hb => (simp; omega)); (case h63 => (simp; omega)); (case hsub => (intros; (exact sbT))); intro pv' ob' ho'; obtain ⟨A', c', rfl⟩ := ho'.form) | (apply n_store; (case hi => rfl); (case i1 => infer_instance); (case hg => rfl); (case hx => rfl); (case hy => rfl); (case h1 => rfl); (case hL => (repeat (first | exact Upd.head | apply Upd.tail | apply Upd.app))); (case hu => rfl); (case hsub => (intro _; (exact sbT)))) | (refine X.Jn ?_; try intro _)); (apply h_one 7; (case hr => kernel_rfl)); (first | (apply n_append (ms := [Wr.mk o s]); (case hi => rfl); (case hT => infer_instance); (case hsz => infer_instance); (case hz => infer_instance); (case hby => infer_instance); (case hg => rfl); (case hd => rfl); (case hx => rfl); (case ho => exact ho); (case hL => (repeat (first | exact pm_nil _ | exact pm_refl _ _ | exact pm_self _ | apply pm_cons | apply pm_app))); (case hy => rfl); (case hm => rfl); (case hs => (apply Src.own; (repeat (first | exact List.Mem.head _ | apply List.Mem.tail | apply List.mem_append_right)))); (case hzs => rfl); (case h0 => decide); (case hb => (simp; omega)); (case h63 => (simp; omega)); (case hsub => (intros; (exact sbT))); intro pv' ob' ho'; obtain ⟨A', c', rfl⟩ := ho'.form) | (apply n_store; (case hi => rfl); (case i1 => infer_instance); (case hg => rfl); (case hx => rfl); (case hy => rfl); (case h1 => rfl); (case hL => (repeat (first | exact Upd.head | apply Upd.tail | apply Upd.app))); (case hu => rfl); (case hsub => (intro _; (exact sbT)))) | (refine X.Jn ?_; try intro _)); refine Jf 8 ?_; refine Jf 9 ?_; (apply h_one 10; (case hr => kernel_rfl)); (first | (apply n_append (ms := [Wr.mk o s]); (case hi => rfl); (case hT => infer_instance); (case hsz => infer_instance); (case hz => infer_instance); (case hby => infer_instance); (case hg => rfl); (case hd => rfl); (case hx => rfl); (case ho => exact ho); (case hL => (repeat (first | exact pm_nil _ | exact pm_refl _ _ | exact pm_self _ | apply pm_cons | apply pm_app))); (case hy => rfl); (case hm => rfl); (case hs => (apply Src.own; (repeat (first | exact List.Mem.head _ | apply List.Mem.tail | apply List.mem_append_right)))); (case hzs => rfl); (case h0 => decide); (case hb => (simp; omega)); (case h63 => (simp; omega)); (case hsub => (intros; (exact sbT))); intro pv' ob' ho'; obtain ⟨A', c', rfl⟩ := ho'.form) | (apply n_store; (case hi => rfl); (case i1 => infer_instance); (case hg => rfl); (case hx => rfl); (case hy => rfl); (case h1 => rfl); (case hL => (repeat (first | exact Upd.head | apply Upd.tail | apply Upd.app))); (case hu => rfl); (case hsub => (intro _; (exact sbT)))) | (refine X.Jn ?_; try intro _)); (apply h_end; (case hr => kernel_rfl)); (apply q_then; exact q_cut ⟨rfl, _, ob', ho', rfl, rfl⟩ sbF sbL))); (case k2 => ((first | (apply n_append (ms := [Wr.mk o s]); (case hi => rfl); (case hT => infer_instance); (case hsz => infer_instance); (case hz => infer_instance); (case hby => infer_instance); (case hg => rfl); (case hd => rfl); (case hx => rfl); (case ho => exact ho); (case hL => (repeat (first | exact pm_nil _ | exact pm_refl _ _ | exact pm_self _ | apply pm_cons | apply pm_app))); (case hy => rfl); (case hm => rfl); (case hs => (apply Src.own; (repeat (first | exact List.Mem.head _ | apply List.Mem.tail | apply List.mem_append_right)))); (case hzs => rfl); (case h0 => decide); (case hb => (simp; omega)); (case h63 => (simp; omega)); (case hsub => (intros; (exact sbT))); intro pv' ob' ho'; obtain ⟨A', c', rfl⟩ := ho'.form) | (apply n_store; (case hi => rfl); (case i1 => infer_instance); (case hg => rfl); (case hx => rfl); (case hy => rfl); (case h1 => rfl); (case hL => (repeat (first | exact Upd.head | apply Upd.tail | apply Upd.app))); (case hu => rfl); (case hsub => (intro _; (exact sbT)))) | (refine X.Jn ?_; try intro _)); (apply h_one 4; (case hr => kernel_rfl)); (first | (apply n_append (ms := [Wr.mk o s]); (case hi => rfl); (case hT => infer_instance); (case hsz => infer_instance); (case hz => infer_instance); (case hby => infer_instance); (case hg => rfl); (case hd => rfl); (case hx => rfl); (case ho => exact ho); (case hL => (repeat (first | exact pm_nil _ | exact pm_refl _ _ | exact pm_self _ | apply pm_cons | apply pm_app))); (case hy => rfl); (case hm => rfl); (case hs => (apply Src.own; (repeat (first | exact List.Mem.head _ | apply List.Mem.tail | apply List.mem_append_right)))); (case hzs => rfl); (case h0 => decide); (case hb => (simp; omega)); (case h63 => (simp; omega)); (case hsub => (intros; (exact sbT))); intro pv' ob' ho'; obtain ⟨A', c', rfl⟩ := ho'.form) | (apply n_store; (case hi => rfl); (case i1 => infer_instance); (case hg => rfl); (case hx => rfl); (case hy => rfl); (case h1 => rfl); (case hL => (repeat (first | exact Upd.head | apply Upd.tail | apply Upd.app))); (case hu => rfl); (case hsub => (intro _; (exact sbT)))) | (refine X.Jn ?_; try intro _)); (apply h_one 7; (case hr => kernel_rfl)); (first | (apply n_append (ms := [Wr.mk o s]); (case hi => rfl); (case hT => infer_instance); (case hsz => infer_instance); (case hz => infer_instance); (case hby => infer_instance); (case hg => rfl); (case hd => rfl); (case hx => rfl); (case ho => exact ho); (case hL => (repeat (first | exact pm_nil _ | exact pm_refl _ _ | exact pm_self _ | apply pm_cons | apply pm_app))); (case hy => rfl); (case hm => rfl); (case hs => (apply Src.own; (repeat (first | exact List.Mem.head _ | apply List.Mem.tail | apply List.mem_append_right)))); (case hzs => rfl); (case h0 => decide); (case hb => (simp; omega)); (case h63 => (simp; omega)); (case hsub => (intros; (exact sbT))); intro pv' ob' ho'; obtain ⟨A', c', rfl⟩ := ho'.form) | (apply n_store; (case hi => rfl); (case i1 => infer_instance); (case hg => rfl); (case hx => rfl); (case hy => rfl); (case h1 => rfl); (case hL => (repeat (first | exact Upd.head | apply Upd.tail | apply Upd.app))); (case hu => rfl); (case hsub => (intro _; (exact sbT)))) | (refine X.Jn ?_; try intro _)); refine Jf 8 ?_; refine Jf 9 ?_; (apply h_one 10; (case hr => kernel_rfl)); (first | (apply n_append (ms := [Wr.mk o s]); (case hi => rfl); (case hT => infer_instance); (case hsz => infer_instance); (case hz => infer_instance); (case hby => infer_instance); (case hg => rfl); (case hd => rfl); (case hx => rfl); (case ho => exact ho); (case hL => (repeat (first | exact pm_nil _ | exact pm_refl _ _ | exact pm_self _ | apply pm_cons | apply pm_app))); (case hy => rfl); (case hm => rfl); (case hs => (apply Src.own; (repeat (first | exact List.Mem.head _ | apply List.Mem.tail | apply List.mem_append_right)))); (case hzs => rfl); (case h0 => decide); (case hb => (simp; omega)); (case h63 => (simp; omega)); (case hsub => (intros; (exact sbT))); intro pv' ob' ho'; obtain ⟨A', c', rfl⟩ := ho'.form) | (apply n_store; (case hi => rfl); (case i1 => infer_instance); (case hg => rfl); (case hx => rfl); (case hy => rfl); (case h1 => rfl); (case hL => (repeat (first | exact Upd.head | apply Upd.tail | apply Upd.app))); (case hu => rfl); (case hsub => (intro _; (exact sbT)))) | (refine X.Jn ?_; try intro _)); (apply h_end; (case hr => kernel_rfl)); (apply q_then; exact q_cut ⟨rfl, _, ob', ho', rfl, rfl⟩ sbF sbL))))
    rintro S2 L2 F2 ⟨rfl, pv', ob', ho', rfl, rfl⟩
    refine W.perm ?_ List.perm_append_comm
    (repeat (first | refine Jz ?_ | intro _))
    ((apply c_held ([(bw, .cells [.int .i64 (o : Nat), strV s].toArray 110 (0, 0)), (b, .cells [.bool D.off, .int .i64 D.left, .slice (some ⟨g1, 0, none⟩) N N, .slice (some ⟨g2, 0, none⟩) N N, pv'].toArray 115 (0, 0))]); (case hL => (exact sbT))); refine Jf 0 ?_; refine Jf 1 ?_; refine Jf 2 ?_; refine Jf 3 ?_; refine Jf 4 ?_; (apply h_one 5; (case hr => kernel_rfl)); (first | (apply n_call; (case hi => rfl); (case i1 => infer_instance); (case hg => rfl); (case hd => rfl); (case ha => rfl); (case hc => exact onto_con g2 N o D.vis s _ w2 (by omega)); (case hL => exact pm4); (case hsub => (intro _ _; exact (List.Sublist.trans sbL (List.sublist_append_right _ _)))); rintro _ _ _ - ⟨rfl, rfl⟩) | (refine X.Jn ?_; try intro _)); (apply h_end; (case hr => kernel_rfl)); (skip))
    (repeat (first | refine Jc ?_ | (apply s_call; (case hg => rfl); (case hd => rfl); (case ha => rfl); (case hL => exact pm3); (case hc => exact used_con b D.off D.left (.slice (some ⟨g1, 0, none⟩) N N) (.slice (some ⟨g2, 0, none⟩) N N) pv' _ hw.left); rintro _ _ _ - ⟨rfl, rfl⟩) | refine Jo ?_ | intro _))
    have e1 : wrD D o s = ⟨(usedP D.off D.left).1, (usedP D.off D.left).2, D.dur, lset D.vis o s, D.pend ++ [⟨o, s⟩]⟩ := by simp [wrD, okW, hoff, hin]
    have e2 : wrE D o s = 0 := by simp [wrE, hoff, hin]
    rw [e1, e2]
    refine o_ret (L' := (b, _) :: (g2, _) :: (g1, _) :: ob') Tryz.results14 rfl ((((List.Sublist.refl _).cons_cons _).cons _).cons_cons _ |>.cons_cons _) ⟨rfl, OwD.mk' (b := b) (g1 := g1) (g2 := g2) (ob := ob') (N := N) ho' ⟨w1, ?_, hw.pos, hw.max, ?_, ?_⟩ pm_s, rfl⟩
    · simp only; rw [lset_len (by omega), w2]
    · have := hw.left
      simp only [usedP]
      split <;> simp only <;> omega
    · intro x hx
      simp only [List.mem_append, List.mem_singleton] at hx
      rcases hx with hx | rfl
      · exact hw.fit x hx
      · simp only; omega
end Go.Proofs.YtnlfohlngapkfaaGreatDoor
