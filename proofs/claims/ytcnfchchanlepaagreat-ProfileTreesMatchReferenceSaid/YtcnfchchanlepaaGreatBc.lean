/- Contracts of functions of this program, each proved by a walk through its code, and plain lemmas on what they compute; on no condition beyond those that each theorem states. -/
import Derived.Test.YtcnfchchanlepaaGreatBb
import Derived.Test.YtcnfchchanlepaaGreatXA
namespace Go.Proofs.YtcnfchchanlepaaGreat
open Go Go.X
def ReadR (ns : List Nd) (r : Value) (L' : Blocks) : Prop :=
  readF ns = none ∧ r = .tuple #[.slice none 0 0, .bool false] ∧ L' = [] ∨ ∃ ps rs v, readF ns = some (ps, rs) ∧ RdSt ns.length ps rs ∧ r = .tuple #[v, .bool (!rs.any fun x => x != 0)] ∧ Ows 87 v (ps.map p12) L'
theorem cellsI (l : List Int) : cellsOf l = l.map (Value.int .i64) := by
  induction l with
  | nil => rfl
  | cons x l ih => rw [cellsOf_cons, ih]; rfl
theorem cellsI_at {l : List Int} {j : Nat} {x : Int} (h : l[j]? = some x) (tl : List Value) : (cellsOf l ++ tl)[j]? = some (.int .i64 x) := by
  rw [cellsI, List.getElem?_append_left (by rw [List.length_map]; exact (List.getElem?_eq_some_iff.1 h).1), List.getElem?_map, h]; rfl
theorem cellsI_set {l : List Int} {j : Nat} (h : j < l.length) (x : Int) (tl : List Value) : (cellsOf l ++ tl).set j (.int .i64 x) = cellsOf (l.set j x) ++ tl := by
  rw [cellsI, cellsI, List.set_append_left _ _ (by rw [List.length_map]; exact h), List.map_set]
theorem cellsP_at {ps : List (List Bs)} {j : Nat} {p : List Bs} (h : ps[j]? = some p) (hp : p.length ≤ 12) (tl : List Value) : ∀ i u, ((pad p).map strV)[i]? = some u → (cellsOf (ps.map p12) ++ tl)[j * 12 + i]? = some u := fun i u hi => by
  have h1 : (ps.map p12)[j]? = some (p12 p) := by rw [List.getElem?_map, h]; rfl
  have h2 := cellsOf_at (ps.map p12) j (p12 p) h1 i u (by rw [p12_cells hp]; exact hi)
  have h3 : (cellsOf (ps.map p12))[j * 12 + i]? = some u := h2
  rw [List.getElem?_append_left (List.getElem?_eq_some_iff.1 h3).1]
  exact h3
theorem toS_cells (p : List Bs) : cellsOf (toS p) = p.map strV := by
  induction p with
  | nil => rfl
  | cons x p ih => simp only [toS, List.map_cons] at ih ⊢; rw [cellsOf_cons, ih]; rfl
theorem toS_At {S : SH} {b : Nat} {p : List Bs} (h : Pts S ⟨b, 0, none⟩ (p.map strV)) : At S (some ⟨b, 0, none⟩) (toS p) := fun _ => ⟨_, rfl, by rw [toS_cells]; exact h⟩
theorem p12_flat {q : List Bs} (h : q.length ≤ 12) : ([Value.agg ((pad q).map strV).toArray] : List Value).flatMap (fun x => x.cells.toList) = cellsOf [p12 q] := by
  show ((pad q).map strV) ++ [] = Cl.cells (p12 q) ++ []
  rw [p12_cells h]
theorem rev3 (a b c : Nat × Obj) : [a, b, c].Perm [c, b, a] := (List.reverse_perm [a, b, c]).symm
theorem rdOk_f {k : Nat} {n : Nd} {ps : List (List Bs)} {rs : List Int} (h : rdOk k n = false) : rdNext k n ps rs = none := by unfold rdNext; rw [if_pos h]
theorem rdAll_at {ns : List Nd} {k : Nat} {n : Nd} (h : ns[k]? = some n) (ps : List (List Bs)) (rs : List Int) : rdAll (ns.drop k) k ps rs = (rdNext k n ps rs).bind fun st => rdAll (ns.drop (k + 1)) (k + 1) st.1 st.2 := by
  obtain ⟨h1, rfl⟩ := List.getElem?_eq_some_iff.1 h
  rw [List.drop_eq_getElem_cons h1]; rfl
set_option maxRecDepth 10000
set_option linter.unusedVariables false
attribute [local irreducible] Code.wpIn wpListIn Exit.then Exit.inBlock X.Out X.Back X.W X.Ev X.Con X.BinV X.Wh X.Wn X.Wq
theorem nz_con (x : Int) (S : SH) : Con Tryz.prog 57 #[.int .i64 x] S [] (X.Pure S (.bool (x != 0))) := by
  refine con_of (args := [.int .i64 x]) Tryz.func57 rfl Tryz.ntmps57 rfl fun w => ?_
  by_cases h : x = 0
  · (repeat (first | refine Jz ?_ | intro _))
    exact o_ret Tryz.results57 rfl (List.nil_sublist _) ⟨rfl, rfl, by simp [h]⟩
  · (repeat (first | refine Jz ?_ | intro _))
    exact o_ret Tryz.results57 rfl (List.nil_sublist _) ⟨rfl, rfl, by simp [h]⟩
set_option maxHeartbeats 6400000 in
theorem read_con (ns : List Nd) (A : Option Addr) (c : Nat) (S : SH) (hA : At S A ns) (hl : ns.length ≤ 1000000) :
    Con Tryz.prog 27 #[.agg #[.slice A ns.length c]] S [] (fun _ L' r => ReadR ns r L') := by
  refine con_of (args := [.agg #[.slice A ns.length c]]) Tryz.func27 rfl Tryz.ntmps27 rfl fun w => ?_
  by_cases h0 : ns.length = 0
  · (repeat (first | refine Jz ?_ | intro _))
    exact o_ret2 (L' := []) Tryz.results27 rfl rfl (List.nil_sublist _) (.inl ⟨if_neg (fun h => by have := h.1; have := h.2.1; omega), rfl, rfl⟩)
  by_cases h2 : 2000 < ns.length
  · (repeat (first | refine Jz ?_ | intro _))
    exact o_ret2 (L' := []) Tryz.results27 rfl rfl (List.nil_sublist _) (.inl ⟨if_neg (fun h => by have := h.1; have := h.2.1; omega), rfl, rfl⟩)
  obtain ⟨n0, hx0⟩ := at_lt (l := ns) (k := 0) (by omega)
  have hg0 : ns.getD 0 ⟨0, [], 0, 0⟩ = n0 := by rw [List.getD_eq_getElem?_getD, hx0]; rfl
  by_cases h3 : n0.parent = -1
  rotate_left
  · (repeat (first | refine Jc ?_ | (apply s_idx hA; (case hg => rfl); (case hd => rfl); (case hx => rfl); (case hi => rfl); (case hm => rfl); (case hu => exact hx0); intro q (hq : Pts _ q [.int .i64 n0.parent, strV n0.name, .int .i64 n0.own, .int .i64 n0.total])) | (apply s_load_f; (case hg => rfl); (case hd => rfl); (case hx => rfl); (case h => exact hq); (case hv => rfl)) | refine Jo ?_ | intro _))
    exact o_ret2 (L' := []) Tryz.results27 rfl rfl (List.nil_sublist _) (.inl ⟨if_neg (fun h => h3 (by rw [← hg0]; exact h.2.2.1)), rfl, rfl⟩)
  cases h4 : n0.name != []
  rotate_left
  · (repeat (first | refine Jc ?_ | (apply s_idx hA; (case hg => rfl); (case hd => rfl); (case hx => rfl); (case hi => rfl); (case hm => rfl); (case hu => exact hx0); intro q (hq : Pts _ q [.int .i64 n0.parent, strV n0.name, .int .i64 n0.own, .int .i64 n0.total])) | (apply s_load_f; (case hg => rfl); (case hd => rfl); (case hx => rfl); (case h => exact hq); (case hv => rfl)) | (apply s_evb; (case hg => rfl); (case hd => rfl); (case hn => rfl); (case he => ((apply ev_neq_bv (r := true) (b := []); (case hx => rfl); (case hy => rfl); (case h => exact h4))))) | refine Jo ?_ | intro _))
    exact o_ret2 (L' := []) Tryz.results27 rfl rfl (List.nil_sublist _) (.inl ⟨if_neg (fun h => by have h5 := h.2.2.2; rw [hg0] at h5; rw [h5] at h4; exact absurd h4 (by decide)), rfl, rfl⟩)
  have htop : rdTop ns := ⟨by omega, by omega, by rw [hg0]; exact h3, by rw [hg0]; simpa using h4⟩
  (repeat (first | refine Jc ?_ | (apply s_idx hA; (case hg => rfl); (case hd => rfl); (case hx => rfl); (case hi => rfl); (case hm => rfl); (case hu => exact hx0); intro q (hq : Pts _ q [.int .i64 n0.parent, strV n0.name, .int .i64 n0.own, .int .i64 n0.total])) | (apply s_load_f; (case hg => rfl); (case hd => rfl); (case hx => rfl); (case h => exact hq); (case hv => rfl)) | (apply s_evb; (case hg => rfl); (case hd => rfl); (case hn => rfl); (case he => ((apply ev_neq_bv (r := false) (b := []); (case hx => rfl); (case hy => rfl); (case h => exact h4))))) | refine Jo ?_ | intro _))
  rename_i b1 _ _ bp0 br0
  refine W.perm (L' := (b1, .cells [.slice A ns.length c].toArray 24 (0, 0)) :: ([(bp0, .cells (cellsOf ([[]].map p12)).toArray 87 (0, 0))] ++ [(br0, .cells (cellsOf ([] : List Int)).toArray 3 (0, 0))])) ?_ (rev3 _ _ _)
  refine c_loop (fun m S' L F => Le S S' ∧ ∃ (k : Nat) (ps : List (List Bs)) (rs : List Int) (v4 v5 : Value) (ob1 ob2 : Blocks), m = ns.length - k ∧ k ≤ ns.length ∧ rdAll (ns.drop k) k ps rs = readF ns ∧ RdSt k ps rs ∧ Ows 87 v4 (ps.map p12) ob1 ∧ Ows 3 v5 rs ob2 ∧
      L = (b1, .cells [.slice A ns.length c].toArray 24 (0, 0)) :: (ob1 ++ ob2) ∧
      F = [(4, v4), (5, v5), (41, .slice A ns.length c), (42, .int .i64 ns.length), (43, .int .i64 k)]) ⟨Le.refl _, 0, [[]], [], _, _, _, _, rfl, by omega, (if_pos htop).symm, ⟨rfl, rfl, fun p hp => by simp at hp; subst hp; exact VQ.nil, fun r hr => absurd hr List.not_mem_nil⟩, Ows.full (l := [[]].map p12) rfl (by decide), Ows.full (l := ([] : List Int)) rfl (by decide), rfl, rfl⟩ sbF (List.Sublist.refl _) ?_
  rintro m S' L F ⟨hle, k, ps, rs, v4, v5, ob1, ob2, rfl, hk, hrd, hst, ho1, ho2, rfl, rfl⟩
  have hA1 := hA.le hle
  by_cases hlt : k < ns.length
  rotate_left
  · obtain rfl : k = ns.length := by omega
    have hfin : readF ns = some (ps, rs) := by rw [← hrd, List.drop_length]; rfl
    have hlr2 := hst.lr
    refine W.freezeOws (L1 := (b1, .cells [.slice A ns.length c].toArray 24 (0, 0)) :: ob1) ho2 (pmc (fun p => by (repeat (first | rw [List.countP_append] | rw [List.countP_cons] | rw [List.countP_nil])); (all_goals (first | rfl | omega)))) fun S5 hle5 hs5 => ?_
    obtain ⟨A5, c5, rfl, hc5, hA5⟩ := hs5
    obtain ⟨A4, c4, rfl⟩ := ho1.form
    (repeat (first | refine Jc ?_ | (apply z_call; rfl; rfl; rfl; exact anyI_con [] (fun x => x != 0) rs A5 c5 _ hA5 (by omega) (fun x _ => nz_con x _); rintro _ _ _ - ⟨rfl, rfl, rfl⟩) | refine Jo ?_ | intro _))
    exact o_ret2 (L' := ob1) Tryz.results27 rfl rfl sbL (.inr ⟨ps, rs, _, hfin, hst, rfl, ho1⟩)
  obtain ⟨n, hx⟩ := at_lt hlt
  rw [rdAll_at hx] at hrd
  have hfail : rdNext k n ps rs = none → readF ns = none := fun h => by rw [← hrd, h]; rfl
  obtain ⟨np, nn, no, nt⟩ := n
  have hmin : (if (1 : Int) < (k : Int) then 1 else (k : Int)) = if k = 0 then 0 else 1 := by split <;> split <;> omega
  cases e1 : inB no 0 1125899906842624
  · have hno := hfail (rdOk_f (by unfold rdOk; rw [e1]; rfl))
    (repeat (first | refine Jc ?_ | (apply s_idx hA1; (case hg => rfl); (case hd => rfl); (case hx => rfl); (case hi => rfl); (case hm => rfl); (case hu => exact hx); intro q (hq : Pts _ q [.int .i64 np, strV nn, .int .i64 no, .int .i64 nt])) | (apply s_load_ag; (case hg => rfl); (case hd => rfl); (case hx => rfl); (case hv => exact hq); (case hl => rfl)) | (apply z_call; rfl; rfl; rfl; exact isIn_t _ e1; rintro _ _ _ - ⟨rfl, rfl, rfl⟩) | refine Jo ?_ | intro _))
    exact o_ret2 (L' := []) Tryz.results27 rfl rfl (List.nil_sublist _) (.inl ⟨hno, rfl, rfl⟩)
  cases e2 : inB nt (if (1 : Int) < (k : Int) then 1 else (k : Int)) 1125899906842624
  · have hno := hfail (rdOk_f (by unfold rdOk; rw [← hmin, e2]; simp))
    (repeat (first | refine Jc ?_ | (apply s_idx hA1; (case hg => rfl); (case hd => rfl); (case hx => rfl); (case hi => rfl); (case hm => rfl); (case hu => exact hx); intro q (hq : Pts _ q [.int .i64 np, strV nn, .int .i64 no, .int .i64 nt])) | (apply s_load_ag; (case hg => rfl); (case hd => rfl); (case hx => rfl); (case hv => exact hq); (case hl => rfl)) | (apply z_call; rfl; rfl; rfl; exact isIn_t _ e1; rintro _ _ _ - ⟨rfl, rfl, rfl⟩) | (apply z_call; rfl; rfl; rfl; exact isIn_t _ e2; rintro _ _ _ - ⟨rfl, rfl, rfl⟩) | refine Jo ?_ | intro _))
    exact o_ret2 (L' := []) Tryz.results27 rfl rfl (List.nil_sublist _) (.inl ⟨hno, rfl, rfl⟩)
  by_cases e3 : no ≤ nt
  rotate_left
  · have hno := hfail (rdOk_f (by unfold rdOk; rw [decide_eq_false e3]; simp))
    (repeat (first | refine Jc ?_ | (apply s_idx hA1; (case hg => rfl); (case hd => rfl); (case hx => rfl); (case hi => rfl); (case hm => rfl); (case hu => exact hx); intro q (hq : Pts _ q [.int .i64 np, strV nn, .int .i64 no, .int .i64 nt])) | (apply s_load_ag; (case hg => rfl); (case hd => rfl); (case hx => rfl); (case hv => exact hq); (case hl => rfl)) | (apply z_call; rfl; rfl; rfl; exact isIn_t _ e1; rintro _ _ _ - ⟨rfl, rfl, rfl⟩) | (apply z_call; rfl; rfl; rfl; exact isIn_t _ e2; rintro _ _ _ - ⟨rfl, rfl, rfl⟩) | refine Jo ?_ | intro _))
    exact o_ret2 (L' := []) Tryz.results27 rfl rfl (List.nil_sublist _) (.inl ⟨hno, rfl, rfl⟩)
  have hok : rdOk k ⟨np, nn, no, nt⟩ = true := by unfold rdOk; simp only; rw [e1, ← hmin, e2, decide_eq_true e3]; rfl
  have o1 : 0 ≤ no ∧ no ≤ 1125899906842624 := by unfold inB at e1; simpa using e1
  have o2 : nt ≤ 1125899906842624 := by unfold inB at e2; simp only [decide_eq_true_eq] at e2; exact e2.2
  have hlr := hst.lr
  have hlp := hst.lp
  by_cases hk0 : k = 0
  · subst hk0
    (repeat (first | refine Jc ?_ | (apply s_idx hA1; (case hg => rfl); (case hd => rfl); (case hx => rfl); (case hi => rfl); (case hm => rfl); (case hu => exact hx); intro q (hq : Pts _ q [.int .i64 np, strV nn, .int .i64 no, .int .i64 nt])) | (apply s_load_ag; (case hg => rfl); (case hd => rfl); (case hx => rfl); (case hv => exact hq); (case hl => rfl)) | (apply z_call; rfl; rfl; rfl; exact isIn_t _ e1; rintro _ _ _ - ⟨rfl, rfl, rfl⟩) | (apply z_call; rfl; rfl; rfl; exact isIn_t _ e2; rintro _ _ _ - ⟨rfl, rfl, rfl⟩) | (apply s_append (ms := [nt - no]); (case hg => rfl); (case hd => rfl); (case hx => rfl); (case ho => exact ho2); (case hL => (repeat (first | exact pm_nil _ | exact pm_refl _ _ | exact pm_self _ | apply pm_cons | apply pm_app))); (case hy => rfl); (case hm => rfl); (case hs => (apply Src.own; (repeat (first | exact List.Mem.head _ | apply List.Mem.tail | apply List.mem_append_right)))); (case hzs => rfl); (case h0 => decide); (case hb => (simp; omega)); (case h63 => (simp; omega)); intro v6 ob6 ho6) | refine Jo ?_ | intro _))
    rename_i b7 bl
    have hn : rdNext 0 ⟨np, nn, no, nt⟩ ps rs = some (ps, rs ++ [nt - no]) := by
      unfold rdNext; rw [if_neg (by rw [hok]; exact Bool.noConfusion), if_pos rfl]
    rw [hn] at hrd
    refine W.perm (L' := (b1, .cells [.slice A ns.length c].toArray 24 (0, 0)) :: (ob1 ++ (ob6 ++ [(bl, .cells (([Value.int .i64 (nt - no)] : List Value).flatMap (fun x => x.cells.toList)).toArray 3 (0, 0)), (b7, .cells [.int .i64 np, strV nn, .int .i64 no, .int .i64 nt].toArray 51 (0, 0))]))) ?_ (pmc (fun p => by (repeat (first | rw [List.countP_append] | rw [List.countP_cons] | rw [List.countP_nil])); (all_goals (first | rfl | omega))))
    exact q_back (L' := (b1, .cells [.slice A ns.length c].toArray 24 (0, 0)) :: (ob1 ++ ob6)) (m' := ns.length - (0 + 1)) ⟨hle, 0 + 1, ps, rs ++ [nt - no], v4, v6, ob1, ob6, rfl, by omega, hrd, rdNext_st hst hn, ho1, ho6, rfl, rfl⟩ (by omega) sbF sbL
  (repeat (first | refine Jc ?_ | (apply s_idx hA1; (case hg => rfl); (case hd => rfl); (case hx => rfl); (case hi => rfl); (case hm => rfl); (case hu => exact hx); intro q (hq : Pts _ q [.int .i64 np, strV nn, .int .i64 no, .int .i64 nt])) | (apply s_load_ag; (case hg => rfl); (case hd => rfl); (case hx => rfl); (case hv => exact hq); (case hl => rfl)) | (apply z_call; rfl; rfl; rfl; exact isIn_t _ e1; rintro _ _ _ - ⟨rfl, rfl, rfl⟩) | (apply z_call; rfl; rfl; rfl; exact isIn_t _ e2; rintro _ _ _ - ⟨rfl, rfl, rfl⟩) | (apply s_append (ms := [nt - no]); (case hg => rfl); (case hd => rfl); (case hx => rfl); (case ho => exact ho2); (case hL => (repeat (first | exact pm_nil _ | exact pm_refl _ _ | exact pm_self _ | apply pm_cons | apply pm_app))); (case hy => rfl); (case hm => rfl); (case hs => (apply Src.own; (repeat (first | exact List.Mem.head _ | apply List.Mem.tail | apply List.mem_append_right)))); (case hzs => rfl); (case h0 => decide); (case hb => (simp; omega)); (case h63 => (simp; omega)); intro v6 ob6 ho6) | refine Jo ?_ | intro _))
  rename_i b7 bl
  have hk1 : 1 ≤ k := by omega
  obtain ⟨g2, cap2, tl2, rfl, rfl, u1, u2, u3⟩ := ho6.rowed (by simp)
  by_cases hp0 : np < 0
  · have hno := hfail (by unfold rdNext; rw [if_neg (by rw [hok]; exact Bool.noConfusion), if_neg hk0, if_pos (.inl hp0)])
    ((apply c_held ([(b7, .cells [.int .i64 np, strV nn, .int .i64 no, .int .i64 nt].toArray 51 (0, 0))]); (case hL => (exact sbT))); refine Jf 0 ?_; refine Jf 1 ?_; refine Jf 2 ?_; refine Jf 3 ?_; refine Jf 4 ?_; refine Jf 5 ?_; refine Jf 6 ?_; refine Jf 7 ?_; refine Jf 8 ?_; refine Jf 9 ?_; refine Jf 10 ?_; refine Jf 11 ?_; refine Jf 12 ?_; refine Jf 13 ?_; refine Jf 14 ?_; refine Jf 15 ?_; (apply h_one 16; (case hr => kernel_rfl)); (refine X.Jn ?_; try intro _); refine Jf 17 ?_; refine Jf 18 ?_; refine Jf 19 ?_; refine Jf 20 ?_; refine Jf 21 ?_; refine Jf 22 ?_; refine Jf 23 ?_; refine Jf 24 ?_; refine Jf 25 ?_; refine Jf 26 ?_; refine Jf 27 ?_; refine Jf 28 ?_; refine Jf 29 ?_; (apply h_end; (case hr => kernel_rfl)))
    (repeat (first | refine Jz ?_ | intro _))
    exact o_ret2 (L' := []) Tryz.results27 rfl rfl (List.nil_sublist _) (.inl ⟨hno, rfl, rfl⟩)
  obtain ⟨j, rfl⟩ : ∃ j : Nat, np = (j : Int) := ⟨np.toNat, by omega⟩
  by_cases hpk : (k : Int) ≤ (j : Int)
  · have hno := hfail (by unfold rdNext; rw [if_neg (by rw [hok]; exact Bool.noConfusion), if_neg hk0, if_pos (.inr hpk)])
    ((apply c_held ([(b7, .cells [.int .i64 (j : Int), strV nn, .int .i64 no, .int .i64 nt].toArray 51 (0, 0))]); (case hL => (exact sbT))); refine Jf 0 ?_; refine Jf 1 ?_; refine Jf 2 ?_; refine Jf 3 ?_; refine Jf 4 ?_; refine Jf 5 ?_; refine Jf 6 ?_; refine Jf 7 ?_; refine Jf 8 ?_; refine Jf 9 ?_; refine Jf 10 ?_; refine Jf 11 ?_; refine Jf 12 ?_; refine Jf 13 ?_; refine Jf 14 ?_; refine Jf 15 ?_; (apply h_one 16; (case hr => kernel_rfl)); (refine X.Jn ?_; try intro _); refine Jf 17 ?_; refine Jf 18 ?_; refine Jf 19 ?_; refine Jf 20 ?_; refine Jf 21 ?_; refine Jf 22 ?_; refine Jf 23 ?_; refine Jf 24 ?_; refine Jf 25 ?_; refine Jf 26 ?_; refine Jf 27 ?_; refine Jf 28 ?_; refine Jf 29 ?_; (apply h_end; (case hr => kernel_rfl)))
    (repeat (first | refine Jz ?_ | intro _))
    exact o_ret2 (L' := []) Tryz.results27 rfl rfl (List.nil_sublist _) (.inl ⟨hno, rfl, rfl⟩)
  have hnm := fun S => isName_con nn S
  by_cases hnn : nn ≠ [63] ∧ nameB nn = false
  · have hno := hfail (by unfold rdNext; rw [if_neg (by rw [hok]; exact Bool.noConfusion), if_neg hk0, if_neg (by simp only; omega), if_pos hnn])
    rw [hnn.2] at hnm
    have hne : (nn != [63]) = true := by simpa using hnn.1
    ((apply c_held ([(b7, .cells [.int .i64 (j : Int), strV nn, .int .i64 no, .int .i64 nt].toArray 51 (0, 0))]); (case hL => (exact sbT))); refine Jf 0 ?_; refine Jf 1 ?_; refine Jf 2 ?_; refine Jf 3 ?_; refine Jf 4 ?_; refine Jf 5 ?_; refine Jf 6 ?_; refine Jf 7 ?_; refine Jf 8 ?_; refine Jf 9 ?_; refine Jf 10 ?_; refine Jf 11 ?_; (apply h_first 12; (case hi => rfl); (case hr => kernel_rfl); (case hfr => kernel_rfl); (case hsel => kernel_rfl); (case hg => rfl); (case hd => rfl); (case he => (apply ev_neq_bv (r := true) (b := [63]); (case hx => rfl); (case hy => rfl); (case h => exact hne)))); refine Jf 13 ?_; refine Jf 14 ?_; refine Jf 15 ?_; (apply h_one 16; (case hr => kernel_rfl)); (apply n_call; (case hi => rfl); (case i1 => infer_instance); (case hg => rfl); (case hd => rfl); (case ha => rfl); (case hc => exact hnm _); (case hL => (repeat (first | exact pm_nil _ | exact pm_refl _ _ | exact pm_self _ | apply pm_cons | apply pm_app))); (case hsub => (intros; (exact sbT))); rintro S6 _ _ hle6 ⟨rfl, rfl⟩); refine Jf 17 ?_; refine Jf 18 ?_; refine Jf 19 ?_; refine Jf 20 ?_; refine Jf 21 ?_; refine Jf 22 ?_; refine Jf 23 ?_; refine Jf 24 ?_; refine Jf 25 ?_; refine Jf 26 ?_; refine Jf 27 ?_; refine Jf 28 ?_; refine Jf 29 ?_; (apply h_end; (case hr => kernel_rfl)))
    (repeat (first | refine Jz ?_ | intro _))
    exact o_ret2 (L' := []) Tryz.results27 rfl rfl (List.nil_sublist _) (.inl ⟨hno, rfl, rfl⟩)
  obtain ⟨rj, hrj⟩ : ∃ rj, (rs ++ [nt - no])[j]? = some rj := at_lt (by simp; omega)
  have hrc : (cellsOf (rs ++ [nt - no]) ++ tl2)[j]? = some (.int .i64 rj) := cellsI_at hrj _
  have hjlt : j < (rs ++ [nt - no]).length := by simp; omega
  refine c_meet (fun S2 L F => Le S' S2 ∧ L = (g2, .cells (cellsOf (rs ++ [nt - no]) ++ tl2).toArray 3 (0, 0)) :: (b7, .cells [.int .i64 (j : Int), strV nn, .int .i64 no, .int .i64 nt].toArray 51 (0, 0)) :: (b1, .cells [.slice A ns.length c].toArray 24 (0, 0)) :: ob1 ∧
      F = [(4, v4), (5, .slice (some ⟨g2, 0, none⟩) (rs ++ [nt - no]).length cap2), (6, .int .i64 k), (7, .pointer (some ⟨b7, 0, none⟩)), (41, .slice A ns.length c), (42, .int .i64 ns.length), (43, .int .i64 k), (106, .bool (decide (rj < nt)))]) ?_ ?_
  · by_cases hn63 : nn = [63]
    · have hne : (nn != [63]) = false := by simpa using hn63
      ((apply c_held ([(g2, .cells (cellsOf (rs ++ [nt - no]) ++ tl2).toArray 3 (0, 0)), (b7, .cells [.int .i64 (j : Int), strV nn, .int .i64 no, .int .i64 nt].toArray 51 (0, 0))]); (case hL => (exact sbT))); refine Jf 0 ?_; refine Jf 1 ?_; refine Jf 2 ?_; refine Jf 3 ?_; refine Jf 4 ?_; refine Jf 5 ?_; refine Jf 6 ?_; refine Jf 7 ?_; refine Jf 8 ?_; refine Jf 9 ?_; refine Jf 10 ?_; refine Jf 11 ?_; (apply h_first 12; (case hi => rfl); (case hr => kernel_rfl); (case hfr => kernel_rfl); (case hsel => kernel_rfl); (case hg => rfl); (case hd => rfl); (case he => (apply ev_neq_bv (r := false) (b := [63]); (case hx => rfl); (case hy => rfl); (case h => exact hne)))); refine Jf 13 ?_; refine Jf 14 ?_; refine Jf 15 ?_; (apply h_one 16; (case hr => kernel_rfl)); (refine X.Jn ?_; try intro _); refine Jf 17 ?_; refine Jf 18 ?_; refine Jf 19 ?_; refine Jf 20 ?_; refine Jf 21 ?_; refine Jf 22 ?_; refine Jf 23 ?_; refine Jf 24 ?_; refine Jf 25 ?_; (apply h_first 26; (case hi => rfl); (case hr => kernel_rfl); (case hfr => kernel_rfl); (case hsel => kernel_rfl); (case hg => rfl); (case hd => rfl); (case he => (apply ev_idxo1 (j := j); (case hx => rfl); (case hi => rfl); (case hk => exact hjlt)))); (apply h_first 27; (case hi => rfl); (case hr => kernel_rfl); (case hfr => kernel_rfl); (case hsel => kernel_rfl); (case hg => rfl); (case hd => rfl); (case he => (apply ev_load_own; (case hx => rfl); (case hm => (repeat (first | exact List.Mem.head _ | apply List.Mem.tail | apply List.mem_append_right))); (case h => exact hrc)))); refine Jf 28 ?_; refine Jf 29 ?_; (apply h_end; (case hr => kernel_rfl)); ((refine q_then ?_; exact q_cut ⟨Le.refl _, rfl, rfl⟩ sbF sbL)))
    · have hne : (nn != [63]) = true := by simpa using hn63
      have hnt : nameB nn = true := by
        cases h : nameB nn
        · exact absurd ⟨hn63, h⟩ hnn
        · rfl
      rw [hnt] at hnm
      ((apply c_held ([(g2, .cells (cellsOf (rs ++ [nt - no]) ++ tl2).toArray 3 (0, 0)), (b7, .cells [.int .i64 (j : Int), strV nn, .int .i64 no, .int .i64 nt].toArray 51 (0, 0))]); (case hL => (exact sbT))); refine Jf 0 ?_; refine Jf 1 ?_; refine Jf 2 ?_; refine Jf 3 ?_; refine Jf 4 ?_; refine Jf 5 ?_; refine Jf 6 ?_; refine Jf 7 ?_; refine Jf 8 ?_; refine Jf 9 ?_; refine Jf 10 ?_; refine Jf 11 ?_; (apply h_first 12; (case hi => rfl); (case hr => kernel_rfl); (case hfr => kernel_rfl); (case hsel => kernel_rfl); (case hg => rfl); (case hd => rfl); (case he => (apply ev_neq_bv (r := true) (b := [63]); (case hx => rfl); (case hy => rfl); (case h => exact hne)))); refine Jf 13 ?_; refine Jf 14 ?_; refine Jf 15 ?_; (apply h_one 16; (case hr => kernel_rfl)); (apply n_call; (case hi => rfl); (case i1 => infer_instance); (case hg => rfl); (case hd => rfl); (case ha => rfl); (case hc => exact hnm _); (case hL => (repeat (first | exact pm_nil _ | exact pm_refl _ _ | exact pm_self _ | apply pm_cons | apply pm_app))); (case hsub => (intros; (exact sbT))); rintro S6 _ _ hle6 ⟨rfl, rfl⟩); refine Jf 17 ?_; refine Jf 18 ?_; refine Jf 19 ?_; refine Jf 20 ?_; refine Jf 21 ?_; refine Jf 22 ?_; refine Jf 23 ?_; refine Jf 24 ?_; refine Jf 25 ?_; (apply h_first 26; (case hi => rfl); (case hr => kernel_rfl); (case hfr => kernel_rfl); (case hsel => kernel_rfl); (case hg => rfl); (case hd => rfl); (case he => (apply ev_idxo1 (j := j); (case hx => rfl); (case hi => rfl); (case hk => exact hjlt)))); (apply h_first 27; (case hi => rfl); (case hr => kernel_rfl); (case hfr => kernel_rfl); (case hsel => kernel_rfl); (case hg => rfl); (case hd => rfl); (case he => (apply ev_load_own; (case hx => rfl); (case hm => (repeat (first | exact List.Mem.head _ | apply List.Mem.tail | apply List.mem_append_right))); (case h => exact hrc)))); refine Jf 28 ?_; refine Jf 29 ?_; (apply h_end; (case hr => kernel_rfl)); ((refine q_then ?_; exact q_cut ⟨hle6, rfl, rfl⟩ sbF sbL)))
  rintro S2 L F ⟨hle2, rfl, rfl⟩
  have hgj : (rs ++ [nt - no]).getD j 0 = rj := by rw [List.getD_eq_getElem?_getD, hrj]; rfl
  by_cases h4r : rj < nt
  · have hno := hfail (by unfold rdNext; rw [if_neg (by rw [hok]; exact Bool.noConfusion), if_neg hk0, if_neg (by simp only; omega), if_neg hnn, if_pos (by simp only [Int.toNat_natCast]; rw [hgj]; exact h4r)])
    rw [decide_eq_true h4r]
    (repeat (first | refine Jz ?_ | intro _))
    exact o_ret2 (L' := []) Tryz.results27 rfl rfl (List.nil_sublist _) (.inl ⟨hno, rfl, rfl⟩)
  rw [decide_eq_false h4r]
  obtain ⟨g1, cap1, tl1, rfl, rfl, y1, y2, y3⟩ := ho1.rowed (by rw [List.length_map]; omega)
  obtain ⟨pp, hpp⟩ : ∃ pp, ps[j]? = some pp := at_lt (by omega)
  obtain ⟨lp, hlpp⟩ : ∃ lp, ps[k - 1]? = some lp := at_lt (by omega)
  have hgp : ps.getD j [] = pp := by rw [List.getD_eq_getElem?_getD, hpp]; rfl
  have hgl : ps.getD (k - 1) [] = lp := by rw [List.getD_eq_getElem?_getD, hlpp]; rfl
  have hvp := hst.vq _ (List.mem_of_getElem? hpp)
  have hvl := hst.vq _ (List.mem_of_getElem? hlpp)
  have hcp := cellsP_at hpp hvp.1 tl1
  have hcl := cellsP_at hlpp hvl.1 tl1
  have hpl := pad_lenV hvp.1
  have hll := pad_lenV hvl.1
  have hjp : j < (ps.map p12).length := by rw [List.length_map]; omega
  have hkp : k - 1 < (ps.map p12).length := by rw [List.length_map]; omega
  have hpc : ∀ S, Con Tryz.prog 55 #[.agg ((pad pp).map strV).toArray] S [] (X.Pure S (.int .i64 (pp.length : Nat))) := fun S => plen_pad hvp ▸ plen_con (pad pp) S (pad_len hvp.1)
  by_cases h12 : 12 ≤ pp.length
  · have hno := hfail (by unfold rdNext; rw [if_neg (by rw [hok]; exact Bool.noConfusion), if_neg hk0, if_neg (by simp only; omega), if_neg hnn, if_neg (by simp only [Int.toNat_natCast]; rw [hgj]; exact h4r), if_pos (by simp only [Int.toNat_natCast]; rw [hgp]; exact h12)])
    (repeat (first | refine Jc ?_ | (apply s_evb; (case hg => rfl); (case hd => rfl); (case hn => rfl); (case he => ((apply ev_binV; (case hx => rfl); (case hy => rfl); (case hb => (apply bv_pred; omega)))))) | (apply s_evb; (case hg => rfl); (case hd => rfl); (case hn => rfl); (case he => ((apply ev_idxo (j := j); (case hx => rfl); (case hi => rfl); (case hk => exact hjp))))) | (apply s_evb; (case hg => rfl); (case hd => rfl); (case hn => rfl); (case he => ((apply ev_idxo (j := k - 1); (case hx => rfl); (case hi => rfl); (case hk => exact hkp))))) | (apply s_evb; (case hg => rfl); (case hd => rfl); (case hn => rfl); (case he => ((apply ev_load_own_mid (vs := (pad pp).map strV); (case hx => rfl); (case hm => (repeat (first | exact List.Mem.head _ | apply List.Mem.tail | apply List.mem_append_right))); (case hl => exact hpl); (case hv => exact hcp))))) | (apply s_evb; (case hg => rfl); (case hd => rfl); (case hn => rfl); (case he => ((apply ev_load_own_mid (vs := (pad lp).map strV); (case hx => rfl); (case hm => (repeat (first | exact List.Mem.head _ | apply List.Mem.tail | apply List.mem_append_right))); (case hl => exact hll); (case hv => exact hcl))))) | (apply s_store_ag (vs := (pad pp).map strV); (case hg => rfl); (case hx => rfl); (case hy => rfl); (case h1 => exact strs_one _); (case hv => exact hpl); (case hL => (repeat (first | exact Upd.head | apply Upd.tail | apply Upd.app))); (case hu => rfl)) | (apply s_store_ag (vs := (pad lp).map strV); (case hg => rfl); (case hx => rfl); (case hy => rfl); (case h1 => exact strs_one _); (case hv => exact hll); (case hL => (repeat (first | exact Upd.head | apply Upd.tail | apply Upd.app))); (case hu => rfl)) | (apply s_evb; (case hg => rfl); (case hd => rfl); (case hn => rfl); (case he => ((apply ev_load_own_ag; (case hx => rfl); (case hm => exact List.Mem.head _); (case hl => exact hpl))))) | (apply z_call; rfl; rfl; rfl; exact hpc _; rintro _ _ _ - ⟨rfl, rfl, rfl⟩) | refine Jo ?_ | intro _))
    rename_i b8 b10
    ((apply c_held ([(b8, .cells ((pad pp).map strV).toArray 87 (0, 0)), (b7, .cells [.int .i64 (j : Int), strV nn, .int .i64 no, .int .i64 nt].toArray 51 (0, 0)), (g1, .cells (cellsOf (ps.map p12) ++ tl1).toArray 87 (0, 0))]); (case hL => (exact sbT))); (apply h_first 0; (case hi => rfl); (case hr => kernel_rfl); (case hfr => kernel_rfl); (case hsel => kernel_rfl); (case hg => rfl); (case hd => rfl); (case he => (apply ev_load_own_ag; (case hx => rfl); (case hm => exact List.Mem.head _); (case hl => exact hpl)))); refine Jf 1 ?_; refine Jf 2 ?_; refine Jf 3 ?_; (apply h_first 4; (case hi => rfl); (case hr => kernel_rfl); (case hfr => kernel_rfl); (case hsel => kernel_rfl); (case hg => rfl); (case hd => rfl); (case he => (apply ev_idxo (j := j); (case hx => rfl); (case hi => rfl); (case hk => exact hjp)))); (apply h_first 5; (case hi => rfl); (case hr => kernel_rfl); (case hfr => kernel_rfl); (case hsel => kernel_rfl); (case hg => rfl); (case hd => rfl); (case he => (apply ev_load_own_mid (vs := (pad pp).map strV); (case hx => rfl); (case hm => (repeat (first | exact List.Mem.head _ | apply List.Mem.tail | apply List.mem_append_right))); (case hl => exact hpl); (case hv => exact hcp)))); (apply h_first 6; (case hi => rfl); (case hr => kernel_rfl); (case hfr => kernel_rfl); (case hsel => kernel_rfl); (case hg => rfl); (case hd => rfl); (case he => (apply ev_eqlP (r := true) (p := pad pp) (q := pad pp); (case hx => rfl); (case hy => rfl); (case hp => exact pad_len hvp.1); (case hq => exact pad_len hvp.1); (case hr => exact decide_eq_true rfl)))); refine Jf 7 ?_; refine Jf 8 ?_; refine Jf 9 ?_; (apply h_one 10; (case hr => kernel_rfl)); (refine X.Jn ?_; try intro _); refine Jf 11 ?_; refine Jf 12 ?_; (apply h_end; (case hr => kernel_rfl)))
    (repeat (first | refine Jz ?_ | intro _))
    exact o_ret2 (L' := []) Tryz.results27 rfl rfl (List.nil_sublist _) (.inl ⟨hno, rfl, rfl⟩)
  have hsv : VQ (pp ++ [nn]) := hvp.snoc (by omega) (rd_name hnn)
  have hsl := pad_lenV hsv.1
  have hne : pad (pp ++ [nn]) ≠ pad pp := fun e => by
    have := congrArg List.length (pth_inj hsv hvp (congrArg Pth.mk e)); simp at this
  (repeat (first | refine Jc ?_ | (apply s_evb; (case hg => rfl); (case hd => rfl); (case hn => rfl); (case he => ((apply ev_binV; (case hx => rfl); (case hy => rfl); (case hb => (apply bv_pred; omega)))))) | (apply s_evb; (case hg => rfl); (case hd => rfl); (case hn => rfl); (case he => ((apply ev_idxo (j := j); (case hx => rfl); (case hi => rfl); (case hk => exact hjp))))) | (apply s_evb; (case hg => rfl); (case hd => rfl); (case hn => rfl); (case he => ((apply ev_idxo (j := k - 1); (case hx => rfl); (case hi => rfl); (case hk => exact hkp))))) | (apply s_evb; (case hg => rfl); (case hd => rfl); (case hn => rfl); (case he => ((apply ev_load_own_mid (vs := (pad pp).map strV); (case hx => rfl); (case hm => (repeat (first | exact List.Mem.head _ | apply List.Mem.tail | apply List.mem_append_right))); (case hl => exact hpl); (case hv => exact hcp))))) | (apply s_evb; (case hg => rfl); (case hd => rfl); (case hn => rfl); (case he => ((apply ev_load_own_mid (vs := (pad lp).map strV); (case hx => rfl); (case hm => (repeat (first | exact List.Mem.head _ | apply List.Mem.tail | apply List.mem_append_right))); (case hl => exact hll); (case hv => exact hcl))))) | (apply s_store_ag (vs := (pad pp).map strV); (case hg => rfl); (case hx => rfl); (case hy => rfl); (case h1 => exact strs_one _); (case hv => exact hpl); (case hL => (repeat (first | exact Upd.head | apply Upd.tail | apply Upd.app))); (case hu => rfl)) | (apply s_store_ag (vs := (pad lp).map strV); (case hg => rfl); (case hx => rfl); (case hy => rfl); (case h1 => exact strs_one _); (case hv => exact hll); (case hL => (repeat (first | exact Upd.head | apply Upd.tail | apply Upd.app))); (case hu => rfl)) | (apply s_evb; (case hg => rfl); (case hd => rfl); (case hn => rfl); (case he => ((apply ev_load_own_ag; (case hx => rfl); (case hm => exact List.Mem.head _); (case hl => exact hpl))))) | (apply s_evb; (case hg => rfl); (case hd => rfl); (case hn => rfl); (case he => ((apply ev_idxa1; (case hx => rfl); (case hi => rfl); (case hk => omega))))) | (apply s_store (i := pp.length) (u := strV []) (v := strV nn); (case hg => rfl); (case hx => rfl); (case hy => rfl); (case h1 => rfl); (case hL => (rw [pad_setV (by omega)]; (repeat (first | exact Upd.head | apply Upd.tail | apply Upd.app)))); (case hu => exact pad_free (by omega))) | (apply z_call; rfl; rfl; rfl; exact hpc _; rintro _ _ _ - ⟨rfl, rfl, rfl⟩) | refine Jo ?_ | intro _))
  rename_i b8 b10
  refine W.freeze fun T1 l1 f1 => W.freeze fun T2 l2 f2 => ?_
  have hp8 : Pts T2 ⟨b8, 0, none⟩ ((pad (pp ++ [nn])).map strV) := pts_block f2 (by simp only; exact List.take_length)
  have hp10 : Pts T2 ⟨b10, 0, none⟩ ((pad lp).map strV) := (pts_block f1 (by simp only; exact List.take_length) : Pts T1 ⟨b10, 0, none⟩ ((pad lp).map strV)).le l2
  have hcmp := cmpP_con (pad lp) (pad (pp ++ [nn])) (some ⟨b10, 0, none⟩) (some ⟨b8, 0, none⟩) 12 12 T2 (toS_At hp10) (toS_At hp8) (by rw [pad_len hvl.1]; omega) (by rw [pad_len hsv.1]; omega)
  rw [toS_len, toS_len, pad_len hvl.1, pad_len hsv.1] at hcmp
  have hpc2 := pad_cmp hvl hsv
  refine c_meet (fun T L F => Le T2 T ∧ L = [(g2, .cells (cellsOf (rs ++ [nt - no]) ++ tl2).toArray 3 (0, 0)), (b7, .cells [.int .i64 (j : Int), strV nn, .int .i64 no, .int .i64 nt].toArray 51 (0, 0)), (b1, .cells [.slice A ns.length c].toArray 24 (0, 0)), (g1, .cells (cellsOf (ps.map p12) ++ tl1).toArray 87 (0, 0))] ∧
      F = [(4, .slice (some ⟨g1, 0, none⟩) (ps.map p12).length cap1), (5, .slice (some ⟨g2, 0, none⟩) (rs ++ [nt - no]).length cap2), (7, .pointer (some ⟨b7, 0, none⟩)), (8, .pointer (some ⟨b8, 0, none⟩)), (41, .slice A ns.length c), (42, .int .i64 ns.length), (43, .int .i64 k), (137, .bool (decide (0 ≤ cmpP (pad lp) (pad (pp ++ [nn])))))]) ?_ ?_
  · ((apply c_held ([(b7, .cells [.int .i64 (j : Int), strV nn, .int .i64 no, .int .i64 nt].toArray 51 (0, 0)), (g1, .cells (cellsOf (ps.map p12) ++ tl1).toArray 87 (0, 0))]); (case hL => (exact sbT))); (apply h_first 0; (case hi => rfl); (case hr => kernel_rfl); (case hfr => kernel_rfl); (case hsel => kernel_rfl); (case hg => rfl); (case hd => rfl); (case he => (apply ev_load_ag; (case hx => rfl); (case h => exact hp8); (case hl => exact hsl)))); refine Jf 1 ?_; refine Jf 2 ?_; refine Jf 3 ?_; (apply h_first 4; (case hi => rfl); (case hr => kernel_rfl); (case hfr => kernel_rfl); (case hsel => kernel_rfl); (case hg => rfl); (case hd => rfl); (case he => (apply ev_idxo (j := j); (case hx => rfl); (case hi => rfl); (case hk => exact hjp)))); (apply h_first 5; (case hi => rfl); (case hr => kernel_rfl); (case hfr => kernel_rfl); (case hsel => kernel_rfl); (case hg => rfl); (case hd => rfl); (case he => (apply ev_load_own_mid (vs := (pad pp).map strV); (case hx => rfl); (case hm => (repeat (first | exact List.Mem.head _ | apply List.Mem.tail | apply List.mem_append_right))); (case hl => exact hpl); (case hv => exact hcp)))); (apply h_first 6; (case hi => rfl); (case hr => kernel_rfl); (case hfr => kernel_rfl); (case hsel => kernel_rfl); (case hg => rfl); (case hd => rfl); (case he => (apply ev_eqlP (r := false) (p := pad (pp ++ [nn])) (q := pad pp); (case hx => rfl); (case hy => rfl); (case hp => exact pad_len hsv.1); (case hq => exact pad_len hvp.1); (case hr => exact decide_eq_false hne)))); refine Jf 7 ?_; (apply h_first 8; (case hi => rfl); (case hr => kernel_rfl); (case hfr => kernel_rfl); (case hsel => kernel_rfl); (case hg => rfl); (case hd => rfl); (case he => (apply ev_slice_arr; rfl))); (apply h_first 9; (case hi => rfl); (case hr => kernel_rfl); (case hfr => kernel_rfl); (case hsel => kernel_rfl); (case hg => rfl); (case hd => rfl); (case he => (apply ev_slice_arr; rfl))); (apply h_one 10; (case hr => kernel_rfl)); (apply n_call; (case hi => rfl); (case i1 => infer_instance); (case hg => rfl); (case hd => rfl); (case ha => rfl); (case hc => exact hcmp); (case hL => (repeat (first | exact pm_nil _ | exact pm_refl _ _ | exact pm_self _ | apply pm_cons | apply pm_app))); (case hsub => (intros; (exact sbT))); rintro T3 _ _ l3 ⟨rfl, rfl, rfl⟩); refine Jf 11 ?_; refine Jf 12 ?_; (apply h_end; (case hr => kernel_rfl)); ((refine q_then ?_; exact q_cut ⟨Le.refl _, rfl, rfl⟩ sbF sbL)))
  rintro T3 L F ⟨l3, rfl, rfl⟩
  by_cases hlt2 : lp < pp ++ [nn]
  rotate_left
  · have hno := hfail (by unfold rdNext; rw [if_neg (by rw [hok]; exact Bool.noConfusion), if_neg hk0, if_neg (by simp only; omega), if_neg hnn, if_neg (by simp only [Int.toNat_natCast]; rw [hgj]; exact h4r), if_neg (by simp only [Int.toNat_natCast]; rw [hgp]; exact h12), if_neg (by simp only [Int.toNat_natCast]; rw [hgp, hgl]; exact hlt2)])
    rw [decide_eq_true (show 0 ≤ cmpP (pad lp) (pad (pp ++ [nn])) from Int.not_lt.1 fun h => hlt2 (hpc2.1 h))]
    (repeat (first | refine Jz ?_ | intro _))
    exact o_ret2 (L' := []) Tryz.results27 rfl rfl (List.nil_sublist _) (.inl ⟨hno, rfl, rfl⟩)
  have hn : rdNext k ⟨(j : Int), nn, no, nt⟩ ps rs = some (ps ++ [pp ++ [nn]], (rs ++ [nt - no]).set j (rj - nt)) := by
    unfold rdNext; rw [if_neg (by rw [hok]; exact Bool.noConfusion), if_neg hk0, if_neg (by simp only; omega), if_neg hnn, if_neg (by simp only [Int.toNat_natCast]; rw [hgj]; exact h4r), if_neg (by simp only [Int.toNat_natCast]; rw [hgp]; exact h12), if_pos (by simp only [Int.toNat_natCast]; rw [hgp, hgl]; exact hlt2)]
    simp only [Int.toNat_natCast]; rw [hgj, hgp]
  rw [hn] at hrd
  rw [decide_eq_false (show ¬ 0 ≤ cmpP (pad lp) (pad (pp ++ [nn])) by have := hpc2.2 hlt2; omega)]
  (repeat (first | refine Jz ?_ | intro _))
  have hrjb : 0 ≤ rj ∧ rj ≤ 1125899906842624 := by
    rcases List.mem_append.1 (List.mem_of_getElem? hrj) with h | h
    · exact hst.bd _ h
    · simp at h; omega
  have hnt0 : 0 ≤ nt := by omega
  refine c_meet (fun T L F => T = T3 ∧ L = [(g2, .cells (cellsOf ((rs ++ [nt - no]).set j (rj - nt)) ++ tl2).toArray 3 (0, 0)), (b7, .cells [.int .i64 (j : Int), strV nn, .int .i64 no, .int .i64 nt].toArray 51 (0, 0)), (b1, .cells [.slice A ns.length c].toArray 24 (0, 0)), (g1, .cells (cellsOf (ps.map p12) ++ tl1).toArray 87 (0, 0))] ∧
      F = [(4, .slice (some ⟨g1, 0, none⟩) (ps.map p12).length cap1), (5, .slice (some ⟨g2, 0, none⟩) (rs ++ [nt - no]).length cap2), (8, .pointer (some ⟨b8, 0, none⟩)), (41, .slice A ns.length c), (42, .int .i64 ns.length), (43, .int .i64 k)]) ?_ ?_
  · ((apply c_held ([(b7, .cells [.int .i64 (j : Int), strV nn, .int .i64 no, .int .i64 nt].toArray 51 (0, 0))]); (case hL => (exact sbT))); refine Jf 0 ?_; refine Jf 1 ?_; refine Jf 2 ?_; (apply h_first 3; (case hi => rfl); (case hr => kernel_rfl); (case hfr => kernel_rfl); (case hsel => kernel_rfl); (case hg => rfl); (case hd => rfl); (case he => (apply ev_idxo1 (j := j); (case hx => rfl); (case hi => rfl); (case hk => exact hjlt)))); refine Jf 5 ?_; refine Jf 6 ?_; (apply h_one 4; (case hr => kernel_rfl)); (apply n_ev; (case hi => rfl); (case hg => rfl); (case hd => rfl); (case he => (apply ev_load_own; (case hx => rfl); (case hm => (repeat (first | exact List.Mem.head _ | apply List.Mem.tail | apply List.mem_append_right))); (case h => exact hrc)))); refine Jf 7 ?_; (apply h_first 8; (case hi => rfl); (case hr => kernel_rfl); (case hfr => kernel_rfl); (case hsel => kernel_rfl); (case hg => rfl); (case hd => rfl); (case he => (apply ev_idxo1 (j := j); (case hx => rfl); (case hi => rfl); (case hk => exact hjlt)))); (apply h_one 9; (case hr => kernel_rfl)); (apply n_store; (case hi => rfl); (case i1 => infer_instance); (case hg => rfl); (case hx => rfl); (case hy => rfl); (case h1 => rfl); (case hL => (rw [cellsI_set hjlt]; (repeat (first | exact Upd.head | apply Upd.tail | apply Upd.app)))); (case hu => exact hrc); (case hsub => (intro _; (exact sbT)))); (apply h_end; (case hr => kernel_rfl)); ((refine q_then ?_; exact q_cut ⟨rfl, rfl, rfl⟩ sbF sbL)))
  rintro T4 L F ⟨rfl, rfl, rfl⟩
  have hst2 := rdNext_st hst hn
  have hps : ps.map p12 ++ [p12 (pp ++ [nn])] = (ps ++ [pp ++ [nn]]).map p12 := by simp
  have hlen2 : (rs ++ [nt - no]).length = ((rs ++ [nt - no]).set j (rj - nt)).length := by simp
  (repeat (first | refine Jc ?_ | (apply s_evb; (case hg => rfl); (case hd => rfl); (case hn => rfl); (case he => ((apply ev_load_ag; (case hx => rfl); (case h => exact hp8.le l3); (case hl => exact hsl))))) | (apply s_buildSlice (vs := [Value.agg ((pad (pp ++ [nn])).map strV).toArray]); (case hg => rfl); (case hd => rfl); (case hp => rfl); (case hq => rfl); (case hm => rfl); (case hv => simp [Value.cells, pad_len hsv.1]); (case hl => rfl); intro b0; rw [p12_flat hsv.1]) | (apply s_append (ms := [p12 (pp ++ [nn])]); (case hg => rfl); (case hd => rfl); (case hx => rfl); (case ho => exact ho1); (case hL => (repeat (first | exact pm_nil _ | exact pm_refl _ _ | exact pm_self _ | apply pm_cons | apply pm_app))); (case hy => rfl); (case hm => rfl); (case hs => (apply Src.own; (repeat (first | exact List.Mem.head _ | apply List.Mem.tail | apply List.mem_append_right)))); (case hzs => rfl); (case h0 => decide); (case hb => (simp; omega)); (case h63 => (simp; omega)); intro v7 ob7 ho7) | refine Jo ?_ | intro _))
  rw [hps] at ho7
  have ho8 : Ows 3 (.slice (some ⟨g2, 0, none⟩) (rs ++ [nt - no]).length cap2) ((rs ++ [nt - no]).set j (rj - nt)) [(g2, .cells (cellsOf ((rs ++ [nt - no]).set j (rj - nt)) ++ tl2).toArray 3 (0, 0))] :=
    Ows.of_row hlen2 u1 u2 (by rw [← u3]; simp [cellsOf_length])
  refine W.perm (L' := (b1, .cells [.slice A ns.length c].toArray 24 (0, 0)) :: (ob7 ++ [(g2, .cells (cellsOf ((rs ++ [nt - no]).set j (rj - nt)) ++ tl2).toArray 3 (0, 0)), (b0, .cells (cellsOf [p12 (pp ++ [nn])]).toArray 87 (0, 0)), (b7, .cells [.int .i64 (j : Int), strV nn, .int .i64 no, .int .i64 nt].toArray 51 (0, 0))])) ?_ (pmc (fun p => by (repeat (first | rw [List.countP_append] | rw [List.countP_cons] | rw [List.countP_nil])); (all_goals (first | rfl | omega))))
  exact q_back (L' := (b1, .cells [.slice A ns.length c].toArray 24 (0, 0)) :: (ob7 ++ [(g2, .cells (cellsOf ((rs ++ [nt - no]).set j (rj - nt)) ++ tl2).toArray 3 (0, 0))])) (m' := ns.length - (k + 1)) ⟨(((hle.trans hle2).trans l1).trans l2).trans l3, k + 1, ps ++ [pp ++ [nn]], (rs ++ [nt - no]).set j (rj - nt), v7, _, ob7, _, rfl, by omega, hrd, hst2, ho7, ho8, rfl, rfl⟩ (by omega) sbF (List.Sublist.cons_cons _ (List.Sublist.append (List.Sublist.refl _) (List.Sublist.cons_cons _ (List.nil_sublist _))))
end Go.Proofs.YtcnfchchanlepaaGreat
namespace Go.Proofs.YtcnfchchanlepaaGreat
open Go Go.X
def validB (ns : List Nd) : Bool := match readF ns with | none => false | some st => !st.2.any fun x => x != 0
set_option maxRecDepth 10000
set_option linter.unusedVariables false
attribute [local irreducible] Code.wpIn wpListIn Exit.then Exit.inBlock X.Out X.Back X.W X.Ev X.Con X.BinV X.Wh X.Wn X.Wq
theorem valid_con (ns : List Nd) (A : Option Addr) (c : Nat) (S : SH) (hA : At S A ns) (hl : ns.length ≤ 1000000) :
    Con Tryz.prog 9 #[.agg #[.slice A ns.length c]] S [] (fun _ L' r => L' = [] ∧ r = .bool (validB ns)) := by
  refine con_of (args := [.agg #[.slice A ns.length c]]) Tryz.func9 rfl Tryz.ntmps9 rfl fun w => ?_
  (repeat (first | refine Jc ?_ | (apply s_call; (case hg => rfl); (case hd => rfl); (case ha => rfl); (case hc => exact read_con ns A c _ hA hl); (case hL => (repeat (first | exact pm_nil _ | exact pm_refl _ _ | exact pm_self _ | apply pm_cons | apply pm_app))); rintro S2 L2 _ hle2 hr); obtain ⟨h1, rfl, rfl⟩ | ⟨ps, rs, v, h1, _, rfl, _⟩ := hr | refine Jo ?_ | intro _))
  all_goals (repeat (first | refine Jz ?_ | intro _))
  all_goals exact o_ret Tryz.results9 rfl (List.nil_sublist _) ⟨rfl, by unfold validB; rw [h1]⟩
theorem own_con (n : Nd) (S : SH) : Con Tryz.prog 58 #[.agg [.int .i64 n.parent, strV n.name, .int .i64 n.own, .int .i64 n.total].toArray] S [] (X.Pure S (.int .i64 n.own)) := by
  refine con_of (args := [.agg [.int .i64 n.parent, strV n.name, .int .i64 n.own, .int .i64 n.total].toArray]) Tryz.func58 rfl Tryz.ntmps58 rfl fun w => ?_
  (repeat (first | refine Jz ?_ | intro _))
  exact o_ret Tryz.results58 rfl (List.nil_sublist _) ⟨rfl, rfl, rfl⟩
theorem total_con (n : Nd) (S : SH) : Con Tryz.prog 37 #[.agg [.int .i64 n.parent, strV n.name, .int .i64 n.own, .int .i64 n.total].toArray] S [] (X.Pure S (.int .i64 n.total)) := by
  refine con_of (args := [.agg [.int .i64 n.parent, strV n.name, .int .i64 n.own, .int .i64 n.total].toArray]) Tryz.func37 rfl Tryz.ntmps37 rfl fun w => ?_
  (repeat (first | refine Jz ?_ | intro _))
  exact o_ret Tryz.results37 rfl (List.nil_sublist _) ⟨rfl, rfl, rfl⟩
theorem size_con (n : Int) (S : SH) (hn : -9223372036854775807 ≤ n ∧ n ≤ 9223372036854775807) : Con Tryz.prog 44 #[.int .i64 n] S [] (X.Pure S (.int .i64 (max n (-n)))) := by
  refine con_of (args := [.int .i64 n]) Tryz.func44 rfl Tryz.ntmps44 rfl fun w => ?_
  (repeat (first | refine Jz ?_ | intro _))
  exact o_ret Tryz.results44 rfl (List.nil_sublist _) ⟨rfl, rfl, rfl⟩
end Go.Proofs.YtcnfchchanlepaaGreat
namespace Go.Proofs.YtcnfchchanlepaaGreat
open Go Go.X
theorem rdNext_srt {k : Nat} {n : Nd} {ps ps' : List (List Bs)} {rs rs' : List Int} (hl : ps.length = max k 1) (hs : ps.Pairwise (· < ·)) (hn : rdNext k n ps rs = some (ps', rs')) : ps'.Pairwise (· < ·) := by
  unfold rdNext at hn
  split at hn
  · cases hn
  split at hn
  · simp only [Option.some.injEq, Prod.mk.injEq] at hn
    exact hn.1 ▸ hs
  rename_i hk
  split at hn
  · cases hn
  split at hn
  · cases hn
  split at hn
  · cases hn
  split at hn
  · cases hn
  split at hn
  rotate_left
  · cases hn
  rename_i h6
  simp only [Option.some.injEq, Prod.mk.injEq] at hn
  obtain ⟨rfl, _⟩ := hn
  refine List.pairwise_append.2 ⟨hs, List.pairwise_singleton _ _, fun a ha b hb => ?_⟩
  simp only [List.mem_singleton] at hb
  subst hb
  have hk1 : k - 1 < ps.length := by omega
  rw [List.getD_eq_getElem?_getD, List.getElem?_eq_getElem hk1] at h6
  simp only [Option.getD_some] at h6
  obtain ⟨i, hi, rfl⟩ := List.mem_iff_getElem.1 ha
  by_cases he : i = k - 1
  · subst he; exact h6
  · exact plt_trans (List.pairwise_iff_getElem.1 hs i (k - 1) hi hk1 (by omega)) h6
theorem rdAll_srt : ∀ (ns : List Nd) (k : Nat) (ps ps' : List (List Bs)) (rs rs' : List Int), RdSt k ps rs → ps.Pairwise (· < ·) → rdAll ns k ps rs = some (ps', rs') → RdSt (k + ns.length) ps' rs' ∧ ps'.Pairwise (· < ·)
  | [], k, ps, ps', rs, rs', h, hs, hr => by
    simp only [rdAll, Option.some.injEq, Prod.mk.injEq] at hr
    obtain ⟨rfl, rfl⟩ := hr
    exact ⟨h, hs⟩
  | n :: ns, k, ps, ps', rs, rs', h, hs, hr => by
    rw [rdAll] at hr
    cases hn : rdNext k n ps rs with
    | none => rw [hn] at hr; cases hr
    | some st =>
      obtain ⟨p2, r2⟩ := st
      rw [hn] at hr
      have := rdAll_srt ns (k + 1) p2 ps' r2 rs' (rdNext_st h hn) (rdNext_srt h.lp hs hn) hr
      rw [List.length_cons, show k + (ns.length + 1) = k + 1 + ns.length by omega]
      exact this
theorem rd0 : RdSt 0 [[]] [] := ⟨rfl, rfl, fun p hp => by simp at hp; subst hp; exact VQ.nil, fun r hr => absurd hr List.not_mem_nil⟩
theorem readF_st {ns : List Nd} {ps : List (List Bs)} {rs : List Int} (h : readF ns = some (ps, rs)) : RdSt ns.length ps rs ∧ ps.Pairwise (· < ·) ∧ rdTop ns := by
  unfold readF at h
  split at h
  · rename_i ht
    have := rdAll_srt ns 0 _ _ _ _ rd0 (List.pairwise_singleton _ _) h
    rw [Nat.zero_add] at this
    exact ⟨this.1, this.2, ht⟩
  · cases h
/-- What a function makes of the nodes, by their paths. -/
def wE (g : Nd → Int) (ps : List (List Bs)) (ns : List Nd) : List (Pth × Int) := (ps.zip ns).map fun x => (pth x.1, g x.2)
theorem wE_keys {g : Nd → Int} : ∀ {ps : List (List Bs)} {ns : List Nd}, ps.length = ns.length → (wE g ps ns).map (·.1) = ps.map pth
  | [], [], _ => rfl
  | p :: ps, n :: ns, h => by
    have := wE_keys (g := g) (ps := ps) (ns := ns) (by simpa using h)
    simp only [wE, List.zip_cons_cons, List.map_cons, List.map_map] at this ⊢
    rw [← this]
  | [], _ :: _, h => by simp at h
  | _ :: _, [], h => by simp at h
theorem pths_nodup : ∀ {ps : List (List Bs)}, ps.Nodup → (∀ p ∈ ps, VQ p) → (ps.map pth).Nodup
  | [], _, _ => List.nodup_nil
  | p :: ps, h, hv => by
    obtain ⟨h1, h2⟩ := List.nodup_cons.1 h
    rw [List.map_cons, List.nodup_cons]
    refine ⟨fun hm => ?_, pths_nodup h2 fun x hx => hv x (List.mem_cons_of_mem _ hx)⟩
    obtain ⟨x, hx, e⟩ := List.mem_map.1 hm
    exact h1 (pth_inj (hv p List.mem_cons_self) (hv x (List.mem_cons_of_mem _ hx)) e.symm ▸ hx)
theorem upsI_new {k : Pth} (v : Int) : ∀ {es : List (Pth × Int)}, k ∉ es.map (·.1) → upsI k v es = es ++ [(k, v)]
  | [], _ => rfl
  | (k', v') :: r, h => by
    simp only [List.map_cons, List.mem_cons, not_or] at h
    rw [upsI, if_neg h.1, upsI_new v h.2]; rfl
theorem wE_we {g : Nd → Int} {ps : List (List Bs)} {ns : List Nd} (hl : ps.length = ns.length) (hn : ps.Nodup) (hv : ∀ p ∈ ps, VQ p) : WE (wE g ps ns) ∧ PE (wE g ps ns) := by
  refine ⟨⟨by rw [wE_keys hl]; exact pths_nodup hn hv, fun x hx => ?_⟩, fun x hx => ?_⟩
  all_goals
    obtain ⟨⟨p, n⟩, hpn, rfl⟩ := List.mem_map.1 hx
    have := hv p (List.of_mem_zip hpn).1
  · exact pad_len this.1
  · exact ⟨p, this, rfl⟩
theorem wE_take {g : Nd → Int} {ps : List (List Bs)} {ns : List Nd} {k : Nat} {p : List Bs} {n : Nd} (hp : ps[k]? = some p) (hn : ns[k]? = some n) : wE g (ps.take (k + 1)) (ns.take (k + 1)) = wE g (ps.take k) (ns.take k) ++ [(pth p, g n)] := by
  rw [take_at hp, take_at hn]
  unfold wE
  rw [List.zip_append (by rw [List.length_take, List.length_take]; have := (List.getElem?_eq_some_iff.1 hp).1; have := (List.getElem?_eq_some_iff.1 hn).1; omega)]
  simp
end Go.Proofs.YtcnfchchanlepaaGreat
namespace Go.Proofs.YtcnfchchanlepaaGreat
open Go Go.X
def wF (g : Nd → Int) (ns : List Nd) : List (Pth × Int) := match readF ns with | none => [] | some st => wE g st.1 ns
theorem wF_ok (g : Nd → Int) (ns : List Nd) : WE (wF g ns) ∧ PE (wF g ns) ∧ (wF g ns).length ≤ 2000 := by
  unfold wF
  cases h : readF ns with
  | none => exact ⟨WE.nil, fun e h => absurd h List.not_mem_nil, Nat.zero_le _⟩
  | some st =>
    obtain ⟨ps, rs⟩ := st
    obtain ⟨h1, h2, h3⟩ := readF_st h
    have hl : ps.length = ns.length := by have := h1.lp; have := h3.1; omega
    obtain ⟨h4, h5⟩ := wE_we (g := g) hl (srt_nodup h2) h1.vq
    exact ⟨h4, h5, by have := h3.2.1; simp [wE]; omega⟩
set_option maxRecDepth 10000
set_option linter.unusedVariables false
attribute [local irreducible] Code.wpIn wpListIn Exit.then Exit.inBlock X.Out X.Back X.W X.Ev X.Con X.BinV X.Wh X.Wn X.Wq
set_option maxHeartbeats 3200000 in
theorem weights_con {f : FuncId} [Fun Tryz.prog f] (g : Nd → Int) (hf : ∀ (n : Nd) (S : SH), Con Tryz.prog f #[.agg [.int .i64 n.parent, strV n.name, .int .i64 n.own, .int .i64 n.total].toArray] S [] (X.Pure S (.int .i64 (g n))))
    (ns : List Nd) (A : Option Addr) (c : Nat) (S : SH) (hA : At S A ns) (hl : ns.length ≤ 1000000) :
    Con Tryz.prog 36 #[.agg #[.slice A ns.length c], .func (.func f) #[] #[]] S [] (fun _ L' r => ∃ bm, r = .tuple #[.map (some bm), .bool (validB ns)] ∧ L' = [(bm, mapGO (iE (wF g ns)))]) := by
  refine con_of (args := [.agg #[.slice A ns.length c], .func (.func f) #[] #[]]) Tryz.func36 rfl Tryz.ntmps36 rfl fun w => ?_
  (repeat (first | refine Jc ?_ | ((apply s_call; (case hg => rfl); (case hd => rfl); (case ha => rfl); (case hc => exact read_con ns A c _ hA hl); (case hL => (repeat (first | exact pm_nil _ | exact pm_refl _ _ | exact pm_self _ | apply pm_cons | apply pm_app))); rintro S2 L2 _ hle2 hr); obtain ⟨h1, rfl, rfl⟩ | ⟨ps, rs, v, h1, hst, rfl, ho⟩ := hr) | refine Jo ?_ | intro _))
  · have e1 : wF g ns = [] := by unfold wF; rw [h1]
    have e2 : validB ns = false := by unfold validB; rw [h1]
    rw [e1, e2]
    (repeat (first | refine Jc ?_ | (apply s_makeMap; (case hg => rfl); (case hd => rfl); intro bm) | refine Jo ?_ | intro _))
    refine c_loop (fun m S' L F => m = 0 ∧ L = [(bm, mapGO (iE ([] : List (Pth × Int))))] ∧ F = [(7, .bool false), (8, .map (some bm)), (18, .int .i64 (0 : Nat)), (19, .int .i64 0)]) ⟨rfl, rfl, rfl⟩ sbF sbL ?_
    rintro m S' L F ⟨rfl, rfl, rfl⟩
    (repeat (first | refine Jz ?_ | intro _))
    exact o_ret2 Tryz.results36 rfl rfl sbL ⟨bm, rfl, rfl⟩
  obtain ⟨h2, h3, h4⟩ := readF_st h1
  have hlp : ps.length = ns.length := by have := h2.lp; have := h4.1; omega
  have e1 : wF g ns = wE g ps ns := by unfold wF; rw [h1]
  have e2 : validB ns = (!rs.any fun x => x != 0) := by unfold validB; rw [h1]
  rw [e1, e2]
  rename_i b2
  refine W.freezeOws (L1 := [(b2, .cells [.slice A ns.length c].toArray 24 (0, 0))]) ho (pmc (fun p => by (repeat (first | rw [List.countP_append] | rw [List.countP_cons] | rw [List.countP_nil])); (all_goals (first | rfl | omega)))) fun S3 hle3 hs3 => ?_
  obtain ⟨Ap, cp, rfl, hcp, hAp⟩ := hs3
  have hml : (ps.map p12).length = ps.length := List.length_map _
  (repeat (first | refine Jc ?_ | (apply s_makeMap; (case hg => rfl); (case hd => rfl); intro bm) | refine Jo ?_ | intro _))
  refine c_loop (fun m S' L F => Le S3 S' ∧ ∃ (k : Nat), m = ps.length - k ∧ k ≤ ps.length ∧ L = [(bm, mapGO (iE (wE g (ps.take k) (ns.take k)))), (b2, .cells [.slice A ns.length c].toArray 24 (0, 0))] ∧
      F = [(1, .func (.func f) #[] #[]), (2, .pointer (some ⟨b2, 0, none⟩)), (7, .bool (!rs.any fun x => x != 0)), (8, .map (some bm)), (17, .slice Ap (ps.map p12).length cp), (18, .int .i64 (ps.map p12).length), (19, .int .i64 k)]) ⟨Le.refl _, 0, rfl, by omega, rfl, rfl⟩ sbF (List.Sublist.refl _) ?_
  rintro m S' L F ⟨hle4, k, rfl, hk, rfl, rfl⟩
  have hA4 := ((hA.le hle2).le hle3).le hle4
  have hAp4 := hAp.le hle4
  by_cases hlt : k < ps.length
  rotate_left
  · rw [List.take_of_length_le (by omega), List.take_of_length_le (by omega)]
    (repeat (first | refine Jz ?_ | intro _))
    exact o_ret2 Tryz.results36 rfl rfl sbL ⟨bm, rfl, rfl⟩
  obtain ⟨p, hp⟩ := at_lt hlt
  obtain ⟨n, hn⟩ : ∃ n, ns[k]? = some n := at_lt (by omega)
  have hp1 : (ps.map p12)[k]? = some (p12 p) := by rw [List.getElem?_map, hp]; rfl
  have hvp := h2.vq p (List.mem_of_getElem? hp)
  have hpl := pad_lenV hvp.1
  have hcell := p12_cells hvp.1
  (repeat (first | refine Jc ?_ | (apply s_idx hAp4; (case hg => rfl); (case hd => rfl); (case hx => rfl); (case hi => rfl); (case hm => rfl); (case hu => exact hp1); intro q (hq : Pts _ q (Cl.cells (p12 p)))); rw [hcell] at hq | (apply s_evb; (case hg => rfl); (case hd => rfl); (case hn => rfl); (case he => ((apply ev_load_ag; (case hx => rfl); (case h => exact hq); (case hl => exact hpl))))) | (apply s_store_ag (vs := (pad p).map strV); (case hg => rfl); (case hx => rfl); (case hy => rfl); (case h1 => exact strs_one _); (case hv => exact hpl); (case hL => (repeat (first | exact Upd.head | apply Upd.tail | apply Upd.app))); (case hu => rfl)) | refine Jo ?_ | intro _))
  rename_i b10
  have hc := hf n
  have hkey : pth p ∉ (wE g (ps.take k) (ns.take k)).map (·.1) := fun hm => by
    rw [wE_keys (by rw [List.length_take, List.length_take]; omega)] at hm
    obtain ⟨x, hx, e⟩ := List.mem_map.1 hm
    have hxp := pth_inj (h2.vq x (List.mem_of_mem_take hx)) hvp e
    subst hxp
    obtain ⟨i, hi, hxi⟩ := List.mem_take_iff_getElem.1 hx
    obtain ⟨hk', hpk⟩ := List.getElem?_eq_some_iff.1 hp
    have := (List.getElem_inj (srt_nodup h3)).1 (hxi.trans hpk.symm)
    omega
  have hup : upsG (pth p) (.int .i64 (g n)) (iE (wE g (ps.take k) (ns.take k))) = iE (wE g (ps.take (k + 1)) (ns.take (k + 1))) := by
    rw [iE_ups, upsI_new _ hkey, wE_take hp hn]
  have hWk : WE (wE g (ps.take k) (ns.take k)) := (wE_we (by rw [List.length_take, List.length_take]; omega) ((srt_nodup h3).sublist (List.take_sublist _ _)) (fun x hx => h2.vq x (List.mem_of_mem_take hx))).1
  ((apply c_held ([(b10, .cells ((pad p).map strV).toArray 87 (0, 0)), (b2, .cells [.slice A ns.length c].toArray 24 (0, 0))]); (case hL => (exact sbT))); refine Jf 0 ?_; (apply h_first 1; (case hi => rfl); (case hr => kernel_rfl); (case hfr => kernel_rfl); (case hsel => kernel_rfl); (case hg => rfl); (case hd => rfl); (case he => (apply ev_load_own_ag; (case hx => rfl); (case hm => (repeat (first | exact List.Mem.head _ | apply List.Mem.tail | apply List.mem_append_right))); (case hl => exact hpl)))); refine Jf 2 ?_; refine Jf 3 ?_; refine Jf 4 ?_; refine Jf 5 ?_; (apply h_idx hA4 6; (case hi => rfl); (case hr => kernel_rfl); (case hfr => kernel_rfl); (case hsel => kernel_rfl); (case hg => rfl); (case hd => rfl); (case i1 => infer_instance); (case i2 => infer_instance); (case hx => rfl); (case hy => rfl); (case hm => rfl); (case hu => exact hn); intro q2 (hq2 : Pts _ q2 [.int .i64 n.parent, strV n.name, .int .i64 n.own, .int .i64 n.total])); (apply h_first 7; (case hi => rfl); (case hr => kernel_rfl); (case hfr => kernel_rfl); (case hsel => kernel_rfl); (case hg => rfl); (case hd => rfl); (case he => (apply ev_load_ag; (case hx => rfl); (case h => exact hq2); (case hl => rfl)))); (apply h_one 8; (case hr => kernel_rfl)); (apply n_callv (caps := []); (case hi => rfl); (case hg => rfl); (case hd => rfl); (case hx => rfl); (case i1 => infer_instance); (case ha => rfl); (case hc => exact hc _); (case hL => (repeat (first | exact pm_nil _ | exact pm_refl _ _ | exact pm_self _ | apply pm_cons | apply pm_app))); (case hsub => (intros; (exact sbT))); rintro _ _ _ - ⟨rfl, rfl, rfl⟩); (apply h_one 9; (case hr => kernel_rfl)); (apply n_mapUpdateG (κ := Pth) (key := pth p) (ent := iE (wE g (ps.take k) (ns.take k))); (case hi => rfl); (case i1 => infer_instance); (case i2 => infer_instance); (case hg => rfl); (case hx => rfl); (case hy => rfl); (case hz => rfl); (case hE => exact iE_ok hWk); (case hl => exact pad_len hvp.1); (case hL => (rw [hup]; (repeat (first | exact Upd.head | apply Upd.tail | apply Upd.app)))); (case hsub => (intros; (exact sbT)))); (apply h_end; (case hr => kernel_rfl)); ((((repeat (first | refine Jz ?_ | intro _))); exact q_back (L' := [(bm, mapGO (iE (wE g (ps.take (k + 1)) (ns.take (k + 1))))), (b2, .cells [.slice A ns.length c].toArray 24 (0, 0))]) (m' := ps.length - (k + 1)) ⟨hle4, k + 1, rfl, by omega, rfl, rfl⟩ (by omega) sbF sbL)))
end Go.Proofs.YtcnfchchanlepaaGreat
namespace Go.Proofs.YtcnfchchanlepaaGreat
open Go Go.X
theorem rdNext_ok {k : Nat} {n : Nd} {ps ps' : List (List Bs)} {rs rs' : List Int} (hn : rdNext k n ps rs = some (ps', rs')) : rdOk k n = true := by
  unfold rdNext at hn
  split at hn
  · cases hn
  · rename_i h; simpa using h
theorem rdAll_ok : ∀ (ns : List Nd) (k : Nat) (ps ps' : List (List Bs)) (rs rs' : List Int), rdAll ns k ps rs = some (ps', rs') → ∀ n ∈ ns, 0 ≤ n.own ∧ n.own ≤ n.total ∧ n.total ≤ 1125899906842624
  | [], _, _, _, _, _, _, n, hn => absurd hn List.not_mem_nil
  | x :: ns, k, ps, ps', rs, rs', hr, n, hn => by
    rw [rdAll] at hr
    cases hx : rdNext k x ps rs with
    | none => rw [hx] at hr; cases hr
    | some st =>
      obtain ⟨p2, r2⟩ := st
      rw [hx] at hr
      rcases List.mem_cons.1 hn with rfl | hn
      · have h := rdNext_ok hx
        unfold rdOk inB at h
        simp only [Bool.and_eq_true, decide_eq_true_eq] at h
        exact ⟨h.1.1, h.2.2, h.2.1.2⟩
      · exact rdAll_ok ns (k + 1) p2 ps' r2 rs' hr n hn
theorem readF_ok {ns : List Nd} {ps : List (List Bs)} {rs : List Int} (h : readF ns = some (ps, rs)) : ∀ n ∈ ns, 0 ≤ n.own ∧ n.own ≤ n.total ∧ n.total ≤ 1125899906842624 := by
  unfold readF at h
  split at h
  · exact rdAll_ok ns 0 _ _ _ _ h
  · cases h
end Go.Proofs.YtcnfchchanlepaaGreat
namespace Go.Proofs.YtcnfchchanlepaaGreat
open Go Go.X
/-- The own weights, or the totals, of a tree's nodes. -/
def wT (g : Nd → Int) (ns : List Nd) (p : List Bs) : Int := wI (pth p) (wF g ns)
theorem wF_val {g : Nd → Int} {ns : List Nd} : ∀ x ∈ wF g ns, ∃ n ∈ ns, x.2 = g n := fun x hx => by
  unfold wF at hx
  cases h : readF ns with
  | none => rw [h] at hx; exact absurd hx List.not_mem_nil
  | some st =>
    rw [h] at hx
    obtain ⟨⟨p, n⟩, hpn, rfl⟩ := List.mem_map.1 hx
    exact ⟨n, (List.of_mem_zip hpn).2, rfl⟩
theorem wF_own {ns : List Nd} : ∀ x ∈ wF Nd.own ns, 0 ≤ x.2 ∧ x.2 ≤ 1125899906842624 := fun x hx => by
  obtain ⟨n, hn, e⟩ := wF_val x hx
  cases h : readF ns with
  | none => unfold wF at hx; rw [h] at hx; exact absurd hx List.not_mem_nil
  | some st => have := readF_ok (ps := st.1) (rs := st.2) h n hn; rw [e]; omega
theorem wF_total {ns : List Nd} : ∀ x ∈ wF Nd.total ns, 0 ≤ x.2 ∧ x.2 ≤ 1125899906842624 := fun x hx => by
  obtain ⟨n, hn, e⟩ := wF_val x hx
  cases h : readF ns with
  | none => unfold wF at hx; rw [h] at hx; exact absurd hx List.not_mem_nil
  | some st => have := readF_ok (ps := st.1) (rs := st.2) h n hn; rw [e]; omega
theorem wI_rng {es : List (Pth × Int)} (hW : WE es) {b : Int} (h0 : ∀ x ∈ es, 0 ≤ x.2 ∧ x.2 ≤ b) (hb : 0 ≤ b) (k : Pth) : 0 ≤ wI k es ∧ wI k es ≤ b := by
  by_cases hk : k ∈ es.map (·.1)
  · obtain ⟨⟨k', v⟩, he, rfl⟩ := List.mem_map.1 hk
    rw [wI_mem hW.nodup he]
    exact h0 _ he
  · rw [wI_none hk]; exact ⟨Int.le_refl _, hb⟩
end Go.Proofs.YtcnfchchanlepaaGreat
namespace Go.Proofs.YtcnfchchanlepaaGreat
open Go Go.X
/-- What Merge (s = 1) and Sub (s = -1) answer. -/
def CombR (s : Int) (ns ms : List Nd) (v : Value) (ec : Int) (L' : Blocks) : Prop :=
  ¬(validB ns = true ∧ validB ms = true) ∧ ec = 180 ∧ v = .slice none 0 0 ∧ L' = [] ∨ (validB ns = true ∧ validB ms = true) ∧
    ((∃ p, VQ p ∧ wT Nd.own ns p + s * wT Nd.own ms p < 0) ∧ ec = 180 ∧ v = .slice none 0 0 ∧ L' = [] ∨ (∀ p, VQ p → 0 ≤ wT Nd.own ns p + s * wT Nd.own ms p) ∧
      ∃ M, Can (fun p => wT Nd.own ns p + s * wT Nd.own ms p) M ∧ (fits (fun p => wT Nd.own ns p + s * wT Nd.own ms p) M ∧ ec = 0 ∧ Ows 51 v (nodesC (fun p => wT Nd.own ns p + s * wT Nd.own ms p) M) L' ∨ ¬ fits (fun p => wT Nd.own ns p + s * wT Nd.own ms p) M ∧ ec = 180 ∧ v = .slice none 0 0 ∧ L' = []))
def WithCon (s : Int) (f : FuncId) : Prop := ∀ (b1 b2 : Nat) (es fs : List (Pth × Int)) (S : SH), WE es → WE fs → fs.length ≤ 1000000 → (∀ x ∈ fs, i64 (wI x.1 es + s * x.2)) →
  Con Tryz.prog f #[.map (some b1), .map (some b2)] S [(b1, mapGO (iE es)), (b2, mapGO (iE fs))] (fun S' L' r => S' = S ∧ r = .tuple #[] ∧ ∃ es', L' = [(b1, mapGO (iE es')), (b2, mapGO (iE fs))] ∧ WE es' ∧ (∀ k, wI k es' = wI k es + s * wI k fs) ∧ es'.length ≤ es.length + fs.length ∧ KeysOf es fs es')
theorem with_plus : WithCon 1 33 := fun b1 b2 es fs S h1 h2 h3 h4 =>
  (plus_con b1 b2 es fs S h1 h2 h3 (fun x hx => by have := h4 x hx; rwa [Int.one_mul] at this)).mono fun S' L' r _ ⟨a, b, es', c, d, e, f⟩ => ⟨a, b, es', c, d, fun k => by rw [Int.one_mul]; exact e k, f⟩
theorem with_minus : WithCon (-1) 35 := fun b1 b2 es fs S h1 h2 h3 h4 =>
  (minus_con b1 b2 es fs S h1 h2 h3 (fun x hx => by have := h4 x hx; rwa [show wI x.1 es + -1 * x.2 = wI x.1 es - x.2 by omega] at this)).mono fun S' L' r _ ⟨a, b, es', c, d, e, f⟩ => ⟨a, b, es', c, d, fun k => by rw [e k]; omega, f⟩
end Go.Proofs.YtcnfchchanlepaaGreat
namespace Go.Proofs.YtcnfchchanlepaaGreat
open Go Go.X
/-- Sums over paths. -/
theorem sum_zeroP {α : Type} {P : α → Prop} [DecidablePred P] {f : α → Int} : ∀ {L : List α}, (∀ c ∈ L, ¬ P c) → (L.map fun c => if P c then f c else 0).sum = 0
  | [], _ => rfl
  | c :: L, h => by
    rw [List.map_cons, List.sum_cons, if_neg (h c List.mem_cons_self), sum_zeroP (L := L) fun x hx => h x (List.mem_cons_of_mem _ hx)]; rfl
theorem sum_oneP {α : Type} {P : α → Prop} [DecidablePred P] {f : α → Int} {c0 : α} : ∀ {L : List α}, L.Nodup → c0 ∈ L → (∀ c ∈ L, P c ↔ c = c0) → (L.map fun c => if P c then f c else 0).sum = f c0
  | [], _, h, _ => absurd h List.not_mem_nil
  | c :: L, hn, h, hp => by
    obtain ⟨h1, h2⟩ := List.nodup_cons.1 hn
    rw [List.map_cons, List.sum_cons]
    by_cases hc : c = c0
    · subst hc
      rw [if_pos ((hp c List.mem_cons_self).2 rfl), sum_zeroP (L := L) fun x hx hpx => h1 ((hp x (List.mem_cons_of_mem _ hx)).1 hpx ▸ hx), Int.add_zero]
    · rw [if_neg fun hpc => hc ((hp c List.mem_cons_self).1 hpc), sum_oneP h2 ((List.mem_cons.1 h).resolve_left fun e => hc e.symm) fun x hx => hp x (List.mem_cons_of_mem _ hx)]
      exact Int.zero_add _
theorem sum_addP {α : Type} {f g : α → Int} : ∀ {L : List α}, (L.map fun c => f c + g c).sum = (L.map f).sum + (L.map g).sum
  | [] => rfl
  | c :: L => by rw [List.map_cons, List.map_cons, List.map_cons, List.sum_cons, List.sum_cons, List.sum_cons, sum_addP (L := L)]; omega
theorem sum_congrP {α : Type} {f g : α → Int} {L : List α} (h : ∀ c ∈ L, f c = g c) : (L.map f).sum = (L.map g).sum := by rw [List.map_congr_left h]
theorem sum_nonnegP {α : Type} {f : α → Int} : ∀ {L : List α}, (∀ c ∈ L, 0 ≤ f c) → 0 ≤ (L.map f).sum
  | [], _ => Int.le_refl _
  | c :: L, h => by
    have h1 := h c List.mem_cons_self
    have h2 := sum_nonnegP (L := L) fun x hx => h x (List.mem_cons_of_mem _ hx)
    rw [List.map_cons, List.sum_cons]; omega
theorem sum_leP {α : Type} {f g : α → Int} : ∀ {L : List α}, (∀ c ∈ L, f c ≤ g c) → (L.map f).sum ≤ (L.map g).sum
  | [], _ => Int.le_refl _
  | c :: L, h => by
    have h1 := h c List.mem_cons_self
    have h2 := sum_leP (f := f) (g := g) (L := L) fun x hx => h x (List.mem_cons_of_mem _ hx)
    rw [List.map_cons, List.sum_cons, List.map_cons, List.sum_cons]; omega
theorem sum_memP {α : Type} {f : α → Int} {c0 : α} : ∀ {L : List α}, (∀ c ∈ L, 0 ≤ f c) → c0 ∈ L → f c0 ≤ (L.map f).sum
  | [], _, h => absurd h List.not_mem_nil
  | c :: L, h, hm => by
    have h1 := h c List.mem_cons_self
    have h2 := sum_nonnegP (f := f) (L := L) fun x hx => h x (List.mem_cons_of_mem _ hx)
    rw [List.map_cons, List.sum_cons]
    rcases List.mem_cons.1 hm with e | e
    · subst e; omega
    · have h3 := sum_memP (f := f) (L := L) (fun x hx => h x (List.mem_cons_of_mem _ hx)) e
      omega
/-- A path is a kid of another one. -/
def Kid (q c : List Bs) : Prop := c ≠ [] ∧ c.dropLast = q
instance (q c : List Bs) : Decidable (Kid q c) := by unfold Kid; infer_instance
theorem Kid.iff {q c : List Bs} : Kid q c ↔ ∃ k, c = q ++ [k] := by
  constructor
  · rintro ⟨h1, h2⟩
    exact ⟨c.getLast h1, by rw [← h2]; exact (List.dropLast_concat_getLast h1).symm⟩
  · rintro ⟨k, rfl⟩
    exact ⟨by simp, by simp⟩
/-- The totals of the kids of q among B. -/
def kidS (w : List Bs → Int) (L B : List (List Bs)) (q : List Bs) : Int := (B.map fun c => if Kid q c then totL w L c else 0).sum
theorem kidS_cons (w : List Bs → Int) (L : List (List Bs)) (c : List Bs) (B : List (List Bs)) (q : List Bs) : kidS w L (c :: B) q = (if Kid q c then totL w L c else 0) + kidS w L B q := by simp [kidS]
theorem kidS_app (w : List Bs → Int) (L A B : List (List Bs)) (q : List Bs) : kidS w L (A ++ B) q = kidS w L A q + kidS w L B q := by simp [kidS]
/-- Every beginning of a path is there. -/
def Closed (L : List (List Bs)) : Prop := ∀ p ∈ L, ∀ c, c <+: p → c ∈ L
theorem Can.closed {w : List Bs → Int} {L : List (List Bs)} (h : Can w L) : Closed L := fun p hp c hc => by
  rcases (h.mem p).1 hp with e | e
  · subst e
    rw [List.prefix_nil.1 hc]; exact hp
  · exact (h.mem c).2 (.inr (e.pre hc))
theorem kid_step {w : List Bs → Int} {L : List (List Bs)} (hn : L.Nodup) (hc : Closed L) (q : List Bs) {p : List Bs} (hp : p ∈ L) :
    (if q <+: p then w p else 0) = (if p = q then w p else 0) + (L.map fun c => if Kid q c ∧ c <+: p then w p else 0).sum := by
  by_cases h1 : q <+: p
  · by_cases h2 : p = q
    · rw [if_pos h1, if_pos h2, sum_zeroP, Int.add_zero]
      rintro c _ ⟨hk, hcp⟩
      obtain ⟨k, rfl⟩ := Kid.iff.1 hk
      have := hcp.length_le
      rw [h2] at this; simp at this; omega
    · obtain ⟨k, hk⟩ := kid_of h1 h2
      rw [if_pos h1, if_neg h2, sum_oneP (c0 := q ++ [k]) hn (hc p hp _ hk), Int.zero_add]
      intro c _
      constructor
      · rintro ⟨hkc, hcp⟩
        obtain ⟨k', rfl⟩ := Kid.iff.1 hkc
        rw [kid_one hcp hk]
      · rintro rfl
        exact ⟨Kid.iff.2 ⟨_, rfl⟩, hk⟩
  · rw [if_neg h1, if_neg (fun e : p = q => h1 (by rw [e]; exact List.prefix_refl _)), sum_zeroP]
    · rfl
    · rintro c _ ⟨hk, hcp⟩
      obtain ⟨k, rfl⟩ := Kid.iff.1 hk
      exact h1 ((List.prefix_append _ _).trans hcp)
theorem tot_kids' {w : List Bs → Int} {L : List (List Bs)} (hn : L.Nodup) (hc : Closed L) (q : List Bs) : ∀ {B : List (List Bs)}, (∀ p ∈ B, p ∈ L) →
    totL w B q = (B.map fun p => if p = q then w p else 0).sum + (L.map fun c => if Kid q c then totL w B c else 0).sum
  | [], _ => by
    have h : (L.map fun c => if Kid q c then totL w [] c else 0).sum = 0 := by
      rw [sum_congrP (g := fun c => if False then (0 : Int) else 0) fun c _ => by simp [totL_nil], sum_zeroP fun _ _ h => h]
    rw [h]; rfl
  | p :: B, h => by
    have ih := tot_kids' (w := w) hn hc q (B := B) fun x hx => h x (List.mem_cons_of_mem _ hx)
    have hs := kid_step (w := w) hn hc q (h p List.mem_cons_self)
    have hsum : (L.map fun c => if Kid q c then totL w (p :: B) c else 0).sum = (L.map fun c => if Kid q c ∧ c <+: p then w p else 0).sum + (L.map fun c => if Kid q c then totL w B c else 0).sum := by
      rw [← sum_addP]
      refine sum_congrP fun c _ => ?_
      by_cases hk : Kid q c
      · rw [if_pos hk, if_pos hk, totL_cons]
        by_cases hp : c <+: p
        · rw [if_pos hp, if_pos ⟨hk, hp⟩]
        · rw [if_neg hp, if_neg fun h => hp h.2]
      · rw [if_neg hk, if_neg hk, if_neg fun h => hk h.1]; rfl
    rw [hsum, totL_cons, hs, ih, List.map_cons, List.sum_cons]
    omega
theorem tot_kids {w : List Bs → Int} {L : List (List Bs)} (hn : L.Nodup) (hc : Closed L) {q : List Bs} (hq : q ∈ L) : totL w L q = w q + kidS w L L q := by
  rw [tot_kids' hn hc q (B := L) fun _ h => h, sum_oneP (f := w) (c0 := q) hn hq fun c _ => Iff.rfl]; rfl
theorem totL_pos {w : List Bs → Int} {B : List (List Bs)} (h0 : ∀ p ∈ B, 0 ≤ w p) (q : List Bs) : 0 ≤ totL w B q := sum_nonnegP fun p hp => by
  split
  · exact h0 p hp
  · exact Int.le_refl _
theorem totL_ge {w : List Bs → Int} {B : List (List Bs)} (h0 : ∀ p ∈ B, 0 ≤ w p) {q p : List Bs} (hp : p ∈ B) (hq : q <+: p) : w p ≤ totL w B q := by
  have h := sum_memP (f := fun p => if q <+: p then w p else 0) (c0 := p) (L := B) (fun c hc => by
    split
    · exact h0 c hc
    · exact Int.le_refl _) hp
  rw [if_pos hq] at h
  exact h
theorem totL_le {w : List Bs → Int} {B : List (List Bs)} (h0 : ∀ p ∈ B, 0 ≤ w p) (q : List Bs) : totL w B q ≤ sumL w B := sum_leP fun p hp => by
  split
  · exact Int.le_refl _
  · exact h0 p hp
theorem kidS_pos {w : List Bs → Int} {L B : List (List Bs)} (h0 : ∀ p ∈ L, 0 ≤ w p) (q : List Bs) : 0 ≤ kidS w L B q := sum_nonnegP fun c _ => by
  split
  · exact totL_pos h0 c
  · exact Int.le_refl _
theorem kidS_none {w : List Bs → Int} {L B : List (List Bs)} {q : List Bs} (h : ∀ c ∈ B, ¬ Kid q c) : kidS w L B q = 0 := sum_zeroP h
end Go.Proofs.YtcnfchchanlepaaGreat
namespace Go.Proofs.YtcnfchchanlepaaGreat
open Go Go.X
/-- A part of a path as the program takes it. -/
def nmOk (x : Bs) : Prop := ¬ (x ≠ [63] ∧ nameB x = false)
/-- A tree as Fold makes them: its own weights and its paths. -/
structure GT (w : List Bs → Int) (L : List (List Bs)) : Prop where
  can : Can w L
  pos : ∀ p ∈ L, 0 ≤ w p
  fit : fits w L
  nm : ∀ p ∈ L, ∀ x ∈ p, nmOk x
theorem srt_idx {L : List (List Bs)} (h : L.Pairwise (· < ·)) {i j : Nat} {p q : List Bs} (hp : L[i]? = some p) (hq : L[j]? = some q) (hlt : p < q) : i < j := by
  obtain ⟨h1, rfl⟩ := List.getElem?_eq_some_iff.1 hp
  obtain ⟨h2, rfl⟩ := List.getElem?_eq_some_iff.1 hq
  rw [List.pairwise_iff_getElem] at h
  rcases Nat.lt_trichotomy i j with h3 | h3 | h3
  · exact h3
  · subst h3; exact absurd hlt (plt_irr _)
  · exact absurd (h j i h2 h1 h3) (plt_asymm hlt)
theorem srt_lt {L : List (List Bs)} (h : L.Pairwise (· < ·)) {i j : Nat} {p q : List Bs} (hp : L[i]? = some p) (hq : L[j]? = some q) (hij : i < j) : p < q := by
  obtain ⟨h1, rfl⟩ := List.getElem?_eq_some_iff.1 hp
  obtain ⟨h2, rfl⟩ := List.getElem?_eq_some_iff.1 hq
  rw [List.pairwise_iff_getElem] at h
  exact h i j h1 h2 hij
theorem Can.root {w : List Bs → Int} {L : List (List Bs)} (h : Can w L) : [] ∈ L := (h.mem []).2 (.inl rfl)
theorem Can.head {w : List Bs → Int} {L : List (List Bs)} (h : Can w L) : L[0]? = some [] := by
  obtain ⟨i, hi⟩ := List.mem_iff_getElem?.1 h.root
  cases i with
  | zero => exact hi
  | succ i =>
    have h0 : 0 < L.length := by have := (List.getElem?_eq_some_iff.1 hi).1; omega
    exact absurd (srt_lt h.srt (List.getElem?_eq_getElem h0) hi (Nat.succ_pos i)) (List.not_lt_nil _)
theorem map_setP {α : Type} {L : List α} {f g : α → Int} {j : Nat} {x : α} (hn : L.Nodup) (hx : L[j]? = some x) (hne : ∀ y ∈ L, y ≠ x → f y = g y) : (L.map f).set j (g x) = L.map g := by
  refine List.ext_getElem? fun i => ?_
  rw [List.getElem?_set]
  obtain ⟨hj, rfl⟩ := List.getElem?_eq_some_iff.1 hx
  by_cases h : j = i
  · subst h
    rw [if_pos rfl, if_pos (by rw [List.length_map]; exact hj), List.getElem?_map, List.getElem?_eq_getElem hj]; rfl
  · rw [if_neg h, List.getElem?_map, List.getElem?_map]
    cases hy : L[i]? with
    | none => rfl
    | some y =>
      obtain ⟨hi, rfl⟩ := List.getElem?_eq_some_iff.1 hy
      have : L[i] ≠ L[j] := fun e => h ((List.getElem_inj hn).1 e.symm)
      simp only [Option.map_some]
      rw [hne _ (List.getElem_mem hi) this]
theorem drop_lt {p : List Bs} (h : p ≠ []) : p.dropLast < p := by
  have e : p.dropLast ++ [p.getLast h] = p := List.dropLast_concat_getLast h
  have := lt_app p.dropLast (p.getLast h) []
  rwa [e] at this
theorem name_cat {p : List Bs} (h : p ≠ []) : p.dropLast ++ [nameOf p] = p := by
  unfold nameOf
  rw [List.getLast?_eq_some_getLast h]
  exact List.dropLast_concat_getLast h
theorem name_mem {p : List Bs} (h : p ≠ []) : nameOf p ∈ p := by
  unfold nameOf
  rw [List.getLast?_eq_some_getLast h]
  exact List.getLast_mem h
section
variable {w : List Bs → Int} {L : List (List Bs)}
theorem GT.tot (h : GT w L) {p : List Bs} (hp : p ∈ L) : w p ≤ totL w L p ∧ totL w L p ≤ 1125899906842624 := ⟨totL_ge h.pos hp (List.prefix_refl _), Int.le_trans (totL_le h.pos p) h.fit.1⟩
theorem GT.tot1 (h : GT w L) {p : List Bs} (hp : p ∈ L) (h0 : p ≠ []) : 1 ≤ totL w L p := by
  rcases (h.can.mem p).1 hp with e | ⟨p', hv, hw, hpre⟩
  · exact absurd e h0
  · have h1 := totL_ge (q := p) h.pos ((h.can.mem p').2 (.inr ⟨p', hv, hw, List.prefix_refl _⟩)) hpre
    omega
theorem GT.rest (h : GT w L) {k : Nat} {p : List Bs} (hp : L[k]? = some p) : totL w L p - w p = kidS w L (L.drop (k + 1)) p := by
  rw [tot_kids (srt_nodup h.can.srt) h.can.closed (List.mem_of_getElem? hp)]
  have e : kidS w L L p = kidS w L (L.take (k + 1)) p + kidS w L (L.drop (k + 1)) p := by rw [← kidS_app, List.take_append_drop]
  rw [e, kidS_none (B := L.take (k + 1))]
  · omega
  · rintro c hc hk
    obtain ⟨i, hi, rfl⟩ := List.mem_take_iff_getElem.1 hc
    obtain ⟨x, hx⟩ := Kid.iff.1 hk
    have hlt : p < L[i] := by rw [hx]; exact lt_app p x []
    have := srt_idx h.can.srt hp (List.getElem?_eq_getElem (by omega)) hlt
    omega
theorem rd_step (h : GT w L) {k : Nat} {p : List Bs} (hp : L[k]? = some p) :
    rdNext k (nodeC w L p) (L.take (max k 1)) ((L.take k).map (kidS w L (L.drop k))) = some (L.take (max (k + 1) 1), (L.take (k + 1)).map (kidS w L (L.drop (k + 1)))) := by
  have hpm := List.mem_of_getElem? hp
  have hk : k < L.length := (List.getElem?_eq_some_iff.1 hp).1
  have hn := srt_nodup h.can.srt
  have hrest := h.rest hp
  obtain ⟨t1, t2⟩ := h.tot hpm
  have t0 := h.pos p hpm
  have hdrop : L.drop k = p :: L.drop (k + 1) := by
    obtain ⟨_, rfl⟩ := List.getElem?_eq_some_iff.1 hp
    exact List.drop_eq_getElem_cons hk
  have hp0 : k ≠ 0 → p ≠ [] := fun hk0 e => by
    have := srt_lt h.can.srt h.can.head hp (by omega)
    rw [e] at this
    exact plt_irr _ this
  have hok : rdOk k (nodeC w L p) = true := by
    unfold rdOk inB nodeC
    simp only [Bool.and_eq_true, decide_eq_true_eq]
    refine ⟨⟨t0, by omega⟩, ⟨?_, t2⟩, t1⟩
    split
    · omega
    · rename_i hk0
      exact h.tot1 hpm (hp0 hk0)
  unfold rdNext
  rw [if_neg (by rw [hok]; decide)]
  have htr : (nodeC w L p).total - (nodeC w L p).own = kidS w L (L.drop (k + 1)) p := hrest
  have htot : (nodeC w L p).total = totL w L p := rfl
  rw [htr, htot]
  by_cases hk0 : k = 0
  · subst hk0
    rw [if_pos rfl]
    have e1 : L.take (0 + 1) = [p] := by rw [take_at hp]; simp
    simp [e1]
  have hne := hp0 hk0
  have hdm : p.dropLast ∈ L := h.can.closed p hpm _ (List.dropLast_prefix _)
  have hpar : (nodeC w L p).parent = ((L.idxOf p.dropLast : Nat) : Int) := if_neg hne
  have hname : (nodeC w L p).name = nameOf p := rfl
  obtain ⟨j, hj⟩ : ∃ j, L.idxOf p.dropLast = j := ⟨_, rfl⟩
  have hjl : j < L.length := by rw [← hj]; exact List.idxOf_lt_length_iff.2 hdm
  have hjp : L[j]? = some p.dropLast := by
    subst hj
    rw [List.getElem?_eq_getElem hjl, List.getElem_idxOf]
  have hjk : j < k := srt_idx h.can.srt hjp hp (drop_lt hne)
  rw [hpar, hname, hj]
  have hmax : max k 1 = k := by omega
  have hmax2 : max (k + 1) 1 = k + 1 := by omega
  have hjt : (L.take k)[j]? = some p.dropLast := by rw [List.getElem?_take_of_lt hjk]; exact hjp
  have hgd : ((L.take k).map (kidS w L (L.drop k)) ++ [kidS w L (L.drop (k + 1)) p]).getD j 0 = kidS w L (L.drop k) p.dropLast := by
    rw [List.getD_eq_getElem?_getD, List.getElem?_append_left (by simp; omega), List.getElem?_map, hjt]; rfl
  have hkid : Kid p.dropLast p := ⟨hne, rfl⟩
  have hks : kidS w L (L.drop k) p.dropLast = totL w L p + kidS w L (L.drop (k + 1)) p.dropLast := by rw [hdrop, kidS_cons, if_pos hkid]
  have hkp := kidS_pos (B := L.drop (k + 1)) h.pos p.dropLast
  have hpd : (L.take k).getD j [] = p.dropLast := by rw [List.getD_eq_getElem?_getD, hjt]; rfl
  obtain ⟨q, hq⟩ : ∃ q, L[k - 1]? = some q := at_lt (by omega)
  have hqd : (L.take k).getD (k - 1) [] = q := by rw [List.getD_eq_getElem?_getD, List.getElem?_take_of_lt (by omega), hq]; rfl
  have hvq := h.can.vq p hpm
  have hlen : 0 < p.length := List.length_pos_iff.2 hne
  rw [if_neg hk0, if_neg (by omega), if_neg (h.nm p hpm _ (name_mem hne)), Int.toNat_natCast, hgd, if_neg (by omega), hmax, hpd, hqd, if_neg (by rw [List.length_dropLast]; have := hvq.1; omega), name_cat hne, if_pos (srt_lt h.can.srt hq hp (by omega)), hmax2, take_at hp]
  congr 2
  rw [List.map_append, List.set_append_left _ _ (by simp; omega)]
  congr 1
  rw [show kidS w L (L.drop k) p.dropLast - totL w L p = kidS w L (L.drop (k + 1)) p.dropLast by omega]
  refine map_setP (hn.sublist (List.take_sublist _ _)) hjt fun y hy hyne => ?_
  rw [hdrop, kidS_cons, if_neg fun hk => hyne hk.2.symm, Int.zero_add]
theorem rd_all (h : GT w L) : ∀ (m k : Nat), k + m = L.length → rdAll ((nodesC w L).drop k) k (L.take (max k 1)) ((L.take k).map (kidS w L (L.drop k))) = some (L, L.map fun _ => 0)
  | 0, k, hk => by
    have h1 : (nodesC w L).drop k = [] := List.drop_eq_nil_of_le (by rw [nodesC_len]; omega)
    have h2 : 0 < L.length := List.length_pos_of_mem h.can.root
    rw [h1, rdAll, List.take_of_length_le (by omega), List.take_of_length_le (by omega), List.drop_eq_nil_of_le (by omega)]
    rfl
  | m + 1, k, hk => by
    obtain ⟨p, hp⟩ : ∃ p, L[k]? = some p := at_lt (by omega)
    have hn : (nodesC w L)[k]? = some (nodeC w L p) := by unfold nodesC; rw [List.getElem?_map, hp]; rfl
    rw [rdAll_at hn, rd_step h hp]
    exact rd_all h m (k + 1) (by omega)
theorem readF_C (h : GT w L) : readF (nodesC w L) = some (L, L.map fun _ => 0) := by
  have h2 : 0 < L.length := List.length_pos_of_mem h.can.root
  have h0 : (nodesC w L).getD 0 ⟨0, [], 0, 0⟩ = nodeC w L [] := by
    unfold nodesC
    rw [List.getD_eq_getElem?_getD, List.getElem?_map, h.can.head]; rfl
  unfold readF
  rw [if_pos]
  · have := rd_all h L.length 0 (by omega)
    rw [List.drop_zero] at this
    have e : L.take (max 0 1) = [[]] := by
      have := take_at h.can.head
      simpa using this
    rw [e] at this
    exact this
  · unfold rdTop
    rw [h0, nodesC_len]
    exact ⟨h2, h.fit.2, rfl, rfl⟩
theorem validB_C (h : GT w L) : validB (nodesC w L) = true := by
  unfold validB
  rw [readF_C h]
  simp
theorem wF_C (h : GT w L) (g : Nd → Int) : wF g (nodesC w L) = L.map fun p => (pth p, g (nodeC w L p)) := by
  have : ∀ (M N : List (List Bs)), (M.zip (M.map (nodeC w N))).map (fun x : List Bs × Nd => (pth x.1, g x.2)) = M.map fun p => (pth p, g (nodeC w N p)) := fun M N => by
    induction M with
    | nil => rfl
    | cons a M ih => rw [List.map_cons, List.zip_cons_cons, List.map_cons, List.map_cons, ih]
  unfold wF
  rw [readF_C h]
  exact this L L
theorem wI_map {f : List Bs → Int} : ∀ {M : List (List Bs)}, M.Nodup → (∀ p ∈ M, VQ p) → ∀ q, VQ q → wI (pth q) (M.map fun p => (pth p, f p)) = if q ∈ M then f q else 0
  | [], _, _, q, _ => by simp [wI_nil]
  | p :: M, hn, hv, q, hq => by
    obtain ⟨h1, h2⟩ := List.nodup_cons.1 hn
    rw [List.map_cons, wI_cons, wI_map h2 (fun x hx => hv x (List.mem_cons_of_mem _ hx)) q hq]
    by_cases he : p = q
    · subst he
      rw [if_pos rfl, if_neg h1, if_pos List.mem_cons_self]; omega
    · rw [if_neg fun e => he (pth_inj (hv p List.mem_cons_self) hq e)]
      by_cases hm : q ∈ M
      · rw [if_pos hm, if_pos (List.mem_cons_of_mem _ hm)]; omega
      · rw [if_neg hm, if_neg fun h => (List.mem_cons.1 h).elim (fun e => he e.symm) hm]; omega
/-- The weights that the program reads out of such a tree are its own weights, and its totals. -/
theorem wT_own (h : GT w L) (h0 : ∀ p, VQ p → 0 ≤ w p) {q : List Bs} (hq : VQ q) : wT Nd.own (nodesC w L) q = w q := by
  unfold wT
  rw [wF_C h, wI_map (srt_nodup h.can.srt) h.can.vq q hq]
  by_cases hm : q ∈ L
  · rw [if_pos hm]; rfl
  · rw [if_neg hm]
    have h1 := h0 q hq
    by_cases h2 : 0 < w q
    · exact absurd ((h.can.mem q).2 (.inr ⟨q, hq, h2, List.prefix_refl _⟩)) hm
    · omega
theorem wT_total (h : GT w L) {q : List Bs} (hq : VQ q) : wT Nd.total (nodesC w L) q = totL w L q := by
  unfold wT
  rw [wF_C h, wI_map (srt_nodup h.can.srt) h.can.vq q hq]
  by_cases hm : q ∈ L
  · rw [if_pos hm]; rfl
  · rw [if_neg hm, totL_none fun p hp hpre => hm (h.can.closed p hp q hpre)]
end
end Go.Proofs.YtcnfchchanlepaaGreat
namespace Go.Proofs.YtcnfchchanlepaaGreat
open Go Go.X
/-- Weights that are the same on paths make the same trees. -/
theorem Live.congr {w u : List Bs → Int} (h : ∀ p, VQ p → w p = u p) {p : List Bs} (hl : Live w p) : Live u p := by
  obtain ⟨p', h1, h2, h3⟩ := hl
  exact ⟨p', h1, by rw [← h p' h1]; exact h2, h3⟩
theorem Can.congr {w u : List Bs → Int} (h : ∀ p, VQ p → w p = u p) {L : List (List Bs)} (hc : Can w L) : Can u L :=
  ⟨hc.srt, fun p => by
    rw [hc.mem p]
    exact ⟨fun hp => hp.imp id (Live.congr h), fun hp => hp.imp id (Live.congr fun p hv => (h p hv).symm)⟩⟩
theorem sumL_congr {w u : List Bs → Int} {L : List (List Bs)} (h : ∀ p ∈ L, w p = u p) : sumL w L = sumL u L := sum_congrP h
theorem totL_congr {w u : List Bs → Int} {L : List (List Bs)} (h : ∀ p ∈ L, w p = u p) (q : List Bs) : totL w L q = totL u L q := sum_congrP fun p hp => by rw [h p hp]
theorem nodesC_congr {w u : List Bs → Int} {L : List (List Bs)} (h : ∀ p ∈ L, w p = u p) : nodesC w L = nodesC u L := by
  unfold nodesC
  refine List.map_congr_left fun p hp => ?_
  unfold nodeC
  rw [h p hp, totL_congr h]
theorem GT.congr {w u : List Bs → Int} (h : ∀ p, VQ p → w p = u p) {L : List (List Bs)} (hg : GT w L) : GT u L := by
  have h1 : ∀ p ∈ L, w p = u p := fun p hp => h p (hg.can.vq p hp)
  refine ⟨hg.can.congr h, fun p hp => by rw [← h1 p hp]; exact hg.pos p hp, ?_, hg.nm⟩
  have := hg.fit
  unfold fits at *
  rw [← sumL_congr h1]; exact this
theorem GT.uniq {w u : List Bs → Int} (h : ∀ p, VQ p → w p = u p) {L M : List (List Bs)} (h1 : Can w L) (h2 : Can u M) : nodesC w L = nodesC u M := by
  have e := Can.eq h1 h2 h
  subst e
  exact nodesC_congr fun p hp => h p (h1.vq p hp)
/-- A smaller weight's tree lies within a greater one's. -/
theorem sumL_mono {w u : List Bs → Int} {N : List (List Bs)} : ∀ {M : List (List Bs)}, N.Nodup → (∀ p ∈ N, p ∈ M) → (∀ p ∈ N, u p ≤ w p) → (∀ p ∈ M, 0 ≤ w p) → sumL u N ≤ sumL w M := by
  induction N with
  | nil => intro M _ _ _ h; exact sum_nonnegP h
  | cons a N ih =>
    intro M hn h1 h2 h3
    obtain ⟨n1, n2⟩ := List.nodup_cons.1 hn
    have hm := h1 a List.mem_cons_self
    have hi := ih (M := M.erase a) n2 (fun x hx => (List.mem_erase_of_ne (fun e => n1 (by subst e; exact hx))).2 (h1 x (List.mem_cons_of_mem _ hx))) (fun x hx => h2 x (List.mem_cons_of_mem _ hx)) (fun x hx => h3 x (List.mem_of_mem_erase hx))
    have hp : sumL w M = sumL w (a :: M.erase a) := sum_perm ((List.perm_cons_erase hm).map _)
    have ha := h2 a List.mem_cons_self
    rw [hp, sumL_cons, sumL_cons]; omega
theorem GT.mono {w u : List Bs → Int} {M N : List (List Bs)} (hw : GT w M) (hu : Can u N) (h0 : ∀ p, VQ p → 0 ≤ u p) (hle : ∀ p, VQ p → u p ≤ w p) : GT u N := by
  have hsub : ∀ p ∈ N, p ∈ M := fun p hp => (hw.can.mem p).2 (((hu.mem p).1 hp).imp id fun ⟨p', h1, h2, h3⟩ => ⟨p', h1, by have := hle p' h1; omega, h3⟩)
  refine ⟨hu, fun p hp => h0 p (hu.vq p hp), ⟨?_, ?_⟩, fun p hp => hw.nm p (hsub p hp)⟩
  · exact Int.le_trans (sumL_mono (srt_nodup hu.srt) hsub (fun p hp => hle p (hu.vq p hp)) hw.pos) hw.fit.1
  · exact Nat.le_trans (nodup_sub_len (srt_nodup hu.srt) hsub) hw.fit.2
/-- There is a tree of any weights that some list holds. -/
theorem can_ex {es : List (Pth × Int)} (hW : WE es) (hP : PE es) : ∃ L, Can (fun p => wI (pth p) es) L := ⟨_, grow_can (kidsF_ks hW (List.Perm.refl _) hP)⟩
section
variable {l : List Sym}
/-- The weights of stacks, gathered. -/
theorem stk_es (hl : SymsOk l) {ys : List Sk} (hs : sksB ys = true) : ∃ es, WE es ∧ PE es ∧ es.length ≤ ys.length ∧ ∀ k, wI k es = wI k (stkE l ys) := by
  have h : ∀ j, j ≤ ys.length → ∃ es, WE es ∧ PE es ∧ es.length ≤ j ∧ ∀ k, wI k es = wI k (stkE l (ys.take j)) := by
    intro j
    induction j with
    | zero => exact fun _ => ⟨[], WE.nil, fun e h => absurd h List.not_mem_nil, Nat.le_refl _, fun k => rfl⟩
    | succ j ih =>
      intro hj
      obtain ⟨es, hW, hP, hle, hw⟩ := ih (by omega)
      obtain ⟨y, hy⟩ := at_lt (l := ys) (k := j) (by omega)
      have hvq := pathOf_vq hl hs (List.mem_of_getElem? hy)
      have hok : KC.ok (pth (pathOf l y)) := pad_len hvq.1
      exact ⟨_, hW.ups hok _, ups_pe hP hvq _, by have := ups_len (pth (pathOf l y)) (wI (pth (pathOf l y)) es + y.weight) es; omega, ups_stk hW hw hy⟩
  obtain ⟨es, h1, h2, h3, h4⟩ := h ys.length (Nat.le_refl _)
  rw [List.take_of_length_le (Nat.le_refl _)] at h4
  exact ⟨es, h1, h2, h3, h4⟩
theorem wS_pos {ys : List Sk} (hs : sksB ys = true) (p : List Bs) : 0 ≤ wS l ys p := (stk_bd (l := l) hs (fun _ h => h) (pth p)).1
theorem named_nm (hl : SymsOk l) (v a : Int) : nmOk (namedV l v a) := by
  rintro ⟨h1, h2⟩
  unfold namedV at h1 h2
  cases h : l.find? (symB v a) with
  | none => rw [h] at h1; exact h1 rfl
  | some s =>
    rw [h] at h2
    obtain ⟨i, hi⟩ := List.mem_iff_getElem?.1 (List.mem_of_find?_eq_some h)
    have := (hl.1 i s (List.getElem?_eq_some_iff.1 hi).1 hi).1.2.2.2
    simp only at h2
    rw [this] at h2; cases h2
theorem wS_path {ys : List Sk} (hl : SymsOk l) (hs : sksB ys = true) {p : List Bs} (hp : VQ p) (h : 0 < wS l ys p) : ∃ y ∈ ys, p = pathOf l y := by
  have hk : pth p ∈ (stkE l ys).map (·.1) := by
    by_cases hk : pth p ∈ (stkE l ys).map (·.1)
    · exact hk
    · unfold wS at h; rw [wI_none hk] at h; exact absurd h (Int.lt_irrefl _)
  obtain ⟨x, hx, hxe⟩ := List.mem_map.1 hk
  obtain ⟨y, hy, rfl⟩ := List.mem_map.1 hx
  exact ⟨y, hy, pth_inj hp (pathOf_vq hl hs hy) hxe.symm⟩
theorem fold_gt (hl : SymsOk l) {ys : List Sk} (hs : sksB ys = true) {M : List (List Bs)} (hM : Can (wS l ys) M) : GT (wS l ys) M := by
  obtain ⟨es, h1, h2, h3, h4⟩ := stk_es hl hs
  have he : ∀ p, VQ p → wS l ys p = wI (pth p) es := fun p _ => (h4 _).symm
  have hf := fold_fits hl hs h1 h2 h3 h4 (hM.congr he)
  have he2 : sumL (fun p => wI (pth p) es) M = sumL (wS l ys) M := sumL_congr fun p hp => (he p (hM.vq p hp)).symm
  refine ⟨hM, fun p _ => wS_pos hs p, ⟨by rw [← he2]; exact hf.1, hf.2⟩, fun p hp x hx => ?_⟩
  rcases (hM.mem p).1 hp with e | ⟨p', hv, hw, hpre⟩
  · subst e; exact absurd hx List.not_mem_nil
  · obtain ⟨y, _, rfl⟩ := wS_path hl hs hv hw
    obtain ⟨a, _, rfl⟩ := List.mem_map.1 (hpre.subset hx)
    exact named_nm hl _ _
/-- The tree of stacks. -/
theorem fold_ex (hl : SymsOk l) {ys : List Sk} (hs : sksB ys = true) : ∃ M, GT (wS l ys) M := by
  obtain ⟨es, h1, h2, h3, h4⟩ := stk_es hl hs
  obtain ⟨M, hM⟩ := can_ex h1 h2
  exact ⟨M, fold_gt hl hs (hM.congr fun p _ => h4 _)⟩
theorem wS_app (a b : List Sk) (p : List Bs) : wS l (a ++ b) p = wS l a p + wS l b p := by
  unfold wS stkE
  rw [List.map_append, wI_app]
theorem sks_app {a b : List Sk} (ha : sksB a = true) (hb : sksB b = true) (h : a.length + b.length ≤ 100) : sksB (a ++ b) = true := by
  unfold sksB at *
  simp only [Bool.and_eq_true, decide_eq_true_eq, List.all_append, List.length_append] at *
  exact ⟨⟨ha.1, hb.1⟩, h⟩
/-- What Fold answers, where all is well. -/
theorem fold_ok (hl : SymsOk l) {ys : List Sk} (hs : sksB ys = true) {M : List (List Bs)} (hM : GT (wS l ys) M) {v : Value} {ec : Int} {L' : Blocks} (h : FoldR l ys v ec L') : ec = 0 ∧ Ows 51 v (nodesC (wS l ys) M) L' := by
  rcases h with ⟨_, h2, N, h3, h4⟩ | ⟨h1, _⟩
  · have e := Can.eq h3 hM.can fun _ _ => rfl
    subst e
    exact ⟨h2, h4⟩
  · exact absurd ⟨hl, hs⟩ h1
end
/-- What Merge and Sub answer at such trees. -/
theorem comb_ok {s : Int} {w u x : List Bs → Int} {L K N : List (List Bs)} (h1 : GT w L) (h2 : GT u K) (w0 : ∀ p, VQ p → 0 ≤ w p) (u0 : ∀ p, VQ p → 0 ≤ u p) (h3 : GT x N) (x0 : ∀ p, VQ p → 0 ≤ x p) (hx : ∀ p, VQ p → x p = w p + s * u p) {v : Value} {ec : Int} {L' : Blocks}
    (h : CombR s (nodesC w L) (nodesC u K) v ec L') : ec = 0 ∧ Ows 51 v (nodesC x N) L' := by
  have he : ∀ p, VQ p → wT Nd.own (nodesC w L) p + s * wT Nd.own (nodesC u K) p = x p := fun p hp => by rw [wT_own h1 w0 hp, wT_own h2 u0 hp, hx p hp]
  rcases h with ⟨h, _⟩ | ⟨_, ⟨⟨p, hp, hneg⟩, _⟩ | ⟨_, M, hM, h⟩⟩
  · exact absurd ⟨validB_C h1, validB_C h2⟩ h
  · rw [he p hp] at hneg
    have := x0 p hp
    omega
  · have e := Can.eq hM h3.can he
    subst e
    have hsame : nodesC (fun p => wT Nd.own (nodesC w L) p + s * wT Nd.own (nodesC u K) p) M = nodesC x M := nodesC_congr fun p hp => he p (hM.vq p hp)
    rcases h with ⟨_, h5, h6⟩ | ⟨h4, _⟩
    · exact ⟨h5, by rw [← hsame]; exact h6⟩
    · refine absurd ?_ h4
      have e2 : sumL (fun p => wT Nd.own (nodesC w L) p + s * wT Nd.own (nodesC u K) p) M = sumL x M := sumL_congr fun p hp => he p (hM.vq p hp)
      exact ⟨by rw [e2]; exact h3.fit.1, h3.fit.2⟩
theorem comb_no {s : Int} {w u : List Bs → Int} {L K : List (List Bs)} (h1 : GT w L) (h2 : GT u K) (w0 : ∀ p, VQ p → 0 ≤ w p) (u0 : ∀ p, VQ p → 0 ≤ u p) {p : List Bs} (hp : VQ p) (hn : w p + s * u p < 0) {v : Value} {ec : Int} {L' : Blocks}
    (h : CombR s (nodesC w L) (nodesC u K) v ec L') : ec = 180 ∧ v = .slice none 0 0 ∧ L' = [] := by
  rcases h with ⟨_, h⟩ | ⟨_, ⟨_, h⟩ | ⟨h, _⟩⟩
  · exact h
  · exact h
  · have := h p hp
    rw [wT_own h1 w0 hp, wT_own h2 u0 hp] at this
    omega
end Go.Proofs.YtcnfchchanlepaaGreat
namespace Go.Proofs.YtcnfchchanlepaaGreat
open Go Go.X
/-- Three integers, and six. -/
structure A3 where
  a : Int
  b : Int
  c : Int
structure A6 where
  a : Int
  b : Int
  c : Int
  d : Int
  e : Int
  f : Int
instance : Inhabited A3 := ⟨⟨0, 0, 0⟩⟩
instance : Inhabited A6 := ⟨⟨0, 0, 0, 0, 0, 0⟩⟩
instance : Cl A3 := ⟨3, fun x => [.int .i64 x.a, .int .i64 x.b, .int .i64 x.c], fun _ => rfl, fun _ u hu => by simp at hu; rcases hu with rfl | rfl | rfl <;> rfl⟩
instance : Cl A6 := ⟨6, fun x => [.int .i64 x.a, .int .i64 x.b, .int .i64 x.c, .int .i64 x.d, .int .i64 x.e, .int .i64 x.f], fun _ => rfl, fun _ u hu => by simp at hu; rcases hu with rfl | rfl | rfl | rfl | rfl | rfl <;> rfl⟩
def pickI (c n : Int) : Int := (if c < 0 then -(c + 1) else c) % n
theorem pickI_bd (c n : Int) (hn : 0 < n) : 0 ≤ pickI c n ∧ pickI c n ≤ n - 1 := by
  have h1 := Int.emod_nonneg (if c < 0 then -(c + 1) else c) (show n ≠ 0 by omega)
  have h2 := Int.emod_lt_of_pos (if c < 0 then -(c + 1) else c) hn
  unfold pickI
  omega
/-- The five names: main, read, a, b1, wait. -/
def nm5 : List Bs := [[109, 97, 105, 110], [114, 101, 97, 100], [97], [98, 49], [119, 97, 105, 116]]
def nmI (n : Int) : Bs := nm5.getD n.toNat []
def symT (v : Nat) (at_ : Int) (x : A3) : Sym := ⟨v, at_ + pickI x.a 4, at_ + pickI x.a 4 + 1 + pickI x.b 8, nmI (pickI x.c 5)⟩
/-- The symbols of a version, from a place on. -/
def tabV (xs : List A3) (v : Nat) : Nat → Nat → Int → List Sym
  | 0, _, _ => []
  | f + 1, i, at_ => match xs[i]? with
    | none => []
    | some x => symT v at_ x :: tabV xs v f (i + 3) (symT v at_ x).to
def tableF (xs : List A3) : List Sym := tabV xs 0 5 0 0 ++ (tabV xs 1 5 1 0 ++ tabV xs 2 5 2 0)
theorem nmI_ok (n : Int) (h : 0 ≤ n ∧ n ≤ 4) : nameB (nmI n) = true := by
  have : ∀ k : Nat, k < 5 → nameB (nm5.getD k []) = true := by decide
  exact this n.toNat (by omega)
/-- Symbols in order, each of them well. -/
def SymCh : List Sym → Prop
  | [] => True
  | [a] => symOk a
  | a :: b :: r => symOk a ∧ ¬ 0 < pairI a b ∧ SymCh (b :: r)
theorem SymCh.tail {a : Sym} {r : List Sym} (h : SymCh (a :: r)) : SymCh r := by
  cases r with
  | nil => trivial
  | cons b r => exact h.2.2
theorem SymCh.hd {a : Sym} {r : List Sym} (h : SymCh (a :: r)) : symOk a := by
  cases r with
  | nil => exact h
  | cons b r => exact h.1
theorem SymCh.at : ∀ {l : List Sym}, SymCh l → ∀ i s, l[i]? = some s → symOk s ∧ ∀ p, 0 < i → l[i - 1]? = some p → ¬ 0 < pairI p s
  | [], _, i, s, hs => by simp at hs
  | a :: r, h, 0, s, hs => by
    simp only [List.getElem?_cons_zero, Option.some.injEq] at hs
    subst hs
    exact ⟨h.hd, fun p h0 => absurd h0 (Nat.lt_irrefl _)⟩
  | a :: r, h, i + 1, s, hs => by
    rw [List.getElem?_cons_succ] at hs
    obtain ⟨h1, h2⟩ := SymCh.at h.tail i s hs
    refine ⟨h1, fun p _ hp => ?_⟩
    cases i with
    | zero =>
      cases r with
      | nil => simp at hs
      | cons b r =>
        simp only [List.getElem?_cons_zero, Option.some.injEq] at hs
        subst hs
        simp only [Nat.zero_add, Nat.sub_self, List.getElem?_cons_zero, Option.some.injEq] at hp
        subst hp
        exact h.2.1
    | succ i =>
      rw [Nat.add_sub_cancel, List.getElem?_cons_succ] at hp
      exact h2 p (Nat.succ_pos i) (by simpa using hp)
theorem SymCh.ok {l : List Sym} (h : SymCh l) (hl : l.length ≤ 100) : SymsOk l := ⟨fun i s _ hs => h.at i s hs, hl⟩
/-- What one version's symbols look like. -/
structure RunV (v : Nat) (at_ : Int) (l : List Sym) : Prop where
  ver : ∀ s ∈ l, s.version = v
  ch : SymCh l
  lo : ∀ s ∈ l, at_ ≤ s.from_
  hi : ∀ s ∈ l, s.from_ < s.to ∧ s.to ≤ 60
theorem pair_same {a b : Sym} (h : a.version = b.version) (h2 : a.to ≤ b.from_) : ¬ 0 < pairI a b := by
  have e1 : cmpI a.version b.version = 0 := by unfold cmpI; rw [if_neg (by omega), if_neg (by omega)]
  have e2 : cmpI a.to b.from_ ≤ 0 := by unfold cmpI; split <;> (try split) <;> omega
  unfold pairI orI orI orI
  rw [if_pos e1]
  split <;> omega
theorem pair_less {a b : Sym} (h : a.version < b.version) : ¬ 0 < pairI a b := by
  have e1 : cmpI a.version b.version = -1 := by unfold cmpI; rw [if_pos h]
  unfold pairI orI
  rw [e1, if_neg (by omega)]
  omega
theorem symT_ok {v : Nat} (hv : v ≤ 2) {at_ : Int} (h0 : 0 ≤ at_) (h1 : at_ ≤ 48) (x : A3) : symOk (symT v at_ x) := by
  have a1 := pickI_bd x.a 4 (by decide)
  have a2 := pickI_bd x.b 8 (by decide)
  have a3 := pickI_bd x.c 5 (by decide)
  unfold symOk symT inB
  simp only [decide_eq_true_eq]
  exact ⟨by omega, by omega, by omega, nmI_ok _ (by omega)⟩
theorem tabV_run (xs : List A3) {v : Nat} (hv : v ≤ 2) : ∀ (f i : Nat) (at_ : Int), 0 ≤ at_ → at_ + 11 * f ≤ 59 → RunV v at_ (tabV xs v f i at_)
  | 0, _, _, _, _ => ⟨fun _ h => absurd h List.not_mem_nil, trivial, fun _ h => absurd h List.not_mem_nil, fun _ h => absurd h List.not_mem_nil⟩
  | f + 1, i, at_, h0, h1 => by
    rw [tabV]
    cases hx : xs[i]? with
    | none => exact ⟨fun _ h => absurd h List.not_mem_nil, trivial, fun _ h => absurd h List.not_mem_nil, fun _ h => absurd h List.not_mem_nil⟩
    | some x =>
      show RunV v at_ (symT v at_ x :: tabV xs v f (i + 3) (symT v at_ x).to)
      have a1 := pickI_bd x.a 4 (by decide)
      have a2 := pickI_bd x.b 8 (by decide)
      have hto : (symT v at_ x).to = at_ + pickI x.a 4 + 1 + pickI x.b 8 := rfl
      have hfr : (symT v at_ x).from_ = at_ + pickI x.a 4 := rfl
      have ih := tabV_run xs hv f (i + 3) (symT v at_ x).to (by omega) (by omega)
      refine ⟨fun s hs => ?_, ?_, fun s hs => ?_, fun s hs => ?_⟩
      · rcases List.mem_cons.1 hs with rfl | hs
        · rfl
        · exact ih.ver s hs
      · cases hr : tabV xs v f (i + 3) (symT v at_ x).to with
        | nil => exact symT_ok hv h0 (by omega) x
        | cons b r =>
          rw [hr] at ih
          exact ⟨symT_ok hv h0 (by omega) x, pair_same (ih.ver b List.mem_cons_self).symm (ih.lo b List.mem_cons_self), ih.ch⟩
      · rcases List.mem_cons.1 hs with rfl | hs
        · omega
        · have := ih.lo s hs; omega
      · rcases List.mem_cons.1 hs with rfl | hs
        · omega
        · exact ih.hi s hs
theorem SymCh.app : ∀ {l m : List Sym}, SymCh l → SymCh m → (∀ a ∈ l, ∀ b ∈ m, a.version < b.version) → SymCh (l ++ m)
  | [], _, _, h2, _ => h2
  | [a], m, h1, h2, h => by
    cases m with
    | nil => exact h1
    | cons b m => exact ⟨h1, pair_less (h a List.mem_cons_self b List.mem_cons_self), h2⟩
  | a :: b :: r, m, h1, h2, h => ⟨h1.1, h1.2.1, SymCh.app (l := b :: r) h1.2.2 h2 fun x hx => h x (List.mem_cons_of_mem _ hx)⟩
theorem tabV_len (xs : List A3) (v : Nat) : ∀ (f i : Nat) (at_ : Int), (tabV xs v f i at_).length ≤ f
  | 0, _, _ => Nat.le_refl _
  | f + 1, i, at_ => by
    rw [tabV]
    cases xs[i]? with
    | none => exact Nat.zero_le _
    | some x => exact Nat.succ_le_succ (tabV_len xs v f _ _)
theorem tableF_len (xs : List A3) : (tableF xs).length ≤ 15 := by
  have h0 := tabV_len xs 0 5 0 0
  have h1 := tabV_len xs 1 5 1 0
  have h2 := tabV_len xs 2 5 2 0
  unfold tableF
  simp only [List.length_append]
  omega
theorem tableF_ch (xs : List A3) : SymCh (tableF xs) := by
  have h0 := tabV_run xs (v := 0) (by decide) 5 0 0 (by decide) (by decide)
  have h1 := tabV_run xs (v := 1) (by decide) 5 1 0 (by decide) (by decide)
  have h2 := tabV_run xs (v := 2) (by decide) 5 2 0 (by decide) (by decide)
  refine h0.ch.app (h1.ch.app h2.ch fun a ha b hb => ?_) fun a ha b hb => ?_
  · rw [h1.ver a ha, h2.ver b hb]; decide
  · rw [h0.ver a ha]
    rcases List.mem_append.1 hb with hb | hb
    · rw [h1.ver b hb]; decide
    · rw [h2.ver b hb]; decide
theorem tableF_ok (xs : List A3) : SymsOk (tableF xs) := (tableF_ch xs).ok (by have := tableF_len xs; omega)
/-- One stack. -/
def mkN (x : A6) : Nat := (pickI (x.a.tdiv 4) 5).toNat
def mkFr (x : A6) : List Int := (([x.c, x.d, x.e, x.f].take (mkN x)).map fun z => pickI z 25)
def mk1 (x : A6) : Sk := ⟨pickI x.a 4, mkFr x, 1 + pickI x.b 20⟩
def madeF (ls : List A6) : List Sk := (ls.take 10).map mk1
theorem madeF_len (ls : List A6) : (madeF ls).length ≤ 10 := by unfold madeF; rw [List.length_map, List.length_take]; omega
theorem mkN_le (x : A6) : mkN x ≤ 4 := by
  have := pickI_bd (x.a.tdiv 4) 5 (by decide)
  unfold mkN; omega
theorem mkFr_len (x : A6) : (mkFr x).length = mkN x := by
  have := mkN_le x
  unfold mkFr
  simp only [List.length_map, List.length_take, List.length_cons, List.length_nil]
  omega
theorem mk1_ok (x : A6) : skB (mk1 x) = true := by
  have a1 := pickI_bd x.a 4 (by decide)
  have a2 := pickI_bd x.b 20 (by decide)
  have a3 := mkFr_len x
  have a4 := mkN_le x
  unfold skB mk1 inB
  simp only [Bool.and_eq_true, decide_eq_true_eq, Bool.not_eq_true', List.any_eq_false]
  refine ⟨⟨⟨by omega, by omega⟩, by omega⟩, fun z hz => ?_⟩
  obtain ⟨y, _, rfl⟩ := List.mem_map.1 hz
  have := pickI_bd y 25 (by decide)
  unfold isOut inB
  simp only [Bool.not_eq_eq_eq_not, Bool.not_true, decide_eq_false_iff_not]
  omega
theorem madeF_ok (ls : List A6) : sksB (madeF ls) = true := by
  have := madeF_len ls
  unfold sksB
  simp only [Bool.and_eq_true, decide_eq_true_eq, List.all_eq_true]
  refine ⟨fun y hy => ?_, by omega⟩
  obtain ⟨x, _, rfl⟩ := List.mem_map.1 hy
  exact mk1_ok x
end Go.Proofs.YtcnfchchanlepaaGreat
namespace Go.Proofs.YtcnfchchanlepaaGreat
open Go Go.X
set_option maxRecDepth 10000
set_option linter.unusedVariables false
attribute [local irreducible] Code.wpIn wpListIn Exit.then Exit.inBlock X.Out X.Back X.W X.Ev X.Con X.BinV X.Wh X.Wn X.Wq
theorem rpick_con (c n : Int) (S : SH) (hc : i64 c) (hn : 0 < n) : Con Tryz.prog 26 #[.int .i64 c, .int .i64 n] S [] (X.Pure S (.int .i64 (pickI c n))) := by
  unfold i64 at hc
  refine con_of (args := [.int .i64 c, .int .i64 n]) Tryz.func26 rfl Tryz.ntmps26 rfl fun w => ?_
  unfold pickI
  by_cases h : c < 0
  · rw [if_pos h]
    (repeat (first | refine Jz ?_ | intro _))
    exact o_ret Tryz.results26 rfl (List.Sublist.refl _) (pure_mk _ _)
  · rw [if_neg h]
    (repeat (first | refine Jz ?_ | intro _))
    exact o_ret Tryz.results26 rfl (List.Sublist.refl _) (pure_mk _ _)
theorem cmpP_eq0 {p q : List Bs} : cmpP p q = 0 ↔ p = q := by
  rw [cmpP_lt]
  constructor
  · intro h
    rcases plt_tri p q with h1 | h1 | h1
    · rw [if_pos h1] at h; cases h
    · exact h1
    · rw [if_neg (plt_asymm h1), if_pos h1] at h; cases h
  · rintro rfl
    rw [if_neg (plt_irr _), if_neg (plt_irr _)]
theorem cmpS_lt {x y : Bs} (h : x < y) : cmpS x y = -1 := by unfold cmpS; rw [if_pos h]
theorem cmpS_gt {x y : Bs} (h : ¬ x < y) (h2 : y < x) : cmpS x y = 1 := by unfold cmpS; rw [if_neg h, if_pos h2]
theorem cmpS_eq {x y : Bs} (h : ¬ x < y) (h2 : ¬ y < x) : cmpS x y = 0 := by unfold cmpS; rw [if_neg h, if_neg h2]
theorem rCompare_con (p q : List Bs) (A B : Option Addr) (c d : Nat) (S : SH) (hA : At S A (toS p)) (hB : At S B (toS q)) (hp : p.length ≤ 1000000) (hq : q.length ≤ 1000000) : Con Tryz.prog 31 #[.slice A (toS p).length c, .slice B (toS q).length d] S [] (X.Pure S (.int .i64 (cmpP p q))) := by
  refine con_of (args := [.slice A (toS p).length c, .slice B (toS q).length d]) Tryz.func31 rfl Tryz.ntmps31 rfl fun w => ?_
  have lp := toS_len p
  have lq := toS_len q
  (repeat (first | refine Jz ?_ | intro _))
  refine c_loop (fun m S' L F => S' = S ∧ L = [] ∧ ∃ (k : Nat), m = p.length - k ∧ k ≤ p.length ∧ k ≤ q.length ∧ cmpP p q = cmpP (p.drop k) (q.drop k) ∧ F = [(0, .slice A (toS p).length c), (1, .slice B (toS q).length d), (5, .int .i64 k)]) ⟨rfl, rfl, 0, rfl, by omega, by omega, rfl, rfl⟩ sbF (List.nil_sublist _) ?_
  rintro m S' L F ⟨rfl, rfl, k, rfl, hk1, hk2, hi, rfl⟩
  by_cases hlt : k < p.length
  rotate_left
  · have e1 : p.drop k = [] := List.drop_eq_nil_of_le (by omega)
    by_cases hq2 : p.length < q.length
    · obtain ⟨y, t, e2⟩ : ∃ y t, q.drop k = y :: t := ⟨_, _, List.drop_eq_getElem_cons (by omega)⟩
      (repeat (first | refine Jz ?_ | intro _))
      exact o_ret Tryz.results31 rfl (List.nil_sublist _) ⟨rfl, rfl, by rw [hi, e1, e2]; rfl⟩
    · have e2 : q.drop k = [] := List.drop_eq_nil_of_le (by omega)
      (repeat (first | refine Jz ?_ | intro _))
      exact o_ret Tryz.results31 rfl (List.nil_sublist _) ⟨rfl, rfl, by rw [hi, e1, e2]; rfl⟩
  obtain ⟨x, hx⟩ : ∃ x, p[k]? = some x := ⟨_, List.getElem?_eq_getElem hlt⟩
  by_cases hq2 : k < q.length
  rotate_left
  · have e2 : q.drop k = [] := List.drop_eq_nil_of_le (by omega)
    obtain ⟨y, t, e1⟩ : ∃ y t, p.drop k = y :: t := ⟨_, _, List.drop_eq_getElem_cons hlt⟩
    (repeat (first | refine Jz ?_ | intro _))
    exact o_ret Tryz.results31 rfl (List.nil_sublist _) ⟨rfl, rfl, by rw [hi, e1, e2]; rfl⟩
  obtain ⟨y, hy⟩ : ∃ y, q[k]? = some y := ⟨_, List.getElem?_eq_getElem hq2⟩
  have hstep := cmpP_step hx hy
  by_cases h1 : x < y
  · rw [cmpS_lt h1, if_neg (by decide)] at hstep
    (repeat (first | refine Jz ?_ | intro _))
    (repeat (first | (apply q_idx hA; (case hg => rfl); (case hd => rfl); (case hx => rfl); (case hi => rfl); (case hm => rfl); (case hu => exact (toS_at hx)); intro q1 (hq1 : Pts _ q1 [strV x])) | (apply q_idx hB; (case hg => rfl); (case hd => rfl); (case hx => rfl); (case hi => rfl); (case hm => rfl); (case hu => exact (toS_at hy)); intro q2 (hq2 : Pts _ q2 [strV y])) | (apply q_ev; (case hg => rfl); (case hd => rfl); (case he => (apply ev_load1; (case hx => rfl); (case h => exact hq1)))) | (apply q_ev; (case hg => rfl); (case hd => rfl); (case he => (apply ev_load1; (case hx => rfl); (case h => exact hq2)))) | (apply q_ev; (case hg => rfl); (case hd => rfl); (case he => (apply ev_lss_bv (r := true); (case hx => rfl); (case hy => rfl); (case h => exact decide_eq_true h1)))) | refine Jd ?_))
    (repeat (first | refine Jz ?_ | intro _))
    exact o_ret Tryz.results31 rfl (List.nil_sublist _) ⟨rfl, rfl, by rw [hi, hstep]⟩
  · by_cases h2 : y < x
    · rw [cmpS_gt h1 h2, if_neg (by decide)] at hstep
      (repeat (first | refine Jz ?_ | intro _))
      (repeat (first | (apply q_idx hA; (case hg => rfl); (case hd => rfl); (case hx => rfl); (case hi => rfl); (case hm => rfl); (case hu => exact (toS_at hx)); intro q1 (hq1 : Pts _ q1 [strV x])) | (apply q_idx hB; (case hg => rfl); (case hd => rfl); (case hx => rfl); (case hi => rfl); (case hm => rfl); (case hu => exact (toS_at hy)); intro q2 (hq2 : Pts _ q2 [strV y])) | (apply q_ev; (case hg => rfl); (case hd => rfl); (case he => (apply ev_load1; (case hx => rfl); (case h => exact hq1)))) | (apply q_ev; (case hg => rfl); (case hd => rfl); (case he => (apply ev_load1; (case hx => rfl); (case h => exact hq2)))) | (apply q_ev; (case hg => rfl); (case hd => rfl); (case he => (apply ev_lss_bv (r := false); (case hx => rfl); (case hy => rfl); (case h => exact decide_eq_false h1)))) | refine Jd ?_))
      (repeat (first | refine Jz ?_ | intro _))
      (repeat (first | (apply q_idx hA; (case hg => rfl); (case hd => rfl); (case hx => rfl); (case hi => rfl); (case hm => rfl); (case hu => exact (toS_at hx)); intro q1 (hq1 : Pts _ q1 [strV x])) | (apply q_idx hB; (case hg => rfl); (case hd => rfl); (case hx => rfl); (case hi => rfl); (case hm => rfl); (case hu => exact (toS_at hy)); intro q2 (hq2 : Pts _ q2 [strV y])) | (apply q_ev; (case hg => rfl); (case hd => rfl); (case he => (apply ev_load1; (case hx => rfl); (case h => exact hq1)))) | (apply q_ev; (case hg => rfl); (case hd => rfl); (case he => (apply ev_load1; (case hx => rfl); (case h => exact hq2)))) | (apply q_ev; (case hg => rfl); (case hd => rfl); (case he => (apply ev_gtr_bv (r := true); (case hx => rfl); (case hy => rfl); (case h => exact decide_eq_true h2)))) | refine Jd ?_))
      (repeat (first | refine Jz ?_ | intro _))
      exact o_ret Tryz.results31 rfl (List.nil_sublist _) ⟨rfl, rfl, by rw [hi, hstep]⟩
    · rw [cmpS_eq h1 h2, if_pos rfl] at hstep
      (repeat (first | refine Jz ?_ | intro _))
      (repeat (first | (apply q_idx hA; (case hg => rfl); (case hd => rfl); (case hx => rfl); (case hi => rfl); (case hm => rfl); (case hu => exact (toS_at hx)); intro q1 (hq1 : Pts _ q1 [strV x])) | (apply q_idx hB; (case hg => rfl); (case hd => rfl); (case hx => rfl); (case hi => rfl); (case hm => rfl); (case hu => exact (toS_at hy)); intro q2 (hq2 : Pts _ q2 [strV y])) | (apply q_ev; (case hg => rfl); (case hd => rfl); (case he => (apply ev_load1; (case hx => rfl); (case h => exact hq1)))) | (apply q_ev; (case hg => rfl); (case hd => rfl); (case he => (apply ev_load1; (case hx => rfl); (case h => exact hq2)))) | (apply q_ev; (case hg => rfl); (case hd => rfl); (case he => (apply ev_lss_bv (r := false); (case hx => rfl); (case hy => rfl); (case h => exact decide_eq_false h1)))) | refine Jd ?_))
      (repeat (first | refine Jz ?_ | intro _))
      (repeat (first | (apply q_idx hA; (case hg => rfl); (case hd => rfl); (case hx => rfl); (case hi => rfl); (case hm => rfl); (case hu => exact (toS_at hx)); intro q1 (hq1 : Pts _ q1 [strV x])) | (apply q_idx hB; (case hg => rfl); (case hd => rfl); (case hx => rfl); (case hi => rfl); (case hm => rfl); (case hu => exact (toS_at hy)); intro q2 (hq2 : Pts _ q2 [strV y])) | (apply q_ev; (case hg => rfl); (case hd => rfl); (case he => (apply ev_load1; (case hx => rfl); (case h => exact hq1)))) | (apply q_ev; (case hg => rfl); (case hd => rfl); (case he => (apply ev_load1; (case hx => rfl); (case h => exact hq2)))) | (apply q_ev; (case hg => rfl); (case hd => rfl); (case he => (apply ev_gtr_bv (r := false); (case hx => rfl); (case hy => rfl); (case h => exact decide_eq_false h2)))) | refine Jd ?_))
      (repeat (first | refine Jz ?_ | intro _))
      exact q_back (L' := []) (m' := p.length - (k + 1)) ⟨rfl, rfl, k + 1, rfl, by omega, by omega, by rw [hi, hstep], rfl⟩ (by omega) sbF (List.nil_sublist _)
theorem toS_take (p : List Bs) (k : Nat) : (toS p).take k = toS (p.take k) := by simp [toS, List.map_take]
theorem starts_iff {p q : List Bs} (h : q.length ≤ p.length) : cmpP (p.take q.length) q = 0 ↔ q <+: p := by
  rw [cmpP_eq0]
  exact ⟨fun e => e ▸ List.take_prefix _ _, fun e => (List.prefix_iff_eq_take.1 e).symm⟩
theorem rStarts_con (p q : List Bs) (A B : Option Addr) (c d : Nat) (S : SH) (hA : At S A (toS p)) (hB : At S B (toS q)) (hc : (toS p).length ≤ c) (hp : p.length ≤ 1000000) (hq : q.length ≤ 1000000) (r : Bool) (hr : r = true ↔ q <+: p) : Con Tryz.prog 52 #[.slice A (toS p).length c, .slice B (toS q).length d] S [] (X.Pure S (.bool r)) := by
  refine con_of (args := [.slice A (toS p).length c, .slice B (toS q).length d]) Tryz.func52 rfl Tryz.ntmps52 rfl fun w => ?_
  have lp := toS_len p
  have lq := toS_len q
  by_cases hl : q.length ≤ p.length
  rotate_left
  · obtain rfl : r = false := by cases r; rfl; exact absurd (hr.1 rfl).length_le hl
    (repeat (first | refine Jz ?_ | intro _))
    exact o_ret Tryz.results52 rfl (List.nil_sublist _) ⟨rfl, rfl, rfl⟩
  have hcc := fun A' (hA' : At S A' (toS (p.take (toS q).length))) => rCompare_con (p.take (toS q).length) q A' B c d S hA' hB (by rw [List.length_take]; omega) hq
  have hst := starts_iff hl
  rw [← lq] at hst
  cases r
  · have hne : ¬ cmpP (p.take (toS q).length) q = 0 := fun h => Bool.false_ne_true (hr.2 (hst.1 h))
    generalize cmpP (p.take (toS q).length) q = z at hcc hne
    (repeat (first | refine Jc ?_ | (apply s_slice_hi hA; (case hg => rfl); (case hd => rfl); (case hx => rfl); (case hy => rfl); (case hm => rfl); (case hmc => omega); (case hj => omega); intro A2 hA2); rw [toS_take] at hA2 ⊢ | (apply z_call; rfl; rfl; rfl; exact hcc _ hA2; rintro _ _ _ - ⟨rfl, rfl, rfl⟩) | refine Jo ?_ | intro _))
    exact o_ret Tryz.results52 rfl (List.nil_sublist _) ⟨rfl, rfl, rfl⟩
  · have he : cmpP (p.take (toS q).length) q = 0 := hst.2 (hr.1 rfl)
    rw [he] at hcc
    (repeat (first | refine Jc ?_ | (apply s_slice_hi hA; (case hg => rfl); (case hd => rfl); (case hx => rfl); (case hy => rfl); (case hm => rfl); (case hmc => omega); (case hj => omega); intro A2 hA2); rw [toS_take] at hA2 ⊢ | (apply z_call; rfl; rfl; rfl; exact hcc _ hA2; rintro _ _ _ - ⟨rfl, rfl, rfl⟩) | refine Jo ?_ | intro _))
    exact o_ret Tryz.results52 rfl (List.nil_sublist _) ⟨rfl, rfl, rfl⟩
end Go.Proofs.YtcnfchchanlepaaGreat
namespace Go.Proofs.YtcnfchchanlepaaGreat
open Go Go.X
/-- The symbols of the versions before one. -/
def tabTo (xs : List A3) : Nat → List Sym
  | 0 => []
  | v + 1 => tabTo xs v ++ tabV xs v 5 v 0
theorem tabTo_3 (xs : List A3) : tabTo xs 3 = tableF xs := by simp [tabTo, tableF]
theorem tabTo_len (xs : List A3) : ∀ v, (tabTo xs v).length ≤ 5 * v
  | 0 => Nat.le_refl _
  | v + 1 => by
    have h1 := tabTo_len xs v
    have h2 := tabV_len xs v 5 v 0
    rw [tabTo, List.length_append]; omega
def i64A (x : A3) : Prop := i64 x.a ∧ i64 x.b ∧ i64 x.c
theorem rpick_t {c n : Int} {z : Nat} (S : SH) (hc : i64 c) (hn : 0 < n) (h : pickI c n = z) : Con Tryz.prog 26 #[.int .i64 c, .int .i64 n] S [] (X.Pure S (.int .i64 (z : Nat))) := h ▸ rpick_con c n S hc hn
theorem pickI_nat (c n : Int) (hn : 0 < n) : ∃ z : Nat, pickI c n = z ∧ (z : Int) < n := by
  have := pickI_bd c n hn
  exact ⟨(pickI c n).toNat, by omega, by omega⟩
set_option maxRecDepth 10000
set_option linter.unusedVariables false
attribute [local irreducible] Code.wpIn wpListIn Exit.then Exit.inBlock X.Out X.Back X.W X.Ev X.Con X.BinV X.Wh X.Wn X.Wq
set_option maxHeartbeats 1600000 in
theorem rTable_con (xs : List A3) (A : Option Addr) (c : Nat) (S : SH) (hA : At S A xs) (hx : ∀ x ∈ xs, i64A x) :
    Con Tryz.prog 6 #[.slice A xs.length c] S [] (fun S' L' r => Le S S' ∧ Ows 46 r (tableF xs) L') := by
  refine con_of (args := [.slice A xs.length c]) Tryz.func6 rfl Tryz.ntmps6 rfl fun w => ?_
  (repeat (first | refine Jz ?_ | intro _))
  refine c_loop (fun m S' L F => Le S S' ∧ ∃ (v : Nat) (v1 : Value), m = 3 - v ∧ v ≤ 3 ∧ Ows 46 v1 (tabTo xs v) L ∧ F = [(0, .slice A xs.length c), (3, v1), (4, .int .i64 v)]) ⟨Le.refl _, 0, _, rfl, by omega, Ows.nil _, rfl⟩ sbF (List.Sublist.refl _) ?_
  rintro m S1 L F ⟨hle1, v, v1, rfl, hv, ho, rfl⟩
  by_cases hv3 : v < 3
  rotate_left
  · obtain rfl : v = 3 := by omega
    rw [tabTo_3] at ho
    (repeat (first | refine Jz ?_ | intro _))
    exact o_ret Tryz.results6 rfl (List.Sublist.refl _) ⟨hle1, ho⟩
  (repeat (first | refine Jz ?_ | intro _))
  refine c_loop (fun m S2 L F => Le S S2 ∧ ∃ (j i : Nat) (at_ : Int) (v2 : Value) (ls : List Sym), m = 5 - j ∧ j ≤ 5 ∧ i = v + 3 * j ∧ 0 ≤ at_ ∧ at_ ≤ 11 * j ∧ ls.length ≤ 30 + j ∧ ls ++ tabV xs v (5 - j) i at_ = tabTo xs (v + 1) ∧ Ows 46 v2 ls L ∧
      F = [(0, .slice A xs.length c), (3, v2), (4, .int .i64 v), (5, .int .i64 at_), (6, .int .i64 i)]) ⟨hle1, 0, v, 0, v1, _, rfl, by omega, by omega, by omega, by omega, (by have := tabTo_len xs v; omega), rfl, ho, rfl⟩ sbF (List.Sublist.refl _) ?_
  rintro m S2 L F ⟨hle2, j, i, at_, v2, ls, rfl, hj, hi, h0, h1, hll, hls, ho2, rfl⟩
  have hA2 := hA.le hle2
  by_cases hil : i < xs.length
  rotate_left
  · have hn : xs[i]? = none := List.getElem?_eq_none (by omega)
    have he : ls = tabTo xs (v + 1) := by
      rw [← hls]
      cases hf : 5 - j with
      | zero => simp [tabV]
      | succ f => rw [tabV, hn]; simp
    subst he
    (repeat (first | refine Jz ?_ | intro _))
    exact q_back (L' := L) (m' := 3 - (v + 1)) ⟨hle2, v + 1, v2, rfl, by omega, ho2, rfl⟩ (by omega) sbF (List.Sublist.refl _)
  by_cases hi15 : i < 15
  rotate_left
  · have he : ls = tabTo xs (v + 1) := by
      rw [← hls, show 5 - j = 0 by omega]; simp [tabV]
    subst he
    (repeat (first | refine Jz ?_ | intro _))
    exact q_back (L' := L) (m' := 3 - (v + 1)) ⟨hle2, v + 1, v2, rfl, by omega, ho2, rfl⟩ (by omega) sbF (List.Sublist.refl _)
  obtain ⟨x, hxi⟩ := at_lt hil
  obtain ⟨x1, x2, x3⟩ := hx x (List.mem_of_getElem? hxi)
  obtain ⟨z1, e1, b1⟩ := pickI_nat x.a 4 (by decide)
  obtain ⟨z2, e2, b2⟩ := pickI_nat x.b 8 (by decide)
  obtain ⟨z3, e3, b3⟩ := pickI_nat x.c 5 (by decide)
  obtain ⟨nm, hnm⟩ : ∃ nm, nm5[z3]? = some nm := at_lt (by simp only [nm5, List.length_cons, List.length_nil]; omega)
  have hsy : symT v at_ x = ⟨v, at_ + z1, at_ + z1 + 1 + z2, nm⟩ := by
    unfold symT nmI
    rw [e1, e2, e3, Int.toNat_natCast, List.getD_eq_getElem?_getD, hnm]; rfl
  have hnext : (ls ++ [⟨v, at_ + z1, at_ + z1 + 1 + z2, nm⟩]) ++ tabV xs v (5 - (j + 1)) (i + 3) (at_ + z1 + 1 + z2) = tabTo xs (v + 1) := by
    rw [← hls, show 5 - j = (5 - (j + 1)) + 1 by omega, tabV, hxi]
    simp only [hsy, List.append_assoc, List.singleton_append]
  have hcell : (nm5.map strV)[z3]? = some (strV nm) := by rw [List.getElem?_map, hnm]; rfl
  (repeat (first | refine Jc ?_ | (apply s_idx hA2; (case hg => rfl); (case hd => rfl); (case hx => rfl); (case hi => rfl); (case hm => rfl); (case hu => exact hxi); intro q (hq : Pts _ q [.int .i64 x.a, .int .i64 x.b, .int .i64 x.c])) | (apply s_load_f; (case hg => rfl); (case hd => rfl); (case hx => rfl); (case h => exact hq); (case hv => rfl)) | (apply z_call; rfl; rfl; rfl; exact rpick_t _ x1 (by decide) e1; rintro _ _ _ - ⟨rfl, rfl, rfl⟩) | (apply z_call; rfl; rfl; rfl; exact rpick_t _ x2 (by decide) e2; rintro _ _ _ - ⟨rfl, rfl, rfl⟩) | (apply z_call; rfl; rfl; rfl; exact rpick_t _ x3 (by decide) e3; rintro _ _ _ - ⟨rfl, rfl, rfl⟩) | (apply s_evb; (case hg => rfl); (case hd => rfl); (case hn => rfl); (case he => ((apply ev_load_own; (case hx => rfl); (case hm => (repeat (first | exact List.Mem.head _ | apply List.Mem.tail | apply List.mem_append_right))); (case h => exact hcell))))) | (apply s_append (ms := [Sym.mk v (at_ + z1) (at_ + z1 + 1 + z2) nm]); (case hg => rfl); (case hd => rfl); (case hx => rfl); (case ho => exact ho2); (case hL => (repeat (first | exact pm_nil _ | exact pm_refl _ _ | exact pm_self _ | apply pm_cons | apply pm_app))); (case hy => rfl); (case hm => rfl); (case hs => (apply Src.own; (repeat (first | exact List.Mem.head _ | apply List.Mem.tail | apply List.mem_append_right)))); (case hzs => rfl); (case h0 => decide); (case hb => (simp; omega)); (case h63 => (simp; omega)); intro v3 ob3 ho3) | refine Jo ?_ | intro _))
  exact q_back (L' := ob3) (m' := 5 - (j + 1)) ⟨hle2, j + 1, i + 3, at_ + z1 + 1 + z2, v3, _, rfl, by omega, by omega, by omega, by omega, (by rw [List.length_append, List.length_singleton]; omega), hnext, ho3, rfl⟩ (by omega) sbF sbL
end Go.Proofs.YtcnfchchanlepaaGreat
namespace Go.Proofs.YtcnfchchanlepaaGreat
open Go Go.X
theorem SkL.nil (S : SH) : SkL S [] [] := ⟨rfl, fun i x y h => by simp at h⟩
theorem SkL.snoc {S : SH} {xs : List Stk} {ys : List Sk} {x : Stk} {y : Sk} (h : SkL S xs ys) (k : skR S x y) : SkL S (xs ++ [x]) (ys ++ [y]) := by
  refine ⟨by rw [List.length_append, List.length_append, h.1]; rfl, fun i x' y' h1 h2 => ?_⟩
  by_cases hi : i < xs.length
  · rw [List.getElem?_append_left hi] at h1
    rw [List.getElem?_append_left (by rw [← h.1]; exact hi)] at h2
    exact h.2 i x' y' h1 h2
  · rw [List.getElem?_append_right (by omega)] at h1
    rw [List.getElem?_append_right (by rw [← h.1]; omega)] at h2
    rw [← h.1] at h2
    cases hj : i - xs.length with
    | zero =>
      rw [hj] at h1 h2
      simp only [List.getElem?_cons_zero, Option.some.injEq] at h1 h2
      subst h1; subst h2; exact k
    | succ j =>
      rw [hj] at h1
      simp at h1
def i64B (x : A6) : Prop := i64 x.a ∧ i64 x.b ∧ i64 x.c ∧ i64 x.d ∧ i64 x.e ∧ i64 x.f
theorem tdiv_i64 {a : Int} (h : i64 a) : i64 (a.tdiv 4) := by
  unfold i64 at *
  rcases Int.le_total 0 a with h0 | h0
  · rw [Int.tdiv_eq_ediv_of_nonneg h0]; omega
  · have e : a.tdiv 4 = -((-a).tdiv 4) := by rw [Int.neg_tdiv, Int.neg_neg]
    rw [e, Int.tdiv_eq_ediv_of_nonneg (by omega)]; omega
theorem mkFr_at {x : A6} {k : Nat} (hk : k < mkN x) : ∃ z : Int, [x.a, x.b, x.c, x.d, x.e, x.f][2 + k]? = some z ∧ (mkFr x)[k]? = some (pickI z 25) := by
  have h4 := mkN_le x
  unfold mkFr
  have hk4 : k = 0 ∨ k = 1 ∨ k = 2 ∨ k = 3 := by omega
  rcases hk4 with rfl | rfl | rfl | rfl
  · exact ⟨x.c, rfl, by rw [List.getElem?_map, List.getElem?_take_of_lt hk]; rfl⟩
  · exact ⟨x.d, rfl, by rw [List.getElem?_map, List.getElem?_take_of_lt hk]; rfl⟩
  · exact ⟨x.e, rfl, by rw [List.getElem?_map, List.getElem?_take_of_lt hk]; rfl⟩
  · exact ⟨x.f, rfl, by rw [List.getElem?_map, List.getElem?_take_of_lt hk]; rfl⟩
theorem i64B_at {x : A6} (h : i64B x) {k : Nat} {z : Int} (hz : [x.a, x.b, x.c, x.d, x.e, x.f][k]? = some z) : i64 z := by
  obtain ⟨h1, h2, h3, h4, h5, h6⟩ := h
  have := List.mem_of_getElem? hz
  simp only [List.mem_cons, List.not_mem_nil, or_false] at this
  rcases this with rfl | rfl | rfl | rfl | rfl | rfl <;> assumption
theorem six_cell {x : A6} {k : Nat} {z : Int} (hz : [x.a, x.b, x.c, x.d, x.e, x.f][k]? = some z) : [Value.int .i64 x.a, .int .i64 x.b, .int .i64 x.c, .int .i64 x.d, .int .i64 x.e, .int .i64 x.f][k]? = some (.int .i64 z) := by
  have e : [Value.int .i64 x.a, .int .i64 x.b, .int .i64 x.c, .int .i64 x.d, .int .i64 x.e, .int .i64 x.f] = [x.a, x.b, x.c, x.d, x.e, x.f].map (Value.int .i64) := rfl
  rw [e, List.getElem?_map, hz]; rfl
set_option maxRecDepth 10000
set_option linter.unusedVariables false
attribute [local irreducible] Code.wpIn wpListIn Exit.then Exit.inBlock X.Out X.Back X.W X.Ev X.Con X.BinV X.Wh X.Wn X.Wq
set_option maxHeartbeats 1600000 in
theorem rMade_con (ls : List A6) (A : Option Addr) (c : Nat) (S : SH) (hA : At S A ls) (hx : ∀ x ∈ ls, i64B x) :
    Con Tryz.prog 7 #[.slice A ls.length c] S [] (fun S' L' r => Le S S' ∧ ∃ xs, Ows 49 r xs L' ∧ SkL S' xs (madeF ls)) := by
  refine con_of (args := [.slice A ls.length c]) Tryz.func7 rfl Tryz.ntmps7 rfl fun w => ?_
  (repeat (first | refine Jz ?_ | intro _))
  refine c_loop (fun m S' L F => Le S S' ∧ ∃ (i : Nat) (v1 : Value) (xs : List Stk), m = 10 - i ∧ i ≤ 10 ∧ i ≤ ls.length ∧ Ows 49 v1 xs L ∧ SkL S' xs ((ls.take i).map mk1) ∧ F = [(0, .slice A ls.length c), (3, v1), (4, .int .i64 i)]) ⟨Le.refl _, 0, _, [], rfl, by omega, by omega, Ows.nil _, SkL.nil _, rfl⟩ sbF (List.Sublist.refl _) ?_
  rintro m S1 L F ⟨hle1, i, v1, xs, rfl, hi10, hil, ho, hsk, rfl⟩
  have hA1 := hA.le hle1
  by_cases hlt : i < ls.length ∧ i < 10
  rotate_left
  · have hfin : (ls.take i).map mk1 = madeF ls := by
      unfold madeF
      congr 1
      by_cases h10 : i = 10
      · rw [h10]
      · rw [List.take_of_length_le (by omega), List.take_of_length_le (by omega)]
    rw [hfin] at hsk
    by_cases h2 : i < ls.length
    all_goals (repeat (first | refine Jz ?_ | intro _))
    all_goals exact o_ret Tryz.results7 rfl (List.Sublist.refl _) ⟨hle1, xs, ho, hsk⟩
  obtain ⟨h1, h2⟩ := hlt
  obtain ⟨x, hxi⟩ := at_lt h1
  have hx6 := hx x (List.mem_of_getElem? hxi)
  have hxa := hx6.1
  have hxl : xs.length = i := by rw [hsk.1]; simp; omega
  obtain ⟨z1, e1, b1⟩ := pickI_nat x.a 4 (by decide)
  obtain ⟨z2, e2, b2⟩ := pickI_nat x.b 20 (by decide)
  have e0 : pickI (x.a.tdiv 4) 5 = (mkN x : Nat) := by
    have := pickI_bd (x.a.tdiv 4) 5 (by decide)
    unfold mkN; omega
  (repeat (first | refine Jz ?_ | intro _))
  refine c_meet (fun S' L' F => S' = S1 ∧ ∃ b5, L' = (b5, .cells [.int .i64 z1, .slice none 0 0, .int .i64 (1 + z2)].toArray 49 (0, 0)) :: L ∧ F = [(0, .slice A ls.length c), (3, v1), (4, .int .i64 i), (5, .pointer (some ⟨b5, 0, none⟩))]) ?_ ?_
  · ((apply c_held ([]); (case hL => (exact sbT))); refine Jf 0 ?_; refine Jf 1 ?_; (apply h_idx hA1 2; (case hi => rfl); (case hr => kernel_rfl); (case hfr => kernel_rfl); (case hsel => kernel_rfl); (case hg => rfl); (case hd => rfl); (case i1 => infer_instance); (case i2 => infer_instance); (case hx => rfl); (case hy => rfl); (case hm => rfl); (case hu => exact hxi); intro q (hq : Pts _ q [.int .i64 x.a, .int .i64 x.b, .int .i64 x.c, .int .i64 x.d, .int .i64 x.e, .int .i64 x.f])); refine Jf 3 ?_; (apply h_first 4; (case hi => rfl); (case hr => kernel_rfl); (case hfr => kernel_rfl); (case hsel => kernel_rfl); (case hg => rfl); (case hd => rfl); (case he => (apply ev_load_f; (case hx => rfl); (case h => exact hq); (case hv => rfl)))); refine Jf 6 ?_; refine Jf 7 ?_; (apply h_idx hA1 8; (case hi => rfl); (case hr => kernel_rfl); (case hfr => kernel_rfl); (case hsel => kernel_rfl); (case hg => rfl); (case hd => rfl); (case i1 => infer_instance); (case i2 => infer_instance); (case hx => rfl); (case hy => rfl); (case hm => rfl); (case hu => exact hxi); intro q2 (hq2 : Pts _ q2 [.int .i64 x.a, .int .i64 x.b, .int .i64 x.c, .int .i64 x.d, .int .i64 x.e, .int .i64 x.f])); refine Jf 9 ?_; (apply h_first 10; (case hi => rfl); (case hr => kernel_rfl); (case hfr => kernel_rfl); (case hsel => kernel_rfl); (case hg => rfl); (case hd => rfl); (case he => (apply ev_load_f; (case hx => rfl); (case h => exact hq2); (case hv => rfl)))); (apply h_two 5 14; (case hr => kernel_rfl)); (case k1 => ((apply n_call; (case hi => rfl); (case i1 => infer_instance); (case hg => rfl); (case hd => rfl); (case ha => rfl); (case hc => exact rpick_t _ hxa (by decide) e1); (case hL => (repeat (first | exact pm_nil _ | exact pm_refl _ _ | exact pm_self _ | apply pm_cons | apply pm_app))); (case hsub => (intros; (exact sbT))); rintro _ _ _ - ⟨rfl, rfl, rfl⟩); (apply h_two 11 14; (case hr => kernel_rfl)); (case k1 => ((apply n_call; (case hi => rfl); (case i1 => infer_instance); (case hg => rfl); (case hd => rfl); (case ha => rfl); (case hc => exact rpick_t _ hx6.2.1 (by decide) e2); (case hL => (repeat (first | exact pm_nil _ | exact pm_refl _ _ | exact pm_self _ | apply pm_cons | apply pm_app))); (case hsub => (intros; (exact sbT))); rintro _ _ _ - ⟨rfl, rfl, rfl⟩); refine Jf 12 ?_; (apply h_first 13; (case hi => rfl); (case hr => kernel_rfl); (case hfr => kernel_rfl); (case hsel => kernel_rfl); (case hg => rfl); (case hd => rfl); (case he => (apply ev_buildS; (case hp => rfl); (case hz => rfl); (case h1 => rfl); (case hr => rfl)))); (apply h_one 14; (case hr => kernel_rfl)); (refine X.Jn ?_; try intro _); (apply h_one 15; (case hr => kernel_rfl)); (refine X.Jn ?_; try intro _); (apply h_end; (case hr => kernel_rfl)); ((((repeat (first | refine Jz ?_ | intro _))); exact q_cut (L' := (_, _) :: L) ⟨rfl, _, rfl, rfl⟩ sbF sbL)))); (case k2 => ((refine X.Jn ?_; try intro _); (apply h_one 11; (case hr => kernel_rfl)); (apply n_call; (case hi => rfl); (case i1 => infer_instance); (case hg => rfl); (case hd => rfl); (case ha => rfl); (case hc => exact rpick_t _ hx6.2.1 (by decide) e2); (case hL => (repeat (first | exact pm_nil _ | exact pm_refl _ _ | exact pm_self _ | apply pm_cons | apply pm_app))); (case hsub => (intros; (exact sbT))); rintro _ _ _ - ⟨rfl, rfl, rfl⟩); refine Jf 12 ?_; (apply h_first 13; (case hi => rfl); (case hr => kernel_rfl); (case hfr => kernel_rfl); (case hsel => kernel_rfl); (case hg => rfl); (case hd => rfl); (case he => (apply ev_buildS; (case hp => rfl); (case hz => rfl); (case h1 => rfl); (case hr => rfl)))); (apply h_one 15; (case hr => kernel_rfl)); (refine X.Jn ?_; try intro _); (apply h_end; (case hr => kernel_rfl)); ((((repeat (first | refine Jz ?_ | intro _))); exact q_cut (L' := (_, _) :: L) ⟨rfl, _, rfl, rfl⟩ sbF sbL)))))); (case k2 => ((refine X.Jn ?_; try intro _); (apply h_one 5; (case hr => kernel_rfl)); (apply n_call; (case hi => rfl); (case i1 => infer_instance); (case hg => rfl); (case hd => rfl); (case ha => rfl); (case hc => exact rpick_t _ hxa (by decide) e1); (case hL => (repeat (first | exact pm_nil _ | exact pm_refl _ _ | exact pm_self _ | apply pm_cons | apply pm_app))); (case hsub => (intros; (exact sbT))); rintro _ _ _ - ⟨rfl, rfl, rfl⟩); (apply h_one 11; (case hr => kernel_rfl)); (apply n_call; (case hi => rfl); (case i1 => infer_instance); (case hg => rfl); (case hd => rfl); (case ha => rfl); (case hc => exact rpick_t _ hx6.2.1 (by decide) e2); (case hL => (repeat (first | exact pm_nil _ | exact pm_refl _ _ | exact pm_self _ | apply pm_cons | apply pm_app))); (case hsub => (intros; (exact sbT))); rintro _ _ _ - ⟨rfl, rfl, rfl⟩); refine Jf 12 ?_; (apply h_first 13; (case hi => rfl); (case hr => kernel_rfl); (case hfr => kernel_rfl); (case hsel => kernel_rfl); (case hg => rfl); (case hd => rfl); (case he => (apply ev_buildS; (case hp => rfl); (case hz => rfl); (case h1 => rfl); (case hr => rfl)))); (apply h_one 15; (case hr => kernel_rfl)); (refine X.Jn ?_; try intro _); (apply h_end; (case hr => kernel_rfl)); ((((repeat (first | refine Jz ?_ | intro _))); exact q_cut (L' := (_, _) :: L) ⟨rfl, _, rfl, rfl⟩ sbF sbL)))))
  rintro S' L' F ⟨rfl, b5, rfl, rfl⟩
  (repeat (first | refine Jz ?_ | intro _))
  refine c_loop (fun m S2 L' F => S2 = S' ∧ ∃ (k : Nat) (fv : Value) (obf : Blocks), m = mkN x - k ∧ k ≤ mkN x ∧ Ows 3 fv ((mkFr x).take k) obf ∧ L' = obf ++ ((b5, .cells [.int .i64 z1, fv, .int .i64 (1 + z2)].toArray 49 (0, 0)) :: L) ∧
      F = [(0, .slice A ls.length c), (3, v1), (4, .int .i64 i), (5, .pointer (some ⟨b5, 0, none⟩)), (6, .int .i64 k)]) ⟨rfl, 0, _, [], rfl, by omega, Ows.nil _, rfl, rfl⟩ sbF (List.Sublist.refl _) ?_
  rintro m S2 L' F ⟨rfl, k, fv, obf, rfl, hk, hof, rfl, rfl⟩
  have hxa' := hxa
  unfold i64 at hxa'
  by_cases hkl : k < mkN x
  rotate_left
  · obtain rfl : k = mkN x := by omega
    rw [List.take_of_length_le (by rw [mkFr_len]; omega)] at hof
    refine W.freezeOws (L1 := (b5, .cells [.int .i64 z1, fv, .int .i64 (1 + z2)].toArray 49 (0, 0)) :: L) hof (List.Perm.refl _) fun S3 hle3 hs3 => ?_
    obtain ⟨Af, cf, rfl, hcf, hAf⟩ := hs3
    have hA3 := hA1.le hle3
    have hsk3 := hsk.le hle3
    have hk1 : skR S3 (Stk.mk z1 ⟨Af, (mkFr x).length, cf⟩ (1 + z2)) (mk1 x) := ⟨e1.symm, by unfold mk1; rw [e2], rfl, hcf, hAf⟩
    have hsn : (ls.take (i + 1)).map mk1 = (ls.take i).map mk1 ++ [mk1 x] := by rw [take_at hxi]; simp
    (repeat (first | refine Jc ?_ | (apply s_idx hA3; (case hg => rfl); (case hd => rfl); (case hx => rfl); (case hi => rfl); (case hm => rfl); (case hu => exact hxi); intro q (hq : Pts _ q [.int .i64 x.a, .int .i64 x.b, .int .i64 x.c, .int .i64 x.d, .int .i64 x.e, .int .i64 x.f])) | (apply s_load_f; (case hg => rfl); (case hd => rfl); (case hx => rfl); (case h => exact hq); (case hv => rfl)) | (apply z_call; rfl; rfl; rfl; exact rpick_t _ (tdiv_i64 hxa) (by decide) e0; rintro _ _ _ - ⟨rfl, rfl, rfl⟩) | (apply s_append (ms := [Stk.mk z1 ⟨Af, (mkFr x).length, cf⟩ (1 + z2)]); (case hg => rfl); (case hd => rfl); (case hx => rfl); (case ho => exact ho); (case hL => (repeat (first | exact pm_nil _ | exact pm_refl _ _ | exact pm_self _ | apply pm_cons | apply pm_app))); (case hy => rfl); (case hm => rfl); (case hs => (apply Src.own; (repeat (first | exact List.Mem.head _ | apply List.Mem.tail | apply List.mem_append_right)))); (case hzs => rfl); (case h0 => decide); (case hb => (simp; omega)); (case h63 => (simp; omega)); intro v' ob' ho') | refine Jo ?_ | intro _))
    exact q_back (L' := ob') (m' := 10 - (i + 1)) ⟨hle1.trans hle3, i + 1, v', _, rfl, by omega, by omega, ho', by rw [hsn]; exact hsk3.snoc hk1, rfl⟩ (by omega) sbF sbL
  obtain ⟨z, hz6, hzf⟩ := mkFr_at hkl
  have hzi := i64B_at hx6 hz6
  have hzc := six_cell hz6
  obtain ⟨z4, e4, b4⟩ := pickI_nat z 25 (by decide)
  have h4 := mkN_le x
  have hkfl : ((mkFr x).take k).length = k := by rw [List.length_take, mkFr_len]; omega
  have hsnf : (mkFr x).take (k + 1) = (mkFr x).take k ++ [(z4 : Int)] := by rw [take_at hzf, e4]
  generalize (mkFr x).take k = fs at hof hkfl hsnf
  (repeat (first | refine Jc ?_ | (apply s_idx hA1; (case hg => rfl); (case hd => rfl); (case hx => rfl); (case hi => rfl); (case hm => rfl); (case hu => exact hxi); intro q (hq : Pts _ q [.int .i64 x.a, .int .i64 x.b, .int .i64 x.c, .int .i64 x.d, .int .i64 x.e, .int .i64 x.f])) | (apply s_load_f; (case hg => rfl); (case hd => rfl); (case hx => rfl); (case h => exact hq); (case hv => rfl)) | (apply z_call; rfl; rfl; rfl; exact rpick_t _ (tdiv_i64 hxa) (by decide) e0; rintro _ _ _ - ⟨rfl, rfl, rfl⟩) | refine Jo ?_ | intro _))
  ((apply c_held ([]); (case hL => (exact sbT))); refine Jf 0 ?_; refine Jf 2 ?_; refine Jf 3 ?_; refine Jf 4 ?_; (apply h_first 5; (case hi => rfl); (case hr => kernel_rfl); (case hfr => kernel_rfl); (case hsel => kernel_rfl); (case hg => rfl); (case hd => rfl); (case he => (apply ev_binV (i := ((2 : Nat) : Int)); (case hx => rfl); (case hy => rfl); (case hb => (apply bv_addn; omega))))); (apply h_idx hA1 6; (case hi => rfl); (case hr => kernel_rfl); (case hfr => kernel_rfl); (case hsel => kernel_rfl); (case hg => rfl); (case hd => rfl); (case i1 => infer_instance); (case i2 => infer_instance); (case hx => rfl); (case hy => rfl); (case hm => rfl); (case hu => exact hxi); intro q2 (hq2 : Pts _ q2 [.int .i64 x.a, .int .i64 x.b, .int .i64 x.c, .int .i64 x.d, .int .i64 x.e, .int .i64 x.f])); (apply h_first 7; (case hi => rfl); (case hr => kernel_rfl); (case hfr => kernel_rfl); (case hsel => kernel_rfl); (case hg => rfl); (case hd => rfl); (case he => (apply ev_idxc (j := 2 + k); (case hx => rfl); (case hi => rfl); (case hk => omega)))); (apply h_first 8; (case hi => rfl); (case hr => kernel_rfl); (case hfr => kernel_rfl); (case hsel => kernel_rfl); (case hg => rfl); (case hd => rfl); (case he => (apply ev_load_f (j := 2 + k); (case hx => rfl); (case h => exact hq2); (case hv => exact hzc)))); (apply h_two 1 9; (case hr => kernel_rfl)); (case k1 => ((apply n_ev; (case hi => rfl); (case hg => rfl); (case hd => rfl); (case he => (apply ev_load_own; (case hx => rfl); (case hm => (repeat (first | exact List.Mem.head _ | apply List.Mem.tail | apply List.mem_append_right))); (case h => rfl)))); (apply h_one 9; (case hr => kernel_rfl)); (apply n_call; (case hi => rfl); (case i1 => infer_instance); (case hg => rfl); (case hd => rfl); (case ha => rfl); (case hc => exact rpick_t _ hzi (by decide) e4); (case hL => (repeat (first | exact pm_nil _ | exact pm_refl _ _ | exact pm_self _ | apply pm_cons | apply pm_app))); (case hsub => (intros; (exact sbT))); rintro _ _ _ - ⟨rfl, rfl, rfl⟩); (apply h_one 10; (case hr => kernel_rfl)); (refine X.Jn ?_; try intro _); (apply h_one 11; (case hr => kernel_rfl)); ((apply n_append (ms := [(z4 : Int)]); (case hi => rfl); (case hT => infer_instance); (case hsz => infer_instance); (case hz => infer_instance); (case hby => infer_instance); (case hg => rfl); (case hd => rfl); (case hx => rfl); (case ho => exact hof); (case hL => (repeat (first | exact pm_nil _ | exact pm_refl _ _ | exact pm_self _ | apply pm_cons | apply pm_app))); (case hy => rfl); (case hm => rfl); (case hs => (apply Src.own; (repeat (first | exact List.Mem.head _ | apply List.Mem.tail | apply List.mem_append_right)))); (case hzs => rfl); (case h0 => decide); (case hb => (simp; omega)); (case h63 => (simp; omega)); (case hsub => (intros; (exact sbT))); intro fv2 obf2 hof2; obtain ⟨A', c', rfl⟩ := hof2.form)); refine Jf 12 ?_; (apply h_one 13; (case hr => kernel_rfl)); (refine X.Jn ?_; try intro _); (apply h_end; (case hr => kernel_rfl)); ((((repeat (first | refine Jz ?_ | intro _))); rw [← hsnf] at hof2 ⊢; exact q_back (L' := obf2 ++ ((b5, .cells [.int .i64 z1, .slice A' ((mkFr x).take (k + 1)).length c', .int .i64 (1 + z2)].toArray 49 (0, 0)) :: L)) (m' := mkN x - (k + 1)) ⟨rfl, k + 1, _, obf2, rfl, by omega, hof2, rfl, rfl⟩ (by omega) sbF sbL)))); (case k2 => ((apply n_call; (case hi => rfl); (case i1 => infer_instance); (case hg => rfl); (case hd => rfl); (case ha => rfl); (case hc => exact rpick_t _ hzi (by decide) e4); (case hL => (repeat (first | exact pm_nil _ | exact pm_refl _ _ | exact pm_self _ | apply pm_cons | apply pm_app))); (case hsub => (intros; (exact sbT))); rintro _ _ _ - ⟨rfl, rfl, rfl⟩); (apply h_two 1 10; (case hr => kernel_rfl)); (case k1 => ((apply n_ev; (case hi => rfl); (case hg => rfl); (case hd => rfl); (case he => (apply ev_load_own; (case hx => rfl); (case hm => (repeat (first | exact List.Mem.head _ | apply List.Mem.tail | apply List.mem_append_right))); (case h => rfl)))); (apply h_one 10; (case hr => kernel_rfl)); (refine X.Jn ?_; try intro _); (apply h_one 11; (case hr => kernel_rfl)); ((apply n_append (ms := [(z4 : Int)]); (case hi => rfl); (case hT => infer_instance); (case hsz => infer_instance); (case hz => infer_instance); (case hby => infer_instance); (case hg => rfl); (case hd => rfl); (case hx => rfl); (case ho => exact hof); (case hL => (repeat (first | exact pm_nil _ | exact pm_refl _ _ | exact pm_self _ | apply pm_cons | apply pm_app))); (case hy => rfl); (case hm => rfl); (case hs => (apply Src.own; (repeat (first | exact List.Mem.head _ | apply List.Mem.tail | apply List.mem_append_right)))); (case hzs => rfl); (case h0 => decide); (case hb => (simp; omega)); (case h63 => (simp; omega)); (case hsub => (intros; (exact sbT))); intro fv2 obf2 hof2; obtain ⟨A', c', rfl⟩ := hof2.form)); refine Jf 12 ?_; (apply h_one 13; (case hr => kernel_rfl)); (refine X.Jn ?_; try intro _); (apply h_end; (case hr => kernel_rfl)); ((((repeat (first | refine Jz ?_ | intro _))); rw [← hsnf] at hof2 ⊢; exact q_back (L' := obf2 ++ ((b5, .cells [.int .i64 z1, .slice A' ((mkFr x).take (k + 1)).length c', .int .i64 (1 + z2)].toArray 49 (0, 0)) :: L)) (m' := mkN x - (k + 1)) ⟨rfl, k + 1, _, obf2, rfl, by omega, hof2, rfl, rfl⟩ (by omega) sbF sbL)))); (case k2 => ((refine X.Jn ?_; try intro _); (apply h_one 1; (case hr => kernel_rfl)); (apply n_ev; (case hi => rfl); (case hg => rfl); (case hd => rfl); (case he => (apply ev_load_own; (case hx => rfl); (case hm => (repeat (first | exact List.Mem.head _ | apply List.Mem.tail | apply List.mem_append_right))); (case h => rfl)))); (apply h_one 11; (case hr => kernel_rfl)); ((apply n_append (ms := [(z4 : Int)]); (case hi => rfl); (case hT => infer_instance); (case hsz => infer_instance); (case hz => infer_instance); (case hby => infer_instance); (case hg => rfl); (case hd => rfl); (case hx => rfl); (case ho => exact hof); (case hL => (repeat (first | exact pm_nil _ | exact pm_refl _ _ | exact pm_self _ | apply pm_cons | apply pm_app))); (case hy => rfl); (case hm => rfl); (case hs => (apply Src.own; (repeat (first | exact List.Mem.head _ | apply List.Mem.tail | apply List.mem_append_right)))); (case hzs => rfl); (case h0 => decide); (case hb => (simp; omega)); (case h63 => (simp; omega)); (case hsub => (intros; (exact sbT))); intro fv2 obf2 hof2; obtain ⟨A', c', rfl⟩ := hof2.form)); refine Jf 12 ?_; (apply h_one 13; (case hr => kernel_rfl)); (refine X.Jn ?_; try intro _); (apply h_end; (case hr => kernel_rfl)); ((((repeat (first | refine Jz ?_ | intro _))); rw [← hsnf] at hof2 ⊢; exact q_back (L' := obf2 ++ ((b5, .cells [.int .i64 z1, .slice A' ((mkFr x).take (k + 1)).length c', .int .i64 (1 + z2)].toArray 49 (0, 0)) :: L)) (m' := mkN x - (k + 1)) ⟨rfl, k + 1, _, obf2, rfl, by omega, hof2, rfl, rfl⟩ (by omega) sbF sbL)))))))
end Go.Proofs.YtcnfchchanlepaaGreat
