/- ProfileSubtracts returns true for every input, and each argument reads afterwards as it read before; no condition. -/
import Derived.Test.YtcnfchchanlepaaBc
import Derived.Test.YtcnfchchanlepaaXA
import Derived.Test.YtcnfchchanlepaaBd
namespace Go.Proofs.Ytcnfchchanlepaa
open Go Go.X
/-- The name of an address, as the reference implementation finds it: the last symbol that fits. -/
def rnStep (v a : Int) (nm : Bs) (s : Sym) : Bs := if symB v a s = true then s.name else nm
def rnamed (l : List Sym) (v a : Int) : Bs := l.foldl (rnStep v a) [63]
set_option maxRecDepth 10000
set_option linter.unusedVariables false
attribute [local irreducible] Code.wpIn wpListIn Exit.then Exit.inBlock X.Out X.Back X.W X.Ev X.Con X.BinV X.Wh X.Wn X.Wq
end Go.Proofs.Ytcnfchchanlepaa
namespace Go.Proofs.Ytcnfchchanlepaa
open Go Go.X
/-- Rows of paths, each of them stable. -/
def prR (S : SH) (x : Sv) (p : List Bs) : Prop := x.m = (toS p).length ∧ (toS p).length ≤ x.c ∧ At S x.a (toS p)
def PthL (S : SH) (xs : List Sv) (ps : List (List Bs)) : Prop := xs.length = ps.length ∧ ∀ (i : Nat) (x : Sv) (p : List Bs), xs[i]? = some x → ps[i]? = some p → prR S x p
theorem prR.le {S T : SH} (h : Le S T) {x : Sv} {p : List Bs} (k : prR S x p) : prR T x p := ⟨k.1, k.2.1, k.2.2.le h⟩
theorem PthL.le {S T : SH} (h : Le S T) {xs : List Sv} {ps : List (List Bs)} (k : PthL S xs ps) : PthL T xs ps := ⟨k.1, fun i x p h1 h2 => (k.2 i x p h1 h2).le h⟩
theorem PthL.nil (S : SH) : PthL S [] [] := ⟨rfl, fun i x y h => by simp at h⟩
theorem PthL.snoc {S : SH} {xs : List Sv} {ys : List (List Bs)} {x : Sv} {y : List Bs} (h : PthL S xs ys) (k : prR S x y) : PthL S (xs ++ [x]) (ys ++ [y]) := by
  refine ⟨by rw [List.length_append, List.length_append, h.1]; rfl, fun i x' y' h1 h2 => ?_⟩
  by_cases hi : i < xs.length
  · rw [List.getElem?_append_left hi] at h1
    rw [List.getElem?_append_left (by rw [← h.1]; exact hi)] at h2
    exact h.2 i x' y' h1 h2
  · rw [List.getElem?_append_right (by omega)] at h1
    rw [List.getElem?_append_right (by rw [← h.1]; omega)] at h2
    rw [← h.1] at h2
    cases hj : i - xs.length with
    | zero =>
      rw [hj] at h1 h2
      simp only [List.getElem?_cons_zero, Option.some.injEq] at h1 h2
      subst h1; subst h2; exact k
    | succ j =>
      rw [hj] at h1
      simp at h1
theorem prR_nil (S : SH) : prR S ⟨none, 0, 0⟩ [] := ⟨rfl, Nat.le_refl _, At.nil _ _⟩
/-- The paths as the reference implementation reads them. -/
def rpN (i : Nat) (n : Nd) (ps : List (List Bs)) : Option (List (List Bs)) :=
  if i = 0 then (if n.parent ≠ -1 ∨ n.name ≠ [] then none else some (ps ++ [[]]))
  else if n.parent < 0 ∨ (i : Int) ≤ n.parent then none else some (ps ++ [ps.getD n.parent.toNat [] ++ [n.name]])
def rpA : List Nd → Nat → List (List Bs) → Option (List (List Bs))
  | [], _, ps => some ps
  | n :: r, i, ps => (rpN i n ps).bind fun q => rpA r (i + 1) q
def rpF (ns : List Nd) : Option (List (List Bs)) := rpA ns 0 []
theorem rpA_at {ns : List Nd} {k : Nat} {n : Nd} (h : ns[k]? = some n) (ps : List (List Bs)) : rpA (ns.drop k) k ps = (rpN k n ps).bind fun q => rpA (ns.drop (k + 1)) (k + 1) q := by
  obtain ⟨h1, rfl⟩ := List.getElem?_eq_some_iff.1 h
  rw [List.drop_eq_getElem_cons h1]; rfl
def PathsR (ns : List Nd) (S : SH) (r : Value) (L' : Blocks) : Prop :=
  rpF ns = none ∧ r = .tuple #[.slice none 0 0, .bool false] ∧ L' = [] ∨ ∃ ps v xs, rpF ns = some ps ∧ r = .tuple #[v, .bool true] ∧ Ows 48 v xs L' ∧ PthL S xs ps ∧ ps.length = ns.length
theorem svcell {xs : List Sv} {j : Nat} {x : Sv} (h : xs[j]? = some x) (tl : List Value) : (cellsOf xs ++ tl)[j]? = some (.slice x.a x.m x.c) := by
  have h2 := cellsOf_at xs j x h 0 (.slice x.a x.m x.c) rfl
  have h3 : (cellsOf xs)[j]? = some (.slice x.a x.m x.c) := by
    have e : j * Cl.size Sv + 0 = j := Nat.mul_one j
    rwa [e] at h2
  rw [List.getElem?_append_left (List.getElem?_eq_some_iff.1 h3).1]
  exact h3
set_option maxRecDepth 10000
set_option linter.unusedVariables false
attribute [local irreducible] Code.wpIn wpListIn Exit.then Exit.inBlock X.Out X.Back X.W X.Ev X.Con X.BinV X.Wh X.Wn X.Wq
set_option maxHeartbeats 3200000 in
theorem rPaths_con (ns : List Nd) (A : Option Addr) (c : Nat) (S : SH) (hA : At S A ns) (hl : ns.length ≤ 1000000) :
    Con Try.prog 19 #[.agg #[.slice A ns.length c]] S [] (fun S' L' r => Le S S' ∧ PathsR ns S' r L') := by
  refine con_of (args := [.agg #[.slice A ns.length c]]) Try.func19 rfl Try.ntmps19 rfl fun w => ?_
  (repeat (first | refine Jz ?_ | intro _))
  rename_i b1
  refine c_loop (fun m S' L F => Le S S' ∧ ∃ (k : Nat) (ps : List (List Bs)) (v : Value) (xs : List Sv) (ob : Blocks), m = ns.length - k ∧ k ≤ ns.length ∧ rpA (ns.drop k) k ps = rpF ns ∧ ps.length = k ∧ (∀ p ∈ ps, p.length ≤ k) ∧ Ows 48 v xs ob ∧ PthL S' xs ps ∧
      L = ob ++ [(b1, .cells [.slice A ns.length c].toArray 36 (0, 0))] ∧ F = [(1, .pointer (some ⟨b1, 0, none⟩)), (4, v), (5, .int .i64 k)]) ⟨Le.refl _, 0, [], _, [], [], rfl, by omega, rfl, rfl, (fun p h => absurd h List.not_mem_nil), Ows.nil _, PthL.nil _, rfl, rfl⟩ sbF (List.Sublist.refl _) ?_
  rintro m S1 L F ⟨hle1, k, ps, v, xs, ob, rfl, hk, hrp, hpl, hpk, ho, hpx, rfl, rfl⟩
  have hA1 := hA.le hle1
  by_cases hlt : k < ns.length
  rotate_left
  · have hfin : rpF ns = some ps := by rw [← hrp, List.drop_eq_nil_of_le (by omega)]; rfl
    (repeat (first | refine Jz ?_ | intro _))
    exact o_ret2 (L' := ob) Try.results19 rfl rfl sbL ⟨hle1, .inr ⟨ps, v, xs, hfin, rfl, ho, hpx, by omega⟩⟩
  obtain ⟨n, hx⟩ := at_lt hlt
  rw [rpA_at hx] at hrp
  have hxl := hpx.1
  obtain ⟨np, nn, no, nt⟩ := n
  by_cases hk0 : k = 0
  · subst hk0
    by_cases hp1 : np = -1
    rotate_left
    · have hno : rpF ns = none := by rw [← hrp]; unfold rpN; rw [if_pos rfl, if_pos (.inl hp1)]; rfl
      (repeat (first | refine Jc ?_ | (apply s_idx hA1; (case hg => rfl); (case hd => rfl); (case hx => rfl); (case hi => rfl); (case hm => rfl); (case hu => exact hx); intro q (hq : Pts _ q [.int .i64 np, strV nn, .int .i64 no, .int .i64 nt])) | (apply s_load_ag; (case hg => rfl); (case hd => rfl); (case hx => rfl); (case hv => exact hq); (case hl => rfl)) | refine Jo ?_ | intro _))
      exact o_ret2 (L' := []) Try.results19 rfl rfl (List.nil_sublist _) ⟨hle1, .inl ⟨hno, rfl, rfl⟩⟩
    cases h4 : nn != []
    rotate_left
    · have hno : rpF ns = none := by rw [← hrp]; unfold rpN; rw [if_pos rfl, if_pos (.inr (by simpa using h4))]; rfl
      (repeat (first | refine Jc ?_ | (apply s_idx hA1; (case hg => rfl); (case hd => rfl); (case hx => rfl); (case hi => rfl); (case hm => rfl); (case hu => exact hx); intro q (hq : Pts _ q [.int .i64 np, strV nn, .int .i64 no, .int .i64 nt])) | (apply s_load_ag; (case hg => rfl); (case hd => rfl); (case hx => rfl); (case hv => exact hq); (case hl => rfl)) | (apply s_evb; (case hg => rfl); (case hd => rfl); (case hn => rfl); (case he => ((apply ev_neq_bv (r := true) (b := []); (case hx => rfl); (case hy => rfl); (case h => exact h4))))) | refine Jo ?_ | intro _))
      exact o_ret2 (L' := []) Try.results19 rfl rfl (List.nil_sublist _) ⟨hle1, .inl ⟨hno, rfl, rfl⟩⟩
    have hn0 : nn = [] := by simpa using h4
    have hrp2 : rpA (ns.drop 1) 1 (ps ++ [[]]) = rpF ns := by rw [← hrp]; unfold rpN; rw [if_pos rfl, if_neg (by rintro (h | h); exact h hp1; exact h hn0)]; rfl
    (repeat (first | refine Jc ?_ | (apply s_idx hA1; (case hg => rfl); (case hd => rfl); (case hx => rfl); (case hi => rfl); (case hm => rfl); (case hu => exact hx); intro q (hq : Pts _ q [.int .i64 np, strV nn, .int .i64 no, .int .i64 nt])) | (apply s_load_ag; (case hg => rfl); (case hd => rfl); (case hx => rfl); (case hv => exact hq); (case hl => rfl)) | (apply s_evb; (case hg => rfl); (case hd => rfl); (case hn => rfl); (case he => ((apply ev_neq_bv (r := false) (b := []); (case hx => rfl); (case hy => rfl); (case h => exact h4))))) | (apply s_append (ms := [Sv.mk none 0 0]); (case hg => rfl); (case hd => rfl); (case hx => rfl); (case ho => exact ho); (case hL => (repeat (first | exact pm_nil _ | exact pm_refl _ _ | exact pm_self _ | apply pm_cons | apply pm_app))); (case hy => rfl); (case hm => rfl); (case hs => (apply Src.own; (repeat (first | exact List.Mem.head _ | apply List.Mem.tail | apply List.mem_append_right)))); (case hzs => rfl); (case h0 => decide); (case hb => (simp; omega)); (case h63 => (simp; omega)); intro v' ob' ho') | refine Jo ?_ | intro _))
    exact q_back (L' := ob' ++ [(b1, .cells [.slice A ns.length c].toArray 36 (0, 0))]) (m' := ns.length - (0 + 1)) ⟨hle1, 0 + 1, ps ++ [[]], v', _, ob', rfl, by omega, hrp2, by simp [hpl], (fun p hp => by
      rcases List.mem_append.1 hp with h | h
      · have := hpk p h; omega
      · simp at h; subst h; simp), ho', hpx.snoc (prR_nil _), rfl, rfl⟩ (by omega) sbF sbL
  by_cases hp0 : np < 0
  · have hno : rpF ns = none := by rw [← hrp]; unfold rpN; rw [if_neg hk0, if_pos (.inl hp0)]; rfl
    (repeat (first | refine Jc ?_ | (apply s_idx hA1; (case hg => rfl); (case hd => rfl); (case hx => rfl); (case hi => rfl); (case hm => rfl); (case hu => exact hx); intro q (hq : Pts _ q [.int .i64 np, strV nn, .int .i64 no, .int .i64 nt])) | (apply s_load_ag; (case hg => rfl); (case hd => rfl); (case hx => rfl); (case hv => exact hq); (case hl => rfl)) | refine Jo ?_ | intro _))
    exact o_ret2 (L' := []) Try.results19 rfl rfl (List.nil_sublist _) ⟨hle1, .inl ⟨hno, rfl, rfl⟩⟩
  by_cases hpk2 : (k : Int) ≤ np
  · have hno : rpF ns = none := by rw [← hrp]; unfold rpN; rw [if_neg hk0, if_pos (.inr hpk2)]; rfl
    (repeat (first | refine Jc ?_ | (apply s_idx hA1; (case hg => rfl); (case hd => rfl); (case hx => rfl); (case hi => rfl); (case hm => rfl); (case hu => exact hx); intro q (hq : Pts _ q [.int .i64 np, strV nn, .int .i64 no, .int .i64 nt])) | (apply s_load_ag; (case hg => rfl); (case hd => rfl); (case hx => rfl); (case hv => exact hq); (case hl => rfl)) | refine Jo ?_ | intro _))
    exact o_ret2 (L' := []) Try.results19 rfl rfl (List.nil_sublist _) ⟨hle1, .inl ⟨hno, rfl, rfl⟩⟩
  obtain ⟨j, rfl⟩ : ∃ j : Nat, np = (j : Int) := ⟨np.toNat, by omega⟩
  obtain ⟨p, hpj⟩ : ∃ p, ps[j]? = some p := at_lt (by omega)
  obtain ⟨x, hxj⟩ : ∃ x, xs[j]? = some x := at_lt (by omega)
  obtain ⟨r1, r2, r3⟩ := hpx.2 j x p hxj hpj
  have hplen := hpk p (List.mem_of_getElem? hpj)
  have hrp2 : rpA (ns.drop (k + 1)) (k + 1) (ps ++ [p ++ [nn]]) = rpF ns := by
    rw [← hrp]; unfold rpN
    rw [if_neg hk0, if_neg (show ¬ ((j : Int) < 0 ∨ (k : Int) ≤ (j : Int)) by omega)]
    simp only [Int.toNat_natCast, List.getD_eq_getElem?_getD, hpj]; rfl
  obtain ⟨g, cap, tl, rfl, rfl, u1, u2, u3⟩ := ho.rowed (by omega)
  have hcell := svcell hxj tl
  obtain ⟨xa, xm, xc⟩ := x
  simp only at r1 r2 r3 hcell
  subst r1
  have htl := toS_len p
  (repeat (first | refine Jc ?_ | (apply s_idx hA1; (case hg => rfl); (case hd => rfl); (case hx => rfl); (case hi => rfl); (case hm => rfl); (case hu => exact hx); intro q (hq : Pts _ q [.int .i64 (j : Int), strV nn, .int .i64 no, .int .i64 nt])) | (apply s_load_ag; (case hg => rfl); (case hd => rfl); (case hx => rfl); (case hv => exact hq); (case hl => rfl)) | refine Jo ?_ | intro _))
  rename_i b6
  have hrr : ∀ S8 A8 c8, ([] ++ toS p ++ [Str.mk nn]).length ≤ c8 → At S8 A8 ([] ++ toS p ++ [Str.mk nn]) → prR S8 ⟨A8, (toS p ++ [Str.mk nn]).length, c8⟩ (p ++ [nn]) := fun S8 A8 c8 h1 h2 => by
    have e : toS (p ++ [nn]) = toS p ++ [Str.mk nn] := by simp [toS]
    unfold prR
    rw [e]
    exact ⟨rfl, h1, h2⟩
  have hlen2 : ∀ q ∈ ps ++ [p ++ [nn]], q.length ≤ k + 1 := fun q hq => by
    rcases List.mem_append.1 hq with h | h
    · have := hpk q h; omega
    · simp only [List.mem_singleton] at h
      subst h; simp; omega
  ((apply c_held ([(b6, .cells [.int .i64 (j : Int), strV nn, .int .i64 no, .int .i64 nt].toArray 53 (0, 0))]); (case hL => (exact sbT))); refine Jf 0 ?_; refine Jf 2 ?_; refine Jf 3 ?_; refine Jf 4 ?_; (apply h_first 5; (case hi => rfl); (case hr => kernel_rfl); (case hfr => kernel_rfl); (case hsel => kernel_rfl); (case hg => rfl); (case hd => rfl); (case he => (apply ev_idxo1 (j := j); (case hx => rfl); (case hi => rfl); (case hk => omega)))); refine Jf 8 ?_; refine Jf 9 ?_; (apply h_three 1 6 10; (case hr => kernel_rfl)); (case k1 => ((refine X.Jn ?_; try intro _); (apply h_two 6 10; (case hr => kernel_rfl)); (case k1 => ((apply n_ev; (case hi => rfl); (case hg => rfl); (case hd => rfl); (case he => (apply ev_load_own; (case hx => rfl); (case hm => (repeat (first | exact List.Mem.head _ | apply List.Mem.tail | apply List.mem_append_right))); (case h => exact hcell)))); (apply h_two 7 10; (case hr => kernel_rfl)); (case k1 => ((apply n_append_st (ms := (toS p)) r3; (case hi => rfl); (case hT => infer_instance); (case hsz => infer_instance); (case hz => infer_instance); (case hby => infer_instance); (case hg => rfl); (case hd => rfl); (case hx => rfl); (case ho => exact Ows.full (α := Str) (l := []) rfl (by decide)); (case hL => (repeat (first | exact pm_nil _ | exact pm_refl _ _ | exact pm_self _ | apply pm_cons | apply pm_app))); (case hy => rfl); (case hm => first | rfl | simp); (case hzs => rfl); (case h0 => decide); (case hb => first | (simp; omega) | simp); (case h63 => first | (simp; omega) | simp); (case hsub => first | (intro _ _; exact List.nil_sublist _) | (intros; (exact sbT))); intro v7 ob7 ho7); (apply h_one 10; (case hr => kernel_rfl)); (refine X.Jn ?_; try intro _); (apply h_one 11; (case hr => kernel_rfl)); ((apply n_append (ms := [Str.mk nn]); (case hi => rfl); (case hT => infer_instance); (case hsz => infer_instance); (case hz => infer_instance); (case hby => infer_instance); (case hg => rfl); (case hd => rfl); (case hx => rfl); (case ho => exact ho7); (case hL => (repeat (first | exact pm_nil _ | exact pm_refl _ _ | exact pm_self _ | apply pm_cons | apply pm_app))); (case hy => rfl); (case hm => rfl); (case hs => (apply Src.own; (repeat (first | exact List.Mem.head _ | apply List.Mem.tail | apply List.mem_append_right)))); (case hzs => rfl); (case h0 => decide); (case hb => (simp; omega)); (case h63 => (simp; omega)); (case hsub => (intros; (exact sbT))); intro v8 ob8 ho8); refine Wh.freezeOws ho8 (List.Perm.refl _) sbL fun S8 hle8 hs8 => ?_; obtain ⟨A8, c8, rfl, hc8, hA8⟩ := hs8); (apply h_one 12; (case hr => kernel_rfl)); (refine X.Jn ?_; try intro _); (apply h_one 13; (case hr => kernel_rfl)); (apply n_append (ms := [Sv.mk A8 (toS p ++ [Str.mk nn]).length c8]); (case hi => rfl); (case hT => infer_instance); (case hsz => infer_instance); (case hz => infer_instance); (case hby => infer_instance); (case hg => rfl); (case hd => rfl); (case hx => rfl); (case ho => exact ho); (case hL => (repeat (first | exact pm_nil _ | exact pm_refl _ _ | exact pm_self _ | apply pm_cons | apply pm_app))); (case hy => rfl); (case hm => rfl); (case hs => (apply Src.own; (repeat (first | exact List.Mem.head _ | apply List.Mem.tail | apply List.mem_append_right)))); (case hzs => rfl); (case h0 => decide); (case hb => (simp; omega)); (case h63 => (simp; omega)); (case hsub => (intros; (exact sbT))); intro v9 ob9 ho9); refine Jf 14 ?_; (apply h_end; (case hr => kernel_rfl)); ((((repeat (first | refine Jz ?_ | intro _))); exact q_back (L' := ob9 ++ [(b1, .cells [.slice A ns.length c].toArray 36 (0, 0))]) (m' := ns.length - (k + 1)) ⟨hle1.trans hle8, k + 1, ps ++ [p ++ [nn]], _, _, ob9, rfl, by omega, hrp2, by simp [hpl], hlen2, ho9, (hpx.le hle8).snoc (hrr _ _ _ hc8 hA8), rfl, rfl⟩ (by omega) sbF sbL)))); (case k2 => ((refine X.Jn ?_; try intro _); (apply h_one 7; (case hr => kernel_rfl)); (apply n_append_st (ms := (toS p)) r3; (case hi => rfl); (case hT => infer_instance); (case hsz => infer_instance); (case hz => infer_instance); (case hby => infer_instance); (case hg => rfl); (case hd => rfl); (case hx => rfl); (case ho => exact Ows.full (α := Str) (l := []) rfl (by decide)); (case hL => (repeat (first | exact pm_nil _ | exact pm_refl _ _ | exact pm_self _ | apply pm_cons | apply pm_app))); (case hy => rfl); (case hm => first | rfl | simp); (case hzs => rfl); (case h0 => decide); (case hb => first | (simp; omega) | simp); (case h63 => first | (simp; omega) | simp); (case hsub => first | (intro _ _; exact List.nil_sublist _) | (intros; (exact sbT))); intro v7 ob7 ho7); (apply h_one 11; (case hr => kernel_rfl)); ((apply n_append (ms := [Str.mk nn]); (case hi => rfl); (case hT => infer_instance); (case hsz => infer_instance); (case hz => infer_instance); (case hby => infer_instance); (case hg => rfl); (case hd => rfl); (case hx => rfl); (case ho => exact ho7); (case hL => (repeat (first | exact pm_nil _ | exact pm_refl _ _ | exact pm_self _ | apply pm_cons | apply pm_app))); (case hy => rfl); (case hm => rfl); (case hs => (apply Src.own; (repeat (first | exact List.Mem.head _ | apply List.Mem.tail | apply List.mem_append_right)))); (case hzs => rfl); (case h0 => decide); (case hb => (simp; omega)); (case h63 => (simp; omega)); (case hsub => (intros; (exact sbT))); intro v8 ob8 ho8); refine Wh.freezeOws ho8 (List.Perm.refl _) sbL fun S8 hle8 hs8 => ?_; obtain ⟨A8, c8, rfl, hc8, hA8⟩ := hs8); (apply h_one 12; (case hr => kernel_rfl)); (refine X.Jn ?_; try intro _); (apply h_one 13; (case hr => kernel_rfl)); (apply n_append (ms := [Sv.mk A8 (toS p ++ [Str.mk nn]).length c8]); (case hi => rfl); (case hT => infer_instance); (case hsz => infer_instance); (case hz => infer_instance); (case hby => infer_instance); (case hg => rfl); (case hd => rfl); (case hx => rfl); (case ho => exact ho); (case hL => (repeat (first | exact pm_nil _ | exact pm_refl _ _ | exact pm_self _ | apply pm_cons | apply pm_app))); (case hy => rfl); (case hm => rfl); (case hs => (apply Src.own; (repeat (first | exact List.Mem.head _ | apply List.Mem.tail | apply List.mem_append_right)))); (case hzs => rfl); (case h0 => decide); (case hb => (simp; omega)); (case h63 => (simp; omega)); (case hsub => (intros; (exact sbT))); intro v9 ob9 ho9); refine Jf 14 ?_; (apply h_end; (case hr => kernel_rfl)); ((((repeat (first | refine Jz ?_ | intro _))); exact q_back (L' := ob9 ++ [(b1, .cells [.slice A ns.length c].toArray 36 (0, 0))]) (m' := ns.length - (k + 1)) ⟨hle1.trans hle8, k + 1, ps ++ [p ++ [nn]], _, _, ob9, rfl, by omega, hrp2, by simp [hpl], hlen2, ho9, (hpx.le hle8).snoc (hrr _ _ _ hc8 hA8), rfl, rfl⟩ (by omega) sbF sbL)))))); (case k2 => ((refine X.Jn ?_; try intro _); (apply h_one 6; (case hr => kernel_rfl)); (apply n_ev; (case hi => rfl); (case hg => rfl); (case hd => rfl); (case he => (apply ev_load_own; (case hx => rfl); (case hm => (repeat (first | exact List.Mem.head _ | apply List.Mem.tail | apply List.mem_append_right))); (case h => exact hcell)))); (apply h_one 7; (case hr => kernel_rfl)); (apply n_append_st (ms := (toS p)) r3; (case hi => rfl); (case hT => infer_instance); (case hsz => infer_instance); (case hz => infer_instance); (case hby => infer_instance); (case hg => rfl); (case hd => rfl); (case hx => rfl); (case ho => exact Ows.full (α := Str) (l := []) rfl (by decide)); (case hL => (repeat (first | exact pm_nil _ | exact pm_refl _ _ | exact pm_self _ | apply pm_cons | apply pm_app))); (case hy => rfl); (case hm => first | rfl | simp); (case hzs => rfl); (case h0 => decide); (case hb => first | (simp; omega) | simp); (case h63 => first | (simp; omega) | simp); (case hsub => first | (intro _ _; exact List.nil_sublist _) | (intros; (exact sbT))); intro v7 ob7 ho7); (apply h_one 11; (case hr => kernel_rfl)); ((apply n_append (ms := [Str.mk nn]); (case hi => rfl); (case hT => infer_instance); (case hsz => infer_instance); (case hz => infer_instance); (case hby => infer_instance); (case hg => rfl); (case hd => rfl); (case hx => rfl); (case ho => exact ho7); (case hL => (repeat (first | exact pm_nil _ | exact pm_refl _ _ | exact pm_self _ | apply pm_cons | apply pm_app))); (case hy => rfl); (case hm => rfl); (case hs => (apply Src.own; (repeat (first | exact List.Mem.head _ | apply List.Mem.tail | apply List.mem_append_right)))); (case hzs => rfl); (case h0 => decide); (case hb => (simp; omega)); (case h63 => (simp; omega)); (case hsub => (intros; (exact sbT))); intro v8 ob8 ho8); refine Wh.freezeOws ho8 (List.Perm.refl _) sbL fun S8 hle8 hs8 => ?_; obtain ⟨A8, c8, rfl, hc8, hA8⟩ := hs8); (apply h_one 12; (case hr => kernel_rfl)); (refine X.Jn ?_; try intro _); (apply h_one 13; (case hr => kernel_rfl)); (apply n_append (ms := [Sv.mk A8 (toS p ++ [Str.mk nn]).length c8]); (case hi => rfl); (case hT => infer_instance); (case hsz => infer_instance); (case hz => infer_instance); (case hby => infer_instance); (case hg => rfl); (case hd => rfl); (case hx => rfl); (case ho => exact ho); (case hL => (repeat (first | exact pm_nil _ | exact pm_refl _ _ | exact pm_self _ | apply pm_cons | apply pm_app))); (case hy => rfl); (case hm => rfl); (case hs => (apply Src.own; (repeat (first | exact List.Mem.head _ | apply List.Mem.tail | apply List.mem_append_right)))); (case hzs => rfl); (case h0 => decide); (case hb => (simp; omega)); (case h63 => (simp; omega)); (case hsub => (intros; (exact sbT))); intro v9 ob9 ho9); refine Jf 14 ?_; (apply h_end; (case hr => kernel_rfl)); ((((repeat (first | refine Jz ?_ | intro _))); exact q_back (L' := ob9 ++ [(b1, .cells [.slice A ns.length c].toArray 36 (0, 0))]) (m' := ns.length - (k + 1)) ⟨hle1.trans hle8, k + 1, ps ++ [p ++ [nn]], _, _, ob9, rfl, by omega, hrp2, by simp [hpl], hlen2, ho9, (hpx.le hle8).snoc (hrr _ _ _ hc8 hA8), rfl, rfl⟩ (by omega) sbF sbL)))))); (case k2 => ((apply n_ev; (case hi => rfl); (case hg => rfl); (case hd => rfl); (case he => (apply ev_load_own; (case hx => rfl); (case hm => (repeat (first | exact List.Mem.head _ | apply List.Mem.tail | apply List.mem_append_right))); (case h => exact hcell)))); (apply h_two 1 10; (case hr => kernel_rfl)); (case k1 => ((refine X.Jn ?_; try intro _); (apply h_two 7 10; (case hr => kernel_rfl)); (case k1 => ((apply n_append_st (ms := (toS p)) r3; (case hi => rfl); (case hT => infer_instance); (case hsz => infer_instance); (case hz => infer_instance); (case hby => infer_instance); (case hg => rfl); (case hd => rfl); (case hx => rfl); (case ho => exact Ows.full (α := Str) (l := []) rfl (by decide)); (case hL => (repeat (first | exact pm_nil _ | exact pm_refl _ _ | exact pm_self _ | apply pm_cons | apply pm_app))); (case hy => rfl); (case hm => first | rfl | simp); (case hzs => rfl); (case h0 => decide); (case hb => first | (simp; omega) | simp); (case h63 => first | (simp; omega) | simp); (case hsub => first | (intro _ _; exact List.nil_sublist _) | (intros; (exact sbT))); intro v7 ob7 ho7); (apply h_one 10; (case hr => kernel_rfl)); (refine X.Jn ?_; try intro _); (apply h_one 11; (case hr => kernel_rfl)); ((apply n_append (ms := [Str.mk nn]); (case hi => rfl); (case hT => infer_instance); (case hsz => infer_instance); (case hz => infer_instance); (case hby => infer_instance); (case hg => rfl); (case hd => rfl); (case hx => rfl); (case ho => exact ho7); (case hL => (repeat (first | exact pm_nil _ | exact pm_refl _ _ | exact pm_self _ | apply pm_cons | apply pm_app))); (case hy => rfl); (case hm => rfl); (case hs => (apply Src.own; (repeat (first | exact List.Mem.head _ | apply List.Mem.tail | apply List.mem_append_right)))); (case hzs => rfl); (case h0 => decide); (case hb => (simp; omega)); (case h63 => (simp; omega)); (case hsub => (intros; (exact sbT))); intro v8 ob8 ho8); refine Wh.freezeOws ho8 (List.Perm.refl _) sbL fun S8 hle8 hs8 => ?_; obtain ⟨A8, c8, rfl, hc8, hA8⟩ := hs8); (apply h_one 12; (case hr => kernel_rfl)); (refine X.Jn ?_; try intro _); (apply h_one 13; (case hr => kernel_rfl)); (apply n_append (ms := [Sv.mk A8 (toS p ++ [Str.mk nn]).length c8]); (case hi => rfl); (case hT => infer_instance); (case hsz => infer_instance); (case hz => infer_instance); (case hby => infer_instance); (case hg => rfl); (case hd => rfl); (case hx => rfl); (case ho => exact ho); (case hL => (repeat (first | exact pm_nil _ | exact pm_refl _ _ | exact pm_self _ | apply pm_cons | apply pm_app))); (case hy => rfl); (case hm => rfl); (case hs => (apply Src.own; (repeat (first | exact List.Mem.head _ | apply List.Mem.tail | apply List.mem_append_right)))); (case hzs => rfl); (case h0 => decide); (case hb => (simp; omega)); (case h63 => (simp; omega)); (case hsub => (intros; (exact sbT))); intro v9 ob9 ho9); refine Jf 14 ?_; (apply h_end; (case hr => kernel_rfl)); ((((repeat (first | refine Jz ?_ | intro _))); exact q_back (L' := ob9 ++ [(b1, .cells [.slice A ns.length c].toArray 36 (0, 0))]) (m' := ns.length - (k + 1)) ⟨hle1.trans hle8, k + 1, ps ++ [p ++ [nn]], _, _, ob9, rfl, by omega, hrp2, by simp [hpl], hlen2, ho9, (hpx.le hle8).snoc (hrr _ _ _ hc8 hA8), rfl, rfl⟩ (by omega) sbF sbL)))); (case k2 => ((refine X.Jn ?_; try intro _); (apply h_one 7; (case hr => kernel_rfl)); (apply n_append_st (ms := (toS p)) r3; (case hi => rfl); (case hT => infer_instance); (case hsz => infer_instance); (case hz => infer_instance); (case hby => infer_instance); (case hg => rfl); (case hd => rfl); (case hx => rfl); (case ho => exact Ows.full (α := Str) (l := []) rfl (by decide)); (case hL => (repeat (first | exact pm_nil _ | exact pm_refl _ _ | exact pm_self _ | apply pm_cons | apply pm_app))); (case hy => rfl); (case hm => first | rfl | simp); (case hzs => rfl); (case h0 => decide); (case hb => first | (simp; omega) | simp); (case h63 => first | (simp; omega) | simp); (case hsub => first | (intro _ _; exact List.nil_sublist _) | (intros; (exact sbT))); intro v7 ob7 ho7); (apply h_one 11; (case hr => kernel_rfl)); ((apply n_append (ms := [Str.mk nn]); (case hi => rfl); (case hT => infer_instance); (case hsz => infer_instance); (case hz => infer_instance); (case hby => infer_instance); (case hg => rfl); (case hd => rfl); (case hx => rfl); (case ho => exact ho7); (case hL => (repeat (first | exact pm_nil _ | exact pm_refl _ _ | exact pm_self _ | apply pm_cons | apply pm_app))); (case hy => rfl); (case hm => rfl); (case hs => (apply Src.own; (repeat (first | exact List.Mem.head _ | apply List.Mem.tail | apply List.mem_append_right)))); (case hzs => rfl); (case h0 => decide); (case hb => (simp; omega)); (case h63 => (simp; omega)); (case hsub => (intros; (exact sbT))); intro v8 ob8 ho8); refine Wh.freezeOws ho8 (List.Perm.refl _) sbL fun S8 hle8 hs8 => ?_; obtain ⟨A8, c8, rfl, hc8, hA8⟩ := hs8); (apply h_one 12; (case hr => kernel_rfl)); (refine X.Jn ?_; try intro _); (apply h_one 13; (case hr => kernel_rfl)); (apply n_append (ms := [Sv.mk A8 (toS p ++ [Str.mk nn]).length c8]); (case hi => rfl); (case hT => infer_instance); (case hsz => infer_instance); (case hz => infer_instance); (case hby => infer_instance); (case hg => rfl); (case hd => rfl); (case hx => rfl); (case ho => exact ho); (case hL => (repeat (first | exact pm_nil _ | exact pm_refl _ _ | exact pm_self _ | apply pm_cons | apply pm_app))); (case hy => rfl); (case hm => rfl); (case hs => (apply Src.own; (repeat (first | exact List.Mem.head _ | apply List.Mem.tail | apply List.mem_append_right)))); (case hzs => rfl); (case h0 => decide); (case hb => (simp; omega)); (case h63 => (simp; omega)); (case hsub => (intros; (exact sbT))); intro v9 ob9 ho9); refine Jf 14 ?_; (apply h_end; (case hr => kernel_rfl)); ((((repeat (first | refine Jz ?_ | intro _))); exact q_back (L' := ob9 ++ [(b1, .cells [.slice A ns.length c].toArray 36 (0, 0))]) (m' := ns.length - (k + 1)) ⟨hle1.trans hle8, k + 1, ps ++ [p ++ [nn]], _, _, ob9, rfl, by omega, hrp2, by simp [hpl], hlen2, ho9, (hpx.le hle8).snoc (hrr _ _ _ hc8 hA8), rfl, rfl⟩ (by omega) sbF sbL)))))); (case k2 => ((refine X.Jn ?_; try intro _); (apply h_one 1; (case hr => kernel_rfl)); (refine X.Jn ?_; try intro _); (apply h_one 7; (case hr => kernel_rfl)); (apply n_append_st (ms := (toS p)) r3; (case hi => rfl); (case hT => infer_instance); (case hsz => infer_instance); (case hz => infer_instance); (case hby => infer_instance); (case hg => rfl); (case hd => rfl); (case hx => rfl); (case ho => exact Ows.full (α := Str) (l := []) rfl (by decide)); (case hL => (repeat (first | exact pm_nil _ | exact pm_refl _ _ | exact pm_self _ | apply pm_cons | apply pm_app))); (case hy => rfl); (case hm => first | rfl | simp); (case hzs => rfl); (case h0 => decide); (case hb => first | (simp; omega) | simp); (case h63 => first | (simp; omega) | simp); (case hsub => first | (intro _ _; exact List.nil_sublist _) | (intros; (exact sbT))); intro v7 ob7 ho7); (apply h_one 11; (case hr => kernel_rfl)); ((apply n_append (ms := [Str.mk nn]); (case hi => rfl); (case hT => infer_instance); (case hsz => infer_instance); (case hz => infer_instance); (case hby => infer_instance); (case hg => rfl); (case hd => rfl); (case hx => rfl); (case ho => exact ho7); (case hL => (repeat (first | exact pm_nil _ | exact pm_refl _ _ | exact pm_self _ | apply pm_cons | apply pm_app))); (case hy => rfl); (case hm => rfl); (case hs => (apply Src.own; (repeat (first | exact List.Mem.head _ | apply List.Mem.tail | apply List.mem_append_right)))); (case hzs => rfl); (case h0 => decide); (case hb => (simp; omega)); (case h63 => (simp; omega)); (case hsub => (intros; (exact sbT))); intro v8 ob8 ho8); refine Wh.freezeOws ho8 (List.Perm.refl _) sbL fun S8 hle8 hs8 => ?_; obtain ⟨A8, c8, rfl, hc8, hA8⟩ := hs8); (apply h_one 12; (case hr => kernel_rfl)); (refine X.Jn ?_; try intro _); (apply h_one 13; (case hr => kernel_rfl)); (apply n_append (ms := [Sv.mk A8 (toS p ++ [Str.mk nn]).length c8]); (case hi => rfl); (case hT => infer_instance); (case hsz => infer_instance); (case hz => infer_instance); (case hby => infer_instance); (case hg => rfl); (case hd => rfl); (case hx => rfl); (case ho => exact ho); (case hL => (repeat (first | exact pm_nil _ | exact pm_refl _ _ | exact pm_self _ | apply pm_cons | apply pm_app))); (case hy => rfl); (case hm => rfl); (case hs => (apply Src.own; (repeat (first | exact List.Mem.head _ | apply List.Mem.tail | apply List.mem_append_right)))); (case hzs => rfl); (case h0 => decide); (case hb => (simp; omega)); (case h63 => (simp; omega)); (case hsub => (intros; (exact sbT))); intro v9 ob9 ho9); refine Jf 14 ?_; (apply h_end; (case hr => kernel_rfl)); ((((repeat (first | refine Jz ?_ | intro _))); exact q_back (L' := ob9 ++ [(b1, .cells [.slice A ns.length c].toArray 36 (0, 0))]) (m' := ns.length - (k + 1)) ⟨hle1.trans hle8, k + 1, ps ++ [p ++ [nn]], _, _, ob9, rfl, by omega, hrp2, by simp [hpl], hlen2, ho9, (hpx.le hle8).snoc (hrr _ _ _ hc8 hA8), rfl, rfl⟩ (by omega) sbF sbL)))))); (case k3 => ((refine X.Jn ?_; try intro _); (apply h_two 1 6; (case hr => kernel_rfl)); (case k1 => ((refine X.Jn ?_; try intro _); (apply h_one 6; (case hr => kernel_rfl)); (apply n_ev; (case hi => rfl); (case hg => rfl); (case hd => rfl); (case he => (apply ev_load_own; (case hx => rfl); (case hm => (repeat (first | exact List.Mem.head _ | apply List.Mem.tail | apply List.mem_append_right))); (case h => exact hcell)))); (apply h_one 7; (case hr => kernel_rfl)); (apply n_append_st (ms := (toS p)) r3; (case hi => rfl); (case hT => infer_instance); (case hsz => infer_instance); (case hz => infer_instance); (case hby => infer_instance); (case hg => rfl); (case hd => rfl); (case hx => rfl); (case ho => exact Ows.full (α := Str) (l := []) rfl (by decide)); (case hL => (repeat (first | exact pm_nil _ | exact pm_refl _ _ | exact pm_self _ | apply pm_cons | apply pm_app))); (case hy => rfl); (case hm => first | rfl | simp); (case hzs => rfl); (case h0 => decide); (case hb => first | (simp; omega) | simp); (case h63 => first | (simp; omega) | simp); (case hsub => first | (intro _ _; exact List.nil_sublist _) | (intros; (exact sbT))); intro v7 ob7 ho7); (apply h_one 11; (case hr => kernel_rfl)); ((apply n_append (ms := [Str.mk nn]); (case hi => rfl); (case hT => infer_instance); (case hsz => infer_instance); (case hz => infer_instance); (case hby => infer_instance); (case hg => rfl); (case hd => rfl); (case hx => rfl); (case ho => exact ho7); (case hL => (repeat (first | exact pm_nil _ | exact pm_refl _ _ | exact pm_self _ | apply pm_cons | apply pm_app))); (case hy => rfl); (case hm => rfl); (case hs => (apply Src.own; (repeat (first | exact List.Mem.head _ | apply List.Mem.tail | apply List.mem_append_right)))); (case hzs => rfl); (case h0 => decide); (case hb => (simp; omega)); (case h63 => (simp; omega)); (case hsub => (intros; (exact sbT))); intro v8 ob8 ho8); refine Wh.freezeOws ho8 (List.Perm.refl _) sbL fun S8 hle8 hs8 => ?_; obtain ⟨A8, c8, rfl, hc8, hA8⟩ := hs8); (apply h_one 12; (case hr => kernel_rfl)); (refine X.Jn ?_; try intro _); (apply h_one 13; (case hr => kernel_rfl)); (apply n_append (ms := [Sv.mk A8 (toS p ++ [Str.mk nn]).length c8]); (case hi => rfl); (case hT => infer_instance); (case hsz => infer_instance); (case hz => infer_instance); (case hby => infer_instance); (case hg => rfl); (case hd => rfl); (case hx => rfl); (case ho => exact ho); (case hL => (repeat (first | exact pm_nil _ | exact pm_refl _ _ | exact pm_self _ | apply pm_cons | apply pm_app))); (case hy => rfl); (case hm => rfl); (case hs => (apply Src.own; (repeat (first | exact List.Mem.head _ | apply List.Mem.tail | apply List.mem_append_right)))); (case hzs => rfl); (case h0 => decide); (case hb => (simp; omega)); (case h63 => (simp; omega)); (case hsub => (intros; (exact sbT))); intro v9 ob9 ho9); refine Jf 14 ?_; (apply h_end; (case hr => kernel_rfl)); ((((repeat (first | refine Jz ?_ | intro _))); exact q_back (L' := ob9 ++ [(b1, .cells [.slice A ns.length c].toArray 36 (0, 0))]) (m' := ns.length - (k + 1)) ⟨hle1.trans hle8, k + 1, ps ++ [p ++ [nn]], _, _, ob9, rfl, by omega, hrp2, by simp [hpl], hlen2, ho9, (hpx.le hle8).snoc (hrr _ _ _ hc8 hA8), rfl, rfl⟩ (by omega) sbF sbL)))); (case k2 => ((apply n_ev; (case hi => rfl); (case hg => rfl); (case hd => rfl); (case he => (apply ev_load_own; (case hx => rfl); (case hm => (repeat (first | exact List.Mem.head _ | apply List.Mem.tail | apply List.mem_append_right))); (case h => exact hcell)))); (apply h_one 1; (case hr => kernel_rfl)); (refine X.Jn ?_; try intro _); (apply h_one 7; (case hr => kernel_rfl)); (apply n_append_st (ms := (toS p)) r3; (case hi => rfl); (case hT => infer_instance); (case hsz => infer_instance); (case hz => infer_instance); (case hby => infer_instance); (case hg => rfl); (case hd => rfl); (case hx => rfl); (case ho => exact Ows.full (α := Str) (l := []) rfl (by decide)); (case hL => (repeat (first | exact pm_nil _ | exact pm_refl _ _ | exact pm_self _ | apply pm_cons | apply pm_app))); (case hy => rfl); (case hm => first | rfl | simp); (case hzs => rfl); (case h0 => decide); (case hb => first | (simp; omega) | simp); (case h63 => first | (simp; omega) | simp); (case hsub => first | (intro _ _; exact List.nil_sublist _) | (intros; (exact sbT))); intro v7 ob7 ho7); (apply h_one 11; (case hr => kernel_rfl)); ((apply n_append (ms := [Str.mk nn]); (case hi => rfl); (case hT => infer_instance); (case hsz => infer_instance); (case hz => infer_instance); (case hby => infer_instance); (case hg => rfl); (case hd => rfl); (case hx => rfl); (case ho => exact ho7); (case hL => (repeat (first | exact pm_nil _ | exact pm_refl _ _ | exact pm_self _ | apply pm_cons | apply pm_app))); (case hy => rfl); (case hm => rfl); (case hs => (apply Src.own; (repeat (first | exact List.Mem.head _ | apply List.Mem.tail | apply List.mem_append_right)))); (case hzs => rfl); (case h0 => decide); (case hb => (simp; omega)); (case h63 => (simp; omega)); (case hsub => (intros; (exact sbT))); intro v8 ob8 ho8); refine Wh.freezeOws ho8 (List.Perm.refl _) sbL fun S8 hle8 hs8 => ?_; obtain ⟨A8, c8, rfl, hc8, hA8⟩ := hs8); (apply h_one 12; (case hr => kernel_rfl)); (refine X.Jn ?_; try intro _); (apply h_one 13; (case hr => kernel_rfl)); (apply n_append (ms := [Sv.mk A8 (toS p ++ [Str.mk nn]).length c8]); (case hi => rfl); (case hT => infer_instance); (case hsz => infer_instance); (case hz => infer_instance); (case hby => infer_instance); (case hg => rfl); (case hd => rfl); (case hx => rfl); (case ho => exact ho); (case hL => (repeat (first | exact pm_nil _ | exact pm_refl _ _ | exact pm_self _ | apply pm_cons | apply pm_app))); (case hy => rfl); (case hm => rfl); (case hs => (apply Src.own; (repeat (first | exact List.Mem.head _ | apply List.Mem.tail | apply List.mem_append_right)))); (case hzs => rfl); (case h0 => decide); (case hb => (simp; omega)); (case h63 => (simp; omega)); (case hsub => (intros; (exact sbT))); intro v9 ob9 ho9); refine Jf 14 ?_; (apply h_end; (case hr => kernel_rfl)); ((((repeat (first | refine Jz ?_ | intro _))); exact q_back (L' := ob9 ++ [(b1, .cells [.slice A ns.length c].toArray 36 (0, 0))]) (m' := ns.length - (k + 1)) ⟨hle1.trans hle8, k + 1, ps ++ [p ++ [nn]], _, _, ob9, rfl, by omega, hrp2, by simp [hpl], hlen2, ho9, (hpx.le hle8).snoc (hrr _ _ _ hc8 hA8), rfl, rfl⟩ (by omega) sbF sbL)))))))
end Go.Proofs.Ytcnfchchanlepaa
namespace Go.Proofs.Ytcnfchchanlepaa
open Go Go.X
set_option linter.unusedVariables false
section
variable {w : List Bs → Int} {L : List (List Bs)}
theorem rp_step (h : GT w L) {k : Nat} {p : List Bs} (hp : L[k]? = some p) : rpN k (nodeC w L p) (L.take k) = some (L.take (k + 1)) := by
  have hpm := List.mem_of_getElem? hp
  unfold rpN
  by_cases hk0 : k = 0
  · subst hk0
    have e : p = [] := Option.some.inj (hp.symm.trans h.can.head)
    subst e
    rw [if_pos rfl, if_neg (by rintro (h | h); exact h rfl; exact h rfl), take_at hp]
  have hne : p ≠ [] := fun e => by
    have := srt_lt h.can.srt h.can.head hp (by omega)
    rw [e] at this
    exact plt_irr _ this
  have hdm : p.dropLast ∈ L := h.can.closed p hpm _ (List.dropLast_prefix _)
  have hpar : (nodeC w L p).parent = ((L.idxOf p.dropLast : Nat) : Int) := if_neg hne
  have hname : (nodeC w L p).name = nameOf p := rfl
  obtain ⟨j, hj⟩ : ∃ j, L.idxOf p.dropLast = j := ⟨_, rfl⟩
  have hjl : j < L.length := by rw [← hj]; exact List.idxOf_lt_length_iff.2 hdm
  have hjp : L[j]? = some p.dropLast := by
    subst hj
    rw [List.getElem?_eq_getElem hjl, List.getElem_idxOf]
  have hjk : j < k := srt_idx h.can.srt hjp hp (drop_lt hne)
  have hjt : (L.take k)[j]? = some p.dropLast := by rw [List.getElem?_take_of_lt hjk]; exact hjp
  have hpd : (L.take k).getD j [] = p.dropLast := by rw [List.getD_eq_getElem?_getD, hjt]; rfl
  rw [if_neg hk0, hpar, hname, hj, if_neg (by omega), Int.toNat_natCast, hpd, name_cat hne, take_at hp]
theorem rp_all (h : GT w L) : ∀ (m k : Nat), k + m = L.length → rpA ((nodesC w L).drop k) k (L.take k) = some L
  | 0, k, hk => by
    rw [List.drop_eq_nil_of_le (by rw [nodesC_len]; omega), rpA, List.take_of_length_le (by omega)]
  | m + 1, k, hk => by
    obtain ⟨p, hp⟩ : ∃ p, L[k]? = some p := at_lt (by omega)
    have hn : (nodesC w L)[k]? = some (nodeC w L p) := by unfold nodesC; rw [List.getElem?_map, hp]; rfl
    rw [rpA_at hn, rp_step h hp]
    exact rp_all h m (k + 1) (by omega)
theorem rp_C (h : GT w L) : rpF (nodesC w L) = some L := rp_all h L.length 0 (by omega)
theorem nodesC_at {k : Nat} {p : List Bs} (hp : L[k]? = some p) : (nodesC w L)[k]? = some (nodeC w L p) := by unfold nodesC; rw [List.getElem?_map, hp]; rfl
end
/-- What stacks weigh below a path, and at it. -/
def totS (l : List Sym) (ys : List Sk) (q : List Bs) : Int := (ys.map fun y => if q <+: pathOf l y then y.weight else 0).sum
def ownS (l : List Sym) (ys : List Sk) (q : List Bs) : Int := (ys.map fun y => if pathOf l y = q then y.weight else 0).sum
section
variable {l : List Sym}
theorem ownS_eq {ys : List Sk} (hv : ∀ y ∈ ys, VQ (pathOf l y)) {q : List Bs} (hq : VQ q) : wS l ys q = ownS l ys q := by
  unfold wS wI stkE ownS
  rw [List.map_map]
  refine sum_congrP fun y hy => ?_
  simp only [Function.comp_apply]
  by_cases h : pathOf l y = q
  · rw [if_pos h, if_pos (by rw [h])]
  · rw [if_neg h, if_neg fun e => h (pth_inj (hv y hy) hq e)]
theorem totS_eq {M : List (List Bs)} (hn : M.Nodup) (hM : ∀ p ∈ M, VQ p) (q : List Bs) : ∀ {ys : List Sk}, (∀ y ∈ ys, VQ (pathOf l y) ∧ pathOf l y ∈ M) → totL (wS l ys) M q = totS l ys q
  | [], _ => by
    unfold totS
    have : totL (wS l []) M q = (M.map fun p => if False then (0 : Int) else 0).sum := sum_congrP fun p _ => by
      have : wS l [] p = 0 := rfl
      rw [this]; split <;> rfl
    rw [this, sum_zeroP fun _ _ h => h]; rfl
  | y :: ys, h => by
    have ih := totS_eq hn hM q (ys := ys) fun x hx => h x (List.mem_cons_of_mem _ hx)
    obtain ⟨hv, hm⟩ := h y List.mem_cons_self
    have e1 : totL (wS l (y :: ys)) M q = totL (fun p => if p = pathOf l y then y.weight else 0) M q + totL (wS l ys) M q := by
      rw [← totL_add]
      refine totL_congr (fun p hp => ?_) q
      have : wS l (y :: ys) p = (if pth (pathOf l y) = pth p then y.weight else 0) + wS l ys p := by unfold wS stkE; rw [List.map_cons, wI_cons]
      rw [this]
      by_cases hc : p = pathOf l y
      · rw [if_pos hc, if_pos (by rw [hc])]
      · rw [if_neg hc, if_neg fun e => hc (pth_inj hv (hM p hp) e).symm]
    have e2 : totL (fun p => if p = pathOf l y then y.weight else 0) M q = if q <+: pathOf l y then y.weight else 0 := by
      unfold totL
      by_cases hq : q <+: pathOf l y
      · rw [if_pos hq, sum_congrP (g := fun p => if p = pathOf l y then y.weight else 0) fun p _ => by
          show (if q <+: p then (if p = pathOf l y then y.weight else 0) else 0) = if p = pathOf l y then y.weight else 0
          by_cases hc : p = pathOf l y
          · rw [if_pos hc, hc, if_pos hq]
          · rw [if_neg hc]; split <;> rfl, sum_oneP (f := fun _ => y.weight) hn hm fun _ _ => Iff.rfl]
      · rw [if_neg hq, sum_congrP (g := fun p => if False then (0 : Int) else 0) fun p _ => by
          rw [if_neg (fun h => h)]
          show (if q <+: p then (if p = pathOf l y then y.weight else 0) else 0) = 0
          by_cases hc : p = pathOf l y
          · rw [hc, if_neg hq]
          · rw [if_neg hc]; split <;> rfl, sum_zeroP fun _ _ h => h]
    rw [e1, e2, ih]
    unfold totS
    rw [List.map_cons, List.sum_cons]
end
section
variable {l : List Sym} {ys : List Sk}
theorem Gd.vq (h : Gd l ys) : ∀ y ∈ ys, VQ (pathOf l y) := fun y hy => pathOf_vq h.1 h.2 hy
theorem mF_path (h : Gd l ys) : ∀ y ∈ ys, pathOf l y ∈ mF l ys := fun y hy => ((mF_gt h).can.mem _).2 (.inr ⟨_, h.vq y hy, wS_at h.2 hy, List.prefix_refl _⟩)
theorem nF_node (h : Gd l ys) {k : Nat} {p : List Bs} (hp : (mF l ys)[k]? = some p) : ∃ n, (nF l ys)[k]? = some n ∧ n.own = ownS l ys p ∧ n.total = totS l ys p ∧ n.own = wS l ys p ∧ n.total = totL (wS l ys) (mF l ys) p := by
  have hm := List.mem_of_getElem? hp
  have hv := (mF_gt h).can.vq p hm
  exact ⟨_, nodesC_at hp, ownS_eq h.vq hv, totS_eq (srt_nodup (mF_gt h).can.srt) (mF_gt h).can.vq p fun y hy => ⟨h.vq y hy, mF_path h y hy⟩, rfl, rfl⟩
theorem nF_rp (h : Gd l ys) : rpF (nF l ys) = some (mF l ys) := rp_C (mF_gt h)
theorem pathsT (h : Gd l ys) (A : Option Addr) (c : Nat) (S : SH) (hA : At S A (nF l ys)) :
    Con Try.prog 19 #[.agg #[.slice A (nF l ys).length c]] S [] (fun S' L' r => ∃ v xs, r = .tuple #[v, .bool true] ∧ Ows 48 v xs L' ∧ PthL S' xs (mF l ys)) :=
  (rPaths_con (nF l ys) A c S hA (nF_len h)).mono fun S' L' r _ ⟨_, hr⟩ => by
    rcases hr with ⟨h1, _⟩ | ⟨ps, v, xs, h1, h2, h3, h4, _⟩
    · rw [nF_rp h] at h1; cases h1
    · rw [nF_rp h] at h1
      obtain rfl := Option.some.inj h1
      exact ⟨v, xs, h2, h3, h4⟩
end
end Go.Proofs.Ytcnfchchanlepaa
namespace Go.Proofs.Ytcnfchchanlepaa
open Go Go.X
section
variable {l : List Sym} {ya yb : List Sk}
theorem fit_all (k : Gd l yb) (hfit : ∀ p ∈ mF l yb, wS l yb p ≤ wS l ya p) (h : Gd l ya) : ∀ p, VQ p → wS l yb p ≤ wS l ya p := fun p hp => by
  by_cases hm : p ∈ mF l yb
  · exact hfit p hm
  · rw [(mF_gt k).can.off (fun q _ => wS_pos k.2 q) hp hm]
    exact wS_pos h.2 p
theorem sub_fit (h : Gd l ya) (k : Gd l yb) (hfit : ∀ p ∈ mF l yb, wS l yb p ≤ wS l ya p) {v : Value} {ec : Int} {L' : Blocks} (hc : CombR (-1) (nF l ya) (nF l yb) v ec L') :
    ec = 0 ∧ ∃ N, GT (fun p => wS l ya p - wS l yb p) N ∧ Ows 53 v (nodesC (fun p => wS l ya p - wS l yb p) N) L' := by
  have hall := fit_all k hfit h
  have ha := mF_gt h
  have hb := mF_gt k
  have he : ∀ p, VQ p → wT Nd.own (nF l ya) p + -1 * wT Nd.own (nF l yb) p = wS l ya p - wS l yb p := fun p hp => by
    unfold nF
    rw [wT_own ha (fun p _ => wS_pos h.2 p) hp, wT_own hb (fun p _ => wS_pos k.2 p) hp]; omega
  rcases hc with ⟨hc, _⟩ | ⟨_, ⟨⟨p, hp, hneg⟩, _⟩ | ⟨_, M, hM, hc⟩⟩
  · exact absurd ⟨nF_valid h, nF_valid k⟩ hc
  · rw [he p hp] at hneg
    have := hall p hp
    omega
  · have hM' := hM.congr he
    have hg : GT (fun p => wS l ya p - wS l yb p) M := ha.mono hM' (fun p hp => by have := hall p hp; omega) (fun p hp => by have := wS_pos (l := l) k.2 p; omega)
    have hsame : nodesC (fun p => wT Nd.own (nF l ya) p + -1 * wT Nd.own (nF l yb) p) M = nodesC (fun p => wS l ya p - wS l yb p) M := nodesC_congr fun p hp => he p (hM.vq p hp)
    have e2 : sumL (fun p => wT Nd.own (nF l ya) p + -1 * wT Nd.own (nF l yb) p) M = sumL (fun p => wS l ya p - wS l yb p) M := sumL_congr fun p hp => he p (hM.vq p hp)
    rcases hc with ⟨_, h5, h6⟩ | ⟨h4, _⟩
    · exact ⟨h5, M, hg, by rw [← hsame]; exact h6⟩
    · refine absurd ?_ h4
      unfold fits
      rw [e2]; exact hg.fit
theorem sub_nofit (h : Gd l ya) (k : Gd l yb) {p : List Bs} (hp : p ∈ mF l yb) (hlt : wS l ya p < wS l yb p) {v : Value} {ec : Int} {L' : Blocks} (hc : CombR (-1) (nF l ya) (nF l yb) v ec L') : ec = 180 ∧ v = .slice none 0 0 ∧ L' = [] :=
  comb_no (mF_gt h) (mF_gt k) (fun p _ => wS_pos h.2 p) (fun p _ => wS_pos k.2 p) ((mF_gt k).can.vq p hp) (by omega) hc
theorem back_fit (h : Gd l ya) (k : Gd l yb) (hfit : ∀ p ∈ mF l yb, wS l yb p ≤ wS l ya p) {N : List (List Bs)} (hN : GT (fun p => wS l ya p - wS l yb p) N) {v : Value} {ec : Int} {L' : Blocks} (hc : CombR 1 (nodesC (fun p => wS l ya p - wS l yb p) N) (nF l yb) v ec L') : ec = 0 ∧ Ows 53 v (nF l ya) L' :=
  comb_ok hN (mF_gt k) (fun p hp => by have := fit_all k hfit h p hp; omega) (fun p _ => wS_pos k.2 p) (mF_gt h) (fun p _ => wS_pos h.2 p) (fun p _ => by omega) hc
theorem own_at (h : Gd l ya) {q : List Bs} (hq : VQ q) : (if q ∈ mF l ya then wS l ya q else 0) = wS l ya q := by
  by_cases hm : q ∈ mF l ya
  · rw [if_pos hm]
  · rw [if_neg hm, (mF_gt h).can.off (fun q _ => wS_pos h.2 q) hq hm]
end
/-- Whether all own weights that are looked at fit. -/
def fitB (l : List Sym) (ya yb : List Sk) (M : List (List Bs)) : Bool := M.all fun p => decide (wS l yb p ≤ wS l ya p)
theorem fitB_snoc (l : List Sym) (ya yb : List Sk) (M : List (List Bs)) (p : List Bs) : fitB l ya yb (M ++ [p]) = (fitB l ya yb M && decide (wS l yb p ≤ wS l ya p)) := by simp [fitB]
theorem mem_take_snoc {M : List (List Bs)} {k : Nat} {p q : List Bs} (hp : M[k]? = some p) : q ∈ M.take (k + 1) ↔ q ∈ M.take k ∨ q = p := by rw [take_at hp]; simp
set_option maxRecDepth 10000
set_option linter.unusedVariables false
attribute [local irreducible] Code.wpIn wpListIn Exit.then Exit.inBlock X.Out X.Back X.W X.Ev X.Con X.BinV X.Wh X.Wn X.Wq
set_option maxHeartbeats 6400000 in
theorem subs_law (xs : List A3) (A : Option Addr) (c : Nat) (ls : List A6) (B : Option Addr) (d : Nat) (ms : List A6) (D : Option Addr) (e : Nat) (S : SH) (hA : At S A xs) (hx : ∀ x ∈ xs, i64A x) (hB : At S B ls) (hl : ∀ x ∈ ls, i64B x) (hD : At S D ms) (hm : ∀ x ∈ ms, i64B x) :
    Con Try.prog 7 #[.slice A xs.length c, .slice B ls.length d, .slice D ms.length e] S [] (fun _ L' r => L' = [] ∧ r = .bool true) := by
  refine con_of (args := [.slice A xs.length c, .slice B ls.length d, .slice D ms.length e]) Try.func7 rfl Try.ntmps7 rfl fun w => ?_
  have g1 := gdT xs ls
  have g2 := gdT xs ms
  have l1 := madeF_len ls
  have l2 := madeF_len ms
  have g12 := g1.app g2 (by omega)
  (repeat (first | refine Jc ?_ | (apply s_call; (case hg => rfl); (case hd => rfl); (case ha => rfl); (case hc => exact sane_con _); (case hL => (repeat (first | exact pm_nil _ | exact pm_refl _ _ | exact pm_self _ | apply pm_cons | apply pm_app))); rintro S1 _ _ h1 ⟨rfl, rfl⟩) | refine Jo ?_ | intro _))
  (repeat (first | refine Jc ?_ | ((apply s_call; (case hg => rfl); (case hd => rfl); (case ha => rfl); (case hc => exact rTable_con xs A c _ (hA.le h1) hx); (case hL => (repeat (first | exact pm_nil _ | exact pm_refl _ _ | exact pm_self _ | apply pm_cons | apply pm_app))); rintro S2 L2 v2 h2 ⟨-, ho2⟩); refine W.freezeOws ho2 (List.Perm.refl _) fun S3 h3 hs3 => ?_; obtain ⟨At_, ct, rfl, hct, hT⟩ := hs3) | refine Jo ?_ | intro _))
  have h13 := (h1.trans h2).trans h3
  (repeat (first | refine Jc ?_ | ((apply s_call; (case hg => rfl); (case hd => rfl); (case ha => rfl); (case hc => exact tree_con' xs ls A B c d _ (hA.le h13) hx (hB.le h13) hl); (case hL => (repeat (first | exact pm_nil _ | exact pm_refl _ _ | exact pm_self _ | apply pm_cons | apply pm_app))); rintro S4 L4 _ h4 ⟨v4, rfl, ho4⟩); refine W.freezeOws ho4 (List.Perm.refl _) fun S5 h5 hs5 => ?_; obtain ⟨Aa, ca, rfl, _, ha⟩ := hs5) | refine Jo ?_ | intro _))
  rename_i b9
  have h15 := h13.trans (h4.trans h5)
  (repeat (first | refine Jc ?_ | ((apply s_call; (case hg => rfl); (case hd => rfl); (case ha => rfl); (case hc => exact tree_con' xs ms A D c e _ (hA.le h15) hx (hD.le h15) hm); (case hL => (repeat (first | exact pm_nil _ | exact pm_refl _ _ | exact pm_self _ | apply pm_cons | apply pm_app))); rintro S6 L6 _ h6 ⟨v6, rfl, ho6⟩); refine W.freezeOws ho6 (List.Perm.refl _) fun S7 h7 hs7 => ?_; obtain ⟨Ab, cb, rfl, _, hb⟩ := hs7) | refine Jo ?_ | intro _))
  rename_i b11
  have h57 := h6.trans h7
  have h17 := h15.trans h57
  (repeat (first | refine Jc ?_ | ((apply s_call; (case hg => rfl); (case hd => rfl); (case ha => rfl); (case hc => exact rMade_con ls B d _ (hB.le h17) hl); (case hL => (repeat (first | exact pm_nil _ | exact pm_refl _ _ | exact pm_self _ | apply pm_cons | apply pm_app))); rintro S8 L8 v8 h8 ⟨-, xa, ho8, ka⟩); obtain ⟨A8, c8, rfl⟩ := ho8.form) | refine Jo ?_ | intro _))
  have h18 := h17.trans h8
  (repeat (first | refine Jc ?_ | ((apply s_call; (case hg => rfl); (case hd => rfl); (case ha => rfl); (case hc => exact rMade_con ms D e _ (hD.le h18) hm); (case hL => (repeat (first | exact pm_nil _ | exact pm_refl _ _ | exact pm_self _ | apply pm_cons | apply pm_app))); rintro S9 L9 v9 h9 ⟨-, xb, ho9, kb⟩); refine W.freezeOws ho9 (List.Perm.refl _) fun S10 h10 hs10 => ?_; obtain ⟨A10, c10, rfl, _, hb10⟩ := hs10) | refine Jo ?_ | intro _))
  have h810 := h9.trans h10
  have kab := (ka.le h810).app (kb.le h10)
  have la := ka.1
  have lb := kb.1
  (repeat (first | refine Jc ?_ | (apply s_append_st (ms := xb) hb10; (case hg => rfl); (case hd => rfl); (case hx => rfl); (case ho => exact ho8); (case hL => (repeat (first | exact pm_nil _ | exact pm_refl _ _ | exact pm_self _ | apply pm_cons | apply pm_app))); (case hy => rfl); (case hm => first | rfl | simp); (case hzs => rfl); (case h0 => decide); (case hb => omega); (case h63 => omega); intro v11 ob11 ho11) | refine Jo ?_ | intro _))
  refine W.freezeOws ho11 (List.Perm.refl _) fun S11 h11 hs11 => ?_
  obtain ⟨A11, c11, rfl, _, hA11⟩ := hs11
  have h711 := (h8.trans h810).trans h11
  have hT11 := ((hT.le (h4.trans h5)).le h57).le h711
  (repeat (first | refine Jc ?_ | ((apply s_call; (case hg => rfl); (case hd => rfl); (case ha => rfl); (case hc => exact foldT g12 (xa ++ xb) _ _ _ _ _ hT11 hA11 (kab.le h11)); (case hL => (repeat (first | exact pm_nil _ | exact pm_refl _ _ | exact pm_self _ | apply pm_cons | apply pm_app))); rintro S12 L12 _ h12 ⟨v12, rfl, ho12⟩); refine W.freezeOws ho12 (List.Perm.refl _) fun S13 h13' hs13 => ?_; obtain ⟨Al, cl, rfl, _, hal⟩ := hs13) | refine Jo ?_ | intro _))
  have h1113 := h12.trans h13'
  have hb13 := (hb.le h711).le h1113
  have ha13 := ((ha.le h57).le h711).le h1113
  (repeat (first | refine Jc ?_ | ((apply s_call; (case hg => rfl); (case hd => rfl); (case ha => rfl); (case hc => exact subT g1 g2 g12 _ _ _ _ _ hal hb13); (case hL => (repeat (first | exact pm_nil _ | exact pm_refl _ _ | exact pm_self _ | apply pm_cons | apply pm_app))); rintro S14 L14 _ h14 ⟨v14, rfl, ho14⟩); refine W.freezeOws ho14 (List.Perm.refl _) fun S15 h15' hs15 => ?_; obtain ⟨Ar, cr, rfl, _, har⟩ := hs15) | refine Jo ?_ | intro _))
  have h1315 := h14.trans h15'
  have ha15 := ha13.le h1315
  have hb15 := hb13.le h1315
  (repeat (first | refine Jc ?_ | ((apply s_call; (case hg => rfl); (case hd => rfl); (case ha => rfl); (case hc => exact sameT (nF_len g1) rfl _ _ _ _ _ har ha15); (case hL => (repeat (first | exact pm_nil _ | exact pm_refl _ _ | exact pm_self _ | apply pm_cons | apply pm_app))); rintro _ _ _ - ⟨rfl, rfl, rfl⟩)) | refine Jo ?_ | intro _))
  (repeat (first | refine Jc ?_ | ((apply s_call; (case hg => rfl); (case hd => rfl); (case ha => rfl); (case hc => exact sub_con (nF (tableF xs) (madeF ls)) (nF (tableF xs) (madeF ms)) _ _ _ _ _ ha15 hb15 (nF_len g1) (nF_len g2)); (case hL => (repeat (first | exact pm_nil _ | exact pm_refl _ _ | exact pm_self _ | apply pm_cons | apply pm_app))); rintro S16 L16 _ h16 ⟨v16, ed, rfl, hc16⟩); obtain ⟨Ad, md, cd, rfl⟩ := hc16.form) | refine Jo ?_ | intro _))
  rename_i b13 b15 b17
  have ha16 := ha15.le h16
  have hb16 := hb15.le h16
  (repeat (first | refine Jc ?_ | ((apply s_call; (case hg => rfl); (case hd => rfl); (case ha => rfl); (case hc => exact pathsT g1 _ _ _ ha16); (case hL => (repeat (first | exact pm_nil _ | exact pm_refl _ _ | exact pm_self _ | apply pm_cons | apply pm_app))); rintro S18 L18 _ h18 ⟨v18, ps, rfl, ho18, hps⟩); refine W.freezeOws ho18 (List.Perm.refl _) fun S19 h19 hs19 => ?_; obtain ⟨Ap, cp, rfl, hcp, hAp⟩ := hs19; have hpl := hps.1) | refine Jo ?_ | intro _))
  have h1619 := h18.trans h19
  have hb19 := hb16.le h1619
  (repeat (first | refine Jc ?_ | ((apply s_call; (case hg => rfl); (case hd => rfl); (case ha => rfl); (case hc => exact pathsT g2 _ _ _ hb19); (case hL => (repeat (first | exact pm_nil _ | exact pm_refl _ _ | exact pm_self _ | apply pm_cons | apply pm_app))); rintro S20 L20 _ h20 ⟨v20, qs, rfl, ho20, hqs⟩); refine W.freezeOws ho20 (List.Perm.refl _) fun S21 h21 hs21 => ?_; obtain ⟨Aq, cq, rfl, hcq, hAq⟩ := hs21; have hql := hqs.1) | refine Jo ?_ | intro _))
  have h1621 := h1619.trans (h20.trans h21)
  have ha21 := ha16.le h1621
  have hb21 := hb16.le h1621
  have hp21 := (hAp.le h20).le h21
  have hps21 := ((hps.le h19).le h20).le h21
  have hqs21 := hqs.le h21
  have hM1 := mF_gt g1
  have hM2 := mF_gt g2
  have m1 := hM1.fit.2
  have m2 := hM2.fit.2
  generalize hL : tableF xs = l at *
  generalize hY : madeF ls = ya at *
  generalize hZ : madeF ms = yb at *
  refine c_loop (fun m S' L F => Le S21 S' ∧ ∃ (i : Nat), m = qs.length - i ∧ i ≤ qs.length ∧ L = (b17, .cells [.slice Ad md cd].toArray 36 (0, 0)) :: (L16 ++ [(b11, .cells [.slice Ab (nF l yb).length cb].toArray 36 (0, 0)), (b9, .cells [.slice Aa (nF l ya).length ca].toArray 36 (0, 0))]) ∧
      F = [(7, .bool true), (9, .pointer (some ⟨b9, 0, none⟩)), (11, .pointer (some ⟨b11, 0, none⟩)), (17, .pointer (some ⟨b17, 0, none⟩)), (18, .int .i64 ed), (19, .slice Ap ps.length cp), (21, .slice Aq qs.length cq), (23, .bool (fitB l ya yb ((mF l yb).take i))), (24, .int .i64 i)]) ⟨Le.refl _, 0, rfl, by omega, rfl, rfl⟩ sbF sbL ?_
  rintro m S22 L F ⟨h22, i, rfl, hi, rfl, rfl⟩
  by_cases hiq : i < qs.length
  rotate_left
  · rw [List.take_of_length_le (by omega)]
    by_cases hfit : ∀ p ∈ mF l yb, wS l yb p ≤ wS l ya p
    · obtain ⟨rfl, N, hN, ho⟩ := sub_fit g1 g2 hfit hc16
      have ef : fitB l ya yb (mF l yb) = true := by unfold fitB; rw [List.all_eq_true]; exact fun p hp => decide_eq_true (hfit p hp)
      rw [ef]
      refine W.freezeOws (L1 := (b17, .cells [.slice Ad md cd].toArray 36 (0, 0)) :: [(b11, .cells [.slice Ab (nF l yb).length cb].toArray 36 (0, 0)), (b9, .cells [.slice Aa (nF l ya).length ca].toArray 36 (0, 0))]) ho (pmc (fun p => by (repeat (first | rw [List.countP_append] | rw [List.countP_cons] | rw [List.countP_nil])); (all_goals (first | rfl | omega)))) fun S30 h30 hs30 => ?_
      obtain ⟨A30, c30, e30, _, hd30⟩ := hs30
      injection e30 with e31 e32 e33
      subst e31; subst e32; subst e33
      have hb30 := (hb21.le h22).le h30
      have ha30 := (ha21.le h22).le h30
      (repeat (first | refine Jc ?_ | ((apply s_call; (case hg => rfl); (case hd => rfl); (case ha => rfl); (case hc => exact merge_con _ (nF l yb) _ _ _ _ _ hd30 hb30 (by rw [nodesC_len]; have := hN.fit.2; omega) (nF_len g2)); (case hL => (repeat (first | exact pm_nil _ | exact pm_refl _ _ | exact pm_self _ | apply pm_cons | apply pm_app))); rintro S31 L31 _ h31 ⟨v31, ec31, rfl, hc31⟩); obtain ⟨rfl, ho31⟩ := back_fit g1 g2 hfit hN hc31; refine W.freezeOws ho31 (List.Perm.refl _) fun S32 h32 hs32 => ?_; obtain ⟨A32, c32, rfl, _, hk32⟩ := hs32) | refine Jo ?_ | intro _))
      have ha32 := (ha30.le h31).le h32
      (repeat (first | refine Jc ?_ | ((apply s_call; (case hg => rfl); (case hd => rfl); (case ha => rfl); (case hc => exact sameT (nF_len g1) rfl _ _ _ _ _ hk32 ha32); (case hL => (repeat (first | exact pm_nil _ | exact pm_refl _ _ | exact pm_self _ | apply pm_cons | apply pm_app))); rintro _ _ _ - ⟨rfl, rfl, rfl⟩)) | refine Jo ?_ | intro _))
      exact o_ret (L' := []) Try.results7 rfl (List.nil_sublist _) ⟨rfl, rfl⟩
    · obtain ⟨p, hp, hlt⟩ : ∃ p, p ∈ mF l yb ∧ wS l ya p < wS l yb p := by
        simp only [Classical.not_forall] at hfit
        obtain ⟨p, hp, hn⟩ := hfit
        exact ⟨p, hp, by omega⟩
      obtain ⟨rfl, e2, rfl⟩ := sub_nofit g1 g2 hp hlt hc16
      have ef : fitB l ya yb (mF l yb) = false := by unfold fitB; rw [List.all_eq_false]; exact ⟨p, hp, by rw [decide_eq_false (by omega)]; decide⟩
      rw [ef]
      (repeat (first | refine Jz ?_ | intro _))
      exact o_ret (L' := []) Try.results7 rfl (List.nil_sublist _) ⟨rfl, rfl⟩
  obtain ⟨q, hq⟩ : ∃ q, (mF l yb)[i]? = some q := at_lt (by omega)
  obtain ⟨sq, hsq⟩ := at_lt hiq
  obtain ⟨nb, hnb, -, -, nb1, -⟩ := nF_node g2 hq
  have hqv := hM2.can.vq q (List.mem_of_getElem? hq)
  have hqo := own_at g1 hqv
  have hfs := fitB_snoc l ya yb ((mF l yb).take i) q
  rw [← take_at hq] at hfs
  generalize fitB l ya yb ((mF l yb).take i) = ft at hfs
  (repeat (first | refine Jz ?_ | intro _))
  refine c_loop (fun m S' L F => Le S22 S' ∧ ∃ (k : Nat), m = ps.length - k ∧ k ≤ ps.length ∧ L = (b17, .cells [.slice Ad md cd].toArray 36 (0, 0)) :: (L16 ++ [(b11, .cells [.slice Ab (nF l yb).length cb].toArray 36 (0, 0)), (b9, .cells [.slice Aa (nF l ya).length ca].toArray 36 (0, 0))]) ∧
      F = [(7, .bool true), (9, .pointer (some ⟨b9, 0, none⟩)), (11, .pointer (some ⟨b11, 0, none⟩)), (17, .pointer (some ⟨b17, 0, none⟩)), (18, .int .i64 ed), (19, .slice Ap ps.length cp), (21, .slice Aq qs.length cq), (23, .bool ft), (24, .int .i64 i), (25, .int .i64 (if q ∈ (mF l ya).take k then wS l ya q else 0)), (26, .int .i64 k)]) ⟨Le.refl _, 0, rfl, by omega, rfl, rfl⟩ sbF (List.Sublist.refl _) ?_
  rintro m S23 L F ⟨h23, k, rfl, hk, rfl, rfl⟩
  have h2123 := h22.trans h23
  have ha23 := ha21.le h2123
  have hb23 := hb21.le h2123
  have hP23 := hp21.le h2123
  have hQ23 := hAq.le h2123
  obtain ⟨r1, r2, r3⟩ := (hqs21.le h2123).2 i sq q hsq hq
  have tlq := toS_len q
  have hq12 := hqv.1
  by_cases hkp : k < ps.length
  rotate_left
  · rw [List.take_of_length_le (by omega), hqo]
    cases ft with
    | false =>
      (repeat (first | refine Jz ?_ | intro _))
      exact q_back (L' := (b17, .cells [.slice Ad md cd].toArray 36 (0, 0)) :: (L16 ++ [(b11, .cells [.slice Ab (nF l yb).length cb].toArray 36 (0, 0)), (b9, .cells [.slice Aa (nF l ya).length ca].toArray 36 (0, 0))])) (m' := qs.length - (i + 1)) ⟨h2123, i + 1, rfl, by omega, rfl, by rw [hfs]⟩ (by omega) sbF sbL
    | true =>
      by_cases hge : wS l yb q ≤ wS l ya q
      · have e1 : fitB l ya yb ((mF l yb).take (i + 1)) = true := by rw [hfs, decide_eq_true hge]; rfl
        (repeat (first | refine Jc ?_ | (apply s_idx hb23; (case hg => rfl); (case hd => rfl); (case hx => rfl); (case hi => rfl); (case hm => rfl); (case hu => exact hnb); intro p (hp : Pts _ p [.int .i64 nb.parent, strV nb.name, .int .i64 nb.own, .int .i64 nb.total])) | (apply s_load_f; (case hg => rfl); (case hd => rfl); (case hx => rfl); (case h => exact hp); (case hv => rfl)) | refine Jo ?_ | intro _))
        exact q_back (L' := (b17, .cells [.slice Ad md cd].toArray 36 (0, 0)) :: (L16 ++ [(b11, .cells [.slice Ab (nF l yb).length cb].toArray 36 (0, 0)), (b9, .cells [.slice Aa (nF l ya).length ca].toArray 36 (0, 0))])) (m' := qs.length - (i + 1)) ⟨h2123, i + 1, rfl, by omega, rfl, by rw [e1]⟩ (by omega) sbF sbL
      · have e1 : fitB l ya yb ((mF l yb).take (i + 1)) = false := by rw [hfs, decide_eq_false hge]; rfl
        (repeat (first | refine Jc ?_ | (apply s_idx hb23; (case hg => rfl); (case hd => rfl); (case hx => rfl); (case hi => rfl); (case hm => rfl); (case hu => exact hnb); intro p (hp : Pts _ p [.int .i64 nb.parent, strV nb.name, .int .i64 nb.own, .int .i64 nb.total])) | (apply s_load_f; (case hg => rfl); (case hd => rfl); (case hx => rfl); (case h => exact hp); (case hv => rfl)) | refine Jo ?_ | intro _))
        exact q_back (L' := (b17, .cells [.slice Ad md cd].toArray 36 (0, 0)) :: (L16 ++ [(b11, .cells [.slice Ab (nF l yb).length cb].toArray 36 (0, 0)), (b9, .cells [.slice Aa (nF l ya).length ca].toArray 36 (0, 0))])) (m' := qs.length - (i + 1)) ⟨h2123, i + 1, rfl, by omega, rfl, by rw [e1]⟩ (by omega) sbF sbL
  obtain ⟨p, hp⟩ : ∃ p, (mF l ya)[k]? = some p := at_lt (by omega)
  obtain ⟨sp, hsp⟩ := at_lt hkp
  obtain ⟨na, hna, -, -, na1, -⟩ := nF_node g1 hp
  have hpv := hM1.can.vq p (List.mem_of_getElem? hp)
  obtain ⟨u1, u2, u3⟩ := (hps21.le h2123).2 k sp p hsp hp
  have tlp := toS_len p
  have hp12 := hpv.1
  obtain ⟨spa, spm, spc⟩ := sp
  obtain ⟨sqa, sqm, sqc⟩ := sq
  simp only at u1 u2 u3 r1 r2 r3
  subst u1; subst r1
  have hcc := rCompare_con p q _ _ spc sqc _ u3 r3 (by omega) (by omega)
  have hms : q ∈ (mF l ya).take (k + 1) ↔ q ∈ (mF l ya).take k ∨ q = p := mem_take_snoc hp
  by_cases he : p = q
  · have e1 : (if q ∈ (mF l ya).take (k + 1) then wS l ya q else 0) = na.own := by rw [if_pos (hms.2 (.inr he.symm)), na1, he]
    rw [cmpP_eq0.2 he] at hcc
    (repeat (first | refine Jz ?_ | intro _))
    ((apply c_held ([]); (case hL => (exact sbT))); refine Jf 0 ?_; refine Jf 1 ?_; (apply h_idx hP23 2; (case hi => rfl); (case hr => kernel_rfl); (case hfr => kernel_rfl); (case hsel => kernel_rfl); (case hg => rfl); (case hd => rfl); (case i1 => infer_instance); (case i2 => infer_instance); (case hx => rfl); (case hy => rfl); (case hm => rfl); (case hu => exact hsp); intro x1 (hx1 : Pts _ x1 [.slice spa (toS p).length spc])); (apply h_first 3; (case hi => rfl); (case hr => kernel_rfl); (case hfr => kernel_rfl); (case hsel => kernel_rfl); (case hg => rfl); (case hd => rfl); (case he => (apply ev_load1; (case hx => rfl); (case h => exact hx1)))); refine Jf 4 ?_; refine Jf 5 ?_; (apply h_idx hQ23 6; (case hi => rfl); (case hr => kernel_rfl); (case hfr => kernel_rfl); (case hsel => kernel_rfl); (case hg => rfl); (case hd => rfl); (case i1 => infer_instance); (case i2 => infer_instance); (case hx => rfl); (case hy => rfl); (case hm => rfl); (case hu => exact hsq); intro x2 (hx2 : Pts _ x2 [.slice sqa (toS q).length sqc])); (apply h_first 7; (case hi => rfl); (case hr => kernel_rfl); (case hfr => kernel_rfl); (case hsel => kernel_rfl); (case hg => rfl); (case hd => rfl); (case he => (apply ev_load1; (case hx => rfl); (case h => exact hx2)))); (apply h_one 8; (case hr => kernel_rfl)); (apply n_call; (case hi => rfl); (case i1 => infer_instance); (case hg => rfl); (case hd => rfl); (case ha => rfl); (case hc => exact hcc); (case hL => (repeat (first | exact pm_nil _ | exact pm_refl _ _ | exact pm_self _ | apply pm_cons | apply pm_app))); (case hsub => (intros; (exact sbT))); rintro _ _ _ - ⟨rfl, rfl, rfl⟩); refine Jf 9 ?_; (apply h_end; (case hr => kernel_rfl)))
    (repeat (first | refine Jc ?_ | (apply s_idx ha23; (case hg => rfl); (case hd => rfl); (case hx => rfl); (case hi => rfl); (case hm => rfl); (case hu => exact hna); intro x3 (hx3 : Pts _ x3 [.int .i64 na.parent, strV na.name, .int .i64 na.own, .int .i64 na.total])) | (apply s_load_f; (case hg => rfl); (case hd => rfl); (case hx => rfl); (case h => exact hx3); (case hv => rfl)) | refine Jo ?_ | intro _))
    exact q_back (L' := (b17, .cells [.slice Ad md cd].toArray 36 (0, 0)) :: (L16 ++ [(b11, .cells [.slice Ab (nF l yb).length cb].toArray 36 (0, 0)), (b9, .cells [.slice Aa (nF l ya).length ca].toArray 36 (0, 0))])) (m' := ps.length - (k + 1)) ⟨h23, k + 1, rfl, by omega, rfl, by rw [e1]⟩ (by omega) sbF sbL
  · have e1 : (if q ∈ (mF l ya).take (k + 1) then wS l ya q else 0) = if q ∈ (mF l ya).take k then wS l ya q else 0 := by
      by_cases hq2 : q ∈ (mF l ya).take k
      · rw [if_pos hq2, if_pos (hms.2 (.inl hq2))]
      · rw [if_neg hq2, if_neg fun h => (hms.1 h).elim hq2 fun e => he e.symm]
    have hne : cmpP p q ≠ 0 := fun h => he (cmpP_eq0.1 h)
    generalize cmpP p q = zc2 at hcc hne
    (repeat (first | refine Jz ?_ | intro _))
    ((apply c_held ([]); (case hL => (exact sbT))); refine Jf 0 ?_; refine Jf 1 ?_; (apply h_idx hP23 2; (case hi => rfl); (case hr => kernel_rfl); (case hfr => kernel_rfl); (case hsel => kernel_rfl); (case hg => rfl); (case hd => rfl); (case i1 => infer_instance); (case i2 => infer_instance); (case hx => rfl); (case hy => rfl); (case hm => rfl); (case hu => exact hsp); intro x1 (hx1 : Pts _ x1 [.slice spa (toS p).length spc])); (apply h_first 3; (case hi => rfl); (case hr => kernel_rfl); (case hfr => kernel_rfl); (case hsel => kernel_rfl); (case hg => rfl); (case hd => rfl); (case he => (apply ev_load1; (case hx => rfl); (case h => exact hx1)))); refine Jf 4 ?_; refine Jf 5 ?_; (apply h_idx hQ23 6; (case hi => rfl); (case hr => kernel_rfl); (case hfr => kernel_rfl); (case hsel => kernel_rfl); (case hg => rfl); (case hd => rfl); (case i1 => infer_instance); (case i2 => infer_instance); (case hx => rfl); (case hy => rfl); (case hm => rfl); (case hu => exact hsq); intro x2 (hx2 : Pts _ x2 [.slice sqa (toS q).length sqc])); (apply h_first 7; (case hi => rfl); (case hr => kernel_rfl); (case hfr => kernel_rfl); (case hsel => kernel_rfl); (case hg => rfl); (case hd => rfl); (case he => (apply ev_load1; (case hx => rfl); (case h => exact hx2)))); (apply h_one 8; (case hr => kernel_rfl)); (apply n_call; (case hi => rfl); (case i1 => infer_instance); (case hg => rfl); (case hd => rfl); (case ha => rfl); (case hc => exact hcc); (case hL => (repeat (first | exact pm_nil _ | exact pm_refl _ _ | exact pm_self _ | apply pm_cons | apply pm_app))); (case hsub => (intros; (exact sbT))); rintro _ _ _ - ⟨rfl, rfl, rfl⟩); refine Jf 9 ?_; (apply h_end; (case hr => kernel_rfl)))
    (repeat (first | refine Jz ?_ | intro _))
    exact q_back (L' := (b17, .cells [.slice Ad md cd].toArray 36 (0, 0)) :: (L16 ++ [(b11, .cells [.slice Ab (nF l yb).length cb].toArray 36 (0, 0)), (b9, .cells [.slice Aa (nF l ya).length ca].toArray 36 (0, 0))])) (m' := ps.length - (k + 1)) ⟨h23, k + 1, rfl, by omega, rfl, by rw [e1]⟩ (by omega) sbF sbL
end Go.Proofs.Ytcnfchchanlepaa
namespace Go.Proofs.Ytcnfchchanlepaa
open Go Go.X
open Go.ChangeShapes Go.WideShapes Go.ChangeAt Go.RowKit
set_option linter.unusedVariables false
set_option maxRecDepth 100000 in
theorem liftedProfileSubtracts (os : Os) (started : os.Started) (H : Type) (enc : TypeId × Value → H) :
    ReturnsInHanded {} Try.checked os 7 .any (Rows.profileSubtractsSpec.pre6 enc Try.prog Try.f7 Rows.profileSubtractsRow.domain false) (Rows.profileSubtractsSpec.post enc Try.prog Try.f7 false true false false) := by
  refine returnsInHanded_of_change (C := Try.checked) own started (by kernel_rfl) Try.func7
    (ChangeSpec.witness6 (enc := enc) (C := Try.checked) false ⟨#[], #[.slice none 0 0, .slice none 0 0, .slice none 0 0], []⟩ 8 (by kernel_rfl) (by kernel_rfl) (by kernel_rfl) (by kernel_rfl)) ?_
  intro W base args ds gs before hval0 hW hcnd _
  have hval : ∀ (j : Nat) t v, Try.f7.params[j]? = some t → args[j]? = some v → Value.okWide Try.prog W .any base t v := hval0
  have hW' := hW
  obtain ⟨p, q, hA0, hV, rfl, hfz, hnd⟩ := hW
  have hA : DataW.TrodAll enc Try.prog W 0 (fun _ => true) true Try.f7.params.toList args.toList ds p := hA0
  rw [Try.params7] at hA hval
  obtain ⟨v0, vs0, d0, ds0, p0, q0, hargs, rfl, rfl, h0, r0⟩ := trodAll_cons hA
  obtain ⟨v1, vs1, d1, ds1, p1, q1, rfl, rfl, rfl, h1, r1⟩ := trodAll_cons r0
  obtain ⟨v2, vs2, d2, ds2, p2, q2, rfl, rfl, rfl, h2, r2⟩ := trodAll_cons r1
  obtain ⟨rfl, rfl, rfl⟩ := trodAll_nil r2
  obtain rfl : args = #[v0, v1, v2] := by cases args; simp_all
  obtain ⟨rfl, rfl⟩ := trodVars_none hV
  have k0 := h0
  have lt0 : ∀ x ∈ p0, x.block < W.heap.size := by obtain ⟨m, hm⟩ := k0; exact DataW.trod_lt m _ _ _ hm
  have k1 := h1
  have lt1 : ∀ x ∈ p1, x.block < W.heap.size := by obtain ⟨m, hm⟩ := k1; exact DataW.trod_lt m _ _ _ hm
  have k2 := h2
  have lt2 : ∀ x ∈ p2, x.block < W.heap.size := by obtain ⟨m, hm⟩ := k2; exact DataW.trod_lt m _ _ _ hm
  obtain ⟨a0, len0, cap0, rfl⟩ := okWide_slice Try.underlying24 (hval 0 24 v0 rfl rfl)
  obtain ⟨xs0, rfl, gl0, gA0, gx0⟩ := open_sl (α := A3) Try.underlying24 (by kernel_rfl) rdb_A3 rfl h0
  obtain ⟨a1, len1, cap1, rfl⟩ := okWide_slice Try.underlying25 (hval 1 25 v1 rfl rfl)
  obtain ⟨xs1, rfl, gl1, gA1, gx1⟩ := open_sl (α := A6) Try.underlying25 (by kernel_rfl) rdb_A6 rfl h1
  obtain ⟨a2, len2, cap2, rfl⟩ := okWide_slice Try.underlying25 (hval 2 25 v2 rfl rfl)
  obtain ⟨xs2, rfl, gl2, gA2, gx2⟩ := open_sl (α := A6) Try.underlying25 (by kernel_rfl) rdb_A6 rfl h2
  refine (calls_of_con (subs_law xs0 a0 cap0 xs1 a1 cap1 xs2 a2 cap2 (allOf W) gA0 gx0 gA1 gx1 gA2 gx2) fun _ _ _ h => h.2).mono fun e W' ⟨he, bel⟩ => ?_
  subst he
  exact ⟨_, rfl, _, _, _, [], _, [], hW', trodAll_mk1 (shut_bool Try.underlying4 _), (trodAll_cons_mk (Below.trod laidOut (by kernel_rfl) (of_decide_eq_true (by kernel_rfl)) k0 bel lt0) (trodAll_cons_mk (Below.trod laidOut (by kernel_rfl) (of_decide_eq_true (by kernel_rfl)) k1 bel lt1) (trodAll_cons_mk (Below.trod laidOut (by kernel_rfl) (of_decide_eq_true (by kernel_rfl)) k2 bel lt2) trodAll_mk0))), rfl, bel.frame _, fun h => by cases h⟩
theorem overProfileSubtracts : Rows.profileSubtractsRow.holds Try.pinned (OpenSpec.ofChange Rows.profileSubtractsSpec) :=
  OpenClaim.holds_of_wide 7 Try.f7 rfl rfl rfl rfl rfl rfl rfl ⟨rfl, rfl, rfl, rfl, rfl⟩ rfl rfl rfl rfl rfl (by kernel_rfl) Try.func7 (by kernel_rfl)
    (of_decide_eq_true (by kernel_rfl)) (by unfold Func.isWrapper; rw [if_neg (of_decide_eq_false (by kernel_rfl))]; exact ⟨rfl, rfl⟩)
    (fun os started H enc _ => liftedProfileSubtracts os started H enc)
theorem profileSubtracts_holds : Rows.ProfileSubtractsSaid := overProfileSubtracts
#print axioms profileSubtracts_holds
end Go.Proofs.Ytcnfchchanlepaa
