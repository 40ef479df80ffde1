/- ProfileDiffs returns true for every input, and each argument reads afterwards as it read before; no condition. -/
import Derived.Test.YtcnfchchanlepaaBc
import Derived.Test.YtcnfchchanlepaaXA
import Derived.Test.YtcnfchchanlepaaBd
namespace Go.Proofs.Ytcnfchchanlepaa
open Go Go.X
/-- The name of an address, as the reference implementation finds it: the last symbol that fits. -/
def rnStep (v a : Int) (nm : Bs) (s : Sym) : Bs := if symB v a s = true then s.name else nm
def rnamed (l : List Sym) (v a : Int) : Bs := l.foldl (rnStep v a) [63]
set_option maxRecDepth 10000
set_option linter.unusedVariables false
attribute [local irreducible] Code.wpIn wpListIn Exit.then Exit.inBlock X.Out X.Back X.W X.Ev X.Con X.BinV X.Wh X.Wn X.Wq
end Go.Proofs.Ytcnfchchanlepaa
namespace Go.Proofs.Ytcnfchchanlepaa
open Go Go.X
/-- Rows of paths, each of them stable. -/
def prR (S : SH) (x : Sv) (p : List Bs) : Prop := x.m = (toS p).length ∧ (toS p).length ≤ x.c ∧ At S x.a (toS p)
def PthL (S : SH) (xs : List Sv) (ps : List (List Bs)) : Prop := xs.length = ps.length ∧ ∀ (i : Nat) (x : Sv) (p : List Bs), xs[i]? = some x → ps[i]? = some p → prR S x p
theorem prR.le {S T : SH} (h : Le S T) {x : Sv} {p : List Bs} (k : prR S x p) : prR T x p := ⟨k.1, k.2.1, k.2.2.le h⟩
theorem PthL.le {S T : SH} (h : Le S T) {xs : List Sv} {ps : List (List Bs)} (k : PthL S xs ps) : PthL T xs ps := ⟨k.1, fun i x p h1 h2 => (k.2 i x p h1 h2).le h⟩
theorem PthL.nil (S : SH) : PthL S [] [] := ⟨rfl, fun i x y h => by simp at h⟩
theorem PthL.snoc {S : SH} {xs : List Sv} {ys : List (List Bs)} {x : Sv} {y : List Bs} (h : PthL S xs ys) (k : prR S x y) : PthL S (xs ++ [x]) (ys ++ [y]) := by
  refine ⟨by rw [List.length_append, List.length_append, h.1]; rfl, fun i x' y' h1 h2 => ?_⟩
  by_cases hi : i < xs.length
  · rw [List.getElem?_append_left hi] at h1
    rw [List.getElem?_append_left (by rw [← h.1]; exact hi)] at h2
    exact h.2 i x' y' h1 h2
  · rw [List.getElem?_append_right (by omega)] at h1
    rw [List.getElem?_append_right (by rw [← h.1]; omega)] at h2
    rw [← h.1] at h2
    cases hj : i - xs.length with
    | zero =>
      rw [hj] at h1 h2
      simp only [List.getElem?_cons_zero, Option.some.injEq] at h1 h2
      subst h1; subst h2; exact k
    | succ j =>
      rw [hj] at h1
      simp at h1
theorem prR_nil (S : SH) : prR S ⟨none, 0, 0⟩ [] := ⟨rfl, Nat.le_refl _, At.nil _ _⟩
/-- The paths as the reference implementation reads them. -/
def rpN (i : Nat) (n : Nd) (ps : List (List Bs)) : Option (List (List Bs)) :=
  if i = 0 then (if n.parent ≠ -1 ∨ n.name ≠ [] then none else some (ps ++ [[]]))
  else if n.parent < 0 ∨ (i : Int) ≤ n.parent then none else some (ps ++ [ps.getD n.parent.toNat [] ++ [n.name]])
def rpA : List Nd → Nat → List (List Bs) → Option (List (List Bs))
  | [], _, ps => some ps
  | n :: r, i, ps => (rpN i n ps).bind fun q => rpA r (i + 1) q
def rpF (ns : List Nd) : Option (List (List Bs)) := rpA ns 0 []
theorem rpA_at {ns : List Nd} {k : Nat} {n : Nd} (h : ns[k]? = some n) (ps : List (List Bs)) : rpA (ns.drop k) k ps = (rpN k n ps).bind fun q => rpA (ns.drop (k + 1)) (k + 1) q := by
  obtain ⟨h1, rfl⟩ := List.getElem?_eq_some_iff.1 h
  rw [List.drop_eq_getElem_cons h1]; rfl
def PathsR (ns : List Nd) (S : SH) (r : Value) (L' : Blocks) : Prop :=
  rpF ns = none ∧ r = .tuple #[.slice none 0 0, .bool false] ∧ L' = [] ∨ ∃ ps v xs, rpF ns = some ps ∧ r = .tuple #[v, .bool true] ∧ Ows 48 v xs L' ∧ PthL S xs ps ∧ ps.length = ns.length
theorem svcell {xs : List Sv} {j : Nat} {x : Sv} (h : xs[j]? = some x) (tl : List Value) : (cellsOf xs ++ tl)[j]? = some (.slice x.a x.m x.c) := by
  have h2 := cellsOf_at xs j x h 0 (.slice x.a x.m x.c) rfl
  have h3 : (cellsOf xs)[j]? = some (.slice x.a x.m x.c) := by
    have e : j * Cl.size Sv + 0 = j := Nat.mul_one j
    rwa [e] at h2
  rw [List.getElem?_append_left (List.getElem?_eq_some_iff.1 h3).1]
  exact h3
set_option maxRecDepth 10000
set_option linter.unusedVariables false
attribute [local irreducible] Code.wpIn wpListIn Exit.then Exit.inBlock X.Out X.Back X.W X.Ev X.Con X.BinV X.Wh X.Wn X.Wq
set_option maxHeartbeats 3200000 in
theorem rPaths_con (ns : List Nd) (A : Option Addr) (c : Nat) (S : SH) (hA : At S A ns) (hl : ns.length ≤ 1000000) :
    Con Try.prog 19 #[.agg #[.slice A ns.length c]] S [] (fun S' L' r => Le S S' ∧ PathsR ns S' r L') := by
  refine con_of (args := [.agg #[.slice A ns.length c]]) Try.func19 rfl Try.ntmps19 rfl fun w => ?_
  (repeat (first | refine Jz ?_ | intro _))
  rename_i b1
  refine c_loop (fun m S' L F => Le S S' ∧ ∃ (k : Nat) (ps : List (List Bs)) (v : Value) (xs : List Sv) (ob : Blocks), m = ns.length - k ∧ k ≤ ns.length ∧ rpA (ns.drop k) k ps = rpF ns ∧ ps.length = k ∧ (∀ p ∈ ps, p.length ≤ k) ∧ Ows 48 v xs ob ∧ PthL S' xs ps ∧
      L = ob ++ [(b1, .cells [.slice A ns.length c].toArray 36 (0, 0))] ∧ F = [(1, .pointer (some ⟨b1, 0, none⟩)), (4, v), (5, .int .i64 k)]) ⟨Le.refl _, 0, [], _, [], [], rfl, by omega, rfl, rfl, (fun p h => absurd h List.not_mem_nil), Ows.nil _, PthL.nil _, rfl, rfl⟩ sbF (List.Sublist.refl _) ?_
  rintro m S1 L F ⟨hle1, k, ps, v, xs, ob, rfl, hk, hrp, hpl, hpk, ho, hpx, rfl, rfl⟩
  have hA1 := hA.le hle1
  by_cases hlt : k < ns.length
  rotate_left
  · have hfin : rpF ns = some ps := by rw [← hrp, List.drop_eq_nil_of_le (by omega)]; rfl
    (repeat (first | refine Jz ?_ | intro _))
    exact o_ret2 (L' := ob) Try.results19 rfl rfl sbL ⟨hle1, .inr ⟨ps, v, xs, hfin, rfl, ho, hpx, by omega⟩⟩
  obtain ⟨n, hx⟩ := at_lt hlt
  rw [rpA_at hx] at hrp
  have hxl := hpx.1
  obtain ⟨np, nn, no, nt⟩ := n
  by_cases hk0 : k = 0
  · subst hk0
    by_cases hp1 : np = -1
    rotate_left
    · have hno : rpF ns = none := by rw [← hrp]; unfold rpN; rw [if_pos rfl, if_pos (.inl hp1)]; rfl
      (repeat (first | refine Jc ?_ | (apply s_idx hA1; (case hg => rfl); (case hd => rfl); (case hx => rfl); (case hi => rfl); (case hm => rfl); (case hu => exact hx); intro q (hq : Pts _ q [.int .i64 np, strV nn, .int .i64 no, .int .i64 nt])) | (apply s_load_ag; (case hg => rfl); (case hd => rfl); (case hx => rfl); (case hv => exact hq); (case hl => rfl)) | refine Jo ?_ | intro _))
      exact o_ret2 (L' := []) Try.results19 rfl rfl (List.nil_sublist _) ⟨hle1, .inl ⟨hno, rfl, rfl⟩⟩
    cases h4 : nn != []
    rotate_left
    · have hno : rpF ns = none := by rw [← hrp]; unfold rpN; rw [if_pos rfl, if_pos (.inr (by simpa using h4))]; rfl
      (repeat (first | refine Jc ?_ | (apply s_idx hA1; (case hg => rfl); (case hd => rfl); (case hx => rfl); (case hi => rfl); (case hm => rfl); (case hu => exact hx); intro q (hq : Pts _ q [.int .i64 np, strV nn, .int .i64 no, .int .i64 nt])) | (apply s_load_ag; (case hg => rfl); (case hd => rfl); (case hx => rfl); (case hv => exact hq); (case hl => rfl)) | (apply s_evb; (case hg => rfl); (case hd => rfl); (case hn => rfl); (case he => ((apply ev_neq_bv (r := true) (b := []); (case hx => rfl); (case hy => rfl); (case h => exact h4))))) | refine Jo ?_ | intro _))
      exact o_ret2 (L' := []) Try.results19 rfl rfl (List.nil_sublist _) ⟨hle1, .inl ⟨hno, rfl, rfl⟩⟩
    have hn0 : nn = [] := by simpa using h4
    have hrp2 : rpA (ns.drop 1) 1 (ps ++ [[]]) = rpF ns := by rw [← hrp]; unfold rpN; rw [if_pos rfl, if_neg (by rintro (h | h); exact h hp1; exact h hn0)]; rfl
    (repeat (first | refine Jc ?_ | (apply s_idx hA1; (case hg => rfl); (case hd => rfl); (case hx => rfl); (case hi => rfl); (case hm => rfl); (case hu => exact hx); intro q (hq : Pts _ q [.int .i64 np, strV nn, .int .i64 no, .int .i64 nt])) | (apply s_load_ag; (case hg => rfl); (case hd => rfl); (case hx => rfl); (case hv => exact hq); (case hl => rfl)) | (apply s_evb; (case hg => rfl); (case hd => rfl); (case hn => rfl); (case he => ((apply ev_neq_bv (r := false) (b := []); (case hx => rfl); (case hy => rfl); (case h => exact h4))))) | (apply s_append (ms := [Sv.mk none 0 0]); (case hg => rfl); (case hd => rfl); (case hx => rfl); (case ho => exact ho); (case hL => (repeat (first | exact pm_nil _ | exact pm_refl _ _ | exact pm_self _ | apply pm_cons | apply pm_app))); (case hy => rfl); (case hm => rfl); (case hs => (apply Src.own; (repeat (first | exact List.Mem.head _ | apply List.Mem.tail | apply List.mem_append_right)))); (case hzs => rfl); (case h0 => decide); (case hb => (simp; omega)); (case h63 => (simp; omega)); intro v' ob' ho') | refine Jo ?_ | intro _))
    exact q_back (L' := ob' ++ [(b1, .cells [.slice A ns.length c].toArray 36 (0, 0))]) (m' := ns.length - (0 + 1)) ⟨hle1, 0 + 1, ps ++ [[]], v', _, ob', rfl, by omega, hrp2, by simp [hpl], (fun p hp => by
      rcases List.mem_append.1 hp with h | h
      · have := hpk p h; omega
      · simp at h; subst h; simp), ho', hpx.snoc (prR_nil _), rfl, rfl⟩ (by omega) sbF sbL
  by_cases hp0 : np < 0
  · have hno : rpF ns = none := by rw [← hrp]; unfold rpN; rw [if_neg hk0, if_pos (.inl hp0)]; rfl
    (repeat (first | refine Jc ?_ | (apply s_idx hA1; (case hg => rfl); (case hd => rfl); (case hx => rfl); (case hi => rfl); (case hm => rfl); (case hu => exact hx); intro q (hq : Pts _ q [.int .i64 np, strV nn, .int .i64 no, .int .i64 nt])) | (apply s_load_ag; (case hg => rfl); (case hd => rfl); (case hx => rfl); (case hv => exact hq); (case hl => rfl)) | refine Jo ?_ | intro _))
    exact o_ret2 (L' := []) Try.results19 rfl rfl (List.nil_sublist _) ⟨hle1, .inl ⟨hno, rfl, rfl⟩⟩
  by_cases hpk2 : (k : Int) ≤ np
  · have hno : rpF ns = none := by rw [← hrp]; unfold rpN; rw [if_neg hk0, if_pos (.inr hpk2)]; rfl
    (repeat (first | refine Jc ?_ | (apply s_idx hA1; (case hg => rfl); (case hd => rfl); (case hx => rfl); (case hi => rfl); (case hm => rfl); (case hu => exact hx); intro q (hq : Pts _ q [.int .i64 np, strV nn, .int .i64 no, .int .i64 nt])) | (apply s_load_ag; (case hg => rfl); (case hd => rfl); (case hx => rfl); (case hv => exact hq); (case hl => rfl)) | refine Jo ?_ | intro _))
    exact o_ret2 (L' := []) Try.results19 rfl rfl (List.nil_sublist _) ⟨hle1, .inl ⟨hno, rfl, rfl⟩⟩
  obtain ⟨j, rfl⟩ : ∃ j : Nat, np = (j : Int) := ⟨np.toNat, by omega⟩
  obtain ⟨p, hpj⟩ : ∃ p, ps[j]? = some p := at_lt (by omega)
  obtain ⟨x, hxj⟩ : ∃ x, xs[j]? = some x := at_lt (by omega)
  obtain ⟨r1, r2, r3⟩ := hpx.2 j x p hxj hpj
  have hplen := hpk p (List.mem_of_getElem? hpj)
  have hrp2 : rpA (ns.drop (k + 1)) (k + 1) (ps ++ [p ++ [nn]]) = rpF ns := by
    rw [← hrp]; unfold rpN
    rw [if_neg hk0, if_neg (show ¬ ((j : Int) < 0 ∨ (k : Int) ≤ (j : Int)) by omega)]
    simp only [Int.toNat_natCast, List.getD_eq_getElem?_getD, hpj]; rfl
  obtain ⟨g, cap, tl, rfl, rfl, u1, u2, u3⟩ := ho.rowed (by omega)
  have hcell := svcell hxj tl
  obtain ⟨xa, xm, xc⟩ := x
  simp only at r1 r2 r3 hcell
  subst r1
  have htl := toS_len p
  (repeat (first | refine Jc ?_ | (apply s_idx hA1; (case hg => rfl); (case hd => rfl); (case hx => rfl); (case hi => rfl); (case hm => rfl); (case hu => exact hx); intro q (hq : Pts _ q [.int .i64 (j : Int), strV nn, .int .i64 no, .int .i64 nt])) | (apply s_load_ag; (case hg => rfl); (case hd => rfl); (case hx => rfl); (case hv => exact hq); (case hl => rfl)) | refine Jo ?_ | intro _))
  rename_i b6
  have hrr : ∀ S8 A8 c8, ([] ++ toS p ++ [Str.mk nn]).length ≤ c8 → At S8 A8 ([] ++ toS p ++ [Str.mk nn]) → prR S8 ⟨A8, (toS p ++ [Str.mk nn]).length, c8⟩ (p ++ [nn]) := fun S8 A8 c8 h1 h2 => by
    have e : toS (p ++ [nn]) = toS p ++ [Str.mk nn] := by simp [toS]
    unfold prR
    rw [e]
    exact ⟨rfl, h1, h2⟩
  have hlen2 : ∀ q ∈ ps ++ [p ++ [nn]], q.length ≤ k + 1 := fun q hq => by
    rcases List.mem_append.1 hq with h | h
    · have := hpk q h; omega
    · simp only [List.mem_singleton] at h
      subst h; simp; omega
  ((apply c_held ([(b6, .cells [.int .i64 (j : Int), strV nn, .int .i64 no, .int .i64 nt].toArray 53 (0, 0))]); (case hL => (exact sbT))); refine Jf 0 ?_; refine Jf 2 ?_; refine Jf 3 ?_; refine Jf 4 ?_; (apply h_first 5; (case hi => rfl); (case hr => kernel_rfl); (case hfr => kernel_rfl); (case hsel => kernel_rfl); (case hg => rfl); (case hd => rfl); (case he => (apply ev_idxo1 (j := j); (case hx => rfl); (case hi => rfl); (case hk => omega)))); refine Jf 8 ?_; refine Jf 9 ?_; (apply h_three 1 6 10; (case hr => kernel_rfl)); (case k1 => ((refine X.Jn ?_; try intro _); (apply h_two 6 10; (case hr => kernel_rfl)); (case k1 => ((apply n_ev; (case hi => rfl); (case hg => rfl); (case hd => rfl); (case he => (apply ev_load_own; (case hx => rfl); (case hm => (repeat (first | exact List.Mem.head _ | apply List.Mem.tail | apply List.mem_append_right))); (case h => exact hcell)))); (apply h_two 7 10; (case hr => kernel_rfl)); (case k1 => ((apply n_append_st (ms := (toS p)) r3; (case hi => rfl); (case hT => infer_instance); (case hsz => infer_instance); (case hz => infer_instance); (case hby => infer_instance); (case hg => rfl); (case hd => rfl); (case hx => rfl); (case ho => exact Ows.full (α := Str) (l := []) rfl (by decide)); (case hL => (repeat (first | exact pm_nil _ | exact pm_refl _ _ | exact pm_self _ | apply pm_cons | apply pm_app))); (case hy => rfl); (case hm => first | rfl | simp); (case hzs => rfl); (case h0 => decide); (case hb => first | (simp; omega) | simp); (case h63 => first | (simp; omega) | simp); (case hsub => first | (intro _ _; exact List.nil_sublist _) | (intros; (exact sbT))); intro v7 ob7 ho7); (apply h_one 10; (case hr => kernel_rfl)); (refine X.Jn ?_; try intro _); (apply h_one 11; (case hr => kernel_rfl)); ((apply n_append (ms := [Str.mk nn]); (case hi => rfl); (case hT => infer_instance); (case hsz => infer_instance); (case hz => infer_instance); (case hby => infer_instance); (case hg => rfl); (case hd => rfl); (case hx => rfl); (case ho => exact ho7); (case hL => (repeat (first | exact pm_nil _ | exact pm_refl _ _ | exact pm_self _ | apply pm_cons | apply pm_app))); (case hy => rfl); (case hm => rfl); (case hs => (apply Src.own; (repeat (first | exact List.Mem.head _ | apply List.Mem.tail | apply List.mem_append_right)))); (case hzs => rfl); (case h0 => decide); (case hb => (simp; omega)); (case h63 => (simp; omega)); (case hsub => (intros; (exact sbT))); intro v8 ob8 ho8); refine Wh.freezeOws ho8 (List.Perm.refl _) sbL fun S8 hle8 hs8 => ?_; obtain ⟨A8, c8, rfl, hc8, hA8⟩ := hs8); (apply h_one 12; (case hr => kernel_rfl)); (refine X.Jn ?_; try intro _); (apply h_one 13; (case hr => kernel_rfl)); (apply n_append (ms := [Sv.mk A8 (toS p ++ [Str.mk nn]).length c8]); (case hi => rfl); (case hT => infer_instance); (case hsz => infer_instance); (case hz => infer_instance); (case hby => infer_instance); (case hg => rfl); (case hd => rfl); (case hx => rfl); (case ho => exact ho); (case hL => (repeat (first | exact pm_nil _ | exact pm_refl _ _ | exact pm_self _ | apply pm_cons | apply pm_app))); (case hy => rfl); (case hm => rfl); (case hs => (apply Src.own; (repeat (first | exact List.Mem.head _ | apply List.Mem.tail | apply List.mem_append_right)))); (case hzs => rfl); (case h0 => decide); (case hb => (simp; omega)); (case h63 => (simp; omega)); (case hsub => (intros; (exact sbT))); intro v9 ob9 ho9); refine Jf 14 ?_; (apply h_end; (case hr => kernel_rfl)); ((((repeat (first | refine Jz ?_ | intro _))); exact q_back (L' := ob9 ++ [(b1, .cells [.slice A ns.length c].toArray 36 (0, 0))]) (m' := ns.length - (k + 1)) ⟨hle1.trans hle8, k + 1, ps ++ [p ++ [nn]], _, _, ob9, rfl, by omega, hrp2, by simp [hpl], hlen2, ho9, (hpx.le hle8).snoc (hrr _ _ _ hc8 hA8), rfl, rfl⟩ (by omega) sbF sbL)))); (case k2 => ((refine X.Jn ?_; try intro _); (apply h_one 7; (case hr => kernel_rfl)); (apply n_append_st (ms := (toS p)) r3; (case hi => rfl); (case hT => infer_instance); (case hsz => infer_instance); (case hz => infer_instance); (case hby => infer_instance); (case hg => rfl); (case hd => rfl); (case hx => rfl); (case ho => exact Ows.full (α := Str) (l := []) rfl (by decide)); (case hL => (repeat (first | exact pm_nil _ | exact pm_refl _ _ | exact pm_self _ | apply pm_cons | apply pm_app))); (case hy => rfl); (case hm => first | rfl | simp); (case hzs => rfl); (case h0 => decide); (case hb => first | (simp; omega) | simp); (case h63 => first | (simp; omega) | simp); (case hsub => first | (intro _ _; exact List.nil_sublist _) | (intros; (exact sbT))); intro v7 ob7 ho7); (apply h_one 11; (case hr => kernel_rfl)); ((apply n_append (ms := [Str.mk nn]); (case hi => rfl); (case hT => infer_instance); (case hsz => infer_instance); (case hz => infer_instance); (case hby => infer_instance); (case hg => rfl); (case hd => rfl); (case hx => rfl); (case ho => exact ho7); (case hL => (repeat (first | exact pm_nil _ | exact pm_refl _ _ | exact pm_self _ | apply pm_cons | apply pm_app))); (case hy => rfl); (case hm => rfl); (case hs => (apply Src.own; (repeat (first | exact List.Mem.head _ | apply List.Mem.tail | apply List.mem_append_right)))); (case hzs => rfl); (case h0 => decide); (case hb => (simp; omega)); (case h63 => (simp; omega)); (case hsub => (intros; (exact sbT))); intro v8 ob8 ho8); refine Wh.freezeOws ho8 (List.Perm.refl _) sbL fun S8 hle8 hs8 => ?_; obtain ⟨A8, c8, rfl, hc8, hA8⟩ := hs8); (apply h_one 12; (case hr => kernel_rfl)); (refine X.Jn ?_; try intro _); (apply h_one 13; (case hr => kernel_rfl)); (apply n_append (ms := [Sv.mk A8 (toS p ++ [Str.mk nn]).length c8]); (case hi => rfl); (case hT => infer_instance); (case hsz => infer_instance); (case hz => infer_instance); (case hby => infer_instance); (case hg => rfl); (case hd => rfl); (case hx => rfl); (case ho => exact ho); (case hL => (repeat (first | exact pm_nil _ | exact pm_refl _ _ | exact pm_self _ | apply pm_cons | apply pm_app))); (case hy => rfl); (case hm => rfl); (case hs => (apply Src.own; (repeat (first | exact List.Mem.head _ | apply List.Mem.tail | apply List.mem_append_right)))); (case hzs => rfl); (case h0 => decide); (case hb => (simp; omega)); (case h63 => (simp; omega)); (case hsub => (intros; (exact sbT))); intro v9 ob9 ho9); refine Jf 14 ?_; (apply h_end; (case hr => kernel_rfl)); ((((repeat (first | refine Jz ?_ | intro _))); exact q_back (L' := ob9 ++ [(b1, .cells [.slice A ns.length c].toArray 36 (0, 0))]) (m' := ns.length - (k + 1)) ⟨hle1.trans hle8, k + 1, ps ++ [p ++ [nn]], _, _, ob9, rfl, by omega, hrp2, by simp [hpl], hlen2, ho9, (hpx.le hle8).snoc (hrr _ _ _ hc8 hA8), rfl, rfl⟩ (by omega) sbF sbL)))))); (case k2 => ((refine X.Jn ?_; try intro _); (apply h_one 6; (case hr => kernel_rfl)); (apply n_ev; (case hi => rfl); (case hg => rfl); (case hd => rfl); (case he => (apply ev_load_own; (case hx => rfl); (case hm => (repeat (first | exact List.Mem.head _ | apply List.Mem.tail | apply List.mem_append_right))); (case h => exact hcell)))); (apply h_one 7; (case hr => kernel_rfl)); (apply n_append_st (ms := (toS p)) r3; (case hi => rfl); (case hT => infer_instance); (case hsz => infer_instance); (case hz => infer_instance); (case hby => infer_instance); (case hg => rfl); (case hd => rfl); (case hx => rfl); (case ho => exact Ows.full (α := Str) (l := []) rfl (by decide)); (case hL => (repeat (first | exact pm_nil _ | exact pm_refl _ _ | exact pm_self _ | apply pm_cons | apply pm_app))); (case hy => rfl); (case hm => first | rfl | simp); (case hzs => rfl); (case h0 => decide); (case hb => first | (simp; omega) | simp); (case h63 => first | (simp; omega) | simp); (case hsub => first | (intro _ _; exact List.nil_sublist _) | (intros; (exact sbT))); intro v7 ob7 ho7); (apply h_one 11; (case hr => kernel_rfl)); ((apply n_append (ms := [Str.mk nn]); (case hi => rfl); (case hT => infer_instance); (case hsz => infer_instance); (case hz => infer_instance); (case hby => infer_instance); (case hg => rfl); (case hd => rfl); (case hx => rfl); (case ho => exact ho7); (case hL => (repeat (first | exact pm_nil _ | exact pm_refl _ _ | exact pm_self _ | apply pm_cons | apply pm_app))); (case hy => rfl); (case hm => rfl); (case hs => (apply Src.own; (repeat (first | exact List.Mem.head _ | apply List.Mem.tail | apply List.mem_append_right)))); (case hzs => rfl); (case h0 => decide); (case hb => (simp; omega)); (case h63 => (simp; omega)); (case hsub => (intros; (exact sbT))); intro v8 ob8 ho8); refine Wh.freezeOws ho8 (List.Perm.refl _) sbL fun S8 hle8 hs8 => ?_; obtain ⟨A8, c8, rfl, hc8, hA8⟩ := hs8); (apply h_one 12; (case hr => kernel_rfl)); (refine X.Jn ?_; try intro _); (apply h_one 13; (case hr => kernel_rfl)); (apply n_append (ms := [Sv.mk A8 (toS p ++ [Str.mk nn]).length c8]); (case hi => rfl); (case hT => infer_instance); (case hsz => infer_instance); (case hz => infer_instance); (case hby => infer_instance); (case hg => rfl); (case hd => rfl); (case hx => rfl); (case ho => exact ho); (case hL => (repeat (first | exact pm_nil _ | exact pm_refl _ _ | exact pm_self _ | apply pm_cons | apply pm_app))); (case hy => rfl); (case hm => rfl); (case hs => (apply Src.own; (repeat (first | exact List.Mem.head _ | apply List.Mem.tail | apply List.mem_append_right)))); (case hzs => rfl); (case h0 => decide); (case hb => (simp; omega)); (case h63 => (simp; omega)); (case hsub => (intros; (exact sbT))); intro v9 ob9 ho9); refine Jf 14 ?_; (apply h_end; (case hr => kernel_rfl)); ((((repeat (first | refine Jz ?_ | intro _))); exact q_back (L' := ob9 ++ [(b1, .cells [.slice A ns.length c].toArray 36 (0, 0))]) (m' := ns.length - (k + 1)) ⟨hle1.trans hle8, k + 1, ps ++ [p ++ [nn]], _, _, ob9, rfl, by omega, hrp2, by simp [hpl], hlen2, ho9, (hpx.le hle8).snoc (hrr _ _ _ hc8 hA8), rfl, rfl⟩ (by omega) sbF sbL)))))); (case k2 => ((apply n_ev; (case hi => rfl); (case hg => rfl); (case hd => rfl); (case he => (apply ev_load_own; (case hx => rfl); (case hm => (repeat (first | exact List.Mem.head _ | apply List.Mem.tail | apply List.mem_append_right))); (case h => exact hcell)))); (apply h_two 1 10; (case hr => kernel_rfl)); (case k1 => ((refine X.Jn ?_; try intro _); (apply h_two 7 10; (case hr => kernel_rfl)); (case k1 => ((apply n_append_st (ms := (toS p)) r3; (case hi => rfl); (case hT => infer_instance); (case hsz => infer_instance); (case hz => infer_instance); (case hby => infer_instance); (case hg => rfl); (case hd => rfl); (case hx => rfl); (case ho => exact Ows.full (α := Str) (l := []) rfl (by decide)); (case hL => (repeat (first | exact pm_nil _ | exact pm_refl _ _ | exact pm_self _ | apply pm_cons | apply pm_app))); (case hy => rfl); (case hm => first | rfl | simp); (case hzs => rfl); (case h0 => decide); (case hb => first | (simp; omega) | simp); (case h63 => first | (simp; omega) | simp); (case hsub => first | (intro _ _; exact List.nil_sublist _) | (intros; (exact sbT))); intro v7 ob7 ho7); (apply h_one 10; (case hr => kernel_rfl)); (refine X.Jn ?_; try intro _); (apply h_one 11; (case hr => kernel_rfl)); ((apply n_append (ms := [Str.mk nn]); (case hi => rfl); (case hT => infer_instance); (case hsz => infer_instance); (case hz => infer_instance); (case hby => infer_instance); (case hg => rfl); (case hd => rfl); (case hx => rfl); (case ho => exact ho7); (case hL => (repeat (first | exact pm_nil _ | exact pm_refl _ _ | exact pm_self _ | apply pm_cons | apply pm_app))); (case hy => rfl); (case hm => rfl); (case hs => (apply Src.own; (repeat (first | exact List.Mem.head _ | apply List.Mem.tail | apply List.mem_append_right)))); (case hzs => rfl); (case h0 => decide); (case hb => (simp; omega)); (case h63 => (simp; omega)); (case hsub => (intros; (exact sbT))); intro v8 ob8 ho8); refine Wh.freezeOws ho8 (List.Perm.refl _) sbL fun S8 hle8 hs8 => ?_; obtain ⟨A8, c8, rfl, hc8, hA8⟩ := hs8); (apply h_one 12; (case hr => kernel_rfl)); (refine X.Jn ?_; try intro _); (apply h_one 13; (case hr => kernel_rfl)); (apply n_append (ms := [Sv.mk A8 (toS p ++ [Str.mk nn]).length c8]); (case hi => rfl); (case hT => infer_instance); (case hsz => infer_instance); (case hz => infer_instance); (case hby => infer_instance); (case hg => rfl); (case hd => rfl); (case hx => rfl); (case ho => exact ho); (case hL => (repeat (first | exact pm_nil _ | exact pm_refl _ _ | exact pm_self _ | apply pm_cons | apply pm_app))); (case hy => rfl); (case hm => rfl); (case hs => (apply Src.own; (repeat (first | exact List.Mem.head _ | apply List.Mem.tail | apply List.mem_append_right)))); (case hzs => rfl); (case h0 => decide); (case hb => (simp; omega)); (case h63 => (simp; omega)); (case hsub => (intros; (exact sbT))); intro v9 ob9 ho9); refine Jf 14 ?_; (apply h_end; (case hr => kernel_rfl)); ((((repeat (first | refine Jz ?_ | intro _))); exact q_back (L' := ob9 ++ [(b1, .cells [.slice A ns.length c].toArray 36 (0, 0))]) (m' := ns.length - (k + 1)) ⟨hle1.trans hle8, k + 1, ps ++ [p ++ [nn]], _, _, ob9, rfl, by omega, hrp2, by simp [hpl], hlen2, ho9, (hpx.le hle8).snoc (hrr _ _ _ hc8 hA8), rfl, rfl⟩ (by omega) sbF sbL)))); (case k2 => ((refine X.Jn ?_; try intro _); (apply h_one 7; (case hr => kernel_rfl)); (apply n_append_st (ms := (toS p)) r3; (case hi => rfl); (case hT => infer_instance); (case hsz => infer_instance); (case hz => infer_instance); (case hby => infer_instance); (case hg => rfl); (case hd => rfl); (case hx => rfl); (case ho => exact Ows.full (α := Str) (l := []) rfl (by decide)); (case hL => (repeat (first | exact pm_nil _ | exact pm_refl _ _ | exact pm_self _ | apply pm_cons | apply pm_app))); (case hy => rfl); (case hm => first | rfl | simp); (case hzs => rfl); (case h0 => decide); (case hb => first | (simp; omega) | simp); (case h63 => first | (simp; omega) | simp); (case hsub => first | (intro _ _; exact List.nil_sublist _) | (intros; (exact sbT))); intro v7 ob7 ho7); (apply h_one 11; (case hr => kernel_rfl)); ((apply n_append (ms := [Str.mk nn]); (case hi => rfl); (case hT => infer_instance); (case hsz => infer_instance); (case hz => infer_instance); (case hby => infer_instance); (case hg => rfl); (case hd => rfl); (case hx => rfl); (case ho => exact ho7); (case hL => (repeat (first | exact pm_nil _ | exact pm_refl _ _ | exact pm_self _ | apply pm_cons | apply pm_app))); (case hy => rfl); (case hm => rfl); (case hs => (apply Src.own; (repeat (first | exact List.Mem.head _ | apply List.Mem.tail | apply List.mem_append_right)))); (case hzs => rfl); (case h0 => decide); (case hb => (simp; omega)); (case h63 => (simp; omega)); (case hsub => (intros; (exact sbT))); intro v8 ob8 ho8); refine Wh.freezeOws ho8 (List.Perm.refl _) sbL fun S8 hle8 hs8 => ?_; obtain ⟨A8, c8, rfl, hc8, hA8⟩ := hs8); (apply h_one 12; (case hr => kernel_rfl)); (refine X.Jn ?_; try intro _); (apply h_one 13; (case hr => kernel_rfl)); (apply n_append (ms := [Sv.mk A8 (toS p ++ [Str.mk nn]).length c8]); (case hi => rfl); (case hT => infer_instance); (case hsz => infer_instance); (case hz => infer_instance); (case hby => infer_instance); (case hg => rfl); (case hd => rfl); (case hx => rfl); (case ho => exact ho); (case hL => (repeat (first | exact pm_nil _ | exact pm_refl _ _ | exact pm_self _ | apply pm_cons | apply pm_app))); (case hy => rfl); (case hm => rfl); (case hs => (apply Src.own; (repeat (first | exact List.Mem.head _ | apply List.Mem.tail | apply List.mem_append_right)))); (case hzs => rfl); (case h0 => decide); (case hb => (simp; omega)); (case h63 => (simp; omega)); (case hsub => (intros; (exact sbT))); intro v9 ob9 ho9); refine Jf 14 ?_; (apply h_end; (case hr => kernel_rfl)); ((((repeat (first | refine Jz ?_ | intro _))); exact q_back (L' := ob9 ++ [(b1, .cells [.slice A ns.length c].toArray 36 (0, 0))]) (m' := ns.length - (k + 1)) ⟨hle1.trans hle8, k + 1, ps ++ [p ++ [nn]], _, _, ob9, rfl, by omega, hrp2, by simp [hpl], hlen2, ho9, (hpx.le hle8).snoc (hrr _ _ _ hc8 hA8), rfl, rfl⟩ (by omega) sbF sbL)))))); (case k2 => ((refine X.Jn ?_; try intro _); (apply h_one 1; (case hr => kernel_rfl)); (refine X.Jn ?_; try intro _); (apply h_one 7; (case hr => kernel_rfl)); (apply n_append_st (ms := (toS p)) r3; (case hi => rfl); (case hT => infer_instance); (case hsz => infer_instance); (case hz => infer_instance); (case hby => infer_instance); (case hg => rfl); (case hd => rfl); (case hx => rfl); (case ho => exact Ows.full (α := Str) (l := []) rfl (by decide)); (case hL => (repeat (first | exact pm_nil _ | exact pm_refl _ _ | exact pm_self _ | apply pm_cons | apply pm_app))); (case hy => rfl); (case hm => first | rfl | simp); (case hzs => rfl); (case h0 => decide); (case hb => first | (simp; omega) | simp); (case h63 => first | (simp; omega) | simp); (case hsub => first | (intro _ _; exact List.nil_sublist _) | (intros; (exact sbT))); intro v7 ob7 ho7); (apply h_one 11; (case hr => kernel_rfl)); ((apply n_append (ms := [Str.mk nn]); (case hi => rfl); (case hT => infer_instance); (case hsz => infer_instance); (case hz => infer_instance); (case hby => infer_instance); (case hg => rfl); (case hd => rfl); (case hx => rfl); (case ho => exact ho7); (case hL => (repeat (first | exact pm_nil _ | exact pm_refl _ _ | exact pm_self _ | apply pm_cons | apply pm_app))); (case hy => rfl); (case hm => rfl); (case hs => (apply Src.own; (repeat (first | exact List.Mem.head _ | apply List.Mem.tail | apply List.mem_append_right)))); (case hzs => rfl); (case h0 => decide); (case hb => (simp; omega)); (case h63 => (simp; omega)); (case hsub => (intros; (exact sbT))); intro v8 ob8 ho8); refine Wh.freezeOws ho8 (List.Perm.refl _) sbL fun S8 hle8 hs8 => ?_; obtain ⟨A8, c8, rfl, hc8, hA8⟩ := hs8); (apply h_one 12; (case hr => kernel_rfl)); (refine X.Jn ?_; try intro _); (apply h_one 13; (case hr => kernel_rfl)); (apply n_append (ms := [Sv.mk A8 (toS p ++ [Str.mk nn]).length c8]); (case hi => rfl); (case hT => infer_instance); (case hsz => infer_instance); (case hz => infer_instance); (case hby => infer_instance); (case hg => rfl); (case hd => rfl); (case hx => rfl); (case ho => exact ho); (case hL => (repeat (first | exact pm_nil _ | exact pm_refl _ _ | exact pm_self _ | apply pm_cons | apply pm_app))); (case hy => rfl); (case hm => rfl); (case hs => (apply Src.own; (repeat (first | exact List.Mem.head _ | apply List.Mem.tail | apply List.mem_append_right)))); (case hzs => rfl); (case h0 => decide); (case hb => (simp; omega)); (case h63 => (simp; omega)); (case hsub => (intros; (exact sbT))); intro v9 ob9 ho9); refine Jf 14 ?_; (apply h_end; (case hr => kernel_rfl)); ((((repeat (first | refine Jz ?_ | intro _))); exact q_back (L' := ob9 ++ [(b1, .cells [.slice A ns.length c].toArray 36 (0, 0))]) (m' := ns.length - (k + 1)) ⟨hle1.trans hle8, k + 1, ps ++ [p ++ [nn]], _, _, ob9, rfl, by omega, hrp2, by simp [hpl], hlen2, ho9, (hpx.le hle8).snoc (hrr _ _ _ hc8 hA8), rfl, rfl⟩ (by omega) sbF sbL)))))); (case k3 => ((refine X.Jn ?_; try intro _); (apply h_two 1 6; (case hr => kernel_rfl)); (case k1 => ((refine X.Jn ?_; try intro _); (apply h_one 6; (case hr => kernel_rfl)); (apply n_ev; (case hi => rfl); (case hg => rfl); (case hd => rfl); (case he => (apply ev_load_own; (case hx => rfl); (case hm => (repeat (first | exact List.Mem.head _ | apply List.Mem.tail | apply List.mem_append_right))); (case h => exact hcell)))); (apply h_one 7; (case hr => kernel_rfl)); (apply n_append_st (ms := (toS p)) r3; (case hi => rfl); (case hT => infer_instance); (case hsz => infer_instance); (case hz => infer_instance); (case hby => infer_instance); (case hg => rfl); (case hd => rfl); (case hx => rfl); (case ho => exact Ows.full (α := Str) (l := []) rfl (by decide)); (case hL => (repeat (first | exact pm_nil _ | exact pm_refl _ _ | exact pm_self _ | apply pm_cons | apply pm_app))); (case hy => rfl); (case hm => first | rfl | simp); (case hzs => rfl); (case h0 => decide); (case hb => first | (simp; omega) | simp); (case h63 => first | (simp; omega) | simp); (case hsub => first | (intro _ _; exact List.nil_sublist _) | (intros; (exact sbT))); intro v7 ob7 ho7); (apply h_one 11; (case hr => kernel_rfl)); ((apply n_append (ms := [Str.mk nn]); (case hi => rfl); (case hT => infer_instance); (case hsz => infer_instance); (case hz => infer_instance); (case hby => infer_instance); (case hg => rfl); (case hd => rfl); (case hx => rfl); (case ho => exact ho7); (case hL => (repeat (first | exact pm_nil _ | exact pm_refl _ _ | exact pm_self _ | apply pm_cons | apply pm_app))); (case hy => rfl); (case hm => rfl); (case hs => (apply Src.own; (repeat (first | exact List.Mem.head _ | apply List.Mem.tail | apply List.mem_append_right)))); (case hzs => rfl); (case h0 => decide); (case hb => (simp; omega)); (case h63 => (simp; omega)); (case hsub => (intros; (exact sbT))); intro v8 ob8 ho8); refine Wh.freezeOws ho8 (List.Perm.refl _) sbL fun S8 hle8 hs8 => ?_; obtain ⟨A8, c8, rfl, hc8, hA8⟩ := hs8); (apply h_one 12; (case hr => kernel_rfl)); (refine X.Jn ?_; try intro _); (apply h_one 13; (case hr => kernel_rfl)); (apply n_append (ms := [Sv.mk A8 (toS p ++ [Str.mk nn]).length c8]); (case hi => rfl); (case hT => infer_instance); (case hsz => infer_instance); (case hz => infer_instance); (case hby => infer_instance); (case hg => rfl); (case hd => rfl); (case hx => rfl); (case ho => exact ho); (case hL => (repeat (first | exact pm_nil _ | exact pm_refl _ _ | exact pm_self _ | apply pm_cons | apply pm_app))); (case hy => rfl); (case hm => rfl); (case hs => (apply Src.own; (repeat (first | exact List.Mem.head _ | apply List.Mem.tail | apply List.mem_append_right)))); (case hzs => rfl); (case h0 => decide); (case hb => (simp; omega)); (case h63 => (simp; omega)); (case hsub => (intros; (exact sbT))); intro v9 ob9 ho9); refine Jf 14 ?_; (apply h_end; (case hr => kernel_rfl)); ((((repeat (first | refine Jz ?_ | intro _))); exact q_back (L' := ob9 ++ [(b1, .cells [.slice A ns.length c].toArray 36 (0, 0))]) (m' := ns.length - (k + 1)) ⟨hle1.trans hle8, k + 1, ps ++ [p ++ [nn]], _, _, ob9, rfl, by omega, hrp2, by simp [hpl], hlen2, ho9, (hpx.le hle8).snoc (hrr _ _ _ hc8 hA8), rfl, rfl⟩ (by omega) sbF sbL)))); (case k2 => ((apply n_ev; (case hi => rfl); (case hg => rfl); (case hd => rfl); (case he => (apply ev_load_own; (case hx => rfl); (case hm => (repeat (first | exact List.Mem.head _ | apply List.Mem.tail | apply List.mem_append_right))); (case h => exact hcell)))); (apply h_one 1; (case hr => kernel_rfl)); (refine X.Jn ?_; try intro _); (apply h_one 7; (case hr => kernel_rfl)); (apply n_append_st (ms := (toS p)) r3; (case hi => rfl); (case hT => infer_instance); (case hsz => infer_instance); (case hz => infer_instance); (case hby => infer_instance); (case hg => rfl); (case hd => rfl); (case hx => rfl); (case ho => exact Ows.full (α := Str) (l := []) rfl (by decide)); (case hL => (repeat (first | exact pm_nil _ | exact pm_refl _ _ | exact pm_self _ | apply pm_cons | apply pm_app))); (case hy => rfl); (case hm => first | rfl | simp); (case hzs => rfl); (case h0 => decide); (case hb => first | (simp; omega) | simp); (case h63 => first | (simp; omega) | simp); (case hsub => first | (intro _ _; exact List.nil_sublist _) | (intros; (exact sbT))); intro v7 ob7 ho7); (apply h_one 11; (case hr => kernel_rfl)); ((apply n_append (ms := [Str.mk nn]); (case hi => rfl); (case hT => infer_instance); (case hsz => infer_instance); (case hz => infer_instance); (case hby => infer_instance); (case hg => rfl); (case hd => rfl); (case hx => rfl); (case ho => exact ho7); (case hL => (repeat (first | exact pm_nil _ | exact pm_refl _ _ | exact pm_self _ | apply pm_cons | apply pm_app))); (case hy => rfl); (case hm => rfl); (case hs => (apply Src.own; (repeat (first | exact List.Mem.head _ | apply List.Mem.tail | apply List.mem_append_right)))); (case hzs => rfl); (case h0 => decide); (case hb => (simp; omega)); (case h63 => (simp; omega)); (case hsub => (intros; (exact sbT))); intro v8 ob8 ho8); refine Wh.freezeOws ho8 (List.Perm.refl _) sbL fun S8 hle8 hs8 => ?_; obtain ⟨A8, c8, rfl, hc8, hA8⟩ := hs8); (apply h_one 12; (case hr => kernel_rfl)); (refine X.Jn ?_; try intro _); (apply h_one 13; (case hr => kernel_rfl)); (apply n_append (ms := [Sv.mk A8 (toS p ++ [Str.mk nn]).length c8]); (case hi => rfl); (case hT => infer_instance); (case hsz => infer_instance); (case hz => infer_instance); (case hby => infer_instance); (case hg => rfl); (case hd => rfl); (case hx => rfl); (case ho => exact ho); (case hL => (repeat (first | exact pm_nil _ | exact pm_refl _ _ | exact pm_self _ | apply pm_cons | apply pm_app))); (case hy => rfl); (case hm => rfl); (case hs => (apply Src.own; (repeat (first | exact List.Mem.head _ | apply List.Mem.tail | apply List.mem_append_right)))); (case hzs => rfl); (case h0 => decide); (case hb => (simp; omega)); (case h63 => (simp; omega)); (case hsub => (intros; (exact sbT))); intro v9 ob9 ho9); refine Jf 14 ?_; (apply h_end; (case hr => kernel_rfl)); ((((repeat (first | refine Jz ?_ | intro _))); exact q_back (L' := ob9 ++ [(b1, .cells [.slice A ns.length c].toArray 36 (0, 0))]) (m' := ns.length - (k + 1)) ⟨hle1.trans hle8, k + 1, ps ++ [p ++ [nn]], _, _, ob9, rfl, by omega, hrp2, by simp [hpl], hlen2, ho9, (hpx.le hle8).snoc (hrr _ _ _ hc8 hA8), rfl, rfl⟩ (by omega) sbF sbL)))))))
end Go.Proofs.Ytcnfchchanlepaa
namespace Go.Proofs.Ytcnfchchanlepaa
open Go Go.X
set_option linter.unusedVariables false
section
variable {w : List Bs → Int} {L : List (List Bs)}
theorem rp_step (h : GT w L) {k : Nat} {p : List Bs} (hp : L[k]? = some p) : rpN k (nodeC w L p) (L.take k) = some (L.take (k + 1)) := by
  have hpm := List.mem_of_getElem? hp
  unfold rpN
  by_cases hk0 : k = 0
  · subst hk0
    have e : p = [] := Option.some.inj (hp.symm.trans h.can.head)
    subst e
    rw [if_pos rfl, if_neg (by rintro (h | h); exact h rfl; exact h rfl), take_at hp]
  have hne : p ≠ [] := fun e => by
    have := srt_lt h.can.srt h.can.head hp (by omega)
    rw [e] at this
    exact plt_irr _ this
  have hdm : p.dropLast ∈ L := h.can.closed p hpm _ (List.dropLast_prefix _)
  have hpar : (nodeC w L p).parent = ((L.idxOf p.dropLast : Nat) : Int) := if_neg hne
  have hname : (nodeC w L p).name = nameOf p := rfl
  obtain ⟨j, hj⟩ : ∃ j, L.idxOf p.dropLast = j := ⟨_, rfl⟩
  have hjl : j < L.length := by rw [← hj]; exact List.idxOf_lt_length_iff.2 hdm
  have hjp : L[j]? = some p.dropLast := by
    subst hj
    rw [List.getElem?_eq_getElem hjl, List.getElem_idxOf]
  have hjk : j < k := srt_idx h.can.srt hjp hp (drop_lt hne)
  have hjt : (L.take k)[j]? = some p.dropLast := by rw [List.getElem?_take_of_lt hjk]; exact hjp
  have hpd : (L.take k).getD j [] = p.dropLast := by rw [List.getD_eq_getElem?_getD, hjt]; rfl
  rw [if_neg hk0, hpar, hname, hj, if_neg (by omega), Int.toNat_natCast, hpd, name_cat hne, take_at hp]
theorem rp_all (h : GT w L) : ∀ (m k : Nat), k + m = L.length → rpA ((nodesC w L).drop k) k (L.take k) = some L
  | 0, k, hk => by
    rw [List.drop_eq_nil_of_le (by rw [nodesC_len]; omega), rpA, List.take_of_length_le (by omega)]
  | m + 1, k, hk => by
    obtain ⟨p, hp⟩ : ∃ p, L[k]? = some p := at_lt (by omega)
    have hn : (nodesC w L)[k]? = some (nodeC w L p) := by unfold nodesC; rw [List.getElem?_map, hp]; rfl
    rw [rpA_at hn, rp_step h hp]
    exact rp_all h m (k + 1) (by omega)
theorem rp_C (h : GT w L) : rpF (nodesC w L) = some L := rp_all h L.length 0 (by omega)
theorem nodesC_at {k : Nat} {p : List Bs} (hp : L[k]? = some p) : (nodesC w L)[k]? = some (nodeC w L p) := by unfold nodesC; rw [List.getElem?_map, hp]; rfl
end
/-- What stacks weigh below a path, and at it. -/
def totS (l : List Sym) (ys : List Sk) (q : List Bs) : Int := (ys.map fun y => if q <+: pathOf l y then y.weight else 0).sum
def ownS (l : List Sym) (ys : List Sk) (q : List Bs) : Int := (ys.map fun y => if pathOf l y = q then y.weight else 0).sum
section
variable {l : List Sym}
theorem ownS_eq {ys : List Sk} (hv : ∀ y ∈ ys, VQ (pathOf l y)) {q : List Bs} (hq : VQ q) : wS l ys q = ownS l ys q := by
  unfold wS wI stkE ownS
  rw [List.map_map]
  refine sum_congrP fun y hy => ?_
  simp only [Function.comp_apply]
  by_cases h : pathOf l y = q
  · rw [if_pos h, if_pos (by rw [h])]
  · rw [if_neg h, if_neg fun e => h (pth_inj (hv y hy) hq e)]
theorem totS_eq {M : List (List Bs)} (hn : M.Nodup) (hM : ∀ p ∈ M, VQ p) (q : List Bs) : ∀ {ys : List Sk}, (∀ y ∈ ys, VQ (pathOf l y) ∧ pathOf l y ∈ M) → totL (wS l ys) M q = totS l ys q
  | [], _ => by
    unfold totS
    have : totL (wS l []) M q = (M.map fun p => if False then (0 : Int) else 0).sum := sum_congrP fun p _ => by
      have : wS l [] p = 0 := rfl
      rw [this]; split <;> rfl
    rw [this, sum_zeroP fun _ _ h => h]; rfl
  | y :: ys, h => by
    have ih := totS_eq hn hM q (ys := ys) fun x hx => h x (List.mem_cons_of_mem _ hx)
    obtain ⟨hv, hm⟩ := h y List.mem_cons_self
    have e1 : totL (wS l (y :: ys)) M q = totL (fun p => if p = pathOf l y then y.weight else 0) M q + totL (wS l ys) M q := by
      rw [← totL_add]
      refine totL_congr (fun p hp => ?_) q
      have : wS l (y :: ys) p = (if pth (pathOf l y) = pth p then y.weight else 0) + wS l ys p := by unfold wS stkE; rw [List.map_cons, wI_cons]
      rw [this]
      by_cases hc : p = pathOf l y
      · rw [if_pos hc, if_pos (by rw [hc])]
      · rw [if_neg hc, if_neg fun e => hc (pth_inj hv (hM p hp) e).symm]
    have e2 : totL (fun p => if p = pathOf l y then y.weight else 0) M q = if q <+: pathOf l y then y.weight else 0 := by
      unfold totL
      by_cases hq : q <+: pathOf l y
      · rw [if_pos hq, sum_congrP (g := fun p => if p = pathOf l y then y.weight else 0) fun p _ => by
          show (if q <+: p then (if p = pathOf l y then y.weight else 0) else 0) = if p = pathOf l y then y.weight else 0
          by_cases hc : p = pathOf l y
          · rw [if_pos hc, hc, if_pos hq]
          · rw [if_neg hc]; split <;> rfl, sum_oneP (f := fun _ => y.weight) hn hm fun _ _ => Iff.rfl]
      · rw [if_neg hq, sum_congrP (g := fun p => if False then (0 : Int) else 0) fun p _ => by
          rw [if_neg (fun h => h)]
          show (if q <+: p then (if p = pathOf l y then y.weight else 0) else 0) = 0
          by_cases hc : p = pathOf l y
          · rw [hc, if_neg hq]
          · rw [if_neg hc]; split <;> rfl, sum_zeroP fun _ _ h => h]
    rw [e1, e2, ih]
    unfold totS
    rw [List.map_cons, List.sum_cons]
end
section
variable {l : List Sym} {ys : List Sk}
theorem Gd.vq (h : Gd l ys) : ∀ y ∈ ys, VQ (pathOf l y) := fun y hy => pathOf_vq h.1 h.2 hy
theorem mF_path (h : Gd l ys) : ∀ y ∈ ys, pathOf l y ∈ mF l ys := fun y hy => ((mF_gt h).can.mem _).2 (.inr ⟨_, h.vq y hy, wS_at h.2 hy, List.prefix_refl _⟩)
theorem nF_node (h : Gd l ys) {k : Nat} {p : List Bs} (hp : (mF l ys)[k]? = some p) : ∃ n, (nF l ys)[k]? = some n ∧ n.own = ownS l ys p ∧ n.total = totS l ys p ∧ n.own = wS l ys p ∧ n.total = totL (wS l ys) (mF l ys) p := by
  have hm := List.mem_of_getElem? hp
  have hv := (mF_gt h).can.vq p hm
  exact ⟨_, nodesC_at hp, ownS_eq h.vq hv, totS_eq (srt_nodup (mF_gt h).can.srt) (mF_gt h).can.vq p fun y hy => ⟨h.vq y hy, mF_path h y hy⟩, rfl, rfl⟩
theorem nF_rp (h : Gd l ys) : rpF (nF l ys) = some (mF l ys) := rp_C (mF_gt h)
theorem nF_length : (nF l ys).length = (mF l ys).length := nodesC_len _ _
theorem pathsT (h : Gd l ys) (A : Option Addr) (c : Nat) (S : SH) (hA : At S A (nF l ys)) :
    Con Try.prog 19 #[.agg #[.slice A (nF l ys).length c]] S [] (fun S' L' r => ∃ v xs, r = .tuple #[v, .bool true] ∧ Ows 48 v xs L' ∧ PthL S' xs (mF l ys)) :=
  (rPaths_con (nF l ys) A c S hA (nF_len h)).mono fun S' L' r _ ⟨_, hr⟩ => by
    rcases hr with ⟨h1, _⟩ | ⟨ps, v, xs, h1, h2, h3, h4, _⟩
    · rw [nF_rp h] at h1; cases h1
    · rw [nF_rp h] at h1
      obtain rfl := Option.some.inj h1
      exact ⟨v, xs, h2, h3, h4⟩
end
end Go.Proofs.Ytcnfchchanlepaa
namespace Go.Proofs.Ytcnfchchanlepaa
open Go Go.X
set_option linter.unusedVariables false
/-- The total of a path in the tree of stacks. -/
noncomputable def tF (l : List Sym) (ys : List Sk) (p : List Bs) : Int := totL (wS l ys) (mF l ys) p
theorem Chs.congr {d e : List Bs → Int} {ch : List Ch} (h : Chs d ch) (he : ∀ p, VQ p → d p = e p) : Chs e ch :=
  ⟨h.srt, fun x => by
    rw [h.mem]
    exact ⟨fun ⟨a, b, c⟩ => ⟨a, by rw [← he _ a]; exact b, c⟩, fun ⟨a, b, c⟩ => ⟨a, by rw [he _ a]; exact b, c⟩⟩⟩
section
variable {l : List Sym} {ys zs : List Sk}
theorem tF_bd (h : Gd l ys) (p : List Bs) : 0 ≤ tF l ys p ∧ tF l ys p ≤ 1125899906842624 := ⟨tot_ge (mF_gt h) p, Int.le_trans (totL_le (mF_gt h).pos p) (mF_gt h).fit.1⟩
theorem tF_wT (h : Gd l ys) {p : List Bs} (hp : VQ p) : wT Nd.total (nF l ys) p = tF l ys p := wT_total (mF_gt h) hp
theorem diffT (h : Gd l ys) (k : Gd l zs) (A B : Option Addr) (c d : Nat) (S : SH) (hA : At S A (nF l ys)) (hB : At S B (nF l zs)) :
    Con Try.prog 26 #[.agg #[.slice A (nF l ys).length c], .agg #[.slice B (nF l zs).length d]] S [] (fun S' L' r => ∃ v xs ch, r = .tuple #[v, .int .i64 0] ∧ Ows 66 v xs L' ∧ ChL S' xs ch ∧ Chs (fun p => tF l zs p - tF l ys p) ch) :=
  (diff_con (nF l ys) (nF l zs) A B c d S hA hB (nF_len h) (nF_len k)).mono fun S' L' r _ ⟨_, v, ec, hr, hd⟩ => by
    rcases hd with ⟨h1, _⟩ | ⟨_, h2, xs, ch, h3, h4, h5⟩
    · exact absurd ⟨nF_valid h, nF_valid k⟩ h1
    · subst h2
      exact ⟨v, xs, ch, hr, h3, h4, h5.congr fun p hp => by rw [tF_wT h hp, tF_wT k hp]⟩
theorem diff_bd (h : Gd l ys) (k : Gd l zs) {ch : List Ch} (hc : Chs (fun p => tF l zs p - tF l ys p) ch) {x : Ch} (hx : x ∈ ch) : x.1.length ≤ 12 ∧ -1125899906842624 ≤ x.2 ∧ x.2 ≤ 1125899906842624 := by
  obtain ⟨a, b, _⟩ := (hc.mem x).1 hx
  have h1 := tF_bd h x.1
  have h2 := tF_bd k x.1
  exact ⟨a.1, by omega, by omega⟩
theorem tF_off (h : Gd l ys) {p : List Bs} (hp : p ∉ mF l ys) : tF l ys p = 0 := totL_none fun c hc hpre => hp ((mF_gt h).can.closed c hc _ hpre)
theorem chs_nodup {d : List Bs → Int} {ch : List Ch} (hc : Chs d ch) : (ch.map (·.1)).Nodup := by
  rw [List.nodup_iff_pairwise_ne, List.pairwise_map]
  refine hc.srt.imp_of_mem fun {a b} ha hb hab e => ?_
  have e1 := ((hc.mem a).1 ha).2.1
  have e2 := ((hc.mem b).1 hb).2.1
  rw [← e] at e2
  have : a = b := Prod.ext e (by rw [e1, e2])
  subst this
  exact bef_irr _ hab
theorem diff_len (h : Gd l ys) (k : Gd l zs) {ch : List Ch} (hc : Chs (fun p => tF l zs p - tF l ys p) ch) : ch.length ≤ 4000 := by
  have h1 : (ch.map (·.1)).length ≤ (mF l ys ++ mF l zs).length := nodup_sub_len (chs_nodup hc) fun p hp => by
    obtain ⟨x, hx, rfl⟩ := List.mem_map.1 hp
    obtain ⟨a, b, c⟩ := (hc.mem x).1 hx
    rw [List.mem_append]
    by_cases h2 : x.1 ∈ mF l ys
    · exact .inl h2
    · by_cases h3 : x.1 ∈ mF l zs
      · exact .inr h3
      · rw [tF_off h h2, tF_off k h3] at b
        exact absurd b c
  rw [List.length_map, List.length_append] at h1
  have := (mF_gt h).fit.2
  have := (mF_gt k).fit.2
  omega
theorem diff_same (h : Gd l ys) (k : Gd l zs) {ch : List Ch} (hc : Chs (fun p => tF l zs p - tF l ys p) ch) : ch = [] ↔ nF l ys = nF l zs := by
  rw [hc.nil]
  constructor
  · intro h0
    exact tot_same (mF_gt h) (mF_gt k) fun p hp => by have := h0 p hp; unfold tF at this; omega
  · intro e p hp
    have h1 := tF_wT h hp
    have h2 := tF_wT k hp
    rw [e, h2] at h1
    omega
theorem diff_neg {c1 c2 : List Ch} (h1 : Chs (fun p => tF l zs p - tF l ys p) c1) (h2 : Chs (fun p => tF l ys p - tF l zs p) c2) : c1 = c2.map fun x => (x.1, -x.2) :=
  h1.eq h2.neg fun p _ => by show tF l zs p - tF l ys p = -(tF l ys p - tF l zs p); omega
theorem diff_self {ch : List Ch} (h : Chs (fun p => tF l ys p - tF l ys p) ch) : ch = [] := h.nil.2 fun p _ => Int.sub_self _
theorem diff_sum (h : Gd l ys) (k : Gd l zs) (hk : Gd l (ys ++ zs)) {ch : List Ch} (hc : Chs (fun p => tF l (ys ++ zs) p - tF l ys p) ch) : Chs (tF l zs) ch :=
  hc.congr fun p _ => by
    have := tot_merge (mF_gt h).can (mF_gt k).can (mF_gt hk).can (fun p _ => wS_pos h.2 p) (fun p _ => wS_pos k.2 p) (fun p _ => wS_app ys zs p) p
    unfold tF
    omega
theorem sum_mem (k : Gd l zs) {ch : List Ch} (hc : Chs (tF l zs) ch) (x : Ch) : x ∈ ch ↔ x.1 ∈ mF l zs ∧ x.2 = tF l zs x.1 ∧ 0 < x.2 := by
  rw [hc.mem, show tF l zs x.1 = totL (wS l zs) (mF l zs) x.1 from rfl, chs_mem (mF_gt k)]
  have := tF_bd k x.1
  unfold tF at this
  exact ⟨fun ⟨a, b, c⟩ => ⟨a, b, by omega⟩, fun ⟨a, b, c⟩ => ⟨a, b, by omega⟩⟩
/-- How many of the nodes have a total. -/
def posN (ns : List Nd) : Nat := (ns.filter fun n => decide (0 < n.total)).length
theorem posN_snoc (ns : List Nd) (n : Nd) : posN (ns ++ [n]) = posN ns + if 0 < n.total then 1 else 0 := by
  unfold posN
  rw [List.filter_append, List.length_append]
  by_cases h : 0 < n.total
  · rw [List.filter_cons_of_pos (by simpa using h), if_pos h]; rfl
  · rw [List.filter_cons_of_neg (by simpa using h), if_neg h]; rfl
theorem posN_le (ns : List Nd) : posN ns ≤ ns.length := List.length_filter_le _ _
theorem sum_len (k : Gd l zs) {ch : List Ch} (hc : Chs (tF l zs) ch) : ch.length = posN (nF l zs) := by
  have h1 : posN (nF l zs) = ((mF l zs).filter fun p => decide (0 < tF l zs p)).length := by
    unfold posN nF nodesC
    rw [List.filter_map, List.length_map]
    rfl
  have hnd := chs_nodup hc
  have hp : (ch.map (·.1)).Perm ((mF l zs).filter fun p => decide (0 < tF l zs p)) := by
    refine (List.perm_ext_iff_of_nodup hnd ((srt_nodup (mF_gt k).can.srt).filter _)).2 fun p => ?_
    rw [List.mem_map, List.mem_filter, decide_eq_true_eq]
    constructor
    · rintro ⟨x, hx, rfl⟩
      obtain ⟨a, b, c⟩ := (sum_mem k hc x).1 hx
      exact ⟨a, by omega⟩
    · rintro ⟨a, b⟩
      exact ⟨(p, tF l zs p), (sum_mem k hc _).2 ⟨a, rfl, b⟩, rfl⟩
  rw [h1, ← hp.length_eq, List.length_map]
theorem sum_srt (k : Gd l zs) {ch : List Ch} (hc : Chs (tF l zs) ch) {i : Nat} {x y : Ch} (hx : ch[i]? = some x) (hy : ch[i + 1]? = some y) : y.2 ≤ x.2 := by
  have h1 := hc.srt
  have p1 := ((sum_mem k hc x).1 (List.mem_of_getElem? hx)).2.2
  have p2 := ((sum_mem k hc y).1 (List.mem_of_getElem? hy)).2.2
  obtain ⟨l1, e1⟩ := List.getElem?_eq_some_iff.1 hx
  obtain ⟨l2, e2⟩ := List.getElem?_eq_some_iff.1 hy
  have h2 := List.pairwise_iff_getElem.1 h1 i (i + 1) l1 l2 (by omega)
  rw [e1, e2] at h2
  unfold bef ab at h2
  omega
end
end Go.Proofs.Ytcnfchchanlepaa
namespace Go.Proofs.Ytcnfchchanlepaa
open Go Go.X
section
variable {l : List Sym} {ya yb : List Sk}
end
/-- Whether all own weights that are looked at fit. -/
def fitB (l : List Sym) (ya yb : List Sk) (M : List (List Bs)) : Bool := M.all fun p => decide (wS l yb p ≤ wS l ya p)
theorem mem_take_snoc {M : List (List Bs)} {k : Nat} {p q : List Bs} (hp : M[k]? = some p) : q ∈ M.take (k + 1) ↔ q ∈ M.take k ∨ q = p := by rw [take_at hp]; simp
set_option maxRecDepth 10000
set_option linter.unusedVariables false
attribute [local irreducible] Code.wpIn wpListIn Exit.then Exit.inBlock X.Out X.Back X.W X.Ev X.Con X.BinV X.Wh X.Wn X.Wq
end Go.Proofs.Ytcnfchchanlepaa
namespace Go.Proofs.Ytcnfchchanlepaa
open Go Go.X
set_option linter.unusedVariables false
theorem chs_negs {c1 c2 : List Ch} (h : c1 = c2.map fun x => (x.1, -x.2)) {i : Nat} {y : Ch} (hy : c2[i]? = some y) : c1[i]? = some (y.1, -y.2) := by rw [h, List.getElem?_map, hy]; rfl
set_option maxRecDepth 10000
set_option linter.unusedVariables false
attribute [local irreducible] Code.wpIn wpListIn Exit.then Exit.inBlock X.Out X.Back X.W X.Ev X.Con X.BinV X.Wh X.Wn X.Wq
set_option maxHeartbeats 6400000 in
theorem diffs_law (xs : List A3) (A : Option Addr) (c : Nat) (ls : List A6) (B : Option Addr) (d : Nat) (ms : List A6) (D : Option Addr) (e : Nat) (S : SH) (hA : At S A xs) (hx : ∀ x ∈ xs, i64A x) (hB : At S B ls) (hl : ∀ x ∈ ls, i64B x) (hD : At S D ms) (hm : ∀ x ∈ ms, i64B x) :
    Con Try.prog 9 #[.slice A xs.length c, .slice B ls.length d, .slice D ms.length e] S [] (fun _ L' r => L' = [] ∧ r = .bool true) := by
  refine con_of (args := [.slice A xs.length c, .slice B ls.length d, .slice D ms.length e]) Try.func9 rfl Try.ntmps9 rfl fun w => ?_
  have g1 := gdT xs ls
  have g2 := gdT xs ms
  have l1 := madeF_len ls
  have l2 := madeF_len ms
  have g12 := g1.app g2 (by omega)
  (repeat (first | refine Jc ?_ | (apply s_call; (case hg => rfl); (case hd => rfl); (case ha => rfl); (case hc => exact sane_con _); (case hL => (repeat (first | exact pm_nil _ | exact pm_refl _ _ | exact pm_self _ | apply pm_cons | apply pm_app))); rintro S1 _ _ h1 ⟨rfl, rfl⟩) | refine Jo ?_ | intro _))
  (repeat (first | refine Jc ?_ | ((apply s_call; (case hg => rfl); (case hd => rfl); (case ha => rfl); (case hc => exact tree_con' xs ls A B c d _ (hA.le h1) hx (hB.le h1) hl); (case hL => (repeat (first | exact pm_nil _ | exact pm_refl _ _ | exact pm_self _ | apply pm_cons | apply pm_app))); rintro S2 L2 _ h2 ⟨v2, rfl, ho2⟩); refine W.freezeOws ho2 (List.Perm.refl _) fun S3 h3 hs3 => ?_; obtain ⟨Aa, ca, rfl, _, ha⟩ := hs3) | refine Jo ?_ | intro _))
  rename_i b8
  have h13 := h1.trans (h2.trans h3)
  (repeat (first | refine Jc ?_ | ((apply s_call; (case hg => rfl); (case hd => rfl); (case ha => rfl); (case hc => exact tree_con' xs ms A D c e _ (hA.le h13) hx (hD.le h13) hm); (case hL => (repeat (first | exact pm_nil _ | exact pm_refl _ _ | exact pm_self _ | apply pm_cons | apply pm_app))); rintro S4 L4 _ h4 ⟨v4, rfl, ho4⟩); refine W.freezeOws ho4 (List.Perm.refl _) fun S5 h5 hs5 => ?_; obtain ⟨Ab, cb, rfl, _, hb⟩ := hs5) | refine Jo ?_ | intro _))
  rename_i b10
  have h35 := h4.trans h5
  have ha5 := ha.le h35
  generalize hL : tableF xs = l at *
  generalize hY : madeF ls = ya at *
  generalize hZ : madeF ms = yb at *
  (repeat (first | refine Jc ?_ | ((apply s_call; (case hg => rfl); (case hd => rfl); (case ha => rfl); (case hc => exact diffT g1 g2 _ _ _ _ _ ha5 hb); (case hL => (repeat (first | exact pm_nil _ | exact pm_refl _ _ | exact pm_self _ | apply pm_cons | apply pm_app))); rintro S6 L6 _ h6 ⟨v6, cp, kp, rfl, ho6, kc6, kd6⟩); refine W.freezeOws ho6 (List.Perm.refl _) fun S7 h7 hs7 => ?_; obtain ⟨Ap, pc, rfl, _, hp⟩ := hs7) | refine Jo ?_ | intro _))
  have h57 := h6.trans h7
  (repeat (first | refine Jc ?_ | ((apply s_call; (case hg => rfl); (case hd => rfl); (case ha => rfl); (case hc => exact diffT g2 g1 _ _ _ _ _ (hb.le h57) (ha5.le h57)); (case hL => (repeat (first | exact pm_nil _ | exact pm_refl _ _ | exact pm_self _ | apply pm_cons | apply pm_app))); rintro S8 L8 _ h8 ⟨v8, cq, kq, rfl, ho8, kc8, kd8⟩); refine W.freezeOws ho8 (List.Perm.refl _) fun S9 h9 hs9 => ?_; obtain ⟨Aq, qc, rfl, _, hq⟩ := hs9) | refine Jo ?_ | intro _))
  have h79 := h8.trans h9
  have h59 := h57.trans h79
  (repeat (first | refine Jc ?_ | ((apply s_call; (case hg => rfl); (case hd => rfl); (case ha => rfl); (case hc => exact mergeT g1 g2 g12 _ _ _ _ _ (ha5.le h59) (hb.le h59)); (case hL => (repeat (first | exact pm_nil _ | exact pm_refl _ _ | exact pm_self _ | apply pm_cons | apply pm_app))); rintro S10 L10 _ h10 ⟨v10, rfl, ho10⟩); refine W.freezeOws ho10 (List.Perm.refl _) fun S11 h11 hs11 => ?_; obtain ⟨As, cs, rfl, _, hs⟩ := hs11) | refine Jo ?_ | intro _))
  rename_i b16
  have h911 := h10.trans h11
  have h511 := h59.trans h911
  (repeat (first | refine Jc ?_ | ((apply s_call; (case hg => rfl); (case hd => rfl); (case ha => rfl); (case hc => exact diffT g1 g12 _ _ _ _ _ (ha5.le h511) hs); (case hL => (repeat (first | exact pm_nil _ | exact pm_refl _ _ | exact pm_self _ | apply pm_cons | apply pm_app))); rintro S12 L12 _ h12 ⟨v12, cr, kr, rfl, ho12, kc12, kd12⟩); refine W.freezeOws ho12 (List.Perm.refl _) fun S13 h13' hs13 => ?_; obtain ⟨Ar, rc, rfl, _, hr⟩ := hs13) | refine Jo ?_ | intro _))
  have h1113 := h12.trans h13'
  have h513 := h511.trans h1113
  have kds := diff_sum g1 g2 g12 kd12
  have kn := diff_neg kd6 kd8
  have klp : kp.length = kq.length := by rw [kn, List.length_map]
  have n1 := kc6.1
  have n2 := kc8.1
  have n3 := kc12.1
  have n12 : cp.length = cq.length := by omega
  have hsm := diff_same g1 g2 kd6
  have hkr := sum_len g2 kds
  have hpo := posN_le (nF l yb)
  have hnl := nF_len g2
  have hnl1 := nF_len g1
  have hml : (nF l yb).length = (mF l yb).length := nF_length
  have hM2 := mF_gt g2
  have hM2l := hM2.fit.2
  have hkq := diff_len g2 g1 kd8
  obtain ⟨rs, hrs⟩ : ∃ rs : Bool, rs = true ↔ nF l ya = nF l yb := by
    by_cases h : nF l ya = nF l yb
    · exact ⟨true, fun _ => h, fun _ => rfl⟩
    · exact ⟨false, fun k => (by cases k), fun k => absurd k h⟩
  have hc9 := fun S hA hB => same_con (nF l ya) (nF l yb) Aa Ab ca cb S hA hB hnl1 hnl rs hrs
  have hz9 : rs = true ↔ cp.length = 0 := by rw [hrs, ← hsm, n1, List.length_eq_zero_iff]
  clear hsm hrs
  cases rs
  case' false =>
    have z9 : cp.length ≠ 0 := fun h => by have := hz9.2 h; cases this
    (repeat (first | refine Jc ?_ | ((apply s_call; (case hg => rfl); (case hd => rfl); (case ha => rfl); (case hc => exact diffT g1 g1 _ _ _ _ _ (ha5.le h513) (ha5.le h513)); (case hL => (repeat (first | exact pm_nil _ | exact pm_refl _ _ | exact pm_self _ | apply pm_cons | apply pm_app))); rintro S14 L14 _ h14 ⟨v14, ce, ke, rfl, ho14, kc14, kd14⟩); refine W.freezeOws ho14 (List.Perm.refl _) fun S15 h15 hs15 => ?_; obtain ⟨Ae, ec, rfl, _, he⟩ := hs15; have e1 : ce.length = 0 := (by rw [kc14.1, diff_self kd14]; rfl); have ha15 := ha5.le (h513.trans (h14.trans h15)); have hb15 := hb.le (h513.trans (h14.trans h15))) | ((apply s_call; (case hg => rfl); (case hd => rfl); (case ha => rfl); (case hc => exact hc9 _ ha15 hb15); (case hL => (repeat (first | exact pm_nil _ | exact pm_refl _ _ | exact pm_self _ | apply pm_cons | apply pm_app))); rintro _ _ _ - ⟨rfl, rfl, rfl⟩)) | refine Jo ?_ | intro _))
  case' true =>
    have z9 := hz9.1 rfl
    (repeat (first | refine Jc ?_ | ((apply s_call; (case hg => rfl); (case hd => rfl); (case ha => rfl); (case hc => exact diffT g1 g1 _ _ _ _ _ (ha5.le h513) (ha5.le h513)); (case hL => (repeat (first | exact pm_nil _ | exact pm_refl _ _ | exact pm_self _ | apply pm_cons | apply pm_app))); rintro S14 L14 _ h14 ⟨v14, ce, ke, rfl, ho14, kc14, kd14⟩); refine W.freezeOws ho14 (List.Perm.refl _) fun S15 h15 hs15 => ?_; obtain ⟨Ae, ec, rfl, _, he⟩ := hs15; have e1 : ce.length = 0 := (by rw [kc14.1, diff_self kd14]; rfl); have ha15 := ha5.le (h513.trans (h14.trans h15)); have hb15 := hb.le (h513.trans (h14.trans h15))) | ((apply s_call; (case hg => rfl); (case hd => rfl); (case ha => rfl); (case hc => exact hc9 _ ha15 hb15); (case hL => (repeat (first | exact pm_nil _ | exact pm_refl _ _ | exact pm_self _ | apply pm_cons | apply pm_app))); rintro _ _ _ - ⟨rfl, rfl, rfl⟩)) | refine Jo ?_ | intro _))
  all_goals (
    clear z9 hz9
    have h1315 := h14.trans h15
    have h715 := ((h79.trans h911).trans h1113).trans h1315
    have h915 := (h911.trans h1113).trans h1315
    have hp15 := hp.le h715
    have hq15 := hq.le h915
    have hr15 := hr.le h1315
    have kp15 := (kc6.le h7).le h715
    have kq15 := (kc8.le h9).le h915
    have kr15 := (kc12.le h13').le h1315
    refine c_loop (fun m S' L F => Le S15 S' ∧ ∃ (k : Nat), m = cp.length - k ∧ k ≤ cp.length ∧ L = [(b10, .cells [.slice Ab (nF l yb).length cb].toArray 36 (0, 0))] ∧
        F = [(7, .bool true), (10, .pointer (some ⟨b10, 0, none⟩)), (12, .slice Ap cp.length pc), (14, .slice Aq cq.length qc), (18, .slice Ar cr.length rc), (22, .int .i64 k)]) ⟨Le.refl _, 0, rfl, by omega, rfl, rfl⟩ sbF sbL ?_
    rintro m S16 L F ⟨h16, k, rfl, hk, rfl, rfl⟩
    have hp16 := hp15.le h16
    have hq16 := hq15.le h16
    have hr16 := hr15.le h16
    have hb16 := hb15.le h16
    have kr16 := kr15.le h16
    by_cases hkl : k < cp.length
    · obtain ⟨x1, hx1⟩ := at_lt hkl
      obtain ⟨x2, hx2⟩ : ∃ x, cq[k]? = some x := at_lt (by omega)
      obtain ⟨y2, hy2⟩ : ∃ y, kq[k]? = some y := at_lt (by omega)
      have hy1 := chs_negs kn hy2
      obtain ⟨a1, a2, a3, a4⟩ := (kp15.le h16).2 k x1 _ hx1 hy1
      obtain ⟨c1, c2, c3, c4⟩ := (kq15.le h16).2 k x2 y2 hx2 hy2
      obtain ⟨d1, d2, d3⟩ := diff_bd g2 g1 kd8 (List.mem_of_getElem? hy2)
      obtain ⟨⟨x1a, x1m, x1c⟩, x1b⟩ := x1
      obtain ⟨⟨x2a, x2m, x2c⟩, n⟩ := x2
      obtain ⟨y, n'⟩ := y2
      simp only at a1 a2 a3 a4 c1 c2 c3 c4 d1 d2 d3
      subst c1; subst a1; subst a2; subst c2
      have tl := toS_len y
      have hcc := rCompare_con y y _ _ x1c x2c S16 a4 c4 (by omega) (by omega)
      rw [cmpP_eq0.2 rfl] at hcc
      (repeat (first | refine Jz ?_ | intro _))
      ((apply c_held ([]); (case hL => (exact sbT))); refine Jf 0 ?_; refine Jf 1 ?_; (apply h_idx hp16 2; (case hi => rfl); (case hr => kernel_rfl); (case hfr => kernel_rfl); (case hsel => kernel_rfl); (case hg => rfl); (case hd => rfl); (case i1 => infer_instance); (case i2 => infer_instance); (case hx => rfl); (case hy => rfl); (case hm => rfl); (case hu => exact hx1); intro u1 (hu1 : Pts _ u1 [.slice x1a (toS y).length x1c, .int .i64 (-n)])); refine Jf 3 ?_; (apply h_first 4; (case hi => rfl); (case hr => kernel_rfl); (case hfr => kernel_rfl); (case hsel => kernel_rfl); (case hg => rfl); (case hd => rfl); (case he => (apply ev_load_f; (case hx => rfl); (case h => exact hu1); (case hv => rfl)))); refine Jf 5 ?_; refine Jf 6 ?_; (apply h_idx hq16 7; (case hi => rfl); (case hr => kernel_rfl); (case hfr => kernel_rfl); (case hsel => kernel_rfl); (case hg => rfl); (case hd => rfl); (case i1 => infer_instance); (case i2 => infer_instance); (case hx => rfl); (case hy => rfl); (case hm => rfl); (case hu => exact hx2); intro u2 (hu2 : Pts _ u2 [.slice x2a (toS y).length x2c, .int .i64 n])); refine Jf 8 ?_; (apply h_first 9; (case hi => rfl); (case hr => kernel_rfl); (case hfr => kernel_rfl); (case hsel => kernel_rfl); (case hg => rfl); (case hd => rfl); (case he => (apply ev_load_f; (case hx => rfl); (case h => exact hu2); (case hv => rfl)))); (apply h_first 10; (case hi => rfl); (case hr => kernel_rfl); (case hfr => kernel_rfl); (case hsel => kernel_rfl); (case hg => rfl); (case hd => rfl); (case he => (apply ev_neg; (case hx => rfl); (case h => omega)))); refine Jf 11 ?_; refine Jf 12 ?_; refine Jf 13 ?_; refine Jf 14 ?_; (apply h_idx hp16 15; (case hi => rfl); (case hr => kernel_rfl); (case hfr => kernel_rfl); (case hsel => kernel_rfl); (case hg => rfl); (case hd => rfl); (case i1 => infer_instance); (case i2 => infer_instance); (case hx => rfl); (case hy => rfl); (case hm => rfl); (case hu => exact hx1); intro u3 (hu3 : Pts _ u3 [.slice x1a (toS y).length x1c, .int .i64 (-n)])); refine Jf 16 ?_; (apply h_first 17; (case hi => rfl); (case hr => kernel_rfl); (case hfr => kernel_rfl); (case hsel => kernel_rfl); (case hg => rfl); (case hd => rfl); (case he => (apply ev_load_f; (case hx => rfl); (case h => exact hu3); (case hv => rfl)))); refine Jf 18 ?_; refine Jf 19 ?_; (apply h_idx hq16 20; (case hi => rfl); (case hr => kernel_rfl); (case hfr => kernel_rfl); (case hsel => kernel_rfl); (case hg => rfl); (case hd => rfl); (case i1 => infer_instance); (case i2 => infer_instance); (case hx => rfl); (case hy => rfl); (case hm => rfl); (case hu => exact hx2); intro u4 (hu4 : Pts _ u4 [.slice x2a (toS y).length x2c, .int .i64 n])); refine Jf 21 ?_; (apply h_first 22; (case hi => rfl); (case hr => kernel_rfl); (case hfr => kernel_rfl); (case hsel => kernel_rfl); (case hg => rfl); (case hd => rfl); (case he => (apply ev_load_f; (case hx => rfl); (case h => exact hu4); (case hv => rfl)))); (apply h_one 23; (case hr => kernel_rfl)); (apply n_call; (case hi => rfl); (case i1 => infer_instance); (case hg => rfl); (case hd => rfl); (case ha => rfl); (case hc => exact hcc); (case hL => (repeat (first | exact pm_nil _ | exact pm_refl _ _ | exact pm_self _ | apply pm_cons | apply pm_app))); (case hsub => (intros; (exact sbT))); rintro _ _ _ - ⟨rfl, rfl, rfl⟩); refine Jf 24 ?_; refine Jf 25 ?_; (apply h_end; (case hr => kernel_rfl)))
      (repeat (first | refine Jz ?_ | intro _))
      exact q_back (L' := [(b10, .cells [.slice Ab (nF l yb).length cb].toArray 36 (0, 0))]) (m' := cp.length - (k + 1)) ⟨h16, k + 1, rfl, by omega, rfl, rfl⟩ (by omega) sbF sbL
    (repeat (first | refine Jc ?_ | ((apply s_call; (case hg => rfl); (case hd => rfl); (case ha => rfl); (case hc => exact pathsT g2 _ _ _ hb16); (case hL => (repeat (first | exact pm_nil _ | exact pm_refl _ _ | exact pm_self _ | apply pm_cons | apply pm_app))); rintro S17 L17 _ h17 ⟨v17, ps, rfl, ho17, hps⟩); refine W.freezeOws ho17 (List.Perm.refl _) fun S18 h18 hs18 => ?_; obtain ⟨At_, ct, rfl, hct, hAt⟩ := hs18; have hpl := hps.1) | refine Jo ?_ | intro _))
    have h1618 := h17.trans h18
    have hb18 := hb16.le h1618
    have hr18 := hr16.le h1618
    have kr18 := kr16.le h1618
    have hps18 := hps.le h18
    refine c_loop (fun m S' L F => S18 = S' ∧ ∃ (k : Nat), m = ps.length - k ∧ k ≤ ps.length ∧ L = [(b10, .cells [.slice Ab (nF l yb).length cb].toArray 36 (0, 0))] ∧
        F = [(7, .bool true), (10, .pointer (some ⟨b10, 0, none⟩)), (18, .slice Ar cr.length rc), (23, .slice At_ ps.length ct), (25, .int .i64 (posN ((nF l yb).take k) : Int)), (26, .int .i64 k)]) ⟨rfl, 0, rfl, by omega, rfl, rfl⟩ sbF sbL ?_
    rintro m S19 L F ⟨rfl, k2, rfl, hk2, rfl, rfl⟩
    by_cases hkl2 : k2 < ps.length
    · obtain ⟨nd, hnd⟩ : ∃ x, (nF l yb)[k2]? = some x := at_lt (by omega)
      have ep := posN_snoc ((nF l yb).take k2) nd
      rw [← take_at hnd] at ep
      have epl := posN_le ((nF l yb).take k2)
      rw [List.length_take] at epl
      by_cases hpos : 0 < nd.total
      · rw [if_pos hpos] at ep
        (repeat (first | refine Jc ?_ | (apply s_idx hb18; (case hg => rfl); (case hd => rfl); (case hx => rfl); (case hi => rfl); (case hm => rfl); (case hu => exact hnd); intro p (hp : Pts _ p [.int .i64 nd.parent, strV nd.name, .int .i64 nd.own, .int .i64 nd.total])) | (apply s_load_f; (case hg => rfl); (case hd => rfl); (case hx => rfl); (case h => exact hp); (case hv => rfl)) | refine Jo ?_ | intro _))
        exact q_back (L' := [(b10, .cells [.slice Ab (nF l yb).length cb].toArray 36 (0, 0))]) (m' := ps.length - (k2 + 1)) ⟨rfl, k2 + 1, rfl, by omega, rfl, by rw [ep]⟩ (by omega) sbF sbL
      · rw [if_neg hpos] at ep
        (repeat (first | refine Jc ?_ | (apply s_idx hb18; (case hg => rfl); (case hd => rfl); (case hx => rfl); (case hi => rfl); (case hm => rfl); (case hu => exact hnd); intro p (hp : Pts _ p [.int .i64 nd.parent, strV nd.name, .int .i64 nd.own, .int .i64 nd.total])) | (apply s_load_f; (case hg => rfl); (case hd => rfl); (case hx => rfl); (case h => exact hp); (case hv => rfl)) | refine Jo ?_ | intro _))
        exact q_back (L' := [(b10, .cells [.slice Ab (nF l yb).length cb].toArray 36 (0, 0))]) (m' := ps.length - (k2 + 1)) ⟨rfl, k2 + 1, rfl, by omega, rfl, by rw [ep]⟩ (by omega) sbF sbL
    rw [List.take_of_length_le (by omega), ← hkr, ← n3]
    have hcrl : cr.length ≤ 1000000 := by have : kr.length ≤ (nF l yb).length := by rw [hkr]; exact hpo
                                          omega
    (repeat (first | refine Jz ?_ | intro _))
    refine c_loop (fun m S' L F => S18 = S' ∧ ∃ (k : Nat), m = cr.length - k ∧ k ≤ cr.length ∧ L = [(b10, .cells [.slice Ab (nF l yb).length cb].toArray 36 (0, 0))] ∧
        F = [(7, .bool true), (10, .pointer (some ⟨b10, 0, none⟩)), (18, .slice Ar cr.length rc), (23, .slice At_ ps.length ct), (27, .int .i64 k)]) ⟨rfl, 0, rfl, by omega, rfl, rfl⟩ sbF sbL ?_
    rintro m S20 L F ⟨rfl, j, rfl, hj, rfl, rfl⟩
    by_cases hjl : j < cr.length
    rotate_left
    · (repeat (first | refine Jz ?_ | intro _))
      exact o_ret (L' := []) Try.results9 rfl (List.nil_sublist _) ⟨rfl, rfl⟩
    obtain ⟨x1, hx1⟩ := at_lt hjl
    obtain ⟨y1, hy1⟩ : ∃ y, kr[j]? = some y := at_lt (by omega)
    obtain ⟨a1, a2, a3, a4⟩ := kr18.2 j x1 y1 hx1 hy1
    obtain ⟨m1, m2, m3⟩ := (sum_mem g2 kds y1).1 (List.mem_of_getElem? hy1)
    have bdt := tF_bd g2 y1.1
    have hv1 := hM2.can.vq _ m1
    obtain ⟨⟨x1a, x1m, x1c⟩, n⟩ := x1
    obtain ⟨y, n'⟩ := y1
    simp only at a1 a2 a3 a4 m1 m2 m3 bdt hv1
    have tl := toS_len y
    have hv12 := hv1.1
    subst a1; subst a2
    (repeat (first | refine Jz ?_ | intro _))
    refine c_loop (fun m S' L F => S18 = S' ∧ ∃ (k : Nat), m = ps.length - k ∧ k ≤ ps.length ∧ L = [(b10, .cells [.slice Ab (nF l yb).length cb].toArray 36 (0, 0))] ∧
        F = [(7, .bool true), (10, .pointer (some ⟨b10, 0, none⟩)), (18, .slice Ar cr.length rc), (23, .slice At_ ps.length ct), (27, .int .i64 j), (28, .bool (decide (y ∈ (mF l yb).take k))), (29, .int .i64 k)]) ⟨rfl, 0, rfl, by omega, rfl, rfl⟩ sbF sbL ?_
    rintro m S21 L F ⟨rfl, i, rfl, hi, rfl, rfl⟩
    by_cases hil : i < ps.length
    rotate_left
    · rw [List.take_of_length_le (by omega), decide_eq_true m1]
      by_cases hj0 : 0 < j
      · obtain ⟨j', rfl⟩ : ∃ j', j = j' + 1 := ⟨j - 1, by omega⟩
        obtain ⟨x3, hx3⟩ : ∃ x, cr[j']? = some x := at_lt (by omega)
        obtain ⟨y3, hy3⟩ : ∃ y, kr[j']? = some y := at_lt (by omega)
        obtain ⟨b1, -, -, -⟩ := kr18.2 j' x3 y3 hx3 hy3
        have hsr := sum_srt g2 kds hy3 hy1
        have hjj : ((j' + 1 : Nat) : Int) - 1 = (j' : Int) := by omega
        obtain ⟨⟨x3a, x3m, x3c⟩, nn3⟩ := x3
        obtain ⟨y3p, n3'⟩ := y3
        simp only at b1 hsr
        subst b1
        (repeat (first | refine Jz ?_ | intro _))
        ((apply c_held ([]); (case hL => (exact sbT))); refine Jf 0 ?_; refine Jf 1 ?_; refine Jf 2 ?_; refine Jf 3 ?_; refine Jf 4 ?_; refine Jf 5 ?_; refine Jf 6 ?_; refine Jf 7 ?_; (refine Jf 8 ?_; rw [hjj]); (apply h_idx hr18 9; (case hi => rfl); (case hr => kernel_rfl); (case hfr => kernel_rfl); (case hsel => kernel_rfl); (case hg => rfl); (case hd => rfl); (case i1 => infer_instance); (case i2 => infer_instance); (case hx => rfl); (case hy => rfl); (case hm => rfl); (case hu => exact hx3); intro u3 (hu3 : Pts _ u3 [.slice x3a x3m x3c, .int .i64 nn3])); refine Jf 10 ?_; (apply h_first 11; (case hi => rfl); (case hr => kernel_rfl); (case hfr => kernel_rfl); (case hsel => kernel_rfl); (case hg => rfl); (case hd => rfl); (case he => (apply ev_load_f; (case hx => rfl); (case h => exact hu3); (case hv => rfl)))); refine Jf 12 ?_; refine Jf 13 ?_; (apply h_idx hr18 14; (case hi => rfl); (case hr => kernel_rfl); (case hfr => kernel_rfl); (case hsel => kernel_rfl); (case hg => rfl); (case hd => rfl); (case i1 => infer_instance); (case i2 => infer_instance); (case hx => rfl); (case hy => rfl); (case hm => rfl); (case hu => exact hx1); intro u4 (hu4 : Pts _ u4 [.slice x1a (toS y).length x1c, .int .i64 n])); refine Jf 15 ?_; (apply h_first 16; (case hi => rfl); (case hr => kernel_rfl); (case hfr => kernel_rfl); (case hsel => kernel_rfl); (case hg => rfl); (case hd => rfl); (case he => (apply ev_load_f; (case hx => rfl); (case h => exact hu4); (case hv => rfl)))); refine Jf 17 ?_; refine Jf 18 ?_; refine Jf 19 ?_; (apply h_end; (case hr => kernel_rfl)))
        (repeat (first | refine Jz ?_ | intro _))
        exact q_back (L' := [(b10, .cells [.slice Ab (nF l yb).length cb].toArray 36 (0, 0))]) (m' := cr.length - (j' + 1 + 1)) ⟨rfl, j' + 1 + 1, rfl, by omega, rfl, rfl⟩ (by omega) sbF sbL
      · (repeat (first | refine Jz ?_ | intro _))
        ((apply c_held ([]); (case hL => (exact sbT))); refine Jf 0 ?_; refine Jf 1 ?_; refine Jf 2 ?_; refine Jf 3 ?_; refine Jf 4 ?_; refine Jf 5 ?_; refine Jf 6 ?_; refine Jf 7 ?_; refine Jf 8 ?_; refine Jf 9 ?_; refine Jf 10 ?_; refine Jf 11 ?_; refine Jf 12 ?_; refine Jf 13 ?_; refine Jf 14 ?_; refine Jf 15 ?_; refine Jf 16 ?_; refine Jf 17 ?_; refine Jf 18 ?_; refine Jf 19 ?_; (apply h_end; (case hr => kernel_rfl)))
        (repeat (first | refine Jz ?_ | intro _))
        exact q_back (L' := [(b10, .cells [.slice Ab (nF l yb).length cb].toArray 36 (0, 0))]) (m' := cr.length - (j + 1)) ⟨rfl, j + 1, rfl, by omega, rfl, rfl⟩ (by omega) sbF sbL
    obtain ⟨q, hq⟩ : ∃ q, (mF l yb)[i]? = some q := at_lt (by omega)
    obtain ⟨sq, hsq⟩ := at_lt hil
    obtain ⟨nb, hnb, -, -, -, nb1⟩ := nF_node g2 hq
    have hqv := hM2.can.vq q (List.mem_of_getElem? hq)
    obtain ⟨r1, r2, r3⟩ := hps18.2 i sq q hsq hq
    have tlq := toS_len q
    have hq12 := hqv.1
    obtain ⟨sqa, sqm, sqc⟩ := sq
    simp only at r1 r2 r3
    subst r1
    have hms : y ∈ (mF l yb).take (i + 1) ↔ y ∈ (mF l yb).take i ∨ y = q := mem_take_snoc hq
    by_cases hin : y ∈ (mF l yb).take i
    · have e5 : decide (y ∈ (mF l yb).take (i + 1)) = true := decide_eq_true (hms.2 (.inl hin))
      rw [decide_eq_true hin]
      (repeat (first | refine Jz ?_ | intro _))
      ((apply c_held ([]); (case hL => (exact sbT))); refine Jf 0 ?_; refine Jf 1 ?_; refine Jf 2 ?_; refine Jf 3 ?_; refine Jf 4 ?_; refine Jf 5 ?_; refine Jf 6 ?_; refine Jf 7 ?_; refine Jf 8 ?_; refine Jf 9 ?_; refine Jf 10 ?_; (apply h_one 11; (case hr => kernel_rfl)); (refine X.Jn ?_; try intro _); refine Jf 12 ?_; refine Jf 13 ?_; refine Jf 14 ?_; refine Jf 15 ?_; refine Jf 16 ?_; refine Jf 17 ?_; refine Jf 18 ?_; refine Jf 19 ?_; refine Jf 20 ?_; refine Jf 21 ?_; refine Jf 22 ?_; refine Jf 23 ?_; refine Jf 24 ?_; refine Jf 25 ?_; refine Jf 26 ?_; refine Jf 27 ?_; refine Jf 28 ?_; (apply h_end; (case hr => kernel_rfl)))
      (repeat (first | refine Jz ?_ | intro _))
      exact q_back (L' := [(b10, .cells [.slice Ab (nF l yb).length cb].toArray 36 (0, 0))]) (m' := ps.length - (i + 1)) ⟨rfl, i + 1, rfl, by omega, rfl, by rw [e5]⟩ (by omega) sbF sbL
    rw [decide_eq_false hin]
    have hcc := rCompare_con y q _ _ x1c sqc S18 a4 r3 (by omega) (by omega)
    by_cases hyq : y = q
    · subst hyq
      have e5 : decide (y ∈ (mF l yb).take (i + 1)) = true := decide_eq_true (hms.2 (.inr rfl))
      rw [cmpP_eq0.2 rfl] at hcc
      have e6 : nb.total = n := by rw [nb1, m2]; rfl
      (repeat (first | refine Jz ?_ | intro _))
      ((apply c_held ([(b10, .cells [.slice Ab (nF l yb).length cb].toArray 36 (0, 0))]); (case hL => (exact sbT))); refine Jf 0 ?_; refine Jf 1 ?_; refine Jf 2 ?_; refine Jf 3 ?_; (apply h_idx hr18 4; (case hi => rfl); (case hr => kernel_rfl); (case hfr => kernel_rfl); (case hsel => kernel_rfl); (case hg => rfl); (case hd => rfl); (case i1 => infer_instance); (case i2 => infer_instance); (case hx => rfl); (case hy => rfl); (case hm => rfl); (case hu => exact hx1); intro u1 (hu1 : Pts _ u1 [.slice x1a (toS y).length x1c, .int .i64 n])); refine Jf 5 ?_; (apply h_first 6; (case hi => rfl); (case hr => kernel_rfl); (case hfr => kernel_rfl); (case hsel => kernel_rfl); (case hg => rfl); (case hd => rfl); (case he => (apply ev_load_f; (case hx => rfl); (case h => exact hu1); (case hv => rfl)))); refine Jf 7 ?_; refine Jf 8 ?_; (apply h_idx hAt 9; (case hi => rfl); (case hr => kernel_rfl); (case hfr => kernel_rfl); (case hsel => kernel_rfl); (case hg => rfl); (case hd => rfl); (case i1 => infer_instance); (case i2 => infer_instance); (case hx => rfl); (case hy => rfl); (case hm => rfl); (case hu => exact hsq); intro u2 (hu2 : Pts _ u2 [.slice sqa (toS y).length sqc])); (apply h_first 10; (case hi => rfl); (case hr => kernel_rfl); (case hfr => kernel_rfl); (case hsel => kernel_rfl); (case hg => rfl); (case hd => rfl); (case he => (apply ev_load1; (case hx => rfl); (case h => exact hu2)))); (apply h_one 11; (case hr => kernel_rfl)); (apply n_call; (case hi => rfl); (case i1 => infer_instance); (case hg => rfl); (case hd => rfl); (case ha => rfl); (case hc => exact hcc); (case hL => (repeat (first | exact pm_nil _ | exact pm_refl _ _ | exact pm_self _ | apply pm_cons | apply pm_app))); (case hsub => (intros; (exact sbT))); rintro _ _ _ - ⟨rfl, rfl, rfl⟩); refine Jf 12 ?_; refine Jf 13 ?_; refine Jf 14 ?_; refine Jf 15 ?_; (apply h_idx hr18 16; (case hi => rfl); (case hr => kernel_rfl); (case hfr => kernel_rfl); (case hsel => kernel_rfl); (case hg => rfl); (case hd => rfl); (case i1 => infer_instance); (case i2 => infer_instance); (case hx => rfl); (case hy => rfl); (case hm => rfl); (case hu => exact hx1); intro u3 (hu3 : Pts _ u3 [.slice x1a (toS y).length x1c, .int .i64 n])); refine Jf 17 ?_; (apply h_first 18; (case hi => rfl); (case hr => kernel_rfl); (case hfr => kernel_rfl); (case hsel => kernel_rfl); (case hg => rfl); (case hd => rfl); (case he => (apply ev_load_f; (case hx => rfl); (case h => exact hu3); (case hv => rfl)))); refine Jf 19 ?_; (apply h_first 20; (case hi => rfl); (case hr => kernel_rfl); (case hfr => kernel_rfl); (case hsel => kernel_rfl); (case hg => rfl); (case hd => rfl); (case he => (apply ev_load_own; (case hx => rfl); (case hm => (repeat (first | exact List.Mem.head _ | apply List.Mem.tail | apply List.mem_append_right))); (case h => rfl)))); refine Jf 21 ?_; (apply h_idx hb18 22; (case hi => rfl); (case hr => kernel_rfl); (case hfr => kernel_rfl); (case hsel => kernel_rfl); (case hg => rfl); (case hd => rfl); (case i1 => infer_instance); (case i2 => infer_instance); (case hx => rfl); (case hy => rfl); (case hm => rfl); (case hu => exact hnb); intro u4 (hu4 : Pts _ u4 [.int .i64 nb.parent, strV nb.name, .int .i64 nb.own, .int .i64 nb.total])); refine Jf 23 ?_; (apply h_first 24; (case hi => rfl); (case hr => kernel_rfl); (case hfr => kernel_rfl); (case hsel => kernel_rfl); (case hg => rfl); (case hd => rfl); (case he => (apply ev_load_f; (case hx => rfl); (case h => exact hu4); (case hv => rfl)))); refine Jf 25 ?_; refine Jf 26 ?_; refine Jf 27 ?_; refine Jf 28 ?_; (apply h_end; (case hr => kernel_rfl)))
      (repeat (first | refine Jz ?_ | intro _))
      exact q_back (L' := [(b10, .cells [.slice Ab (nF l yb).length cb].toArray 36 (0, 0))]) (m' := ps.length - (i + 1)) ⟨rfl, i + 1, rfl, by omega, rfl, by rw [e5]⟩ (by omega) sbF sbL
    · have e5 : decide (y ∈ (mF l yb).take (i + 1)) = false := decide_eq_false fun h => (hms.1 h).elim hin hyq
      have hne : cmpP y q ≠ 0 := fun h => hyq (cmpP_eq0.1 h)
      generalize cmpP y q = zc2 at hcc hne
      (repeat (first | refine Jz ?_ | intro _))
      ((apply c_held ([]); (case hL => (exact sbT))); refine Jf 0 ?_; refine Jf 1 ?_; refine Jf 2 ?_; refine Jf 3 ?_; (apply h_idx hr18 4; (case hi => rfl); (case hr => kernel_rfl); (case hfr => kernel_rfl); (case hsel => kernel_rfl); (case hg => rfl); (case hd => rfl); (case i1 => infer_instance); (case i2 => infer_instance); (case hx => rfl); (case hy => rfl); (case hm => rfl); (case hu => exact hx1); intro u1 (hu1 : Pts _ u1 [.slice x1a (toS y).length x1c, .int .i64 n])); refine Jf 5 ?_; (apply h_first 6; (case hi => rfl); (case hr => kernel_rfl); (case hfr => kernel_rfl); (case hsel => kernel_rfl); (case hg => rfl); (case hd => rfl); (case he => (apply ev_load_f; (case hx => rfl); (case h => exact hu1); (case hv => rfl)))); refine Jf 7 ?_; refine Jf 8 ?_; (apply h_idx hAt 9; (case hi => rfl); (case hr => kernel_rfl); (case hfr => kernel_rfl); (case hsel => kernel_rfl); (case hg => rfl); (case hd => rfl); (case i1 => infer_instance); (case i2 => infer_instance); (case hx => rfl); (case hy => rfl); (case hm => rfl); (case hu => exact hsq); intro u2 (hu2 : Pts _ u2 [.slice sqa (toS q).length sqc])); (apply h_first 10; (case hi => rfl); (case hr => kernel_rfl); (case hfr => kernel_rfl); (case hsel => kernel_rfl); (case hg => rfl); (case hd => rfl); (case he => (apply ev_load1; (case hx => rfl); (case h => exact hu2)))); (apply h_one 11; (case hr => kernel_rfl)); (apply n_call; (case hi => rfl); (case i1 => infer_instance); (case hg => rfl); (case hd => rfl); (case ha => rfl); (case hc => exact hcc); (case hL => (repeat (first | exact pm_nil _ | exact pm_refl _ _ | exact pm_self _ | apply pm_cons | apply pm_app))); (case hsub => (intros; (exact sbT))); rintro _ _ _ - ⟨rfl, rfl, rfl⟩); refine Jf 12 ?_; refine Jf 13 ?_; refine Jf 14 ?_; refine Jf 15 ?_; refine Jf 16 ?_; refine Jf 17 ?_; refine Jf 18 ?_; refine Jf 19 ?_; refine Jf 20 ?_; refine Jf 21 ?_; refine Jf 22 ?_; refine Jf 23 ?_; refine Jf 24 ?_; refine Jf 25 ?_; refine Jf 26 ?_; refine Jf 27 ?_; refine Jf 28 ?_; (apply h_end; (case hr => kernel_rfl)))
      (repeat (first | refine Jz ?_ | intro _))
      exact q_back (L' := [(b10, .cells [.slice Ab (nF l yb).length cb].toArray 36 (0, 0))]) (m' := ps.length - (i + 1)) ⟨rfl, i + 1, rfl, by omega, rfl, by rw [e5]⟩ (by omega) sbF sbL)
end Go.Proofs.Ytcnfchchanlepaa
namespace Go.Proofs.Ytcnfchchanlepaa
open Go Go.X
open Go.ChangeShapes Go.WideShapes Go.ChangeAt Go.RowKit
set_option linter.unusedVariables false
set_option maxRecDepth 100000 in
theorem liftedProfileDiffs (os : Os) (started : os.Started) (H : Type) (enc : TypeId × Value → H) :
    ReturnsInHanded {} Try.checked os 9 .any (Rows.profileDiffsSpec.pre6 enc Try.prog Try.f9 Rows.profileDiffsRow.domain false) (Rows.profileDiffsSpec.post enc Try.prog Try.f9 false true false false) := by
  refine returnsInHanded_of_change (C := Try.checked) own started (by kernel_rfl) Try.func9
    (ChangeSpec.witness6 (enc := enc) (C := Try.checked) false ⟨#[], #[.slice none 0 0, .slice none 0 0, .slice none 0 0], []⟩ 8 (by kernel_rfl) (by kernel_rfl) (by kernel_rfl) (by kernel_rfl)) ?_
  intro W base args ds gs before hval0 hW hcnd _
  have hval : ∀ (j : Nat) t v, Try.f9.params[j]? = some t → args[j]? = some v → Value.okWide Try.prog W .any base t v := hval0
  have hW' := hW
  obtain ⟨p, q, hA0, hV, rfl, hfz, hnd⟩ := hW
  have hA : DataW.TrodAll enc Try.prog W 0 (fun _ => true) true Try.f9.params.toList args.toList ds p := hA0
  rw [Try.params9] at hA hval
  obtain ⟨v0, vs0, d0, ds0, p0, q0, hargs, rfl, rfl, h0, r0⟩ := trodAll_cons hA
  obtain ⟨v1, vs1, d1, ds1, p1, q1, rfl, rfl, rfl, h1, r1⟩ := trodAll_cons r0
  obtain ⟨v2, vs2, d2, ds2, p2, q2, rfl, rfl, rfl, h2, r2⟩ := trodAll_cons r1
  obtain ⟨rfl, rfl, rfl⟩ := trodAll_nil r2
  obtain rfl : args = #[v0, v1, v2] := by cases args; simp_all
  obtain ⟨rfl, rfl⟩ := trodVars_none hV
  have k0 := h0
  have lt0 : ∀ x ∈ p0, x.block < W.heap.size := by obtain ⟨m, hm⟩ := k0; exact DataW.trod_lt m _ _ _ hm
  have k1 := h1
  have lt1 : ∀ x ∈ p1, x.block < W.heap.size := by obtain ⟨m, hm⟩ := k1; exact DataW.trod_lt m _ _ _ hm
  have k2 := h2
  have lt2 : ∀ x ∈ p2, x.block < W.heap.size := by obtain ⟨m, hm⟩ := k2; exact DataW.trod_lt m _ _ _ hm
  obtain ⟨a0, len0, cap0, rfl⟩ := okWide_slice Try.underlying24 (hval 0 24 v0 rfl rfl)
  obtain ⟨xs0, rfl, gl0, gA0, gx0⟩ := open_sl (α := A3) Try.underlying24 (by kernel_rfl) rdb_A3 rfl h0
  obtain ⟨a1, len1, cap1, rfl⟩ := okWide_slice Try.underlying25 (hval 1 25 v1 rfl rfl)
  obtain ⟨xs1, rfl, gl1, gA1, gx1⟩ := open_sl (α := A6) Try.underlying25 (by kernel_rfl) rdb_A6 rfl h1
  obtain ⟨a2, len2, cap2, rfl⟩ := okWide_slice Try.underlying25 (hval 2 25 v2 rfl rfl)
  obtain ⟨xs2, rfl, gl2, gA2, gx2⟩ := open_sl (α := A6) Try.underlying25 (by kernel_rfl) rdb_A6 rfl h2
  refine (calls_of_con (diffs_law xs0 a0 cap0 xs1 a1 cap1 xs2 a2 cap2 (allOf W) gA0 gx0 gA1 gx1 gA2 gx2) fun _ _ _ h => h.2).mono fun e W' ⟨he, bel⟩ => ?_
  subst he
  exact ⟨_, rfl, _, _, _, [], _, [], hW', trodAll_mk1 (shut_bool Try.underlying4 _), (trodAll_cons_mk (Below.trod laidOut (by kernel_rfl) (of_decide_eq_true (by kernel_rfl)) k0 bel lt0) (trodAll_cons_mk (Below.trod laidOut (by kernel_rfl) (of_decide_eq_true (by kernel_rfl)) k1 bel lt1) (trodAll_cons_mk (Below.trod laidOut (by kernel_rfl) (of_decide_eq_true (by kernel_rfl)) k2 bel lt2) trodAll_mk0))), rfl, bel.frame _, fun h => by cases h⟩
theorem overProfileDiffs : Rows.profileDiffsRow.holds Try.pinned (OpenSpec.ofChange Rows.profileDiffsSpec) :=
  OpenClaim.holds_of_wide 9 Try.f9 rfl rfl rfl rfl rfl rfl rfl ⟨rfl, rfl, rfl, rfl, rfl⟩ rfl rfl rfl rfl rfl (by kernel_rfl) Try.func9 (by kernel_rfl)
    (of_decide_eq_true (by kernel_rfl)) (by unfold Func.isWrapper; rw [if_neg (of_decide_eq_false (by kernel_rfl))]; exact ⟨rfl, rfl⟩)
    (fun os started H enc _ => liftedProfileDiffs os started H enc)
theorem profileDiffs_holds : Rows.ProfileDiffsSaid := overProfileDiffs
#print axioms profileDiffs_holds
end Go.Proofs.Ytcnfchchanlepaa
