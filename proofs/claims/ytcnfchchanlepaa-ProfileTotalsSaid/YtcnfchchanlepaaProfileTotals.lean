/- ProfileTotals returns true for every input, and each argument reads afterwards as it read before; no condition. -/
import Derived.Test.YtcnfchchanlepaaBc
import Derived.Test.YtcnfchchanlepaaXA
import Derived.Test.YtcnfchchanlepaaBd
namespace Go.Proofs.Ytcnfchchanlepaa
open Go Go.X
/-- The name of an address, as the reference implementation finds it: the last symbol that fits. -/
def rnStep (v a : Int) (nm : Bs) (s : Sym) : Bs := if symB v a s = true then s.name else nm
def rnamed (l : List Sym) (v a : Int) : Bs := l.foldl (rnStep v a) [63]
theorem symB_iff {v a : Int} {s : Sym} : symB v a s = true ↔ s.version = v ∧ s.from_ ≤ a ∧ a < s.to := by
  unfold symB
  simp only [Bool.and_eq_true, decide_eq_true_eq]
  exact ⟨fun h => ⟨h.1.1, h.1.2, h.2⟩, fun h => ⟨⟨h.1, h.2.1⟩, h.2.2⟩⟩
theorem pairI_le {p s : Sym} (h : ¬ 0 < pairI p s) : p.version < s.version ∨ p.version = s.version ∧ p.to ≤ s.from_ := by
  rcases Int.lt_trichotomy p.version s.version with h1 | h1 | h1
  · exact .inl h1
  · refine .inr ⟨h1, ?_⟩
    by_cases h2 : p.to ≤ s.from_
    · exact h2
    · have e1 : cmpI p.version s.version = 0 := by unfold cmpI; rw [if_neg (by omega), if_neg (by omega)]
      have e2 : cmpI p.to s.from_ = 1 := by unfold cmpI; rw [if_neg (by omega), if_pos (by omega)]
      exact absurd (by unfold pairI; simp [orI, e1, e2]) h
  · have e1 : cmpI p.version s.version = 1 := by unfold cmpI; rw [if_neg (by omega), if_pos (by omega)]
    exact absurd (by unfold pairI; simp [orI, e1]) h
theorem sym_at {l : List Sym} (h : SymsOk l) {i : Nat} {s : Sym} (hs : l[i]? = some s) : symOk s ∧ ∀ p, 0 < i → l[i - 1]? = some p → ¬ 0 < pairI p s := h.1 i s (List.getElem?_eq_some_iff.1 hs).1 hs
theorem sym_lt {s : Sym} (h : symOk s) : s.from_ < s.to := by
  have := h.2.2.1
  unfold inB at this
  simp only [decide_eq_true_eq] at this
  omega
theorem sym_mono {l : List Sym} (h : SymsOk l) {i : Nat} {a : Sym} (ha : l[i]? = some a) : ∀ (k : Nat) (b : Sym), l[i + 1 + k]? = some b → a.version < b.version ∨ a.version = b.version ∧ a.to ≤ b.from_
  | 0, b, hb => pairI_le ((sym_at h hb).2 a (Nat.succ_pos i) (by simpa using ha))
  | k + 1, b, hb => by
    obtain ⟨c, hc⟩ := at_lt (l := l) (k := i + 1 + k) (by have := (List.getElem?_eq_some_iff.1 hb).1; omega)
    have h1 := sym_mono h ha k c hc
    have h2 := pairI_le ((sym_at h hb).2 c (by omega) (by rw [show i + 1 + (k + 1) - 1 = i + 1 + k by omega]; exact hc))
    have h3 := sym_lt (sym_at h hc).1
    omega
theorem sym_one {l : List Sym} (h : SymsOk l) (v a : Int) : l.Pairwise fun x y => ¬ (symB v a x = true ∧ symB v a y = true) := by
  rw [List.pairwise_iff_getElem]
  intro i j hi hj hij ⟨h1, h2⟩
  obtain ⟨k, rfl⟩ : ∃ k, j = i + 1 + k := ⟨j - (i + 1), by omega⟩
  have hm := sym_mono h (List.getElem?_eq_getElem hi) k _ (List.getElem?_eq_getElem hj)
  rw [symB_iff] at h1 h2
  omega
theorem rn_fold (v a : Int) : ∀ (l : List Sym) (nm : Bs), (l.Pairwise fun x y => ¬ (symB v a x = true ∧ symB v a y = true)) → l.foldl (rnStep v a) nm = match l.find? (symB v a) with | some s => s.name | none => nm
  | [], _, _ => rfl
  | s :: r, nm, h => by
    obtain ⟨h1, h2⟩ := List.pairwise_cons.1 h
    rw [List.foldl_cons, rn_fold v a r _ h2, List.find?_cons]
    cases hs : symB v a s with
    | false =>
      have e : rnStep v a nm s = nm := by unfold rnStep; rw [hs, if_neg (by decide)]
      rw [e]
    | true =>
      have e : rnStep v a nm s = s.name := by unfold rnStep; rw [hs, if_pos rfl]
      have hn : r.find? (symB v a) = none := List.find?_eq_none.2 fun x hx hpx => h1 x hx ⟨hs, hpx⟩
      rw [e, hn]
theorem rnamed_eq {l : List Sym} (h : SymsOk l) (v a : Int) : rnamed l v a = namedV l v a := rn_fold v a l [63] (sym_one h v a)
set_option maxRecDepth 10000
set_option linter.unusedVariables false
attribute [local irreducible] Code.wpIn wpListIn Exit.then Exit.inBlock X.Out X.Back X.W X.Ev X.Con X.BinV X.Wh X.Wn X.Wq
set_option maxHeartbeats 1600000 in
theorem rPath_con (l : List Sym) (A : Option Addr) (c : Nat) (v : Int) (fr : List Int) (B : Option Addr) (d : Nat) (wt : Int) (S : SH) (hA : At S A l) (hl : l.length ≤ 1000000) (hB : At S B fr) (hf : fr.length ≤ 1000000) :
    Con Try.prog 20 #[.slice A l.length c, .agg #[.int .i64 v, .slice B fr.length d, .int .i64 wt]] S [] (fun S' L' r => S' = S ∧ Ows 9 r (toS (fr.map (rnamed l v))) L') := by
  refine con_of (args := [.slice A l.length c, .agg #[.int .i64 v, .slice B fr.length d, .int .i64 wt]]) Try.func20 rfl Try.ntmps20 rfl fun w => ?_
  (repeat (first | refine Jz ?_ | intro _))
  rename_i b3
  refine c_loop (fun m S' L F => S' = S ∧ ∃ (k : Nat) (v1 : Value) (ob : Blocks), m = fr.length - k ∧ k ≤ fr.length ∧ Ows 9 v1 (toS ((fr.take k).map (rnamed l v))) ob ∧
      L = ob ++ [(b3, .cells [.int .i64 v, .slice B fr.length d, .int .i64 wt].toArray 29 (0, 0))] ∧
      F = [(0, .slice A l.length c), (3, .pointer (some ⟨b3, 0, none⟩)), (5, v1), (6, .int .i64 k)]) ⟨rfl, 0, _, [], rfl, by omega, Ows.nil _, rfl, rfl⟩ sbF (List.Sublist.refl _) ?_
  rintro m S' L F ⟨rfl, k, v1, ob, rfl, hk, ho, rfl, rfl⟩
  by_cases hlt : k < fr.length
  rotate_left
  · rw [List.take_of_length_le (by omega)] at ho
    (repeat (first | refine Jz ?_ | intro _))
    exact o_ret (L' := ob) Try.results20 rfl (List.sublist_append_left _ _) ⟨rfl, ho⟩
  obtain ⟨a, ha⟩ := at_lt hlt
  (repeat (first | refine Jz ?_ | intro _))
  refine c_loop (fun m S2 L F => S2 = S' ∧ ∃ (j : Nat), m = l.length - j ∧ j ≤ l.length ∧
      L = ob ++ [(b3, .cells [.int .i64 v, .slice B fr.length d, .int .i64 wt].toArray 29 (0, 0))] ∧
      F = [(0, .slice A l.length c), (3, .pointer (some ⟨b3, 0, none⟩)), (5, v1), (6, .int .i64 k), (7, strV ((l.take j).foldl (rnStep v a) [63])), (8, .int .i64 j)]) ⟨rfl, 0, rfl, by omega, rfl, rfl⟩ sbF (List.Sublist.refl _) ?_
  rintro m S2 L F ⟨rfl, j, rfl, hj, rfl, rfl⟩
  by_cases hjl : j < l.length
  rotate_left
  · rw [List.take_of_length_le (by omega)]
    have hkl : (toS ((fr.take k).map (rnamed l v))).length = k := by rw [toS_len]; simp; omega
    have hsn : toS ((fr.take (k + 1)).map (rnamed l v)) = toS ((fr.take k).map (rnamed l v)) ++ [Str.mk (rnamed l v a)] := by rw [take_at ha]; simp [toS]
    obtain ⟨ls, hls⟩ : ∃ ls, ls = toS ((fr.take k).map (rnamed l v)) := ⟨_, rfl⟩
    rw [← hls] at ho hkl hsn
    have hnm : l.foldl (rnStep v a) [63] = (Str.mk (rnamed l v a)).b := rfl
    rw [hnm]
    (repeat (first | refine Jc ?_ | (apply s_append (ms := [Str.mk (rnamed l v a)]); (case hg => rfl); (case hd => rfl); (case hx => rfl); (case ho => exact ho); (case hL => (repeat (first | exact pm_nil _ | exact pm_refl _ _ | exact pm_self _ | apply pm_cons | apply pm_app))); (case hy => rfl); (case hm => rfl); (case hs => (apply Src.own; (repeat (first | exact List.Mem.head _ | apply List.Mem.tail | apply List.mem_append_right)))); (case hzs => rfl); (case h0 => decide); (case hb => (simp; omega)); (case h63 => (simp; omega)); intro v' ob' ho') | refine Jo ?_ | intro _))
    rw [← hsn] at ho'
    exact q_back (L' := ob' ++ [(b3, .cells [.int .i64 v, .slice B fr.length d, .int .i64 wt].toArray 29 (0, 0))]) (m' := fr.length - (k + 1)) ⟨rfl, k + 1, v', ob', rfl, by omega, ho', rfl, rfl⟩ (by omega) sbF sbL
  obtain ⟨s, hs⟩ := at_lt hjl
  have hfo : (l.take (j + 1)).foldl (rnStep v a) [63] = rnStep v a ((l.take j).foldl (rnStep v a) [63]) s := by rw [take_at hs, List.foldl_append]; rfl
  generalize (l.take j).foldl (rnStep v a) [63] = nm at hfo
  by_cases h1 : s.version = v
  · by_cases h2 : s.from_ ≤ a
    · by_cases h3 : a < s.to
      · have e : rnStep v a nm s = s.name := by unfold rnStep; rw [if_pos (symB_iff.2 ⟨h1, h2, h3⟩)]
        rw [e] at hfo
        (repeat (first | refine Jz ?_ | intro _))
        (repeat (first | (apply q_idx hA; (case hg => rfl); (case hd => rfl); (case hx => rfl); (case hi => rfl); (case hm => rfl); (case hu => exact hs); intro q (hq : Pts _ q [.int .i64 s.version, .int .i64 s.from_, .int .i64 s.to, strV s.name])) | (apply q_idx hB; (case hg => rfl); (case hd => rfl); (case hx => rfl); (case hi => rfl); (case hm => rfl); (case hu => exact ha); intro q2 (hq2 : Pts _ q2 [.int .i64 a])) | (apply q_ev; (case hg => rfl); (case hd => rfl); (case he => (apply ev_load_f; (case hx => rfl); (case h => exact hq); (case hv => rfl)))) | (apply q_ev; (case hg => rfl); (case hd => rfl); (case he => (apply ev_load1; (case hx => rfl); (case h => exact hq2)))) | refine Jd ?_))
        (repeat (first | refine Jc ?_ | (apply s_idx hA; (case hg => rfl); (case hd => rfl); (case hx => rfl); (case hi => rfl); (case hm => rfl); (case hu => exact hs); intro q3 (hq3 : Pts _ q3 [.int .i64 s.version, .int .i64 s.from_, .int .i64 s.to, strV s.name])) | (apply s_load_f; (case hg => rfl); (case hd => rfl); (case hx => rfl); (case h => exact hq3); (case hv => rfl)) | refine Jo ?_ | intro _))
        exact q_back (L' := ob ++ [(b3, .cells [.int .i64 v, .slice B fr.length d, .int .i64 wt].toArray 29 (0, 0))]) (m' := l.length - (j + 1)) ⟨rfl, j + 1, rfl, by omega, rfl, by rw [hfo]⟩ (by omega) sbF (List.Sublist.refl _)
      · have e : rnStep v a nm s = nm := by unfold rnStep; rw [if_neg fun h => h3 (symB_iff.1 h).2.2]
        rw [e] at hfo
        (repeat (first | refine Jz ?_ | intro _))
        (repeat (first | (apply q_idx hA; (case hg => rfl); (case hd => rfl); (case hx => rfl); (case hi => rfl); (case hm => rfl); (case hu => exact hs); intro q (hq : Pts _ q [.int .i64 s.version, .int .i64 s.from_, .int .i64 s.to, strV s.name])) | (apply q_idx hB; (case hg => rfl); (case hd => rfl); (case hx => rfl); (case hi => rfl); (case hm => rfl); (case hu => exact ha); intro q2 (hq2 : Pts _ q2 [.int .i64 a])) | (apply q_ev; (case hg => rfl); (case hd => rfl); (case he => (apply ev_load_f; (case hx => rfl); (case h => exact hq); (case hv => rfl)))) | (apply q_ev; (case hg => rfl); (case hd => rfl); (case he => (apply ev_load1; (case hx => rfl); (case h => exact hq2)))) | refine Jd ?_))
        (repeat (first | refine Jz ?_ | intro _))
        exact q_back (L' := ob ++ [(b3, .cells [.int .i64 v, .slice B fr.length d, .int .i64 wt].toArray 29 (0, 0))]) (m' := l.length - (j + 1)) ⟨rfl, j + 1, rfl, by omega, rfl, by rw [hfo]⟩ (by omega) sbF (List.Sublist.refl _)
    · have e : rnStep v a nm s = nm := by unfold rnStep; rw [if_neg fun h => h2 (symB_iff.1 h).2.1]
      rw [e] at hfo
      (repeat (first | refine Jz ?_ | intro _))
      (repeat (first | (apply q_idx hA; (case hg => rfl); (case hd => rfl); (case hx => rfl); (case hi => rfl); (case hm => rfl); (case hu => exact hs); intro q (hq : Pts _ q [.int .i64 s.version, .int .i64 s.from_, .int .i64 s.to, strV s.name])) | (apply q_idx hB; (case hg => rfl); (case hd => rfl); (case hx => rfl); (case hi => rfl); (case hm => rfl); (case hu => exact ha); intro q2 (hq2 : Pts _ q2 [.int .i64 a])) | (apply q_ev; (case hg => rfl); (case hd => rfl); (case he => (apply ev_load_f; (case hx => rfl); (case h => exact hq); (case hv => rfl)))) | (apply q_ev; (case hg => rfl); (case hd => rfl); (case he => (apply ev_load1; (case hx => rfl); (case h => exact hq2)))) | refine Jd ?_))
      (repeat (first | refine Jz ?_ | intro _))
      exact q_back (L' := ob ++ [(b3, .cells [.int .i64 v, .slice B fr.length d, .int .i64 wt].toArray 29 (0, 0))]) (m' := l.length - (j + 1)) ⟨rfl, j + 1, rfl, by omega, rfl, by rw [hfo]⟩ (by omega) sbF (List.Sublist.refl _)
  · have e : rnStep v a nm s = nm := by unfold rnStep; rw [if_neg fun h => h1 (symB_iff.1 h).1]
    rw [e] at hfo
    (repeat (first | refine Jz ?_ | intro _))
    (repeat (first | (apply q_idx hA; (case hg => rfl); (case hd => rfl); (case hx => rfl); (case hi => rfl); (case hm => rfl); (case hu => exact hs); intro q (hq : Pts _ q [.int .i64 s.version, .int .i64 s.from_, .int .i64 s.to, strV s.name])) | (apply q_idx hB; (case hg => rfl); (case hd => rfl); (case hx => rfl); (case hi => rfl); (case hm => rfl); (case hu => exact ha); intro q2 (hq2 : Pts _ q2 [.int .i64 a])) | (apply q_ev; (case hg => rfl); (case hd => rfl); (case he => (apply ev_load_f; (case hx => rfl); (case h => exact hq); (case hv => rfl)))) | (apply q_ev; (case hg => rfl); (case hd => rfl); (case he => (apply ev_load1; (case hx => rfl); (case h => exact hq2)))) | refine Jd ?_))
    (repeat (first | refine Jz ?_ | intro _))
    exact q_back (L' := ob ++ [(b3, .cells [.int .i64 v, .slice B fr.length d, .int .i64 wt].toArray 29 (0, 0))]) (m' := l.length - (j + 1)) ⟨rfl, j + 1, rfl, by omega, rfl, by rw [hfo]⟩ (by omega) sbF (List.Sublist.refl _)
end Go.Proofs.Ytcnfchchanlepaa
namespace Go.Proofs.Ytcnfchchanlepaa
open Go Go.X
/-- Rows of paths, each of them stable. -/
def prR (S : SH) (x : Sv) (p : List Bs) : Prop := x.m = (toS p).length ∧ (toS p).length ≤ x.c ∧ At S x.a (toS p)
def PthL (S : SH) (xs : List Sv) (ps : List (List Bs)) : Prop := xs.length = ps.length ∧ ∀ (i : Nat) (x : Sv) (p : List Bs), xs[i]? = some x → ps[i]? = some p → prR S x p
theorem prR.le {S T : SH} (h : Le S T) {x : Sv} {p : List Bs} (k : prR S x p) : prR T x p := ⟨k.1, k.2.1, k.2.2.le h⟩
theorem PthL.le {S T : SH} (h : Le S T) {xs : List Sv} {ps : List (List Bs)} (k : PthL S xs ps) : PthL T xs ps := ⟨k.1, fun i x p h1 h2 => (k.2 i x p h1 h2).le h⟩
theorem PthL.nil (S : SH) : PthL S [] [] := ⟨rfl, fun i x y h => by simp at h⟩
theorem PthL.snoc {S : SH} {xs : List Sv} {ys : List (List Bs)} {x : Sv} {y : List Bs} (h : PthL S xs ys) (k : prR S x y) : PthL S (xs ++ [x]) (ys ++ [y]) := by
  refine ⟨by rw [List.length_append, List.length_append, h.1]; rfl, fun i x' y' h1 h2 => ?_⟩
  by_cases hi : i < xs.length
  · rw [List.getElem?_append_left hi] at h1
    rw [List.getElem?_append_left (by rw [← h.1]; exact hi)] at h2
    exact h.2 i x' y' h1 h2
  · rw [List.getElem?_append_right (by omega)] at h1
    rw [List.getElem?_append_right (by rw [← h.1]; omega)] at h2
    rw [← h.1] at h2
    cases hj : i - xs.length with
    | zero =>
      rw [hj] at h1 h2
      simp only [List.getElem?_cons_zero, Option.some.injEq] at h1 h2
      subst h1; subst h2; exact k
    | succ j =>
      rw [hj] at h1
      simp at h1
theorem prR_nil (S : SH) : prR S ⟨none, 0, 0⟩ [] := ⟨rfl, Nat.le_refl _, At.nil _ _⟩
/-- The paths as the reference implementation reads them. -/
def rpN (i : Nat) (n : Nd) (ps : List (List Bs)) : Option (List (List Bs)) :=
  if i = 0 then (if n.parent ≠ -1 ∨ n.name ≠ [] then none else some (ps ++ [[]]))
  else if n.parent < 0 ∨ (i : Int) ≤ n.parent then none else some (ps ++ [ps.getD n.parent.toNat [] ++ [n.name]])
def rpA : List Nd → Nat → List (List Bs) → Option (List (List Bs))
  | [], _, ps => some ps
  | n :: r, i, ps => (rpN i n ps).bind fun q => rpA r (i + 1) q
def rpF (ns : List Nd) : Option (List (List Bs)) := rpA ns 0 []
theorem rpA_at {ns : List Nd} {k : Nat} {n : Nd} (h : ns[k]? = some n) (ps : List (List Bs)) : rpA (ns.drop k) k ps = (rpN k n ps).bind fun q => rpA (ns.drop (k + 1)) (k + 1) q := by
  obtain ⟨h1, rfl⟩ := List.getElem?_eq_some_iff.1 h
  rw [List.drop_eq_getElem_cons h1]; rfl
def PathsR (ns : List Nd) (S : SH) (r : Value) (L' : Blocks) : Prop :=
  rpF ns = none ∧ r = .tuple #[.slice none 0 0, .bool false] ∧ L' = [] ∨ ∃ ps v xs, rpF ns = some ps ∧ r = .tuple #[v, .bool true] ∧ Ows 48 v xs L' ∧ PthL S xs ps ∧ ps.length = ns.length
theorem svcell {xs : List Sv} {j : Nat} {x : Sv} (h : xs[j]? = some x) (tl : List Value) : (cellsOf xs ++ tl)[j]? = some (.slice x.a x.m x.c) := by
  have h2 := cellsOf_at xs j x h 0 (.slice x.a x.m x.c) rfl
  have h3 : (cellsOf xs)[j]? = some (.slice x.a x.m x.c) := by
    have e : j * Cl.size Sv + 0 = j := Nat.mul_one j
    rwa [e] at h2
  rw [List.getElem?_append_left (List.getElem?_eq_some_iff.1 h3).1]
  exact h3
set_option maxRecDepth 10000
set_option linter.unusedVariables false
attribute [local irreducible] Code.wpIn wpListIn Exit.then Exit.inBlock X.Out X.Back X.W X.Ev X.Con X.BinV X.Wh X.Wn X.Wq
set_option maxHeartbeats 3200000 in
theorem rPaths_con (ns : List Nd) (A : Option Addr) (c : Nat) (S : SH) (hA : At S A ns) (hl : ns.length ≤ 1000000) :
    Con Try.prog 19 #[.agg #[.slice A ns.length c]] S [] (fun S' L' r => Le S S' ∧ PathsR ns S' r L') := by
  refine con_of (args := [.agg #[.slice A ns.length c]]) Try.func19 rfl Try.ntmps19 rfl fun w => ?_
  (repeat (first | refine Jz ?_ | intro _))
  rename_i b1
  refine c_loop (fun m S' L F => Le S S' ∧ ∃ (k : Nat) (ps : List (List Bs)) (v : Value) (xs : List Sv) (ob : Blocks), m = ns.length - k ∧ k ≤ ns.length ∧ rpA (ns.drop k) k ps = rpF ns ∧ ps.length = k ∧ (∀ p ∈ ps, p.length ≤ k) ∧ Ows 48 v xs ob ∧ PthL S' xs ps ∧
      L = ob ++ [(b1, .cells [.slice A ns.length c].toArray 36 (0, 0))] ∧ F = [(1, .pointer (some ⟨b1, 0, none⟩)), (4, v), (5, .int .i64 k)]) ⟨Le.refl _, 0, [], _, [], [], rfl, by omega, rfl, rfl, (fun p h => absurd h List.not_mem_nil), Ows.nil _, PthL.nil _, rfl, rfl⟩ sbF (List.Sublist.refl _) ?_
  rintro m S1 L F ⟨hle1, k, ps, v, xs, ob, rfl, hk, hrp, hpl, hpk, ho, hpx, rfl, rfl⟩
  have hA1 := hA.le hle1
  by_cases hlt : k < ns.length
  rotate_left
  · have hfin : rpF ns = some ps := by rw [← hrp, List.drop_eq_nil_of_le (by omega)]; rfl
    (repeat (first | refine Jz ?_ | intro _))
    exact o_ret2 (L' := ob) Try.results19 rfl rfl sbL ⟨hle1, .inr ⟨ps, v, xs, hfin, rfl, ho, hpx, by omega⟩⟩
  obtain ⟨n, hx⟩ := at_lt hlt
  rw [rpA_at hx] at hrp
  have hxl := hpx.1
  obtain ⟨np, nn, no, nt⟩ := n
  by_cases hk0 : k = 0
  · subst hk0
    by_cases hp1 : np = -1
    rotate_left
    · have hno : rpF ns = none := by rw [← hrp]; unfold rpN; rw [if_pos rfl, if_pos (.inl hp1)]; rfl
      (repeat (first | refine Jc ?_ | (apply s_idx hA1; (case hg => rfl); (case hd => rfl); (case hx => rfl); (case hi => rfl); (case hm => rfl); (case hu => exact hx); intro q (hq : Pts _ q [.int .i64 np, strV nn, .int .i64 no, .int .i64 nt])) | (apply s_load_ag; (case hg => rfl); (case hd => rfl); (case hx => rfl); (case hv => exact hq); (case hl => rfl)) | refine Jo ?_ | intro _))
      exact o_ret2 (L' := []) Try.results19 rfl rfl (List.nil_sublist _) ⟨hle1, .inl ⟨hno, rfl, rfl⟩⟩
    cases h4 : nn != []
    rotate_left
    · have hno : rpF ns = none := by rw [← hrp]; unfold rpN; rw [if_pos rfl, if_pos (.inr (by simpa using h4))]; rfl
      (repeat (first | refine Jc ?_ | (apply s_idx hA1; (case hg => rfl); (case hd => rfl); (case hx => rfl); (case hi => rfl); (case hm => rfl); (case hu => exact hx); intro q (hq : Pts _ q [.int .i64 np, strV nn, .int .i64 no, .int .i64 nt])) | (apply s_load_ag; (case hg => rfl); (case hd => rfl); (case hx => rfl); (case hv => exact hq); (case hl => rfl)) | (apply s_evb; (case hg => rfl); (case hd => rfl); (case hn => rfl); (case he => ((apply ev_neq_bv (r := true) (b := []); (case hx => rfl); (case hy => rfl); (case h => exact h4))))) | refine Jo ?_ | intro _))
      exact o_ret2 (L' := []) Try.results19 rfl rfl (List.nil_sublist _) ⟨hle1, .inl ⟨hno, rfl, rfl⟩⟩
    have hn0 : nn = [] := by simpa using h4
    have hrp2 : rpA (ns.drop 1) 1 (ps ++ [[]]) = rpF ns := by rw [← hrp]; unfold rpN; rw [if_pos rfl, if_neg (by rintro (h | h); exact h hp1; exact h hn0)]; rfl
    (repeat (first | refine Jc ?_ | (apply s_idx hA1; (case hg => rfl); (case hd => rfl); (case hx => rfl); (case hi => rfl); (case hm => rfl); (case hu => exact hx); intro q (hq : Pts _ q [.int .i64 np, strV nn, .int .i64 no, .int .i64 nt])) | (apply s_load_ag; (case hg => rfl); (case hd => rfl); (case hx => rfl); (case hv => exact hq); (case hl => rfl)) | (apply s_evb; (case hg => rfl); (case hd => rfl); (case hn => rfl); (case he => ((apply ev_neq_bv (r := false) (b := []); (case hx => rfl); (case hy => rfl); (case h => exact h4))))) | (apply s_append (ms := [Sv.mk none 0 0]); (case hg => rfl); (case hd => rfl); (case hx => rfl); (case ho => exact ho); (case hL => (repeat (first | exact pm_nil _ | exact pm_refl _ _ | exact pm_self _ | apply pm_cons | apply pm_app))); (case hy => rfl); (case hm => rfl); (case hs => (apply Src.own; (repeat (first | exact List.Mem.head _ | apply List.Mem.tail | apply List.mem_append_right)))); (case hzs => rfl); (case h0 => decide); (case hb => (simp; omega)); (case h63 => (simp; omega)); intro v' ob' ho') | refine Jo ?_ | intro _))
    exact q_back (L' := ob' ++ [(b1, .cells [.slice A ns.length c].toArray 36 (0, 0))]) (m' := ns.length - (0 + 1)) ⟨hle1, 0 + 1, ps ++ [[]], v', _, ob', rfl, by omega, hrp2, by simp [hpl], (fun p hp => by
      rcases List.mem_append.1 hp with h | h
      · have := hpk p h; omega
      · simp at h; subst h; simp), ho', hpx.snoc (prR_nil _), rfl, rfl⟩ (by omega) sbF sbL
  by_cases hp0 : np < 0
  · have hno : rpF ns = none := by rw [← hrp]; unfold rpN; rw [if_neg hk0, if_pos (.inl hp0)]; rfl
    (repeat (first | refine Jc ?_ | (apply s_idx hA1; (case hg => rfl); (case hd => rfl); (case hx => rfl); (case hi => rfl); (case hm => rfl); (case hu => exact hx); intro q (hq : Pts _ q [.int .i64 np, strV nn, .int .i64 no, .int .i64 nt])) | (apply s_load_ag; (case hg => rfl); (case hd => rfl); (case hx => rfl); (case hv => exact hq); (case hl => rfl)) | refine Jo ?_ | intro _))
    exact o_ret2 (L' := []) Try.results19 rfl rfl (List.nil_sublist _) ⟨hle1, .inl ⟨hno, rfl, rfl⟩⟩
  by_cases hpk2 : (k : Int) ≤ np
  · have hno : rpF ns = none := by rw [← hrp]; unfold rpN; rw [if_neg hk0, if_pos (.inr hpk2)]; rfl
    (repeat (first | refine Jc ?_ | (apply s_idx hA1; (case hg => rfl); (case hd => rfl); (case hx => rfl); (case hi => rfl); (case hm => rfl); (case hu => exact hx); intro q (hq : Pts _ q [.int .i64 np, strV nn, .int .i64 no, .int .i64 nt])) | (apply s_load_ag; (case hg => rfl); (case hd => rfl); (case hx => rfl); (case hv => exact hq); (case hl => rfl)) | refine Jo ?_ | intro _))
    exact o_ret2 (L' := []) Try.results19 rfl rfl (List.nil_sublist _) ⟨hle1, .inl ⟨hno, rfl, rfl⟩⟩
  obtain ⟨j, rfl⟩ : ∃ j : Nat, np = (j : Int) := ⟨np.toNat, by omega⟩
  obtain ⟨p, hpj⟩ : ∃ p, ps[j]? = some p := at_lt (by omega)
  obtain ⟨x, hxj⟩ : ∃ x, xs[j]? = some x := at_lt (by omega)
  obtain ⟨r1, r2, r3⟩ := hpx.2 j x p hxj hpj
  have hplen := hpk p (List.mem_of_getElem? hpj)
  have hrp2 : rpA (ns.drop (k + 1)) (k + 1) (ps ++ [p ++ [nn]]) = rpF ns := by
    rw [← hrp]; unfold rpN
    rw [if_neg hk0, if_neg (show ¬ ((j : Int) < 0 ∨ (k : Int) ≤ (j : Int)) by omega)]
    simp only [Int.toNat_natCast, List.getD_eq_getElem?_getD, hpj]; rfl
  obtain ⟨g, cap, tl, rfl, rfl, u1, u2, u3⟩ := ho.rowed (by omega)
  have hcell := svcell hxj tl
  obtain ⟨xa, xm, xc⟩ := x
  simp only at r1 r2 r3 hcell
  subst r1
  have htl := toS_len p
  (repeat (first | refine Jc ?_ | (apply s_idx hA1; (case hg => rfl); (case hd => rfl); (case hx => rfl); (case hi => rfl); (case hm => rfl); (case hu => exact hx); intro q (hq : Pts _ q [.int .i64 (j : Int), strV nn, .int .i64 no, .int .i64 nt])) | (apply s_load_ag; (case hg => rfl); (case hd => rfl); (case hx => rfl); (case hv => exact hq); (case hl => rfl)) | refine Jo ?_ | intro _))
  rename_i b6
  have hrr : ∀ S8 A8 c8, ([] ++ toS p ++ [Str.mk nn]).length ≤ c8 → At S8 A8 ([] ++ toS p ++ [Str.mk nn]) → prR S8 ⟨A8, (toS p ++ [Str.mk nn]).length, c8⟩ (p ++ [nn]) := fun S8 A8 c8 h1 h2 => by
    have e : toS (p ++ [nn]) = toS p ++ [Str.mk nn] := by simp [toS]
    unfold prR
    rw [e]
    exact ⟨rfl, h1, h2⟩
  have hlen2 : ∀ q ∈ ps ++ [p ++ [nn]], q.length ≤ k + 1 := fun q hq => by
    rcases List.mem_append.1 hq with h | h
    · have := hpk q h; omega
    · simp only [List.mem_singleton] at h
      subst h; simp; omega
  ((apply c_held ([(b6, .cells [.int .i64 (j : Int), strV nn, .int .i64 no, .int .i64 nt].toArray 53 (0, 0))]); (case hL => (exact sbT))); refine Jf 0 ?_; refine Jf 2 ?_; refine Jf 3 ?_; refine Jf 4 ?_; (apply h_first 5; (case hi => rfl); (case hr => kernel_rfl); (case hfr => kernel_rfl); (case hsel => kernel_rfl); (case hg => rfl); (case hd => rfl); (case he => (apply ev_idxo1 (j := j); (case hx => rfl); (case hi => rfl); (case hk => omega)))); refine Jf 8 ?_; refine Jf 9 ?_; (apply h_three 1 6 10; (case hr => kernel_rfl)); (case k1 => ((refine X.Jn ?_; try intro _); (apply h_two 6 10; (case hr => kernel_rfl)); (case k1 => ((apply n_ev; (case hi => rfl); (case hg => rfl); (case hd => rfl); (case he => (apply ev_load_own; (case hx => rfl); (case hm => (repeat (first | exact List.Mem.head _ | apply List.Mem.tail | apply List.mem_append_right))); (case h => exact hcell)))); (apply h_two 7 10; (case hr => kernel_rfl)); (case k1 => ((apply n_append_st (ms := (toS p)) r3; (case hi => rfl); (case hT => infer_instance); (case hsz => infer_instance); (case hz => infer_instance); (case hby => infer_instance); (case hg => rfl); (case hd => rfl); (case hx => rfl); (case ho => exact Ows.full (α := Str) (l := []) rfl (by decide)); (case hL => (repeat (first | exact pm_nil _ | exact pm_refl _ _ | exact pm_self _ | apply pm_cons | apply pm_app))); (case hy => rfl); (case hm => first | rfl | simp); (case hzs => rfl); (case h0 => decide); (case hb => first | (simp; omega) | simp); (case h63 => first | (simp; omega) | simp); (case hsub => first | (intro _ _; exact List.nil_sublist _) | (intros; (exact sbT))); intro v7 ob7 ho7); (apply h_one 10; (case hr => kernel_rfl)); (refine X.Jn ?_; try intro _); (apply h_one 11; (case hr => kernel_rfl)); ((apply n_append (ms := [Str.mk nn]); (case hi => rfl); (case hT => infer_instance); (case hsz => infer_instance); (case hz => infer_instance); (case hby => infer_instance); (case hg => rfl); (case hd => rfl); (case hx => rfl); (case ho => exact ho7); (case hL => (repeat (first | exact pm_nil _ | exact pm_refl _ _ | exact pm_self _ | apply pm_cons | apply pm_app))); (case hy => rfl); (case hm => rfl); (case hs => (apply Src.own; (repeat (first | exact List.Mem.head _ | apply List.Mem.tail | apply List.mem_append_right)))); (case hzs => rfl); (case h0 => decide); (case hb => (simp; omega)); (case h63 => (simp; omega)); (case hsub => (intros; (exact sbT))); intro v8 ob8 ho8); refine Wh.freezeOws ho8 (List.Perm.refl _) sbL fun S8 hle8 hs8 => ?_; obtain ⟨A8, c8, rfl, hc8, hA8⟩ := hs8); (apply h_one 12; (case hr => kernel_rfl)); (refine X.Jn ?_; try intro _); (apply h_one 13; (case hr => kernel_rfl)); (apply n_append (ms := [Sv.mk A8 (toS p ++ [Str.mk nn]).length c8]); (case hi => rfl); (case hT => infer_instance); (case hsz => infer_instance); (case hz => infer_instance); (case hby => infer_instance); (case hg => rfl); (case hd => rfl); (case hx => rfl); (case ho => exact ho); (case hL => (repeat (first | exact pm_nil _ | exact pm_refl _ _ | exact pm_self _ | apply pm_cons | apply pm_app))); (case hy => rfl); (case hm => rfl); (case hs => (apply Src.own; (repeat (first | exact List.Mem.head _ | apply List.Mem.tail | apply List.mem_append_right)))); (case hzs => rfl); (case h0 => decide); (case hb => (simp; omega)); (case h63 => (simp; omega)); (case hsub => (intros; (exact sbT))); intro v9 ob9 ho9); refine Jf 14 ?_; (apply h_end; (case hr => kernel_rfl)); ((((repeat (first | refine Jz ?_ | intro _))); exact q_back (L' := ob9 ++ [(b1, .cells [.slice A ns.length c].toArray 36 (0, 0))]) (m' := ns.length - (k + 1)) ⟨hle1.trans hle8, k + 1, ps ++ [p ++ [nn]], _, _, ob9, rfl, by omega, hrp2, by simp [hpl], hlen2, ho9, (hpx.le hle8).snoc (hrr _ _ _ hc8 hA8), rfl, rfl⟩ (by omega) sbF sbL)))); (case k2 => ((refine X.Jn ?_; try intro _); (apply h_one 7; (case hr => kernel_rfl)); (apply n_append_st (ms := (toS p)) r3; (case hi => rfl); (case hT => infer_instance); (case hsz => infer_instance); (case hz => infer_instance); (case hby => infer_instance); (case hg => rfl); (case hd => rfl); (case hx => rfl); (case ho => exact Ows.full (α := Str) (l := []) rfl (by decide)); (case hL => (repeat (first | exact pm_nil _ | exact pm_refl _ _ | exact pm_self _ | apply pm_cons | apply pm_app))); (case hy => rfl); (case hm => first | rfl | simp); (case hzs => rfl); (case h0 => decide); (case hb => first | (simp; omega) | simp); (case h63 => first | (simp; omega) | simp); (case hsub => first | (intro _ _; exact List.nil_sublist _) | (intros; (exact sbT))); intro v7 ob7 ho7); (apply h_one 11; (case hr => kernel_rfl)); ((apply n_append (ms := [Str.mk nn]); (case hi => rfl); (case hT => infer_instance); (case hsz => infer_instance); (case hz => infer_instance); (case hby => infer_instance); (case hg => rfl); (case hd => rfl); (case hx => rfl); (case ho => exact ho7); (case hL => (repeat (first | exact pm_nil _ | exact pm_refl _ _ | exact pm_self _ | apply pm_cons | apply pm_app))); (case hy => rfl); (case hm => rfl); (case hs => (apply Src.own; (repeat (first | exact List.Mem.head _ | apply List.Mem.tail | apply List.mem_append_right)))); (case hzs => rfl); (case h0 => decide); (case hb => (simp; omega)); (case h63 => (simp; omega)); (case hsub => (intros; (exact sbT))); intro v8 ob8 ho8); refine Wh.freezeOws ho8 (List.Perm.refl _) sbL fun S8 hle8 hs8 => ?_; obtain ⟨A8, c8, rfl, hc8, hA8⟩ := hs8); (apply h_one 12; (case hr => kernel_rfl)); (refine X.Jn ?_; try intro _); (apply h_one 13; (case hr => kernel_rfl)); (apply n_append (ms := [Sv.mk A8 (toS p ++ [Str.mk nn]).length c8]); (case hi => rfl); (case hT => infer_instance); (case hsz => infer_instance); (case hz => infer_instance); (case hby => infer_instance); (case hg => rfl); (case hd => rfl); (case hx => rfl); (case ho => exact ho); (case hL => (repeat (first | exact pm_nil _ | exact pm_refl _ _ | exact pm_self _ | apply pm_cons | apply pm_app))); (case hy => rfl); (case hm => rfl); (case hs => (apply Src.own; (repeat (first | exact List.Mem.head _ | apply List.Mem.tail | apply List.mem_append_right)))); (case hzs => rfl); (case h0 => decide); (case hb => (simp; omega)); (case h63 => (simp; omega)); (case hsub => (intros; (exact sbT))); intro v9 ob9 ho9); refine Jf 14 ?_; (apply h_end; (case hr => kernel_rfl)); ((((repeat (first | refine Jz ?_ | intro _))); exact q_back (L' := ob9 ++ [(b1, .cells [.slice A ns.length c].toArray 36 (0, 0))]) (m' := ns.length - (k + 1)) ⟨hle1.trans hle8, k + 1, ps ++ [p ++ [nn]], _, _, ob9, rfl, by omega, hrp2, by simp [hpl], hlen2, ho9, (hpx.le hle8).snoc (hrr _ _ _ hc8 hA8), rfl, rfl⟩ (by omega) sbF sbL)))))); (case k2 => ((refine X.Jn ?_; try intro _); (apply h_one 6; (case hr => kernel_rfl)); (apply n_ev; (case hi => rfl); (case hg => rfl); (case hd => rfl); (case he => (apply ev_load_own; (case hx => rfl); (case hm => (repeat (first | exact List.Mem.head _ | apply List.Mem.tail | apply List.mem_append_right))); (case h => exact hcell)))); (apply h_one 7; (case hr => kernel_rfl)); (apply n_append_st (ms := (toS p)) r3; (case hi => rfl); (case hT => infer_instance); (case hsz => infer_instance); (case hz => infer_instance); (case hby => infer_instance); (case hg => rfl); (case hd => rfl); (case hx => rfl); (case ho => exact Ows.full (α := Str) (l := []) rfl (by decide)); (case hL => (repeat (first | exact pm_nil _ | exact pm_refl _ _ | exact pm_self _ | apply pm_cons | apply pm_app))); (case hy => rfl); (case hm => first | rfl | simp); (case hzs => rfl); (case h0 => decide); (case hb => first | (simp; omega) | simp); (case h63 => first | (simp; omega) | simp); (case hsub => first | (intro _ _; exact List.nil_sublist _) | (intros; (exact sbT))); intro v7 ob7 ho7); (apply h_one 11; (case hr => kernel_rfl)); ((apply n_append (ms := [Str.mk nn]); (case hi => rfl); (case hT => infer_instance); (case hsz => infer_instance); (case hz => infer_instance); (case hby => infer_instance); (case hg => rfl); (case hd => rfl); (case hx => rfl); (case ho => exact ho7); (case hL => (repeat (first | exact pm_nil _ | exact pm_refl _ _ | exact pm_self _ | apply pm_cons | apply pm_app))); (case hy => rfl); (case hm => rfl); (case hs => (apply Src.own; (repeat (first | exact List.Mem.head _ | apply List.Mem.tail | apply List.mem_append_right)))); (case hzs => rfl); (case h0 => decide); (case hb => (simp; omega)); (case h63 => (simp; omega)); (case hsub => (intros; (exact sbT))); intro v8 ob8 ho8); refine Wh.freezeOws ho8 (List.Perm.refl _) sbL fun S8 hle8 hs8 => ?_; obtain ⟨A8, c8, rfl, hc8, hA8⟩ := hs8); (apply h_one 12; (case hr => kernel_rfl)); (refine X.Jn ?_; try intro _); (apply h_one 13; (case hr => kernel_rfl)); (apply n_append (ms := [Sv.mk A8 (toS p ++ [Str.mk nn]).length c8]); (case hi => rfl); (case hT => infer_instance); (case hsz => infer_instance); (case hz => infer_instance); (case hby => infer_instance); (case hg => rfl); (case hd => rfl); (case hx => rfl); (case ho => exact ho); (case hL => (repeat (first | exact pm_nil _ | exact pm_refl _ _ | exact pm_self _ | apply pm_cons | apply pm_app))); (case hy => rfl); (case hm => rfl); (case hs => (apply Src.own; (repeat (first | exact List.Mem.head _ | apply List.Mem.tail | apply List.mem_append_right)))); (case hzs => rfl); (case h0 => decide); (case hb => (simp; omega)); (case h63 => (simp; omega)); (case hsub => (intros; (exact sbT))); intro v9 ob9 ho9); refine Jf 14 ?_; (apply h_end; (case hr => kernel_rfl)); ((((repeat (first | refine Jz ?_ | intro _))); exact q_back (L' := ob9 ++ [(b1, .cells [.slice A ns.length c].toArray 36 (0, 0))]) (m' := ns.length - (k + 1)) ⟨hle1.trans hle8, k + 1, ps ++ [p ++ [nn]], _, _, ob9, rfl, by omega, hrp2, by simp [hpl], hlen2, ho9, (hpx.le hle8).snoc (hrr _ _ _ hc8 hA8), rfl, rfl⟩ (by omega) sbF sbL)))))); (case k2 => ((apply n_ev; (case hi => rfl); (case hg => rfl); (case hd => rfl); (case he => (apply ev_load_own; (case hx => rfl); (case hm => (repeat (first | exact List.Mem.head _ | apply List.Mem.tail | apply List.mem_append_right))); (case h => exact hcell)))); (apply h_two 1 10; (case hr => kernel_rfl)); (case k1 => ((refine X.Jn ?_; try intro _); (apply h_two 7 10; (case hr => kernel_rfl)); (case k1 => ((apply n_append_st (ms := (toS p)) r3; (case hi => rfl); (case hT => infer_instance); (case hsz => infer_instance); (case hz => infer_instance); (case hby => infer_instance); (case hg => rfl); (case hd => rfl); (case hx => rfl); (case ho => exact Ows.full (α := Str) (l := []) rfl (by decide)); (case hL => (repeat (first | exact pm_nil _ | exact pm_refl _ _ | exact pm_self _ | apply pm_cons | apply pm_app))); (case hy => rfl); (case hm => first | rfl | simp); (case hzs => rfl); (case h0 => decide); (case hb => first | (simp; omega) | simp); (case h63 => first | (simp; omega) | simp); (case hsub => first | (intro _ _; exact List.nil_sublist _) | (intros; (exact sbT))); intro v7 ob7 ho7); (apply h_one 10; (case hr => kernel_rfl)); (refine X.Jn ?_; try intro _); (apply h_one 11; (case hr => kernel_rfl)); ((apply n_append (ms := [Str.mk nn]); (case hi => rfl); (case hT => infer_instance); (case hsz => infer_instance); (case hz => infer_instance); (case hby => infer_instance); (case hg => rfl); (case hd => rfl); (case hx => rfl); (case ho => exact ho7); (case hL => (repeat (first | exact pm_nil _ | exact pm_refl _ _ | exact pm_self _ | apply pm_cons | apply pm_app))); (case hy => rfl); (case hm => rfl); (case hs => (apply Src.own; (repeat (first | exact List.Mem.head _ | apply List.Mem.tail | apply List.mem_append_right)))); (case hzs => rfl); (case h0 => decide); (case hb => (simp; omega)); (case h63 => (simp; omega)); (case hsub => (intros; (exact sbT))); intro v8 ob8 ho8); refine Wh.freezeOws ho8 (List.Perm.refl _) sbL fun S8 hle8 hs8 => ?_; obtain ⟨A8, c8, rfl, hc8, hA8⟩ := hs8); (apply h_one 12; (case hr => kernel_rfl)); (refine X.Jn ?_; try intro _); (apply h_one 13; (case hr => kernel_rfl)); (apply n_append (ms := [Sv.mk A8 (toS p ++ [Str.mk nn]).length c8]); (case hi => rfl); (case hT => infer_instance); (case hsz => infer_instance); (case hz => infer_instance); (case hby => infer_instance); (case hg => rfl); (case hd => rfl); (case hx => rfl); (case ho => exact ho); (case hL => (repeat (first | exact pm_nil _ | exact pm_refl _ _ | exact pm_self _ | apply pm_cons | apply pm_app))); (case hy => rfl); (case hm => rfl); (case hs => (apply Src.own; (repeat (first | exact List.Mem.head _ | apply List.Mem.tail | apply List.mem_append_right)))); (case hzs => rfl); (case h0 => decide); (case hb => (simp; omega)); (case h63 => (simp; omega)); (case hsub => (intros; (exact sbT))); intro v9 ob9 ho9); refine Jf 14 ?_; (apply h_end; (case hr => kernel_rfl)); ((((repeat (first | refine Jz ?_ | intro _))); exact q_back (L' := ob9 ++ [(b1, .cells [.slice A ns.length c].toArray 36 (0, 0))]) (m' := ns.length - (k + 1)) ⟨hle1.trans hle8, k + 1, ps ++ [p ++ [nn]], _, _, ob9, rfl, by omega, hrp2, by simp [hpl], hlen2, ho9, (hpx.le hle8).snoc (hrr _ _ _ hc8 hA8), rfl, rfl⟩ (by omega) sbF sbL)))); (case k2 => ((refine X.Jn ?_; try intro _); (apply h_one 7; (case hr => kernel_rfl)); (apply n_append_st (ms := (toS p)) r3; (case hi => rfl); (case hT => infer_instance); (case hsz => infer_instance); (case hz => infer_instance); (case hby => infer_instance); (case hg => rfl); (case hd => rfl); (case hx => rfl); (case ho => exact Ows.full (α := Str) (l := []) rfl (by decide)); (case hL => (repeat (first | exact pm_nil _ | exact pm_refl _ _ | exact pm_self _ | apply pm_cons | apply pm_app))); (case hy => rfl); (case hm => first | rfl | simp); (case hzs => rfl); (case h0 => decide); (case hb => first | (simp; omega) | simp); (case h63 => first | (simp; omega) | simp); (case hsub => first | (intro _ _; exact List.nil_sublist _) | (intros; (exact sbT))); intro v7 ob7 ho7); (apply h_one 11; (case hr => kernel_rfl)); ((apply n_append (ms := [Str.mk nn]); (case hi => rfl); (case hT => infer_instance); (case hsz => infer_instance); (case hz => infer_instance); (case hby => infer_instance); (case hg => rfl); (case hd => rfl); (case hx => rfl); (case ho => exact ho7); (case hL => (repeat (first | exact pm_nil _ | exact pm_refl _ _ | exact pm_self _ | apply pm_cons | apply pm_app))); (case hy => rfl); (case hm => rfl); (case hs => (apply Src.own; (repeat (first | exact List.Mem.head _ | apply List.Mem.tail | apply List.mem_append_right)))); (case hzs => rfl); (case h0 => decide); (case hb => (simp; omega)); (case h63 => (simp; omega)); (case hsub => (intros; (exact sbT))); intro v8 ob8 ho8); refine Wh.freezeOws ho8 (List.Perm.refl _) sbL fun S8 hle8 hs8 => ?_; obtain ⟨A8, c8, rfl, hc8, hA8⟩ := hs8); (apply h_one 12; (case hr => kernel_rfl)); (refine X.Jn ?_; try intro _); (apply h_one 13; (case hr => kernel_rfl)); (apply n_append (ms := [Sv.mk A8 (toS p ++ [Str.mk nn]).length c8]); (case hi => rfl); (case hT => infer_instance); (case hsz => infer_instance); (case hz => infer_instance); (case hby => infer_instance); (case hg => rfl); (case hd => rfl); (case hx => rfl); (case ho => exact ho); (case hL => (repeat (first | exact pm_nil _ | exact pm_refl _ _ | exact pm_self _ | apply pm_cons | apply pm_app))); (case hy => rfl); (case hm => rfl); (case hs => (apply Src.own; (repeat (first | exact List.Mem.head _ | apply List.Mem.tail | apply List.mem_append_right)))); (case hzs => rfl); (case h0 => decide); (case hb => (simp; omega)); (case h63 => (simp; omega)); (case hsub => (intros; (exact sbT))); intro v9 ob9 ho9); refine Jf 14 ?_; (apply h_end; (case hr => kernel_rfl)); ((((repeat (first | refine Jz ?_ | intro _))); exact q_back (L' := ob9 ++ [(b1, .cells [.slice A ns.length c].toArray 36 (0, 0))]) (m' := ns.length - (k + 1)) ⟨hle1.trans hle8, k + 1, ps ++ [p ++ [nn]], _, _, ob9, rfl, by omega, hrp2, by simp [hpl], hlen2, ho9, (hpx.le hle8).snoc (hrr _ _ _ hc8 hA8), rfl, rfl⟩ (by omega) sbF sbL)))))); (case k2 => ((refine X.Jn ?_; try intro _); (apply h_one 1; (case hr => kernel_rfl)); (refine X.Jn ?_; try intro _); (apply h_one 7; (case hr => kernel_rfl)); (apply n_append_st (ms := (toS p)) r3; (case hi => rfl); (case hT => infer_instance); (case hsz => infer_instance); (case hz => infer_instance); (case hby => infer_instance); (case hg => rfl); (case hd => rfl); (case hx => rfl); (case ho => exact Ows.full (α := Str) (l := []) rfl (by decide)); (case hL => (repeat (first | exact pm_nil _ | exact pm_refl _ _ | exact pm_self _ | apply pm_cons | apply pm_app))); (case hy => rfl); (case hm => first | rfl | simp); (case hzs => rfl); (case h0 => decide); (case hb => first | (simp; omega) | simp); (case h63 => first | (simp; omega) | simp); (case hsub => first | (intro _ _; exact List.nil_sublist _) | (intros; (exact sbT))); intro v7 ob7 ho7); (apply h_one 11; (case hr => kernel_rfl)); ((apply n_append (ms := [Str.mk nn]); (case hi => rfl); (case hT => infer_instance); (case hsz => infer_instance); (case hz => infer_instance); (case hby => infer_instance); (case hg => rfl); (case hd => rfl); (case hx => rfl); (case ho => exact ho7); (case hL => (repeat (first | exact pm_nil _ | exact pm_refl _ _ | exact pm_self _ | apply pm_cons | apply pm_app))); (case hy => rfl); (case hm => rfl); (case hs => (apply Src.own; (repeat (first | exact List.Mem.head _ | apply List.Mem.tail | apply List.mem_append_right)))); (case hzs => rfl); (case h0 => decide); (case hb => (simp; omega)); (case h63 => (simp; omega)); (case hsub => (intros; (exact sbT))); intro v8 ob8 ho8); refine Wh.freezeOws ho8 (List.Perm.refl _) sbL fun S8 hle8 hs8 => ?_; obtain ⟨A8, c8, rfl, hc8, hA8⟩ := hs8); (apply h_one 12; (case hr => kernel_rfl)); (refine X.Jn ?_; try intro _); (apply h_one 13; (case hr => kernel_rfl)); (apply n_append (ms := [Sv.mk A8 (toS p ++ [Str.mk nn]).length c8]); (case hi => rfl); (case hT => infer_instance); (case hsz => infer_instance); (case hz => infer_instance); (case hby => infer_instance); (case hg => rfl); (case hd => rfl); (case hx => rfl); (case ho => exact ho); (case hL => (repeat (first | exact pm_nil _ | exact pm_refl _ _ | exact pm_self _ | apply pm_cons | apply pm_app))); (case hy => rfl); (case hm => rfl); (case hs => (apply Src.own; (repeat (first | exact List.Mem.head _ | apply List.Mem.tail | apply List.mem_append_right)))); (case hzs => rfl); (case h0 => decide); (case hb => (simp; omega)); (case h63 => (simp; omega)); (case hsub => (intros; (exact sbT))); intro v9 ob9 ho9); refine Jf 14 ?_; (apply h_end; (case hr => kernel_rfl)); ((((repeat (first | refine Jz ?_ | intro _))); exact q_back (L' := ob9 ++ [(b1, .cells [.slice A ns.length c].toArray 36 (0, 0))]) (m' := ns.length - (k + 1)) ⟨hle1.trans hle8, k + 1, ps ++ [p ++ [nn]], _, _, ob9, rfl, by omega, hrp2, by simp [hpl], hlen2, ho9, (hpx.le hle8).snoc (hrr _ _ _ hc8 hA8), rfl, rfl⟩ (by omega) sbF sbL)))))); (case k3 => ((refine X.Jn ?_; try intro _); (apply h_two 1 6; (case hr => kernel_rfl)); (case k1 => ((refine X.Jn ?_; try intro _); (apply h_one 6; (case hr => kernel_rfl)); (apply n_ev; (case hi => rfl); (case hg => rfl); (case hd => rfl); (case he => (apply ev_load_own; (case hx => rfl); (case hm => (repeat (first | exact List.Mem.head _ | apply List.Mem.tail | apply List.mem_append_right))); (case h => exact hcell)))); (apply h_one 7; (case hr => kernel_rfl)); (apply n_append_st (ms := (toS p)) r3; (case hi => rfl); (case hT => infer_instance); (case hsz => infer_instance); (case hz => infer_instance); (case hby => infer_instance); (case hg => rfl); (case hd => rfl); (case hx => rfl); (case ho => exact Ows.full (α := Str) (l := []) rfl (by decide)); (case hL => (repeat (first | exact pm_nil _ | exact pm_refl _ _ | exact pm_self _ | apply pm_cons | apply pm_app))); (case hy => rfl); (case hm => first | rfl | simp); (case hzs => rfl); (case h0 => decide); (case hb => first | (simp; omega) | simp); (case h63 => first | (simp; omega) | simp); (case hsub => first | (intro _ _; exact List.nil_sublist _) | (intros; (exact sbT))); intro v7 ob7 ho7); (apply h_one 11; (case hr => kernel_rfl)); ((apply n_append (ms := [Str.mk nn]); (case hi => rfl); (case hT => infer_instance); (case hsz => infer_instance); (case hz => infer_instance); (case hby => infer_instance); (case hg => rfl); (case hd => rfl); (case hx => rfl); (case ho => exact ho7); (case hL => (repeat (first | exact pm_nil _ | exact pm_refl _ _ | exact pm_self _ | apply pm_cons | apply pm_app))); (case hy => rfl); (case hm => rfl); (case hs => (apply Src.own; (repeat (first | exact List.Mem.head _ | apply List.Mem.tail | apply List.mem_append_right)))); (case hzs => rfl); (case h0 => decide); (case hb => (simp; omega)); (case h63 => (simp; omega)); (case hsub => (intros; (exact sbT))); intro v8 ob8 ho8); refine Wh.freezeOws ho8 (List.Perm.refl _) sbL fun S8 hle8 hs8 => ?_; obtain ⟨A8, c8, rfl, hc8, hA8⟩ := hs8); (apply h_one 12; (case hr => kernel_rfl)); (refine X.Jn ?_; try intro _); (apply h_one 13; (case hr => kernel_rfl)); (apply n_append (ms := [Sv.mk A8 (toS p ++ [Str.mk nn]).length c8]); (case hi => rfl); (case hT => infer_instance); (case hsz => infer_instance); (case hz => infer_instance); (case hby => infer_instance); (case hg => rfl); (case hd => rfl); (case hx => rfl); (case ho => exact ho); (case hL => (repeat (first | exact pm_nil _ | exact pm_refl _ _ | exact pm_self _ | apply pm_cons | apply pm_app))); (case hy => rfl); (case hm => rfl); (case hs => (apply Src.own; (repeat (first | exact List.Mem.head _ | apply List.Mem.tail | apply List.mem_append_right)))); (case hzs => rfl); (case h0 => decide); (case hb => (simp; omega)); (case h63 => (simp; omega)); (case hsub => (intros; (exact sbT))); intro v9 ob9 ho9); refine Jf 14 ?_; (apply h_end; (case hr => kernel_rfl)); ((((repeat (first | refine Jz ?_ | intro _))); exact q_back (L' := ob9 ++ [(b1, .cells [.slice A ns.length c].toArray 36 (0, 0))]) (m' := ns.length - (k + 1)) ⟨hle1.trans hle8, k + 1, ps ++ [p ++ [nn]], _, _, ob9, rfl, by omega, hrp2, by simp [hpl], hlen2, ho9, (hpx.le hle8).snoc (hrr _ _ _ hc8 hA8), rfl, rfl⟩ (by omega) sbF sbL)))); (case k2 => ((apply n_ev; (case hi => rfl); (case hg => rfl); (case hd => rfl); (case he => (apply ev_load_own; (case hx => rfl); (case hm => (repeat (first | exact List.Mem.head _ | apply List.Mem.tail | apply List.mem_append_right))); (case h => exact hcell)))); (apply h_one 1; (case hr => kernel_rfl)); (refine X.Jn ?_; try intro _); (apply h_one 7; (case hr => kernel_rfl)); (apply n_append_st (ms := (toS p)) r3; (case hi => rfl); (case hT => infer_instance); (case hsz => infer_instance); (case hz => infer_instance); (case hby => infer_instance); (case hg => rfl); (case hd => rfl); (case hx => rfl); (case ho => exact Ows.full (α := Str) (l := []) rfl (by decide)); (case hL => (repeat (first | exact pm_nil _ | exact pm_refl _ _ | exact pm_self _ | apply pm_cons | apply pm_app))); (case hy => rfl); (case hm => first | rfl | simp); (case hzs => rfl); (case h0 => decide); (case hb => first | (simp; omega) | simp); (case h63 => first | (simp; omega) | simp); (case hsub => first | (intro _ _; exact List.nil_sublist _) | (intros; (exact sbT))); intro v7 ob7 ho7); (apply h_one 11; (case hr => kernel_rfl)); ((apply n_append (ms := [Str.mk nn]); (case hi => rfl); (case hT => infer_instance); (case hsz => infer_instance); (case hz => infer_instance); (case hby => infer_instance); (case hg => rfl); (case hd => rfl); (case hx => rfl); (case ho => exact ho7); (case hL => (repeat (first | exact pm_nil _ | exact pm_refl _ _ | exact pm_self _ | apply pm_cons | apply pm_app))); (case hy => rfl); (case hm => rfl); (case hs => (apply Src.own; (repeat (first | exact List.Mem.head _ | apply List.Mem.tail | apply List.mem_append_right)))); (case hzs => rfl); (case h0 => decide); (case hb => (simp; omega)); (case h63 => (simp; omega)); (case hsub => (intros; (exact sbT))); intro v8 ob8 ho8); refine Wh.freezeOws ho8 (List.Perm.refl _) sbL fun S8 hle8 hs8 => ?_; obtain ⟨A8, c8, rfl, hc8, hA8⟩ := hs8); (apply h_one 12; (case hr => kernel_rfl)); (refine X.Jn ?_; try intro _); (apply h_one 13; (case hr => kernel_rfl)); (apply n_append (ms := [Sv.mk A8 (toS p ++ [Str.mk nn]).length c8]); (case hi => rfl); (case hT => infer_instance); (case hsz => infer_instance); (case hz => infer_instance); (case hby => infer_instance); (case hg => rfl); (case hd => rfl); (case hx => rfl); (case ho => exact ho); (case hL => (repeat (first | exact pm_nil _ | exact pm_refl _ _ | exact pm_self _ | apply pm_cons | apply pm_app))); (case hy => rfl); (case hm => rfl); (case hs => (apply Src.own; (repeat (first | exact List.Mem.head _ | apply List.Mem.tail | apply List.mem_append_right)))); (case hzs => rfl); (case h0 => decide); (case hb => (simp; omega)); (case h63 => (simp; omega)); (case hsub => (intros; (exact sbT))); intro v9 ob9 ho9); refine Jf 14 ?_; (apply h_end; (case hr => kernel_rfl)); ((((repeat (first | refine Jz ?_ | intro _))); exact q_back (L' := ob9 ++ [(b1, .cells [.slice A ns.length c].toArray 36 (0, 0))]) (m' := ns.length - (k + 1)) ⟨hle1.trans hle8, k + 1, ps ++ [p ++ [nn]], _, _, ob9, rfl, by omega, hrp2, by simp [hpl], hlen2, ho9, (hpx.le hle8).snoc (hrr _ _ _ hc8 hA8), rfl, rfl⟩ (by omega) sbF sbL)))))))
end Go.Proofs.Ytcnfchchanlepaa
namespace Go.Proofs.Ytcnfchchanlepaa
open Go Go.X
set_option linter.unusedVariables false
section
variable {w : List Bs → Int} {L : List (List Bs)}
theorem rp_step (h : GT w L) {k : Nat} {p : List Bs} (hp : L[k]? = some p) : rpN k (nodeC w L p) (L.take k) = some (L.take (k + 1)) := by
  have hpm := List.mem_of_getElem? hp
  unfold rpN
  by_cases hk0 : k = 0
  · subst hk0
    have e : p = [] := Option.some.inj (hp.symm.trans h.can.head)
    subst e
    rw [if_pos rfl, if_neg (by rintro (h | h); exact h rfl; exact h rfl), take_at hp]
  have hne : p ≠ [] := fun e => by
    have := srt_lt h.can.srt h.can.head hp (by omega)
    rw [e] at this
    exact plt_irr _ this
  have hdm : p.dropLast ∈ L := h.can.closed p hpm _ (List.dropLast_prefix _)
  have hpar : (nodeC w L p).parent = ((L.idxOf p.dropLast : Nat) : Int) := if_neg hne
  have hname : (nodeC w L p).name = nameOf p := rfl
  obtain ⟨j, hj⟩ : ∃ j, L.idxOf p.dropLast = j := ⟨_, rfl⟩
  have hjl : j < L.length := by rw [← hj]; exact List.idxOf_lt_length_iff.2 hdm
  have hjp : L[j]? = some p.dropLast := by
    subst hj
    rw [List.getElem?_eq_getElem hjl, List.getElem_idxOf]
  have hjk : j < k := srt_idx h.can.srt hjp hp (drop_lt hne)
  have hjt : (L.take k)[j]? = some p.dropLast := by rw [List.getElem?_take_of_lt hjk]; exact hjp
  have hpd : (L.take k).getD j [] = p.dropLast := by rw [List.getD_eq_getElem?_getD, hjt]; rfl
  rw [if_neg hk0, hpar, hname, hj, if_neg (by omega), Int.toNat_natCast, hpd, name_cat hne, take_at hp]
theorem rp_all (h : GT w L) : ∀ (m k : Nat), k + m = L.length → rpA ((nodesC w L).drop k) k (L.take k) = some L
  | 0, k, hk => by
    rw [List.drop_eq_nil_of_le (by rw [nodesC_len]; omega), rpA, List.take_of_length_le (by omega)]
  | m + 1, k, hk => by
    obtain ⟨p, hp⟩ : ∃ p, L[k]? = some p := at_lt (by omega)
    have hn : (nodesC w L)[k]? = some (nodeC w L p) := by unfold nodesC; rw [List.getElem?_map, hp]; rfl
    rw [rpA_at hn, rp_step h hp]
    exact rp_all h m (k + 1) (by omega)
theorem rp_C (h : GT w L) : rpF (nodesC w L) = some L := rp_all h L.length 0 (by omega)
theorem nodesC_at {k : Nat} {p : List Bs} (hp : L[k]? = some p) : (nodesC w L)[k]? = some (nodeC w L p) := by unfold nodesC; rw [List.getElem?_map, hp]; rfl
end
/-- What stacks weigh below a path, and at it. -/
def totS (l : List Sym) (ys : List Sk) (q : List Bs) : Int := (ys.map fun y => if q <+: pathOf l y then y.weight else 0).sum
def ownS (l : List Sym) (ys : List Sk) (q : List Bs) : Int := (ys.map fun y => if pathOf l y = q then y.weight else 0).sum
section
variable {l : List Sym}
theorem ownS_eq {ys : List Sk} (hv : ∀ y ∈ ys, VQ (pathOf l y)) {q : List Bs} (hq : VQ q) : wS l ys q = ownS l ys q := by
  unfold wS wI stkE ownS
  rw [List.map_map]
  refine sum_congrP fun y hy => ?_
  simp only [Function.comp_apply]
  by_cases h : pathOf l y = q
  · rw [if_pos h, if_pos (by rw [h])]
  · rw [if_neg h, if_neg fun e => h (pth_inj (hv y hy) hq e)]
theorem totS_eq {M : List (List Bs)} (hn : M.Nodup) (hM : ∀ p ∈ M, VQ p) (q : List Bs) : ∀ {ys : List Sk}, (∀ y ∈ ys, VQ (pathOf l y) ∧ pathOf l y ∈ M) → totL (wS l ys) M q = totS l ys q
  | [], _ => by
    unfold totS
    have : totL (wS l []) M q = (M.map fun p => if False then (0 : Int) else 0).sum := sum_congrP fun p _ => by
      have : wS l [] p = 0 := rfl
      rw [this]; split <;> rfl
    rw [this, sum_zeroP fun _ _ h => h]; rfl
  | y :: ys, h => by
    have ih := totS_eq hn hM q (ys := ys) fun x hx => h x (List.mem_cons_of_mem _ hx)
    obtain ⟨hv, hm⟩ := h y List.mem_cons_self
    have e1 : totL (wS l (y :: ys)) M q = totL (fun p => if p = pathOf l y then y.weight else 0) M q + totL (wS l ys) M q := by
      rw [← totL_add]
      refine totL_congr (fun p hp => ?_) q
      have : wS l (y :: ys) p = (if pth (pathOf l y) = pth p then y.weight else 0) + wS l ys p := by unfold wS stkE; rw [List.map_cons, wI_cons]
      rw [this]
      by_cases hc : p = pathOf l y
      · rw [if_pos hc, if_pos (by rw [hc])]
      · rw [if_neg hc, if_neg fun e => hc (pth_inj hv (hM p hp) e).symm]
    have e2 : totL (fun p => if p = pathOf l y then y.weight else 0) M q = if q <+: pathOf l y then y.weight else 0 := by
      unfold totL
      by_cases hq : q <+: pathOf l y
      · rw [if_pos hq, sum_congrP (g := fun p => if p = pathOf l y then y.weight else 0) fun p _ => by
          show (if q <+: p then (if p = pathOf l y then y.weight else 0) else 0) = if p = pathOf l y then y.weight else 0
          by_cases hc : p = pathOf l y
          · rw [if_pos hc, hc, if_pos hq]
          · rw [if_neg hc]; split <;> rfl, sum_oneP (f := fun _ => y.weight) hn hm fun _ _ => Iff.rfl]
      · rw [if_neg hq, sum_congrP (g := fun p => if False then (0 : Int) else 0) fun p _ => by
          rw [if_neg (fun h => h)]
          show (if q <+: p then (if p = pathOf l y then y.weight else 0) else 0) = 0
          by_cases hc : p = pathOf l y
          · rw [hc, if_neg hq]
          · rw [if_neg hc]; split <;> rfl, sum_zeroP fun _ _ h => h]
    rw [e1, e2, ih]
    unfold totS
    rw [List.map_cons, List.sum_cons]
end
section
variable {l : List Sym} {ys : List Sk}
theorem Gd.vq (h : Gd l ys) : ∀ y ∈ ys, VQ (pathOf l y) := fun y hy => pathOf_vq h.1 h.2 hy
theorem mF_path (h : Gd l ys) : ∀ y ∈ ys, pathOf l y ∈ mF l ys := fun y hy => ((mF_gt h).can.mem _).2 (.inr ⟨_, h.vq y hy, wS_at h.2 hy, List.prefix_refl _⟩)
theorem nF_node (h : Gd l ys) {k : Nat} {p : List Bs} (hp : (mF l ys)[k]? = some p) : ∃ n, (nF l ys)[k]? = some n ∧ n.own = ownS l ys p ∧ n.total = totS l ys p ∧ n.own = wS l ys p ∧ n.total = totL (wS l ys) (mF l ys) p := by
  have hm := List.mem_of_getElem? hp
  have hv := (mF_gt h).can.vq p hm
  exact ⟨_, nodesC_at hp, ownS_eq h.vq hv, totS_eq (srt_nodup (mF_gt h).can.srt) (mF_gt h).can.vq p fun y hy => ⟨h.vq y hy, mF_path h y hy⟩, rfl, rfl⟩
theorem nF_rp (h : Gd l ys) : rpF (nF l ys) = some (mF l ys) := rp_C (mF_gt h)
theorem nF_length : (nF l ys).length = (mF l ys).length := nodesC_len _ _
theorem pathsT (h : Gd l ys) (A : Option Addr) (c : Nat) (S : SH) (hA : At S A (nF l ys)) :
    Con Try.prog 19 #[.agg #[.slice A (nF l ys).length c]] S [] (fun S' L' r => ∃ v xs, r = .tuple #[v, .bool true] ∧ Ows 48 v xs L' ∧ PthL S' xs (mF l ys)) :=
  (rPaths_con (nF l ys) A c S hA (nF_len h)).mono fun S' L' r _ ⟨_, hr⟩ => by
    rcases hr with ⟨h1, _⟩ | ⟨ps, v, xs, h1, h2, h3, h4, _⟩
    · rw [nF_rp h] at h1; cases h1
    · rw [nF_rp h] at h1
      obtain rfl := Option.some.inj h1
      exact ⟨v, xs, h2, h3, h4⟩
end
theorem pathOf_rn {l : List Sym} (h : SymsOk l) (y : Sk) : y.frames.map (rnamed l y.version) = pathOf l y := by
  unfold pathOf
  exact List.map_congr_left fun a _ => rnamed_eq h _ a
end Go.Proofs.Ytcnfchchanlepaa
namespace Go.Proofs.Ytcnfchchanlepaa
open Go Go.X
theorem totS_snoc (l : List Sym) (ys : List Sk) (y : Sk) (q : List Bs) : totS l (ys ++ [y]) q = totS l ys q + if q <+: pathOf l y then y.weight else 0 := by simp [totS]
theorem ownS_snoc (l : List Sym) (ys : List Sk) (y : Sk) (q : List Bs) : ownS l (ys ++ [y]) q = ownS l ys q + if pathOf l y = q then y.weight else 0 := by simp [ownS]
set_option maxRecDepth 10000
set_option linter.unusedVariables false
attribute [local irreducible] Code.wpIn wpListIn Exit.then Exit.inBlock X.Out X.Back X.W X.Ev X.Con X.BinV X.Wh X.Wn X.Wq
set_option maxHeartbeats 6400000 in
theorem totals_law (xs : List A3) (A : Option Addr) (c : Nat) (ls : List A6) (B : Option Addr) (d : Nat) (S : SH) (hA : At S A xs) (hx : ∀ x ∈ xs, i64A x) (hB : At S B ls) (hl : ∀ x ∈ ls, i64B x) :
    Con Try.prog 5 #[.slice A xs.length c, .slice B ls.length d] S [] (fun _ L' r => L' = [] ∧ r = .bool true) := by
  refine con_of (args := [.slice A xs.length c, .slice B ls.length d]) Try.func5 rfl Try.ntmps5 rfl fun w => ?_
  have g1 := gdT xs ls
  have l1 := madeF_len ls
  (repeat (first | refine Jc ?_ | (apply s_call; (case hg => rfl); (case hd => rfl); (case ha => rfl); (case hc => exact sane_con _); (case hL => (repeat (first | exact pm_nil _ | exact pm_refl _ _ | exact pm_self _ | apply pm_cons | apply pm_app))); rintro S1 _ _ h1 ⟨rfl, rfl⟩) | refine Jo ?_ | intro _))
  (repeat (first | refine Jc ?_ | ((apply s_call; (case hg => rfl); (case hd => rfl); (case ha => rfl); (case hc => exact rTable_con xs A c _ (hA.le h1) hx); (case hL => (repeat (first | exact pm_nil _ | exact pm_refl _ _ | exact pm_self _ | apply pm_cons | apply pm_app))); rintro S2 L2 v2 h2 ⟨-, ho2⟩); refine W.freezeOws ho2 (List.Perm.refl _) fun S3 h3 hs3 => ?_; obtain ⟨At_, ct, rfl, hct, hT⟩ := hs3) | refine Jo ?_ | intro _))
  have h13 := (h1.trans h2).trans h3
  (repeat (first | refine Jc ?_ | ((apply s_call; (case hg => rfl); (case hd => rfl); (case ha => rfl); (case hc => exact rMade_con ls B d _ (hB.le h13) hl); (case hL => (repeat (first | exact pm_nil _ | exact pm_refl _ _ | exact pm_self _ | apply pm_cons | apply pm_app))); rintro S4 L4 v4 h4 ⟨-, ya, ho4, ka⟩); refine W.freezeOws ho4 (List.Perm.refl _) fun S5 h5 hs5 => ?_; obtain ⟨Aa, ca, rfl, hca, hAa⟩ := hs5) | refine Jo ?_ | intro _))
  have h35 := h4.trans h5
  have hT5 := hT.le h35
  have ka5 := ka.le h5
  have la := ka.1
  (repeat (first | refine Jc ?_ | ((apply s_call; (case hg => rfl); (case hd => rfl); (case ha => rfl); (case hc => exact foldT g1 ya _ _ _ _ _ hT5 hAa ka5); (case hL => (repeat (first | exact pm_nil _ | exact pm_refl _ _ | exact pm_self _ | apply pm_cons | apply pm_app))); rintro S6 L6 _ h6 ⟨v6, rfl, ho6⟩); refine W.freezeOws ho6 (List.Perm.refl _) fun S7 h7 hs7 => ?_; obtain ⟨Bs, cs, rfl, hcs, hBs⟩ := hs7) | refine Jo ?_ | intro _))
  rename_i b8
  have h57 := h6.trans h7
  have hM := mF_gt g1
  have hnl : (nF (tableF xs) (madeF ls)).length = (mF (tableF xs) (madeF ls)).length := nF_length
  have hM1 : 1 ≤ (mF (tableF xs) (madeF ls)).length := List.length_pos_of_mem hM.can.root
  have hM2 := hM.fit.2
  (repeat (first | refine Jc ?_ | ((apply s_call; (case hg => rfl); (case hd => rfl); (case ha => rfl); (case hc => exact pathsT g1 _ _ _ hBs); (case hL => (repeat (first | exact pm_nil _ | exact pm_refl _ _ | exact pm_self _ | apply pm_cons | apply pm_app))); rintro S8 L8 _ h8 ⟨v8, ps, rfl, ho8, hps⟩); refine W.freezeOws ho8 (List.Perm.refl _) fun S9 h9 hs9 => ?_; obtain ⟨Ap, cp, rfl, hcp, hAp⟩ := hs9; have hpl := hps.1) | refine Jo ?_ | intro _))
  have h79 := h8.trans h9
  have hps9 := hps.le h9
  have htl := (tableF_ok xs).2
  have hB9 := hBs.le h79
  have hT9 := (hT5.le h57).le h79
  have hA9 := (hAa.le h57).le h79
  have ka9 := (ka5.le h57).le h79
  have hvq := g1.vq
  generalize hL : tableF xs = l at *
  generalize hY : madeF ls = ys at *
  refine c_loop (fun m S' L F => Le S9 S' ∧ ∃ (i : Nat), m = ps.length - i ∧ i ≤ ps.length ∧ L = [(b8, .cells [.slice Bs (nF l ys).length cs].toArray 36 (0, 0))] ∧
      F = [(5, .bool true), (6, .slice At_ l.length ct), (7, .slice Aa ya.length ca), (8, .pointer (some ⟨b8, 0, none⟩)), (10, .slice Ap ps.length cp), (12, .int .i64 i)]) ⟨Le.refl _, 0, rfl, by omega, rfl, rfl⟩ sbF sbL ?_
  rintro m S10 L F ⟨h10, i, rfl, hi, rfl, rfl⟩
  by_cases hil : i < ps.length
  rotate_left
  · (repeat (first | refine Jz ?_ | intro _))
    exact o_ret (L' := []) Try.results5 rfl (List.nil_sublist _) ⟨rfl, rfl⟩
  obtain ⟨q, hq⟩ : ∃ q, (mF l ys)[i]? = some q := at_lt (by omega)
  obtain ⟨x, hxq⟩ := at_lt hil
  obtain ⟨n, hn, no1, nt1, -, nt2⟩ := nF_node g1 hq
  have htot1 : 0 < i → 1 ≤ n.total := fun h0 => by
    have hne : q ≠ [] := fun e => by
      have := srt_lt hM.can.srt hM.can.head hq h0
      rw [e] at this
      exact plt_irr _ this
    rw [nt2]
    exact hM.tot1 (List.mem_of_getElem? hq) hne
  have hqv := hM.can.vq q (List.mem_of_getElem? hq)
  (repeat (first | refine Jz ?_ | intro _))
  refine c_loop (fun m S' L F => Le S10 S' ∧ ∃ (k : Nat) (ow to : Int), m = ya.length - k ∧ k ≤ ya.length ∧ ow = ownS l (ys.take k) q ∧ to = totS l (ys.take k) q ∧ 0 ≤ ow ∧ ow ≤ 1000000 * k ∧ 0 ≤ to ∧ to ≤ 1000000 * k ∧ L = [(b8, .cells [.slice Bs (nF l ys).length cs].toArray 36 (0, 0))] ∧
      F = [(5, .bool true), (6, .slice At_ l.length ct), (7, .slice Aa ya.length ca), (8, .pointer (some ⟨b8, 0, none⟩)), (10, .slice Ap ps.length cp), (12, .int .i64 i), (13, .int .i64 ow), (14, .int .i64 to), (15, .int .i64 k)]) ⟨Le.refl _, 0, 0, 0, rfl, by omega, rfl, rfl, by omega, by omega, by omega, by omega, rfl, rfl⟩ sbF (List.Sublist.refl _) ?_
  rintro m S11 L F ⟨h11, k, ow, to, rfl, hk, how, hto, b1, b2, b3, b4, rfl, rfl⟩
  have hB11 := (hB9.le h10).le h11
  have hA11 := (hA9.le h10).le h11
  have hT11 := (hT9.le h10).le h11
  have hP11 := ((hAp.le h10).le h11)
  have ka11 := (ka9.le h10).le h11
  obtain ⟨r1, r2, r3⟩ := ((hps9.le h10).le h11).2 i x q hxq hq
  have r1q := hqv.1
  have tlq := toS_len q
  by_cases hkl : k < ya.length
  rotate_left
  · rw [List.take_of_length_le (by omega)] at how hto
    have e1 : n.own = ow := by rw [no1, how]
    have e2 : n.total = to := by rw [nt1, hto]
    have e3 : 0 < i → to ≠ 0 := fun h => by have := htot1 h; omega
    by_cases hi0 : 0 < i
    · have e4 := e3 hi0
      (repeat (first | refine Jc ?_ | (apply s_idx hB11; (case hg => rfl); (case hd => rfl); (case hx => rfl); (case hi => rfl); (case hm => rfl); (case hu => exact hn); intro p (hp : Pts _ p [.int .i64 n.parent, strV n.name, .int .i64 n.own, .int .i64 n.total])) | (apply s_load_f; (case hg => rfl); (case hd => rfl); (case hx => rfl); (case h => exact hp); (case hv => rfl)) | refine Jo ?_ | intro _))
      exact q_back (L' := [(b8, .cells [.slice Bs (nF l ys).length cs].toArray 36 (0, 0))]) (m' := ps.length - (i + 1)) ⟨h10.trans h11, i + 1, rfl, by omega, rfl, rfl⟩ (by omega) sbF sbL
    · (repeat (first | refine Jc ?_ | (apply s_idx hB11; (case hg => rfl); (case hd => rfl); (case hx => rfl); (case hi => rfl); (case hm => rfl); (case hu => exact hn); intro p (hp : Pts _ p [.int .i64 n.parent, strV n.name, .int .i64 n.own, .int .i64 n.total])) | (apply s_load_f; (case hg => rfl); (case hd => rfl); (case hx => rfl); (case h => exact hp); (case hv => rfl)) | refine Jo ?_ | intro _))
      exact q_back (L' := [(b8, .cells [.slice Bs (nF l ys).length cs].toArray 36 (0, 0))]) (m' := ps.length - (i + 1)) ⟨h10.trans h11, i + 1, rfl, by omega, rfl, rfl⟩ (by omega) sbF sbL
  obtain ⟨z, hz⟩ := at_lt hkl
  obtain ⟨y, hy⟩ : ∃ y, ys[k]? = some y := at_lt (by omega)
  have hym := List.mem_of_getElem? hy
  obtain ⟨s1, s2, s3, s4, s5⟩ := ka11.2 k z y hz hy
  obtain ⟨w1, w2, w3⟩ := sks_at g1.2 hym
  have hyv := hvq y hym
  have hyl := hyv.1
  obtain ⟨zv, ⟨za, zm, zc⟩, zw⟩ := z
  simp only at s1 s2 s3 s4 s5
  subst s1; subst s2; subst s3
  have hto' := totS_snoc l (ys.take k) y q
  have how' := ownS_snoc l (ys.take k) y q
  rw [← take_at hy] at hto' how'
  rw [← hto] at hto'
  rw [← how] at how'
  have tlp := toS_len (pathOf l y)
  obtain ⟨xa, xm, xc⟩ := x
  simp only at r1 r2 r3
  subst r1
  (repeat (first | refine Jc ?_ | (apply s_idx hA11; (case hg => rfl); (case hd => rfl); (case hx => rfl); (case hi => rfl); (case hm => rfl); (case hu => exact hz); intro p (hp : Pts _ p [.int .i64 y.version, .slice za y.frames.length zc, .int .i64 y.weight])) | (apply s_load_ag; (case hg => rfl); (case hd => rfl); (case hx => rfl); (case hv => exact hp); (case hl => rfl)) | ((apply s_call; (case hg => rfl); (case hd => rfl); (case ha => rfl); (case hc => exact rPath_con l _ _ y.version y.frames za zc y.weight _ hT11 (by omega) s5 (by omega)); (case hL => (repeat (first | exact pm_nil _ | exact pm_refl _ _ | exact pm_self _ | apply pm_cons | apply pm_app))); rintro S12 L12 v12 h12 ⟨rfl, ho12⟩); rw [pathOf_rn g1.1 y] at ho12; refine W.freezeOws ho12 (List.Perm.refl _) fun S13 h13' hs13 => ?_; obtain ⟨A13, c13, rfl, hc13, hA13⟩ := hs13) | refine Jo ?_ | intro _))
  have hP13 := hP11.le h13'
  have hA13' := hA11.le h13'
  have r33 := r3.le h13'
  have hcc := rCompare_con (pathOf l y) q _ _ c13 xc _ hA13 r33 (by omega) (by omega)
  by_cases hst : q <+: pathOf l y
  · have hsc := rStarts_con (pathOf l y) q _ _ c13 xc _ hA13 r33 hc13 (by omega) (by omega) true ⟨fun _ => hst, fun _ => rfl⟩
    rw [if_pos hst] at hto'
    by_cases he : pathOf l y = q
    · rw [if_pos he] at how'
      rw [cmpP_eq0.2 he] at hcc
      (repeat (first | refine Jc ?_ | (apply s_idx hP13; (case hg => rfl); (case hd => rfl); (case hx => rfl); (case hi => rfl); (case hm => rfl); (case hu => exact hxq); intro p2 (hp2 : Pts _ p2 [.slice xa (toS q).length xc])) | (apply s_load1; (case hg => rfl); (case hd => rfl); (case hx => rfl); (case hv => exact hp2)) | (apply s_idx hA13'; (case hg => rfl); (case hd => rfl); (case hx => rfl); (case hi => rfl); (case hm => rfl); (case hu => exact hz); intro p3 (hp3 : Pts _ p3 [.int .i64 y.version, .slice za y.frames.length zc, .int .i64 y.weight])) | (apply s_load_f; (case hg => rfl); (case hd => rfl); (case hx => rfl); (case h => exact hp3); (case hv => rfl)) | ((apply s_call; (case hg => rfl); (case hd => rfl); (case ha => rfl); (case hc => exact hsc); (case hL => (repeat (first | exact pm_nil _ | exact pm_refl _ _ | exact pm_self _ | apply pm_cons | apply pm_app))); rintro _ _ _ - ⟨rfl, rfl, rfl⟩)) | ((apply s_call; (case hg => rfl); (case hd => rfl); (case ha => rfl); (case hc => exact hcc); (case hL => (repeat (first | exact pm_nil _ | exact pm_refl _ _ | exact pm_self _ | apply pm_cons | apply pm_app))); rintro _ _ _ - ⟨rfl, rfl, rfl⟩)) | refine Jo ?_ | intro _))
      exact q_back (L' := [(b8, .cells [.slice Bs (nF l ys).length cs].toArray 36 (0, 0))]) (m' := ya.length - (k + 1)) ⟨h11.trans h13', k + 1, _, _, rfl, by omega, how'.symm, hto'.symm, by omega, by omega, by omega, by omega, rfl, rfl⟩ (by omega) sbF sbL
    · rw [if_neg he, Int.add_zero] at how'
      have hne : cmpP (pathOf l y) q ≠ 0 := fun h => he (cmpP_eq0.1 h)
      generalize cmpP (pathOf l y) q = zc2 at hcc hne
      (repeat (first | refine Jc ?_ | (apply s_idx hP13; (case hg => rfl); (case hd => rfl); (case hx => rfl); (case hi => rfl); (case hm => rfl); (case hu => exact hxq); intro p2 (hp2 : Pts _ p2 [.slice xa (toS q).length xc])) | (apply s_load1; (case hg => rfl); (case hd => rfl); (case hx => rfl); (case hv => exact hp2)) | (apply s_idx hA13'; (case hg => rfl); (case hd => rfl); (case hx => rfl); (case hi => rfl); (case hm => rfl); (case hu => exact hz); intro p3 (hp3 : Pts _ p3 [.int .i64 y.version, .slice za y.frames.length zc, .int .i64 y.weight])) | (apply s_load_f; (case hg => rfl); (case hd => rfl); (case hx => rfl); (case h => exact hp3); (case hv => rfl)) | ((apply s_call; (case hg => rfl); (case hd => rfl); (case ha => rfl); (case hc => exact hsc); (case hL => (repeat (first | exact pm_nil _ | exact pm_refl _ _ | exact pm_self _ | apply pm_cons | apply pm_app))); rintro _ _ _ - ⟨rfl, rfl, rfl⟩)) | ((apply s_call; (case hg => rfl); (case hd => rfl); (case ha => rfl); (case hc => exact hcc); (case hL => (repeat (first | exact pm_nil _ | exact pm_refl _ _ | exact pm_self _ | apply pm_cons | apply pm_app))); rintro _ _ _ - ⟨rfl, rfl, rfl⟩)) | refine Jo ?_ | intro _))
      exact q_back (L' := [(b8, .cells [.slice Bs (nF l ys).length cs].toArray 36 (0, 0))]) (m' := ya.length - (k + 1)) ⟨h11.trans h13', k + 1, _, _, rfl, by omega, how'.symm, hto'.symm, by omega, by omega, by omega, by omega, rfl, rfl⟩ (by omega) sbF sbL
  · have hsc := rStarts_con (pathOf l y) q _ _ c13 xc _ hA13 r33 hc13 (by omega) (by omega) false ⟨fun h => absurd h Bool.false_ne_true, fun h => absurd h hst⟩
    rw [if_neg hst, Int.add_zero] at hto'
    have he : pathOf l y ≠ q := fun e => hst (by rw [e]; exact List.prefix_refl _)
    rw [if_neg he, Int.add_zero] at how'
    have hne : cmpP (pathOf l y) q ≠ 0 := fun h => he (cmpP_eq0.1 h)
    generalize cmpP (pathOf l y) q = zc2 at hcc hne
    (repeat (first | refine Jc ?_ | (apply s_idx hP13; (case hg => rfl); (case hd => rfl); (case hx => rfl); (case hi => rfl); (case hm => rfl); (case hu => exact hxq); intro p2 (hp2 : Pts _ p2 [.slice xa (toS q).length xc])) | (apply s_load1; (case hg => rfl); (case hd => rfl); (case hx => rfl); (case hv => exact hp2)) | (apply s_idx hA13'; (case hg => rfl); (case hd => rfl); (case hx => rfl); (case hi => rfl); (case hm => rfl); (case hu => exact hz); intro p3 (hp3 : Pts _ p3 [.int .i64 y.version, .slice za y.frames.length zc, .int .i64 y.weight])) | (apply s_load_f; (case hg => rfl); (case hd => rfl); (case hx => rfl); (case h => exact hp3); (case hv => rfl)) | ((apply s_call; (case hg => rfl); (case hd => rfl); (case ha => rfl); (case hc => exact hsc); (case hL => (repeat (first | exact pm_nil _ | exact pm_refl _ _ | exact pm_self _ | apply pm_cons | apply pm_app))); rintro _ _ _ - ⟨rfl, rfl, rfl⟩)) | ((apply s_call; (case hg => rfl); (case hd => rfl); (case ha => rfl); (case hc => exact hcc); (case hL => (repeat (first | exact pm_nil _ | exact pm_refl _ _ | exact pm_self _ | apply pm_cons | apply pm_app))); rintro _ _ _ - ⟨rfl, rfl, rfl⟩)) | refine Jo ?_ | intro _))
    exact q_back (L' := [(b8, .cells [.slice Bs (nF l ys).length cs].toArray 36 (0, 0))]) (m' := ya.length - (k + 1)) ⟨h11.trans h13', k + 1, _, _, rfl, by omega, how'.symm, hto'.symm, by omega, by omega, by omega, by omega, rfl, rfl⟩ (by omega) sbF sbL
end Go.Proofs.Ytcnfchchanlepaa
namespace Go.Proofs.Ytcnfchchanlepaa
open Go Go.X
open Go.ChangeShapes Go.WideShapes Go.ChangeAt Go.RowKit
set_option linter.unusedVariables false
set_option maxRecDepth 100000 in
theorem liftedProfileTotals (os : Os) (started : os.Started) (H : Type) (enc : TypeId × Value → H) :
    ReturnsInHanded {} Try.checked os 5 .any (Rows.profileTotalsSpec.pre6 enc Try.prog Try.f5 Rows.profileTotalsRow.domain false) (Rows.profileTotalsSpec.post enc Try.prog Try.f5 false true false false) := by
  refine returnsInHanded_of_change (C := Try.checked) own started (by kernel_rfl) Try.func5
    (ChangeSpec.witness6 (enc := enc) (C := Try.checked) false ⟨#[], #[.slice none 0 0, .slice none 0 0], []⟩ 8 (by kernel_rfl) (by kernel_rfl) (by kernel_rfl) (by kernel_rfl)) ?_
  intro W base args ds gs before hval0 hW hcnd _
  have hval : ∀ (j : Nat) t v, Try.f5.params[j]? = some t → args[j]? = some v → Value.okWide Try.prog W .any base t v := hval0
  have hW' := hW
  obtain ⟨p, q, hA0, hV, rfl, hfz, hnd⟩ := hW
  have hA : DataW.TrodAll enc Try.prog W 0 (fun _ => true) true Try.f5.params.toList args.toList ds p := hA0
  rw [Try.params5] at hA hval
  obtain ⟨v0, vs0, d0, ds0, p0, q0, hargs, rfl, rfl, h0, r0⟩ := trodAll_cons hA
  obtain ⟨v1, vs1, d1, ds1, p1, q1, rfl, rfl, rfl, h1, r1⟩ := trodAll_cons r0
  obtain ⟨rfl, rfl, rfl⟩ := trodAll_nil r1
  obtain rfl : args = #[v0, v1] := by cases args; simp_all
  obtain ⟨rfl, rfl⟩ := trodVars_none hV
  have k0 := h0
  have lt0 : ∀ x ∈ p0, x.block < W.heap.size := by obtain ⟨m, hm⟩ := k0; exact DataW.trod_lt m _ _ _ hm
  have k1 := h1
  have lt1 : ∀ x ∈ p1, x.block < W.heap.size := by obtain ⟨m, hm⟩ := k1; exact DataW.trod_lt m _ _ _ hm
  obtain ⟨a0, len0, cap0, rfl⟩ := okWide_slice Try.underlying24 (hval 0 24 v0 rfl rfl)
  obtain ⟨xs0, rfl, gl0, gA0, gx0⟩ := open_sl (α := A3) Try.underlying24 (by kernel_rfl) rdb_A3 rfl h0
  obtain ⟨a1, len1, cap1, rfl⟩ := okWide_slice Try.underlying25 (hval 1 25 v1 rfl rfl)
  obtain ⟨xs1, rfl, gl1, gA1, gx1⟩ := open_sl (α := A6) Try.underlying25 (by kernel_rfl) rdb_A6 rfl h1
  refine (calls_of_con (totals_law xs0 a0 cap0 xs1 a1 cap1 (allOf W) gA0 gx0 gA1 gx1) fun _ _ _ h => h.2).mono fun e W' ⟨he, bel⟩ => ?_
  subst he
  exact ⟨_, rfl, _, _, _, [], _, [], hW', trodAll_mk1 (shut_bool Try.underlying4 _), (trodAll_cons_mk (Below.trod laidOut (by kernel_rfl) (of_decide_eq_true (by kernel_rfl)) k0 bel lt0) (trodAll_cons_mk (Below.trod laidOut (by kernel_rfl) (of_decide_eq_true (by kernel_rfl)) k1 bel lt1) trodAll_mk0)), rfl, bel.frame _, fun h => by cases h⟩
theorem overProfileTotals : Rows.profileTotalsRow.holds Try.pinned (OpenSpec.ofChange Rows.profileTotalsSpec) :=
  OpenClaim.holds_of_wide 5 Try.f5 rfl rfl rfl rfl rfl rfl rfl ⟨rfl, rfl, rfl, rfl, rfl⟩ rfl rfl rfl rfl rfl (by kernel_rfl) Try.func5 (by kernel_rfl)
    (of_decide_eq_true (by kernel_rfl)) (by unfold Func.isWrapper; rw [if_neg (of_decide_eq_false (by kernel_rfl))]; exact ⟨rfl, rfl⟩)
    (fun os started H enc _ => liftedProfileTotals os started H enc)
theorem profileTotals_holds : Rows.ProfileTotalsSaid := overProfileTotals
#print axioms profileTotals_holds
end Go.Proofs.Ytcnfchchanlepaa
