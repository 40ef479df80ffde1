/- ProfileVersions returns true for every input, and each argument reads afterwards as it read before; no condition. -/
import Derived.Test.YtcnfchchanlepaaBc
import Derived.Test.YtcnfchchanlepaaXA
import Derived.Test.YtcnfchchanlepaaBd
namespace Go.Proofs.Ytcnfchchanlepaa
open Go Go.X
/-- The name of an address, as the reference implementation finds it: the last symbol that fits. -/
def rnStep (v a : Int) (nm : Bs) (s : Sym) : Bs := if symB v a s = true then s.name else nm
def rnamed (l : List Sym) (v a : Int) : Bs := l.foldl (rnStep v a) [63]
theorem pairI_le {p s : Sym} (h : ¬ 0 < pairI p s) : p.version < s.version ∨ p.version = s.version ∧ p.to ≤ s.from_ := by
  rcases Int.lt_trichotomy p.version s.version with h1 | h1 | h1
  · exact .inl h1
  · refine .inr ⟨h1, ?_⟩
    by_cases h2 : p.to ≤ s.from_
    · exact h2
    · have e1 : cmpI p.version s.version = 0 := by unfold cmpI; rw [if_neg (by omega), if_neg (by omega)]
      have e2 : cmpI p.to s.from_ = 1 := by unfold cmpI; rw [if_neg (by omega), if_pos (by omega)]
      exact absurd (by unfold pairI; simp [orI, e1, e2]) h
  · have e1 : cmpI p.version s.version = 1 := by unfold cmpI; rw [if_neg (by omega), if_pos (by omega)]
    exact absurd (by unfold pairI; simp [orI, e1]) h
theorem sym_at {l : List Sym} (h : SymsOk l) {i : Nat} {s : Sym} (hs : l[i]? = some s) : symOk s ∧ ∀ p, 0 < i → l[i - 1]? = some p → ¬ 0 < pairI p s := h.1 i s (List.getElem?_eq_some_iff.1 hs).1 hs
theorem sym_lt {s : Sym} (h : symOk s) : s.from_ < s.to := by
  have := h.2.2.1
  unfold inB at this
  simp only [decide_eq_true_eq] at this
  omega
theorem sym_mono {l : List Sym} (h : SymsOk l) {i : Nat} {a : Sym} (ha : l[i]? = some a) : ∀ (k : Nat) (b : Sym), l[i + 1 + k]? = some b → a.version < b.version ∨ a.version = b.version ∧ a.to ≤ b.from_
  | 0, b, hb => pairI_le ((sym_at h hb).2 a (Nat.succ_pos i) (by simpa using ha))
  | k + 1, b, hb => by
    obtain ⟨c, hc⟩ := at_lt (l := l) (k := i + 1 + k) (by have := (List.getElem?_eq_some_iff.1 hb).1; omega)
    have h1 := sym_mono h ha k c hc
    have h2 := pairI_le ((sym_at h hb).2 c (by omega) (by rw [show i + 1 + (k + 1) - 1 = i + 1 + k by omega]; exact hc))
    have h3 := sym_lt (sym_at h hc).1
    omega
set_option maxRecDepth 10000
set_option linter.unusedVariables false
attribute [local irreducible] Code.wpIn wpListIn Exit.then Exit.inBlock X.Out X.Back X.W X.Ev X.Con X.BinV X.Wh X.Wn X.Wq
end Go.Proofs.Ytcnfchchanlepaa
namespace Go.Proofs.Ytcnfchchanlepaa
open Go Go.X
/-- Rows of paths, each of them stable. -/
def prR (S : SH) (x : Sv) (p : List Bs) : Prop := x.m = (toS p).length ∧ (toS p).length ≤ x.c ∧ At S x.a (toS p)
def PthL (S : SH) (xs : List Sv) (ps : List (List Bs)) : Prop := xs.length = ps.length ∧ ∀ (i : Nat) (x : Sv) (p : List Bs), xs[i]? = some x → ps[i]? = some p → prR S x p
theorem prR.le {S T : SH} (h : Le S T) {x : Sv} {p : List Bs} (k : prR S x p) : prR T x p := ⟨k.1, k.2.1, k.2.2.le h⟩
theorem PthL.le {S T : SH} (h : Le S T) {xs : List Sv} {ps : List (List Bs)} (k : PthL S xs ps) : PthL T xs ps := ⟨k.1, fun i x p h1 h2 => (k.2 i x p h1 h2).le h⟩
theorem PthL.nil (S : SH) : PthL S [] [] := ⟨rfl, fun i x y h => by simp at h⟩
theorem PthL.snoc {S : SH} {xs : List Sv} {ys : List (List Bs)} {x : Sv} {y : List Bs} (h : PthL S xs ys) (k : prR S x y) : PthL S (xs ++ [x]) (ys ++ [y]) := by
  refine ⟨by rw [List.length_append, List.length_append, h.1]; rfl, fun i x' y' h1 h2 => ?_⟩
  by_cases hi : i < xs.length
  · rw [List.getElem?_append_left hi] at h1
    rw [List.getElem?_append_left (by rw [← h.1]; exact hi)] at h2
    exact h.2 i x' y' h1 h2
  · rw [List.getElem?_append_right (by omega)] at h1
    rw [List.getElem?_append_right (by rw [← h.1]; omega)] at h2
    rw [← h.1] at h2
    cases hj : i - xs.length with
    | zero =>
      rw [hj] at h1 h2
      simp only [List.getElem?_cons_zero, Option.some.injEq] at h1 h2
      subst h1; subst h2; exact k
    | succ j =>
      rw [hj] at h1
      simp at h1
/-- The paths as the reference implementation reads them. -/
def rpN (i : Nat) (n : Nd) (ps : List (List Bs)) : Option (List (List Bs)) :=
  if i = 0 then (if n.parent ≠ -1 ∨ n.name ≠ [] then none else some (ps ++ [[]]))
  else if n.parent < 0 ∨ (i : Int) ≤ n.parent then none else some (ps ++ [ps.getD n.parent.toNat [] ++ [n.name]])
def rpA : List Nd → Nat → List (List Bs) → Option (List (List Bs))
  | [], _, ps => some ps
  | n :: r, i, ps => (rpN i n ps).bind fun q => rpA r (i + 1) q
def rpF (ns : List Nd) : Option (List (List Bs)) := rpA ns 0 []
def PathsR (ns : List Nd) (S : SH) (r : Value) (L' : Blocks) : Prop :=
  rpF ns = none ∧ r = .tuple #[.slice none 0 0, .bool false] ∧ L' = [] ∨ ∃ ps v xs, rpF ns = some ps ∧ r = .tuple #[v, .bool true] ∧ Ows 48 v xs L' ∧ PthL S xs ps ∧ ps.length = ns.length
set_option maxRecDepth 10000
set_option linter.unusedVariables false
attribute [local irreducible] Code.wpIn wpListIn Exit.then Exit.inBlock X.Out X.Back X.W X.Ev X.Con X.BinV X.Wh X.Wn X.Wq
end Go.Proofs.Ytcnfchchanlepaa
namespace Go.Proofs.Ytcnfchchanlepaa
open Go Go.X
set_option linter.unusedVariables false
section
variable {w : List Bs → Int} {L : List (List Bs)}
end
/-- What stacks weigh below a path, and at it. -/
def totS (l : List Sym) (ys : List Sk) (q : List Bs) : Int := (ys.map fun y => if q <+: pathOf l y then y.weight else 0).sum
def ownS (l : List Sym) (ys : List Sk) (q : List Bs) : Int := (ys.map fun y => if pathOf l y = q then y.weight else 0).sum
section
variable {l : List Sym}
end
section
variable {l : List Sym} {ys : List Sk}
theorem Gd.vq (h : Gd l ys) : ∀ y ∈ ys, VQ (pathOf l y) := fun y hy => pathOf_vq h.1 h.2 hy
end
end Go.Proofs.Ytcnfchchanlepaa
namespace Go.Proofs.Ytcnfchchanlepaa
open Go Go.X
/-- Symbols in order, seen pair by pair. -/
def SymR (a b : Sym) : Prop := a.version < b.version ∨ a.version = b.version ∧ a.to ≤ b.from_
theorem symR_pair {a b : Sym} (h : SymR a b) : ¬ 0 < pairI a b := h.elim pair_less fun h => pair_same h.1 h.2
theorem syms_of {l : List Sym} (h1 : ∀ s ∈ l, symOk s) (h2 : l.Pairwise SymR) (h3 : l.length ≤ 100) : SymsOk l :=
  ⟨fun i s hi hs => ⟨h1 s (List.mem_of_getElem? hs), fun p h0 hp => by
    obtain ⟨a1, rfl⟩ := List.getElem?_eq_some_iff.1 hs
    obtain ⟨a2, rfl⟩ := List.getElem?_eq_some_iff.1 hp
    rw [List.pairwise_iff_getElem] at h2
    exact symR_pair (h2 (i - 1) i a2 a1 (by omega))⟩, h3⟩
theorem syms_pw {l : List Sym} (h : SymsOk l) : l.Pairwise SymR := by
  rw [List.pairwise_iff_getElem]
  intro i j hi hj hij
  obtain ⟨k, rfl⟩ : ∃ k, j = i + 1 + k := ⟨j - (i + 1), by omega⟩
  exact sym_mono h (List.getElem?_eq_getElem hi) k _ (List.getElem?_eq_getElem hj)
theorem syms_mem {l : List Sym} (h : SymsOk l) : ∀ s ∈ l, symOk s := fun s hs => by
  obtain ⟨i, hi⟩ := List.mem_iff_getElem?.1 hs
  exact (sym_at h hi).1
/-- A version's addresses move. -/
def mvS (v sh : Int) (s : Sym) : Sym := if s.version = v then ⟨s.version, s.from_ + sh, s.to + sh, s.name⟩ else s
def mvY (v sh : Int) (y : Sk) : Sk := if y.version = v then ⟨y.version, y.frames.map fun a => a + sh, y.weight⟩ else y
theorem mvS_ver (v sh : Int) (s : Sym) : (mvS v sh s).version = s.version ∧ (mvS v sh s).name = s.name := by unfold mvS; split <;> exact ⟨rfl, rfl⟩
theorem mvY_ver (v sh : Int) (y : Sk) : (mvY v sh y).version = y.version ∧ (mvY v sh y).weight = y.weight ∧ (mvY v sh y).frames.length = y.frames.length := by
  unfold mvY
  split
  · exact ⟨rfl, rfl, List.length_map _⟩
  · exact ⟨rfl, rfl, rfl⟩
theorem mvS_symR {v sh : Int} {a b : Sym} (h : SymR a b) : SymR (mvS v sh a) (mvS v sh b) := by
  have e1 := (mvS_ver v sh a).1
  have e2 := (mvS_ver v sh b).1
  rcases h with h | ⟨h1, h2⟩
  · exact .inl (by rw [e1, e2]; exact h)
  · refine .inr ⟨by rw [e1, e2]; exact h1, ?_⟩
    unfold mvS
    by_cases hv : a.version = v
    · rw [if_pos hv, if_pos (by rw [← h1]; exact hv)]; simp only; omega
    · rw [if_neg hv, if_neg (by rw [← h1]; exact hv)]; exact h2
theorem moved_ok (xs : List A3) {v sh : Int} (h0 : 0 ≤ sh) (h1 : sh ≤ 999) : SymsOk ((tableF xs).map (mvS v sh)) := by
  refine syms_of (fun s hs => ?_) ?_ ?_
  · obtain ⟨a, ha, rfl⟩ := List.mem_map.1 hs
    obtain ⟨b1, b2, b3, b4, b5⟩ := tableF_lt xs a ha
    obtain ⟨o1, o2, o3, o4⟩ := syms_mem (tableF_ok xs) a ha
    unfold mvS
    split
    · unfold symOk inB at *
      simp only [decide_eq_true_eq] at *
      exact ⟨o1, by omega, by omega, o4⟩
    · exact ⟨o1, o2, o3, o4⟩
  · rw [List.pairwise_map]
    exact (syms_pw (tableF_ok xs)).imp fun h => mvS_symR h
  · rw [List.length_map]; exact (tableF_ok xs).2
theorem made_small (ls : List A6) : ∀ y ∈ madeF ls, ∀ a ∈ y.frames, 0 ≤ a ∧ a ≤ 24 := fun y hy a ha => by
  obtain ⟨x, _, rfl⟩ := List.mem_map.1 hy
  obtain ⟨z, _, rfl⟩ := List.mem_map.1 (show a ∈ mkFr x from ha)
  have := pickI_bd z 25 (by decide)
  omega
theorem run_ok (ls : List A6) {v sh : Int} (h0 : 0 ≤ sh) (h1 : sh ≤ 999) : sksB ((madeF ls).map (mvY v sh)) = true := by
  have hs := madeF_ok ls
  have hm := made_small ls
  unfold sksB at *
  simp only [Bool.and_eq_true, decide_eq_true_eq, List.all_eq_true, List.length_map] at *
  refine ⟨fun y hy => ?_, hs.2⟩
  obtain ⟨z, hz, rfl⟩ := List.mem_map.1 hy
  have h2 := hs.1 z hz
  have h3 := hm z hz
  unfold mvY
  split
  · unfold skB at *
    simp only [Bool.and_eq_true, decide_eq_true_eq, Bool.not_eq_true', List.any_eq_false, List.length_map] at *
    refine ⟨h2.1, fun a ha => ?_⟩
    obtain ⟨b, hb, rfl⟩ := List.mem_map.1 ha
    have := h3 b hb
    unfold isOut inB
    simp only [Bool.not_eq_true, Bool.not_eq_false', decide_eq_true_eq]
    omega
  · exact h2
theorem find_map {α β : Type} (f : α → β) (p : β → Bool) : ∀ l : List α, (l.map f).find? p = (l.find? fun a => p (f a)).map f
  | [] => rfl
  | a :: l => by
    rw [List.map_cons, List.find?_cons, List.find?_cons]
    cases p (f a) with
    | true => rfl
    | false => exact find_map f p l
theorem named_moved (l : List Sym) (v sh w a : Int) : namedV (l.map (mvS v sh)) w (if w = v then a + sh else a) = namedV l w a := by
  unfold namedV
  rw [find_map]
  have e : (fun s => symB w (if w = v then a + sh else a) (mvS v sh s)) = symB w a := funext fun s => by
    unfold symB
    rw [(mvS_ver v sh s).1]
    by_cases hw : s.version = w
    · unfold mvS
      by_cases hv : w = v
      · rw [if_pos hv, if_pos (hw.trans hv)]
        simp only
        congr 1
        · congr 1
          exact decide_eq_decide.2 (by omega)
        · exact decide_eq_decide.2 (by omega)
      · rw [if_neg hv, if_neg fun h => hv (hw.symm.trans h)]
    · rw [decide_eq_false hw]; rfl
  rw [e]
  cases l.find? (symB w a) with
  | none => rfl
  | some s => exact (mvS_ver v sh s).2
theorem path_moved (l : List Sym) (v sh : Int) (y : Sk) : pathOf (l.map (mvS v sh)) (mvY v sh y) = pathOf l y := by
  unfold pathOf
  rw [(mvY_ver v sh y).1]
  have h := fun a => named_moved l v sh y.version a
  unfold mvY
  by_cases hv : y.version = v
  · rw [if_pos hv]
    simp only [List.map_map]
    refine List.map_congr_left fun a _ => ?_
    have := h a
    rw [if_pos hv] at this
    exact this
  · rw [if_neg hv]
    refine List.map_congr_left fun a _ => ?_
    have := h a
    rw [if_neg hv] at this
    exact this
theorem wS_moved (l : List Sym) (v sh : Int) (ys : List Sk) (p : List Bs) : wS (l.map (mvS v sh)) (ys.map (mvY v sh)) p = wS l ys p := by
  unfold wS
  congr 1
  unfold stkE
  rw [List.map_map]
  refine List.map_congr_left fun y _ => ?_
  simp only [Function.comp_apply]
  rw [path_moved, (mvY_ver v sh y).2.1]
/-- Of one version alone. -/
def ofV (v : Int) (s : Sym) : Bool := decide (s.version = v)
def ofY (v : Int) (y : Sk) : Bool := decide (y.version = v)
theorem own_ok {l : List Sym} (h : SymsOk l) (v : Int) : SymsOk (l.filter (ofV v)) :=
  syms_of (fun s hs => syms_mem h s (List.mem_filter.1 hs).1) ((syms_pw h).sublist List.filter_sublist) (Nat.le_trans (List.length_filter_le _ _) h.2)
theorem some_ok {ys : List Sk} (h : sksB ys = true) (v : Int) : sksB (ys.filter (ofY v)) = true := by
  unfold sksB at *
  simp only [Bool.and_eq_true, decide_eq_true_eq, List.all_eq_true] at *
  exact ⟨fun y hy => h.1 y (List.mem_filter.1 hy).1, Nat.le_trans (List.length_filter_le _ _) h.2⟩
theorem find_filter (v a : Int) : ∀ l : List Sym, (l.filter (ofV v)).find? (symB v a) = l.find? (symB v a)
  | [] => rfl
  | s :: l => by
    by_cases hs : s.version = v
    · rw [List.filter_cons_of_pos (by unfold ofV; exact decide_eq_true hs), List.find?_cons, List.find?_cons, find_filter v a l]
    · have e : symB v a s = false := by unfold symB; rw [decide_eq_false hs]; rfl
      rw [List.filter_cons_of_neg (by unfold ofV; rw [decide_eq_false hs]; decide), List.find?_cons, e, find_filter v a l]
theorem wS_own (l : List Sym) (v : Int) (ys : List Sk) (p : List Bs) : wS l (ys.filter (ofY v)) p = wS (l.filter (ofV v)) (ys.filter (ofY v)) p := by
  unfold wS
  congr 1
  unfold stkE
  refine List.map_congr_left fun y hy => ?_
  have hv : y.version = v := by
    have := (List.mem_filter.1 hy).2
    unfold ofY at this
    exact of_decide_eq_true this
  have e : pathOf l y = pathOf (l.filter (ofV v)) y := by
    unfold pathOf
    refine List.map_congr_left fun a _ => ?_
    unfold namedV
    rw [hv, find_filter]
  rw [e]
end Go.Proofs.Ytcnfchchanlepaa
namespace Go.Proofs.Ytcnfchchanlepaa
open Go Go.X
theorem take_map_at {α β : Type} {f : α → β} {l : List α} {k : Nat} {x : α} (h : l[k]? = some x) : (l.take (k + 1)).map f = (l.take k).map f ++ [f x] := by rw [take_at h]; simp
theorem take_filter_at {α : Type} {p : α → Bool} {l : List α} {k : Nat} {x : α} (h : l[k]? = some x) : (l.take (k + 1)).filter p = (l.take k).filter p ++ if p x = true then [x] else [] := by
  rw [take_at h, List.filter_append]
  congr 1
  by_cases hp : p x = true
  · rw [if_pos hp, List.filter_cons_of_pos hp]; rfl
  · rw [if_neg hp, List.filter_cons_of_neg hp]; rfl
set_option maxRecDepth 10000
set_option linter.unusedVariables false
attribute [local irreducible] Code.wpIn wpListIn Exit.then Exit.inBlock X.Out X.Back X.W X.Ev X.Con X.BinV X.Wh X.Wn X.Wq
set_option maxHeartbeats 6400000 in
theorem vers_law (xs : List A3) (A : Option Addr) (c : Nat) (ls : List A6) (B : Option Addr) (d : Nat) (ver by_ : Int) (S : SH) (hA : At S A xs) (hx : ∀ x ∈ xs, i64A x) (hB : At S B ls) (hl : ∀ x ∈ ls, i64B x) (hv : i64 ver) (hby : i64 by_) :
    Con Try.prog 8 #[.slice A xs.length c, .slice B ls.length d, .int .i64 ver, .int .i64 by_] S [] (fun _ L' r => L' = [] ∧ r = .bool true) := by
  refine con_of (args := [.slice A xs.length c, .slice B ls.length d, .int .i64 ver, .int .i64 by_]) Try.func8 rfl Try.ntmps8 rfl fun w => ?_
  have g1 := gdT xs ls
  have l1 := madeF_len ls
  have lt := tableF_len xs
  have bs := tableF_lt xs
  have hsm := made_small ls
  obtain ⟨v, hv4⟩ : ∃ v, pickI ver 4 = v := ⟨_, rfl⟩
  obtain ⟨sh, hsh⟩ : ∃ sh, pickI by_ 1000 = sh := ⟨_, rfl⟩
  have bv := pickI_bd ver 4 (by decide)
  have bsh := pickI_bd by_ 1000 (by decide)
  have hc1 := fun S => lpick_con ver 4 S hv (by decide)
  have hc2 := fun S => lpick_con by_ 1000 S hby (by decide)
  rw [hv4] at hc1 bv
  rw [hsh] at hc2 bsh
  have gm : Gd ((tableF xs).map (mvS v sh)) ((madeF ls).map (mvY v sh)) := ⟨moved_ok xs bsh.1 bsh.2, run_ok ls bsh.1 bsh.2⟩
  have gs : Gd (tableF xs) ((madeF ls).filter (ofY v)) := ⟨g1.1, some_ok g1.2 v⟩
  have go : Gd ((tableF xs).filter (ofV v)) ((madeF ls).filter (ofY v)) := ⟨own_ok g1.1 v, some_ok g1.2 v⟩
  have e1 : nF (tableF xs) (madeF ls) = nF ((tableF xs).map (mvS v sh)) ((madeF ls).map (mvY v sh)) := nF_congr g1 gm fun p _ => (wS_moved _ _ _ _ p).symm
  have e2 : nF (tableF xs) ((madeF ls).filter (ofY v)) = nF ((tableF xs).filter (ofV v)) ((madeF ls).filter (ofY v)) := nF_congr gs go fun p _ => wS_own _ _ _ p
  (repeat (first | refine Jc ?_ | ((apply s_call; (case hg => rfl); (case hd => rfl); (case ha => rfl); (case hc => exact sane_con _); (case hL => (repeat (first | exact pm_nil _ | exact pm_refl _ _ | exact pm_self _ | apply pm_cons | apply pm_app))); rintro S1 _ _ h1 ⟨rfl, rfl⟩)) | ((apply z_call; rfl; rfl; rfl; exact hc1 _; rintro _ _ _ - ⟨rfl, rfl, rfl⟩)) | ((apply z_call; rfl; rfl; rfl; exact hc2 _; rintro _ _ _ - ⟨rfl, rfl, rfl⟩)) | refine Jo ?_ | intro _))
  (repeat (first | refine Jc ?_ | ((apply s_call; (case hg => rfl); (case hd => rfl); (case ha => rfl); (case hc => exact rTable_con xs A c _ (hA.le h1) hx); (case hL => (repeat (first | exact pm_nil _ | exact pm_refl _ _ | exact pm_self _ | apply pm_cons | apply pm_app))); rintro S2 L2 v2 h2 ⟨-, ho2⟩); refine W.freezeOws ho2 (List.Perm.refl _) fun S3 h3 hs3 => ?_; obtain ⟨At_, ct, rfl, hct, hT⟩ := hs3) | refine Jo ?_ | intro _))
  have h13 := (h1.trans h2).trans h3
  (repeat (first | refine Jc ?_ | ((apply s_call; (case hg => rfl); (case hd => rfl); (case ha => rfl); (case hc => exact rMade_con ls B d _ (hB.le h13) hl); (case hL => (repeat (first | exact pm_nil _ | exact pm_refl _ _ | exact pm_self _ | apply pm_cons | apply pm_app))); rintro S4 L4 v4 h4 ⟨-, ya, ho4, ka⟩); refine W.freezeOws ho4 (List.Perm.refl _) fun S5 h5 hs5 => ?_; obtain ⟨Aa, ca, rfl, hca, hAa⟩ := hs5) | refine Jo ?_ | intro _))
  have h35 := h4.trans h5
  have hT5 := hT.le h35
  have ka5 := ka.le h5
  have la := ka.1
  generalize hL : tableF xs = l at *
  generalize hY : madeF ls = ys at *
  refine c_loop (fun m S' L F => Le S5 S' ∧ ∃ (k : Nat) (v1 v2 : Value) (ob1 ob2 : Blocks), m = l.length - k ∧ k ≤ l.length ∧ Ows 60 v1 ((l.take k).map (mvS v sh)) ob1 ∧ Ows 60 v2 ((l.take k).filter (ofV v)) ob2 ∧ L = ob1 ++ ob2 ∧
      F = [(9, .bool true), (10, .int .i64 v), (11, .int .i64 sh), (12, .slice At_ l.length ct), (13, .slice Aa ya.length ca), (14, v1), (15, v2), (16, .int .i64 k)]) ⟨Le.refl _, 0, _, _, [], [], rfl, by omega, Ows.nil _, Ows.nil _, rfl, rfl⟩ sbF sbL ?_
  rintro m S6 L F ⟨h6, k, v1, v2, ob1, ob2, rfl, hk, ho1, hob2, rfl, rfl⟩
  have hT6 := hT5.le h6
  by_cases hkl : k < l.length
  · obtain ⟨s, hs⟩ := at_lt hkl
    obtain ⟨c1, c2, c3, c4, c5⟩ := bs s (List.mem_of_getElem? hs)
    have em := take_map_at (f := mvS v sh) hs
    have ef := take_filter_at (p := ofV v) hs
    have q1 : ((l.take k).map (mvS v sh)).length ≤ 15 := by rw [List.length_map, List.length_take]; omega
    have q2 : ((l.take k).filter (ofV v)).length ≤ 15 := Nat.le_trans (List.length_filter_le _ _) (by rw [List.length_take]; omega)
    generalize (l.take k).map (mvS v sh) = ms1 at *
    generalize (l.take k).filter (ofV v) = fs1 at *
    by_cases hsv : s.version = v
    · have e3 : mvS v sh s = Sym.mk s.version (s.from_ + sh) (s.to + sh) s.name := by unfold mvS; rw [if_pos hsv]
      have e4 : ofV v s = true := by unfold ofV; rw [decide_eq_true hsv]
      rw [e3] at em
      rw [e4, if_pos rfl] at ef
      (repeat (first | refine Jc ?_ | (apply s_idx hT6; (case hg => rfl); (case hd => rfl); (case hx => rfl); (case hi => rfl); (case hm => rfl); (case hu => exact hs); intro q (hq : Pts _ q [.int .i64 s.version, .int .i64 s.from_, .int .i64 s.to, strV s.name])) | (apply s_load_ag; (case hg => rfl); (case hd => rfl); (case hx => rfl); (case hv => exact hq); (case hl => rfl)) | (apply s_append (ms := [Sym.mk s.version s.from_ s.to s.name]); (case hg => rfl); (case hd => rfl); (case hx => rfl); (case ho => exact hob2); (case hL => (repeat (first | exact pm_nil _ | exact pm_refl _ _ | exact pm_self _ | apply pm_cons | apply pm_app))); (case hy => rfl); (case hm => rfl); (case hs => (apply Src.own; (repeat (first | exact List.Mem.head _ | apply List.Mem.tail | apply List.mem_append_right)))); (case hzs => rfl); (case h0 => decide); (case hb => (simp; omega)); (case h63 => (simp; omega)); intro v4' ob4 hob4) | (apply s_append (ms := [Sym.mk s.version (s.from_ + sh) (s.to + sh) s.name]); (case hg => rfl); (case hd => rfl); (case hx => rfl); (case ho => exact ho1); (case hL => (repeat (first | exact pm_nil _ | exact pm_refl _ _ | exact pm_self _ | apply pm_cons | apply pm_app))); (case hy => rfl); (case hm => rfl); (case hs => (apply Src.own; (repeat (first | exact List.Mem.head _ | apply List.Mem.tail | apply List.mem_append_right)))); (case hzs => rfl); (case h0 => decide); (case hb => (simp; omega)); (case h63 => (simp; omega)); intro v5' ob5 hob5) | refine Jo ?_ | intro _))
      rw [← em] at hob5
      rw [← ef] at hob4
      exact q_back (L' := ob5 ++ ob4) (m' := l.length - (k + 1)) ⟨h6, k + 1, _, _, ob5, ob4, rfl, by omega, hob5, hob4, rfl, rfl⟩ (by omega) sbF sbL
    · have e3 : mvS v sh s = Sym.mk s.version s.from_ s.to s.name := by unfold mvS; rw [if_neg hsv]
      have e4 : ofV v s = false := by unfold ofV; rw [decide_eq_false hsv]
      rw [e3] at em
      rw [e4, if_neg Bool.false_ne_true, List.append_nil] at ef
      (repeat (first | refine Jc ?_ | (apply s_idx hT6; (case hg => rfl); (case hd => rfl); (case hx => rfl); (case hi => rfl); (case hm => rfl); (case hu => exact hs); intro q (hq : Pts _ q [.int .i64 s.version, .int .i64 s.from_, .int .i64 s.to, strV s.name])) | (apply s_load_ag; (case hg => rfl); (case hd => rfl); (case hx => rfl); (case hv => exact hq); (case hl => rfl)) | (apply s_append (ms := [Sym.mk s.version s.from_ s.to s.name]); (case hg => rfl); (case hd => rfl); (case hx => rfl); (case ho => exact ho1); (case hL => (repeat (first | exact pm_nil _ | exact pm_refl _ _ | exact pm_self _ | apply pm_cons | apply pm_app))); (case hy => rfl); (case hm => rfl); (case hs => (apply Src.own; (repeat (first | exact List.Mem.head _ | apply List.Mem.tail | apply List.mem_append_right)))); (case hzs => rfl); (case h0 => decide); (case hb => (simp; omega)); (case h63 => (simp; omega)); intro v5' ob5 hob5) | refine Jo ?_ | intro _))
      rw [← em] at hob5
      rw [← ef] at hob2
      exact q_back (L' := ob5 ++ ob2) (m' := l.length - (k + 1)) ⟨h6, k + 1, _, _, ob5, ob2, rfl, by omega, hob5, hob2, rfl, rfl⟩ (by omega) sbF sbL
  rw [List.take_of_length_le (by omega)] at ho1 hob2
  refine W.freezeOws (L1 := ob2) ho1 (List.Perm.refl _) fun S7 h7 hs7 => ?_
  obtain ⟨Am, cm, rfl, hcm, hAm⟩ := hs7
  refine W.freezeOws (L1 := []) hob2 (by simp) fun S8 h8 hs8 => ?_
  obtain ⟨Ao, co, rfl, hco, hAo⟩ := hs8
  have h58 := (h6.trans h7).trans h8
  have hAm8 := hAm.le h8
  have hT8 := hT5.le h58
  have hA8 := hAa.le h58
  have ka8 := ka5.le h58
  (repeat (first | refine Jz ?_ | intro _))
  refine c_loop (fun m S' L F => Le S8 S' ∧ ∃ (k : Nat) (v1 v2 : Value) (ob1 ob2 : Blocks) (ra rs : List Stk), m = ya.length - k ∧ k ≤ ya.length ∧ Ows 29 v1 ra ob1 ∧ SkL S' ra ((ys.take k).map (mvY v sh)) ∧ Ows 29 v2 rs ob2 ∧ SkL S' rs ((ys.take k).filter (ofY v)) ∧ L = ob1 ++ ob2 ∧
      F = [(9, .bool true), (10, .int .i64 v), (11, .int .i64 sh), (12, .slice At_ l.length ct), (13, .slice Aa ya.length ca), (14, .slice Am (l.map (mvS v sh)).length cm), (15, .slice Ao (l.filter (ofV v)).length co), (18, v1), (19, v2), (20, .int .i64 k)]) ⟨Le.refl _, 0, _, _, [], [], [], [], rfl, by omega, Ows.nil _, SkL.nil _, Ows.nil _, SkL.nil _, rfl, rfl⟩ sbF sbL ?_
  rintro m S9 L F ⟨h9, k, v1', v2', ob1', ob2', ra, rs, rfl, hk', hra, kra, hrs, krs, rfl, rfl⟩
  have hA9 := hA8.le h9
  have ka9 := ka8.le h9
  by_cases hky : k < ya.length
  rotate_left
  · rw [List.take_of_length_le (by omega)] at kra krs
    refine W.freezeOws (L1 := ob2') hra (List.Perm.refl _) fun S10 h10 hs10 => ?_
    obtain ⟨A10, c10, rfl, _, hA10⟩ := hs10
    refine W.freezeOws (L1 := []) hrs (by simp) fun S11 h11 hs11 => ?_
    obtain ⟨A11, c11, rfl, _, hA11⟩ := hs11
    have h911 := h10.trans h11
    have hT11 := (hT8.le h9).le h911
    have hM11 := (hAm8.le h9).le h911
    have hO11 := (hAo.le h9).le h911
    have hY11 := hA9.le h911
    have k1 := ka9.le h911
    have k2 := kra.le h911
    have k3 := krs.le h911
    have hR11 := hA10.le h11
    (repeat (first | refine Jc ?_ | ((apply s_call; (case hg => rfl); (case hd => rfl); (case ha => rfl); (case hc => exact foldT g1 ya _ _ _ _ _ hT11 hY11 k1); (case hL => (repeat (first | exact pm_nil _ | exact pm_refl _ _ | exact pm_self _ | apply pm_cons | apply pm_app))); rintro S12 L12 _ h12 ⟨v12, rfl, ho12⟩); refine W.freezeOws ho12 (List.Perm.refl _) fun S13 h13' hs13 => ?_; obtain ⟨Ba, da, rfl, _, hba⟩ := hs13) | refine Jo ?_ | intro _))
    have m1 := h12.trans h13'
    (repeat (first | refine Jc ?_ | ((apply s_call; (case hg => rfl); (case hd => rfl); (case ha => rfl); (case hc => exact foldT gm ra _ _ _ _ _ (hM11.le m1) (hR11.le m1) (k2.le m1)); (case hL => (repeat (first | exact pm_nil _ | exact pm_refl _ _ | exact pm_self _ | apply pm_cons | apply pm_app))); rintro S14 L14 _ h14 ⟨v14, rfl, ho14⟩); refine W.freezeOws ho14 (List.Perm.refl _) fun S15 h15 hs15 => ?_; obtain ⟨Bb, db, rfl, _, hbb⟩ := hs15) | refine Jo ?_ | intro _))
    have m2 := h14.trans h15
    have m12 := m1.trans m2
    (repeat (first | refine Jc ?_ | ((apply s_call; (case hg => rfl); (case hd => rfl); (case ha => rfl); (case hc => exact foldT gs rs _ _ _ _ _ (hT11.le m12) (hA11.le m12) (k3.le m12)); (case hL => (repeat (first | exact pm_nil _ | exact pm_refl _ _ | exact pm_self _ | apply pm_cons | apply pm_app))); rintro S16 L16 _ h16 ⟨v16, rfl, ho16⟩); refine W.freezeOws ho16 (List.Perm.refl _) fun S17 h17 hs17 => ?_; obtain ⟨Bc, dc, rfl, _, hbc⟩ := hs17) | refine Jo ?_ | intro _))
    have m3 := h16.trans h17
    have m13 := m12.trans m3
    (repeat (first | refine Jc ?_ | ((apply s_call; (case hg => rfl); (case hd => rfl); (case ha => rfl); (case hc => exact foldT go rs _ _ _ _ _ (hO11.le m13) (hA11.le m13) (k3.le m13)); (case hL => (repeat (first | exact pm_nil _ | exact pm_refl _ _ | exact pm_self _ | apply pm_cons | apply pm_app))); rintro S18 L18 _ h18 ⟨v18, rfl, ho18⟩); refine W.freezeOws ho18 (List.Perm.refl _) fun S19 h19 hs19 => ?_; obtain ⟨Bd, dd, rfl, _, hbd⟩ := hs19) | refine Jo ?_ | intro _))
    have m4 := h18.trans h19
    have p1 := ((hba.le m2).le m3).le m4
    have p2 := (hbb.le m3).le m4
    have p3 := hbc.le m4
    (repeat (first | refine Jc ?_ | ((apply s_call; (case hg => rfl); (case hd => rfl); (case ha => rfl); (case hc => exact sameT (nF_len g1) e1 _ _ _ _ _ p1 p2); (case hL => (repeat (first | exact pm_nil _ | exact pm_refl _ _ | exact pm_self _ | apply pm_cons | apply pm_app))); rintro _ _ _ - ⟨rfl, rfl, rfl⟩)) | ((apply s_call; (case hg => rfl); (case hd => rfl); (case ha => rfl); (case hc => exact sameT (nF_len gs) e2 _ _ _ _ _ p3 hbd); (case hL => (repeat (first | exact pm_nil _ | exact pm_refl _ _ | exact pm_self _ | apply pm_cons | apply pm_app))); rintro _ _ _ - ⟨rfl, rfl, rfl⟩)) | refine Jo ?_ | intro _))
    exact o_ret (L' := []) Try.results8 rfl (List.nil_sublist _) ⟨rfl, rfl⟩
  obtain ⟨z, hz⟩ := at_lt hky
  obtain ⟨y, hy⟩ : ∃ y, ys[k]? = some y := at_lt (by omega)
  have hym := List.mem_of_getElem? hy
  have hys := hsm y hym
  obtain ⟨w1, w2, w3⟩ := sks_at g1.2 hym
  obtain ⟨s1, s2, s3, s4, s5⟩ := ka9.2 k z y hz hy
  obtain ⟨zv, ⟨za, zm, zc⟩, zw⟩ := z
  simp only at s1 s2 s3 s4 s5
  subst s1; subst s2; subst s3
  have em := take_map_at (f := mvY v sh) hy
  have ef := take_filter_at (p := ofY v) hy
  have q1 : ra.length ≤ 10 := by rw [kra.1, List.length_map, List.length_take]; omega
  have q2 : rs.length ≤ 10 := by rw [krs.1]; exact Nat.le_trans (List.length_filter_le _ _) (by rw [List.length_take]; omega)
  have hr9 : skR S9 (Stk.mk y.version ⟨za, y.frames.length, zc⟩ y.weight) y := ⟨rfl, rfl, rfl, s4, s5⟩
  by_cases hyv : y.version = v
  rotate_left
  · have e3 : mvY v sh y = y := by unfold mvY; rw [if_neg hyv]
    have e4 : ofY v y = false := by unfold ofY; rw [decide_eq_false hyv]
    rw [e3] at em
    rw [e4, if_neg Bool.false_ne_true, List.append_nil] at ef
    (repeat (first | refine Jc ?_ | (apply s_idx hA9; (case hg => rfl); (case hd => rfl); (case hx => rfl); (case hi => rfl); (case hm => rfl); (case hu => exact hz); intro q (hq : Pts _ q [.int .i64 y.version, .slice za y.frames.length zc, .int .i64 y.weight])) | (apply s_load_ag; (case hg => rfl); (case hd => rfl); (case hx => rfl); (case hv => exact hq); (case hl => rfl)) | (apply s_append (ms := [Stk.mk y.version ⟨za, y.frames.length, zc⟩ y.weight]); (case hg => rfl); (case hd => rfl); (case hx => rfl); (case ho => exact hra); (case hL => (repeat (first | exact pm_nil _ | exact pm_refl _ _ | exact pm_self _ | apply pm_cons | apply pm_app))); (case hy => rfl); (case hm => rfl); (case hs => (apply Src.own; (repeat (first | exact List.Mem.head _ | apply List.Mem.tail | apply List.mem_append_right)))); (case hzs => rfl); (case h0 => decide); (case hb => (simp; omega)); (case h63 => (simp; omega)); intro v5' ob5 hob5) | refine Jo ?_ | intro _))
    exact q_back (L' := ob5 ++ ob2') (m' := ya.length - (k + 1)) ⟨h9, k + 1, _, _, ob5, ob2', _, rs, rfl, by omega, hob5, by rw [em]; exact kra.snoc hr9, hrs, by rw [ef]; exact krs, rfl, rfl⟩ (by omega) sbF sbL
  have e3 : mvY v sh y = ⟨y.version, y.frames.map fun a => a + sh, y.weight⟩ := by unfold mvY; rw [if_pos hyv]
  have e4 : ofY v y = true := by unfold ofY; rw [decide_eq_true hyv]
  rw [e3] at em
  rw [e4, if_pos rfl] at ef
  (repeat (first | refine Jc ?_ | (apply s_idx hA9; (case hg => rfl); (case hd => rfl); (case hx => rfl); (case hi => rfl); (case hm => rfl); (case hu => exact hz); intro q (hq : Pts _ q [.int .i64 y.version, .slice za y.frames.length zc, .int .i64 y.weight])) | (apply s_load_ag; (case hg => rfl); (case hd => rfl); (case hx => rfl); (case hv => exact hq); (case hl => rfl)) | (apply s_append (ms := [Stk.mk y.version ⟨za, y.frames.length, zc⟩ y.weight]); (case hg => rfl); (case hd => rfl); (case hx => rfl); (case ho => exact hrs); (case hL => (repeat (first | exact pm_nil _ | exact pm_refl _ _ | exact pm_self _ | apply pm_cons | apply pm_app))); (case hy => rfl); (case hm => rfl); (case hs => (apply Src.own; (repeat (first | exact List.Mem.head _ | apply List.Mem.tail | apply List.mem_append_right)))); (case hzs => rfl); (case h0 => decide); (case hb => (simp; omega)); (case h63 => (simp; omega)); intro v4' ob4 hob4) | refine Jo ?_ | intro _))
  rename_i b21 _
  refine c_loop (fun m S' L F => S' = S9 ∧ ∃ (j : Nat) (fv : Value) (obf : Blocks), m = y.frames.length - j ∧ j ≤ y.frames.length ∧ Ows 3 fv ((y.frames.take j).map fun a => a + sh) obf ∧ L = obf ++ (ob4 ++ ((b21, .cells [.int .i64 y.version, fv, .int .i64 y.weight].toArray 29 (0, 0)) :: ob1')) ∧
      F = [(9, .bool true), (10, .int .i64 v), (11, .int .i64 sh), (12, .slice At_ l.length ct), (13, .slice Aa ya.length ca), (14, .slice Am (l.map (mvS v sh)).length cm), (15, .slice Ao (l.filter (ofV v)).length co), (18, v1'), (19, v4'), (20, .int .i64 k), (21, .pointer (some ⟨b21, 0, none⟩)), (22, .int .i64 j)]) ⟨rfl, 0, _, [], rfl, by omega, Ows.nil _, rfl, rfl⟩ sbF (by rw [List.nil_append]; refine List.Sublist.append (List.Sublist.refl ob4) (List.Sublist.cons _ ?_); exact List.Sublist.cons_cons _ (List.sublist_append_left _ _)) ?_
  rintro m S10 L F ⟨rfl, j, fv, obf, rfl, hj, hof, rfl, rfl⟩
  by_cases hjl : j < y.frames.length
  · obtain ⟨a, ha⟩ := at_lt hjl
    have hab := hys a (List.mem_of_getElem? ha)
    have hff : ((y.frames.take j).map fun a => a + sh).length = j := by rw [List.length_map, List.length_take]; omega
    have hfs := take_map_at (f := fun a => a + sh) ha
    generalize (y.frames.take j).map (fun a => a + sh) = fs at *
    (repeat (first | refine Jc ?_ | (apply s_idx hA9; (case hg => rfl); (case hd => rfl); (case hx => rfl); (case hi => rfl); (case hm => rfl); (case hu => exact hz); intro q (hq : Pts _ q [.int .i64 y.version, .slice za y.frames.length zc, .int .i64 y.weight])) | (apply s_load_f; (case hg => rfl); (case hd => rfl); (case hx => rfl); (case h => exact hq); (case hv => rfl)) | refine Jo ?_ | intro _))
    ((apply c_held ([]); (case hL => (exact sbT))); refine Jf 0 ?_; refine Jf 2 ?_; refine Jf 3 ?_; (apply h_idx hA9 4; (case hi => rfl); (case hr => kernel_rfl); (case hfr => kernel_rfl); (case hsel => kernel_rfl); (case hg => rfl); (case hd => rfl); (case i1 => infer_instance); (case i2 => infer_instance); (case hx => rfl); (case hy => rfl); (case hm => rfl); (case hu => exact hz); intro q2 (hq2 : Pts _ q2 [.int .i64 y.version, .slice za y.frames.length zc, .int .i64 y.weight])); refine Jf 5 ?_; (apply h_first 6; (case hi => rfl); (case hr => kernel_rfl); (case hfr => kernel_rfl); (case hsel => kernel_rfl); (case hg => rfl); (case hd => rfl); (case he => (apply ev_load_f; (case hx => rfl); (case h => exact hq2); (case hv => rfl)))); refine Jf 7 ?_; (apply h_idx s5 8; (case hi => rfl); (case hr => kernel_rfl); (case hfr => kernel_rfl); (case hsel => kernel_rfl); (case hg => rfl); (case hd => rfl); (case i1 => infer_instance); (case i2 => infer_instance); (case hx => rfl); (case hy => rfl); (case hm => rfl); (case hu => exact ha); intro q3 (hq3 : Pts _ q3 [.int .i64 a])); (apply h_first 9; (case hi => rfl); (case hr => kernel_rfl); (case hfr => kernel_rfl); (case hsel => kernel_rfl); (case hg => rfl); (case hd => rfl); (case he => (apply ev_load1; (case hx => rfl); (case h => exact hq3)))); refine Jf 10 ?_; refine Jf 11 ?_; (apply h_two 1 12; (case hr => kernel_rfl)); (case k1 => ((apply n_ev; (case hi => rfl); (case hg => rfl); (case hd => rfl); (case he => (apply ev_load_own; (case hx => rfl); (case hm => (repeat (first | exact List.Mem.head _ | apply List.Mem.tail | apply List.mem_append_right))); (case h => rfl)))); (apply h_one 12; (case hr => kernel_rfl)); (refine X.Jn ?_; try intro _); (apply h_one 13; (case hr => kernel_rfl)); ((apply n_append (ms := [(a + sh : Int)]); (case hi => rfl); (case hT => infer_instance); (case hsz => infer_instance); (case hz => infer_instance); (case hby => infer_instance); (case hg => rfl); (case hd => rfl); (case hx => rfl); (case ho => exact hof); (case hL => (repeat (first | exact pm_nil _ | exact pm_refl _ _ | exact pm_self _ | apply pm_cons | apply pm_app))); (case hy => rfl); (case hm => rfl); (case hs => (apply Src.own; (repeat (first | exact List.Mem.head _ | apply List.Mem.tail | apply List.mem_append_right)))); (case hzs => rfl); (case h0 => decide); (case hb => (simp; omega)); (case h63 => (simp; omega)); (case hsub => (intros; (exact sbT))); intro fv2 obf2 hof2); obtain ⟨A', c', rfl⟩ := hof2.form); refine Jf 14 ?_; (apply h_one 15; (case hr => kernel_rfl)); (apply n_store; (case hi => rfl); (case i1 => infer_instance); (case hg => rfl); (case hx => rfl); (case hy => rfl); (case h1 => rfl); (case hL => (repeat (first | exact Upd.head | apply Upd.tail | apply Upd.app))); (case hu => rfl); (case hsub => (intro _; (exact sbT)))); (apply h_end; (case hr => kernel_rfl)); ((((repeat (first | refine Jz ?_ | intro _))); rw [← hfs] at hof2 ⊢; exact q_back (L' := obf2 ++ (ob4 ++ ((b21, .cells [.int .i64 y.version, .slice A' ((y.frames.take (j + 1)).map fun a => a + sh).length c', .int .i64 y.weight].toArray 29 (0, 0)) :: ob1'))) (m' := y.frames.length - (j + 1)) ⟨rfl, j + 1, _, obf2, rfl, by omega, hof2, rfl, rfl⟩ (by omega) sbF sbL)))); (case k2 => ((refine X.Jn ?_; try intro _); (apply h_one 1; (case hr => kernel_rfl)); (apply n_ev; (case hi => rfl); (case hg => rfl); (case hd => rfl); (case he => (apply ev_load_own; (case hx => rfl); (case hm => (repeat (first | exact List.Mem.head _ | apply List.Mem.tail | apply List.mem_append_right))); (case h => rfl)))); (apply h_one 13; (case hr => kernel_rfl)); ((apply n_append (ms := [(a + sh : Int)]); (case hi => rfl); (case hT => infer_instance); (case hsz => infer_instance); (case hz => infer_instance); (case hby => infer_instance); (case hg => rfl); (case hd => rfl); (case hx => rfl); (case ho => exact hof); (case hL => (repeat (first | exact pm_nil _ | exact pm_refl _ _ | exact pm_self _ | apply pm_cons | apply pm_app))); (case hy => rfl); (case hm => rfl); (case hs => (apply Src.own; (repeat (first | exact List.Mem.head _ | apply List.Mem.tail | apply List.mem_append_right)))); (case hzs => rfl); (case h0 => decide); (case hb => (simp; omega)); (case h63 => (simp; omega)); (case hsub => (intros; (exact sbT))); intro fv2 obf2 hof2); obtain ⟨A', c', rfl⟩ := hof2.form); refine Jf 14 ?_; (apply h_one 15; (case hr => kernel_rfl)); (apply n_store; (case hi => rfl); (case i1 => infer_instance); (case hg => rfl); (case hx => rfl); (case hy => rfl); (case h1 => rfl); (case hL => (repeat (first | exact Upd.head | apply Upd.tail | apply Upd.app))); (case hu => rfl); (case hsub => (intro _; (exact sbT)))); (apply h_end; (case hr => kernel_rfl)); ((((repeat (first | refine Jz ?_ | intro _))); rw [← hfs] at hof2 ⊢; exact q_back (L' := obf2 ++ (ob4 ++ ((b21, .cells [.int .i64 y.version, .slice A' ((y.frames.take (j + 1)).map fun a => a + sh).length c', .int .i64 y.weight].toArray 29 (0, 0)) :: ob1'))) (m' := y.frames.length - (j + 1)) ⟨rfl, j + 1, _, obf2, rfl, by omega, hof2, rfl, rfl⟩ (by omega) sbF sbL)))))
  rw [List.take_of_length_le (by omega)] at hof
  refine W.freezeOws (L1 := ob4 ++ ((b21, .cells [.int .i64 y.version, fv, .int .i64 y.weight].toArray 29 (0, 0)) :: ob1')) hof (List.Perm.refl _) fun S11 h11 hs11 => ?_
  obtain ⟨Af, cf, rfl, hcf, hAf⟩ := hs11
  have hr11 : skR S11 (Stk.mk y.version ⟨Af, (y.frames.map fun a => a + sh).length, cf⟩ y.weight) ⟨y.version, y.frames.map fun a => a + sh, y.weight⟩ := ⟨rfl, rfl, rfl, hcf, hAf⟩
  have hA11 := hA9.le h11
  (repeat (first | refine Jc ?_ | (apply s_idx hA11; (case hg => rfl); (case hd => rfl); (case hx => rfl); (case hi => rfl); (case hm => rfl); (case hu => exact hz); intro q (hq : Pts _ q [.int .i64 y.version, .slice za y.frames.length zc, .int .i64 y.weight])) | (apply s_load_f; (case hg => rfl); (case hd => rfl); (case hx => rfl); (case h => exact hq); (case hv => rfl)) | (apply s_append (ms := [Stk.mk y.version ⟨Af, (y.frames.map fun a => a + sh).length, cf⟩ y.weight]); (case hg => rfl); (case hd => rfl); (case hx => rfl); (case ho => exact hra); (case hL => (repeat (first | exact pm_nil _ | exact pm_refl _ _ | exact pm_self _ | apply pm_cons | apply pm_app))); (case hy => rfl); (case hm => rfl); (case hs => (apply Src.own; (repeat (first | exact List.Mem.head _ | apply List.Mem.tail | apply List.mem_append_right)))); (case hzs => rfl); (case h0 => decide); (case hb => (simp; omega)); (case h63 => (simp; omega)); intro v5' ob5 hob5) | refine Jo ?_ | intro _))
  exact q_back (L' := ob5 ++ ob4) (m' := ya.length - (k + 1)) ⟨h9.trans h11, k + 1, _, _, ob5, ob4, _, _, rfl, by omega, hob5, by rw [em]; exact (kra.le h11).snoc hr11, hob4, by rw [ef]; exact (krs.snoc hr9).le h11, rfl, rfl⟩ (by omega) sbF sbL
end Go.Proofs.Ytcnfchchanlepaa
namespace Go.Proofs.Ytcnfchchanlepaa
open Go Go.X
open Go.ChangeShapes Go.WideShapes Go.ChangeAt Go.RowKit
set_option linter.unusedVariables false
set_option maxRecDepth 100000 in
theorem liftedProfileVersions (os : Os) (started : os.Started) (H : Type) (enc : TypeId × Value → H) :
    ReturnsInHanded {} Try.checked os 8 .any (Rows.profileVersionsSpec.pre6 enc Try.prog Try.f8 Rows.profileVersionsRow.domain false) (Rows.profileVersionsSpec.post enc Try.prog Try.f8 false true false false) := by
  refine returnsInHanded_of_change (C := Try.checked) own started (by kernel_rfl) Try.func8
    (ChangeSpec.witness6 (enc := enc) (C := Try.checked) false ⟨#[], #[.slice none 0 0, .slice none 0 0, .int .i64 0, .int .i64 0], []⟩ 8 (by kernel_rfl) (by kernel_rfl) (by kernel_rfl) (by kernel_rfl)) ?_
  intro W base args ds gs before hval0 hW hcnd _
  have hval : ∀ (j : Nat) t v, Try.f8.params[j]? = some t → args[j]? = some v → Value.okWide Try.prog W .any base t v := hval0
  have hW' := hW
  obtain ⟨p, q, hA0, hV, rfl, hfz, hnd⟩ := hW
  have hA : DataW.TrodAll enc Try.prog W 0 (fun _ => true) true Try.f8.params.toList args.toList ds p := hA0
  rw [Try.params8] at hA hval
  obtain ⟨v0, vs0, d0, ds0, p0, q0, hargs, rfl, rfl, h0, r0⟩ := trodAll_cons hA
  obtain ⟨v1, vs1, d1, ds1, p1, q1, rfl, rfl, rfl, h1, r1⟩ := trodAll_cons r0
  obtain ⟨v2, vs2, d2, ds2, p2, q2, rfl, rfl, rfl, h2, r2⟩ := trodAll_cons r1
  obtain ⟨v3, vs3, d3, ds3, p3, q3, rfl, rfl, rfl, h3, r3⟩ := trodAll_cons r2
  obtain ⟨rfl, rfl, rfl⟩ := trodAll_nil r3
  obtain rfl : args = #[v0, v1, v2, v3] := by cases args; simp_all
  obtain ⟨rfl, rfl⟩ := trodVars_none hV
  have k0 := h0
  have lt0 : ∀ x ∈ p0, x.block < W.heap.size := by obtain ⟨m, hm⟩ := k0; exact DataW.trod_lt m _ _ _ hm
  have k1 := h1
  have lt1 : ∀ x ∈ p1, x.block < W.heap.size := by obtain ⟨m, hm⟩ := k1; exact DataW.trod_lt m _ _ _ hm
  have k2 := h2
  have lt2 : ∀ x ∈ p2, x.block < W.heap.size := by obtain ⟨m, hm⟩ := k2; exact DataW.trod_lt m _ _ _ hm
  have k3 := h3
  have lt3 : ∀ x ∈ p3, x.block < W.heap.size := by obtain ⟨m, hm⟩ := k3; exact DataW.trod_lt m _ _ _ hm
  obtain ⟨a0, len0, cap0, rfl⟩ := okWide_slice Try.underlying24 (hval 0 24 v0 rfl rfl)
  obtain ⟨xs0, rfl, gl0, gA0, gx0⟩ := open_sl (α := A3) Try.underlying24 (by kernel_rfl) rdb_A3 rfl h0
  obtain ⟨a1, len1, cap1, rfl⟩ := okWide_slice Try.underlying25 (hval 1 25 v1 rfl rfl)
  obtain ⟨xs1, rfl, gl1, gA1, gx1⟩ := open_sl (α := A6) Try.underlying25 (by kernel_rfl) rdb_A6 rfl h1
  obtain ⟨a2, rfl, e1_2, e2_2, w2⟩ := open_int Try.underlying3 (hval 2 3 v2 rfl rfl) h2
  obtain ⟨a3, rfl, e1_3, e2_3, w3⟩ := open_int Try.underlying3 (hval 3 3 v3 rfl rfl) h3
  refine (calls_of_con (vers_law xs0 a0 cap0 xs1 a1 cap1 a2 a3 (allOf W) gA0 gx0 gA1 gx1 (i64_wf w2) (i64_wf w3)) fun _ _ _ h => h.2).mono fun e W' ⟨he, bel⟩ => ?_
  subst he
  exact ⟨_, rfl, _, _, _, [], _, [], hW', trodAll_mk1 (shut_bool Try.underlying4 _), (trodAll_cons_mk (Below.trod laidOut (by kernel_rfl) (of_decide_eq_true (by kernel_rfl)) k0 bel lt0) (trodAll_cons_mk (Below.trod laidOut (by kernel_rfl) (of_decide_eq_true (by kernel_rfl)) k1 bel lt1) (trodAll_cons_mk (Below.trod laidOut (by kernel_rfl) (of_decide_eq_true (by kernel_rfl)) k2 bel lt2) (trodAll_cons_mk (Below.trod laidOut (by kernel_rfl) (of_decide_eq_true (by kernel_rfl)) k3 bel lt3) trodAll_mk0)))), rfl, bel.frame _, fun h => by cases h⟩
theorem overProfileVersions : Rows.profileVersionsRow.holds Try.pinned (OpenSpec.ofChange Rows.profileVersionsSpec) :=
  OpenClaim.holds_of_wide 8 Try.f8 rfl rfl rfl rfl rfl rfl rfl ⟨rfl, rfl, rfl, rfl, rfl⟩ rfl rfl rfl rfl rfl (by kernel_rfl) Try.func8 (by kernel_rfl)
    (of_decide_eq_true (by kernel_rfl)) (by unfold Func.isWrapper; rw [if_neg (of_decide_eq_false (by kernel_rfl))]; exact ⟨rfl, rfl⟩)
    (fun os started H enc _ => liftedProfileVersions os started H enc)
theorem profileVersions_holds : Rows.ProfileVersionsSaid := overProfileVersions
#print axioms profileVersions_holds
end Go.Proofs.Ytcnfchchanlepaa
