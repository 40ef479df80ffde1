/- Contracts of functions of this program, each proved by a walk through its code, and plain lemmas on what they compute; on no condition beyond those that each theorem states. -/
import Derived.Test.YtmonkjbhoabhhaaBb
import Derived.Test.YtmonkjbhoabhhaaX
import Derived.WideKeyPair
import Derived.DeepKeys4
namespace Go.Proofs.Ytmonkjbhoabhhaa
open Go Go.X
set_option linter.unusedVariables false
/-! ### Moments -/
theorem lt_ext : ∀ (a b : List Int), a.Pairwise (· < ·) → b.Pairwise (· < ·) → (∀ x, x ∈ a ↔ x ∈ b) → a = b
  | [], [], _, _, _ => rfl
  | [], y :: b, _, _, h => by have := (h y).2 List.mem_cons_self; cases this
  | x :: a, [], _, _, h => by have := (h x).1 List.mem_cons_self; cases this
  | x :: a, y :: b, ha, hb, h => by
    obtain ⟨ha1, ha2⟩ := List.pairwise_cons.1 ha
    obtain ⟨hb1, hb2⟩ := List.pairwise_cons.1 hb
    have hxy : x = y := by
      rcases List.mem_cons.1 ((h x).1 List.mem_cons_self) with e | e
      · exact e
      · rcases List.mem_cons.1 ((h y).2 List.mem_cons_self) with e' | e'
        · exact e'.symm
        · have := ha1 _ e'; have := hb1 _ e; omega
    subst hxy
    rw [lt_ext a b ha2 hb2 fun z => ?_]
    constructor
    · intro hz
      rcases List.mem_cons.1 ((h z).1 (List.mem_cons_of_mem _ hz)) with e | e
      · have := ha1 _ hz; omega
      · exact e
    · intro hz
      rcases List.mem_cons.1 ((h z).2 (List.mem_cons_of_mem _ hz)) with e | e
      · have := hb1 _ hz; omega
      · exact e
theorem sorted_le {zs : List Int} (h : zs.Pairwise (· ≤ ·)) {i j : Nat} (hij : i ≤ j) (hj : j < zs.length) : zs.toArray[i]! ≤ zs.toArray[j]! := by
  have hi : i < zs.length := by omega
  simp only [List.getElem!_toArray, getElem!_pos zs i hi, getElem!_pos zs j hj]
  rcases Nat.lt_or_eq_of_le hij with hlt | rfl
  · exact List.pairwise_iff_getElem.1 h i j hi hj hlt
  · exact Int.le_refl _
theorem cut_sorted (zs : List Int) (hs : zs.Pairwise (· ≤ ·)) : ∀ m, m ≤ zs.length → (Lib.compactUpTo zs.toArray m).Pairwise (· < ·) ∧ (∀ x, x ∈ Lib.compactUpTo zs.toArray m ↔ ∃ j, j < m ∧ zs.toArray[j]! = x)
  | 0, _ => by simp [Lib.compactUpTo]
  | m + 1, hm => by
    obtain ⟨h1, h2⟩ := cut_sorted zs hs m (by omega)
    rw [Lib.compactUpTo_succ]
    cases hk : Lib.keeps zs.toArray m
    · have hm0 : m ≠ 0 := fun e => by subst e; simp [Lib.keeps] at hk
      have heq : zs.toArray[m]! = zs.toArray[m - 1]! := Classical.byContradiction fun hne => by
        rw [Lib.keeps_pos hne] at hk; cases hk
      simp only [Bool.false_eq_true, if_false, List.append_nil]
      refine ⟨h1, fun x => (h2 x).trans ⟨fun ⟨j, hj, e⟩ => ⟨j, by omega, e⟩, fun ⟨j, hj, e⟩ => ?_⟩⟩
      rcases Nat.lt_or_eq_of_le (Nat.lt_succ_iff.1 hj) with hlt | rfl
      · exact ⟨j, hlt, e⟩
      · exact ⟨j - 1, by omega, heq.symm.trans e⟩
    · simp only [if_true]
      constructor
      · rw [List.pairwise_append]
        refine ⟨h1, by simp, fun x hx y hy => ?_⟩
        simp only [List.mem_singleton] at hy
        subst hy
        obtain ⟨j, hj, rfl⟩ := (h2 x).1 hx
        have hne : zs.toArray[m]! ≠ zs.toArray[m - 1]! := fun e => by
          rw [Lib.keeps_neg (by omega) e] at hk; cases hk
        have a1 := sorted_le hs (show j ≤ m - 1 by omega) (by omega)
        have a2 := sorted_le hs (show m - 1 ≤ m by omega) (by omega)
        omega
      · intro x
        rw [List.mem_append, h2, List.mem_singleton]
        constructor
        · rintro (⟨j, hj, e⟩ | rfl)
          · exact ⟨j, by omega, e⟩
          · exact ⟨m, by omega, rfl⟩
        · rintro ⟨j, hj, e⟩
          rcases Nat.lt_or_eq_of_le (Nat.lt_succ_iff.1 hj) with hlt | rfl
          · exact .inl ⟨j, hlt, e⟩
          · exact .inr e.symm
theorem compact_sorted (zs : List Int) (hs : zs.Pairwise (· ≤ ·)) : (Lib.compact zs).Pairwise (· < ·) ∧ ∀ x, x ∈ Lib.compact zs ↔ x ∈ zs := by
  obtain ⟨h1, h2⟩ := cut_sorted zs hs zs.length (Nat.le_refl _)
  refine ⟨h1, fun x => (h2 x).trans ?_⟩
  rw [List.mem_iff_getElem]
  constructor
  · rintro ⟨j, hj, e⟩; exact ⟨j, hj, by simpa [getElem!_pos zs j hj] using e⟩
  · rintro ⟨j, hj, e⟩; exact ⟨j, hj, by simpa [getElem!_pos zs j hj] using e⟩
theorem moms_spec (ds : List Dep) : (moms ds).Pairwise (· < ·) ∧ ∀ x, x ∈ moms ds ↔ x ∈ ends ds := by
  have hs : ((ends ds).mergeSort le_).Pairwise (· ≤ ·) := by
    have := List.pairwise_mergeSort (le := le_) (fun a b c h1 h2 => by simp [le_] at *; omega) (fun a b => by simp [le_]; omega) (ends ds)
    exact this.imp fun h => by simpa [le_] using h
  obtain ⟨h1, h2⟩ := compact_sorted _ hs
  exact ⟨h1, fun x => (h2 x).trans (List.mergeSort_perm _ _).mem_iff⟩
theorem ins_mem (l : List Int) (n x : Int) : x ∈ ins l n ↔ x = n ∨ x ∈ l := by
  induction l with
  | nil => simp [ins]
  | cons y l ih =>
    simp only [ins]
    split
    · simp only [List.mem_cons, ih]
      constructor
      · rintro (h | h | h) <;> simp [h]
      · rintro (h | h | h) <;> simp [h]
    · split
      · rename_i h; subst h; simp
      · simp
theorem ins_sorted (l : List Int) (n : Int) (h : l.Pairwise (· < ·)) : (ins l n).Pairwise (· < ·) := by
  induction l with
  | nil => simp [ins]
  | cons y l ih =>
    obtain ⟨h1, h2⟩ := List.pairwise_cons.1 h
    simp only [ins]
    split
    · rename_i hlt
      refine List.pairwise_cons.2 ⟨fun x hx => ?_, ih h2⟩
      rcases (ins_mem l n x).1 hx with rfl | hx
      · exact hlt
      · exact h1 x hx
    · split
      · exact h
      · refine List.pairwise_cons.2 ⟨fun x hx => ?_, h⟩
        rcases List.mem_cons.1 hx with rfl | hx
        · omega
        · have := h1 x hx; omega
theorem insAll_spec (ds : List Dep) : (insAll ds).Pairwise (· < ·) ∧ ∀ x, x ∈ insAll ds ↔ x ∈ ends ds := by
  have key : ∀ (ds : List Dep) (l : List Int), l.Pairwise (· < ·) → (ds.foldl (fun l d => ins (ins l d.frm) d.to) l).Pairwise (· < ·) ∧ ∀ x, x ∈ ds.foldl (fun l d => ins (ins l d.frm) d.to) l ↔ x ∈ l ∨ x ∈ ds.flatMap fun d => [d.frm, d.to] := by
    intro ds
    induction ds with
    | nil => intro l h; simp [h]
    | cons d ds ih =>
      intro l h
      obtain ⟨h1, h2⟩ := ih (ins (ins l d.frm) d.to) (ins_sorted _ _ (ins_sorted _ _ h))
      refine ⟨h1, fun x => ?_⟩
      rw [List.foldl_cons, h2, ins_mem, ins_mem]
      simp only [List.flatMap_cons, List.mem_append, List.mem_cons, List.not_mem_nil, or_false]
      constructor
      · rintro ((h | h | h) | h) <;> simp [h]
      · rintro (h | (h | h) | h) <;> simp [h]
  obtain ⟨h1, h2⟩ := key ds [0] (by simp)
  exact ⟨h1, fun x => by rw [insAll, h2]; simp [ends]⟩
theorem moms_eq (ds : List Dep) : moms ds = insAll ds :=
  lt_ext _ _ (moms_spec ds).1 (insAll_spec ds).1 fun x => ((moms_spec ds).2 x).trans ((insAll_spec ds).2 x).symm
/-! ### Parts -/
theorem idxs_filter (p q : Nat → Bool) (n : Nat) : (idxs p n).filter (fun i => q i.toNat) = idxs (fun i => p i && q i) n := by
  simp only [idxs, List.filter_map, List.filter_filter]
  congr 1
  apply List.filter_congr
  intro i _
  simp [Bool.and_comm]
theorem idxs_nil {p : Nat → Bool} {n : Nat} : idxs p n = [] ↔ ∀ i, i < n → p i = false := by
  simp only [idxs, List.map_eq_nil_iff, List.filter_eq_nil_iff, List.mem_range, Bool.not_eq_true]
theorem idxs_len_eq {p q : Nat → Bool} {n : Nat} : (idxs (fun i => p i && q i) n).length = (idxs p n).length ↔ ∀ i, i < n → p i = true → q i = true := by
  rw [← idxs_filter, List.length_filter_eq_length_iff]
  simp only [idxs_mem]
  constructor
  · intro h i hi hp
    have := h i ⟨by simp, by simpa using hi, by simpa using hp⟩
    simpa using this
  · rintro h x ⟨h1, h2, h3⟩
    exact h _ h2 h3
theorem cands20 {ds : List Dep} (hd : ds.length ≤ 20) (ls : List Tri) (wr : Int) : idxs (candP ds ls wr) 20 = cands ds ls wr :=
  idxs_more hd fun i hi => by simp [candP, show ¬ i < ds.length by omega]
theorem andB20 {ds : List Dep} (hd : ds.length ≤ 20) (ls : List Tri) (wr t : Int) : cnt20 (andB ds (candP ds ls wr) t) = inPart ds (cands ds ls wr) t := by
  simp only [cnt20, inPart]
  rw [← cands20 hd, idxs_filter]
  rfl
theorem skip_split {ds : List Dep} (hd : ds.length ≤ 20) (ls : List Tri) (wr t : Int) : skipB ds (candP ds ls wr) t = !splitB ds (cands ds ls wr) t := by
  have h1 : sEq (candP ds ls wr) (andB ds (candP ds ls wr) t) = decide (inPart ds (cands ds ls wr) t = (cands ds ls wr).length) := by
    rw [← andB20 hd, ← cands20 hd, Bool.eq_iff_iff]
    simp only [sEq, List.all_eq_true, List.mem_range, beq_iff_eq, decide_eq_true_eq, cnt20, Int.natCast_inj]
    have := idxs_len_eq (p := candP ds ls wr) (q := onAt ds t) (n := 20)
    rw [show (idxs (andB ds (candP ds ls wr) t) 20).length = (idxs (fun i => candP ds ls wr i && onAt ds t i) 20).length from rfl, this]
    constructor
    · intro h i hi hp
      have := h i hi
      simp only [andB, hp, Bool.true_and] at this
      exact this
    · intro h i hi
      simp only [andB]
      cases hp : candP ds ls wr i
      · simp
      · simp [h i hi hp]
  have h2 : sNo (andB ds (candP ds ls wr) t) = decide (inPart ds (cands ds ls wr) t = 0) := by
    rw [← andB20 hd, Bool.eq_iff_iff]
    have e : cnt20 (andB ds (candP ds ls wr) t) = 0 ↔ idxs (andB ds (candP ds ls wr) t) 20 = [] := by rw [← List.length_eq_zero_iff, cnt20]; omega
    rw [decide_eq_true_eq, e, idxs_nil]
    simp only [sNo, List.all_eq_true, List.mem_range, beq_iff_eq]
  have h3 := inPart_le ds (cands ds ls wr) t
  rw [skipB, h1, h2, splitB, Bool.eq_iff_iff]
  simp
  omega
theorem worst_eq {ds : List Dep} (hd : ds.length ≤ 20) (ls : List Tri) (wr t : Int) : worstB ds (candP ds ls wr) t = worst ds (cands ds ls wr) t := by
  rw [worstB, worst, andB20 hd]
  rw [show cnt20 (candP ds ls wr) = (cands ds ls wr).length by rw [cnt20, cands20 hd]]
theorem nextB_eq {ds : List Dep} (hd : ds.length ≤ 20) (ls : List Tri) (wr : Int) : nextB ds ls wr = nextOf ds ls wr (moms ds) := by
  simp only [nextB, nextOf, splitF, foldN]
  congr 2
  funext x t
  simp only [splitStep, skip_split hd, worst_eq hd, stepP, stepN]
  cases splitB ds (cands ds ls wr) t <;> simp
end Go.Proofs.Ytmonkjbhoabhhaa
namespace Go.Proofs.Ytmonkjbhoabhhaa
open Go Go.X
set_option linter.unusedVariables false
theorem foldN_spec (w : Int → Int) (p : Int → Bool) : ∀ (ms : List Int) (a : Int × Int), (∀ t ∈ ms, 0 ≤ t) →
    let r := ms.foldl (stepN w p) a
    (r.1 < 0 → r = a ∧ ∀ t ∈ ms, p t = false) ∧ (0 ≤ r.1 → (r = a ∨ (r.1 ∈ ms ∧ p r.1 = true ∧ r.2 = w r.1)) ∧ (0 ≤ a.1 → r.2 ≤ a.2) ∧ ∀ t ∈ ms, p t = true → r.2 ≤ w t)
  | [], a, _ => by simp
  | t :: ms, a, h => by
    have ih := foldN_spec w p ms (stepN w p a t) fun x hx => h x (List.mem_cons_of_mem _ hx)
    have ht := h t List.mem_cons_self
    simp only [List.foldl_cons] at ih ⊢
    generalize ms.foldl (stepN w p) (stepN w p a t) = r at *
    obtain ⟨i1, i2⟩ := ih
    cases hp : p t
    · have e : stepN w p a t = a := by simp [stepN, hp]
      rw [e] at i1 i2
      refine ⟨fun hr => ⟨(i1 hr).1, fun x hx => ?_⟩, fun hr => ?_⟩
      · rcases List.mem_cons.1 hx with rfl | hx
        · exact hp
        · exact (i1 hr).2 x hx
      · obtain ⟨j1, j2, j3⟩ := i2 hr
        refine ⟨j1.imp id fun ⟨k1, k2⟩ => ⟨List.mem_cons_of_mem _ k1, k2⟩, j2, fun x hx hpx => ?_⟩
        rcases List.mem_cons.1 hx with rfl | hx
        · rw [hp] at hpx; cases hpx
        · exact j3 x hx hpx
    · by_cases hc : a.1 < 0 ∨ w t < a.2
      · have e : stepN w p a t = (t, w t) := by simp only [stepN, hp, Bool.true_and]; rw [if_pos (by simpa using hc)]
        rw [e] at i1 i2
        refine ⟨fun hr => ?_, fun hr => ?_⟩
        · have := (i1 hr).1
          rw [this] at hr; simp only at hr; omega
        · obtain ⟨j1, j2, j3⟩ := i2 hr
          have j2' := j2 ht
          simp only at j2'
          refine ⟨.inr ?_, fun ha => by omega, fun x hx hpx => ?_⟩
          · rcases j1 with rfl | ⟨k1, k2⟩
            · exact ⟨List.mem_cons_self, hp, rfl⟩
            · exact ⟨List.mem_cons_of_mem _ k1, k2⟩
          · rcases List.mem_cons.1 hx with rfl | hx
            · exact j2'
            · exact j3 x hx hpx
      · have e : stepN w p a t = a := by simp only [stepN, hp, Bool.true_and]; rw [if_neg (by simpa using hc)]
        rw [e] at i1 i2
        have hc1 : 0 ≤ a.1 ∧ a.2 ≤ w t := by omega
        refine ⟨fun hr => ?_, fun hr => ?_⟩
        · have := (i1 hr).1
          rw [this] at hr; omega
        · obtain ⟨j1, j2, j3⟩ := i2 hr
          have j2' := j2 hc1.1
          refine ⟨j1.imp id fun ⟨k1, k2⟩ => ⟨List.mem_cons_of_mem _ k1, k2⟩, j2, fun x hx hpx => ?_⟩
          rcases List.mem_cons.1 hx with rfl | hx
          · omega
          · exact j3 x hx hpx
theorem validB_dep {ds : List Dep} {ls : List Tri} (h : validB ds ls = true) : ∀ d ∈ ds, 0 ≤ d.frm ∧ d.frm ≤ d.to ∧ d.to ≤ 1000000 := by
  intro d hd
  simp only [validB, Bool.and_eq_true, List.all_eq_true] at h
  have := h.1.1.1 d hd
  simp [Dep.ok, inB] at this
  omega
theorem ends_in {ds : List Dep} {ls : List Tri} (h : validB ds ls = true) : ∀ t ∈ ends ds, 0 ≤ t ∧ t ≤ 1000000 := by
  intro t ht
  rcases List.mem_cons.1 ht with rfl | ht
  · omega
  · simp only [List.mem_flatMap, List.mem_cons, List.not_mem_nil, or_false] at ht
    obtain ⟨d, hd, h1⟩ := ht
    have := validB_dep h d hd
    rcases h1 with rfl | rfl <;> omega
theorem moms_in {ds : List Dep} {ls : List Tri} (h : validB ds ls = true) : ∀ t ∈ moms ds, 0 ≤ t ∧ t ≤ 1000000 := fun t ht => ends_in h t (((moms_spec ds).2 t).1 ht)
/-- What Next says. -/
theorem next_spec {ds : List Dep} {ls : List Tri} (h : validB ds ls = true) (wr : Int) :
    (nextB ds ls wr = -1 ∧ ∀ t ∈ moms ds, splitB ds (cands ds ls wr) t = false) ∨
    (0 ≤ nextB ds ls wr ∧ nextB ds ls wr ≤ 1000000 ∧ nextB ds ls wr ∈ moms ds ∧ splitB ds (cands ds ls wr) (nextB ds ls wr) = true ∧ ∀ t ∈ moms ds, splitB ds (cands ds ls wr) t = true → worst ds (cands ds ls wr) (nextB ds ls wr) ≤ worst ds (cands ds ls wr) t) := by
  have hv := validB_len h
  have hm := moms_in h
  have key := foldN_spec (worst ds (cands ds ls wr)) (splitB ds (cands ds ls wr)) (moms ds) (-1, 0) fun t ht => (hm t ht).1
  rw [nextB_eq hv.1, nextOf, foldN]
  simp only at key
  generalize (moms ds).foldl (stepN (worst ds (cands ds ls wr)) (splitB ds (cands ds ls wr))) (-1, 0) = r at *
  obtain ⟨k1, k2⟩ := key
  by_cases hr : r.1 < 0
  · left
    obtain ⟨e, hall⟩ := k1 hr
    exact ⟨by rw [e], hall⟩
  · right
    obtain ⟨j1, _, j3⟩ := k2 (by omega)
    rcases j1 with rfl | ⟨m1, m2, m3⟩
    · exact absurd (by decide) hr
    · refine ⟨by omega, (hm _ m1).2, m1, m2, fun t ht hp => ?_⟩
      rw [← m3]
      exact j3 t ht hp
theorem cands_add (ds : List Dep) (ls : List Tri) (t : Int) (b : Bool) : cands ds (ls ++ [⟨t, b⟩]) 0 = (cands ds ls 0).filter fun i => onAt ds t i.toNat == b := by
  rw [cands, cands, idxs_filter (candP ds ls 0) (fun i => onAt ds t i == b)]
  congr 1
  funext i
  simp only [candP, cnt_snoc, wrongAt]
  have := cnt_le ds ls i
  by_cases h : onAt ds t i = b
  · subst h; simp
  · have h1 : (onAt ds t i == b) = false := by simp [h]
    simp only [h1, Bool.not_false, if_true, Bool.and_false]
    simp
    omega
theorem inPart_filter (ds : List Dep) (cs : List Int) (t : Int) (b : Bool) : ((cs.filter fun i => onAt ds t i.toNat == b).length : Int) = if b then inPart ds cs t else cs.length - inPart ds cs t := by
  have h := List.length_eq_countP_add_countP (fun i : Int => onAt ds t i.toNat) (l := cs)
  rw [List.countP_eq_length_filter, List.countP_eq_length_filter] at h
  cases b
  · simp only [Bool.false_eq_true, if_false, inPart]
    have e : (cs.filter fun i => onAt ds t i.toNat == false) = cs.filter fun a => decide ¬ (onAt ds t a.toNat = true) := by
      apply List.filter_congr; intro i _; cases onAt ds t i.toNat <;> simp
    rw [e]; omega
  · simp only [if_true, inPart, beq_true]
/-- A trial at a time that splits leaves fewer candidates. -/
theorem cands_less {ds : List Dep} {ls : List Tri} {t : Int} (h : splitB ds (cands ds ls 0) t = true) (b : Bool) : 0 < (cands ds (ls ++ [⟨t, b⟩]) 0).length ∧ (cands ds (ls ++ [⟨t, b⟩]) 0).length < (cands ds ls 0).length := by
  rw [cands_add]
  have h1 := inPart_filter ds (cands ds ls 0) t b
  simp [splitB] at h
  revert h1
  generalize ((cands ds ls 0).filter fun i => onAt ds t i.toNat == b).length = q
  intro h1
  cases b
  · simp only [Bool.false_eq_true, if_false] at h1; omega
  · simp only [if_true] at h1; omega
/-! ### The search -/
def searchF (ds : List Dep) (k : Nat) : Nat → List Tri → List Tri
  | 0, ls => ls
  | n + 1, ls => if nextB ds ls 0 < 0 then ls else searchF ds k n (ls ++ [⟨nextB ds ls 0, onAt ds (nextB ds ls 0) k⟩])
def fin (ds : List Dep) (k : Nat) (ls : List Tri) : List Tri := searchF ds k (cands ds ls 0).length ls
theorem validB_add {ds : List Dep} {ls : List Tri} (h : validB ds ls = true) {t : Int} (ht : 0 ≤ t ∧ t ≤ 1000000) (b : Bool) (hl : ls.length < 60) : validB ds (ls ++ [⟨t, b⟩]) = true := by
  simp only [validB, Bool.and_eq_true, List.all_append, decide_eq_true_eq] at h ⊢
  refine ⟨⟨⟨h.1.1.1, h.1.1.2, ?_⟩, h.1.2⟩, by simp; omega⟩
  simp [Tri.ok, inB]; omega
theorem searchF_stop {ds : List Dep} {k n : Nat} {ls : List Tri} (h : nextB ds ls 0 < 0) : searchF ds k n ls = ls := by
  cases n <;> simp [searchF, h]
theorem searchF_step {ds : List Dep} {k n : Nat} {ls : List Tri} (h : ¬ nextB ds ls 0 < 0) : searchF ds k (n + 1) ls = searchF ds k n (ls ++ [⟨nextB ds ls 0, onAt ds (nextB ds ls 0) k⟩]) := by
  simp [searchF, h]
theorem searchF_one {ds : List Dep} {k : Nat} : ∀ (n : Nat) (ls : List Tri), validB ds ls = true → ls.length + (cands ds ls 0).length ≤ 60 → (cands ds ls 0).length ≤ n → searchF ds k n ls = searchF ds k (n + 1) ls := by
  intro n
  induction n with
  | zero =>
    intro ls hv _ hn
    rcases next_spec hv 0 with ⟨e, _⟩ | ⟨h1, h2, _, h3, _⟩
    · rw [searchF_stop (by omega), searchF_stop (by omega)]
    · have hless := cands_less h3 (onAt ds (nextB ds ls 0) k); omega
  | succ n ih =>
    intro ls hv hl hn
    rcases next_spec hv 0 with ⟨e, _⟩ | ⟨h1, h2, _, h3, _⟩
    · rw [searchF_stop (by omega), searchF_stop (by omega)]
    · have hless := cands_less h3 (onAt ds (nextB ds ls 0) k)
      rw [searchF_step (by omega), searchF_step (n := n + 1) (by omega)]
      exact ih _ (validB_add hv ⟨h1, h2⟩ _ (by omega)) (by simp; omega) (by omega)
theorem searchF_more {ds : List Dep} {k : Nat} {ls : List Tri} (hv : validB ds ls = true) (hl : ls.length + (cands ds ls 0).length ≤ 60) : ∀ (n : Nat), (cands ds ls 0).length ≤ n → searchF ds k n ls = fin ds k ls := by
  intro n hn
  induction n with
  | zero => rw [fin, show (cands ds ls 0).length = 0 by omega]
  | succ n ih =>
    by_cases h : (cands ds ls 0).length ≤ n
    · rw [← searchF_one n ls hv hl h]; exact ih h
    · rw [fin, show (cands ds ls 0).length = n + 1 by omega]
theorem fin_step {ds : List Dep} {k : Nat} {ls : List Tri} (hv : validB ds ls = true) (hl : ls.length + (cands ds ls 0).length ≤ 60) (h : ¬ nextB ds ls 0 < 0) : fin ds k (ls ++ [⟨nextB ds ls 0, onAt ds (nextB ds ls 0) k⟩]) = fin ds k ls := by
  rcases next_spec hv 0 with ⟨e, _⟩ | ⟨h1, h2, _, h3, _⟩
  · omega
  · have hless := cands_less h3 (onAt ds (nextB ds ls 0) k)
    rw [← searchF_more hv hl ((cands ds ls 0).length - 1 + 1) (by omega), searchF_step h]
    exact (searchF_more (validB_add hv ⟨h1, h2⟩ _ (by omega)) (by simp; omega) _ (by omega)).symm
theorem fin_stop {ds : List Dep} {k : Nat} {ls : List Tri} (h : nextB ds ls 0 < 0) : fin ds k ls = ls := searchF_stop h
def search (ds : List Dep) (k : Nat) : List Tri := fin ds k []
end Go.Proofs.Ytmonkjbhoabhhaa
namespace Go.Proofs.Ytmonkjbhoabhhaa
open Go Go.X
set_option maxRecDepth 10000
set_option linter.unusedVariables false
attribute [local irreducible] Code.wpIn wpListIn Exit.then Exit.inBlock X.Out X.Back X.W X.Ev X.Con X.BinV X.Wh X.Wn X.Wq
theorem next_c {ds : List Dep} {ls : List Tri} {A : Option Addr} {c : Nat} {v : Value} {S : SH} {n : Int} (hn : nextB ds ls 0 = n) (hv : validB ds ls = true) (hA : At S A ds) (hB : Sr S v ls) :
    Con Try.prog 20 #[.slice A ds.length c, v, .int .i64 0] S [] (fun _ _ u => u = .tuple #[.int .i64 n, .int .i64 0]) := by
  obtain ⟨B, e, rfl, _, hB⟩ := hB
  have hvl := validB_len hv
  refine (Next_con ds ls 0 A B c e S hA hB (by omega) (by omega) true (by simp [hv, inB])).mono fun S' L' u _ ⟨_, w, hu, hw⟩ => ?_
  rw [hu, hw]; simp [hn]
theorem rnext_c {ds : List Dep} {ls : List Tri} {A : Option Addr} {c : Nat} {v : Value} {S : SH} {n : Int} (hn : nextB ds ls 0 = n) (hv : validB ds ls = true) (hA : At S A ds) (hB : Sr S v ls) :
    Con Try.prog 21 #[.slice A ds.length c, v, .int .i64 0] S [] (fun _ _ u => u = .tuple #[.int .i64 n, .int .i64 0]) := by
  obtain ⟨B, e, rfl, _, hB⟩ := hB
  have hvl := validB_len hv
  refine (rNext_con ds ls 0 A B c e S hA hB (by omega) (by omega) true (by simp [hv, inB])).mono fun S' L' u _ ⟨_, w, hu, hw⟩ => ?_
  rw [hu, hw]; simp [← hn, nextB_eq hvl.1, moms_eq]
theorem candidates_c {ds : List Dep} {ls : List Tri} {A : Option Addr} {c : Nat} {v : Value} {S : SH} (hv : validB ds ls = true) (hA : At S A ds) (hB : Sr S v ls) :
    Con Try.prog 38 #[.slice A ds.length c, v, .int .i64 0] S [] (Pure S (.agg (bits (candP ds ls 0)).toArray)) := by
  obtain ⟨B, e, rfl, _, hB⟩ := hB
  have hvl := validB_len hv
  exact candidates_con ds ls 0 A B c e S hA hB hvl.1 (by omega)
theorem rCandidates_c {ds : List Dep} {ls : List Tri} {A : Option Addr} {c : Nat} {v : Value} {S : SH} (hv : validB ds ls = true) (hA : At S A ds) (hB : Sr S v ls) :
    Con Try.prog 19 #[.slice A ds.length c, v, .int .i64 0] S [] (Two (fun S' u => Sr S' u (cands ds ls 0)) 0) := by
  obtain ⟨B, e, rfl, _, hB⟩ := hB
  have hvl := validB_len hv
  exact (rCandidates_con ds ls 0 A B c e S hA hB (by omega) (by omega) true (by simp [hv, inB])).mono fun S' L' u _ h => by simpa using h
def times (ls : List Tri) : List Int := ls.map (·.at_)
/-- What Search answers. -/
def Found (ds : List Dep) (k : Nat) (b : Bool) : SH → Blocks → Value → Prop := fun S' L' v => L' = [] ∧ ∃ u1 u2, v = .tuple #[u1, u2, .int .i64 (if b then 0 else 290)] ∧ Sr S' u1 (if b then times (search ds k) else []) ∧ Sr S' u2 (if b then cands ds (search ds k) 0 else [])
theorem Search_con (ds : List Dep) (kc : Int) (A : Option Addr) (c : Nat) (S : SH) (hA : At S A ds) (hd : ds.length ≤ 1000000) (b : Bool) (h : (validB ds [] && inB kc 0 (ds.length - 1)) = b) :
    Con Try.prog 24 #[.slice A ds.length c, .int .i64 kc] S [] (Found ds kc.toNat b) := by
  refine con_of (args := [.slice A ds.length c, .int .i64 kc]) Try.func24 rfl Try.ntmps24 rfl fun w => ?_
  cases h1 : validB ds []
  rotate_left
  cases h2 : inB kc 0 (ds.length - 1)
  rotate_left
  · rw [h1, h2] at h
    obtain rfl : b = true := by simpa using h.symm
    have hv := validB_len h1
    have h2' : 0 ≤ kc ∧ kc ≤ ds.length - 1 := by simpa [inB] using h2
    obtain ⟨k, rfl⟩ := Int.eq_ofNat_of_zero_le h2'.1
    (repeat (first | refine Jc ?_ | (apply z_call; rfl; rfl; rfl; exact valid_c (e := 0) (ls := []) h1 hA (At.nil _ _) hd (by simp); rintro _ _ _ - ⟨rfl, rfl, rfl⟩) | (apply z_call; rfl; rfl; rfl; exact in_b h2; rintro _ _ _ - ⟨rfl, rfl, rfl⟩) | refine Jo ?_ | intro _))
    have hc0 := cands_len ds [] 0
    refine c_loop (fun m S' L F => S' = S ∧ ∃ (ls : List Tri) (v7 v8 : Value) (ob7 ob8 : Blocks), m = (cands ds ls 0).length ∧ validB ds ls = true ∧ ls.length + (cands ds ls 0).length ≤ 20 ∧ fin ds k ls = search ds k ∧ Ows 49 v7 ls ob7 ∧ Ows 3 v8 (times ls) ob8 ∧ L = ob7 ++ ob8 ∧
      F = [(0, .slice A ds.length c), (1, .int .i64 k), (7, v7), (8, v8)]) ⟨rfl, [], _, _, _, _, rfl, h1, by simp; omega, rfl, Ows.nil 49, Ows.nil 3, rfl, rfl⟩ (by repeat (first | exact Sub.nil rfl | exact Sub.marked rfl | refine Sub.cons rfl ?_)) (by repeat (first | exact List.Sublist.refl _ | exact List.Sublist.slnil | exact List.nil_sublist _ | exact List.sublist_append_left _ _ | refine List.Sublist.cons_cons _ ?_ | refine List.Sublist.append (List.Sublist.refl _) ?_ | refine List.Sublist.cons _ ?_)) ?_
    rintro m S' L F ⟨rfl, ls, v7, v8, ob7, ob8, rfl, hvl, hlen, hfin, ho7, ho8, rfl, rfl⟩
    have hlt : (times ls).length = ls.length := by simp [times]
    generalize hn : nextB ds ls 0 = n
    by_cases hneg : n < 0
    · (repeat (first | refine Jc ?_ | (apply s_call_q (φ := fun v => v = .tuple #[.int .i64 n, .int .i64 0]); (case hg => rfl); (case hd => rfl); (case ha => rfl); (case hc => (intro S1 hle1 hm1; exact next_c hn hvl (hA.le hle1) (ho7.sr fun p hp => hm1 p (by simp [hp])))); (case hq => (rintro _ _ _ _ h; exact h)); rintro _ rfl) | (apply s_call_q (φ := fun v => v = .agg (bits (candP ds ls 0)).toArray); (case hg => rfl); (case hd => rfl); (case ha => rfl); (case hc => (intro S1 hle1 hm1; exact candidates_c hvl (hA.le hle1) (ho7.sr fun p hp => hm1 p (by simp [hp])))); (case hq => (rintro _ _ _ _ ⟨_, _, h⟩; exact h)); rintro _ rfl) | (apply z_call; rfl; rfl; rfl; exact list_con _ _; rintro S2 _ v hle2 ⟨rfl, hr⟩) | refine Jo ?_ | intro _))
      refine W.freezeOws ho8 (L1 := ob7) (by simpa using List.perm_append_comm) fun S3 hle3 hr8 => ?_
      rw [fin_stop (by omega)] at hfin
      subst hfin
      rw [cands20 hv.1] at hr
      exact o_ret3 (L' := []) Try.results24 rfl rfl rfl (by repeat (first | exact List.Sublist.refl _ | exact List.Sublist.slnil | exact List.nil_sublist _ | exact List.sublist_append_left _ _ | refine List.Sublist.cons_cons _ ?_ | refine List.Sublist.append (List.Sublist.refl _) ?_ | refine List.Sublist.cons _ ?_)) ⟨rfl, _, _, rfl, hr8, hr.le hle3⟩
    · have hnb : ¬ nextB ds ls 0 < 0 := by omega
      have hstep := fin_step (k := k) hvl (by omega) hnb
      rcases next_spec hvl 0 with ⟨e, _⟩ | ⟨q1, q2, _, q3, _⟩
      · omega
      have hless := cands_less q3 (onAt ds (nextB ds ls 0) k)
      have hva := validB_add hvl ⟨q1, q2⟩ (onAt ds (nextB ds ls 0) k) (by omega)
      rw [hn] at hstep hless hva
      have hlen2 : (ls ++ [(⟨n, onAt ds n k⟩ : Tri)]).length + (cands ds (ls ++ [(⟨n, onAt ds n k⟩ : Tri)]) 0).length ≤ 20 := by
        have h3 := hless.2
        revert h3
        generalize (cands ds (ls ++ [(⟨n, onAt ds n k⟩ : Tri)]) 0).length = q
        intro h3
        rw [List.length_append, List.length_singleton]
        omega
      (repeat (first | refine Jc ?_ | (apply s_call_q (φ := fun v => v = .tuple #[.int .i64 n, .int .i64 0]); (case hg => rfl); (case hd => rfl); (case ha => rfl); (case hc => (intro S1 hle1 hm1; exact next_c hn hvl (hA.le hle1) (ho7.sr fun p hp => hm1 p (by simp [hp])))); (case hq => (rintro _ _ _ _ h; exact h)); rintro _ rfl) | (apply s_append (ms := [n]); (case hg => rfl); (case hd => rfl); (case hx => rfl); (case ho => exact ho8); (case hL => (repeat (first | exact pm_nil _ | exact pm_refl _ _ | exact pm_self _ | apply pm_cons | apply pm_app))); (case hy => rfl); (case hm => rfl); (case hs => (apply Src.own; (repeat (first | exact List.Mem.head _ | apply List.Mem.tail | apply List.mem_append_right)))); (case hzs => rfl); (case h0 => decide); (case hb => (simp; omega)); (case h63 => (simp; omega)); intro v8' ob8' ho8') | (apply z_call; rfl; rfl; rfl; exact active_con ds n A c _ hA hv.1; rintro _ _ _ - ⟨rfl, rfl, rfl⟩) | (apply s_index_a; (case hg => rfl); (case hd => rfl); (case hx => rfl); (case hi => rfl); (case hk => omega); (case hv => exact bits_at _ _ (by omega))) | (apply s_append (ms := [(⟨n, onAt ds n k⟩ : Tri)]); (case hg => rfl); (case hd => rfl); (case hx => rfl); (case ho => exact ho7); (case hL => (repeat (first | exact pm_nil _ | exact pm_refl _ _ | exact pm_self _ | apply pm_cons | apply pm_app))); (case hy => rfl); (case hm => rfl); (case hs => (apply Src.own; (repeat (first | exact List.Mem.head _ | apply List.Mem.tail | apply List.mem_append_right)))); (case hzs => rfl); (case h0 => decide); (case hb => (simp; omega)); (case h63 => (simp; omega)); intro v7' ob7' ho7') | refine Jo ?_ | intro _))
      have ht8 : times (ls ++ [(⟨n, onAt ds n k⟩ : Tri)]) = times ls ++ [n] := by rw [times, List.map_append]; rfl
      rw [← ht8] at ho8'
      generalize ls ++ [(⟨n, onAt ds n k⟩ : Tri)] = ls' at *
      exact q_back (m' := (cands ds ls' 0).length) ⟨rfl, ls', v7', v8', ob7', ob8', rfl, hva, hlen2, hstep.trans hfin, ho7', ho8', rfl, rfl⟩ hless.2 (by repeat (first | exact Sub.nil rfl | exact Sub.marked rfl | refine Sub.cons rfl ?_)) (by repeat (first | exact List.Sublist.refl _ | exact List.Sublist.slnil | exact List.nil_sublist _ | exact List.sublist_append_left _ _ | refine List.Sublist.cons_cons _ ?_ | refine List.Sublist.append (List.Sublist.refl _) ?_ | refine List.Sublist.cons _ ?_))
  all_goals
    first | rw [h1, h2] at h | rw [h1] at h
    obtain rfl : b = false := by simpa using h.symm
    (repeat (first | refine Jc ?_ | (apply z_call; rfl; rfl; rfl; exact valid_c (e := 0) (ls := []) h1 hA (At.nil _ _) hd (by simp); rintro _ _ _ - ⟨rfl, rfl, rfl⟩) | (apply z_call; rfl; rfl; rfl; exact in_b (by assumption); rintro _ _ _ - ⟨rfl, rfl, rfl⟩) | refine Jo ?_ | intro _))
    exact o_ret3 Try.results24 rfl rfl rfl (by repeat (first | exact List.Sublist.refl _ | exact List.Sublist.slnil | exact List.nil_sublist _ | exact List.sublist_append_left _ _ | refine List.Sublist.cons_cons _ ?_ | refine List.Sublist.append (List.Sublist.refl _) ?_ | refine List.Sublist.cons _ ?_)) ⟨rfl, _, _, rfl, Sr.nil _, Sr.nil _⟩
end Go.Proofs.Ytmonkjbhoabhhaa
namespace Go.Proofs.Ytmonkjbhoabhhaa
open Go Go.X
set_option maxRecDepth 10000
set_option linter.unusedVariables false
attribute [local irreducible] Code.wpIn wpListIn Exit.then Exit.inBlock X.Out X.Back X.W X.Ev X.Con X.BinV X.Wh X.Wn X.Wq
theorem rSearch_con (ds : List Dep) (kc : Int) (A : Option Addr) (c : Nat) (S : SH) (hA : At S A ds) (hd : ds.length ≤ 1000000) (b : Bool) (h : (validB ds [] && inB kc 0 (ds.length - 1)) = b) :
    Con Try.prog 25 #[.slice A ds.length c, .int .i64 kc] S [] (Found ds kc.toNat b) := by
  refine con_of (args := [.slice A ds.length c, .int .i64 kc]) Try.func25 rfl Try.ntmps25 rfl fun w => ?_
  cases h1 : validB ds []
  rotate_left
  cases h2 : inB kc 0 (ds.length - 1)
  rotate_left
  · rw [h1, h2] at h
    obtain rfl : b = true := by simpa using h.symm
    have hv := validB_len h1
    have h2' : 0 ≤ kc ∧ kc ≤ ds.length - 1 := by simpa [inB] using h2
    obtain ⟨k, rfl⟩ := Int.eq_ofNat_of_zero_le h2'.1
    obtain ⟨dk, hdk⟩ := at_lt (show k < ds.length by omega)
    (repeat (first | refine Jc ?_ | (apply z_call; rfl; rfl; rfl; exact rvalid_c (e := 0) (ls := []) h1 hA (At.nil _ _) hd (by simp); rintro _ _ _ - ⟨rfl, rfl, rfl⟩) | refine Jo ?_ | intro _))
    have hc0 := cands_len ds [] 0
    refine c_loop (fun m S' L F => S' = S ∧ ∃ (ls : List Tri) (v7 v8 : Value) (ob7 ob8 : Blocks), m = (cands ds ls 0).length ∧ validB ds ls = true ∧ ls.length + (cands ds ls 0).length ≤ 20 ∧ fin ds k ls = search ds k ∧ Ows 49 v7 ls ob7 ∧ Ows 3 v8 (times ls) ob8 ∧ L = ob7 ++ ob8 ∧
      F = [(0, .slice A ds.length c), (1, .int .i64 k), (7, v7), (8, v8)]) ⟨rfl, [], _, _, _, _, rfl, h1, by simp; omega, rfl, Ows.nil 49, Ows.nil 3, rfl, rfl⟩ (by repeat (first | exact Sub.nil rfl | exact Sub.marked rfl | refine Sub.cons rfl ?_)) (by repeat (first | exact List.Sublist.refl _ | exact List.Sublist.slnil | exact List.nil_sublist _ | exact List.sublist_append_left _ _ | refine List.Sublist.cons_cons _ ?_ | refine List.Sublist.append (List.Sublist.refl _) ?_ | refine List.Sublist.cons _ ?_)) ?_
    rintro m S' L F ⟨rfl, ls, v7, v8, ob7, ob8, rfl, hvl, hlen, hfin, ho7, ho8, rfl, rfl⟩
    have hlt : (times ls).length = ls.length := by simp [times]
    generalize hn : nextB ds ls 0 = n
    by_cases hneg : n < 0
    · (repeat (first | refine Jc ?_ | (apply s_call_q (φ := fun v => v = .tuple #[.int .i64 n, .int .i64 0]); (case hg => rfl); (case hd => rfl); (case ha => rfl); (case hc => (intro S1 hle1 hm1; exact rnext_c hn hvl (hA.le hle1) (ho7.sr fun p hp => hm1 p (by simp [hp])))); (case hq => (rintro _ _ _ _ h; exact h)); rintro _ rfl) | refine Jo ?_ | intro _))
      refine W.freezeOws ho7 (L1 := ob8) (List.Perm.refl _) fun S2 hle2 hr7 => ?_
      (repeat (first | refine Jc ?_ | (apply z_call; rfl; rfl; rfl; exact rCandidates_c hvl (hA.le hle2) hr7; rintro S4 _ v hle4 ⟨rfl, u2, rfl, hr⟩) | refine Jo ?_ | intro _))
      refine W.freezeOws ho8 (by repeat (first | exact pm_nil _ | exact pm_refl _ _ | exact pm_self _ | refine pm_cons ?_ | refine pm_app ?_)) fun S3 hle3 hr8 => ?_
      rw [fin_stop (by omega)] at hfin
      subst hfin
      exact o_ret3 (L' := []) Try.results25 rfl rfl rfl (by repeat (first | exact List.Sublist.refl _ | exact List.Sublist.slnil | exact List.nil_sublist _ | exact List.sublist_append_left _ _ | refine List.Sublist.cons_cons _ ?_ | refine List.Sublist.append (List.Sublist.refl _) ?_ | refine List.Sublist.cons _ ?_)) ⟨rfl, _, _, rfl, hr8, hr.le hle3⟩
    · have hon := onAt_some (t := n) hdk
      have hnb : ¬ nextB ds ls 0 < 0 := by omega
      have hstep := fin_step (k := k) hvl (by omega) hnb
      rcases next_spec hvl 0 with ⟨e, _⟩ | ⟨q1, q2, _, q3, _⟩
      · omega
      have hless := cands_less q3 (onAt ds (nextB ds ls 0) k)
      have hva := validB_add hvl ⟨q1, q2⟩ (onAt ds (nextB ds ls 0) k) (by omega)
      rw [hn] at hstep hless hva
      have hlen2 : (ls ++ [(⟨n, onAt ds n k⟩ : Tri)]).length + (cands ds (ls ++ [(⟨n, onAt ds n k⟩ : Tri)]) 0).length ≤ 20 := by
        have h3 := hless.2
        revert h3
        generalize (cands ds (ls ++ [(⟨n, onAt ds n k⟩ : Tri)]) 0).length = q
        intro h3
        rw [List.length_append, List.length_singleton]
        omega
      (repeat (first | refine Jc ?_ | (apply s_call_q (φ := fun v => v = .tuple #[.int .i64 n, .int .i64 0]); (case hg => rfl); (case hd => rfl); (case ha => rfl); (case hc => (intro S1 hle1 hm1; exact rnext_c hn hvl (hA.le hle1) (ho7.sr fun p hp => hm1 p (by simp [hp])))); (case hq => (rintro _ _ _ _ h; exact h)); rintro _ rfl) | (apply s_append (ms := [n]); (case hg => rfl); (case hd => rfl); (case hx => rfl); (case ho => exact ho8); (case hL => (repeat (first | exact pm_nil _ | exact pm_refl _ _ | exact pm_self _ | apply pm_cons | apply pm_app))); (case hy => rfl); (case hm => rfl); (case hs => (apply Src.own; (repeat (first | exact List.Mem.head _ | apply List.Mem.tail | apply List.mem_append_right)))); (case hzs => rfl); (case h0 => decide); (case hb => (simp; omega)); (case h63 => (simp; omega)); intro v8' ob8' ho8') | (apply s_idx hA; (case hg => rfl); (case hd => rfl); (case hx => rfl); (case hi => rfl); (case hm => rfl); (case hu => exact hdk); intro p (hp : Pts _ p [_, _, _, _])) | (apply s_load_ag; (case hg => rfl); (case hd => rfl); (case hx => rfl); (case hv => exact hp); (case hl => rfl)) | (apply z_call; rfl; rfl; rfl; exact on_b hon.symm; rintro _ _ _ - ⟨rfl, rfl, rfl⟩) | (apply s_append (ms := [(⟨n, onAt ds n k⟩ : Tri)]); (case hg => rfl); (case hd => rfl); (case hx => rfl); (case ho => exact ho7); (case hL => (repeat (first | exact pm_nil _ | exact pm_refl _ _ | exact pm_self _ | apply pm_cons | apply pm_app))); (case hy => rfl); (case hm => rfl); (case hs => (apply Src.own; (repeat (first | exact List.Mem.head _ | apply List.Mem.tail | apply List.mem_append_right)))); (case hzs => rfl); (case h0 => decide); (case hb => (simp; omega)); (case h63 => (simp; omega)); intro v7' ob7' ho7') | refine Jo ?_ | intro _))
      have ht8 : times (ls ++ [(⟨n, onAt ds n k⟩ : Tri)]) = times ls ++ [n] := by rw [times, List.map_append]; rfl
      rw [← ht8] at ho8'
      generalize ls ++ [(⟨n, onAt ds n k⟩ : Tri)] = ls' at *
      exact q_back (m' := (cands ds ls' 0).length) ⟨rfl, ls', v7', v8', ob7', ob8', rfl, hva, hlen2, hstep.trans hfin, ho7', ho8', rfl, rfl⟩ hless.2 (by repeat (first | exact Sub.nil rfl | exact Sub.marked rfl | refine Sub.cons rfl ?_)) (by repeat (first | exact List.Sublist.refl _ | exact List.Sublist.slnil | exact List.nil_sublist _ | exact List.sublist_append_left _ _ | refine List.Sublist.cons_cons _ ?_ | refine List.Sublist.append (List.Sublist.refl _) ?_ | refine List.Sublist.cons _ ?_))
  · rw [h1] at h
    obtain rfl : b = false := by simpa using h.symm
    (repeat (first | refine Jc ?_ | (apply z_call; rfl; rfl; rfl; exact rvalid_c (e := 0) (ls := []) h1 hA (At.nil _ _) hd (by simp); rintro _ _ _ - ⟨rfl, rfl, rfl⟩) | refine Jo ?_ | intro _))
    exact o_ret3 Try.results25 rfl rfl rfl (by repeat (first | exact List.Sublist.refl _ | exact List.Sublist.slnil | exact List.nil_sublist _ | exact List.sublist_append_left _ _ | refine List.Sublist.cons_cons _ ?_ | refine List.Sublist.append (List.Sublist.refl _) ?_ | refine List.Sublist.cons _ ?_)) ⟨rfl, _, _, rfl, Sr.nil _, Sr.nil _⟩
  · rw [h1, h2] at h
    obtain rfl : b = false := by simpa using h.symm
    have h2' : ¬ (0 ≤ kc ∧ kc ≤ ds.length - 1) := by simpa [inB] using h2
    by_cases h3 : kc < 0
    all_goals
      (repeat (first | refine Jc ?_ | (apply z_call; rfl; rfl; rfl; exact rvalid_c (e := 0) (ls := []) h1 hA (At.nil _ _) hd (by simp); rintro _ _ _ - ⟨rfl, rfl, rfl⟩) | refine Jo ?_ | intro _))
      exact o_ret3 Try.results25 rfl rfl rfl (by repeat (first | exact List.Sublist.refl _ | exact List.Sublist.slnil | exact List.nil_sublist _ | exact List.sublist_append_left _ _ | refine List.Sublist.cons_cons _ ?_ | refine List.Sublist.append (List.Sublist.refl _) ?_ | refine List.Sublist.cons _ ?_)) ⟨rfl, _, _, rfl, Sr.nil _, Sr.nil _⟩
end Go.Proofs.Ytmonkjbhoabhhaa
namespace Go.Proofs.Ytmonkjbhoabhhaa
open Go Go.X
set_option maxRecDepth 10000
set_option linter.unusedVariables false
attribute [local irreducible] Code.wpIn wpListIn Exit.then Exit.inBlock X.Out X.Back X.W X.Ev X.Con X.BinV X.Wh X.Wn X.Wq
theorem lay_ok : laidOutB Try.prog = true := by kernel_rfl
instance : Mpt Try.prog 70 71 3 := ⟨Try.underlying70⟩
theorem row71 : (71 : TypeId) < Try.prog.types.size := of_decide_eq_true (by kernel_rfl)
theorem wide71 : (match Try.prog.underlying 71 with | some (.array _ _) | some (.struct _) => true | _ => false) = true := by kernel_rfl
instance : Kyd Try.prog 71 := ⟨Maps.Keyed.of_law (deep_law_laid lay_ok (m := 2) (by omega) row71 (by kernel_rfl) wide71)⟩
theorem arr71 : WideMaps.ArrKey Try.prog 71 3 2 := ⟨Try.underlying71, by kernel_rfl, by kernel_rfl, by kernel_rfl⟩
theorem types_pos : ∃ m, Try.prog.types.size = m + 1 := ⟨_, (Nat.succ_pred_eq_of_pos (Nat.lt_of_le_of_lt (Nat.zero_le _) row71)).symm⟩
theorem wf_i64 {a : Int} (h : 0 ≤ a ∧ a ≤ 1000000) : (Lit.int .i64 a).wf = true := by
  have e1 : IntKind.min .i64 = -9223372036854775808 := by decide
  have e2 : IntKind.max .i64 = 9223372036854775807 := by decide
  simp [Lit.wf, e1, e2]; omega
theorem key71 {a b : Int} (ha : 0 ≤ a ∧ a ≤ 1000000) (hb : 0 ≤ b ∧ b ≤ 1000000) : ∃ l, keyOf Try.prog 71 (.agg #[.int .i64 a, .int .i64 b]) = some l :=
  ⟨_, WideMaps.keyOf_pair arr71 Try.underlying3 types_pos (wf_i64 ha) (wf_i64 hb)⟩
/-! ### Classes as data -/
abbrev Cls := List ((Int × Int) × List Int)
def whenOf (d : Dep) : Int × Int := if d.frm = d.to then (0, 0) else (d.frm, d.to)
def addC : Cls → Int × Int → Int → Cls
  | [], w, i => [(w, [i])]
  | (w', r) :: l, w, i => if w' = w then (w', r ++ [i]) :: l else (w', r) :: addC l w i
def clsF (ds : List Dep) (n : Nat) : Cls := (List.range n).foldl (fun c (i : Nat) => match ds[i]? with | some d => addC c (whenOf d) i | none => c) []
def classes (ds : List Dep) : List (List Int) := (clsF ds ds.length).map (·.2)
theorem clsF_snoc {ds : List Dep} {n : Nat} {d : Dep} (h : ds[n]? = some d) : clsF ds (n + 1) = addC (clsF ds n) (whenOf d) n := by
  simp [clsF, List.range_succ, h]
def keysOf (c : Cls) : List (Int × Int) := c.map (·.1)
theorem addC_new : ∀ (c : Cls) (w : Int × Int) (i : Int), w ∉ keysOf c → addC c w i = c ++ [(w, [i])]
  | [], _, _, _ => rfl
  | (w', r) :: l, w, i, h => by
    simp only [keysOf, List.map_cons, List.mem_cons, not_or] at h
    simp only [addC, if_neg (Ne.symm h.1), addC_new l w i h.2]
    rfl
theorem addC_old : ∀ (c : Cls) (w : Int × Int) (i : Int) (j : Nat) (r : List Int), (keysOf c).Nodup → c[j]? = some (w, r) → addC c w i = c.set j (w, r ++ [i])
  | [], _, _, j, _, _, h => by simp at h
  | (w', r') :: l, w, i, 0, r, _, h => by
    simp at h
    obtain ⟨rfl, rfl⟩ := h
    simp [addC]
  | (w', r') :: l, w, i, j + 1, r, hn, h => by
    simp at h
    simp only [keysOf, List.map_cons, List.nodup_cons] at hn
    have hne : w' ≠ w := fun e => hn.1 (e ▸ List.mem_map.2 ⟨_, List.mem_of_getElem? h, rfl⟩)
    simp only [addC, if_neg hne, addC_old l w i j r hn.2 h]
    rfl
theorem keysOf_set {c : Cls} {j : Nat} {w : Int × Int} {r r' : List Int} (h : c[j]? = some (w, r)) : keysOf (c.set j (w, r')) = keysOf c := by
  apply List.ext_getElem?
  intro i
  simp only [keysOf, List.map_set, List.getElem?_set, List.getElem?_map, List.length_map]
  by_cases hij : j = i
  · subst hij; have h1 := (List.getElem?_eq_some_iff.1 h).1; simp [h1, (List.getElem?_eq_some_iff.1 h).2]
  · simp [hij]
theorem clsF_nodup (ds : List Dep) : ∀ n, n ≤ ds.length → (keysOf (clsF ds n)).Nodup ∧ (clsF ds n).length ≤ n
  | 0, _ => by simp [clsF, keysOf]
  | n + 1, hn => by
    obtain ⟨h1, h2⟩ := clsF_nodup ds n (by omega)
    obtain ⟨d, hd⟩ := at_lt (show n < ds.length by omega)
    rw [clsF_snoc hd]
    by_cases hm : whenOf d ∈ keysOf (clsF ds n)
    · obtain ⟨p, hp, hp2⟩ := List.mem_map.1 hm
      obtain ⟨j, hj, rfl⟩ := List.getElem_of_mem hp
      have hj' : (clsF ds n)[j]? = some (whenOf d, (clsF ds n)[j].2) := by rw [List.getElem?_eq_getElem hj, ← hp2]
      rw [addC_old _ _ _ j _ h1 hj', keysOf_set hj']
      exact ⟨h1, by simp; omega⟩
    · rw [addC_new _ _ _ hm]
      refine ⟨?_, by simp; omega⟩
      simp only [keysOf, List.map_append, List.map_cons, List.map_nil]
      rw [List.nodup_append]
      exact ⟨h1, by simp, fun a ha b hb e => by simp at hb; subst hb; subst e; exact hm ha⟩
def keyV (w : Int × Int) : Value := .agg #[.int .i64 w.1, .int .i64 w.2]
theorem keyV_inj {w w' : Int × Int} (h : keyV w = keyV w') : w = w' := by
  simp [keyV] at h
  exact Prod.ext h.1 h.2
def entOf (ks : List (Int × Int)) : List (Value × Value) := ks.mapIdx fun j w => (keyV w, .int .i64 j)
theorem entOf_snoc (ks : List (Int × Int)) (w : Int × Int) : entOf (ks ++ [w]) = entOf ks ++ [(keyV w, .int .i64 ks.length)] := by simp [entOf, List.mapIdx_append]
theorem entOf_mem {ks : List (Int × Int)} {j : Nat} {w : Int × Int} (h : ks[j]? = some w) : (keyV w, Value.int .i64 j) ∈ entOf ks := by
  refine List.mem_of_getElem? (i := j) ?_
  simp [entOf, h]
theorem entOf_not {ks : List (Int × Int)} {w : Int × Int} (h : w ∉ ks) : ∀ p ∈ entOf ks, p.1 ≠ keyV w := by
  intro p hp e
  obtain ⟨j, hj⟩ := List.getElem?_of_mem hp
  simp only [entOf, List.getElem?_mapIdx, Option.map_eq_some_iff] at hj
  obtain ⟨w', hw', rfl⟩ := hj
  rw [keyV_inj e] at hw'
  exact h (List.mem_of_getElem? hw')
end Go.Proofs.Ytmonkjbhoabhhaa
namespace Go.Proofs.Ytmonkjbhoabhhaa
open Go Go.X
set_option maxRecDepth 10000
set_option linter.unusedVariables false
attribute [local irreducible] Code.wpIn wpListIn Exit.then Exit.inBlock X.Out X.Back X.W X.Ev X.Con X.BinV X.Wh X.Wn X.Wq
theorem pm4 {X G O M : Blocks} : (X ++ (G ++ (O ++ M))).Perm ((O ++ X) ++ (M ++ G)) := by
  refine ((List.perm_append_comm (l₁ := G) (l₂ := O ++ M)).append_left X).trans ?_
  rw [List.append_assoc, ← List.append_assoc X O]
  exact List.perm_append_comm.append_right _
theorem addC_rows {m : Nat} : ∀ (c : Cls) (w : Int × Int) (i : Int), (∀ p ∈ c, p.2.length ≤ m) → ∀ p ∈ addC c w i, p.2.length ≤ m + 1
  | [], w, i, _ => by simp [addC]
  | (w', r) :: l, w, i, h => by
    intro p hp
    simp only [addC] at hp
    have h0 := h (w', r) List.mem_cons_self
    simp only at h0
    split at hp
    · rcases List.mem_cons.1 hp with rfl | hp
      · simp; omega
      · have := h p (List.mem_cons_of_mem _ hp); omega
    · rcases List.mem_cons.1 hp with rfl | hp
      · simp only; omega
      · exact addC_rows l w i (fun q hq => h q (List.mem_cons_of_mem _ hq)) p hp
theorem clsF_rows (ds : List Dep) : ∀ n, n ≤ ds.length → ∀ p ∈ clsF ds n, p.2.length ≤ n
  | 0, _ => by simp [clsF]
  | n + 1, hn => by
    obtain ⟨d, hd⟩ := at_lt (show n < ds.length by omega)
    rw [clsF_snoc hd]
    exact addC_rows _ _ _ (clsF_rows ds n (by omega))
theorem Classes_con (ds : List Dep) (A : Option Addr) (c : Nat) (S : SH) (hA : At S A ds) (hd : ds.length ≤ 1000000) (b : Bool) (h : validB ds [] = b) :
    Con Try.prog 22 #[.slice A ds.length c] S [] (Two (fun S' u => Srs S' u (if b then classes ds else [])) (if b then 0 else 290)) := by
  refine con_of (args := [.slice A ds.length c]) Try.func22 rfl Try.ntmps22 rfl fun w => ?_
  cases b
  · (repeat (first | refine Jc ?_ | (apply z_call; rfl; rfl; rfl; exact valid_c (e := 0) (ls := []) h hA (At.nil _ _) hd (by simp); rintro _ _ _ - ⟨rfl, rfl, rfl⟩) | refine Jo ?_ | intro _))
    exact o_ret2 Try.results22 rfl rfl (by repeat (first | exact List.Sublist.refl _ | exact List.Sublist.slnil | exact List.nil_sublist _ | exact List.sublist_append_left _ _ | refine List.Sublist.cons_cons _ ?_ | refine List.Sublist.append (List.Sublist.refl _) ?_ | refine List.Sublist.cons _ ?_)) ⟨rfl, _, rfl, Srs.nil _⟩
  have hv := validB_len h
  (repeat (first | refine Jc ?_ | (apply z_call; rfl; rfl; rfl; exact valid_c (e := 0) (ls := []) h hA (At.nil _ _) hd (by simp); rintro _ _ _ - ⟨rfl, rfl, rfl⟩) | (apply s_makeMap; (case hg => rfl); (case hd => rfl); intro _) | refine Jo ?_ | intro _))
  rename_i bm0
  refine c_loop (fun m S' L F => S' = S ∧ ∃ (k : Nat) (bm : Nat) (om : Obj) (v5 : Value) (vs : List SV) (ob5 : Blocks) (obs : List Blocks), m = ds.length - k ∧ k ≤ ds.length ∧ OwM Try.prog 71 (entOf (keysOf (clsF ds k))) om ∧ Ows 27 v5 vs ob5 ∧ OwR 3 vs ((clsF ds k).map (·.2)) obs ∧ L = obs.flatten ++ ((bm, om) :: ob5) ∧
      F = [(4, .map (some bm)), (5, v5), (15, .slice A ds.length c), (16, .int .i64 ds.length), (17, .int .i64 k)]) ⟨rfl, 0, bm0, _, _, [], [], [], rfl, by omega, OwM.nil 71, Ows.nil 27, OwR.nil 3, rfl, rfl⟩ (by repeat (first | exact Sub.nil rfl | exact Sub.marked rfl | refine Sub.cons rfl ?_)) (by repeat (first | exact List.Sublist.refl _ | exact List.Sublist.slnil | exact List.nil_sublist _ | exact List.sublist_append_left _ _ | refine List.Sublist.cons_cons _ ?_ | refine List.Sublist.append (List.Sublist.refl _) ?_ | refine List.Sublist.cons _ ?_)) ?_
  rintro m S' L F ⟨rfl, k, bm, om, v5, vs, ob5, obs, rfl, hk, hom, ho5, hor, rfl, rfl⟩
  by_cases hlt : k < ds.length
  rotate_left
  · obtain rfl : k = ds.length := by omega
    obtain ⟨q1, q2, rfl⟩ := ho5.form
    (repeat (first | refine Jz ?_ | intro _))
    refine W.freezeRows hor (List.Perm.refl _) fun S1 hle1 hrs => ?_
    refine W.freezeOws ho5 (L1 := [(bm, om)]) (List.perm_append_comm (l₁ := [(bm, om)])) fun S2 hle2 hr => ?_
    exact o_ret2 Try.results22 rfl rfl (by repeat (first | exact List.Sublist.refl _ | exact List.Sublist.slnil | exact List.nil_sublist _ | exact List.sublist_append_left _ _ | refine List.Sublist.cons_cons _ ?_ | refine List.Sublist.append (List.Sublist.refl _) ?_ | refine List.Sublist.cons _ ?_)) ⟨rfl, _, rfl, vs, hr, hor.1, fun i s r a b => (hrs i s r a b).le hle2⟩
  obtain ⟨⟨sv, vr, fr, to⟩, hx⟩ := at_lt hlt
  have hdep := validB_dep h _ (List.mem_of_getElem? hx)
  simp only at hdep
  have hcl := clsF_snoc hx
  obtain ⟨hnd, hcn⟩ := clsF_nodup ds k hk
  have hvl : vs.length = (clsF ds k).length := by have := hor.1; simpa using this
  (repeat (first | refine Jc ?_ | (apply s_idx hA; (case hg => rfl); (case hd => rfl); (case hx => rfl); (case hi => rfl); (case hm => rfl); (case hu => exact hx); intro p (hp : Pts _ p [.int .i64 sv, .int .i64 vr, .int .i64 fr, .int .i64 to])) | (apply s_load_ag; (case hg => rfl); (case hd => rfl); (case hx => rfl); (case hv => exact hp); (case hl => rfl)) | refine Jo ?_ | intro _))
  refine c_meet (fun S1 L1 F1 => S1 = S' ∧ ∃ b8 x y, whenOf ⟨sv, vr, fr, to⟩ = (x, y) ∧ (0 ≤ x ∧ x ≤ 1000000) ∧ (0 ≤ y ∧ y ≤ 1000000) ∧ L1 = (b8, .cells [.int .i64 x, .int .i64 y].toArray 71 (0, 0)) :: (obs.flatten ++ ((bm, om) :: ob5)) ∧
    F1 = [(4, .map (some bm)), (5, v5), (6, .int .i64 k), (8, .pointer (some ⟨b8, 0, none⟩)), (15, .slice A ds.length c), (16, .int .i64 ds.length), (17, .int .i64 k)]) ?_ ?_
  · refine c_cond rfl (fun hft => ?_) (fun hft => ?_)
    · have hft' : fr = to := by simpa using hft
      (repeat (first | refine Jz ?_ | intro _))
      exact q_cut ⟨rfl, _, 0, 0, by simp [whenOf, hft'], by omega, by omega, rfl, rfl⟩ (by repeat (first | exact Sub.nil rfl | exact Sub.marked rfl | refine Sub.cons rfl ?_)) (by repeat (first | exact List.Sublist.refl _ | exact List.Sublist.slnil | exact List.nil_sublist _ | exact List.sublist_append_left _ _ | refine List.Sublist.cons_cons _ ?_ | refine List.Sublist.append (List.Sublist.refl _) ?_ | refine List.Sublist.cons _ ?_))
    · have hft' : ¬ fr = to := by simpa using hft
      (repeat (first | refine Jz ?_ | intro _))
      exact q_cut ⟨rfl, _, fr, to, by simp [whenOf, hft'], by omega, by omega, rfl, rfl⟩ (by repeat (first | exact Sub.nil rfl | exact Sub.marked rfl | refine Sub.cons rfl ?_)) (by repeat (first | exact List.Sublist.refl _ | exact List.Sublist.slnil | exact List.nil_sublist _ | exact List.sublist_append_left _ _ | refine List.Sublist.cons_cons _ ?_ | refine List.Sublist.append (List.Sublist.refl _) ?_ | refine List.Sublist.cons _ ?_))
  rintro S1 L1 F1 ⟨rfl, b8, x, y, hw, hxb, hyb, rfl, rfl⟩
  obtain ⟨lk, hkl⟩ := key71 hxb hyb
  rw [hw] at hcl
  by_cases hmem : (x, y) ∈ keysOf (clsF ds k)
  · obtain ⟨j, hj⟩ := List.getElem?_of_mem hmem
    have hin := entOf_mem hj
    simp only [keyV] at hin
    have hjl : j < (clsF ds k).length := by have := (List.getElem?_eq_some_iff.1 hj).1; simpa [keysOf] using this
    obtain ⟨⟨w1, r⟩, hcj⟩ := at_lt hjl
    obtain rfl : w1 = (x, y) := by simpa [keysOf, hcj] using hj
    obtain ⟨s, hs⟩ := at_lt (show j < vs.length by omega)
    obtain ⟨obj, hobj⟩ := at_lt (show j < obs.length by have := hor.2.1; simp at this; omega)
    have hrj := hor.2.2 j s r obj hs (by simp [hcj]) hobj
    have hrb := clsF_rows ds k hk _ (List.mem_of_getElem? hcj)
    simp only at hrb
    obtain ⟨g, cap, cs, rfl, rfl, o1, o2, o3, o4⟩ := ho5.open (by omega)
    have hcs := sv_at o4 hs
    have hpf : ∀ X, (obs.flatten ++ X).Perm (obj ++ ((obs.eraseIdx j).flatten ++ X)) := fun X => by rw [← List.append_assoc]; exact (flat_perm hobj).append_right X
    have hset := fun s' => sv_set (e := 27) (g := g) o1 o2 o3 o4 j s'
    rw [addC_old _ _ _ j r hnd hcj] at hcl
    (repeat (first | refine Jc ?_ | (apply s_ev; (case he => (apply ev_lookup_t; (case hx => rfl); (case hy => rfl); (case hm => (repeat (first | exact List.Mem.head _ | apply List.Mem.tail | apply List.mem_append_right))); (case ho => exact hom); (case hk => exact hkl); (case h => exact hin))); (case hg => rfl); (case hn => rfl); (case hd => rfl)) | (apply s_load_own; (case hg => rfl); (case hd => rfl); (case hx => rfl); (case hm => (repeat (first | exact List.Mem.head _ | apply List.Mem.tail | apply List.mem_append_right))); (case hv => exact hcs)) | (apply s_append (ms := [(k : Int)]); (case hg => rfl); (case hd => rfl); (case hx => rfl); (case ho => exact hrj); (case hL => ((repeat (apply pm_cons)); exact hpf _)); (case hy => rfl); (case hm => rfl); (case hs => (apply Src.own; (repeat (first | exact List.Mem.head _ | apply List.Mem.tail | apply List.mem_append_right)))); (case hzs => rfl); (case h0 => decide); (case hb => (simp; omega)); (case h63 => (simp; omega)); intro v' ob' ho'; obtain ⟨A', c', rfl⟩ := ho'.form) | (apply s_store; (case hg => rfl); (case hx => rfl); (case hy => rfl); (case h1 => rfl); (case hL => (repeat (first | exact Upd.head | apply Upd.tail | apply Upd.app))); (case hu => exact hcs)) | refine Jo ?_ | intro _))
    have hor' := OwR.set (s := ⟨A', (r ++ [(k : Int)]).length, c'⟩) hor ho' j
    refine W.trim (Sub.refl _) (L' := ob' ++ ((obs.eraseIdx j).flatten ++ ((bm, om) :: [(g, .cells (cs.set j (.slice A' (r ++ [(k : Int)]).length c')).toArray 27 (0, 0))]))) (by repeat (first | exact List.Sublist.refl _ | exact List.Sublist.slnil | exact List.nil_sublist _ | exact List.sublist_append_left _ _ | refine List.Sublist.cons_cons _ ?_ | refine List.Sublist.append (List.Sublist.refl _) ?_ | refine List.Sublist.cons _ ?_)) ?_
    have hq : (ob' ++ ((obs.eraseIdx j).flatten ++ ((bm, om) :: [(g, Obj.cells (cs.set j (.slice A' (r ++ [(k : Int)]).length c')).toArray 27 (0, 0))]))).Perm ((obs.set j ob').flatten ++ ((bm, om) :: [(g, Obj.cells (cs.set j (.slice A' (r ++ [(k : Int)]).length c')).toArray 27 (0, 0))])) := by rw [← List.append_assoc]; exact (flat_set hobj).append_right _
    refine W.perm ?_ hq
    exact q_back (m' := ds.length - (k + 1)) ⟨rfl, k + 1, bm, om, _, _, _, _, rfl, by omega, by rw [hcl, keysOf_set hcj]; exact hom, hset ⟨A', (r ++ [(k : Int)]).length, c'⟩, by rw [hcl, List.map_set]; exact hor', rfl, rfl⟩ (by omega) (by repeat (first | exact Sub.nil rfl | exact Sub.marked rfl | refine Sub.cons rfl ?_)) (by repeat (first | exact List.Sublist.refl _ | exact List.Sublist.slnil | exact List.nil_sublist _ | exact List.sublist_append_left _ _ | refine List.Sublist.cons_cons _ ?_ | refine List.Sublist.append (List.Sublist.refl _) ?_ | refine List.Sublist.cons _ ?_))
  · have hnin := entOf_not hmem
    simp only [keyV] at hnin
    obtain ⟨z1, z2, rfl⟩ := ho5.form
    rw [addC_new _ _ _ hmem] at hcl
    (repeat (first | refine Jc ?_ | (apply s_ev; (case he => (apply ev_lookup_f; (case hx => rfl); (case hy => rfl); (case hm => (repeat (first | exact List.Mem.head _ | apply List.Mem.tail | apply List.mem_append_right))); (case ho => exact hom); (case hk => exact hkl); (case h => exact hnin))); (case hg => rfl); (case hn => rfl); (case hd => rfl)) | (apply s_mapNew; (case hg => rfl); (case hx => rfl); (case hy => rfl); (case hz => rfl); (case ho => exact hom); (case hL => (intro o'; (repeat (first | exact Upd.head | apply Upd.tail | apply Upd.app)))); (case hk => exact hkl); (case h => exact hnin); intro o' hom') | (apply s_append (ms := [(⟨none, 0, 0⟩ : SV)]); (case hg => rfl); (case hd => rfl); (case hx => rfl); (case ho => exact ho5); (case hL => (repeat (first | exact pm_nil _ | exact pm_refl _ _ | exact pm_self _ | apply pm_cons | apply pm_app))); (case hy => rfl); (case hm => rfl); (case hs => (apply Src.own; (repeat (first | exact List.Mem.head _ | apply List.Mem.tail | apply List.mem_append_right)))); (case hzs => rfl); (case h0 => decide); (case hb => (simp; omega)); (case h63 => (simp; omega)); intro v5' ob5' ho5') | refine Jo ?_ | intro _))
    obtain ⟨g, cap, cs, rfl, rfl, o1, o2, o3, o4⟩ := ho5'.open (by simp)
    have hv1 : (vs ++ [(⟨none, 0, 0⟩ : SV)]).length = vs.length + 1 := by simp
    have hcs := sv_at o4 (k := vs.length) (s := ⟨none, 0, 0⟩) (by simp)
    have hset := fun s' => sv_set (e := 27) (g := g) o1 o2 o3 o4 vs.length s'
    (repeat (first | refine Jc ?_ | (apply s_load_own; (case hg => rfl); (case hd => rfl); (case hx => rfl); (case hm => (repeat (first | exact List.Mem.head _ | apply List.Mem.tail | apply List.mem_append_right))); (case hv => exact hcs)) | (apply s_append (ms := [(k : Int)]); (case hg => rfl); (case hd => rfl); (case hx => rfl); (case ho => exact Ows.nil (α := Int) 3); (case hL => exact pm_nil _); (case hy => rfl); (case hm => rfl); (case hs => (apply Src.own; (repeat (first | exact List.Mem.head _ | apply List.Mem.tail | apply List.mem_append_right)))); (case hzs => rfl); (case h0 => decide); (case hb => simp); (case h63 => simp); intro v' ob' ho'; obtain ⟨A', c', rfl⟩ := ho'.form) | (apply s_store; (case hg => rfl); (case hx => rfl); (case hy => rfl); (case h1 => rfl); (case hL => (repeat (first | exact Upd.head | apply Upd.tail | apply Upd.app))); (case hu => exact hcs)) | refine Jo ?_ | intro _))
    have ho2 : Ows 3 (SV.v ⟨A', 1, c'⟩) [(k : Int)] ob' := ho'
    have hor' := OwR.snoc hor ho2
    have hst := hset ⟨A', 1, c'⟩
    rw [show (vs ++ [(⟨none, 0, 0⟩ : SV)]).set vs.length ⟨A', 1, c'⟩ = vs ++ [⟨A', 1, c'⟩] by simp] at hst
    refine W.trim (Sub.refl _) (L' := ob' ++ ([(g, .cells (cs.set vs.length (.slice A' 1 c')).toArray 27 (0, 0))] ++ (obs.flatten ++ [(bm, o')]))) (by repeat (first | exact List.Sublist.refl _ | exact List.Sublist.slnil | exact List.nil_sublist _ | exact List.sublist_append_left _ _ | refine List.Sublist.cons_cons _ ?_ | refine List.Sublist.append (List.Sublist.refl _) ?_ | refine List.Sublist.cons _ ?_)) ?_
    refine W.perm ?_ pm4
    refine q_back (m' := ds.length - (k + 1)) ⟨rfl, k + 1, bm, o', _, _, _, obs ++ [ob'], rfl, by omega, ?_, hst, by rw [hcl, List.map_append]; exact hor', ?_, rfl⟩ (by omega) (by repeat (first | exact Sub.nil rfl | exact Sub.marked rfl | refine Sub.cons rfl ?_)) (by repeat (first | exact List.Sublist.refl _ | exact List.Sublist.slnil | exact List.nil_sublist _ | exact List.sublist_append_left _ _ | refine List.Sublist.cons_cons _ ?_ | refine List.Sublist.append (List.Sublist.refl _) ?_ | refine List.Sublist.cons _ ?_))
    · rw [hcl]
      have e1 : keysOf (clsF ds k ++ [((x, y), [(k : Int)])]) = keysOf (clsF ds k) ++ [(x, y)] := by simp [keysOf]
      have e2 : (keysOf (clsF ds k)).length = vs.length := by simp [keysOf, hvl]
      rw [e1, entOf_snoc, e2]
      exact hom'
    · simp only [List.flatten_append, List.flatten_cons, List.flatten_nil, List.append_nil, List.cons_append, List.nil_append]; rfl
end Go.Proofs.Ytmonkjbhoabhhaa
namespace Go.Proofs.Ytmonkjbhoabhhaa
open Go Go.X
set_option maxRecDepth 10000
set_option linter.unusedVariables false
attribute [local irreducible] Code.wpIn wpListIn Exit.then Exit.inBlock X.Out X.Back X.W X.Ev X.Con X.BinV X.Wh X.Wn X.Wq
theorem same_c {a b : List Int} {u v : Value} {S : SH} {r : Bool} (h : (a == b) = r) (hu : Sr S u a) (hv : Sr S v b) (ha : a.length ≤ 1000000000) : Con Try.prog 16 #[u, v] S [] (Pure S (.bool r)) := by
  obtain ⟨A, c, rfl, _, hA⟩ := hu
  obtain ⟨B, e, rfl, _, hB⟩ := hv
  subst h
  exact same_con a b A B c e S hA hB ha
theorem sameAll_con (a b : List (List Int)) (u v : Value) (S : SH) (hu : Srs S u a) (hv : Srs S v b) (hal : a.length ≤ 1000000) (ha : ∀ r ∈ a, r.length ≤ 1000000000) :
    Con Try.prog 26 #[u, v] S [] (Pure S (.bool (a == b))) := by
  obtain ⟨va, ⟨A, c, rfl, _, hA⟩, hla, hra⟩ := hu
  obtain ⟨vb, ⟨B, e, rfl, _, hB⟩, hlb, hrb⟩ := hv
  refine con_of (args := [.slice A va.length c, .slice B vb.length e]) Try.func26 rfl Try.ntmps26 rfl fun w => ?_
  by_cases hl : a.length = b.length
  rotate_left
  · (repeat (first | refine Jz ?_ | intro _))
    refine o_ret Try.results26 rfl (by repeat (first | exact List.Sublist.refl _ | exact List.Sublist.slnil | exact List.nil_sublist _ | exact List.sublist_append_left _ _ | refine List.Sublist.cons_cons _ ?_ | refine List.Sublist.append (List.Sublist.refl _) ?_ | refine List.Sublist.cons _ ?_)) ⟨rfl, rfl, ?_⟩
    have : a ≠ b := fun e => hl (by rw [e])
    simp [this]
  (repeat (first | refine Jz ?_ | intro _))
  refine c_loop (fun m S' L F => S' = S ∧ L = [] ∧ ∃ (k : Nat), m = a.length - k ∧ k ≤ a.length ∧ a.take k = b.take k ∧
      F = [(0, .slice A va.length c), (1, .slice B vb.length e), (5, .int .i64 k)]) ⟨rfl, rfl, 0, rfl, by omega, rfl, rfl⟩ (by repeat (first | exact Sub.nil rfl | exact Sub.marked rfl | refine Sub.cons rfl ?_)) (by repeat (first | exact List.Sublist.refl _ | exact List.Sublist.slnil | exact List.nil_sublist _ | exact List.sublist_append_left _ _ | refine List.Sublist.cons_cons _ ?_ | refine List.Sublist.append (List.Sublist.refl _) ?_ | refine List.Sublist.cons _ ?_)) ?_
  rintro m S' L F ⟨rfl, rfl, k, rfl, hk, ht, rfl⟩
  by_cases hlt : k < a.length
  rotate_left
  · (repeat (first | refine Jz ?_ | intro _))
    refine o_ret Try.results26 rfl (by repeat (first | exact List.Sublist.refl _ | exact List.Sublist.slnil | exact List.nil_sublist _ | exact List.sublist_append_left _ _ | refine List.Sublist.cons_cons _ ?_ | refine List.Sublist.append (List.Sublist.refl _) ?_ | refine List.Sublist.cons _ ?_)) ⟨rfl, rfl, ?_⟩
    rw [List.take_of_length_le (by omega), List.take_of_length_le (by omega)] at ht
    simp [ht]
  obtain ⟨x, hx⟩ := at_lt (show k < va.length by omega)
  obtain ⟨y, hy⟩ := at_lt (show k < vb.length by omega)
  obtain ⟨r, hr⟩ := at_lt hlt
  obtain ⟨q, hq⟩ := at_lt (show k < b.length by omega)
  have h1 := hra k x r hx hr
  have h2 := hrb k y q hy hq
  have h3 := ha r (List.mem_of_getElem? hr)
  cases hrq : r == q
  all_goals
    (repeat (first | refine Jz ?_ | intro _))
    (repeat (first | (apply q_idx hA; (case hg => rfl); (case hd => rfl); (case hx => rfl); (case hi => rfl); (case hm => rfl); (case hu => exact hx); intro p1 (hp1 : Pts _ p1 [x.v])) | (apply q_idx hB; (case hg => rfl); (case hd => rfl); (case hx => rfl); (case hi => rfl); (case hm => rfl); (case hu => exact hy); intro p2 (hp2 : Pts _ p2 [y.v])) | (apply q_ev; (case hg => rfl); (case hd => rfl); (case he => (apply ev_load1; (case hx => rfl); (case h => exact hp1)))) | (apply q_ev; (case hg => rfl); (case hd => rfl); (case he => (apply ev_load1; (case hx => rfl); (case h => exact hp2)))) | (apply q_call; (case hg => rfl); (case hd => rfl); (case ha => rfl); (case hc => (intro S1 hle1 hm1; exact same_c hrq (h1.le hle1) (h2.le hle1) h3)); (case hq => (rintro _ _ _ _ ⟨-, -, rfl⟩; rfl))) | refine Jd ?_))
    (repeat (first | refine Jz ?_ | intro _))
  · refine o_ret Try.results26 rfl (by repeat (first | exact List.Sublist.refl _ | exact List.Sublist.slnil | exact List.nil_sublist _ | exact List.sublist_append_left _ _ | refine List.Sublist.cons_cons _ ?_ | refine List.Sublist.append (List.Sublist.refl _) ?_ | refine List.Sublist.cons _ ?_)) ⟨rfl, rfl, ?_⟩
    have hne : a ≠ b := fun e => by subst e; rw [hr] at hq; injection hq with hq; subst hq; simp at hrq
    simp [hne]
  · refine q_back (m' := a.length - (k + 1)) ⟨rfl, rfl, k + 1, rfl, by omega, ?_, rfl⟩ (by omega) (by repeat (first | exact Sub.nil rfl | exact Sub.marked rfl | refine Sub.cons rfl ?_)) (by repeat (first | exact List.Sublist.refl _ | exact List.Sublist.slnil | exact List.nil_sublist _ | exact List.sublist_append_left _ _ | refine List.Sublist.cons_cons _ ?_ | refine List.Sublist.append (List.Sublist.refl _) ?_ | refine List.Sublist.cons _ ?_))
    rw [take_at hr, take_at hq, ht, eq_of_beq hrq]
end Go.Proofs.Ytmonkjbhoabhhaa
namespace Go.Proofs.Ytmonkjbhoabhhaa
open Go Go.X
set_option maxRecDepth 10000
set_option linter.unusedVariables false
attribute [local irreducible] Code.wpIn wpListIn Exit.then Exit.inBlock X.Out X.Back X.W X.Ev X.Con X.BinV X.Wh X.Wn X.Wq
theorem alike_when {d d' : Dep} (h : d.frm ≤ d.to ∧ 0 ≤ d.frm) (h' : d'.frm ≤ d'.to ∧ 0 ≤ d'.frm) : alike d d' = decide (whenOf d = whenOf d') := by
  obtain ⟨s, v, f, t⟩ := d
  obtain ⟨s', v', f', t'⟩ := d'
  simp only at h h'
  rw [Bool.eq_iff_iff]
  simp only [alike, whenOf, Bool.or_eq_true, Bool.and_eq_true, beq_iff_eq, decide_eq_true_eq]
  by_cases h1 : f = t <;> by_cases h2 : f' = t' <;> simp [h1, h2] <;> omega
theorem clsF_head (ds : List Dep) : ∀ n, n ≤ ds.length → ∀ p ∈ clsF ds n, ∃ (h : Nat) (rest : List Int) (d : Dep), p.2 = (h : Int) :: rest ∧ ds[h]? = some d ∧ whenOf d = p.1
  | 0, _ => by simp [clsF]
  | n + 1, hn => by
    obtain ⟨d, hd⟩ := at_lt (show n < ds.length by omega)
    obtain ⟨hnd, _⟩ := clsF_nodup ds n (by omega)
    have ih := clsF_head ds n (by omega)
    rw [clsF_snoc hd]
    intro p hp
    by_cases hm : whenOf d ∈ keysOf (clsF ds n)
    · obtain ⟨q, hq, hq2⟩ := List.mem_map.1 hm
      obtain ⟨j, hj⟩ := List.getElem?_of_mem hq
      obtain ⟨qw, qr⟩ := q
      simp only at hq2
      subst hq2
      rw [addC_old _ _ _ j qr hnd hj] at hp
      rcases List.mem_or_eq_of_mem_set hp with hp | rfl
      · exact ih p hp
      · obtain ⟨h, rest, d', e1, e2, e3⟩ := ih _ hq
        simp only at e1 e3
        exact ⟨h, rest ++ [(n : Int)], d', by simp [e1], e2, e3⟩
    · rw [addC_new _ _ _ hm] at hp
      rcases List.mem_append.1 hp with hp | hp
      · exact ih p hp
      · simp only [List.mem_singleton] at hp
        subst hp
        exact ⟨n, [], d, rfl, hd, rfl⟩
theorem alike_b {a b : Dep} {S : SH} {r : Bool} (h : alike a b = r) : Con Try.prog 41 #[.agg #[.int .i64 a.service, .int .i64 a.version, .int .i64 a.frm, .int .i64 a.to], .agg #[.int .i64 b.service, .int .i64 b.version, .int .i64 b.frm, .int .i64 b.to]] S [] (Pure S (.bool r)) := h ▸ alike_con a b S
theorem rClasses_con (ds : List Dep) (A : Option Addr) (c : Nat) (S : SH) (hA : At S A ds) (hd : ds.length ≤ 1000000) (b : Bool) (h : validB ds [] = b) :
    Con Try.prog 23 #[.slice A ds.length c] S [] (Two (fun S' u => Srs S' u (if b then classes ds else [])) (if b then 0 else 290)) := by
  refine con_of (args := [.slice A ds.length c]) Try.func23 rfl Try.ntmps23 rfl fun w => ?_
  cases b
  · (repeat (first | refine Jc ?_ | (apply z_call; rfl; rfl; rfl; exact rvalid_c (e := 0) (ls := []) h hA (At.nil _ _) hd (by simp); rintro _ _ _ - ⟨rfl, rfl, rfl⟩) | refine Jo ?_ | intro _))
    exact o_ret2 Try.results23 rfl rfl (by repeat (first | exact List.Sublist.refl _ | exact List.Sublist.slnil | exact List.nil_sublist _ | exact List.sublist_append_left _ _ | refine List.Sublist.cons_cons _ ?_ | refine List.Sublist.append (List.Sublist.refl _) ?_ | refine List.Sublist.cons _ ?_)) ⟨rfl, _, rfl, Srs.nil _⟩
  have hv := validB_len h
  (repeat (first | refine Jc ?_ | (apply z_call; rfl; rfl; rfl; exact rvalid_c (e := 0) (ls := []) h hA (At.nil _ _) hd (by simp); rintro _ _ _ - ⟨rfl, rfl, rfl⟩) | refine Jo ?_ | intro _))
  refine c_loop (fun m S' L F => Le S S' ∧ ∃ (k : Nat) (v4 : Value) (vs : List SV) (ob4 : Blocks), m = ds.length - k ∧ k ≤ ds.length ∧ Ows 27 v4 vs ob4 ∧ vs.length = (clsF ds k).length ∧ (∀ (i : Nat) (s : SV) (p : (Int × Int) × List Int), vs[i]? = some s → (clsF ds k)[i]? = some p → Sr S' s.v p.2) ∧ L = ob4 ∧
      F = [(0, .slice A ds.length c), (4, v4), (5, .int .i64 k)]) ⟨Le.refl _, 0, _, [], _, rfl, by omega, Ows.nil 27, rfl, fun i s p a => by simp at a, rfl, rfl⟩ (by repeat (first | exact Sub.nil rfl | exact Sub.marked rfl | refine Sub.cons rfl ?_)) (by repeat (first | exact List.Sublist.refl _ | exact List.Sublist.slnil | exact List.nil_sublist _ | exact List.sublist_append_left _ _ | refine List.Sublist.cons_cons _ ?_ | refine List.Sublist.append (List.Sublist.refl _) ?_ | refine List.Sublist.cons _ ?_)) ?_
  rintro m S' L F ⟨hle, k, v4, vs, ob4, rfl, hk, ho4, hvl, hrs, rfl, rfl⟩
  by_cases hlt : k < ds.length
  rotate_left
  · obtain rfl : k = ds.length := by omega
    (repeat (first | refine Jz ?_ | intro _))
    refine W.freezeOws ho4 (by repeat (first | exact pm_nil _ | exact pm_refl _ _ | exact pm_self _ | refine pm_cons ?_ | refine pm_app ?_)) fun S2 hle2 hr => ?_
    exact o_ret2 Try.results23 rfl rfl (by repeat (first | exact List.Sublist.refl _ | exact List.Sublist.slnil | exact List.nil_sublist _ | exact List.sublist_append_left _ _ | refine List.Sublist.cons_cons _ ?_ | refine List.Sublist.append (List.Sublist.refl _) ?_ | refine List.Sublist.cons _ ?_)) ⟨rfl, _, rfl, vs, hr, by simpa [classes] using hvl, fun i s r a b => by
      simp only [if_true, classes, List.getElem?_map, Option.map_eq_some_iff] at b
      obtain ⟨p, hp, rfl⟩ := b
      exact (hrs i s p a hp).le hle2⟩
  obtain ⟨d, hx⟩ := at_lt hlt
  have hcl := clsF_snoc hx
  obtain ⟨hnd, hcn⟩ := clsF_nodup ds k hk
  have hA' := hA.le hle
  have hdep := validB_dep h _ (List.mem_of_getElem? hx)
  have hkl : (keysOf (clsF ds k)).length = vs.length := by simp [keysOf, hvl]
  (repeat (first | refine Jz ?_ | intro _))
  refine c_meetB (fun S1 L1 F1 => S1 = S' ∧ L1 = L ∧ ∃ k' : Nat, k' ≤ vs.length ∧ (k' < vs.length → (keysOf (clsF ds k))[k']? = some (whenOf d)) ∧ (k' = vs.length → whenOf d ∉ keysOf (clsF ds k)) ∧
    F1 = [(0, .slice A ds.length c), (4, v4), (5, .int .i64 k), (6, .int .i64 k')]) ?_ ?_
  · refine c_loop (fun m S1 L1 F1 => S1 = S' ∧ L1 = L ∧ ∃ k' : Nat, m = vs.length - k' ∧ k' ≤ vs.length ∧ (∀ i, i < k' → (keysOf (clsF ds k))[i]? ≠ some (whenOf d)) ∧
      F1 = [(0, .slice A ds.length c), (4, v4), (5, .int .i64 k), (6, .int .i64 k')]) ⟨rfl, rfl, 0, rfl, by omega, fun i hi => by omega, rfl⟩ (by repeat (first | exact Sub.nil rfl | exact Sub.marked rfl | refine Sub.cons rfl ?_)) (by repeat (first | exact List.Sublist.refl _ | exact List.Sublist.slnil | exact List.nil_sublist _ | exact List.sublist_append_left _ _ | refine List.Sublist.cons_cons _ ?_ | refine List.Sublist.append (List.Sublist.refl _) ?_ | refine List.Sublist.cons _ ?_)) ?_
    rintro m S1 L1 F1 ⟨rfl, rfl, k', rfl, hk', hno, rfl⟩
    obtain ⟨q1, q2, rfl⟩ := ho4.form
    by_cases hlt' : k' < vs.length
    rotate_left
    · obtain rfl : k' = vs.length := by omega
      (repeat (first | refine Jz ?_ | intro _))
      refine q_cut ⟨rfl, rfl, vs.length, by omega, fun h => by omega, fun _ hm => ?_, rfl⟩ (by repeat (first | exact Sub.nil rfl | exact Sub.marked rfl | refine Sub.cons rfl ?_)) (by repeat (first | exact List.Sublist.refl _ | exact List.Sublist.slnil | exact List.nil_sublist _ | exact List.sublist_append_left _ _ | refine List.Sublist.cons_cons _ ?_ | refine List.Sublist.append (List.Sublist.refl _) ?_ | refine List.Sublist.cons _ ?_))
      obtain ⟨i, hi⟩ := List.getElem?_of_mem hm
      have hil := (List.getElem?_eq_some_iff.1 hi).1
      exact hno i (by omega) hi
    obtain ⟨s, hs⟩ := at_lt hlt'
    obtain ⟨p, hp⟩ := at_lt (show k' < (clsF ds k).length by omega)
    obtain ⟨hd0, rest, d', e1, e2, e3⟩ := clsF_head ds k hk p (List.mem_of_getElem? hp)
    have hkp : (keysOf (clsF ds k))[k']? = some p.1 := by simp [keysOf, hp]
    have hrow := hrs k' s p hs hp
    rw [e1] at hrow
    obtain ⟨B, e, hsv, _, hB⟩ := hrow
    have hdep' := validB_dep h _ (List.mem_of_getElem? e2)
    have hal := alike_when (d := d') (d' := d) ⟨hdep'.2.1, hdep'.1⟩ ⟨hdep.2.1, hdep.1⟩
    rw [e3] at hal
    obtain ⟨g, cap, cs, hv4, rfl, o1, o2, o3, o4⟩ := ho4.open (by omega)
    injection hv4 with hv4 _ hv5
    subst hv4 hv5
    have hcs := sv_at o4 hs
    rw [hsv] at hcs
    have hB0 : ((hd0 : Int) :: rest)[0]? = some (hd0 : Int) := rfl
    by_cases heq : p.1 = whenOf d
    · rw [decide_eq_true heq] at hal
      (repeat (first | refine Jz ?_ | intro _))
      (repeat (first | (apply q_ev; (case hg => rfl); (case hd => rfl); (case he => (apply ev_idxo1; (case hx => rfl); (case hi => rfl); (case hk => omega)))) | (apply q_ev; (case hg => rfl); (case hd => rfl); (case he => (apply ev_load_own; (case hx => rfl); (case hm => (repeat (first | exact List.Mem.head _ | apply List.Mem.tail | apply List.mem_append_right))); (case h => exact hcs)))) | (apply q_idx hB; (case hg => rfl); (case hd => rfl); (case hx => rfl); (case hi => rfl); (case hm => rfl); (case hu => exact hB0); intro p1 (hp1 : Pts _ p1 [_])) | (apply q_ev; (case hg => rfl); (case hd => rfl); (case he => (apply ev_load1; (case hx => rfl); (case h => exact hp1)))) | (apply q_idx hA'; (case hg => rfl); (case hd => rfl); (case hx => rfl); (case hi => rfl); (case hm => rfl); (case hu => exact e2); intro p2 (hp2 : Pts _ p2 [_, _, _, _])) | (apply q_idx hA'; (case hg => rfl); (case hd => rfl); (case hx => rfl); (case hi => rfl); (case hm => rfl); (case hu => exact hx); intro p3 (hp3 : Pts _ p3 [_, _, _, _])) | (apply q_ev; (case hg => rfl); (case hd => rfl); (case he => (apply ev_load_ag; (case hx => rfl); (case h => exact hp2); (case hl => rfl)))) | (apply q_ev; (case hg => rfl); (case hd => rfl); (case he => (apply ev_load_ag; (case hx => rfl); (case h => exact hp3); (case hl => rfl)))) | (apply q_call; (case hg => rfl); (case hd => rfl); (case ha => rfl); (case hc => (intro S1 hle1 hm1; exact alike_b hal)); (case hq => (rintro _ _ _ _ ⟨-, -, rfl⟩; rfl))) | refine Jd ?_))
      (repeat (first | refine Jz ?_ | intro _))
      exact q_cut ⟨rfl, rfl, k', by omega, fun _ => by rw [hkp, heq], fun h => by omega, rfl⟩ (by repeat (first | exact Sub.nil rfl | exact Sub.marked rfl | refine Sub.cons rfl ?_)) (by repeat (first | exact List.Sublist.refl _ | exact List.Sublist.slnil | exact List.nil_sublist _ | exact List.sublist_append_left _ _ | refine List.Sublist.cons_cons _ ?_ | refine List.Sublist.append (List.Sublist.refl _) ?_ | refine List.Sublist.cons _ ?_))
    · rw [decide_eq_false heq] at hal
      (repeat (first | refine Jz ?_ | intro _))
      (repeat (first | (apply q_ev; (case hg => rfl); (case hd => rfl); (case he => (apply ev_idxo1; (case hx => rfl); (case hi => rfl); (case hk => omega)))) | (apply q_ev; (case hg => rfl); (case hd => rfl); (case he => (apply ev_load_own; (case hx => rfl); (case hm => (repeat (first | exact List.Mem.head _ | apply List.Mem.tail | apply List.mem_append_right))); (case h => exact hcs)))) | (apply q_idx hB; (case hg => rfl); (case hd => rfl); (case hx => rfl); (case hi => rfl); (case hm => rfl); (case hu => exact hB0); intro p1 (hp1 : Pts _ p1 [_])) | (apply q_ev; (case hg => rfl); (case hd => rfl); (case he => (apply ev_load1; (case hx => rfl); (case h => exact hp1)))) | (apply q_idx hA'; (case hg => rfl); (case hd => rfl); (case hx => rfl); (case hi => rfl); (case hm => rfl); (case hu => exact e2); intro p2 (hp2 : Pts _ p2 [_, _, _, _])) | (apply q_idx hA'; (case hg => rfl); (case hd => rfl); (case hx => rfl); (case hi => rfl); (case hm => rfl); (case hu => exact hx); intro p3 (hp3 : Pts _ p3 [_, _, _, _])) | (apply q_ev; (case hg => rfl); (case hd => rfl); (case he => (apply ev_load_ag; (case hx => rfl); (case h => exact hp2); (case hl => rfl)))) | (apply q_ev; (case hg => rfl); (case hd => rfl); (case he => (apply ev_load_ag; (case hx => rfl); (case h => exact hp3); (case hl => rfl)))) | (apply q_call; (case hg => rfl); (case hd => rfl); (case ha => rfl); (case hc => (intro S1 hle1 hm1; exact alike_b hal)); (case hq => (rintro _ _ _ _ ⟨-, -, rfl⟩; rfl))) | refine Jd ?_))
      (repeat (first | refine Jz ?_ | intro _))
      exact q_back (m' := vs.length - (k' + 1)) ⟨rfl, rfl, k' + 1, rfl, by omega, fun i hi => by
        rcases Nat.lt_or_eq_of_le (Nat.lt_succ_iff.1 hi) with hlt | rfl
        · exact hno i hlt
        · rw [hkp]; exact fun e => heq (Option.some.inj e), rfl⟩ (by omega) (by repeat (first | exact Sub.nil rfl | exact Sub.marked rfl | refine Sub.cons rfl ?_)) (by repeat (first | exact List.Sublist.refl _ | exact List.Sublist.slnil | exact List.nil_sublist _ | exact List.sublist_append_left _ _ | refine List.Sublist.cons_cons _ ?_ | refine List.Sublist.append (List.Sublist.refl _) ?_ | refine List.Sublist.cons _ ?_))
  rintro S1 L1 F1 ⟨rfl, rfl, k', hk', hyes, hno, rfl⟩
  by_cases hlt' : k' < vs.length
  · have hkey := hyes hlt'
    obtain ⟨⟨w1, r⟩, hcj⟩ := at_lt (show k' < (clsF ds k).length by omega)
    obtain rfl : w1 = whenOf d := by simpa [keysOf, hcj] using hkey
    obtain ⟨s, hs⟩ := at_lt hlt'
    have hrow := hrs k' s _ hs hcj
    obtain ⟨B, e, hsv, _, hB⟩ := hrow
    have hrb := clsF_rows ds k hk _ (List.mem_of_getElem? hcj)
    simp only at hrb hsv hB
    obtain ⟨g, cap, cs, rfl, rfl, o1, o2, o3, o4⟩ := ho4.open (by omega)
    have hcs := sv_at o4 hs
    have hcs' := hcs
    rw [hsv] at hcs
    have hset := fun s' => sv_set (e := 27) (g := g) o1 o2 o3 o4 k' s'
    rw [addC_old _ _ _ k' r hnd hcj] at hcl
    (repeat (first | refine Jz ?_ | intro _))
    rename_i b0
    have ho0 := Ows.full (α := Int) (e := 3) (g := b0) (cs := []) (l := []) rfl (by decide)
    (repeat (first | refine Jc ?_ | (apply s_load_own; (case hg => rfl); (case hd => rfl); (case hx => rfl); (case hm => (repeat (first | exact List.Mem.head _ | apply List.Mem.tail | apply List.mem_append_right))); (case hv => exact hcs)) | (apply s_append_st (ms := r) hB; (case hg => rfl); (case hd => rfl); (case hx => rfl); (case ho => exact ho0); (case hL => (repeat (first | exact pm_nil _ | exact pm_refl _ _ | exact pm_self _ | apply pm_cons | apply pm_app))); (case hy => rfl); (case hm => first | rfl | simp); (case hzs => rfl); (case h0 => decide); (case hb => first | (simp; omega) | simp); (case h63 => first | (simp; omega) | simp); intro v1 ob1 ho1) | (apply s_append (ms := [(k : Int)]); (case hg => rfl); (case hd => rfl); (case hx => rfl); (case ho => exact ho1); (case hL => (repeat (first | exact pm_nil _ | exact pm_refl _ _ | exact pm_self _ | apply pm_cons | apply pm_app))); (case hy => rfl); (case hm => rfl); (case hs => (apply Src.own; (repeat (first | exact List.Mem.head _ | apply List.Mem.tail | apply List.mem_append_right)))); (case hzs => rfl); (case h0 => decide); (case hb => (simp; omega)); (case h63 => (simp; omega)); intro v2 ob2 ho2; obtain ⟨A2, c2, rfl⟩ := ho2.form) | (apply s_store; (case hg => rfl); (case hx => rfl); (case hy => rfl); (case h1 => rfl); (case hL => (repeat (first | exact Upd.head | apply Upd.tail | apply Upd.app))); (case hu => exact hcs')) | refine Jo ?_ | intro _))
    refine W.freezeOws ho2 (by repeat (first | exact pm_nil _ | exact pm_refl _ _ | exact pm_self _ | refine pm_cons ?_ | refine pm_app ?_)) fun S2 hle2 hr2 => ?_
    refine q_back (m' := ds.length - (k + 1)) ⟨hle.trans hle2, k + 1, _, _, _, rfl, by omega, hset ⟨A2, ([] ++ r ++ [(k : Int)]).length, c2⟩, by rw [hcl]; simp [hvl], fun i s0 p0 a b => ?_, rfl, rfl⟩ (by omega) (by repeat (first | exact Sub.nil rfl | exact Sub.marked rfl | refine Sub.cons rfl ?_)) (by repeat (first | exact List.Sublist.refl _ | exact List.Sublist.slnil | exact List.nil_sublist _ | exact List.sublist_append_left _ _ | refine List.Sublist.cons_cons _ ?_ | refine List.Sublist.append (List.Sublist.refl _) ?_ | refine List.Sublist.cons _ ?_))
    rw [hcl] at b
    by_cases hik : k' = i
    · subst hik
      rw [List.getElem?_set_self hlt'] at a
      rw [List.getElem?_set_self (by omega)] at b
      injection a with a
      injection b with b
      subst a b
      exact hr2
    · rw [List.getElem?_set_ne hik] at a b
      exact (hrs i s0 p0 a b).le hle2
  · obtain rfl : k' = vs.length := by omega
    have hmem := hno rfl
    rw [addC_new _ _ _ hmem] at hcl
    obtain ⟨z1, z2, rfl⟩ := ho4.form
    (repeat (first | refine Jc ?_ | (apply s_append (ms := [(⟨none, 0, 0⟩ : SV)]); (case hg => rfl); (case hd => rfl); (case hx => rfl); (case ho => exact ho4); (case hL => (repeat (first | exact pm_nil _ | exact pm_refl _ _ | exact pm_self _ | apply pm_cons | apply pm_app))); (case hy => rfl); (case hm => rfl); (case hs => (apply Src.own; (repeat (first | exact List.Mem.head _ | apply List.Mem.tail | apply List.mem_append_right)))); (case hzs => rfl); (case h0 => decide); (case hb => (simp; omega)); (case h63 => (simp; omega)); intro v5' ob5' ho5') | refine Jo ?_ | intro _))
    rename_i b1 b0
    obtain ⟨g, cap, cs, rfl, rfl, o1, o2, o3, o4⟩ := ho5'.open (by simp)
    have hv1 : (vs ++ [(⟨none, 0, 0⟩ : SV)]).length = vs.length + 1 := by simp
    have hcs := sv_at o4 (k := vs.length) (s := ⟨none, 0, 0⟩) (by simp)
    have hset := fun s' => sv_set (e := 27) (g := g) o1 o2 o3 o4 vs.length s'
    have ho0 := Ows.full (α := Int) (e := 3) (g := b0) (cs := []) (l := []) rfl (by decide)
    (repeat (first | refine Jc ?_ | (apply s_load_own; (case hg => rfl); (case hd => rfl); (case hx => rfl); (case hm => (repeat (first | exact List.Mem.head _ | apply List.Mem.tail | apply List.mem_append_right))); (case hv => exact hcs)) | (apply s_append_st (ms := ([] : List Int)) (At.nil _ none); (case hg => rfl); (case hd => rfl); (case hx => rfl); (case ho => exact ho0); (case hL => (repeat (first | exact pm_nil _ | exact pm_refl _ _ | exact pm_self _ | apply pm_cons | apply pm_app))); (case hy => rfl); (case hm => rfl); (case hzs => rfl); (case h0 => decide); (case hb => simp); (case h63 => simp); intro v1 ob1 ho1) | (apply s_append (ms := [(k : Int)]); (case hg => rfl); (case hd => rfl); (case hx => rfl); (case ho => exact ho1); (case hL => (repeat (first | exact pm_nil _ | exact pm_refl _ _ | exact pm_self _ | apply pm_cons | apply pm_app))); (case hy => rfl); (case hm => rfl); (case hs => (apply Src.own; (repeat (first | exact List.Mem.head _ | apply List.Mem.tail | apply List.mem_append_right)))); (case hzs => rfl); (case h0 => decide); (case hb => simp); (case h63 => simp); intro v2 ob2 ho2; obtain ⟨A2, c2, rfl⟩ := ho2.form) | (apply s_store; (case hg => rfl); (case hx => rfl); (case hy => rfl); (case h1 => rfl); (case hL => (repeat (first | exact Upd.head | apply Upd.tail | apply Upd.app))); (case hu => exact hcs)) | refine Jo ?_ | intro _))
    refine W.freezeOws ho2 (by repeat (first | exact pm_nil _ | exact pm_refl _ _ | exact pm_self _ | refine pm_cons ?_ | refine pm_app ?_)) fun S2 hle2 hr2 => ?_
    have hst := hset ⟨A2, 1, c2⟩
    rw [show (vs ++ [(⟨none, 0, 0⟩ : SV)]).set vs.length ⟨A2, 1, c2⟩ = vs ++ [⟨A2, 1, c2⟩] by simp] at hst
    refine q_back (m' := ds.length - (k + 1)) ⟨hle.trans hle2, k + 1, _, _, _, rfl, by omega, hst, by rw [hcl]; simp [hvl], fun i s0 p0 a b => ?_, rfl, rfl⟩ (by omega) (by repeat (first | exact Sub.nil rfl | exact Sub.marked rfl | refine Sub.cons rfl ?_)) (by repeat (first | exact List.Sublist.refl _ | exact List.Sublist.slnil | exact List.nil_sublist _ | exact List.sublist_append_left _ _ | refine List.Sublist.cons_cons _ ?_ | refine List.Sublist.append (List.Sublist.refl _) ?_ | refine List.Sublist.cons _ ?_))
    rw [hcl] at b
    rcases Nat.lt_or_ge i vs.length with hi | hi
    · rw [List.getElem?_append_left hi] at a
      rw [List.getElem?_append_left (by omega)] at b
      exact (hrs i s0 p0 a b).le hle2
    · rw [List.getElem?_append_right hi] at a
      rw [List.getElem?_append_right (by omega)] at b
      have hi0 : i - vs.length = 0 := by
        have := (List.getElem?_eq_some_iff.1 a).1; simpa using this
      rw [hi0] at a
      rw [show i - (clsF ds k).length = 0 by omega] at b
      simp at a b
      subst a b
      exact hr2
end Go.Proofs.Ytmonkjbhoabhhaa
namespace Go.Proofs.Ytmonkjbhoabhhaa
open Go Go.X
set_option linter.unusedVariables false
/-! ### The last moment that is not behind a time -/
def lastF (t : Int) (a : Int) (m : Int) : Int := if m ≤ t then m else a
def lastLE (l : List Int) (t a : Int) : Int := l.foldl (lastF t) a
theorem lastLE_snoc (l : List Int) (m t a : Int) : lastLE (l ++ [m]) t a = lastF t (lastLE l t a) m := by simp [lastLE]
theorem lastLE_spec (t : Int) : ∀ (l : List Int) (a : Int), l.Pairwise (· < ·) → (∃ m ∈ l, m ≤ t) → lastLE l t a ∈ l ∧ lastLE l t a ≤ t ∧ ∀ m ∈ l, m ≤ t → m ≤ lastLE l t a
  | [], a, _, ⟨m, hm, _⟩ => by cases hm
  | x :: l, a, hp, hex => by
    obtain ⟨h1, h2⟩ := List.pairwise_cons.1 hp
    by_cases hl : ∃ m ∈ l, m ≤ t
    · obtain ⟨i1, i2, i3⟩ := lastLE_spec t l (lastF t a x) h2 hl
      refine ⟨List.mem_cons_of_mem _ i1, i2, fun m hm hmt => ?_⟩
      rcases List.mem_cons.1 hm with rfl | hm
      · have := h1 _ i1; show m ≤ lastLE l t (lastF t a m); omega
      · exact i3 m hm hmt
    · have hx : x ≤ t := by
        obtain ⟨m, hm, hmt⟩ := hex
        rcases List.mem_cons.1 hm with rfl | hm
        · exact hmt
        · exact absurd ⟨m, hm, hmt⟩ hl
      have e : lastLE (x :: l) t a = x := by
        have key : ∀ (l : List Int) (b : Int), (∀ m ∈ l, ¬ m ≤ t) → lastLE l t b = b := by
          intro l
          induction l with
          | nil => intro b _; rfl
          | cons y l ih =>
            intro b hb
            have hy := hb y List.mem_cons_self
            show lastLE l t (lastF t b y) = b
            rw [ih _ fun m hm => hb m (List.mem_cons_of_mem _ hm)]
            simp [lastF, hy]
        show lastLE l t (lastF t a x) = x
        rw [key l _ fun m hm hmt => hl ⟨m, hm, hmt⟩]
        simp [lastF, hx]
      rw [e]
      refine ⟨List.mem_cons_self, hx, fun m hm hmt => ?_⟩
      rcases List.mem_cons.1 hm with rfl | hm
      · omega
      · exact absurd ⟨m, hm, hmt⟩ hl
theorem zero_mem (ds : List Dep) : (0 : Int) ∈ moms ds := ((moms_spec ds).2 0).2 (by simp [ends])
theorem frm_mem {ds : List Dep} {d : Dep} (h : d ∈ ds) : d.frm ∈ moms ds := ((moms_spec ds).2 _).2 (by simp only [ends, List.mem_cons, List.mem_flatMap]; exact .inr ⟨d, h, by simp⟩)
theorem to_mem {ds : List Dep} {d : Dep} (h : d ∈ ds) : d.to ∈ moms ds := ((moms_spec ds).2 _).2 (by simp only [ends, List.mem_cons, List.mem_flatMap]; exact .inr ⟨d, h, by simp⟩)
theorem on_last {ds : List Dep} {t : Int} (ht : 0 ≤ t) (a : Int) {d : Dep} (h : d ∈ ds) : on d t = on d (lastLE (moms ds) t a) := by
  obtain ⟨i1, i2, i3⟩ := lastLE_spec t (moms ds) a (moms_spec ds).1 ⟨0, zero_mem ds, ht⟩
  have h1 := i3 _ (frm_mem h)
  have h2 := i3 _ (to_mem h)
  generalize lastLE (moms ds) t a = q at *
  simp only [on]
  rw [Bool.eq_iff_iff]
  simp only [Bool.and_eq_true, decide_eq_true_eq]
  omega
theorem onAt_last {ds : List Dep} {t : Int} (ht : 0 ≤ t) (a : Int) (i : Nat) : onAt ds t i = onAt ds (lastLE (moms ds) t a) i := by
  simp only [onAt]
  cases hd : ds[i]? with
  | none => rfl
  | some d => exact on_last ht a (List.mem_of_getElem? hd)
theorem actives_last {ds : List Dep} {t : Int} (ht : 0 ≤ t) (a : Int) : actives ds t = actives ds (lastLE (moms ds) t a) := by
  simp only [actives]
  congr 1
  funext i
  exact onAt_last ht a i
theorem moms_head (ds : List Dep) (h : ∀ t ∈ moms ds, 0 ≤ t) : ∃ l, moms ds = 0 :: l := by
  have h0 := zero_mem ds
  have hp := (moms_spec ds).1
  cases hm : moms ds with
  | nil => rw [hm] at h0; cases h0
  | cons x l =>
    rw [hm] at h0 hp h
    obtain ⟨h1, _⟩ := List.pairwise_cons.1 hp
    have hx := h x List.mem_cons_self
    rcases List.mem_cons.1 h0 with rfl | h0
    · exact ⟨l, rfl⟩
    · have := h1 _ h0; omega
/-- No time splits the candidates better than Next's. -/
theorem inPart_last {ds : List Dep} (cs : List Int) {t : Int} (ht : 0 ≤ t) (a : Int) : inPart ds cs t = inPart ds cs (lastLE (moms ds) t a) := by
  simp only [inPart]
  congr 2
  exact List.filter_congr fun i _ => onAt_last ht a i.toNat
theorem next_all {ds : List Dep} {ls : List Tri} (h : validB ds ls = true) (wr : Int) {s : Int} (hs : 0 ≤ s) :
    (nextB ds ls wr < 0 → splitB ds (cands ds ls wr) s = false) ∧ (0 ≤ nextB ds ls wr → splitB ds (cands ds ls wr) s = true → worst ds (cands ds ls wr) (nextB ds ls wr) ≤ worst ds (cands ds ls wr) s) := by
  have hl := lastLE_spec s (moms ds) 0 (moms_spec ds).1 ⟨0, zero_mem ds, hs⟩
  have hi := inPart_last (ds := ds) (cands ds ls wr) hs 0
  have e1 : splitB ds (cands ds ls wr) s = splitB ds (cands ds ls wr) (lastLE (moms ds) s 0) := by simp only [splitB, hi]
  have e2 : worst ds (cands ds ls wr) s = worst ds (cands ds ls wr) (lastLE (moms ds) s 0) := by simp only [worst, hi]
  rw [e1, e2]
  rcases next_spec h wr with ⟨e, hall⟩ | ⟨h1, _, _, _, hall⟩
  · exact ⟨fun _ => hall _ hl.1, fun h0 => by omega⟩
  · exact ⟨fun h0 => by omega, fun _ => hall _ hl.1⟩
/-! ### Candidates -/
theorem idxs_contains (p : Nat → Bool) (n i : Nat) : (idxs p n).contains (i : Int) = (decide (i < n) && p i) := by
  rw [Bool.eq_iff_iff, List.contains_iff_mem]
  simp only [idxs_mem, Bool.and_eq_true, decide_eq_true_eq]
  simp
theorem idxs_sorted (p : Nat → Bool) (n : Nat) : (idxs p n).Pairwise (· < ·) := by
  simp only [idxs]
  rw [List.pairwise_map]
  exact (List.pairwise_lt_range (n := n)).filter _ |>.imp fun h => by simpa using h
theorem cnt_append (ds : List Dep) (a b : List Tri) (i : Nat) : cnt ds (a ++ b) i = cnt ds a i + cnt ds b i := by
  simp [cnt, List.filter_append]
theorem cnt_perm (ds : List Dep) (k : Nat) (l : List Tri) (i : Nat) : cnt ds (l.drop k ++ l.take k) i = cnt ds l i := by
  rw [cnt_append, Int.add_comm, ← cnt_append, List.take_append_drop]
theorem cands_mem (ds : List Dep) (ls : List Tri) (wr : Int) (x : Int) : x ∈ cands ds ls wr ↔ 0 ≤ x ∧ x.toNat < ds.length ∧ cnt ds ls x.toNat ≤ wr := by
  rw [cands, idxs_mem]
  simp [candP]
theorem cands_take (ds : List Dep) (ls : List Tri) (k : Nat) (wr : Int) : (cands ds ls wr).all (cands ds (ls.take k) wr).contains = true := by
  rw [List.all_eq_true]
  intro x hx
  rw [List.contains_iff_mem, cands_mem]
  rw [cands_mem] at hx
  have h1 := cnt_append ds (ls.take k) (ls.drop k) x.toNat
  rw [List.take_append_drop] at h1
  have h2 := cnt_le ds (ls.drop k) x.toNat
  omega
theorem cands_more (ds : List Dep) (ls : List Tri) (wr : Int) : (cands ds ls wr).all (cands ds ls (wr + 1)).contains = true := by
  rw [List.all_eq_true]
  intro x hx
  rw [List.contains_iff_mem, cands_mem]
  rw [cands_mem] at hx
  omega
theorem cands_turn (ds : List Dep) (ls : List Tri) (k : Nat) (wr : Int) : cands ds (ls.drop k ++ ls.take k) wr = cands ds ls wr := by
  simp only [cands]
  congr 1
  funext i
  simp only [candP, cnt_perm]
theorem cands_twice (ds : List Dep) (ls : List Tri) : cands ds (ls ++ ls) 0 = cands ds ls 0 := by
  simp only [cands]
  congr 1
  funext i
  simp only [candP, cnt_append]
  have := cnt_le ds ls i
  congr 1
  rw [decide_eq_decide]
  omega
end Go.Proofs.Ytmonkjbhoabhhaa
namespace Go.Proofs.Ytmonkjbhoabhhaa
open Go Go.X
theorem rdb_Dep : Rdb (α := Dep) Try.prog 53 (fun _ x => i64 x.service ∧ i64 x.version ∧ i64 x.frm ∧ i64 x.to) := fun H enc w fuel cs x h => by
  have hl : cs.length = 4 := len_s (by kernel_rfl) Try.underlying53 h
  match cs, hl with
  | [c0, c1, c2, c3], _ =>
  obtain ⟨a0, e0, o0⟩ := (rdb_int Try.underlying3).at_ (part_f 0 h)
  obtain ⟨a1, e1, o1⟩ := (rdb_int Try.underlying3).at_ (part_f 1 h)
  obtain ⟨a2, e2, o2⟩ := (rdb_int Try.underlying3).at_ (part_f 2 h)
  obtain ⟨a3, e3, o3⟩ := (rdb_int Try.underlying3).at_ (part_f 3 h)
  simp [Cl.cells] at e0 e1 e2 e3
  subst e0 e1 e2 e3
  exact ⟨⟨a0, a1, a2, a3⟩, rfl, o0, o1, o2, o3⟩
theorem rdb_Tri : Rdb (α := Tri) Try.prog 49 (fun _ x => i64 x.at_) := fun H enc w fuel cs x h => by
  have hl : cs.length = 2 := len_s (by kernel_rfl) Try.underlying49 h
  match cs, hl with
  | [c0, c1], _ =>
  obtain ⟨a0, e0, o0⟩ := (rdb_int Try.underlying3).at_ (part_f 0 h)
  obtain ⟨a1, e1, o1⟩ := (rdb_bool Try.underlying4).at_ (part_f 1 h)
  simp [Cl.cells] at e0 e1
  subst e0 e1
  exact ⟨⟨a0, a1⟩, rfl, o0⟩
theorem rdb_T3 : Rdb (α := T3) Try.prog 73 (fun _ x => i64 x.a ∧ i64 x.b ∧ i64 x.c) := fun H enc w fuel cs x h => by
  have hl : cs.length = 3 := len_a (by kernel_rfl) Try.underlying73 h
  match cs, hl with
  | [c0, c1, c2], _ =>
  obtain ⟨a0, e0, o0⟩ := (rdb_int Try.underlying3).at_ (part_a 0 h (by decide))
  obtain ⟨a1, e1, o1⟩ := (rdb_int Try.underlying3).at_ (part_a 1 h (by decide))
  obtain ⟨a2, e2, o2⟩ := (rdb_int Try.underlying3).at_ (part_a 2 h (by decide))
  simp [Cl.cells] at e0 e1 e2
  subst e0 e1 e2
  exact ⟨⟨a0, a1, a2⟩, rfl, o0, o1, o2⟩
theorem rdb_T2 : Rdb (α := T2) Try.prog 71 (fun _ x => i64 x.a ∧ i64 x.b) := fun H enc w fuel cs x h => by
  have hl : cs.length = 2 := len_a (by kernel_rfl) Try.underlying71 h
  match cs, hl with
  | [c0, c1], _ =>
  obtain ⟨a0, e0, o0⟩ := (rdb_int Try.underlying3).at_ (part_a 0 h (by decide))
  obtain ⟨a1, e1, o1⟩ := (rdb_int Try.underlying3).at_ (part_a 1 h (by decide))
  simp [Cl.cells] at e0 e1
  subst e0 e1
  exact ⟨⟨a0, a1⟩, rfl, o0, o1⟩
instance : Inhabited Dep := ⟨⟨0, 0, 0, 0⟩⟩
instance : Inhabited Tri := ⟨⟨0, false⟩⟩
instance : Inhabited T3 := ⟨⟨0, 0, 0⟩⟩
instance : Inhabited T2 := ⟨⟨0, 0⟩⟩
end Go.Proofs.Ytmonkjbhoabhhaa
namespace Go.Proofs.Ytmonkjbhoabhhaa
open Go Go.X
set_option maxRecDepth 10000
def sd : List Dep := [⟨0, 0, 0, 10⟩, ⟨0, 0, 5, 15⟩, ⟨0, 0, 5, 10⟩, ⟨0, 0, 12, 15⟩]
def sl : List Tri := [⟨12, false⟩, ⟨5, false⟩]
def sc : List Dep := [⟨0, 0, 3, 3⟩, ⟨0, 0, 0, 1⟩, ⟨0, 0, 0, 0⟩]
def nextG (ds : List Dep) (ls : List Tri) (wr : Int) : Int := nextOf ds ls wr (insAll ds)
theorem nextB_G {ds : List Dep} (hd : ds.length ≤ 20) (ls : List Tri) (wr : Int) : nextB ds ls wr = nextG ds ls wr := by rw [nextB_eq hd, moms_eq]; rfl
def searchG (ds : List Dep) (k : Nat) : Nat → List Tri → List Tri
  | 0, ls => ls
  | n + 1, ls => if nextG ds ls 0 < 0 then ls else searchG ds k n (ls ++ [⟨nextG ds ls 0, onAt ds (nextG ds ls 0) k⟩])
theorem searchF_G {ds : List Dep} (hd : ds.length ≤ 20) (k : Nat) : ∀ (n : Nat) (ls : List Tri), searchF ds k n ls = searchG ds k n ls
  | 0, ls => rfl
  | n + 1, ls => by simp only [searchF, searchG, nextB_G hd]; rw [searchF_G hd k n]
theorem sane_moms : moms sd = [0, 5, 10, 12, 15] := by rw [moms_eq]; decide
theorem sane_act : actives sd 9 = [0, 1, 2] := by decide
theorem sane_next : nextB sd [] 0 = 12 := by rw [nextB_G (by decide)]; decide
theorem sane_c1 : cands sd sl 1 = [0, 2, 3] := by decide
theorem sane_c0 : cands sd sl 0 = [] := by decide
instance : DecidableEq Tri := fun a b => if h : a.at_ = b.at_ ∧ a.bad = b.bad then isTrue (by cases a; cases b; simp_all) else isFalse (by rintro rfl; simp at h)
theorem sane_search : search sd 2 = [⟨12, false⟩, ⟨0, false⟩] := by
  rw [search, fin, searchF_G (by decide)]; decide
theorem sane_times : times (search sd 2) = [12, 0] := by rw [sane_search]; rfl
theorem sane_found : cands sd (search sd 2) 0 = [2] := by rw [sane_search]; decide
theorem sane_cls : classes sc = [[0, 2], [1]] := by decide
theorem sane_v1 : validB sd [] = true := by decide
theorem sane_v2 : validB sd [⟨9, false⟩] = true := by decide
theorem sane_v3 : (validB sd [] && inB 0 0 3) = true := by decide
theorem sane_v4 : (validB sd sl && inB 1 0 3) = true := by decide
theorem sane_v5 : (validB sd sl && inB 0 0 3) = true := by decide
theorem sane_v6 : (validB sd [] && inB 2 0 (sd.length - 1)) = true := by decide
theorem sane_v7 : validB sc [] = true := by decide
theorem sane_v8 : validB sd [⟨-1, false⟩] = false := by decide
theorem sane_v9 : validB [⟨0, 0, 1, 0⟩] [] = false := by decide
end Go.Proofs.Ytmonkjbhoabhhaa
namespace Go.Proofs.Ytmonkjbhoabhhaa
open Go Go.X
set_option maxRecDepth 10000
set_option linter.unusedVariables false
attribute [local irreducible] Code.wpIn wpListIn Exit.then Exit.inBlock X.Out X.Back X.W X.Ev X.Con X.BinV X.Wh X.Wn X.Wq
/-! ### The calls at valid arguments -/
theorem moments_ok {ds : List Dep} {v : Value} {S : SH} (hA : Sr S v ds) (h : validB ds [] = true) : Con Try.prog 12 #[v] S [] (Two (fun S' u => Sr S' u (moms ds)) 0) := by
  obtain ⟨A, c, rfl, _, hA⟩ := hA
  have := validB_len h
  exact Moments_con ds A c S hA (by omega) true h
theorem active_ok {ds : List Dep} {v : Value} {S : SH} {t : Int} (hA : Sr S v ds) (h : validB ds [] = true) (ht : 0 ≤ t ∧ t ≤ 1000000) : Con Try.prog 10 #[v, .int .i64 t] S [] (Two (fun S' u => Sr S' u (actives ds t)) 0) := by
  obtain ⟨A, c, rfl, _, hA⟩ := hA
  have := validB_len h
  exact Active_con ds t A c S hA (by omega) true (by rw [validB_one, h]; simp [inB, ht])
theorem active_no {ds : List Dep} {v : Value} {S : SH} {t : Int} (hA : Sr S v ds) (hd : ds.length ≤ 1000000) (h : validB ds [⟨t, false⟩] = false) : Con Try.prog 10 #[v, .int .i64 t] S [] (Two (fun S' u => Sr (α := Int) S' u []) 290) := by
  obtain ⟨A, c, rfl, _, hA⟩ := hA
  exact Active_con ds t A c S hA hd false h
theorem next_ok {ds : List Dep} {ls : List Tri} {v u : Value} {S : SH} {wr n : Int} (hn : nextB ds ls wr = n) (hA : Sr S v ds) (hB : Sr S u ls) (h : validB ds ls = true) (hw : 0 ≤ wr ∧ wr ≤ 3) : Con Try.prog 20 #[v, u, .int .i64 wr] S [] (Two (fun _ u => u = .int .i64 n) 0) := by
  subst hn
  obtain ⟨A, c, rfl, _, hA⟩ := hA
  obtain ⟨B, e, rfl, _, hB⟩ := hB
  have := validB_len h
  exact Next_con ds ls wr A B c e S hA hB (by omega) (by omega) true (by rw [h]; simp [inB, hw])
theorem cands_ok {ds : List Dep} {ls : List Tri} {v u : Value} {S : SH} {wr : Int} (hA : Sr S v ds) (hB : Sr S u ls) (h : validB ds ls = true) (hw : 0 ≤ wr ∧ wr ≤ 3) : Con Try.prog 18 #[v, u, .int .i64 wr] S [] (Two (fun S' u => Sr S' u (cands ds ls wr)) 0) := by
  obtain ⟨A, c, rfl, _, hA⟩ := hA
  obtain ⟨B, e, rfl, _, hB⟩ := hB
  have := validB_len h
  exact Candidates_con ds ls wr A B c e S hA hB (by omega) (by omega) true (by rw [h]; simp [inB, hw])
theorem search_ok {ds : List Dep} {v : Value} {S : SH} {k : Nat} (hA : Sr S v ds) (h : validB ds [] = true) (hk : k < ds.length) : Con Try.prog 24 #[v, .int .i64 k] S [] (fun S' L' v => L' = [] ∧ ∃ u1 u2, v = .tuple #[u1, u2, .int .i64 0] ∧ Sr S' u1 (times (search ds k)) ∧ Sr S' u2 (cands ds (search ds k) 0)) := by
  obtain ⟨A, c, rfl, _, hA⟩ := hA
  have := validB_len h
  exact Search_con ds k A c S hA (by omega) true (by rw [h]; simp [inB]; omega)
theorem classes_ok {ds : List Dep} {v : Value} {S : SH} (hA : Sr S v ds) (h : validB ds [] = true) : Con Try.prog 22 #[v] S [] (Two (fun S' u => Srs S' u (classes ds)) 0) := by
  obtain ⟨A, c, rfl, _, hA⟩ := hA
  have := validB_len h
  exact Classes_con ds A c S hA (by omega) true h
theorem valid_v {ds : List Dep} {ls : List Tri} {v u : Value} {S : SH} {b : Bool} (h : validB ds ls = b) (hA : Sr S v ds) (hB : Sr S u ls) (hd : ds.length ≤ 1000000) (hl : ls.length ≤ 1000000) : Con Try.prog 14 #[v, u] S [] (Pure S (.bool b)) := by
  obtain ⟨A, c, rfl, _, hA⟩ := hA
  obtain ⟨B, e, rfl, _, hB⟩ := hB
  exact valid_c h hA hB hd hl
theorem sr_block {α : Type} [Cl α] {S : SH} {b n : Nat} {cs : Array Value} {T : TypeId} {fz : Nat × Nat} (l : List α) (hn : n = l.length) (hb : S b = some (.cells cs T fz)) (h : cs.toList.take (cellsOf l).length = cellsOf l) : Sr S (.slice (some ⟨b, 0, none⟩) n n) l :=
  ⟨_, n, by rw [hn], by omega, fun _ => ⟨_, rfl, pts_block hb h⟩⟩
theorem sane_con (S : SH) : Con Try.prog 9 #[] S [] (fun _ L' v => L' = [] ∧ v = .bool true) := by
  refine con_of (args := []) Try.func9 rfl Try.ntmps9 rfl fun w => ?_
  (repeat (first | refine Jc ?_ | (apply s_buildSlice; (case hg => rfl); (case hd => rfl); (case hp => rfl); (case hq => rfl); (case hm => rfl); (case hv => rfl); (case hl => rfl); intro b; refine W.freeze fun S0 hle0 hb0 => ?_) | (apply z_call; rfl; rfl; rfl; exact moments_ok (sr_block sd rfl hb0 rfl) sane_v1; rintro S1 _ v1 hle1 ⟨rfl, u1, rfl, hr1⟩) | refine Jo ?_ | intro _))
  have hA := sr_block sd rfl hb0 rfl
  (repeat (first | refine Jc ?_ | (apply z_call; rfl; rfl; rfl; exact active_ok (t := 9) (hA.le (by repeat (first | exact Le.refl _ | assumption | refine Le.trans ?_ (by assumption)))) sane_v1 (by decide); rintro S2 _ v1 hle2 ⟨rfl, u2, rfl, hr2⟩) | (apply z_call; rfl; rfl; rfl; exact next_ok (ls := []) sane_next (hA.le (by repeat (first | exact Le.refl _ | assumption | refine Le.trans ?_ (by assumption)))) (Sr.nil _) sane_v1 (by decide); rintro S3 _ v1 hle3 ⟨rfl, _, rfl, rfl⟩) | (apply s_buildSlice; (case hg => rfl); (case hd => rfl); (case hp => rfl); (case hq => rfl); (case hm => rfl); (case hv => rfl); (case hl => rfl); intro b1; refine W.freeze fun S4 hle4 hb4 => ?_) | (apply z_call; rfl; rfl; rfl; exact cands_ok (wr := 1) (hA.le (by repeat (first | exact Le.refl _ | assumption | refine Le.trans ?_ (by assumption)))) (sr_block sl rfl hb4 rfl) (by decide) (by decide); rintro S5 _ v1 hle5 ⟨rfl, u4, rfl, hr4⟩) | (apply z_call; rfl; rfl; rfl; exact cands_ok (wr := 0) (hA.le (by repeat (first | exact Le.refl _ | assumption | refine Le.trans ?_ (by assumption)))) (sr_block sl rfl hb4 rfl) (by decide) (by decide); rintro S6 _ v1 hle6 ⟨rfl, u5, rfl, hr5⟩) | (apply z_call; rfl; rfl; rfl; exact search_ok (k := 2) (hA.le (by repeat (first | exact Le.refl _ | assumption | refine Le.trans ?_ (by assumption)))) sane_v1 (by decide); rintro S7 _ v1 hle7 ⟨rfl, u6, u7, rfl, hr6, hr7⟩) | refine Jo ?_ | intro _))
  rename_i S9 hle9 hb9
  (repeat (first | refine Jc ?_ | (apply z_call; rfl; rfl; rfl; exact classes_ok (sr_block sc rfl hb4 rfl) sane_v7; rintro S10 _ v1 hle10 ⟨rfl, u8, rfl, hr8⟩) | (apply z_call; rfl; rfl; rfl; exact active_no (t := -1) (hA.le (by repeat (first | exact Le.refl _ | assumption | refine Le.trans ?_ (by assumption)))) (by decide) sane_v8; rintro S11 _ v1 hle11 ⟨rfl, u9, rfl, hr9⟩) | refine Jo ?_ | intro _))
  obtain ⟨vs, ⟨B, e, rfl, _, hB⟩, hvl, hrw⟩ := hr8
  rw [sane_cls] at hvl hrw
  match vs, hvl with
  | [s0, s1], _ =>
  rw [sane_moms] at hr1
  rw [sane_act] at hr2
  rw [sane_c1] at hr4
  rw [sane_c0] at hr5
  rw [sane_times] at hr6
  rw [sane_found] at hr7
  obtain ⟨B5, e5, rfl, _, _⟩ := hr5
  have h80 := hrw 0 s0 [0, 2] rfl rfl
  have h81 := hrw 1 s1 [1] rfl rfl
  have hB0 : [s0, s1][0]? = some s0 := rfl
  have hB1 : [s0, s1][1]? = some s1 := rfl
  (repeat (first | refine Jc ?_ | (apply s_buildSlice; (case hg => rfl); (case hd => rfl); (case hp => rfl); (case hq => rfl); (case hm => rfl); (case hv => rfl); (case hl => rfl); intro b2; refine W.freeze fun S12 hle12 hb12 => ?_) | (apply z_call; rfl; rfl; rfl; exact same_c (b := [0, 5, 10, 12, 15]) (r := true) (by decide) (hr1.le (by repeat (first | exact Le.refl _ | assumption | refine Le.trans ?_ (by assumption)))) (sr_block _ rfl hb12 rfl) (by decide); rintro _ _ _ - ⟨rfl, rfl, rfl⟩) | (apply z_call; rfl; rfl; rfl; exact same_c (b := [0, 1, 2]) (r := true) (by decide) (hr2.le (by repeat (first | exact Le.refl _ | assumption | refine Le.trans ?_ (by assumption)))) (sr_block _ rfl hb12 rfl) (by decide); rintro _ _ _ - ⟨rfl, rfl, rfl⟩) | (apply z_call; rfl; rfl; rfl; exact same_c (b := [0, 2, 3]) (r := true) (by decide) (hr4.le (by repeat (first | exact Le.refl _ | assumption | refine Le.trans ?_ (by assumption)))) (sr_block _ rfl hb12 rfl) (by decide); rintro _ _ _ - ⟨rfl, rfl, rfl⟩) | (apply z_call; rfl; rfl; rfl; exact same_c (b := [12, 0]) (r := true) (by decide) (hr6.le (by repeat (first | exact Le.refl _ | assumption | refine Le.trans ?_ (by assumption)))) (sr_block _ rfl hb12 rfl) (by decide); rintro _ _ _ - ⟨rfl, rfl, rfl⟩) | (apply z_call; rfl; rfl; rfl; exact same_c (b := [2]) (r := true) (by decide) (hr7.le (by repeat (first | exact Le.refl _ | assumption | refine Le.trans ?_ (by assumption)))) (sr_block _ rfl hb12 rfl) (by decide); rintro _ _ _ - ⟨rfl, rfl, rfl⟩) | refine Jo ?_ | intro _))
  have hB' : At S12 B [s0, s1] := hB.le (by repeat (first | exact Le.refl _ | assumption | refine Le.trans ?_ (by assumption)))
  (repeat (first | refine Jc ?_ | (apply s_idx hB'; (case hg => rfl); (case hd => rfl); (case hx => rfl); (case hi => rfl); (case hm => rfl); (case hu => exact hB0); intro p (hp : Pts _ p [_])) | (apply s_load1; (case hg => rfl); (case hd => rfl); (case hx => rfl); (case hv => exact hp)) | (apply s_buildSlice; (case hg => rfl); (case hd => rfl); (case hp => rfl); (case hq => rfl); (case hm => rfl); (case hv => rfl); (case hl => rfl); intro b3; refine W.freeze fun S13 hle13 hb13 => ?_) | (apply z_call; rfl; rfl; rfl; exact same_c (b := [0, 2]) (r := true) (by decide) (h80.le (by repeat (first | exact Le.refl _ | assumption | refine Le.trans ?_ (by assumption)))) (sr_block _ rfl hb13 rfl) (by decide); rintro _ _ _ - ⟨rfl, rfl, rfl⟩) | refine Jo ?_ | intro _))
  have hB'' : At S13 B [s0, s1] := hB.le (by repeat (first | exact Le.refl _ | assumption | refine Le.trans ?_ (by assumption)))
  (repeat (first | refine Jc ?_ | (apply s_idx hB''; (case hg => rfl); (case hd => rfl); (case hx => rfl); (case hi => rfl); (case hm => rfl); (case hu => exact hB1); intro p (hp : Pts _ p [_])) | (apply s_load1; (case hg => rfl); (case hd => rfl); (case hx => rfl); (case hv => exact hp)) | (apply s_buildSlice; (case hg => rfl); (case hd => rfl); (case hp => rfl); (case hq => rfl); (case hm => rfl); (case hv => rfl); (case hl => rfl); intro b3; refine W.freeze fun S13 hle13 hb13 => ?_) | (apply z_call; rfl; rfl; rfl; exact same_c (b := [1]) (r := true) (by decide) (h81.le (by repeat (first | exact Le.refl _ | assumption | refine Le.trans ?_ (by assumption)))) (sr_block _ rfl hb13 rfl) (by decide); rintro _ _ _ - ⟨rfl, rfl, rfl⟩) | refine Jo ?_ | intro _))
  (repeat (first | refine Jc ?_ | (apply z_call; rfl; rfl; rfl; exact valid_v (ls := []) sane_v1 (hA.le (by repeat (first | exact Le.refl _ | assumption | refine Le.trans ?_ (by assumption)))) (Sr.nil _) (by decide) (by decide); rintro _ _ _ - ⟨rfl, rfl, rfl⟩) | (apply s_buildSlice; (case hg => rfl); (case hd => rfl); (case hp => rfl); (case hq => rfl); (case hm => rfl); (case hv => rfl); (case hl => rfl); intro b4; refine W.freeze fun S14 hle14 hb14 => ?_) | (apply z_call; rfl; rfl; rfl; exact valid_v (ls := []) sane_v9 (sr_block ([⟨0, 0, 1, 0⟩] : List Dep) rfl hb14 rfl) (Sr.nil _) (by decide) (by decide); rintro _ _ _ - ⟨rfl, rfl, rfl⟩) | refine Jo ?_ | intro _))
  exact o_ret (L' := []) Try.results9 rfl (by repeat (first | exact List.Sublist.refl _ | exact List.Sublist.slnil | exact List.nil_sublist _ | exact List.sublist_append_left _ _ | refine List.Sublist.cons_cons _ ?_ | refine List.Sublist.append (List.Sublist.refl _) ?_ | refine List.Sublist.cons _ ?_)) ⟨rfl, rfl⟩
end Go.Proofs.Ytmonkjbhoabhhaa
namespace Go.Proofs.Ytmonkjbhoabhhaa
open Go Go.X
set_option maxRecDepth 10000
set_option linter.unusedVariables false
attribute [local irreducible] Code.wpIn wpListIn Exit.then Exit.inBlock X.Out X.Back X.W X.Ev X.Con X.BinV X.Wh X.Wn X.Wq
theorem made_dep (x : T3) : (made1 x).ok = true ∧ 0 ≤ (made1 x).frm ∧ (made1 x).frm ≤ 24 := by
  have h1 := pick_lt x.c 3 (by decide)
  have h2 := pick_lt (x.c.tdiv 3) 4 (by decide)
  have h3 := pick_lt x.a 25 (by decide)
  have h4 := pick_lt x.b 12 (by decide)
  have h5 : (made1 x).frm ≤ (made1 x).to ∧ (made1 x).to ≤ 1000000 := by
    simp only [made1]; split <;> omega
  refine ⟨?_, h3.1, by simp only [made1]; omega⟩
  have e : (made1 x).service = pick x.c 3 ∧ (made1 x).version = pick (x.c.tdiv 3) 4 ∧ (made1 x).frm = pick x.a 25 := ⟨rfl, rfl, rfl⟩
  generalize made1 x = d at *
  simp [Dep.ok, inB]
  omega
theorem made_len (xs : List T3) : (made xs).length ≤ 20 := by simp [made]; omega
theorem made_valid (xs : List T3) : validB (made xs) [] = true := by
  have := made_len xs
  simp only [validB, Bool.and_eq_true, List.all_eq_true, decide_eq_true_eq, List.all_nil, List.length_nil]
  refine ⟨⟨⟨fun d hd => ?_, trivial⟩, this⟩, by omega⟩
  simp only [made, List.mem_map] at hd
  obtain ⟨x, _, rfl⟩ := hd
  exact (made_dep x).1
def wrongs (d : Dep) (l : List Tri) : Int := ((l.filter fun t => !(on d t.at_ == t.bad)).length : Nat)
theorem wrongs_snoc (d : Dep) (l : List Tri) (t : Tri) : wrongs d (l ++ [t]) = wrongs d l + if on d t.at_ = t.bad then 0 else 1 := by
  simp only [wrongs, List.filter_append, List.length_append, Int.natCast_add]
  by_cases h : on d t.at_ = t.bad <;> simp [h]
theorem trials_inv (d : Dep) (xs : List T2) (wr : Int) : (∀ t ∈ (trialsF d xs wr).1, 0 ≤ t.at_ ∧ t.at_ ≤ 32) ∧ wrongs d (trialsF d xs wr).1 + (trialsF d xs wr).2 = wr := by
  have key : ∀ (xs : List T2) (a : List Tri × Int), (∀ t ∈ a.1, 0 ≤ t.at_ ∧ t.at_ ≤ 32) → (∀ t ∈ (xs.foldl (trialStep d) a).1, 0 ≤ t.at_ ∧ t.at_ ≤ 32) ∧ wrongs d (xs.foldl (trialStep d) a).1 + (xs.foldl (trialStep d) a).2 = wrongs d a.1 + a.2 := by
    intro xs
    induction xs with
    | nil => intro a ha; exact ⟨ha, rfl⟩
    | cons x xs ih =>
      intro a ha
      have hp := pick_lt x.a 33 (by decide)
      rw [List.foldl_cons]
      obtain ⟨i1, i2⟩ := ih (trialStep d a x) (by
        intro t ht
        unfold trialStep at ht
        split at ht
        all_goals
          rcases List.mem_append.1 ht with ht | ht
          · exact ha t ht
          · simp only [List.mem_singleton] at ht; subst ht; simp only; omega)
      refine ⟨i1, i2.trans ?_⟩
      unfold trialStep
      split
      · simp only; rw [wrongs_snoc]; simp; omega
      · simp only; rw [wrongs_snoc]; simp
  have := key xs ([], wr) (by simp)
  simpa [wrongs, trialsF] using this
theorem trials_len (d : Dep) (xs : List T2) (wr : Int) : (trials d xs wr).length ≤ 30 := by
  rw [trials, trialsF_fst_len]; simp; omega
theorem trials_wrong (d : Dep) (xs : List T2) (wr : Int) (h : 0 ≤ wr) : wrongs d (trials d xs wr) ≤ wr := by
  have h1 := (trials_inv d (xs.take 30) wr).2
  have h2 := (trialsF_snd d (xs.take 30) wr h).1
  rw [trials]; omega
theorem trials_valid (xs : List T3) (d : Dep) (ys : List T2) (wr : Int) : validB (made xs) (trials d ys wr) = true := by
  have h1 := made_valid xs
  have h2 := trials_len d ys wr
  have h3 := (trials_inv d (ys.take 30) wr).1
  simp only [validB, Bool.and_eq_true, decide_eq_true_eq] at h1 ⊢
  refine ⟨⟨⟨h1.1.1.1, ?_⟩, h1.1.2⟩, by omega⟩
  rw [List.all_eq_true]
  intro t ht
  have := h3 t ht
  simp [Tri.ok, inB]; omega
theorem cnt_wrongs {ds : List Dep} {k : Nat} {d : Dep} (h : ds[k]? = some d) (ls : List Tri) : cnt ds ls k = wrongs d ls := by
  simp only [cnt, wrongs]
  congr 2
  apply List.filter_congr
  intro t _
  simp only [wrongAt, onAt_some h]
theorem culprit_in {xs : List T3} {k : Nat} {d : Dep} (h : (made xs)[k]? = some d) (ys : List T2) (wr : Int) (hw : 0 ≤ wr) : (cands (made xs) (trials d ys wr) wr).contains (k : Int) = true := by
  rw [List.contains_iff_mem, cands_mem]
  refine ⟨by omega, by simpa using (List.getElem?_eq_some_iff.1 h).1, ?_⟩
  rw [Int.toNat_natCast, cnt_wrongs h]
  exact trials_wrong d ys wr hw
/-! ### The inputs' contracts, over values -/
theorem made_v {xs : List T3} {v : Value} {S : SH} (hx : ∀ x ∈ xs, i64 x.a ∧ i64 x.b ∧ i64 x.c) (hA : Sr S v xs) : Con Try.prog 27 #[v] S [] (fun S' L' v => L' = [] ∧ Sr S' v (made xs)) := by
  obtain ⟨A, c, rfl, _, hA⟩ := hA
  exact made_con xs hx A c S hA
theorem trials_v {ds : List Dep} {kc : Nat} {d : Dep} {xs : List T2} {v u : Value} {S : SH} {wr : Int} (hk : ds[kc]? = some d) (hx : ∀ x ∈ xs, i64 x.a ∧ i64 x.b) (hw : 0 ≤ wr ∧ wr ≤ 1000) (hA : Sr S v ds) (hB : Sr S u xs) :
    Con Try.prog 28 #[v, .int .i64 kc, u, .int .i64 wr] S [] (fun S' L' v => L' = [] ∧ Sr S' v (trials d xs wr)) := by
  obtain ⟨A, c, rfl, _, hA⟩ := hA
  obtain ⟨B, e, rfl, _, hB⟩ := hB
  exact trials_con ds kc d hk xs hx wr hw A B c e S hA hB
theorem has_v {l : List Int} {n : Int} {v : Value} {S : SH} {b : Bool} (h : l.contains n = b) (hA : Sr S v l) (ha : l.length ≤ 1000000) : Con Try.prog 29 #[v, .int .i64 n] S [] (Pure S (.bool b)) := by
  obtain ⟨A, c, rfl, _, hA⟩ := hA
  subst h
  exact has_con l n A c S hA (by omega)
theorem pick_c {c n m : Int} {S : SH} (h : pick c n = m) (hc : i64 c) (hn : 0 < n) : Con Try.prog 17 #[.int .i64 c, .int .i64 n] S [] (Pure S (.int .i64 m)) := h ▸ pick_con c n S hc hn
theorem part_v {l m : List Int} {v u : Value} {S : SH} {b : Bool} (h : l.all m.contains = b) (hA : Sr S v l) (hB : Sr S u m) (ha : l.length ≤ 1000000) (hm : m.length ≤ 1000000) : Con Try.prog 30 #[v, u] S [] (Pure S (.bool b)) := by
  obtain ⟨A, c, rfl, _, hA⟩ := hA
  obtain ⟨B, e, rfl, _, hB⟩ := hB
  subst h
  exact part_con l m A B c e S hA hB (by omega) (by omega)
theorem moments_e {ds : List Dep} {ms : List Int} {v : Value} {S : SH} (hm : moms ds = ms) (hA : Sr S v ds) (h : validB ds [] = true) : Con Try.prog 12 #[v] S [] (Two (fun S' u => Sr S' u ms) 0) := hm ▸ moments_ok hA h
theorem cands_len' (ds : List Dep) (ls : List Tri) (wr : Int) : (cands ds ls wr).length ≤ ds.length := idxs_len _ _
theorem actives_len (ds : List Dep) (t : Int) : (actives ds t).length ≤ ds.length := idxs_len _ _
theorem own : ownKnob Try.prog.godebug = none := by kernel_rfl
theorem laidOut : laidOutB Try.prog = true := by kernel_rfl
end Go.Proofs.Ytmonkjbhoabhhaa
