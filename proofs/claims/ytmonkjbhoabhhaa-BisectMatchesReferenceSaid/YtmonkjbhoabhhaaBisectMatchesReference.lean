/- BisectMatchesReference returns true for every input, and each argument reads afterwards as it read before; no condition. -/
import Derived.Test.YtmonkjbhoabhhaaBc
import Derived.Test.YtmonkjbhoabhhaaX
namespace Go.Proofs.Ytmonkjbhoabhhaa
open Go Go.X
set_option linter.unusedVariables false
/-! ### The search's end -/
theorem searchF_inv {ds : List Dep} {k : Nat} (I : List Tri → Prop) (hI : ∀ ls, I ls → 0 ≤ nextB ds ls 0 → I (ls ++ [⟨nextB ds ls 0, onAt ds (nextB ds ls 0) k⟩])) : ∀ (n : Nat) (ls : List Tri), I ls → I (searchF ds k n ls)
  | 0, ls, h => h
  | n + 1, ls, h => by
    by_cases hn : nextB ds ls 0 < 0
    · rw [searchF_stop hn]; exact h
    · rw [searchF_step hn]; exact searchF_inv I hI n _ (hI ls h (by omega))
theorem searchF_ends {ds : List Dep} {k : Nat} : ∀ (n : Nat) (ls : List Tri), validB ds ls = true → ls.length + (cands ds ls 0).length ≤ 60 → (cands ds ls 0).length ≤ n → nextB ds (searchF ds k n ls) 0 < 0
  | 0, ls, hv, _, hn => by
    rcases next_spec hv 0 with ⟨e, _⟩ | ⟨_, _, _, h3, _⟩
    · show nextB ds ls 0 < 0; omega
    · have := cands_less h3 true; omega
  | n + 1, ls, hv, hl, hn => by
    rcases next_spec hv 0 with ⟨e, _⟩ | ⟨h1, h2, _, h3, _⟩
    · rw [searchF_stop (by omega)]; omega
    · have hless := cands_less h3 (onAt ds (nextB ds ls 0) k)
      rw [searchF_step (by omega)]
      exact searchF_ends n _ (validB_add hv ⟨h1, h2⟩ _ (by omega)) (by simp; omega) (by omega)
theorem cands_nil (ds : List Dep) : (cands ds [] 0).length = ds.length := by
  rw [cands, idxs]
  simp only [List.length_map]
  rw [List.filter_eq_self.2 fun i hi => by simp at hi; simp [candP, cnt, hi]]
  simp
theorem search_end {ds : List Dep} {k : Nat} (hv : validB ds [] = true) : nextB ds (search ds k) 0 < 0 := by
  have h1 := cands_nil ds
  have h2 := (validB_len hv).1
  rw [search, fin]
  exact searchF_ends _ _ hv (by simp; omega) (Nat.le_refl _)
structure TrueTo (ds : List Dep) (k : Nat) (ls : List Tri) : Prop where
  valid : validB ds ls = true
  bad : ∀ t ∈ ls, t.bad = onAt ds t.at_ k
  len : ls.length + (cands ds ls 0).length ≤ ds.length
theorem search_true {ds : List Dep} {k : Nat} (hv : validB ds [] = true) : TrueTo ds k (search ds k) := by
  have h2 := (validB_len hv).1
  rw [search, fin]
  refine searchF_inv (TrueTo ds k) (fun ls h hn => ?_) _ _ ⟨hv, by simp, by have := cands_nil ds; simp; omega⟩
  rcases next_spec h.valid 0 with ⟨e, _⟩ | ⟨h1, h3, _, h4, _⟩
  · omega
  have hless := cands_less h4 (onAt ds (nextB ds ls 0) k)
  have hl := h.len
  refine ⟨validB_add h.valid ⟨h1, h3⟩ _ (by omega), fun t ht => ?_, by simp; omega⟩
  rcases List.mem_append.1 ht with ht | ht
  · exact h.bad t ht
  · simp only [List.mem_singleton] at ht; subst ht; rfl
theorem cnt_zero {ds : List Dep} {ls : List Tri} {i : Nat} : cnt ds ls i ≤ 0 ↔ ∀ t ∈ ls, onAt ds t.at_ i = t.bad := by
  have h : cnt ds ls i ≤ 0 ↔ (ls.filter fun l => wrongAt ds l i) = [] := by
    rw [← List.length_eq_zero_iff, cnt]; omega
  rw [h, List.filter_eq_nil_iff]
  simp [wrongAt]
theorem cand_true {ds : List Dep} {k : Nat} {ls : List Tri} (h : TrueTo ds k ls) (i : Nat) : cnt ds ls i ≤ 0 ↔ ∀ t ∈ ls, onAt ds t.at_ i = onAt ds t.at_ k := by
  rw [cnt_zero]
  constructor
  · intro g t ht; rw [g t ht, h.bad t ht]
  · intro g t ht; rw [g t ht, h.bad t ht]
theorem culprit_cand {ds : List Dep} {k : Nat} {ls : List Tri} (h : TrueTo ds k ls) (hk : k < ds.length) : (k : Int) ∈ cands ds ls 0 := by
  rw [cands_mem]
  exact ⟨by omega, by simpa using hk, by rw [Int.toNat_natCast, cand_true h]; exact fun _ _ => rfl⟩
theorem on_when (d : Dep) (h : d.frm ≤ d.to) (t : Int) : on d t = (decide ((whenOf d).1 ≤ t) && decide (t < (whenOf d).2)) := by
  simp only [on, whenOf]
  split
  · rename_i e
    rw [Bool.eq_iff_iff]
    simp only [Bool.and_eq_true, decide_eq_true_eq]
    omega
  · rfl
theorem when_of_on {a b : Dep} (ha : a.frm ≤ a.to) (hb : b.frm ≤ b.to) (h : ∀ t, t = a.frm ∨ t = a.to ∨ t = b.frm ∨ t = b.to → on a t = on b t) : whenOf a = whenOf b := by
  have h1 := h a.frm (by simp)
  have h2 := h a.to (by simp)
  have h3 := h b.frm (by simp)
  have h4 := h b.to (by simp)
  rw [Bool.eq_iff_iff] at h1 h2 h3 h4
  simp only [on, Bool.and_eq_true, decide_eq_true_eq] at h1 h2 h3 h4
  simp only [whenOf]
  split
  · split
    · rfl
    · exfalso; omega
  · split
    · exfalso; omega
    · rw [Prod.mk.injEq]; omega
def likeB (ds : List Dep) (w : Int × Int) (i : Nat) : Bool := match ds[i]? with | some d => decide (whenOf d = w) | none => false
theorem split_same {ds : List Dep} {cs : List Int} {t : Int} (h : splitB ds cs t = false) {x y : Int} (hx : x ∈ cs) (hy : y ∈ cs) : onAt ds t x.toNat = onAt ds t y.toNat := by
  have key : ∀ x y, x ∈ cs → y ∈ cs → onAt ds t x.toNat = true → onAt ds t y.toNat = false → False := by
    intro x y hx hy h1 h2
    have g1 : 0 < (cs.filter fun i => onAt ds t i.toNat).length := List.length_pos_of_mem (List.mem_filter.2 ⟨hx, h1⟩)
    have g2 : (cs.filter fun i => onAt ds t i.toNat).length < cs.length := by
      refine Nat.lt_of_le_of_ne (List.length_filter_le _ _) fun e => ?_
      rw [List.length_filter_eq_length_iff] at e
      rw [e y hy] at h2; cases h2
    have g3 : splitB ds cs t = true := by
      rw [splitB, Bool.and_eq_true, decide_eq_true_eq, decide_eq_true_eq]
      simp only [inPart]
      omega
    rw [g3] at h; cases h
  cases h1 : onAt ds t x.toNat <;> cases h2 : onAt ds t y.toNat
  · rfl
  · exact (key y x hy hx h2 h1).elim
  · exact (key x y hx hy h1 h2).elim
  · rfl
theorem found_class {ds : List Dep} {k : Nat} {d : Dep} (hv : validB ds [] = true) (hk : ds[k]? = some d) : cands ds (search ds k) 0 = idxs (likeB ds (whenOf d)) ds.length := by
  have ht := search_true (k := k) hv
  have hend := search_end (k := k) hv
  have hkl := (List.getElem?_eq_some_iff.1 hk).1
  have hkc := culprit_cand ht hkl
  have hnone : ∀ t ∈ moms ds, splitB ds (cands ds (search ds k) 0) t = false := by
    rcases next_spec ht.valid 0 with ⟨_, h⟩ | ⟨h, _⟩
    · exact h
    · omega
  generalize search ds k = ls at *
  have hsplit := fun t hm x hx => split_same (hnone t hm) (x := x) hx hkc
  have hrange := fun x => cands_mem ds ls 0 x
  simp only [cands, idxs]
  congr 1
  apply List.filter_congr
  intro i hi
  have hil : i < ds.length := by simpa using hi
  have hdi : ds[i]? = some ds[i] := List.getElem?_eq_getElem hil
  have b1 := validB_dep hv _ (List.mem_of_getElem? hdi)
  have b2 := validB_dep hv _ (List.mem_of_getElem? hk)
  simp only [candP, hil, decide_true, Bool.true_and, likeB, hdi]
  rw [decide_eq_decide]
  constructor
  · intro hc
    have hmem : (i : Int) ∈ cands ds ls 0 := (hrange i).2 ⟨by omega, by simpa using hil, by simpa using hc⟩
    refine when_of_on b1.2.1 b2.2.1 fun t htt => ?_
    have hm : t ∈ moms ds := by
      rcases htt with rfl | rfl | rfl | rfl
      · exact frm_mem (List.mem_of_getElem? hdi)
      · exact to_mem (List.mem_of_getElem? hdi)
      · exact frm_mem (List.mem_of_getElem? hk)
      · exact to_mem (List.mem_of_getElem? hk)
    have := hsplit t hm i hmem
    rwa [Int.toNat_natCast, Int.toNat_natCast, onAt_some hdi, onAt_some hk] at this
  · intro hw
    rw [cand_true ht]
    intro t _
    rw [onAt_some hdi, onAt_some hk, on_when _ b1.2.1, on_when _ b2.2.1, hw]
/-! ### The classes -/
theorem sum_addC (w : Int × Int) (i : Int) : ∀ (c : Cls), ((addC c w i).map (·.2.length)).sum = (c.map (·.2.length)).sum + 1
  | [] => rfl
  | (w', r) :: l => by
    simp only [addC]
    split
    · simp; omega
    · simp only [List.map_cons, List.sum_cons, sum_addC w i l]; omega
theorem sum_cls (ds : List Dep) : ∀ n, n ≤ ds.length → ((clsF ds n).map (·.2.length)).sum = n
  | 0, _ => rfl
  | n + 1, hn => by
    obtain ⟨d, hd⟩ := at_lt (show n < ds.length by omega)
    rw [clsF_snoc hd, sum_addC, sum_cls ds n (by omega)]
theorem cls_all (ds : List Dep) : ∀ n, n ≤ ds.length → (∀ p ∈ clsF ds n, p.2 = idxs (likeB ds p.1) n) ∧ (∀ i d, i < n → ds[i]? = some d → whenOf d ∈ keysOf (clsF ds n))
  | 0, _ => by simp [clsF, keysOf]
  | n + 1, hn => by
    obtain ⟨d, hd⟩ := at_lt (show n < ds.length by omega)
    obtain ⟨hnd, _⟩ := clsF_nodup ds n (by omega)
    obtain ⟨h1, h2⟩ := cls_all ds n (by omega)
    rw [clsF_snoc hd]
    have hlike : ∀ w, likeB ds w n = decide (whenOf d = w) := fun w => by simp [likeB, hd]
    by_cases hm : whenOf d ∈ keysOf (clsF ds n)
    · obtain ⟨j, hj⟩ := List.getElem?_of_mem hm
      obtain ⟨⟨w, r⟩, hc⟩ : ∃ p, (clsF ds n)[j]? = some p := at_lt (by have := (List.getElem?_eq_some_iff.1 hj).1; simpa [keysOf] using this)
      obtain rfl : w = whenOf d := by simpa [keysOf, hc] using hj
      rw [addC_old _ _ _ j r hnd hc]
      constructor
      · intro p hp
        obtain ⟨i, hi⟩ := List.getElem?_of_mem hp
        by_cases hij : j = i
        · subst hij
          rw [List.getElem?_set_self (List.getElem?_eq_some_iff.1 hc).1] at hi
          injection hi with hi
          subst hi
          have := h1 _ (List.mem_of_getElem? hc)
          simp only at this ⊢
          rw [idxs_t (by rw [hlike]; simp), ← this]
        · rw [List.getElem?_set_ne hij] at hi
          have hne : whenOf d ≠ p.1 := fun e => by
            have g1 : (keysOf (clsF ds n))[i]? = some p.1 := by simp [keysOf, hi]
            have g2 : (keysOf (clsF ds n))[j]? = some p.1 := by rw [hj, e]
            have hi' := (List.getElem?_eq_some_iff.1 g1)
            have hj' := (List.getElem?_eq_some_iff.1 g2)
            exact hij ((List.getElem_inj (h₀ := hj'.1) (h₁ := hi'.1) hnd).1 (hj'.2.trans hi'.2.symm))
          rw [idxs_f (by rw [hlike]; simp [hne])]
          exact h1 p (List.mem_of_getElem? hi)
      · intro i di hi hdi
        rw [keysOf_set hc]
        by_cases hin : i = n
        · subst hin; rw [hd] at hdi; injection hdi with hdi; subst hdi; exact hm
        · exact h2 i di (by omega) hdi
    · rw [addC_new _ _ _ hm]
      constructor
      · intro p hp
        rcases List.mem_append.1 hp with hp | hp
        · have hne : whenOf d ≠ p.1 := fun e => hm (e ▸ List.mem_map.2 ⟨p, hp, rfl⟩)
          rw [idxs_f (by rw [hlike]; simp [hne])]
          exact h1 p hp
        · simp only [List.mem_singleton] at hp
          subst hp
          simp only
          rw [idxs_t (by rw [hlike]; simp), idxs_nil.2 fun i hi => ?_]
          · rfl
          · obtain ⟨di, hdi⟩ := at_lt (show i < ds.length by omega)
            have := h2 i di hi hdi
            simp only [likeB, hdi, decide_eq_false_iff_not]
            exact fun e => hm (e ▸ this)
      · intro i di hi hdi
        simp only [keysOf, List.map_append, List.mem_append]
        by_cases hin : i = n
        · subst hin; rw [hd] at hdi; injection hdi with hdi; subst hdi; right; simp
        · left; exact h2 i di (by omega) hdi
end Go.Proofs.Ytmonkjbhoabhhaa
namespace Go.Proofs.Ytmonkjbhoabhhaa
open Go Go.X
set_option linter.unusedVariables false
/-! ### Deployments that never end and begin at different times -/
theorem count_upto (ss : List Int) (hp : ss.Pairwise (· < ·)) (h : Nat) (h1 : 0 < h) (h2 : h ≤ ss.length) : ∃ t, ss[h - 1]? = some t ∧ (ss.filter fun f => decide (f ≤ t)).length = h := by
  obtain ⟨t, ht⟩ := at_lt (show h - 1 < ss.length by omega)
  refine ⟨t, ht, ?_⟩
  obtain ⟨hl, he⟩ := List.getElem?_eq_some_iff.1 ht
  have hpp := List.pairwise_iff_getElem.1 hp
  rw [← List.take_append_drop h ss, List.filter_append]
  rw [List.filter_eq_self.2 fun f hf => ?_, List.filter_eq_nil_iff.2 fun f hf => ?_]
  · simp; omega
  · obtain ⟨i, hi, rfl⟩ := List.getElem_of_mem hf
    rw [List.getElem_drop]
    have := hpp (h - 1) (h + i) hl (by simp at hi; omega) (by omega)
    simp; omega
  · obtain ⟨i, hi, rfl⟩ := List.getElem_of_mem hf
    rw [List.getElem_take]
    simp only [decide_eq_true_eq]
    rcases Nat.lt_or_ge i (h - 1) with hlt | hge
    · have := hpp i (h - 1) (by simp at hi; omega) hl hlt
      omega
    · have : i = h - 1 := by simp at hi; omega
      subst this; omega
theorem half_split (fs : List Int) (hn : fs.Nodup) (h : Nat) (h1 : 0 < h) (h2 : h ≤ fs.length) : ∃ t ∈ fs, (fs.filter fun f => decide (f ≤ t)).length = h := by
  have hperm := List.mergeSort_perm fs le_
  have hs : (fs.mergeSort le_).Pairwise (· ≤ ·) := by
    have := List.pairwise_mergeSort (le := le_) (fun a b c h1 h2 => by simp [le_] at *; omega) (fun a b => by simp [le_]; omega) fs
    exact this.imp fun h => by simpa [le_] using h
  have hnd : (fs.mergeSort le_).Nodup := hperm.nodup_iff.2 hn
  have hlt : (fs.mergeSort le_).Pairwise (· < ·) := (hs.and hnd).imp fun h => by omega
  obtain ⟨t, ht, hc⟩ := count_upto _ hlt h h1 (by rw [hperm.length_eq]; exact h2)
  refine ⟨t, hperm.mem_iff.1 (List.mem_of_getElem? ht), ?_⟩
  rw [← hc]
  exact (hperm.symm.filter _).length_eq
structure Endless (ds : List Dep) : Prop where
  valid : validB ds [] = true
  to : ∀ d ∈ ds, d.to = 1000000
  lt : ∀ d ∈ ds, d.frm < 1000000
  inj : ∀ (i j : Nat) (a b : Dep), ds[i]? = some a → ds[j]? = some b → a.frm = b.frm → i = j
def frmAt (ds : List Dep) (x : Int) : Int := match ds[x.toNat]? with | some d => d.frm | none => 0
theorem nodup_map {α β : Type} {f : α → β} {l : List α} (h : l.Nodup) (hi : ∀ x ∈ l, ∀ y ∈ l, f x = f y → x = y) : (l.map f).Nodup := by
  induction l with
  | nil => simp
  | cons a l ih =>
    obtain ⟨h1, h2⟩ := List.nodup_cons.1 h
    rw [List.map_cons, List.nodup_cons]
    refine ⟨fun hm => ?_, ih h2 fun x hx y hy => hi x (List.mem_cons_of_mem _ hx) y (List.mem_cons_of_mem _ hy)⟩
    obtain ⟨y, hy, e⟩ := List.mem_map.1 hm
    exact h1 (hi y (List.mem_cons_of_mem _ hy) a List.mem_cons_self e ▸ hy)
theorem endless_half {ds : List Dep} (hE : Endless ds) {ls : List Tri} (h : 2 ≤ (cands ds ls 0).length) : ∃ t ∈ moms ds, inPart ds (cands ds ls 0) t = ((cands ds ls 0).length / 2 : Nat) := by
  have hrange := fun x => cands_mem ds ls 0 x
  have hs : (cands ds ls 0).Pairwise (· < ·) := idxs_sorted _ _
  have hnd : (cands ds ls 0).Nodup := hs.imp fun h => by omega
  generalize cands ds ls 0 = cs at *
  have hget : ∀ x ∈ cs, ∃ d, ds[x.toNat]? = some d ∧ frmAt ds x = d.frm ∧ 0 ≤ x := fun x hx => by
    obtain ⟨g1, g2, _⟩ := (hrange x).1 hx
    obtain ⟨d, hd⟩ := at_lt g2
    exact ⟨d, hd, by simp [frmAt, hd], g1⟩
  have hfn : (cs.map (frmAt ds)).Nodup := nodup_map hnd fun x hx y hy e => by
    obtain ⟨a, ha, ea, x0⟩ := hget x hx
    obtain ⟨b, hb, eb, y0⟩ := hget y hy
    have := hE.inj _ _ a b ha hb (by rw [← ea, ← eb, e])
    omega
  obtain ⟨t, ht, hc⟩ := half_split (cs.map (frmAt ds)) hfn (cs.length / 2) (by omega) (by simp; omega)
  obtain ⟨x, hx, rfl⟩ := List.mem_map.1 ht
  obtain ⟨a, ha, ea, _⟩ := hget x hx
  have ham := List.mem_of_getElem? ha
  refine ⟨frmAt ds x, by rw [ea]; exact frm_mem ham, ?_⟩
  rw [← hc, inPart, List.filter_map, List.length_map]
  congr 2
  apply List.filter_congr
  intro y hy
  obtain ⟨b, hb, eb, _⟩ := hget y hy
  have hbm := List.mem_of_getElem? hb
  have b1 := hE.to b hbm
  have b2 := hE.lt a ham
  simp only [Function.comp, onAt_some hb, on, ea, eb, b1]
  simp [b2]
theorem endless_less {ds : List Dep} (hE : Endless ds) {ls : List Tri} (hv : validB ds ls = true) (hn : 0 ≤ nextB ds ls 0) (b : Bool) :
    2 ≤ (cands ds ls 0).length ∧ 2 * (cands ds (ls ++ [⟨nextB ds ls 0, b⟩]) 0).length ≤ (cands ds ls 0).length + 1 := by
  rcases next_spec hv 0 with ⟨e, _⟩ | ⟨h1, h3, _, h4, hbest⟩
  · omega
  have hs : 0 < inPart ds (cands ds ls 0) (nextB ds ls 0) ∧ inPart ds (cands ds ls 0) (nextB ds ls 0) < (cands ds ls 0).length := by
    simpa [splitB] using h4
  have h2 : 2 ≤ (cands ds ls 0).length := by omega
  refine ⟨h2, ?_⟩
  obtain ⟨t, ht, hi⟩ := endless_half hE h2
  have hsp : splitB ds (cands ds ls 0) t = true := by
    rw [splitB, Bool.and_eq_true, decide_eq_true_eq, decide_eq_true_eq, hi]; omega
  have hw := hbest t ht hsp
  rw [worst, worst, hi] at hw
  rw [cands_add]
  have hc := inPart_filter ds (cands ds ls 0) (nextB ds ls 0) b
  generalize inPart ds (cands ds ls 0) (nextB ds ls 0) = q at *
  generalize ((cands ds ls 0).filter fun i => onAt ds (nextB ds ls 0) i.toNat == b).length = r at *
  generalize (cands ds ls 0).length = m at *
  cases b
  · simp only [Bool.false_eq_true, if_false] at hc; omega
  · simp only [if_true] at hc; omega
theorem endless_inv {ds : List Dep} (hE : Endless ds) (k : Nat) (hk : k < ds.length) : ∀ N, ds.length = N + 1 → ((search ds k).length = 0 ∨ 2 ^ ((search ds k).length - 1) ≤ N) := by
  intro N hN
  have h2 := (validB_len hE.valid).1
  have key : TrueTo ds k (search ds k) ∧ ((cands ds (search ds k) 0).length - 1) * 2 ^ (search ds k).length ≤ N ∧ ((search ds k).length = 0 ∨ 2 ^ ((search ds k).length - 1) ≤ N) := by
    rw [search, fin]
    refine searchF_inv (fun ls => TrueTo ds k ls ∧ ((cands ds ls 0).length - 1) * 2 ^ ls.length ≤ N ∧ (ls.length = 0 ∨ 2 ^ (ls.length - 1) ≤ N)) (fun ls ⟨h, i1, i2⟩ hn => ?_) _ _ ⟨⟨hE.valid, by simp, by have := cands_nil ds; simp; omega⟩, by have := cands_nil ds; simp; omega, .inl rfl⟩
    obtain ⟨g1, g2⟩ := endless_less hE h.valid hn (onAt ds (nextB ds ls 0) k)
    have ht : TrueTo ds k (ls ++ [⟨nextB ds ls 0, onAt ds (nextB ds ls 0) k⟩]) := by
      rcases next_spec h.valid 0 with ⟨e, _⟩ | ⟨q1, q3, _, q4, _⟩
      · omega
      have hless := cands_less q4 (onAt ds (nextB ds ls 0) k)
      have hl := h.len
      refine ⟨validB_add h.valid ⟨q1, q3⟩ _ (by omega), fun t ht => ?_, by simp; omega⟩
      rcases List.mem_append.1 ht with ht | ht
      · exact h.bad t ht
      · simp only [List.mem_singleton] at ht; subst ht; rfl
    refine ⟨ht, ?_, .inr ?_⟩
    · rw [List.length_append, List.length_singleton, Nat.pow_succ, ← Nat.mul_assoc, Nat.mul_right_comm]
      refine Nat.le_trans (Nat.mul_le_mul_right _ ?_) i1
      generalize (cands ds (ls ++ [⟨nextB ds ls 0, onAt ds (nextB ds ls 0) k⟩]) 0).length = r at *
      omega
    · rw [List.length_append, List.length_singleton, Nat.add_sub_cancel]
      refine Nat.le_trans ?_ i1
      calc 2 ^ ls.length = 1 * 2 ^ ls.length := (Nat.one_mul _).symm
        _ ≤ _ := Nat.mul_le_mul_right _ (by omega)
  exact key.2.2
theorem endless_one {ds : List Dep} (hE : Endless ds) {k : Nat} {d : Dep} (hk : ds[k]? = some d) : cands ds (search ds k) 0 = [(k : Int)] := by
  rw [found_class hE.valid hk]
  have hkl := (List.getElem?_eq_some_iff.1 hk).1
  have hp : ∀ i, i < ds.length → likeB ds (whenOf d) i = decide (i = k) := fun i hi => by
    obtain ⟨a, ha⟩ := at_lt hi
    have am := List.mem_of_getElem? ha
    have dm := List.mem_of_getElem? hk
    have a1 := hE.to a am
    have a2 := hE.lt a am
    have d1 := hE.to d dm
    have d2 := hE.lt d dm
    rw [show likeB ds (whenOf d) i = decide (whenOf a = whenOf d) by simp [likeB, ha], decide_eq_decide]
    simp only [whenOf]
    rw [if_neg (by omega), if_neg (by omega), Prod.mk.injEq]
    constructor
    · intro h; exact hE.inj i k a d ha hk h.1
    · rintro rfl; rw [ha] at hk; injection hk with hk; subst hk; exact ⟨rfl, rfl⟩
  apply lt_ext _ _ (idxs_sorted _ _) (by simp)
  intro x
  rw [idxs_mem, List.mem_singleton]
  constructor
  · rintro ⟨h1, h2, h3⟩
    rw [hp _ h2] at h3
    simp at h3; omega
  · rintro rfl
    refine ⟨by omega, by simpa using hkl, ?_⟩
    rw [Int.toNat_natCast, hp k hkl]; simp
def endl1 (d : Dep) (i : Nat) : Dep := ⟨d.service, 0, 40 * d.frm + i, 1000000⟩
def endless (ds : List Dep) : List Dep := ds.mapIdx fun i d => endl1 d i
theorem endless_len (ds : List Dep) : (endless ds).length = ds.length := by simp [endless]
theorem endless_at {ds : List Dep} {i : Nat} {a : Dep} (h : (endless ds)[i]? = some a) : ∃ d, ds[i]? = some d ∧ a = endl1 d i := by
  simp only [endless, List.getElem?_mapIdx, Option.map_eq_some_iff] at h
  obtain ⟨d, hd, rfl⟩ := h
  exact ⟨d, hd, rfl⟩
theorem made_at {xs : List T3} {i : Nat} {d : Dep} (h : (made xs)[i]? = some d) : d.ok = true ∧ 0 ≤ d.frm ∧ d.frm ≤ 24 := by
  have := List.mem_of_getElem? h
  simp only [made, List.mem_map] at this
  obtain ⟨x, _, rfl⟩ := this
  exact made_dep x
theorem endless_is (xs : List T3) : Endless (endless (made xs)) := by
  have hl := made_len xs
  have key : ∀ (i : Nat) (a : Dep), (endless (made xs))[i]? = some a → ∃ d : Dep, a = endl1 d i ∧ d.ok = true ∧ 0 ≤ d.frm ∧ d.frm ≤ 24 ∧ i < 20 := fun i a h => by
    obtain ⟨d, hd, rfl⟩ := endless_at h
    have := made_at hd
    have hi := (List.getElem?_eq_some_iff.1 hd).1
    exact ⟨d, rfl, this.1, this.2.1, this.2.2, by omega⟩
  refine ⟨?_, fun a ha => ?_, fun a ha => ?_, fun i j a b ha hb e => ?_⟩
  · simp only [validB, Bool.and_eq_true, List.all_eq_true, decide_eq_true_eq, List.all_nil, List.length_nil]
    refine ⟨⟨⟨fun a ha => ?_, trivial⟩, by rw [endless_len]; exact hl⟩, by omega⟩
    obtain ⟨i, hi⟩ := List.getElem?_of_mem ha
    obtain ⟨d, rfl, h1, h2, h3, h4⟩ := key i a hi
    have e : (endl1 d i).service = d.service ∧ (endl1 d i).version = 0 ∧ (endl1 d i).frm = 40 * d.frm + i ∧ (endl1 d i).to = 1000000 := ⟨rfl, rfl, rfl, rfl⟩
    generalize endl1 d i = z at *
    simp [Dep.ok, inB] at h1 ⊢
    omega
  · obtain ⟨i, hi⟩ := List.getElem?_of_mem ha
    obtain ⟨d, rfl, _⟩ := key i a hi
    rfl
  · obtain ⟨i, hi⟩ := List.getElem?_of_mem ha
    obtain ⟨d, rfl, h1, h2, h3, h4⟩ := key i a hi
    simp only [endl1]; omega
  · obtain ⟨d, rfl, h1, h2, h3, h4⟩ := key i a ha
    obtain ⟨d', rfl, h1', h2', h3', h4'⟩ := key j b hb
    simp only [endl1] at e
    omega
end Go.Proofs.Ytmonkjbhoabhhaa
namespace Go.Proofs.Ytmonkjbhoabhhaa
open Go Go.X
set_option maxRecDepth 10000
set_option linter.unusedVariables false
attribute [local irreducible] Code.wpIn wpListIn Exit.then Exit.inBlock X.Out X.Back X.W X.Ev X.Con X.BinV X.Wh X.Wn X.Wq
theorem validB_sub {ds : List Dep} {l l' : List Tri} (h : validB ds l = true) (hs : ∀ t ∈ l', t ∈ l) (hl : l'.length ≤ 60) : validB ds l' = true := by
  simp only [validB, Bool.and_eq_true, decide_eq_true_eq, List.all_eq_true] at h ⊢
  exact ⟨⟨⟨h.1.1.1, fun t ht => h.1.1.2 t (hs t ht)⟩, h.1.2⟩, hl⟩
theorem pick_nat (c : Int) (n : Nat) (hn : 0 < n) : ∃ k : Nat, pick c n = k ∧ k < n := by
  have h := pick_lt c n (by omega)
  obtain ⟨k, hk⟩ := Int.eq_ofNat_of_zero_le h.1
  exact ⟨k, hk, by omega⟩
theorem f7_law (xs : List T3) (A : Option Addr) (c : Nat) (cu : Int) (ys : List T2) (B : Option Addr) (e : Nat) (fi wr : Int) (S : SH) (hA : At S A xs) (hl : xs.length ≤ c) (hx : ∀ x ∈ xs, i64 x.a ∧ i64 x.b ∧ i64 x.c) (hcu : i64 cu) (hB : At S B ys) (hl2 : ys.length ≤ e) (hy : ∀ x ∈ ys, i64 x.a ∧ i64 x.b) (hfi : i64 fi) (hwr : i64 wr) :
    Con Try.prog 7 #[.slice A xs.length c, .int .i64 cu, .slice B ys.length e, .int .i64 fi, .int .i64 wr] S [] (fun _ _ v => v = .bool true) := by
  refine con_of (args := [.slice A xs.length c, .int .i64 cu, .slice B ys.length e, .int .i64 fi, .int .i64 wr]) Try.func7 rfl Try.ntmps7 rfl fun w => ?_
  have hS : Sr S (.slice A xs.length c) xs := ⟨A, c, rfl, hl, hA⟩
  have hS2 : Sr S (.slice B ys.length e) ys := ⟨B, e, rfl, hl2, hB⟩
  have hv := made_valid xs
  have hn := made_len xs
  by_cases h0 : (made xs).length = 0
  · (repeat (first | refine Jc ?_ | (apply z_call; rfl; rfl; rfl; exact sane_con _; rintro S1 _ v hle1 ⟨rfl, rfl⟩) | (apply z_call; rfl; rfl; rfl; exact made_v hx (hS.le (by repeat (first | exact Le.refl _ | assumption | refine Le.trans ?_ (by assumption)))); rintro S2 _ v2 hle2 ⟨rfl, D, cD, rfl, hcD, hD⟩) | refine Jo ?_ | intro _))
    exact o_ret (L' := []) Try.results7 rfl (by repeat (first | exact List.Sublist.refl _ | exact List.Sublist.slnil | exact List.nil_sublist _ | exact List.sublist_append_left _ _ | refine List.Sublist.cons_cons _ ?_ | refine List.Sublist.append (List.Sublist.refl _) ?_ | refine List.Sublist.cons _ ?_)) rfl
  (repeat (first | refine Jc ?_ | (apply z_call; rfl; rfl; rfl; exact sane_con _; rintro S1 _ v hle1 ⟨rfl, rfl⟩) | (apply z_call; rfl; rfl; rfl; exact made_v hx (hS.le (by repeat (first | exact Le.refl _ | assumption | refine Le.trans ?_ (by assumption)))); rintro S2 _ v2 hle2 ⟨rfl, D, cD, rfl, hcD, hD⟩) | refine Jo ?_ | intro _))
  obtain ⟨w', hw, hw2⟩ := pick_nat wr 3 (by decide)
  obtain ⟨kc, hkc, hkc2⟩ := pick_nat cu (made xs).length (by omega)
  obtain ⟨d, hd⟩ := at_lt hkc2
  have hr2 : Sr S2 (.slice D (made xs).length cD) (made xs) := ⟨D, cD, rfl, hcD, hD⟩
  have hvl := trials_valid xs d ys 3
  have hll := trials_len d ys 3
  generalize hls : trials d ys 3 = ls at *
  obtain ⟨j, hj, hj2⟩ := pick_nat fi (ls.length + 1) (by omega)
  (repeat (first | refine Jc ?_ | (apply z_call; rfl; rfl; rfl; exact pick_c hw hwr (by decide); rintro _ _ _ - ⟨rfl, rfl, rfl⟩) | (apply z_call; rfl; rfl; rfl; exact pick_c hkc hcu (by omega); rintro _ _ _ - ⟨rfl, rfl, rfl⟩) | (apply z_call; rfl; rfl; rfl; exact trials_v hd hy (by decide) hr2 (hS2.le (by repeat (first | exact Le.refl _ | assumption | refine Le.trans ?_ (by assumption)))); rintro S3 _ v3 hle3 ⟨rfl, h3⟩) | refine Jo ?_ | intro _))
  rw [hls] at h3
  obtain ⟨E, cE, rfl, hcE, hE⟩ := h3
  have hr3 : Sr S3 (.slice E ls.length cE) ls := ⟨E, cE, rfl, hcE, hE⟩
  have v1 := validB_sub (l' := ls.take j) hvl (fun t ht => List.mem_of_mem_take ht) (by simp; omega)
  have v2 := validB_sub (l' := ls.drop j ++ ls.take j) hvl (fun t ht => (List.mem_append.1 ht).elim List.mem_of_mem_drop List.mem_of_mem_take) (by simp; omega)
  have v3 := validB_sub (l' := ls ++ ls) hvl (fun t ht => (List.mem_append.1 ht).elim id id) (by simp; omega)
  (repeat (first | refine Jc ?_ | (apply z_call; rfl; rfl; rfl; exact pick_c (n := ls.length + 1) hj hfi (by omega); rintro _ _ _ - ⟨rfl, rfl, rfl⟩) | (apply z_call; rfl; rfl; rfl; exact cands_ok (ls := ls) (wr := w') (hr2.le (by repeat (first | exact Le.refl _ | assumption | refine Le.trans ?_ (by assumption)))) (hr3.le (by repeat (first | exact Le.refl _ | assumption | refine Le.trans ?_ (by assumption)))) hvl (by omega); rintro S4 _ v4 hle4 ⟨rfl, u4, rfl, h4⟩) | refine Jo ?_ | intro _))
  have hE4 : At S4 E ls := hE.le (by repeat (first | exact Le.refl _ | assumption | refine Le.trans ?_ (by assumption)))
  (repeat (first | refine Jc ?_ | (apply s_slice_hi hE4; (case hg => rfl); (case hd => rfl); (case hx => rfl); (case hy => rfl); (case hm => rfl); (case hmc => omega); (case hj => omega); intro A5 hA5) | (apply z_call; rfl; rfl; rfl; exact cands_ok (ls := ls.take j) (wr := w') (hr2.le (by repeat (first | exact Le.refl _ | assumption | refine Le.trans ?_ (by assumption)))) ⟨A5, cE, rfl, by simp; omega, hA5.le (by repeat (first | exact Le.refl _ | assumption | refine Le.trans ?_ (by assumption)))⟩ v1 (by omega); rintro S5 _ v5 hle5 ⟨rfl, u5, rfl, h5⟩) | (apply z_call; rfl; rfl; rfl; exact cands_ok (ls := ls) (wr := w' + 1) (hr2.le (by repeat (first | exact Le.refl _ | assumption | refine Le.trans ?_ (by assumption)))) (hr3.le (by repeat (first | exact Le.refl _ | assumption | refine Le.trans ?_ (by assumption)))) hvl (by omega); rintro S6 _ v6 hle6 ⟨rfl, u6, rfl, h6⟩) | refine Jo ?_ | intro _))
  have hE6 : At S6 E ls := hE.le (by repeat (first | exact Le.refl _ | assumption | refine Le.trans ?_ (by assumption)))
  ((apply c_held ([]); (case hL => (repeat (first | exact List.Sublist.refl _ | exact List.Sublist.slnil | exact List.nil_sublist _ | exact List.sublist_append_left _ _ | apply List.Sublist.cons_cons | (apply List.Sublist.append; exact List.Sublist.refl _) | apply List.Sublist.cons)))); (first | (apply h_slice_lo hE6 0; (case hi => rfl); (case hr => kernel_rfl); (case hfr => kernel_rfl); (case hsel => kernel_rfl); (case hg => rfl); (case hd => rfl); (case i1 => infer_instance); (case i2 => infer_instance); (case hx => rfl); (case hy => rfl); (case hm => rfl); (case hmc => omega); (case hj => omega); intro A7 hA7) | (apply h_slice_hi hE6 0; (case hi => rfl); (case hr => kernel_rfl); (case hfr => kernel_rfl); (case hsel => kernel_rfl); (case hg => rfl); (case hd => rfl); (case i1 => infer_instance); (case i2 => infer_instance); (case hx => rfl); (case hy => rfl); (case hm => rfl); (case hmc => omega); (case hj => omega); intro A8 hA8) | refine Jf 0 ?_); (first | (apply h_slice_lo hE6 2; (case hi => rfl); (case hr => kernel_rfl); (case hfr => kernel_rfl); (case hsel => kernel_rfl); (case hg => rfl); (case hd => rfl); (case i1 => infer_instance); (case i2 => infer_instance); (case hx => rfl); (case hy => rfl); (case hm => rfl); (case hmc => omega); (case hj => omega); intro A7 hA7) | (apply h_slice_hi hE6 2; (case hi => rfl); (case hr => kernel_rfl); (case hfr => kernel_rfl); (case hsel => kernel_rfl); (case hg => rfl); (case hd => rfl); (case i1 => infer_instance); (case i2 => infer_instance); (case hx => rfl); (case hy => rfl); (case hm => rfl); (case hmc => omega); (case hj => omega); intro A8 hA8) | refine Jf 2 ?_); (first | (apply h_slice_lo hE6 3; (case hi => rfl); (case hr => kernel_rfl); (case hfr => kernel_rfl); (case hsel => kernel_rfl); (case hg => rfl); (case hd => rfl); (case i1 => infer_instance); (case i2 => infer_instance); (case hx => rfl); (case hy => rfl); (case hm => rfl); (case hmc => omega); (case hj => omega); intro A7 hA7) | (apply h_slice_hi hE6 3; (case hi => rfl); (case hr => kernel_rfl); (case hfr => kernel_rfl); (case hsel => kernel_rfl); (case hg => rfl); (case hd => rfl); (case i1 => infer_instance); (case i2 => infer_instance); (case hx => rfl); (case hy => rfl); (case hm => rfl); (case hmc => omega); (case hj => omega); intro A8 hA8) | refine Jf 3 ?_); (first | (apply h_slice_lo hE6 4; (case hi => rfl); (case hr => kernel_rfl); (case hfr => kernel_rfl); (case hsel => kernel_rfl); (case hg => rfl); (case hd => rfl); (case i1 => infer_instance); (case i2 => infer_instance); (case hx => rfl); (case hy => rfl); (case hm => rfl); (case hmc => omega); (case hj => omega); intro A7 hA7) | (apply h_slice_hi hE6 4; (case hi => rfl); (case hr => kernel_rfl); (case hfr => kernel_rfl); (case hsel => kernel_rfl); (case hg => rfl); (case hd => rfl); (case i1 => infer_instance); (case i2 => infer_instance); (case hx => rfl); (case hy => rfl); (case hm => rfl); (case hmc => omega); (case hj => omega); intro A8 hA8) | refine Jf 4 ?_); (first | (apply h_slice_lo hE6 6; (case hi => rfl); (case hr => kernel_rfl); (case hfr => kernel_rfl); (case hsel => kernel_rfl); (case hg => rfl); (case hd => rfl); (case i1 => infer_instance); (case i2 => infer_instance); (case hx => rfl); (case hy => rfl); (case hm => rfl); (case hmc => omega); (case hj => omega); intro A7 hA7) | (apply h_slice_hi hE6 6; (case hi => rfl); (case hr => kernel_rfl); (case hfr => kernel_rfl); (case hsel => kernel_rfl); (case hg => rfl); (case hd => rfl); (case i1 => infer_instance); (case i2 => infer_instance); (case hx => rfl); (case hy => rfl); (case hm => rfl); (case hmc => omega); (case hj => omega); intro A8 hA8) | refine Jf 6 ?_); (first | (apply h_slice_lo hE6 7; (case hi => rfl); (case hr => kernel_rfl); (case hfr => kernel_rfl); (case hsel => kernel_rfl); (case hg => rfl); (case hd => rfl); (case i1 => infer_instance); (case i2 => infer_instance); (case hx => rfl); (case hy => rfl); (case hm => rfl); (case hmc => omega); (case hj => omega); intro A7 hA7) | (apply h_slice_hi hE6 7; (case hi => rfl); (case hr => kernel_rfl); (case hfr => kernel_rfl); (case hsel => kernel_rfl); (case hg => rfl); (case hd => rfl); (case i1 => infer_instance); (case i2 => infer_instance); (case hx => rfl); (case hy => rfl); (case hm => rfl); (case hmc => omega); (case hj => omega); intro A8 hA8) | refine Jf 7 ?_); (first | (apply h_slice_lo hE6 8; (case hi => rfl); (case hr => kernel_rfl); (case hfr => kernel_rfl); (case hsel => kernel_rfl); (case hg => rfl); (case hd => rfl); (case i1 => infer_instance); (case i2 => infer_instance); (case hx => rfl); (case hy => rfl); (case hm => rfl); (case hmc => omega); (case hj => omega); intro A7 hA7) | (apply h_slice_hi hE6 8; (case hi => rfl); (case hr => kernel_rfl); (case hfr => kernel_rfl); (case hsel => kernel_rfl); (case hg => rfl); (case hd => rfl); (case i1 => infer_instance); (case i2 => infer_instance); (case hx => rfl); (case hy => rfl); (case hm => rfl); (case hmc => omega); (case hj => omega); intro A8 hA8) | refine Jf 8 ?_); (first | (apply h_slice_lo hE6 10; (case hi => rfl); (case hr => kernel_rfl); (case hfr => kernel_rfl); (case hsel => kernel_rfl); (case hg => rfl); (case hd => rfl); (case i1 => infer_instance); (case i2 => infer_instance); (case hx => rfl); (case hy => rfl); (case hm => rfl); (case hmc => omega); (case hj => omega); intro A7 hA7) | (apply h_slice_hi hE6 10; (case hi => rfl); (case hr => kernel_rfl); (case hfr => kernel_rfl); (case hsel => kernel_rfl); (case hg => rfl); (case hd => rfl); (case i1 => infer_instance); (case i2 => infer_instance); (case hx => rfl); (case hy => rfl); (case hm => rfl); (case hmc => omega); (case hj => omega); intro A8 hA8) | refine Jf 10 ?_); (apply h_one 1; (case hr => kernel_rfl)); (first | (apply n_buildSlice; (case hi => rfl); (case hg => rfl); (case hd => rfl); (case i1 => infer_instance); (case i2 => infer_instance); (case i3 => infer_instance); (case hp => rfl); (case hq => rfl); (case hm => rfl); (case hv => rfl); (case hl => rfl); intro b0) | (apply n_append_st (ms := ls.drop j) hA7; (case hi => rfl); (case hT => infer_instance); (case hsz => infer_instance); (case hz => infer_instance); (case hby => infer_instance); (case hg => rfl); (case hd => rfl); (case hx => rfl); (case ho => exact Ows.full (α := Tri) (e := 49) (g := b0) (cs := []) (l := []) rfl (by decide)); (case hL => (repeat (first | exact pm_nil _ | exact pm_refl _ _ | exact pm_self _ | apply pm_cons | apply pm_app))); (case hy => rfl); (case hm => first | rfl | simp); (case hzs => rfl); (case h0 => decide); (case hb => first | (simp; omega) | simp); (case h63 => first | (simp; omega) | simp); (case hsub => (intro _ _; exact List.nil_sublist _)); intro v1' ob1 ho1) | (apply n_append_st (ms := ls.take j) hA8; (case hi => rfl); (case hT => infer_instance); (case hsz => infer_instance); (case hz => infer_instance); (case hby => infer_instance); (case hg => rfl); (case hd => rfl); (case hx => rfl); (case ho => exact ho1); (case hL => (repeat (first | exact pm_nil _ | exact pm_refl _ _ | exact pm_self _ | apply pm_cons | apply pm_app))); (case hy => rfl); (case hm => first | rfl | simp); (case hzs => rfl); (case h0 => decide); (case hb => first | (simp; omega) | simp); (case h63 => first | (simp; omega) | simp); (case hsub => (intro _ _; exact List.nil_sublist _)); intro v2' ob2 ho2; refine Wh.freezeOws ho2 (by repeat (first | exact pm_nil _ | exact pm_refl _ _ | exact pm_self _ | refine pm_cons ?_ | refine pm_app ?_)) (List.nil_sublist _) fun S7 hle7 hr7 => ?_) | (apply n_call; (case hi => rfl); (case i1 => infer_instance); (case hg => rfl); (case hd => rfl); (case ha => rfl); (case hc => exact cands_ok (ls := ls.drop j ++ ls.take j) (wr := w') (hr2.le (by repeat (first | exact Le.refl _ | assumption | refine Le.trans ?_ (by assumption)))) hr7 v2 (by omega)); (case hL => (repeat (first | exact pm_nil _ | exact pm_refl _ _ | exact pm_self _ | apply pm_cons | apply pm_app))); (case hsub => (intros; (repeat (first | exact List.Sublist.refl _ | exact List.Sublist.slnil | exact List.nil_sublist _ | exact List.sublist_append_left _ _ | apply List.Sublist.cons_cons | (apply List.Sublist.append; exact List.Sublist.refl _) | apply List.Sublist.cons)))); rintro S8 _ v8 hle8 ⟨rfl, u8, rfl, h8⟩) | (refine Jn ?_; try intro _)); (apply h_one 5; (case hr => kernel_rfl)); (first | (apply n_buildSlice; (case hi => rfl); (case hg => rfl); (case hd => rfl); (case i1 => infer_instance); (case i2 => infer_instance); (case i3 => infer_instance); (case hp => rfl); (case hq => rfl); (case hm => rfl); (case hv => rfl); (case hl => rfl); intro b0) | (apply n_append_st (ms := ls.drop j) hA7; (case hi => rfl); (case hT => infer_instance); (case hsz => infer_instance); (case hz => infer_instance); (case hby => infer_instance); (case hg => rfl); (case hd => rfl); (case hx => rfl); (case ho => exact Ows.full (α := Tri) (e := 49) (g := b0) (cs := []) (l := []) rfl (by decide)); (case hL => (repeat (first | exact pm_nil _ | exact pm_refl _ _ | exact pm_self _ | apply pm_cons | apply pm_app))); (case hy => rfl); (case hm => first | rfl | simp); (case hzs => rfl); (case h0 => decide); (case hb => first | (simp; omega) | simp); (case h63 => first | (simp; omega) | simp); (case hsub => (intro _ _; exact List.nil_sublist _)); intro v1' ob1 ho1) | (apply n_append_st (ms := ls.take j) hA8; (case hi => rfl); (case hT => infer_instance); (case hsz => infer_instance); (case hz => infer_instance); (case hby => infer_instance); (case hg => rfl); (case hd => rfl); (case hx => rfl); (case ho => exact ho1); (case hL => (repeat (first | exact pm_nil _ | exact pm_refl _ _ | exact pm_self _ | apply pm_cons | apply pm_app))); (case hy => rfl); (case hm => first | rfl | simp); (case hzs => rfl); (case h0 => decide); (case hb => first | (simp; omega) | simp); (case h63 => first | (simp; omega) | simp); (case hsub => (intro _ _; exact List.nil_sublist _)); intro v2' ob2 ho2; refine Wh.freezeOws ho2 (by repeat (first | exact pm_nil _ | exact pm_refl _ _ | exact pm_self _ | refine pm_cons ?_ | refine pm_app ?_)) (List.nil_sublist _) fun S7 hle7 hr7 => ?_) | (apply n_call; (case hi => rfl); (case i1 => infer_instance); (case hg => rfl); (case hd => rfl); (case ha => rfl); (case hc => exact cands_ok (ls := ls.drop j ++ ls.take j) (wr := w') (hr2.le (by repeat (first | exact Le.refl _ | assumption | refine Le.trans ?_ (by assumption)))) hr7 v2 (by omega)); (case hL => (repeat (first | exact pm_nil _ | exact pm_refl _ _ | exact pm_self _ | apply pm_cons | apply pm_app))); (case hsub => (intros; (repeat (first | exact List.Sublist.refl _ | exact List.Sublist.slnil | exact List.nil_sublist _ | exact List.sublist_append_left _ _ | apply List.Sublist.cons_cons | (apply List.Sublist.append; exact List.Sublist.refl _) | apply List.Sublist.cons)))); rintro S8 _ v8 hle8 ⟨rfl, u8, rfl, h8⟩) | (refine Jn ?_; try intro _)); (apply h_one 9; (case hr => kernel_rfl)); (first | (apply n_buildSlice; (case hi => rfl); (case hg => rfl); (case hd => rfl); (case i1 => infer_instance); (case i2 => infer_instance); (case i3 => infer_instance); (case hp => rfl); (case hq => rfl); (case hm => rfl); (case hv => rfl); (case hl => rfl); intro b0) | (apply n_append_st (ms := ls.drop j) hA7; (case hi => rfl); (case hT => infer_instance); (case hsz => infer_instance); (case hz => infer_instance); (case hby => infer_instance); (case hg => rfl); (case hd => rfl); (case hx => rfl); (case ho => exact Ows.full (α := Tri) (e := 49) (g := b0) (cs := []) (l := []) rfl (by decide)); (case hL => (repeat (first | exact pm_nil _ | exact pm_refl _ _ | exact pm_self _ | apply pm_cons | apply pm_app))); (case hy => rfl); (case hm => first | rfl | simp); (case hzs => rfl); (case h0 => decide); (case hb => first | (simp; omega) | simp); (case h63 => first | (simp; omega) | simp); (case hsub => (intro _ _; exact List.nil_sublist _)); intro v1' ob1 ho1) | (apply n_append_st (ms := ls.take j) hA8; (case hi => rfl); (case hT => infer_instance); (case hsz => infer_instance); (case hz => infer_instance); (case hby => infer_instance); (case hg => rfl); (case hd => rfl); (case hx => rfl); (case ho => exact ho1); (case hL => (repeat (first | exact pm_nil _ | exact pm_refl _ _ | exact pm_self _ | apply pm_cons | apply pm_app))); (case hy => rfl); (case hm => first | rfl | simp); (case hzs => rfl); (case h0 => decide); (case hb => first | (simp; omega) | simp); (case h63 => first | (simp; omega) | simp); (case hsub => (intro _ _; exact List.nil_sublist _)); intro v2' ob2 ho2; refine Wh.freezeOws ho2 (by repeat (first | exact pm_nil _ | exact pm_refl _ _ | exact pm_self _ | refine pm_cons ?_ | refine pm_app ?_)) (List.nil_sublist _) fun S7 hle7 hr7 => ?_) | (apply n_call; (case hi => rfl); (case i1 => infer_instance); (case hg => rfl); (case hd => rfl); (case ha => rfl); (case hc => exact cands_ok (ls := ls.drop j ++ ls.take j) (wr := w') (hr2.le (by repeat (first | exact Le.refl _ | assumption | refine Le.trans ?_ (by assumption)))) hr7 v2 (by omega)); (case hL => (repeat (first | exact pm_nil _ | exact pm_refl _ _ | exact pm_self _ | apply pm_cons | apply pm_app))); (case hsub => (intros; (repeat (first | exact List.Sublist.refl _ | exact List.Sublist.slnil | exact List.nil_sublist _ | exact List.sublist_append_left _ _ | apply List.Sublist.cons_cons | (apply List.Sublist.append; exact List.Sublist.refl _) | apply List.Sublist.cons)))); rintro S8 _ v8 hle8 ⟨rfl, u8, rfl, h8⟩) | (refine Jn ?_; try intro _)); (apply h_one 11; (case hr => kernel_rfl)); (first | (apply n_buildSlice; (case hi => rfl); (case hg => rfl); (case hd => rfl); (case i1 => infer_instance); (case i2 => infer_instance); (case i3 => infer_instance); (case hp => rfl); (case hq => rfl); (case hm => rfl); (case hv => rfl); (case hl => rfl); intro b0) | (apply n_append_st (ms := ls.drop j) hA7; (case hi => rfl); (case hT => infer_instance); (case hsz => infer_instance); (case hz => infer_instance); (case hby => infer_instance); (case hg => rfl); (case hd => rfl); (case hx => rfl); (case ho => exact Ows.full (α := Tri) (e := 49) (g := b0) (cs := []) (l := []) rfl (by decide)); (case hL => (repeat (first | exact pm_nil _ | exact pm_refl _ _ | exact pm_self _ | apply pm_cons | apply pm_app))); (case hy => rfl); (case hm => first | rfl | simp); (case hzs => rfl); (case h0 => decide); (case hb => first | (simp; omega) | simp); (case h63 => first | (simp; omega) | simp); (case hsub => (intro _ _; exact List.nil_sublist _)); intro v1' ob1 ho1) | (apply n_append_st (ms := ls.take j) hA8; (case hi => rfl); (case hT => infer_instance); (case hsz => infer_instance); (case hz => infer_instance); (case hby => infer_instance); (case hg => rfl); (case hd => rfl); (case hx => rfl); (case ho => exact ho1); (case hL => (repeat (first | exact pm_nil _ | exact pm_refl _ _ | exact pm_self _ | apply pm_cons | apply pm_app))); (case hy => rfl); (case hm => first | rfl | simp); (case hzs => rfl); (case h0 => decide); (case hb => first | (simp; omega) | simp); (case h63 => first | (simp; omega) | simp); (case hsub => (intro _ _; exact List.nil_sublist _)); intro v2' ob2 ho2; refine Wh.freezeOws ho2 (by repeat (first | exact pm_nil _ | exact pm_refl _ _ | exact pm_self _ | refine pm_cons ?_ | refine pm_app ?_)) (List.nil_sublist _) fun S7 hle7 hr7 => ?_) | (apply n_call; (case hi => rfl); (case i1 => infer_instance); (case hg => rfl); (case hd => rfl); (case ha => rfl); (case hc => exact cands_ok (ls := ls.drop j ++ ls.take j) (wr := w') (hr2.le (by repeat (first | exact Le.refl _ | assumption | refine Le.trans ?_ (by assumption)))) hr7 v2 (by omega)); (case hL => (repeat (first | exact pm_nil _ | exact pm_refl _ _ | exact pm_self _ | apply pm_cons | apply pm_app))); (case hsub => (intros; (repeat (first | exact List.Sublist.refl _ | exact List.Sublist.slnil | exact List.nil_sublist _ | exact List.sublist_append_left _ _ | apply List.Sublist.cons_cons | (apply List.Sublist.append; exact List.Sublist.refl _) | apply List.Sublist.cons)))); rintro S8 _ v8 hle8 ⟨rfl, u8, rfl, h8⟩) | (refine Jn ?_; try intro _)); (first | (apply h_slice_lo hE6 12; (case hi => rfl); (case hr => kernel_rfl); (case hfr => kernel_rfl); (case hsel => kernel_rfl); (case hg => rfl); (case hd => rfl); (case i1 => infer_instance); (case i2 => infer_instance); (case hx => rfl); (case hy => rfl); (case hm => rfl); (case hmc => omega); (case hj => omega); intro A7 hA7) | (apply h_slice_hi hE6 12; (case hi => rfl); (case hr => kernel_rfl); (case hfr => kernel_rfl); (case hsel => kernel_rfl); (case hg => rfl); (case hd => rfl); (case i1 => infer_instance); (case i2 => infer_instance); (case hx => rfl); (case hy => rfl); (case hm => rfl); (case hmc => omega); (case hj => omega); intro A8 hA8) | refine Jf 12 ?_); (first | (apply h_slice_lo hE6 13; (case hi => rfl); (case hr => kernel_rfl); (case hfr => kernel_rfl); (case hsel => kernel_rfl); (case hg => rfl); (case hd => rfl); (case i1 => infer_instance); (case i2 => infer_instance); (case hx => rfl); (case hy => rfl); (case hm => rfl); (case hmc => omega); (case hj => omega); intro A7 hA7) | (apply h_slice_hi hE6 13; (case hi => rfl); (case hr => kernel_rfl); (case hfr => kernel_rfl); (case hsel => kernel_rfl); (case hg => rfl); (case hd => rfl); (case i1 => infer_instance); (case i2 => infer_instance); (case hx => rfl); (case hy => rfl); (case hm => rfl); (case hmc => omega); (case hj => omega); intro A8 hA8) | refine Jf 13 ?_); (first | (apply h_slice_lo hE6 14; (case hi => rfl); (case hr => kernel_rfl); (case hfr => kernel_rfl); (case hsel => kernel_rfl); (case hg => rfl); (case hd => rfl); (case i1 => infer_instance); (case i2 => infer_instance); (case hx => rfl); (case hy => rfl); (case hm => rfl); (case hmc => omega); (case hj => omega); intro A7 hA7) | (apply h_slice_hi hE6 14; (case hi => rfl); (case hr => kernel_rfl); (case hfr => kernel_rfl); (case hsel => kernel_rfl); (case hg => rfl); (case hd => rfl); (case i1 => infer_instance); (case i2 => infer_instance); (case hx => rfl); (case hy => rfl); (case hm => rfl); (case hmc => omega); (case hj => omega); intro A8 hA8) | refine Jf 14 ?_); (first | (apply h_slice_lo hE6 15; (case hi => rfl); (case hr => kernel_rfl); (case hfr => kernel_rfl); (case hsel => kernel_rfl); (case hg => rfl); (case hd => rfl); (case i1 => infer_instance); (case i2 => infer_instance); (case hx => rfl); (case hy => rfl); (case hm => rfl); (case hmc => omega); (case hj => omega); intro A7 hA7) | (apply h_slice_hi hE6 15; (case hi => rfl); (case hr => kernel_rfl); (case hfr => kernel_rfl); (case hsel => kernel_rfl); (case hg => rfl); (case hd => rfl); (case i1 => infer_instance); (case i2 => infer_instance); (case hx => rfl); (case hy => rfl); (case hm => rfl); (case hmc => omega); (case hj => omega); intro A8 hA8) | refine Jf 15 ?_); (first | (apply h_slice_lo hE6 16; (case hi => rfl); (case hr => kernel_rfl); (case hfr => kernel_rfl); (case hsel => kernel_rfl); (case hg => rfl); (case hd => rfl); (case i1 => infer_instance); (case i2 => infer_instance); (case hx => rfl); (case hy => rfl); (case hm => rfl); (case hmc => omega); (case hj => omega); intro A7 hA7) | (apply h_slice_hi hE6 16; (case hi => rfl); (case hr => kernel_rfl); (case hfr => kernel_rfl); (case hsel => kernel_rfl); (case hg => rfl); (case hd => rfl); (case i1 => infer_instance); (case i2 => infer_instance); (case hx => rfl); (case hy => rfl); (case hm => rfl); (case hmc => omega); (case hj => omega); intro A8 hA8) | refine Jf 16 ?_); (apply h_end; (case hr => kernel_rfl)))
  (repeat (first | refine Jc ?_ | (apply z_call; rfl; rfl; rfl; exact cands_ok (ls := ls) (wr := 0) (hr2.le (by repeat (first | exact Le.refl _ | assumption | refine Le.trans ?_ (by assumption)))) (hr3.le (by repeat (first | exact Le.refl _ | assumption | refine Le.trans ?_ (by assumption)))) hvl (by omega); rintro S9 _ v9 hle9 ⟨rfl, u9, rfl, h9⟩) | refine Jo ?_ | intro _))
  have hE9 : At S9 E ls := hE.le (by repeat (first | exact Le.refl _ | assumption | refine Le.trans ?_ (by assumption)))
  rename_i b0
  have ho0 := Ows.full (α := Tri) (e := 49) (g := b0) (cs := []) (l := []) rfl (by decide)
  (repeat (first | refine Jc ?_ | (apply s_append_st (ms := ls) hE9; (case hg => rfl); (case hd => rfl); (case hx => rfl); (case ho => exact ho0); (case hL => (repeat (first | exact pm_nil _ | exact pm_refl _ _ | exact pm_self _ | apply pm_cons | apply pm_app))); (case hy => rfl); (case hm => first | rfl | simp); (case hzs => rfl); (case h0 => decide); (case hb => first | (simp; omega) | simp); (case h63 => first | (simp; omega) | simp); intro v1' ob1 ho1) | refine Jo ?_ | intro _))
  (repeat (first | refine Jc ?_ | (apply s_append_st (ms := ls) hE9; (case hg => rfl); (case hd => rfl); (case hx => rfl); (case ho => exact ho1); (case hL => (repeat (first | exact pm_nil _ | exact pm_refl _ _ | exact pm_self _ | apply pm_cons | apply pm_app))); (case hy => rfl); (case hm => first | rfl | simp); (case hzs => rfl); (case h0 => decide); (case hb => first | (simp; omega) | simp); (case h63 => first | (simp; omega) | simp); intro v2' ob2 ho2; refine W.freezeOws ho2 (by repeat (first | exact pm_nil _ | exact pm_refl _ _ | exact pm_self _ | refine pm_cons ?_ | refine pm_app ?_)) fun S10 hle10 hr10 => ?_) | (apply z_call; rfl; rfl; rfl; exact cands_ok (ls := ls ++ ls) (wr := 0) (hr2.le (by repeat (first | exact Le.refl _ | assumption | refine Le.trans ?_ (by assumption)))) hr10 v3 (by omega); rintro S11 _ v11 hle11 ⟨rfl, u11, rfl, h11⟩) | refine Jo ?_ | intro _))
  have l1 := cands_len' (made xs) ls w'
  have l2 := cands_len' (made xs) (ls.take j) w'
  have l3 := cands_len' (made xs) ls (w' + 1)
  have l4 := cands_len' (made xs) ls 0
  (repeat (first | refine Jc ?_ | (apply z_call; rfl; rfl; rfl; exact part_v (cands_take (made xs) ls j w') (h4.le (by repeat (first | exact Le.refl _ | assumption | refine Le.trans ?_ (by assumption)))) (h5.le (by repeat (first | exact Le.refl _ | assumption | refine Le.trans ?_ (by assumption)))) (by omega) (by omega); rintro _ _ _ - ⟨rfl, rfl, rfl⟩) | (apply z_call; rfl; rfl; rfl; exact part_v (cands_more (made xs) ls w') (h4.le (by repeat (first | exact Le.refl _ | assumption | refine Le.trans ?_ (by assumption)))) (h6.le (by repeat (first | exact Le.refl _ | assumption | refine Le.trans ?_ (by assumption)))) (by omega) (by omega); rintro _ _ _ - ⟨rfl, rfl, rfl⟩) | (apply z_call; rfl; rfl; rfl; exact same_c (r := true) (by rw [cands_turn]; exact BEq.rfl) (h4.le (by repeat (first | exact Le.refl _ | assumption | refine Le.trans ?_ (by assumption)))) (h8.le (by repeat (first | exact Le.refl _ | assumption | refine Le.trans ?_ (by assumption)))) (by omega); rintro _ _ _ - ⟨rfl, rfl, rfl⟩) | (apply z_call; rfl; rfl; rfl; exact same_c (r := true) (by rw [cands_twice]; exact BEq.rfl) (h9.le (by repeat (first | exact Le.refl _ | assumption | refine Le.trans ?_ (by assumption)))) (h11.le (by repeat (first | exact Le.refl _ | assumption | refine Le.trans ?_ (by assumption)))) (by omega); rintro _ _ _ - ⟨rfl, rfl, rfl⟩) | refine Jo ?_ | intro _))
  exact o_ret (L' := []) Try.results7 rfl (by repeat (first | exact List.Sublist.refl _ | exact List.Sublist.slnil | exact List.nil_sublist _ | exact List.sublist_append_left _ _ | refine List.Sublist.cons_cons _ ?_ | refine List.Sublist.append (List.Sublist.refl _) ?_ | refine List.Sublist.cons _ ?_)) rfl
end Go.Proofs.Ytmonkjbhoabhhaa
namespace Go.Proofs.Ytmonkjbhoabhhaa
open Go Go.X
set_option maxRecDepth 10000
set_option linter.unusedVariables false
attribute [local irreducible] Code.wpIn wpListIn Exit.then Exit.inBlock X.Out X.Back X.W X.Ev X.Con X.BinV X.Wh X.Wn X.Wq
theorem actives_has (ds : List Dep) (t : Int) (i : Nat) : (actives ds t).contains (i : Int) = onAt ds t i := by
  rw [actives, idxs_contains]
  by_cases h : i < ds.length
  · simp [h]
  · simp [h, onAt_none (Nat.le_of_not_lt h)]
theorem cands_has {ds : List Dep} {i : Nat} (h : i < ds.length) (ls : List Tri) (wr : Int) : (cands ds ls wr).contains (i : Int) = decide (cnt ds ls i ≤ wr) := by
  rw [cands, idxs_contains]
  simp [h, candP]
theorem validB_tri {ds : List Dep} {ls : List Tri} (h : validB ds ls = true) : ∀ t ∈ ls, 0 ≤ t.at_ ∧ t.at_ ≤ 1000000 := by
  intro t ht
  simp only [validB, Bool.and_eq_true, List.all_eq_true] at h
  have := h.1.1.2 t ht
  simpa [Tri.ok, inB] using this
theorem f4_law (xs : List T3) (A : Option Addr) (c : Nat) (cu : Int) (ys : List T2) (B : Option Addr) (e : Nat) (wr : Int) (S : SH) (hA : At S A xs) (hl : xs.length ≤ c) (hx : ∀ x ∈ xs, i64 x.a ∧ i64 x.b ∧ i64 x.c) (hcu : i64 cu) (hB : At S B ys) (hl2 : ys.length ≤ e) (hy : ∀ x ∈ ys, i64 x.a ∧ i64 x.b) (hwr : i64 wr) :
    Con Try.prog 4 #[.slice A xs.length c, .int .i64 cu, .slice B ys.length e, .int .i64 wr] S [] (fun _ _ v => v = .bool true) := by
  refine con_of (args := [.slice A xs.length c, .int .i64 cu, .slice B ys.length e, .int .i64 wr]) Try.func4 rfl Try.ntmps4 rfl fun w => ?_
  have hS : Sr S (.slice A xs.length c) xs := ⟨A, c, rfl, hl, hA⟩
  have hS2 : Sr S (.slice B ys.length e) ys := ⟨B, e, rfl, hl2, hB⟩
  have hv := made_valid xs
  have hn := made_len xs
  by_cases h0 : (made xs).length = 0
  · (repeat (first | refine Jc ?_ | (apply z_call; rfl; rfl; rfl; exact sane_con _; rintro S1 _ v hle1 ⟨rfl, rfl⟩) | (apply z_call; rfl; rfl; rfl; exact made_v hx (hS.le (by repeat (first | exact Le.refl _ | assumption | refine Le.trans ?_ (by assumption)))); rintro S2 _ v2 hle2 ⟨rfl, D, cD, rfl, hcD, hD⟩) | refine Jo ?_ | intro _))
    exact o_ret (L' := []) Try.results4 rfl (by repeat (first | exact List.Sublist.refl _ | exact List.Sublist.slnil | exact List.nil_sublist _ | exact List.sublist_append_left _ _ | refine List.Sublist.cons_cons _ ?_ | refine List.Sublist.append (List.Sublist.refl _) ?_ | refine List.Sublist.cons _ ?_)) rfl
  (repeat (first | refine Jc ?_ | (apply z_call; rfl; rfl; rfl; exact sane_con _; rintro S1 _ v hle1 ⟨rfl, rfl⟩) | (apply z_call; rfl; rfl; rfl; exact made_v hx (hS.le (by repeat (first | exact Le.refl _ | assumption | refine Le.trans ?_ (by assumption)))); rintro S2 _ v2 hle2 ⟨rfl, D, cD, rfl, hcD, hD⟩) | refine Jo ?_ | intro _))
  obtain ⟨w', hw, hw2⟩ := pick_nat wr 4 (by decide)
  obtain ⟨kc, hkc, hkc2⟩ := pick_nat cu (made xs).length (by omega)
  obtain ⟨d, hd⟩ := at_lt hkc2
  have hr2 : Sr S2 (.slice D (made xs).length cD) (made xs) := ⟨D, cD, rfl, hcD, hD⟩
  have hvl := trials_valid xs d ys w'
  have hll := trials_len d ys w'
  have hin := culprit_in hd ys w' (by omega)
  (repeat (first | refine Jc ?_ | (apply z_call; rfl; rfl; rfl; exact pick_c hw hwr (by decide); rintro _ _ _ - ⟨rfl, rfl, rfl⟩) | (apply z_call; rfl; rfl; rfl; exact pick_c hkc hcu (by omega); rintro _ _ _ - ⟨rfl, rfl, rfl⟩) | (apply z_call; rfl; rfl; rfl; exact trials_v (wr := w') hd hy (by omega) hr2 (hS2.le (by repeat (first | exact Le.refl _ | assumption | refine Le.trans ?_ (by assumption)))); rintro S3 _ v3 hle3 ⟨rfl, E, cE, rfl, hcE, hE⟩) | refine Jo ?_ | intro _))
  have hct := fun i (h : i < (made xs).length) => cands_has h (trials d ys w') w'
  have hca := cands_len' (made xs) (trials d ys w') w'
  have hsort : (cands (made xs) (trials d ys w') w').Pairwise (· < ·) := idxs_sorted _ _
  generalize hls : trials d ys w' = ls at *
  have hr3 : Sr S3 (.slice E ls.length cE) ls := ⟨E, cE, rfl, hcE, hE⟩
  generalize hcs : cands (made xs) ls w' = cs at *
  (repeat (first | refine Jc ?_ | (apply z_call; rfl; rfl; rfl; exact cands_ok (ls := ls) (wr := w') (hr2.le (by repeat (first | exact Le.refl _ | assumption | refine Le.trans ?_ (by assumption)))) (hr3.le (by repeat (first | exact Le.refl _ | assumption | refine Le.trans ?_ (by assumption)))) hvl (by omega); rintro S4 _ v4 hle4 ⟨rfl, _, rfl, h4⟩) | refine Jo ?_ | intro _))
  rw [hcs] at h4
  (repeat (first | refine Jc ?_ | (apply z_call; rfl; rfl; rfl; exact has_v (b := true) hin (h4.le (by repeat (first | exact Le.refl _ | assumption | refine Le.trans ?_ (by assumption)))) (by omega); rintro _ _ _ - ⟨rfl, rfl, rfl⟩) | refine Jo ?_ | intro _))
  obtain ⟨C, cC, rfl, hcC, hC⟩ := h4
  refine c_loop (fun m S' L F => Le S4 S' ∧ L = [] ∧ ∃ i : Nat, m = (made xs).length - i ∧ i ≤ (made xs).length ∧
    F = [(9, .bool true), (10, .slice D (made xs).length cD), (11, .int .i64 w'), (13, .slice E ls.length cE), (14, .slice C cs.length cC), (16, .int .i64 i)]) ⟨Le.refl _, rfl, 0, rfl, by omega, rfl⟩ (by repeat (first | exact Sub.nil rfl | exact Sub.marked rfl | refine Sub.cons rfl ?_)) (by repeat (first | exact List.Sublist.refl _ | exact List.Sublist.slnil | exact List.nil_sublist _ | exact List.sublist_append_left _ _ | refine List.Sublist.cons_cons _ ?_ | refine List.Sublist.append (List.Sublist.refl _) ?_ | refine List.Sublist.cons _ ?_)) ?_
  rintro m S' L F ⟨hle, rfl, i, rfl, hi, rfl⟩
  have hC' : At S' C cs := hC.le (by repeat (first | exact Le.refl _ | assumption | refine Le.trans ?_ (by assumption)))
  have hE' : At S' E ls := hE.le (by repeat (first | exact Le.refl _ | assumption | refine Le.trans ?_ (by assumption)))
  have hq : Sr S' (.slice C cs.length cC) cs := ⟨C, cC, rfl, hcC, hC'⟩
  by_cases hil : i < (made xs).length
  rotate_left
  · (repeat (first | refine Jz ?_ | intro _))
    exact o_ret (L' := []) Try.results4 rfl (by repeat (first | exact List.Sublist.refl _ | exact List.Sublist.slnil | exact List.nil_sublist _ | exact List.sublist_append_left _ _ | refine List.Sublist.cons_cons _ ?_ | refine List.Sublist.append (List.Sublist.refl _) ?_ | refine List.Sublist.cons _ ?_)) rfl
  have hci := hct i hil
  have hcnt := cnt_le (made xs) ls i
  (repeat (first | refine Jz ?_ | intro _))
  refine c_meetB (fun S1 L1 F1 => Le S' S1 ∧ L1 = [] ∧ F1 = [(9, .bool true), (10, .slice D (made xs).length cD), (11, .int .i64 w'), (13, .slice E ls.length cE), (14, .slice C cs.length cC), (16, .int .i64 i), (17, .int .i64 (cnt (made xs) ls i))]) ?_ ?_
  · refine c_loop (fun m S1 L1 F1 => Le S' S1 ∧ L1 = [] ∧ ∃ (n : Nat) (q : Int), m = ls.length - n ∧ n ≤ ls.length ∧ q = cnt (made xs) (ls.take n) i ∧
      F1 = [(9, .bool true), (10, .slice D (made xs).length cD), (11, .int .i64 w'), (13, .slice E ls.length cE), (14, .slice C cs.length cC), (16, .int .i64 i), (17, .int .i64 q), (18, .int .i64 n)]) ⟨Le.refl _, rfl, 0, 0, rfl, by omega, by simp [cnt], rfl⟩ (by repeat (first | exact Sub.nil rfl | exact Sub.marked rfl | refine Sub.cons rfl ?_)) (by repeat (first | exact List.Sublist.refl _ | exact List.Sublist.slnil | exact List.nil_sublist _ | exact List.sublist_append_left _ _ | refine List.Sublist.cons_cons _ ?_ | refine List.Sublist.append (List.Sublist.refl _) ?_ | refine List.Sublist.cons _ ?_)) ?_
    rintro m S1 L1 F1 ⟨hle1, rfl, n, q, rfl, hn1, hq1, rfl⟩
    by_cases hnl : n < ls.length
    rotate_left
    · obtain rfl : n = ls.length := by omega
      rw [List.take_of_length_le (Nat.le_refl _)] at hq1
      subst hq1
      (repeat (first | refine Jz ?_ | intro _))
      exact q_cut ⟨hle1, rfl, rfl⟩ (by repeat (first | exact Sub.nil rfl | exact Sub.marked rfl | refine Sub.cons rfl ?_)) (by repeat (first | exact List.Sublist.refl _ | exact List.Sublist.slnil | exact List.nil_sublist _ | exact List.sublist_append_left _ _ | refine List.Sublist.cons_cons _ ?_ | refine List.Sublist.append (List.Sublist.refl _) ?_ | refine List.Sublist.cons _ ?_))
    obtain ⟨⟨t, bd⟩, ht⟩ := at_lt hnl
    have hE1 : At S1 E ls := hE'.le hle1
    have htv : 0 ≤ t ∧ t ≤ 1000000 := by
      have := validB_tri hvl _ (List.mem_of_getElem? ht)
      exact this
    have hsn := cnt_snoc (made xs) (ls.take n) ⟨t, bd⟩ i
    rw [← take_at ht, ← hq1] at hsn
    have hqb := cnt_le (made xs) (ls.take n) i
    have htk : (ls.take n).length ≤ 60 := by simp; omega
    have hal := actives_len (made xs) t
    generalize hon : onAt (made xs) t i = on at *
    have hah := actives_has (made xs) t i
    rw [hon] at hah
    simp only [wrongAt, hon] at hsn
    cases on
    all_goals cases bd
    all_goals (repeat (first | refine Jc ?_ | (apply s_idx hE1; (case hg => rfl); (case hd => rfl); (case hx => rfl); (case hi => rfl); (case hm => rfl); (case hu => exact ht); intro p (hp : Pts _ p [_, _])) | (apply s_load_f; (case hg => rfl); (case hd => rfl); (case hx => rfl); (case h => exact hp); (case hv => rfl)) | (apply z_call; rfl; rfl; rfl; exact active_ok (t := t) (hr2.le (by repeat (first | exact Le.refl _ | assumption | refine Le.trans ?_ (by assumption)))) hv htv; rintro S5 _ v5 hle5 ⟨rfl, _, rfl, h5⟩; have hE5 := hE1.le hle5) | (apply s_idx hE5; (case hg => rfl); (case hd => rfl); (case hx => rfl); (case hi => rfl); (case hm => rfl); (case hu => exact ht); intro p (hp : Pts _ p [_, _])) | (apply z_call; rfl; rfl; rfl; exact has_v hah (h5.le (by repeat (first | exact Le.refl _ | assumption | refine Le.trans ?_ (by assumption)))) (by omega); rintro _ _ _ - ⟨rfl, rfl, rfl⟩) | refine Jo ?_ | intro _))
    all_goals simp at hsn
    all_goals exact q_back (m' := ls.length - (n + 1)) ⟨hle1.trans hle5, rfl, n + 1, _, rfl, by omega, (by first | exact hsn.symm | omega), rfl⟩ (by omega) (by repeat (first | exact Sub.nil rfl | exact Sub.marked rfl | refine Sub.cons rfl ?_)) (by repeat (first | exact List.Sublist.refl _ | exact List.Sublist.slnil | exact List.nil_sublist _ | exact List.sublist_append_left _ _ | refine List.Sublist.cons_cons _ ?_ | refine List.Sublist.append (List.Sublist.refl _) ?_ | refine List.Sublist.cons _ ?_))
  rintro S1 L1 F1 ⟨hle1, rfl, rfl⟩
  have hq1 := hq.le hle1
  have hC1 := hC'.le hle1
  generalize hdc : decide (cnt (made xs) ls i ≤ w') = dc at *
  generalize cnt (made xs) ls i = cn at *
  (repeat (first | refine Jc ?_ | (apply z_call; rfl; rfl; rfl; exact has_v hci hq1 (by omega); rintro _ _ _ - ⟨rfl, rfl, rfl⟩) | refine Jo ?_ | intro _))
  refine c_meet (fun S2 L2 F2 => S2 = S1 ∧ L2 = [] ∧ F2 = [(121, .bool false), (9, .bool true), (10, .slice D (made xs).length cD), (11, .int .i64 w'), (13, .slice E ls.length cE), (14, .slice C cs.length cC), (16, .int .i64 i)]) ?_ ?_
  · have key : ∀ (hi : 0 < i) (hc : i < cs.length), ∃ x y, cs[i]? = some x ∧ cs[i - 1]? = some y ∧ y < x := fun hi hc => by
      refine ⟨cs[i], cs[i - 1], List.getElem?_eq_getElem hc, List.getElem?_eq_getElem (by omega), ?_⟩
      exact List.pairwise_iff_getElem.1 hsort (i - 1) i (by omega) hc (by omega)
    by_cases hk : 0 < i ∧ i < cs.length
    · obtain ⟨hi0, hic⟩ := hk
      obtain ⟨x, y, hx1, hy1, hxy⟩ := key hi0 hic
      cases dc
      all_goals simp only [decide_eq_true_eq, decide_eq_false_iff_not] at hdc
      all_goals
        (repeat (first | (apply q_ev; (case hg => rfl); (case hd => rfl); (case he => (apply ev_binV; (case hx => rfl); (case hy => rfl); (case hb => (apply bv_pred; omega))))) | (apply q_idx hC1; (case hg => rfl); (case hd => rfl); (case hx => rfl); (case hi => rfl); (case hm => rfl); (case hu => exact hx1); intro p1 (hp1 : Pts _ p1 [_])) | (apply q_idx hC1; (case hg => rfl); (case hd => rfl); (case hx => rfl); (case hi => rfl); (case hm => rfl); (case hu => exact hy1); intro p2 (hp2 : Pts _ p2 [_])) | (apply q_ev; (case hg => rfl); (case hd => rfl); (case he => (apply ev_load1; (case hx => rfl); (case h => exact hp1)))) | (apply q_ev; (case hg => rfl); (case hd => rfl); (case he => (apply ev_load1; (case hx => rfl); (case h => exact hp2)))) | refine Jd ?_))
        (repeat (first | refine Jz ?_ | intro _))
        exact q_cut ⟨rfl, rfl, rfl⟩ (by repeat (first | exact Sub.nil rfl | exact Sub.marked rfl | refine Sub.cons rfl ?_)) (by repeat (first | exact List.Sublist.refl _ | exact List.Sublist.slnil | exact List.nil_sublist _ | exact List.sublist_append_left _ _ | refine List.Sublist.cons_cons _ ?_ | refine List.Sublist.append (List.Sublist.refl _) ?_ | refine List.Sublist.cons _ ?_))
    · by_cases hi0 : 0 < i
      · have hic : ¬ i < cs.length := fun h => hk ⟨hi0, h⟩
        cases dc
        all_goals simp only [decide_eq_true_eq, decide_eq_false_iff_not] at hdc
        all_goals
          refine JD ?_
          (repeat (first | refine Jz ?_ | intro _))
          exact q_cut ⟨rfl, rfl, rfl⟩ (by repeat (first | exact Sub.nil rfl | exact Sub.marked rfl | refine Sub.cons rfl ?_)) (by repeat (first | exact List.Sublist.refl _ | exact List.Sublist.slnil | exact List.nil_sublist _ | exact List.sublist_append_left _ _ | refine List.Sublist.cons_cons _ ?_ | refine List.Sublist.append (List.Sublist.refl _) ?_ | refine List.Sublist.cons _ ?_))
      · cases dc
        all_goals simp only [decide_eq_true_eq, decide_eq_false_iff_not] at hdc
        all_goals
          refine JD ?_
          (repeat (first | refine Jz ?_ | intro _))
          exact q_cut ⟨rfl, rfl, rfl⟩ (by repeat (first | exact Sub.nil rfl | exact Sub.marked rfl | refine Sub.cons rfl ?_)) (by repeat (first | exact List.Sublist.refl _ | exact List.Sublist.slnil | exact List.nil_sublist _ | exact List.sublist_append_left _ _ | refine List.Sublist.cons_cons _ ?_ | refine List.Sublist.append (List.Sublist.refl _) ?_ | refine List.Sublist.cons _ ?_))
  rintro S2 L2 F2 ⟨rfl, rfl, rfl⟩
  (repeat (first | refine Jz ?_ | intro _))
  exact q_back (m' := (made xs).length - (i + 1)) ⟨hle.trans hle1, rfl, i + 1, rfl, by omega, rfl⟩ (by omega) (by repeat (first | exact Sub.nil rfl | exact Sub.marked rfl | refine Sub.cons rfl ?_)) (by repeat (first | exact List.Sublist.refl _ | exact List.Sublist.slnil | exact List.nil_sublist _ | exact List.sublist_append_left _ _ | refine List.Sublist.cons_cons _ ?_ | refine List.Sublist.append (List.Sublist.refl _) ?_ | refine List.Sublist.cons _ ?_))
end Go.Proofs.Ytmonkjbhoabhhaa
namespace Go.Proofs.Ytmonkjbhoabhhaa
open Go Go.X
set_option maxRecDepth 10000
set_option linter.unusedVariables false
attribute [local irreducible] Code.wpIn wpListIn Exit.then Exit.inBlock X.Out X.Back X.W X.Ev X.Con X.BinV X.Wh X.Wn X.Wq
theorem has_int {ds : List Dep} {ls : List Tri} {wr x : Int} (h : x ∈ cands ds ls wr) (t : Int) : (actives ds t).contains x = onAt ds t x.toNat := by
  have h0 := ((cands_mem ds ls wr x).1 h).1
  obtain ⟨n, rfl⟩ := Int.eq_ofNat_of_zero_le h0
  exact actives_has ds t n
theorem f5_law (xs : List T3) (A : Option Addr) (c : Nat) (cu : Int) (ys : List T2) (B : Option Addr) (e : Nat) (at_ : Int) (bd : Bool) (S : SH) (hA : At S A xs) (hl : xs.length ≤ c) (hx : ∀ x ∈ xs, i64 x.a ∧ i64 x.b ∧ i64 x.c) (hcu : i64 cu) (hB : At S B ys) (hl2 : ys.length ≤ e) (hy : ∀ x ∈ ys, i64 x.a ∧ i64 x.b) (hat : i64 at_) :
    Con Try.prog 5 #[.slice A xs.length c, .int .i64 cu, .slice B ys.length e, .int .i64 at_, .bool bd] S [] (fun _ _ v => v = .bool true) := by
  refine con_of (args := [.slice A xs.length c, .int .i64 cu, .slice B ys.length e, .int .i64 at_, .bool bd]) Try.func5 rfl Try.ntmps5 rfl fun w => ?_
  have hS : Sr S (.slice A xs.length c) xs := ⟨A, c, rfl, hl, hA⟩
  have hS2 : Sr S (.slice B ys.length e) ys := ⟨B, e, rfl, hl2, hB⟩
  have hv := made_valid xs
  have hn := made_len xs
  by_cases h0 : (made xs).length = 0
  · (repeat (first | refine Jc ?_ | (apply z_call; rfl; rfl; rfl; exact sane_con _; rintro S1 _ v hle1 ⟨rfl, rfl⟩) | (apply z_call; rfl; rfl; rfl; exact made_v hx (hS.le (by repeat (first | exact Le.refl _ | assumption | refine Le.trans ?_ (by assumption)))); rintro S2 _ v2 hle2 ⟨rfl, D, cD, rfl, hcD, hD⟩) | refine Jo ?_ | intro _))
    exact o_ret (L' := []) Try.results5 rfl (by repeat (first | exact List.Sublist.refl _ | exact List.Sublist.slnil | exact List.nil_sublist _ | exact List.sublist_append_left _ _ | refine List.Sublist.cons_cons _ ?_ | refine List.Sublist.append (List.Sublist.refl _) ?_ | refine List.Sublist.cons _ ?_)) rfl
  (repeat (first | refine Jc ?_ | (apply z_call; rfl; rfl; rfl; exact sane_con _; rintro S1 _ v hle1 ⟨rfl, rfl⟩) | (apply z_call; rfl; rfl; rfl; exact made_v hx (hS.le (by repeat (first | exact Le.refl _ | assumption | refine Le.trans ?_ (by assumption)))); rintro S2 _ v2 hle2 ⟨rfl, D, cD, rfl, hcD, hD⟩) | refine Jo ?_ | intro _))
  obtain ⟨kc, hkc, hkc2⟩ := pick_nat cu (made xs).length (by omega)
  obtain ⟨d, hd⟩ := at_lt hkc2
  have hr2 : Sr S2 (.slice D (made xs).length cD) (made xs) := ⟨D, cD, rfl, hcD, hD⟩
  (repeat (first | refine Jc ?_ | (apply z_call; rfl; rfl; rfl; exact pick_c hkc hcu (by omega); rintro _ _ _ - ⟨rfl, rfl, rfl⟩) | (apply z_call; rfl; rfl; rfl; exact trials_v (wr := 0) hd hy (by omega) hr2 (hS2.le (by repeat (first | exact Le.refl _ | assumption | refine Le.trans ?_ (by assumption)))); rintro S3 _ v3 hle3 ⟨rfl, E, cE, rfl, hcE, hE⟩) | refine Jo ?_ | intro _))
  have hvl := trials_valid xs d ys 0
  have hll := trials_len d ys 0
  generalize hls : trials d ys 0 = ls at *
  have hr3 : Sr S3 (.slice E ls.length cE) ls := ⟨E, cE, rfl, hcE, hE⟩
  have hca := cands_len' (made xs) ls 0
  have hall := fun s (hs : 0 ≤ s) => next_all hvl 0 (s := s) hs
  have hnx := next_spec hvl 0
  have hadd := fun t => cands_add (made xs) ls t bd
  have hcard := fun t => inPart_filter (made xs) (cands (made xs) ls 0) t bd
  have hhas := fun x (h : x ∈ cands (made xs) ls 0) t => has_int h t
  generalize hnn : nextB (made xs) ls 0 = nx at *
  (repeat (first | refine Jc ?_ | (apply z_call; rfl; rfl; rfl; exact cands_ok (ls := ls) (wr := 0) (hr2.le (by repeat (first | exact Le.refl _ | assumption | refine Le.trans ?_ (by assumption)))) (hr3.le (by repeat (first | exact Le.refl _ | assumption | refine Le.trans ?_ (by assumption)))) hvl (by omega); rintro S4 _ v4 hle4 ⟨rfl, _, rfl, h4⟩) | (apply z_call; rfl; rfl; rfl; exact next_ok hnn (hr2.le (by repeat (first | exact Le.refl _ | assumption | refine Le.trans ?_ (by assumption)))) (hr3.le (by repeat (first | exact Le.refl _ | assumption | refine Le.trans ?_ (by assumption)))) hvl (by omega); rintro S5 _ v5 hle5 ⟨rfl, _, rfl, rfl⟩) | refine Jo ?_ | intro _))
  generalize hcs : cands (made xs) ls 0 = cs at *
  obtain ⟨C, cC, rfl, hcC, hC⟩ := h4
  have hin := fun t => inPart_le (made xs) cs t
  have hnb : -1 ≤ nx ∧ nx ≤ 1000000 := by rcases hnx with ⟨h, _⟩ | ⟨h1, h2, _⟩ <;> omega
  generalize hp1 : pick at_ 40 = p1
  generalize hp2 : pick at_ 1000001 = p2
  have q1 := pick_lt at_ 40 (by decide)
  have q2 := pick_lt at_ 1000001 (by decide)
  rw [hp1] at q1
  rw [hp2] at q2
  (repeat (first | refine Jc ?_ | (apply z_call; rfl; rfl; rfl; exact pick_c hp1 hat (by decide); rintro _ _ _ - ⟨rfl, rfl, rfl⟩) | (apply z_call; rfl; rfl; rfl; exact pick_c hp2 hat (by decide); rintro _ _ _ - ⟨rfl, rfl, rfl⟩) | (apply s_buildSlice; (case hg => rfl); (case hd => rfl); (case hp => rfl); (case hq => rfl); (case hm => rfl); (case hv => rfl); (case hl => rfl); intro b4; refine W.freeze fun S6 hle6 hb6 => ?_) | refine Jo ?_ | intro _))
  have hT : At S6 (some ⟨b4, 0, none⟩) [p1, p2] := fun _ => ⟨_, rfl, pts_block hb6 rfl⟩
  refine c_loop (fun m S' L F => Le S6 S' ∧ L = [] ∧ ∃ k : Nat, m = 2 - k ∧ k ≤ 2 ∧
      F = [(4, .bool bd), (11, .bool true), (12, .slice D (made xs).length cD), (14, .slice E ls.length cE), (15, .slice C cs.length cC), (17, .int .i64 nx), (82, .slice (some ⟨b4, 0, none⟩) 2 2), (83, .int .i64 (2 : Nat)), (84, .int .i64 k)]) ⟨Le.refl _, rfl, 0, rfl, by omega, rfl⟩ (by repeat (first | exact Sub.nil rfl | exact Sub.marked rfl | refine Sub.cons rfl ?_)) (by repeat (first | exact List.Sublist.refl _ | exact List.Sublist.slnil | exact List.nil_sublist _ | exact List.sublist_append_left _ _ | refine List.Sublist.cons_cons _ ?_ | refine List.Sublist.append (List.Sublist.refl _) ?_ | refine List.Sublist.cons _ ?_)) ?_
  rintro m S' L F ⟨hle, rfl, k, rfl, hk, rfl⟩
  by_cases hlt : k < 2
  rotate_left
  · (repeat (first | refine Jz ?_ | intro _))
    exact o_ret (L' := []) Try.results5 rfl (by repeat (first | exact List.Sublist.refl _ | exact List.Sublist.slnil | exact List.nil_sublist _ | exact List.sublist_append_left _ _ | refine List.Sublist.cons_cons _ ?_ | refine List.Sublist.append (List.Sublist.refl _) ?_ | refine List.Sublist.cons _ ?_)) rfl
  obtain ⟨s, hs⟩ := at_lt (show k < [p1, p2].length from hlt)
  have hs0 : 0 ≤ s ∧ s ≤ 1000000 := by
    have := List.mem_of_getElem? hs
    simp at this
    omega
  have hT' : At S' _ [p1, p2] := hT.le hle
  (repeat (first | refine Jc ?_ | (apply s_idx hT'; (case hg => rfl); (case hd => rfl); (case hx => rfl); (case hi => rfl); (case hm => rfl); (case hu => exact hs); intro p (hp : Pts _ p [_])) | (apply s_load1; (case hg => rfl); (case hd => rfl); (case hx => rfl); (case hv => exact hp)) | (apply z_call; rfl; rfl; rfl; exact active_ok (t := s) (hr2.le (by repeat (first | exact Le.refl _ | assumption | refine Le.trans ?_ (by assumption)))) hv hs0; rintro S7 _ v7 hle7 ⟨rfl, va, rfl, h7⟩) | refine Jo ?_ | intro _))
  have hC7 : At S7 C cs := hC.le (by repeat (first | exact Le.refl _ | assumption | refine Le.trans ?_ (by assumption)))
  have hla := actives_len (made xs) s
  have hlb := actives_len (made xs) nx
  refine c_meetB (fun S1 L1 F1 => S1 = S7 ∧ L1 = [] ∧ F1 = [(4, .bool bd), (11, .bool true), (12, .slice D (made xs).length cD), (14, .slice E ls.length cE), (15, .slice C cs.length cC), (17, .int .i64 nx), (82, .slice (some ⟨b4, 0, none⟩) 2 2), (83, .int .i64 (2 : Nat)), (84, .int .i64 k), (23, .int .i64 (inPart (made xs) cs s))]) ?_ ?_
  · refine c_loop (fun m S1 L1 F1 => S1 = S7 ∧ L1 = [] ∧ ∃ (i : Nat) (q : Int), m = cs.length - i ∧ i ≤ cs.length ∧ q = inPart (made xs) (cs.take i) s ∧ F1 = [(4, .bool bd), (11, .bool true), (12, .slice D (made xs).length cD), (14, .slice E ls.length cE), (15, .slice C cs.length cC), (17, .int .i64 nx), (82, .slice (some ⟨b4, 0, none⟩) 2 2), (83, .int .i64 (2 : Nat)), (84, .int .i64 k), (21, va), (23, .int .i64 q), (24, .int .i64 i)]) ⟨rfl, rfl, 0, 0, rfl, by omega, by simp [inPart], rfl⟩ (by repeat (first | exact Sub.nil rfl | exact Sub.marked rfl | refine Sub.cons rfl ?_)) (by repeat (first | exact List.Sublist.refl _ | exact List.Sublist.slnil | exact List.nil_sublist _ | exact List.sublist_append_left _ _ | refine List.Sublist.cons_cons _ ?_ | refine List.Sublist.append (List.Sublist.refl _) ?_ | refine List.Sublist.cons _ ?_)) ?_
    rintro m S1 L1 F1 ⟨rfl, rfl, i, q, rfl, hi, hq, rfl⟩
    by_cases hil : i < cs.length
    rotate_left
    · obtain rfl : i = cs.length := by omega
      rw [List.take_of_length_le (Nat.le_refl _)] at hq
      subst hq
      (repeat (first | refine Jz ?_ | intro _))
      exact q_cut ⟨rfl, rfl, rfl⟩ (by repeat (first | exact Sub.nil rfl | exact Sub.marked rfl | refine Sub.cons rfl ?_)) (by repeat (first | exact List.Sublist.refl _ | exact List.Sublist.slnil | exact List.nil_sublist _ | exact List.sublist_append_left _ _ | refine List.Sublist.cons_cons _ ?_ | refine List.Sublist.append (List.Sublist.refl _) ?_ | refine List.Sublist.cons _ ?_))
    obtain ⟨x, hx1⟩ := at_lt hil
    have hsn := inPart_snoc (made xs) (cs.take i) s x
    rw [← take_at hx1, ← hq] at hsn
    have hxh := hhas x (List.mem_of_getElem? hx1) s
    have hqb := inPart_le (made xs) (cs.take i) s
    have htk : (cs.take i).length ≤ 20 := by simp; omega
    cases hon : onAt (made xs) s x.toNat
    all_goals rw [hon] at hxh hsn
    all_goals (repeat (first | refine Jc ?_ | (apply s_idx hC7; (case hg => rfl); (case hd => rfl); (case hx => rfl); (case hi => rfl); (case hm => rfl); (case hu => exact hx1); intro p (hp : Pts _ p [_])) | (apply s_load1; (case hg => rfl); (case hd => rfl); (case hx => rfl); (case hv => exact hp)) | (apply z_call; rfl; rfl; rfl; exact has_v hxh h7 (by omega); rintro _ _ _ - ⟨rfl, rfl, rfl⟩) | refine Jo ?_ | intro _))
    all_goals simp at hsn
    all_goals exact q_back (m' := cs.length - (i + 1)) ⟨rfl, rfl, i + 1, _, rfl, by omega, (by first | exact hsn.symm | omega), rfl⟩ (by omega) (by repeat (first | exact Sub.nil rfl | exact Sub.marked rfl | refine Sub.cons rfl ?_)) (by repeat (first | exact List.Sublist.refl _ | exact List.Sublist.slnil | exact List.nil_sublist _ | exact List.sublist_append_left _ _ | refine List.Sublist.cons_cons _ ?_ | refine List.Sublist.append (List.Sublist.refl _) ?_ | refine List.Sublist.cons _ ?_))
  rintro S1 L1 F1 ⟨rfl, rfl, rfl⟩
  have hsp := hall s hs0.1
  have hins := hin s
  simp only [splitB, worst] at hsp hnx
  generalize hns : inPart (made xs) cs s = n1 at *
  rcases hnx with ⟨hneg, _⟩ | ⟨hnx0, hnx1, _, hsplit, _⟩
  · have hno := hsp.1 (by omega)
    simp at hno
    by_cases hq0 : 0 < n1
    all_goals (repeat (first | refine Jz ?_ | intro _))
    all_goals exact q_back (m' := 2 - (k + 1)) ⟨hle.trans hle7, rfl, k + 1, rfl, by omega, rfl⟩ (by omega) (by repeat (first | exact Sub.nil rfl | exact Sub.marked rfl | refine Sub.cons rfl ?_)) (by repeat (first | exact List.Sublist.refl _ | exact List.Sublist.slnil | exact List.nil_sublist _ | exact List.sublist_append_left _ _ | refine List.Sublist.cons_cons _ ?_ | refine List.Sublist.append (List.Sublist.refl _) ?_ | refine List.Sublist.cons _ ?_))
  have hbest := hsp.2 hnx0
  simp at hsplit hbest
  have hinx := hin nx
  generalize hms : inPart (made xs) cs nx = m1 at *
  (repeat (first | refine Jc ?_ | (apply z_call; rfl; rfl; rfl; exact active_ok (t := nx) (hr2.le (by repeat (first | exact Le.refl _ | assumption | refine Le.trans ?_ (by assumption)))) hv ⟨hnx0, hnx1⟩; rintro S8 _ v8 hle8 ⟨rfl, vb, rfl, h8⟩) | refine Jo ?_ | intro _))
  have hC8 : At S8 C cs := hC.le (by repeat (first | exact Le.refl _ | assumption | refine Le.trans ?_ (by assumption)))
  refine c_meetB (fun S2 L2 F2 => S2 = S8 ∧ L2 = [] ∧ F2 = [(4, .bool bd), (11, .bool true), (12, .slice D (made xs).length cD), (14, .slice E ls.length cE), (15, .slice C cs.length cC), (17, .int .i64 nx), (82, .slice (some ⟨b4, 0, none⟩) 2 2), (83, .int .i64 (2 : Nat)), (84, .int .i64 k), (23, .int .i64 n1), (26, vb), (27, .int .i64 0), (28, .int .i64 m1)]) ?_ ?_
  · refine c_loop (fun m S2 L2 F2 => S2 = S8 ∧ L2 = [] ∧ ∃ (i : Nat) (q : Int), m = cs.length - i ∧ i ≤ cs.length ∧ q = inPart (made xs) (cs.take i) nx ∧ F2 = [(4, .bool bd), (11, .bool true), (12, .slice D (made xs).length cD), (14, .slice E ls.length cE), (15, .slice C cs.length cC), (17, .int .i64 nx), (82, .slice (some ⟨b4, 0, none⟩) 2 2), (83, .int .i64 (2 : Nat)), (84, .int .i64 k), (23, .int .i64 n1), (26, vb), (27, .int .i64 0), (28, .int .i64 q), (29, .int .i64 i)]) ⟨rfl, rfl, 0, 0, rfl, by omega, by simp [inPart], rfl⟩ (by repeat (first | exact Sub.nil rfl | exact Sub.marked rfl | refine Sub.cons rfl ?_)) (by repeat (first | exact List.Sublist.refl _ | exact List.Sublist.slnil | exact List.nil_sublist _ | exact List.sublist_append_left _ _ | refine List.Sublist.cons_cons _ ?_ | refine List.Sublist.append (List.Sublist.refl _) ?_ | refine List.Sublist.cons _ ?_)) ?_
    rintro m S2 L2 F2 ⟨rfl, rfl, i, q, rfl, hi, hq, rfl⟩
    by_cases hil : i < cs.length
    rotate_left
    · obtain rfl : i = cs.length := by omega
      rw [List.take_of_length_le (Nat.le_refl _), hms] at hq
      subst hq
      (repeat (first | refine Jz ?_ | intro _))
      exact q_cut ⟨rfl, rfl, rfl⟩ (by repeat (first | exact Sub.nil rfl | exact Sub.marked rfl | refine Sub.cons rfl ?_)) (by repeat (first | exact List.Sublist.refl _ | exact List.Sublist.slnil | exact List.nil_sublist _ | exact List.sublist_append_left _ _ | refine List.Sublist.cons_cons _ ?_ | refine List.Sublist.append (List.Sublist.refl _) ?_ | refine List.Sublist.cons _ ?_))
    obtain ⟨x, hx1⟩ := at_lt hil
    have hsn := inPart_snoc (made xs) (cs.take i) nx x
    rw [← take_at hx1, ← hq] at hsn
    have hxh := hhas x (List.mem_of_getElem? hx1) nx
    have hqb := inPart_le (made xs) (cs.take i) nx
    have htk : (cs.take i).length ≤ 20 := by simp; omega
    cases hon : onAt (made xs) nx x.toNat
    all_goals rw [hon] at hxh hsn
    all_goals (repeat (first | refine Jc ?_ | (apply s_idx hC8; (case hg => rfl); (case hd => rfl); (case hx => rfl); (case hi => rfl); (case hm => rfl); (case hu => exact hx1); intro p (hp : Pts _ p [_])) | (apply s_load1; (case hg => rfl); (case hd => rfl); (case hx => rfl); (case hv => exact hp)) | (apply z_call; rfl; rfl; rfl; exact has_v hxh h8 (by omega); rintro _ _ _ - ⟨rfl, rfl, rfl⟩) | refine Jo ?_ | intro _))
    all_goals simp at hsn
    all_goals exact q_back (m' := cs.length - (i + 1)) ⟨rfl, rfl, i + 1, _, rfl, by omega, (by first | exact hsn.symm | omega), rfl⟩ (by omega) (by repeat (first | exact Sub.nil rfl | exact Sub.marked rfl | refine Sub.cons rfl ?_)) (by repeat (first | exact List.Sublist.refl _ | exact List.Sublist.slnil | exact List.nil_sublist _ | exact List.sublist_append_left _ _ | refine List.Sublist.cons_cons _ ?_ | refine List.Sublist.append (List.Sublist.refl _) ?_ | refine List.Sublist.cons _ ?_))
  rintro S2 L2 F2 ⟨rfl, rfl, rfl⟩
  have hcard' := hcard nx
  rw [hms] at hcard'
  have hva := validB_add hvl ⟨hnx0, hnx1⟩ bd (by omega)
  have haft := hadd nx
  have hE8 : At S2 E ls := hE.le (by repeat (first | exact Le.refl _ | assumption | refine Le.trans ?_ (by assumption)))
  have hall2 : ∀ x ∈ cs.filter (fun i => onAt (made xs) nx i.toNat == bd), x ∈ cs ∧ onAt (made xs) nx x.toNat = bd := fun x h => by simpa using h
  generalize hfl : cs.filter (fun i => onAt (made xs) nx i.toNat == bd) = fl at *
  have hflc : fl.length ≤ cs.length := by rw [← hfl]; exact List.length_filter_le _ _
  repeat refine c_seq ?_
  refine c_meet (fun S3 L3 F3 => S3 = S2 ∧ L3 = [] ∧ F3 = [(182, .bool false), (4, .bool bd), (11, .bool true), (12, .slice D (made xs).length cD), (14, .slice E ls.length cE), (15, .slice C cs.length cC), (17, .int .i64 nx), (82, .slice (some ⟨b4, 0, none⟩) 2 2), (83, .int .i64 (2 : Nat)), (84, .int .i64 k), (23, .int .i64 n1), (26, vb), (28, .int .i64 m1)]) ?_ ?_
  · by_cases hq0 : 0 < n1
    · by_cases hq1 : n1 < cs.length
      · (repeat (first | refine Jz ?_ | intro _))
        exact q_cut ⟨rfl, rfl, rfl⟩ (by repeat (first | exact Sub.nil rfl | exact Sub.marked rfl | refine Sub.cons rfl ?_)) (by repeat (first | exact List.Sublist.refl _ | exact List.Sublist.slnil | exact List.nil_sublist _ | exact List.sublist_append_left _ _ | refine List.Sublist.cons_cons _ ?_ | refine List.Sublist.append (List.Sublist.refl _) ?_ | refine List.Sublist.cons _ ?_))
      · (repeat (first | refine Jz ?_ | intro _))
        exact q_cut ⟨rfl, rfl, rfl⟩ (by repeat (first | exact Sub.nil rfl | exact Sub.marked rfl | refine Sub.cons rfl ?_)) (by repeat (first | exact List.Sublist.refl _ | exact List.Sublist.slnil | exact List.nil_sublist _ | exact List.sublist_append_left _ _ | refine List.Sublist.cons_cons _ ?_ | refine List.Sublist.append (List.Sublist.refl _) ?_ | refine List.Sublist.cons _ ?_))
    · (repeat (first | refine Jz ?_ | intro _))
      exact q_cut ⟨rfl, rfl, rfl⟩ (by repeat (first | exact Sub.nil rfl | exact Sub.marked rfl | refine Sub.cons rfl ?_)) (by repeat (first | exact List.Sublist.refl _ | exact List.Sublist.slnil | exact List.nil_sublist _ | exact List.sublist_append_left _ _ | refine List.Sublist.cons_cons _ ?_ | refine List.Sublist.append (List.Sublist.refl _) ?_ | refine List.Sublist.cons _ ?_))
  rintro S4 L4 F4 ⟨rfl, rfl, rfl⟩
  (repeat (first | refine Jz ?_ | intro _))
  rename_i b0
  have ho0 := Ows.full (α := Tri) (e := 49) (g := b0) (cs := []) (l := []) rfl (by decide)
  (repeat (first | refine Jc ?_ | (apply s_append_st (ms := ls) hE8; (case hg => rfl); (case hd => rfl); (case hx => rfl); (case ho => exact ho0); (case hL => (repeat (first | exact pm_nil _ | exact pm_refl _ _ | exact pm_self _ | apply pm_cons | apply pm_app))); (case hy => rfl); (case hm => first | rfl | simp); (case hzs => rfl); (case h0 => decide); (case hb => first | (simp; omega) | simp); (case h63 => first | (simp; omega) | simp); intro v1' ob1 ho1) | (apply s_append (ms := [(⟨nx, bd⟩ : Tri)]); (case hg => rfl); (case hd => rfl); (case hx => rfl); (case ho => exact ho1); (case hL => (repeat (first | exact pm_nil _ | exact pm_refl _ _ | exact pm_self _ | apply pm_cons | apply pm_app))); (case hy => rfl); (case hm => rfl); (case hs => (apply Src.own; (repeat (first | exact List.Mem.head _ | apply List.Mem.tail | apply List.mem_append_right)))); (case hzs => rfl); (case h0 => decide); (case hb => (simp; omega)); (case h63 => (simp; omega)); intro v2' ob2 ho2; refine W.freezeOws ho2 (by repeat (first | exact pm_nil _ | exact pm_refl _ _ | exact pm_self _ | refine pm_cons ?_ | refine pm_app ?_)) fun S9 hle9 hr9 => ?_) | (apply z_call; rfl; rfl; rfl; exact cands_ok (ls := ls ++ [⟨nx, bd⟩]) (wr := 0) (hr2.le (by repeat (first | exact Le.refl _ | assumption | refine Le.trans ?_ (by assumption)))) hr9 hva (by omega); rintro S10 _ v10 hle10 ⟨rfl, u10, rfl, h10⟩) | refine Jo ?_ | intro _))
  rw [haft] at h10
  obtain ⟨G, cG, rfl, hcG, hG⟩ := h10
  refine c_meet (fun S3 L3 F3 => S3 = S10 ∧ L3 = [] ∧ F3 = [(33, .int .i64 fl.length), (31, .slice G fl.length cG), (32, .int .i64 0), (4, .bool bd), (11, .bool true), (12, .slice D (made xs).length cD), (14, .slice E ls.length cE), (15, .slice C cs.length cC), (17, .int .i64 nx), (82, .slice (some ⟨b4, 0, none⟩) 2 2), (83, .int .i64 (2 : Nat)), (84, .int .i64 k), (26, vb)]) ?_ ?_
  · cases bd
    · simp at hcard'
      rw [hcard']
      (repeat (first | refine Jz ?_ | intro _))
      exact q_cut ⟨rfl, rfl, rfl⟩ (by repeat (first | exact Sub.nil rfl | exact Sub.marked rfl | refine Sub.cons rfl ?_)) (by repeat (first | exact List.Sublist.refl _ | exact List.Sublist.slnil | exact List.nil_sublist _ | exact List.sublist_append_left _ _ | refine List.Sublist.cons_cons _ ?_ | refine List.Sublist.append (List.Sublist.refl _) ?_ | refine List.Sublist.cons _ ?_))
    · simp at hcard'
      rw [hcard']
      (repeat (first | refine Jz ?_ | intro _))
      exact q_cut ⟨rfl, rfl, rfl⟩ (by repeat (first | exact Sub.nil rfl | exact Sub.marked rfl | refine Sub.cons rfl ?_)) (by repeat (first | exact List.Sublist.refl _ | exact List.Sublist.slnil | exact List.nil_sublist _ | exact List.sublist_append_left _ _ | refine List.Sublist.cons_cons _ ?_ | refine List.Sublist.append (List.Sublist.refl _) ?_ | refine List.Sublist.cons _ ?_))
  rintro S11 L11 F11 ⟨rfl, rfl, rfl⟩
  (repeat (first | refine Jz ?_ | intro _))
  refine c_loop (fun m S2 L2 F2 => S2 = S11 ∧ L2 = [] ∧ ∃ (i : Nat), m = fl.length - i ∧ i ≤ fl.length ∧ F2 = [(31, .slice G fl.length cG), (4, .bool bd), (11, .bool true), (12, .slice D (made xs).length cD), (14, .slice E ls.length cE), (15, .slice C cs.length cC), (17, .int .i64 nx), (82, .slice (some ⟨b4, 0, none⟩) 2 2), (83, .int .i64 (2 : Nat)), (84, .int .i64 k), (26, vb), (34, .int .i64 i)]) ⟨rfl, rfl, 0, rfl, by omega, rfl⟩ (by repeat (first | exact Sub.nil rfl | exact Sub.marked rfl | refine Sub.cons rfl ?_)) (by repeat (first | exact List.Sublist.refl _ | exact List.Sublist.slnil | exact List.nil_sublist _ | exact List.sublist_append_left _ _ | refine List.Sublist.cons_cons _ ?_ | refine List.Sublist.append (List.Sublist.refl _) ?_ | refine List.Sublist.cons _ ?_)) ?_
  rintro m S2 L2 F2 ⟨rfl, rfl, i, rfl, hi, rfl⟩
  by_cases hil : i < fl.length
  rotate_left
  · (repeat (first | refine Jz ?_ | intro _))
    refine q_back (m' := 2 - (k + 1)) ⟨(by repeat (first | exact Le.refl _ | assumption | refine Le.trans ?_ (by assumption))), rfl, k + 1, rfl, by omega, rfl⟩ (by omega) (by repeat (first | exact Sub.nil rfl | exact Sub.marked rfl | refine Sub.cons rfl ?_)) (by repeat (first | exact List.Sublist.refl _ | exact List.Sublist.slnil | exact List.nil_sublist _ | exact List.sublist_append_left _ _ | refine List.Sublist.cons_cons _ ?_ | refine List.Sublist.append (List.Sublist.refl _) ?_ | refine List.Sublist.cons _ ?_))
  obtain ⟨x, hx1⟩ := at_lt hil
  obtain ⟨hxc, hxb⟩ := hall2 x (List.mem_of_getElem? hx1)
  have hxh := hhas x hxc nx
  rw [hxb] at hxh
  have hcx : cs.contains x = true := by simpa using hxc
  have hqc : Sr S2 (.slice C cs.length cC) cs := ⟨C, cC, rfl, hcC, hC.le (by repeat (first | exact Le.refl _ | assumption | refine Le.trans ?_ (by assumption)))⟩
  have h8' : Sr S2 vb (actives (made xs) nx) := h8.le (by repeat (first | exact Le.refl _ | assumption | refine Le.trans ?_ (by assumption)))
  cases bd
  all_goals
    (repeat (first | refine Jc ?_ | (apply s_idx hG; (case hg => rfl); (case hd => rfl); (case hx => rfl); (case hi => rfl); (case hm => rfl); (case hu => exact hx1); intro p (hp : Pts _ p [_])) | (apply s_load1; (case hg => rfl); (case hd => rfl); (case hx => rfl); (case hv => exact hp)) | (apply z_call; rfl; rfl; rfl; exact has_v hxh h8' (by omega); rintro _ _ _ - ⟨rfl, rfl, rfl⟩) | (apply z_call; rfl; rfl; rfl; exact has_v hcx hqc (by omega); rintro _ _ _ - ⟨rfl, rfl, rfl⟩) | refine Jo ?_ | intro _))
    exact q_back (m' := fl.length - (i + 1)) ⟨rfl, rfl, i + 1, rfl, by omega, rfl⟩ (by omega) (by repeat (first | exact Sub.nil rfl | exact Sub.marked rfl | refine Sub.cons rfl ?_)) (by repeat (first | exact List.Sublist.refl _ | exact List.Sublist.slnil | exact List.nil_sublist _ | exact List.sublist_append_left _ _ | refine List.Sublist.cons_cons _ ?_ | refine List.Sublist.append (List.Sublist.refl _) ?_ | refine List.Sublist.cons _ ?_))
end Go.Proofs.Ytmonkjbhoabhhaa
namespace Go.Proofs.Ytmonkjbhoabhhaa
open Go Go.X
set_option maxRecDepth 10000
set_option linter.unusedVariables false
attribute [local irreducible] Code.wpIn wpListIn Exit.then Exit.inBlock X.Out X.Back X.W X.Ev X.Con X.BinV X.Wh X.Wn X.Wq
def ownC (l : List (Int × Int)) (w : Int × Int) : Nat := (l.filter fun x => decide (x = w)).length
theorem ownC_one (w : Int × Int) : ∀ (l : List (Int × Int)), l.Nodup → w ∈ l → ownC l w = 1
  | [], _, h => by cases h
  | x :: l, hn, h => by
    obtain ⟨h1, h2⟩ := List.nodup_cons.1 hn
    by_cases e : x = w
    · subst e
      have : (l.filter fun y => decide (y = x)) = [] := List.filter_eq_nil_iff.2 fun y hy => by
        simp only [decide_eq_true_eq]; exact fun e => h1 (e ▸ hy)
      simp [ownC, this]
    · have hw : w ∈ l := by rcases List.mem_cons.1 h with h | h; exact absurd h.symm e; exact h
      have := ownC_one w l h2 hw
      simp only [ownC, List.filter_cons] at this ⊢
      simpa [e] using this
theorem ownC_snoc (l : List (Int × Int)) (x w : Int × Int) : ownC (l ++ [x]) w = ownC l w + if x = w then 1 else 0 := by
  simp only [ownC, List.filter_append, List.length_append]
  by_cases h : x = w <;> simp [h]
theorem ownC_le (l : List (Int × Int)) (w : Int × Int) : ownC l w ≤ l.length := List.length_filter_le _ _
def sumC (l : Cls) : Nat := (l.map (·.2.length)).sum
theorem sumC_snoc (l : Cls) (p : (Int × Int) × List Int) : sumC (l ++ [p]) = sumC l + p.2.length := by simp [sumC]
theorem sumC_take (l : Cls) (i : Nat) : sumC (l.take i) ≤ sumC l := by
  have h : sumC l = sumC (l.take i) + sumC (l.drop i) := by
    rw [sumC, sumC, sumC, ← List.sum_append, ← List.map_append, List.take_append_drop]
  omega
theorem f6_law (xs : List T3) (A : Option Addr) (c : Nat) (cu : Int) (S : SH) (hA : At S A xs) (hl : xs.length ≤ c) (hx : ∀ x ∈ xs, i64 x.a ∧ i64 x.b ∧ i64 x.c) (hcu : i64 cu) :
    Con Try.prog 6 #[.slice A xs.length c, .int .i64 cu] S [] (fun _ _ v => v = .bool true) := by
  refine con_of (args := [.slice A xs.length c, .int .i64 cu]) Try.func6 rfl Try.ntmps6 rfl fun w => ?_
  have hS : Sr S (.slice A xs.length c) xs := ⟨A, c, rfl, hl, hA⟩
  have hv := made_valid xs
  have hn := made_len xs
  by_cases h0 : (made xs).length = 0
  · (repeat (first | refine Jc ?_ | (apply z_call; rfl; rfl; rfl; exact sane_con _; rintro S1 _ v hle1 ⟨rfl, rfl⟩) | (apply z_call; rfl; rfl; rfl; exact made_v hx (hS.le (by repeat (first | exact Le.refl _ | assumption | refine Le.trans ?_ (by assumption)))); rintro S2 _ v2 hle2 ⟨rfl, D, cD, rfl, hcD, hD⟩) | refine Jo ?_ | intro _))
    exact o_ret (L' := []) Try.results6 rfl (by repeat (first | exact List.Sublist.refl _ | exact List.Sublist.slnil | exact List.nil_sublist _ | exact List.sublist_append_left _ _ | refine List.Sublist.cons_cons _ ?_ | refine List.Sublist.append (List.Sublist.refl _) ?_ | refine List.Sublist.cons _ ?_)) rfl
  (repeat (first | refine Jc ?_ | (apply z_call; rfl; rfl; rfl; exact sane_con _; rintro S1 _ v hle1 ⟨rfl, rfl⟩) | (apply z_call; rfl; rfl; rfl; exact made_v hx (hS.le (by repeat (first | exact Le.refl _ | assumption | refine Le.trans ?_ (by assumption)))); rintro S2 _ v2 hle2 ⟨rfl, D, cD, rfl, hcD, hD⟩) | refine Jo ?_ | intro _))
  obtain ⟨kc, hkc, hkc2⟩ := pick_nat cu (made xs).length (by omega)
  obtain ⟨d, hd⟩ := at_lt hkc2
  have hr2 : Sr S2 (.slice D (made xs).length cD) (made xs) := ⟨D, cD, rfl, hcD, hD⟩
  have htl : (times (search (made xs) kc)).length < (made xs).length := by
    have h1 := (search_true (k := kc) hv).len
    have h2 := List.length_pos_of_mem (culprit_cand (search_true (k := kc) hv) hkc2)
    simp only [times, List.length_map]; omega
  (repeat (first | refine Jc ?_ | (apply z_call; rfl; rfl; rfl; exact pick_c hkc hcu (by omega); rintro _ _ _ - ⟨rfl, rfl, rfl⟩) | (apply z_call; rfl; rfl; rfl; exact search_ok (k := kc) (hr2.le (by repeat (first | exact Le.refl _ | assumption | refine Le.trans ?_ (by assumption)))) hv hkc2; rintro S3 _ v3 hle3 ⟨rfl, u3, u4, rfl, h3, h4⟩) | refine Jo ?_ | intro _))
  rw [found_class hv hd] at h4
  obtain ⟨E, cE, rfl, hcE, hE⟩ := h3
  (repeat (first | refine Jc ?_ | (apply z_call; rfl; rfl; rfl; exact classes_ok (hr2.le (by repeat (first | exact Le.refl _ | assumption | refine Le.trans ?_ (by assumption)))) hv; rintro S5 _ v5 hle5 ⟨rfl, u5, rfl, h5⟩) | refine Jo ?_ | intro _))
  obtain ⟨vs, ⟨B, e, rfl, _, hB⟩, hvl, hrw⟩ := h5
  have hvl' : vs.length = (clsF (made xs) (made xs).length).length := by simpa [classes] using hvl
  have hrow : ∀ (i : Nat) (s : SV) (p : (Int × Int) × List Int), vs[i]? = some s → (clsF (made xs) (made xs).length)[i]? = some p → Sr S5 s.v p.2 := fun i s p h1 h2 => hrw i s p.2 h1 (by simp [classes, h2])
  obtain ⟨hnd, hcl⟩ := clsF_nodup (made xs) (made xs).length (Nat.le_refl _)
  obtain ⟨hcls, hkey⟩ := cls_all (made xs) (made xs).length (Nat.le_refl _)
  have hsum : sumC (clsF (made xs) (made xs).length) = (made xs).length := sum_cls (made xs) _ (Nat.le_refl _)
  have hkw := hkey kc d hkc2 hd
  generalize clsF (made xs) (made xs).length = cl at *
  refine c_meetB (fun S1 L1 F1 => Le S5 S1 ∧ L1 = [] ∧ F1 = [(5, .bool true), (6, .slice D (made xs).length cD), (7, .int .i64 kc), (13, .int .i64 1), (14, .int .i64 (made xs).length)]) ?_ ?_
  · refine c_loop (fun m S1 L1 F1 => S1 = S5 ∧ L1 = [] ∧ ∃ (i o a : Nat), m = vs.length - i ∧ i ≤ vs.length ∧ o = ownC ((keysOf cl).take i) (whenOf d) ∧ a = sumC (cl.take i) ∧
      F1 = [(5, .bool true), (6, .slice D (made xs).length cD), (7, .int .i64 kc), (9, u4), (11, .slice B vs.length e), (13, .int .i64 o), (14, .int .i64 a), (15, .int .i64 i)]) ⟨rfl, rfl, 0, 0, 0, rfl, by omega, rfl, rfl, rfl⟩ (by repeat (first | exact Sub.nil rfl | exact Sub.marked rfl | refine Sub.cons rfl ?_)) (by repeat (first | exact List.Sublist.refl _ | exact List.Sublist.slnil | exact List.nil_sublist _ | exact List.sublist_append_left _ _ | refine List.Sublist.cons_cons _ ?_ | refine List.Sublist.append (List.Sublist.refl _) ?_ | refine List.Sublist.cons _ ?_)) ?_
    rintro m S1 L1 F1 ⟨rfl, rfl, i, o, a, rfl, hi, ho, ha, rfl⟩
    by_cases hil : i < vs.length
    rotate_left
    · obtain rfl : i = vs.length := by omega
      rw [List.take_of_length_le (by simp [keysOf]; omega), ownC_one _ _ hnd hkw] at ho
      rw [List.take_of_length_le (by omega), hsum] at ha
      subst ho ha
      (repeat (first | refine Jz ?_ | intro _))
      exact q_cut ⟨Le.refl _, rfl, rfl⟩ (by repeat (first | exact Sub.nil rfl | exact Sub.marked rfl | refine Sub.cons rfl ?_)) (by repeat (first | exact List.Sublist.refl _ | exact List.Sublist.slnil | exact List.nil_sublist _ | exact List.sublist_append_left _ _ | refine List.Sublist.cons_cons _ ?_ | refine List.Sublist.append (List.Sublist.refl _) ?_ | refine List.Sublist.cons _ ?_))
    obtain ⟨s, hs⟩ := at_lt hil
    obtain ⟨p, hp⟩ := at_lt (show i < cl.length by omega)
    have hsr := hrow i s p hs hp
    have hpr := hcls p (List.mem_of_getElem? hp)
    have hkp : (keysOf cl)[i]? = some p.1 := by simp [keysOf, hp]
    have ho1 := ownC_snoc ((keysOf cl).take i) p.1 (whenOf d)
    rw [← take_at hkp, ← ho] at ho1
    have ha1 := sumC_snoc (cl.take i) p
    rw [← take_at hp, ← ha] at ha1
    have ha2 := sumC_take cl (i + 1)
    have ha3 := ownC_le ((keysOf cl).take i) (whenOf d)
    have ha4 : ((keysOf cl).take i).length ≤ 20 := by simp [keysOf]; omega
    have hcon : p.2.contains (kc : Int) = decide (whenOf d = p.1) := by
      rw [hpr, idxs_contains]
      simp only [likeB, hd]
      simp [hkc2]
    have hpl : p.2.length ≤ 20 := by omega
    obtain ⟨P, cP, hsv, hcP, hP⟩ := hsr
    have hps : Sr S1 s.v p.2 := ⟨P, cP, hsv, hcP, hP⟩
    rw [hsv] at hps
    have hel : Cl.cells s = [.slice P p.2.length cP] := by rw [← hsv]; rfl
    by_cases hwd : whenOf d = p.1
    · rw [decide_eq_true hwd] at hcon
      rw [if_pos hwd.symm] at ho1
      rw [← hwd] at hpr
      (repeat (first | refine Jc ?_ | (apply s_idx hB; (case hg => rfl); (case hd => rfl); (case hx => rfl); (case hi => rfl); (case hm => rfl); (case hu => exact hs); intro q (hq : Pts _ q (Cl.cells s)); rw [hel] at hq) | (apply s_load1; (case hg => rfl); (case hd => rfl); (case hx => rfl); (case hv => exact hq)) | (apply z_call; rfl; rfl; rfl; exact has_v hcon hps (by omega); rintro _ _ _ - ⟨rfl, rfl, rfl⟩) | (apply z_call; rfl; rfl; rfl; exact same_c (r := true) (by rw [hpr]; exact BEq.rfl) hps (h4.le (by repeat (first | exact Le.refl _ | assumption | refine Le.trans ?_ (by assumption)))) (by omega); rintro _ _ _ - ⟨rfl, rfl, rfl⟩) | refine Jo ?_ | intro _))
      exact q_back (m' := vs.length - (i + 1)) ⟨rfl, rfl, i + 1, o + 1, a + p.2.length, rfl, by omega, ho1.symm, ha1.symm, rfl⟩ (by omega) (by repeat (first | exact Sub.nil rfl | exact Sub.marked rfl | refine Sub.cons rfl ?_)) (by repeat (first | exact List.Sublist.refl _ | exact List.Sublist.slnil | exact List.nil_sublist _ | exact List.sublist_append_left _ _ | refine List.Sublist.cons_cons _ ?_ | refine List.Sublist.append (List.Sublist.refl _) ?_ | refine List.Sublist.cons _ ?_))
    · rw [decide_eq_false hwd] at hcon
      rw [if_neg (Ne.symm hwd)] at ho1
      (repeat (first | refine Jc ?_ | (apply s_idx hB; (case hg => rfl); (case hd => rfl); (case hx => rfl); (case hi => rfl); (case hm => rfl); (case hu => exact hs); intro q (hq : Pts _ q (Cl.cells s)); rw [hel] at hq) | (apply s_load1; (case hg => rfl); (case hd => rfl); (case hx => rfl); (case hv => exact hq)) | (apply z_call; rfl; rfl; rfl; exact has_v hcon hps (by omega); rintro _ _ _ - ⟨rfl, rfl, rfl⟩) | refine Jo ?_ | intro _))
      exact q_back (m' := vs.length - (i + 1)) ⟨rfl, rfl, i + 1, o, a + p.2.length, rfl, by omega, ho1.symm, ha1.symm, rfl⟩ (by omega) (by repeat (first | exact Sub.nil rfl | exact Sub.marked rfl | refine Sub.cons rfl ?_)) (by repeat (first | exact List.Sublist.refl _ | exact List.Sublist.slnil | exact List.nil_sublist _ | exact List.sublist_append_left _ _ | refine List.Sublist.cons_cons _ ?_ | refine List.Sublist.append (List.Sublist.refl _) ?_ | refine List.Sublist.cons _ ?_))
  rintro S1 L1 F1 ⟨hle1, rfl, rfl⟩
  (repeat (first | refine Jz ?_ | intro _))
  have hE1 := endless_is xs
  have hel := endless_len (made xs)
  obtain ⟨N, hN⟩ : ∃ N, (made xs).length = N + 1 := ⟨(made xs).length - 1, by omega⟩
  have hbits := endless_inv hE1 kc (by omega) N (by omega)
  have hke : (endless (made xs))[kc]? = some (endl1 d kc) := by simp [endless, hd]
  have hone := endless_one hE1 hke
  have htl2 : (times (search (endless (made xs)) kc)).length = (search (endless (made xs)) kc).length := by simp [times]
  refine c_loop (fun m S' L F => Le S1 S' ∧ ∃ (i : Nat) (v : Value) (ob : Blocks), m = (made xs).length - i ∧ i ≤ (made xs).length ∧ Ows 53 v ((endless (made xs)).take i) ob ∧ L = ob ∧
    F = [(5, .bool true), (6, .slice D (made xs).length cD), (7, .int .i64 kc), (17, v), (18, .int .i64 i)]) ⟨Le.refl _, 0, _, _, rfl, by omega, Ows.nil 53, rfl, rfl⟩ (by repeat (first | exact Sub.nil rfl | exact Sub.marked rfl | refine Sub.cons rfl ?_)) (by repeat (first | exact List.Sublist.refl _ | exact List.Sublist.slnil | exact List.nil_sublist _ | exact List.sublist_append_left _ _ | refine List.Sublist.cons_cons _ ?_ | refine List.Sublist.append (List.Sublist.refl _) ?_ | refine List.Sublist.cons _ ?_)) ?_
  rintro m S' L F ⟨hle2, i, v, ob, rfl, hi, ho, rfl, rfl⟩
  have hD' : At S' D (made xs) := hD.le (by repeat (first | exact Le.refl _ | assumption | refine Le.trans ?_ (by assumption)))
  by_cases hil : i < (made xs).length
  · obtain ⟨di, hdi⟩ := at_lt hil
    have hei : (endless (made xs))[i]? = some (endl1 di i) := by simp [endless, hdi]
    obtain ⟨_, m1, m2⟩ := made_at hdi
    have hlen : ((endless (made xs)).take i).length = i := by simp; omega
    (repeat (first | refine Jz ?_ | intro _))
    ((apply c_held ([]); (case hL => (repeat (first | exact List.Sublist.refl _ | exact List.Sublist.slnil | exact List.nil_sublist _ | exact List.sublist_append_left _ _ | apply List.Sublist.cons_cons | (apply List.Sublist.append; exact List.Sublist.refl _) | apply List.Sublist.cons)))); (first | (apply h_idx hD' 0; (case hi => rfl); (case hr => kernel_rfl); (case hfr => kernel_rfl); (case hsel => kernel_rfl); (case hg => rfl); (case hd => rfl); (case i1 => infer_instance); (case i2 => infer_instance); (case hx => rfl); (case hy => rfl); (case hm => rfl); (case hu => exact hdi); intro p (hp : Pts _ p [_, _, _, _])) | (apply h_first 0; (case hi => rfl); (case hr => kernel_rfl); (case hfr => kernel_rfl); (case hsel => kernel_rfl); (case hg => rfl); (case hd => rfl); (case he => (apply ev_load_f; (case hx => rfl); (case h => exact hp); (case hv => rfl)))) | refine Jf 0 ?_); (first | (apply h_idx hD' 1; (case hi => rfl); (case hr => kernel_rfl); (case hfr => kernel_rfl); (case hsel => kernel_rfl); (case hg => rfl); (case hd => rfl); (case i1 => infer_instance); (case i2 => infer_instance); (case hx => rfl); (case hy => rfl); (case hm => rfl); (case hu => exact hdi); intro p (hp : Pts _ p [_, _, _, _])) | (apply h_first 1; (case hi => rfl); (case hr => kernel_rfl); (case hfr => kernel_rfl); (case hsel => kernel_rfl); (case hg => rfl); (case hd => rfl); (case he => (apply ev_load_f; (case hx => rfl); (case h => exact hp); (case hv => rfl)))) | refine Jf 1 ?_); (first | (apply h_idx hD' 2; (case hi => rfl); (case hr => kernel_rfl); (case hfr => kernel_rfl); (case hsel => kernel_rfl); (case hg => rfl); (case hd => rfl); (case i1 => infer_instance); (case i2 => infer_instance); (case hx => rfl); (case hy => rfl); (case hm => rfl); (case hu => exact hdi); intro p (hp : Pts _ p [_, _, _, _])) | (apply h_first 2; (case hi => rfl); (case hr => kernel_rfl); (case hfr => kernel_rfl); (case hsel => kernel_rfl); (case hg => rfl); (case hd => rfl); (case he => (apply ev_load_f; (case hx => rfl); (case h => exact hp); (case hv => rfl)))) | refine Jf 2 ?_); (first | (apply h_idx hD' 3; (case hi => rfl); (case hr => kernel_rfl); (case hfr => kernel_rfl); (case hsel => kernel_rfl); (case hg => rfl); (case hd => rfl); (case i1 => infer_instance); (case i2 => infer_instance); (case hx => rfl); (case hy => rfl); (case hm => rfl); (case hu => exact hdi); intro p (hp : Pts _ p [_, _, _, _])) | (apply h_first 3; (case hi => rfl); (case hr => kernel_rfl); (case hfr => kernel_rfl); (case hsel => kernel_rfl); (case hg => rfl); (case hd => rfl); (case he => (apply ev_load_f; (case hx => rfl); (case h => exact hp); (case hv => rfl)))) | refine Jf 3 ?_); (first | (apply h_idx hD' 4; (case hi => rfl); (case hr => kernel_rfl); (case hfr => kernel_rfl); (case hsel => kernel_rfl); (case hg => rfl); (case hd => rfl); (case i1 => infer_instance); (case i2 => infer_instance); (case hx => rfl); (case hy => rfl); (case hm => rfl); (case hu => exact hdi); intro p (hp : Pts _ p [_, _, _, _])) | (apply h_first 4; (case hi => rfl); (case hr => kernel_rfl); (case hfr => kernel_rfl); (case hsel => kernel_rfl); (case hg => rfl); (case hd => rfl); (case he => (apply ev_load_f; (case hx => rfl); (case h => exact hp); (case hv => rfl)))) | refine Jf 4 ?_); (first | (apply h_idx hD' 5; (case hi => rfl); (case hr => kernel_rfl); (case hfr => kernel_rfl); (case hsel => kernel_rfl); (case hg => rfl); (case hd => rfl); (case i1 => infer_instance); (case i2 => infer_instance); (case hx => rfl); (case hy => rfl); (case hm => rfl); (case hu => exact hdi); intro p (hp : Pts _ p [_, _, _, _])) | (apply h_first 5; (case hi => rfl); (case hr => kernel_rfl); (case hfr => kernel_rfl); (case hsel => kernel_rfl); (case hg => rfl); (case hd => rfl); (case he => (apply ev_load_f; (case hx => rfl); (case h => exact hp); (case hv => rfl)))) | refine Jf 5 ?_); (first | (apply h_idx hD' 6; (case hi => rfl); (case hr => kernel_rfl); (case hfr => kernel_rfl); (case hsel => kernel_rfl); (case hg => rfl); (case hd => rfl); (case i1 => infer_instance); (case i2 => infer_instance); (case hx => rfl); (case hy => rfl); (case hm => rfl); (case hu => exact hdi); intro p (hp : Pts _ p [_, _, _, _])) | (apply h_first 6; (case hi => rfl); (case hr => kernel_rfl); (case hfr => kernel_rfl); (case hsel => kernel_rfl); (case hg => rfl); (case hd => rfl); (case he => (apply ev_load_f; (case hx => rfl); (case h => exact hp); (case hv => rfl)))) | refine Jf 6 ?_); (first | (apply h_idx hD' 7; (case hi => rfl); (case hr => kernel_rfl); (case hfr => kernel_rfl); (case hsel => kernel_rfl); (case hg => rfl); (case hd => rfl); (case i1 => infer_instance); (case i2 => infer_instance); (case hx => rfl); (case hy => rfl); (case hm => rfl); (case hu => exact hdi); intro p (hp : Pts _ p [_, _, _, _])) | (apply h_first 7; (case hi => rfl); (case hr => kernel_rfl); (case hfr => kernel_rfl); (case hsel => kernel_rfl); (case hg => rfl); (case hd => rfl); (case he => (apply ev_load_f; (case hx => rfl); (case h => exact hp); (case hv => rfl)))) | refine Jf 7 ?_); (first | (apply h_idx hD' 8; (case hi => rfl); (case hr => kernel_rfl); (case hfr => kernel_rfl); (case hsel => kernel_rfl); (case hg => rfl); (case hd => rfl); (case i1 => infer_instance); (case i2 => infer_instance); (case hx => rfl); (case hy => rfl); (case hm => rfl); (case hu => exact hdi); intro p (hp : Pts _ p [_, _, _, _])) | (apply h_first 8; (case hi => rfl); (case hr => kernel_rfl); (case hfr => kernel_rfl); (case hsel => kernel_rfl); (case hg => rfl); (case hd => rfl); (case he => (apply ev_load_f; (case hx => rfl); (case h => exact hp); (case hv => rfl)))) | refine Jf 8 ?_); (first | (apply h_idx hD' 9; (case hi => rfl); (case hr => kernel_rfl); (case hfr => kernel_rfl); (case hsel => kernel_rfl); (case hg => rfl); (case hd => rfl); (case i1 => infer_instance); (case i2 => infer_instance); (case hx => rfl); (case hy => rfl); (case hm => rfl); (case hu => exact hdi); intro p (hp : Pts _ p [_, _, _, _])) | (apply h_first 9; (case hi => rfl); (case hr => kernel_rfl); (case hfr => kernel_rfl); (case hsel => kernel_rfl); (case hg => rfl); (case hd => rfl); (case he => (apply ev_load_f; (case hx => rfl); (case h => exact hp); (case hv => rfl)))) | refine Jf 9 ?_); (first | (apply h_idx hD' 10; (case hi => rfl); (case hr => kernel_rfl); (case hfr => kernel_rfl); (case hsel => kernel_rfl); (case hg => rfl); (case hd => rfl); (case i1 => infer_instance); (case i2 => infer_instance); (case hx => rfl); (case hy => rfl); (case hm => rfl); (case hu => exact hdi); intro p (hp : Pts _ p [_, _, _, _])) | (apply h_first 10; (case hi => rfl); (case hr => kernel_rfl); (case hfr => kernel_rfl); (case hsel => kernel_rfl); (case hg => rfl); (case hd => rfl); (case he => (apply ev_load_f; (case hx => rfl); (case h => exact hp); (case hv => rfl)))) | refine Jf 10 ?_); (first | (apply h_idx hD' 11; (case hi => rfl); (case hr => kernel_rfl); (case hfr => kernel_rfl); (case hsel => kernel_rfl); (case hg => rfl); (case hd => rfl); (case i1 => infer_instance); (case i2 => infer_instance); (case hx => rfl); (case hy => rfl); (case hm => rfl); (case hu => exact hdi); intro p (hp : Pts _ p [_, _, _, _])) | (apply h_first 11; (case hi => rfl); (case hr => kernel_rfl); (case hfr => kernel_rfl); (case hsel => kernel_rfl); (case hg => rfl); (case hd => rfl); (case he => (apply ev_load_f; (case hx => rfl); (case h => exact hp); (case hv => rfl)))) | refine Jf 11 ?_); (first | (apply h_idx hD' 12; (case hi => rfl); (case hr => kernel_rfl); (case hfr => kernel_rfl); (case hsel => kernel_rfl); (case hg => rfl); (case hd => rfl); (case i1 => infer_instance); (case i2 => infer_instance); (case hx => rfl); (case hy => rfl); (case hm => rfl); (case hu => exact hdi); intro p (hp : Pts _ p [_, _, _, _])) | (apply h_first 12; (case hi => rfl); (case hr => kernel_rfl); (case hfr => kernel_rfl); (case hsel => kernel_rfl); (case hg => rfl); (case hd => rfl); (case he => (apply ev_load_f; (case hx => rfl); (case h => exact hp); (case hv => rfl)))) | refine Jf 12 ?_); (first | (apply h_idx hD' 13; (case hi => rfl); (case hr => kernel_rfl); (case hfr => kernel_rfl); (case hsel => kernel_rfl); (case hg => rfl); (case hd => rfl); (case i1 => infer_instance); (case i2 => infer_instance); (case hx => rfl); (case hy => rfl); (case hm => rfl); (case hu => exact hdi); intro p (hp : Pts _ p [_, _, _, _])) | (apply h_first 13; (case hi => rfl); (case hr => kernel_rfl); (case hfr => kernel_rfl); (case hsel => kernel_rfl); (case hg => rfl); (case hd => rfl); (case he => (apply ev_load_f; (case hx => rfl); (case h => exact hp); (case hv => rfl)))) | refine Jf 13 ?_); (first | (apply h_idx hD' 14; (case hi => rfl); (case hr => kernel_rfl); (case hfr => kernel_rfl); (case hsel => kernel_rfl); (case hg => rfl); (case hd => rfl); (case i1 => infer_instance); (case i2 => infer_instance); (case hx => rfl); (case hy => rfl); (case hm => rfl); (case hu => exact hdi); intro p (hp : Pts _ p [_, _, _, _])) | (apply h_first 14; (case hi => rfl); (case hr => kernel_rfl); (case hfr => kernel_rfl); (case hsel => kernel_rfl); (case hg => rfl); (case hd => rfl); (case he => (apply ev_load_f; (case hx => rfl); (case h => exact hp); (case hv => rfl)))) | refine Jf 14 ?_); (apply h_one 15; (case hr => kernel_rfl)); (first | (apply n_buildSlice; (case hi => rfl); (case hg => rfl); (case hd => rfl); (case i1 => infer_instance); (case i2 => infer_instance); (case i3 => infer_instance); (case hp => rfl); (case hq => rfl); (case hm => rfl); (case hv => rfl); (case hl => rfl); intro b0) | (apply n_append (ms := [endl1 di i]); (case hi => rfl); (case hT => infer_instance); (case hsz => infer_instance); (case hz => infer_instance); (case hby => infer_instance); (case hg => rfl); (case hd => rfl); (case hx => rfl); (case ho => exact ho); (case hL => (repeat (first | exact pm_nil _ | exact pm_refl _ _ | exact pm_self _ | apply pm_cons | apply pm_app))); (case hy => rfl); (case hm => rfl); (case hs => (apply Src.own; (repeat (first | exact List.Mem.head _ | apply List.Mem.tail | apply List.mem_append_right)))); (case hzs => rfl); (case h0 => decide); (case hb => (simp; omega)); (case h63 => (simp; omega)); (case hsub => (intros; (repeat (first | exact List.Sublist.refl _ | exact List.Sublist.slnil | exact List.nil_sublist _ | exact List.sublist_append_left _ _ | apply List.Sublist.cons_cons | (apply List.Sublist.append; exact List.Sublist.refl _) | apply List.Sublist.cons)))); intro v' ob' ho') | (refine Jn ?_; try intro _)); (apply h_one 16; (case hr => kernel_rfl)); (first | (apply n_buildSlice; (case hi => rfl); (case hg => rfl); (case hd => rfl); (case i1 => infer_instance); (case i2 => infer_instance); (case i3 => infer_instance); (case hp => rfl); (case hq => rfl); (case hm => rfl); (case hv => rfl); (case hl => rfl); intro b0) | (apply n_append (ms := [endl1 di i]); (case hi => rfl); (case hT => infer_instance); (case hsz => infer_instance); (case hz => infer_instance); (case hby => infer_instance); (case hg => rfl); (case hd => rfl); (case hx => rfl); (case ho => exact ho); (case hL => (repeat (first | exact pm_nil _ | exact pm_refl _ _ | exact pm_self _ | apply pm_cons | apply pm_app))); (case hy => rfl); (case hm => rfl); (case hs => (apply Src.own; (repeat (first | exact List.Mem.head _ | apply List.Mem.tail | apply List.mem_append_right)))); (case hzs => rfl); (case h0 => decide); (case hb => (simp; omega)); (case h63 => (simp; omega)); (case hsub => (intros; (repeat (first | exact List.Sublist.refl _ | exact List.Sublist.slnil | exact List.nil_sublist _ | exact List.sublist_append_left _ _ | apply List.Sublist.cons_cons | (apply List.Sublist.append; exact List.Sublist.refl _) | apply List.Sublist.cons)))); intro v' ob' ho') | (refine Jn ?_; try intro _)); (first | (apply h_idx hD' 17; (case hi => rfl); (case hr => kernel_rfl); (case hfr => kernel_rfl); (case hsel => kernel_rfl); (case hg => rfl); (case hd => rfl); (case i1 => infer_instance); (case i2 => infer_instance); (case hx => rfl); (case hy => rfl); (case hm => rfl); (case hu => exact hdi); intro p (hp : Pts _ p [_, _, _, _])) | (apply h_first 17; (case hi => rfl); (case hr => kernel_rfl); (case hfr => kernel_rfl); (case hsel => kernel_rfl); (case hg => rfl); (case hd => rfl); (case he => (apply ev_load_f; (case hx => rfl); (case h => exact hp); (case hv => rfl)))) | refine Jf 17 ?_); (apply h_end; (case hr => kernel_rfl)))
    (repeat (first | refine Jz ?_ | intro _))
    exact q_back (m' := (made xs).length - (i + 1)) ⟨hle2, i + 1, _, _, rfl, by omega, by rw [take_at hei]; exact ho', rfl, rfl⟩ (by omega) (by repeat (first | exact Sub.nil rfl | exact Sub.marked rfl | refine Sub.cons rfl ?_)) (by repeat (first | exact List.Sublist.refl _ | exact List.Sublist.slnil | exact List.nil_sublist _ | exact List.sublist_append_left _ _ | refine List.Sublist.cons_cons _ ?_ | refine List.Sublist.append (List.Sublist.refl _) ?_ | refine List.Sublist.cons _ ?_))
  obtain rfl : i = (made xs).length := by omega
  rw [List.take_of_length_le (by omega)] at ho
  (repeat (first | refine Jz ?_ | intro _))
  rw [show (((made xs).length : Nat) : Int) - 1 = (((made xs).length - 1 : Nat) : Int) by omega]
  refine W.freezeOws ho (by repeat (first | exact pm_nil _ | exact pm_refl _ _ | exact pm_self _ | refine pm_cons ?_ | refine pm_app ?_)) fun S2 hle3' hr => ?_
  refine c_loop (fun m S' L F => S' = S2 ∧ L = [] ∧ ∃ (n q : Nat), m = n ∧ n + q ≤ 20 ∧ N + 1 ≤ (n + 1) * 2 ^ q ∧
    F = [(5, .bool true), (7, .int .i64 kc), (17, v), (19, .int .i64 q), (20, .int .i64 n)]) ⟨rfl, rfl, (made xs).length - 1, 0, rfl, by omega, by omega, rfl⟩ (by repeat (first | exact Sub.nil rfl | exact Sub.marked rfl | refine Sub.cons rfl ?_)) (by repeat (first | exact List.Sublist.refl _ | exact List.Sublist.slnil | exact List.nil_sublist _ | exact List.sublist_append_left _ _ | refine List.Sublist.cons_cons _ ?_ | refine List.Sublist.append (List.Sublist.refl _) ?_ | refine List.Sublist.cons _ ?_)) ?_
  rintro m S'' L F ⟨rfl, rfl, n, q, rfl, hnq, hpow, rfl⟩
  by_cases hn0 : 0 < m
  · (repeat (first | refine Jz ?_ | intro _))
    refine q_back (m' := m / 2) ⟨rfl, rfl, m / 2, q + 1, rfl, by omega, ?_, rfl⟩ (by omega) (by repeat (first | exact Sub.nil rfl | exact Sub.marked rfl | refine Sub.cons rfl ?_)) (by repeat (first | exact List.Sublist.refl _ | exact List.Sublist.slnil | exact List.nil_sublist _ | exact List.sublist_append_left _ _ | refine List.Sublist.cons_cons _ ?_ | refine List.Sublist.append (List.Sublist.refl _) ?_ | refine List.Sublist.cons _ ?_))
    rw [Nat.pow_succ, Nat.mul_comm (2 ^ q) 2, ← Nat.mul_assoc]
    exact Nat.le_trans hpow (Nat.mul_le_mul_right _ (by omega))
  obtain rfl : m = 0 := by omega
  have hle4 : (search (endless (made xs)) kc).length ≤ q := by
    rcases hbits with h | h
    · omega
    · have h2 : 2 ^ ((search (endless (made xs)) kc).length - 1) < 2 ^ q := by omega
      have := (Nat.pow_lt_pow_iff_right (by decide : 1 < 2)).1 h2
      omega
  (repeat (first | refine Jc ?_ | (apply z_call; rfl; rfl; rfl; exact search_ok (k := kc) hr hE1.valid (by omega); rintro S6 _ v6 hle6 ⟨rfl, _, u7, rfl, ⟨G, cG, rfl, hcG, hG⟩, h7⟩; rw [hone] at h7) | (apply s_buildSlice; (case hg => rfl); (case hd => rfl); (case hp => rfl); (case hq => rfl); (case hm => rfl); (case hv => rfl); (case hl => rfl); intro b9; refine W.freeze fun S9 hle9 hb9 => ?_) | (apply z_call; rfl; rfl; rfl; exact same_c (r := true) (by simp) (h7.le (by repeat (first | exact Le.refl _ | assumption | refine Le.trans ?_ (by assumption)))) (sr_block [(kc : Int)] rfl hb9 rfl) (by simp); rintro _ _ _ - ⟨rfl, rfl, rfl⟩) | refine Jo ?_ | intro _))
  exact o_ret (L' := []) Try.results6 rfl (by repeat (first | exact List.Sublist.refl _ | exact List.Sublist.slnil | exact List.nil_sublist _ | exact List.sublist_append_left _ _ | refine List.Sublist.cons_cons _ ?_ | refine List.Sublist.append (List.Sublist.refl _) ?_ | refine List.Sublist.cons _ ?_)) rfl
end Go.Proofs.Ytmonkjbhoabhhaa
namespace Go.Proofs.Ytmonkjbhoabhhaa
open Go Go.X
set_option maxRecDepth 10000
set_option linter.unusedVariables false
attribute [local irreducible] Code.wpIn wpListIn Exit.then Exit.inBlock X.Out X.Back X.W X.Ev X.Con X.BinV X.Wh X.Wn X.Wq
/-! ### The pairs of calls, at whatever arguments -/
abbrev ec (b : Bool) : Int := if b then 0 else 290
theorem active_g {ds : List Dep} {v : Value} {S : SH} (t : Int) (hA : Sr S v ds) (hd : ds.length ≤ 1000000) : Con Try.prog 10 #[v, .int .i64 t] S [] (Two (fun S' u => Sr S' u (if validB ds [⟨t, false⟩] then actives ds t else [])) (ec (validB ds [⟨t, false⟩]))) := by
  obtain ⟨A, c, rfl, _, hA⟩ := hA
  exact Active_con ds t A c S hA hd _ rfl
theorem ractive_g {ds : List Dep} {v : Value} {S : SH} (t : Int) (hA : Sr S v ds) (hd : ds.length ≤ 1000000) : Con Try.prog 11 #[v, .int .i64 t] S [] (Two (fun S' u => Sr S' u (if validB ds [⟨t, false⟩] then actives ds t else [])) (ec (validB ds [⟨t, false⟩]))) := by
  obtain ⟨A, c, rfl, _, hA⟩ := hA
  exact rActive_con ds t A c S hA hd _ rfl
theorem moments_g {ds : List Dep} {v : Value} {S : SH} (hA : Sr S v ds) (hd : ds.length ≤ 1000000) : Con Try.prog 12 #[v] S [] (Two (fun S' u => Sr S' u (if validB ds [] then moms ds else [])) (ec (validB ds []))) := by
  obtain ⟨A, c, rfl, _, hA⟩ := hA
  exact Moments_con ds A c S hA hd _ rfl
theorem rmoments_g {ds : List Dep} {v : Value} {S : SH} (hA : Sr S v ds) (hd : ds.length ≤ 1000000) : Con Try.prog 13 #[v] S [] (Two (fun S' u => Sr S' u (if validB ds [] then moms ds else [])) (ec (validB ds []))) := by
  obtain ⟨A, c, rfl, _, hA⟩ := hA
  rw [moms_eq]
  exact rMoments_con ds A c S hA hd _ rfl
theorem rvalid_v {ds : List Dep} {ls : List Tri} {v u : Value} {S : SH} {b : Bool} (h : validB ds ls = b) (hA : Sr S v ds) (hB : Sr S u ls) (hd : ds.length ≤ 1000000) (hl : ls.length ≤ 1000000) : Con Try.prog 15 #[v, u] S [] (Pure S (.bool b)) := by
  obtain ⟨A, c, rfl, _, hA⟩ := hA
  obtain ⟨B, e, rfl, _, hB⟩ := hB
  exact rvalid_c h hA hB hd hl
theorem cands_g {ds : List Dep} {ls : List Tri} {v u : Value} {S : SH} (wr : Int) (hA : Sr S v ds) (hB : Sr S u ls) (hd : ds.length ≤ 1000000) (hl : ls.length ≤ 1000000) : Con Try.prog 18 #[v, u, .int .i64 wr] S [] (Two (fun S' u => Sr S' u (if validB ds ls && inB wr 0 3 then cands ds ls wr else [])) (ec (validB ds ls && inB wr 0 3))) := by
  obtain ⟨A, c, rfl, _, hA⟩ := hA
  obtain ⟨B, e, rfl, _, hB⟩ := hB
  exact Candidates_con ds ls wr A B c e S hA hB hd hl _ rfl
theorem rcands_g {ds : List Dep} {ls : List Tri} {v u : Value} {S : SH} (wr : Int) (hA : Sr S v ds) (hB : Sr S u ls) (hd : ds.length ≤ 1000000) (hl : ls.length ≤ 1000000) : Con Try.prog 19 #[v, u, .int .i64 wr] S [] (Two (fun S' u => Sr S' u (if validB ds ls && inB wr 0 3 then cands ds ls wr else [])) (ec (validB ds ls && inB wr 0 3))) := by
  obtain ⟨A, c, rfl, _, hA⟩ := hA
  obtain ⟨B, e, rfl, _, hB⟩ := hB
  exact rCandidates_con ds ls wr A B c e S hA hB hd hl _ rfl
theorem next_g {ds : List Dep} {ls : List Tri} {v u : Value} {S : SH} (wr : Int) (hA : Sr S v ds) (hB : Sr S u ls) (hd : ds.length ≤ 1000000) (hl : ls.length ≤ 1000000) : Con Try.prog 20 #[v, u, .int .i64 wr] S [] (Two (fun _ u => u = .int .i64 (if validB ds ls && inB wr 0 3 then nextB ds ls wr else 0)) (ec (validB ds ls && inB wr 0 3))) := by
  obtain ⟨A, c, rfl, _, hA⟩ := hA
  obtain ⟨B, e, rfl, _, hB⟩ := hB
  exact Next_con ds ls wr A B c e S hA hB hd hl _ rfl
theorem rnext_g {ds : List Dep} {ls : List Tri} {v u : Value} {S : SH} (wr : Int) (hA : Sr S v ds) (hB : Sr S u ls) (hd : ds.length ≤ 1000000) (hl : ls.length ≤ 1000000) : Con Try.prog 21 #[v, u, .int .i64 wr] S [] (Two (fun _ u => u = .int .i64 (if validB ds ls && inB wr 0 3 then nextB ds ls wr else 0)) (ec (validB ds ls && inB wr 0 3))) := by
  obtain ⟨A, c, rfl, _, hA⟩ := hA
  obtain ⟨B, e, rfl, _, hB⟩ := hB
  refine (rNext_con ds ls wr A B c e S hA hB hd hl _ rfl).mono fun S' L' u _ ⟨h1, w, h2, h3⟩ => ⟨h1, w, h2, ?_⟩
  rw [h3]
  cases hb : validB ds ls && inB wr 0 3
  · rfl
  · simp only [Bool.and_eq_true] at hb
    have := validB_len hb.1
    simp only [if_true, nextB_eq this.1, moms_eq]
theorem classes_g {ds : List Dep} {v : Value} {S : SH} (hA : Sr S v ds) (hd : ds.length ≤ 1000000) : Con Try.prog 22 #[v] S [] (Two (fun S' u => Srs S' u (if validB ds [] then classes ds else [])) (ec (validB ds []))) := by
  obtain ⟨A, c, rfl, _, hA⟩ := hA
  exact Classes_con ds A c S hA hd _ rfl
theorem rclasses_g {ds : List Dep} {v : Value} {S : SH} (hA : Sr S v ds) (hd : ds.length ≤ 1000000) : Con Try.prog 23 #[v] S [] (Two (fun S' u => Srs S' u (if validB ds [] then classes ds else [])) (ec (validB ds []))) := by
  obtain ⟨A, c, rfl, _, hA⟩ := hA
  exact rClasses_con ds A c S hA hd _ rfl
def FoundG (ds : List Dep) (kc : Int) : SH → Blocks → Value → Prop := fun S' L' v => L' = [] ∧ ∃ u1 u2, v = .tuple #[u1, u2, .int .i64 (ec (validB ds [] && inB kc 0 (ds.length - 1)))] ∧ Sr S' u1 (if validB ds [] && inB kc 0 (ds.length - 1) then times (search ds kc.toNat) else []) ∧ Sr S' u2 (if validB ds [] && inB kc 0 (ds.length - 1) then cands ds (search ds kc.toNat) 0 else [])
theorem search_g {ds : List Dep} {v : Value} {S : SH} (kc : Int) (hA : Sr S v ds) (hd : ds.length ≤ 1000000) : Con Try.prog 24 #[v, .int .i64 kc] S [] (FoundG ds kc) := by
  obtain ⟨A, c, rfl, _, hA⟩ := hA
  exact Search_con ds kc A c S hA hd _ rfl
theorem rsearch_g {ds : List Dep} {v : Value} {S : SH} (kc : Int) (hA : Sr S v ds) (hd : ds.length ≤ 1000000) : Con Try.prog 25 #[v, .int .i64 kc] S [] (FoundG ds kc) := by
  obtain ⟨A, c, rfl, _, hA⟩ := hA
  exact rSearch_con ds kc A c S hA hd _ rfl
theorem if_len {b : Bool} {l : List Int} {n : Nat} (h : l.length ≤ n) : (if b then l else []).length ≤ n := by
  cases b
  · simp
  · simpa using h
theorem same_ok {a : List Int} {u v : Value} {S : SH} (hu : Sr S u a) (hv : Sr S v a) (ha : a.length ≤ 1000000) : Con Try.prog 16 #[u, v] S [] (Pure S (.bool true)) := same_c (by exact BEq.rfl) hu hv (by omega)
theorem sameAll_ok {a : List (List Int)} {u v : Value} {S : SH} (hu : Srs S u a) (hv : Srs S v a) (ha : a.length ≤ 1000000) (hr : ∀ r ∈ a, r.length ≤ 1000000) : Con Try.prog 26 #[u, v] S [] (Pure S (.bool true)) := by
  have h := sameAll_con a a u v S hu hv ha fun r h => by have := hr r h; omega
  rwa [show (a == a) = true from BEq.rfl] at h
theorem classes_len (ds : List Dep) : (classes ds).length ≤ ds.length ∧ ∀ r ∈ classes ds, r.length ≤ ds.length := by
  have h1 := (clsF_nodup ds ds.length (Nat.le_refl _)).2
  have h2 := clsF_rows ds ds.length (Nat.le_refl _)
  refine ⟨by simpa [classes] using h1, fun r hr => ?_⟩
  simp only [classes, List.mem_map] at hr
  obtain ⟨p, hp, rfl⟩ := hr
  exact h2 p hp
theorem trials_own (ds : List Dep) (kc : Nat) (d : Dep) (hkc : ds[kc]? = some d) (xs : List T2) (hx64 : ∀ x ∈ xs, i64 x.a ∧ i64 x.b) (wr : Int) (hwr : 0 ≤ wr ∧ wr ≤ 1000) (A B : Option Addr) (c e : Nat) (S : SH) (hA : At S A ds) (hB : At S B xs) :
    Con Try.prog 28 #[.slice A ds.length c, .int .i64 kc, .slice B xs.length e, .int .i64 wr] S [] (fun _ L' v => Ows 49 v (trials d xs wr) L') := by
  refine con_of (args := [.slice A ds.length c, .int .i64 kc, .slice B xs.length e, .int .i64 wr]) Try.func28 rfl Try.ntmps28 rfl fun w => ?_
  (repeat (first | refine Jz ?_ | intro _))
  refine c_loop (fun m S' L F => S' = S ∧ ∃ (k : Nat) (v : Value) (ob : Blocks) (l : List Tri) (r : Int), m = xs.length - k ∧ k ≤ xs.length ∧ k ≤ 30 ∧ (l, r) = trialsF d (xs.take k) wr ∧ Ows 49 v l ob ∧ L = ob ∧
      F = [(0, .slice A ds.length c), (1, .int .i64 kc), (2, .slice B xs.length e), (3, .int .i64 r), (9, v), (10, .int .i64 k)]) ⟨rfl, 0, _, _, [], wr, rfl, by omega, by omega, rfl, Ows.nil 49, rfl, rfl⟩ (by repeat (first | exact Sub.nil rfl | exact Sub.marked rfl | refine Sub.cons rfl ?_)) (by repeat (first | exact List.Sublist.refl _ | exact List.Sublist.slnil | exact List.nil_sublist _ | exact List.sublist_append_left _ _ | refine List.Sublist.cons_cons _ ?_ | refine List.Sublist.append (List.Sublist.refl _) ?_ | refine List.Sublist.cons _ ?_)) ?_
  rintro m S' L F ⟨rfl, k, v, ob, l, r, rfl, hk, hk30, hlr, ho, rfl, rfl⟩
  by_cases hlt : k < xs.length
  rotate_left
  · obtain rfl : k = xs.length := by omega
    (repeat (first | refine Jz ?_ | intro _))
    refine o_ret Try.results28 rfl (by repeat (first | exact List.Sublist.refl _ | exact List.Sublist.slnil | exact List.nil_sublist _ | exact List.sublist_append_left _ _ | refine List.Sublist.cons_cons _ ?_ | refine List.Sublist.append (List.Sublist.refl _) ?_ | refine List.Sublist.cons _ ?_)) ?_
    rw [trials, List.take_of_length_le (by omega), ← List.take_of_length_le (l := xs) (Nat.le_refl _), ← hlr]; exact ho
  by_cases h30 : k < 30
  rotate_left
  · obtain rfl : k = 30 := by omega
    (repeat (first | refine Jz ?_ | intro _))
    refine o_ret Try.results28 rfl (by repeat (first | exact List.Sublist.refl _ | exact List.Sublist.slnil | exact List.nil_sublist _ | exact List.sublist_append_left _ _ | refine List.Sublist.cons_cons _ ?_ | refine List.Sublist.append (List.Sublist.refl _) ?_ | refine List.Sublist.cons _ ?_)) ?_
    rw [trials, ← hlr]; exact ho
  obtain ⟨⟨xa, xb⟩, hx⟩ := at_lt hlt
  obtain ⟨ha, hb⟩ := hx64 _ (List.mem_of_getElem? hx)
  simp only at ha hb
  have p1 := pick_lt xa 33 (by decide)
  have hll := trialsF_fst_len d (xs.take k) wr
  have hrr := trialsF_snd d (xs.take k) wr hwr.1
  have hs := trialsF_snoc d (xs.take k) ⟨xa, xb⟩ wr
  rw [← take_at hx, ← hlr] at hs
  rw [← hlr] at hll hrr
  simp only [List.length_take] at hll hrr
  have ho1 : ∀ b, on d (pick xa 33) = b → trialStep d (l, r) ⟨xa, xb⟩ = if 0 < r ∧ pick xb 4 = 3 then (l ++ [⟨pick xa 33, !b⟩], r - 1) else (l ++ [⟨pick xa 33, b⟩], r) := fun b hb => by simp [trialStep, hb]
  generalize hb1 : on d (pick xa 33) = b1
  have ho1 := ho1 _ hb1
  (repeat (first | refine Jc ?_ | (apply s_idx hB; (case hg => rfl); (case hd => rfl); (case hx => rfl); (case hi => rfl); (case hm => rfl); (case hu => exact hx); intro q (hq : Pts _ q [.int .i64 xa, .int .i64 xb])) | (apply s_load_f; (case hg => rfl); (case hd => rfl); (case hx => rfl); (case h => exact hq); (case hv => rfl)) | (apply z_call; rfl; rfl; rfl; exact rpick_c rfl ha (by decide); rintro _ _ _ - ⟨rfl, rfl, rfl⟩) | refine Jo ?_ | intro _))
  rename_i b
  refine c_meet (fun S1 L1 F1 => S1 = S' ∧ L1 = (b, .cells [.int .i64 (pick xa 33), .bool b1].toArray 49 (0, 0)) :: L ∧
    F1 = [(0, .slice A ds.length c), (1, .int .i64 kc), (2, .slice B xs.length e), (3, .int .i64 r), (9, v), (10, .int .i64 k), (11, .pointer (some ⟨b, 0, none⟩))]) ?_ ?_
  · ((apply c_held ([]); (case hL => (repeat (first | exact List.Sublist.refl _ | exact List.Sublist.slnil | exact List.nil_sublist _ | exact List.sublist_append_left _ _ | apply List.Sublist.cons_cons | (apply List.Sublist.append; exact List.Sublist.refl _) | apply List.Sublist.cons)))); (first | (apply h_idx hA 0; (case hi => rfl); (case hr => kernel_rfl); (case hfr => kernel_rfl); (case hsel => kernel_rfl); (case hg => rfl); (case hd => rfl); (case i1 => infer_instance); (case i2 => infer_instance); (case hx => rfl); (case hy => rfl); (case hm => rfl); (case hu => exact hkc); intro p (hp : Pts _ p [_, _, _, _])) | (apply h_first 0; (case hi => rfl); (case hr => kernel_rfl); (case hfr => kernel_rfl); (case hsel => kernel_rfl); (case hg => rfl); (case hd => rfl); (case he => (apply ev_load_ag; (case hx => rfl); (case h => exact hp); (case hl => rfl)))) | refine Jf 0 ?_); (first | (apply h_idx hA 1; (case hi => rfl); (case hr => kernel_rfl); (case hfr => kernel_rfl); (case hsel => kernel_rfl); (case hg => rfl); (case hd => rfl); (case i1 => infer_instance); (case i2 => infer_instance); (case hx => rfl); (case hy => rfl); (case hm => rfl); (case hu => exact hkc); intro p (hp : Pts _ p [_, _, _, _])) | (apply h_first 1; (case hi => rfl); (case hr => kernel_rfl); (case hfr => kernel_rfl); (case hsel => kernel_rfl); (case hg => rfl); (case hd => rfl); (case he => (apply ev_load_ag; (case hx => rfl); (case h => exact hp); (case hl => rfl)))) | refine Jf 1 ?_); (first | (apply h_idx hA 2; (case hi => rfl); (case hr => kernel_rfl); (case hfr => kernel_rfl); (case hsel => kernel_rfl); (case hg => rfl); (case hd => rfl); (case i1 => infer_instance); (case i2 => infer_instance); (case hx => rfl); (case hy => rfl); (case hm => rfl); (case hu => exact hkc); intro p (hp : Pts _ p [_, _, _, _])) | (apply h_first 2; (case hi => rfl); (case hr => kernel_rfl); (case hfr => kernel_rfl); (case hsel => kernel_rfl); (case hg => rfl); (case hd => rfl); (case he => (apply ev_load_ag; (case hx => rfl); (case h => exact hp); (case hl => rfl)))) | refine Jf 2 ?_); (first | (apply h_idx hA 3; (case hi => rfl); (case hr => kernel_rfl); (case hfr => kernel_rfl); (case hsel => kernel_rfl); (case hg => rfl); (case hd => rfl); (case i1 => infer_instance); (case i2 => infer_instance); (case hx => rfl); (case hy => rfl); (case hm => rfl); (case hu => exact hkc); intro p (hp : Pts _ p [_, _, _, _])) | (apply h_first 3; (case hi => rfl); (case hr => kernel_rfl); (case hfr => kernel_rfl); (case hsel => kernel_rfl); (case hg => rfl); (case hd => rfl); (case he => (apply ev_load_ag; (case hx => rfl); (case h => exact hp); (case hl => rfl)))) | refine Jf 3 ?_); (first | (apply h_idx hA 4; (case hi => rfl); (case hr => kernel_rfl); (case hfr => kernel_rfl); (case hsel => kernel_rfl); (case hg => rfl); (case hd => rfl); (case i1 => infer_instance); (case i2 => infer_instance); (case hx => rfl); (case hy => rfl); (case hm => rfl); (case hu => exact hkc); intro p (hp : Pts _ p [_, _, _, _])) | (apply h_first 4; (case hi => rfl); (case hr => kernel_rfl); (case hfr => kernel_rfl); (case hsel => kernel_rfl); (case hg => rfl); (case hd => rfl); (case he => (apply ev_load_ag; (case hx => rfl); (case h => exact hp); (case hl => rfl)))) | refine Jf 4 ?_); (apply h_one 5; (case hr => kernel_rfl)); (first | (apply n_call; (case hi => rfl); (case i1 => infer_instance); (case hg => rfl); (case hd => rfl); (case ha => rfl); (case hc => exact on_b hb1); (case hL => (repeat (first | exact pm_nil _ | exact pm_refl _ _ | exact pm_self _ | apply pm_cons | apply pm_app))); (case hsub => (intros; (repeat (first | exact List.Sublist.refl _ | exact List.Sublist.slnil | exact List.nil_sublist _ | exact List.sublist_append_left _ _ | apply List.Sublist.cons_cons | (apply List.Sublist.append; exact List.Sublist.refl _) | apply List.Sublist.cons)))); rintro _ _ _ - ⟨rfl, rfl, rfl⟩) | (refine Jn ?_; try intro _)); (apply h_one 6; (case hr => kernel_rfl)); (first | (apply n_call; (case hi => rfl); (case i1 => infer_instance); (case hg => rfl); (case hd => rfl); (case ha => rfl); (case hc => exact on_b hb1); (case hL => (repeat (first | exact pm_nil _ | exact pm_refl _ _ | exact pm_self _ | apply pm_cons | apply pm_app))); (case hsub => (intros; (repeat (first | exact List.Sublist.refl _ | exact List.Sublist.slnil | exact List.nil_sublist _ | exact List.sublist_append_left _ _ | apply List.Sublist.cons_cons | (apply List.Sublist.append; exact List.Sublist.refl _) | apply List.Sublist.cons)))); rintro _ _ _ - ⟨rfl, rfl, rfl⟩) | (refine Jn ?_; try intro _)); (first | (apply h_idx hA 7; (case hi => rfl); (case hr => kernel_rfl); (case hfr => kernel_rfl); (case hsel => kernel_rfl); (case hg => rfl); (case hd => rfl); (case i1 => infer_instance); (case i2 => infer_instance); (case hx => rfl); (case hy => rfl); (case hm => rfl); (case hu => exact hkc); intro p (hp : Pts _ p [_, _, _, _])) | (apply h_first 7; (case hi => rfl); (case hr => kernel_rfl); (case hfr => kernel_rfl); (case hsel => kernel_rfl); (case hg => rfl); (case hd => rfl); (case he => (apply ev_load_ag; (case hx => rfl); (case h => exact hp); (case hl => rfl)))) | refine Jf 7 ?_); (apply h_one 8; (case hr => kernel_rfl)); (first | (apply n_call; (case hi => rfl); (case i1 => infer_instance); (case hg => rfl); (case hd => rfl); (case ha => rfl); (case hc => exact on_b hb1); (case hL => (repeat (first | exact pm_nil _ | exact pm_refl _ _ | exact pm_self _ | apply pm_cons | apply pm_app))); (case hsub => (intros; (repeat (first | exact List.Sublist.refl _ | exact List.Sublist.slnil | exact List.nil_sublist _ | exact List.sublist_append_left _ _ | apply List.Sublist.cons_cons | (apply List.Sublist.append; exact List.Sublist.refl _) | apply List.Sublist.cons)))); rintro _ _ _ - ⟨rfl, rfl, rfl⟩) | (refine Jn ?_; try intro _)); (apply h_end; (case hr => kernel_rfl)); (apply q_then; exact q_cut ⟨rfl, rfl, rfl⟩ (by repeat (first | exact Sub.nil rfl | exact Sub.marked rfl | refine Sub.cons rfl ?_)) (by repeat (first | exact List.Sublist.refl _ | exact List.Sublist.slnil | exact List.nil_sublist _ | exact List.sublist_append_left _ _ | refine List.Sublist.cons_cons _ ?_ | refine List.Sublist.append (List.Sublist.refl _) ?_ | refine List.Sublist.cons _ ?_))))
  rintro S1 L1 F1 ⟨rfl, rfl, rfl⟩
  by_cases h1 : 0 < r
  rotate_left
  · rw [if_neg (by omega)] at ho1
    (repeat (first | refine Jc ?_ | (apply s_append (ms := [(⟨pick xa 33, b1⟩ : Tri)]); (case hg => rfl); (case hd => rfl); (case hx => rfl); (case ho => exact ho); (case hL => (repeat (first | exact pm_nil _ | exact pm_refl _ _ | exact pm_self _ | apply pm_cons | apply pm_app))); (case hy => rfl); (case hm => rfl); (case hs => (apply Src.own; (repeat (first | exact List.Mem.head _ | apply List.Mem.tail | apply List.mem_append_right)))); (case hzs => rfl); (case h0 => decide); (case hb => (simp; omega)); (case h63 => (simp; omega)); intro v' ob' ho') | refine Jo ?_ | intro _))
    exact q_back (m' := xs.length - (k + 1)) ⟨rfl, k + 1, v', ob', _, _, rfl, by omega, by omega, (hs.trans ho1).symm, ho', rfl, rfl⟩ (by omega) (by repeat (first | exact Sub.nil rfl | exact Sub.marked rfl | refine Sub.cons rfl ?_)) (by repeat (first | exact List.Sublist.refl _ | exact List.Sublist.slnil | exact List.nil_sublist _ | exact List.sublist_append_left _ _ | refine List.Sublist.cons_cons _ ?_ | refine List.Sublist.append (List.Sublist.refl _) ?_ | refine List.Sublist.cons _ ?_))
  by_cases h2 : pick xb 4 = 3
  rotate_left
  · rw [if_neg (by omega)] at ho1
    (repeat (first | refine Jc ?_ | (apply s_idx hB; (case hg => rfl); (case hd => rfl); (case hx => rfl); (case hi => rfl); (case hm => rfl); (case hu => exact hx); intro q (hq : Pts _ q [.int .i64 xa, .int .i64 xb])) | (apply s_load_f; (case hg => rfl); (case hd => rfl); (case hx => rfl); (case h => exact hq); (case hv => rfl)) | (apply z_call; rfl; rfl; rfl; exact rpick_c rfl hb (by decide); rintro _ _ _ - ⟨rfl, rfl, rfl⟩) | (apply s_append (ms := [(⟨pick xa 33, b1⟩ : Tri)]); (case hg => rfl); (case hd => rfl); (case hx => rfl); (case ho => exact ho); (case hL => (repeat (first | exact pm_nil _ | exact pm_refl _ _ | exact pm_self _ | apply pm_cons | apply pm_app))); (case hy => rfl); (case hm => rfl); (case hs => (apply Src.own; (repeat (first | exact List.Mem.head _ | apply List.Mem.tail | apply List.mem_append_right)))); (case hzs => rfl); (case h0 => decide); (case hb => (simp; omega)); (case h63 => (simp; omega)); intro v' ob' ho') | refine Jo ?_ | intro _))
    exact q_back (m' := xs.length - (k + 1)) ⟨rfl, k + 1, v', ob', _, _, rfl, by omega, by omega, (hs.trans ho1).symm, ho', rfl, rfl⟩ (by omega) (by repeat (first | exact Sub.nil rfl | exact Sub.marked rfl | refine Sub.cons rfl ?_)) (by repeat (first | exact List.Sublist.refl _ | exact List.Sublist.slnil | exact List.nil_sublist _ | exact List.sublist_append_left _ _ | refine List.Sublist.cons_cons _ ?_ | refine List.Sublist.append (List.Sublist.refl _) ?_ | refine List.Sublist.cons _ ?_))
  · rw [if_pos ⟨h1, h2⟩] at ho1
    (repeat (first | refine Jc ?_ | (apply s_idx hB; (case hg => rfl); (case hd => rfl); (case hx => rfl); (case hi => rfl); (case hm => rfl); (case hu => exact hx); intro q (hq : Pts _ q [.int .i64 xa, .int .i64 xb])) | (apply s_load_f; (case hg => rfl); (case hd => rfl); (case hx => rfl); (case h => exact hq); (case hv => rfl)) | (apply z_call; rfl; rfl; rfl; exact rpick_c h2 hb (by decide); rintro _ _ _ - ⟨rfl, rfl, rfl⟩) | (apply s_append (ms := [(⟨pick xa 33, !b1⟩ : Tri)]); (case hg => rfl); (case hd => rfl); (case hx => rfl); (case ho => exact ho); (case hL => (repeat (first | exact pm_nil _ | exact pm_refl _ _ | exact pm_self _ | apply pm_cons | apply pm_app))); (case hy => rfl); (case hm => rfl); (case hs => (apply Src.own; (repeat (first | exact List.Mem.head _ | apply List.Mem.tail | apply List.mem_append_right)))); (case hzs => rfl); (case h0 => decide); (case hb => (simp; omega)); (case h63 => (simp; omega)); intro v' ob' ho') | refine Jo ?_ | intro _))
    exact q_back (m' := xs.length - (k + 1)) ⟨rfl, k + 1, v', ob', _, _, rfl, by omega, by omega, (hs.trans ho1).symm, ho', rfl, rfl⟩ (by omega) (by repeat (first | exact Sub.nil rfl | exact Sub.marked rfl | refine Sub.cons rfl ?_)) (by repeat (first | exact List.Sublist.refl _ | exact List.Sublist.slnil | exact List.nil_sublist _ | exact List.sublist_append_left _ _ | refine List.Sublist.cons_cons _ ?_ | refine List.Sublist.append (List.Sublist.refl _) ?_ | refine List.Sublist.cons _ ?_))
theorem f3_law (ds0 : List Dep) (A : Option Addr) (c : Nat) (ls0 : List Tri) (B : Option Addr) (e : Nat) (xs : List T3) (C : Option Addr) (f : Nat) (ys : List T2) (D : Option Addr) (g : Nat) (at_ wr cu : Int) (S : SH)
    (hA : At S A ds0) (hl0 : ds0.length ≤ c) (hx0 : ∀ x ∈ ds0, i64 x.service ∧ i64 x.version ∧ i64 x.frm ∧ i64 x.to) (hB : At S B ls0) (hl1 : ls0.length ≤ e) (hx1 : ∀ x ∈ ls0, i64 x.at_) (hC : At S C xs) (hl2 : xs.length ≤ f) (hx : ∀ x ∈ xs, i64 x.a ∧ i64 x.b ∧ i64 x.c) (hD : At S D ys) (hl3 : ys.length ≤ g) (hy : ∀ x ∈ ys, i64 x.a ∧ i64 x.b) (hat : i64 at_) (hwr : i64 wr) (hcu : i64 cu) :
    Con Try.prog 3 #[.slice A ds0.length c, .slice B ls0.length e, .slice C xs.length f, .slice D ys.length g, .int .i64 at_, .int .i64 wr, .int .i64 cu] S [] (fun _ _ v => v = .bool true) := by
  refine con_of (args := [.slice A ds0.length c, .slice B ls0.length e, .slice C xs.length f, .slice D ys.length g, .int .i64 at_, .int .i64 wr, .int .i64 cu]) Try.func3 rfl Try.ntmps3 rfl fun w => ?_
  have hSx : Sr S (.slice C xs.length f) xs := ⟨C, f, rfl, hl2, hC⟩
  have hSy : Sr S (.slice D ys.length g) ys := ⟨D, g, rfl, hl3, hD⟩
  (repeat (first | refine Jc ?_ | (apply z_call; rfl; rfl; rfl; exact sane_con _; rintro S1 _ v hle1 ⟨rfl, rfl⟩) | (apply s_minn; (case hg => rfl); (case hd => rfl); (case hx => rfl); (case hy => rfl)) | refine Jo ?_ | intro _))
  have hA1 : At S1 A ds0 := hA.le (by repeat (first | exact Le.refl _ | assumption | refine Le.trans ?_ (by assumption)))
  have hB1 : At S1 B ls0 := hB.le (by repeat (first | exact Le.refl _ | assumption | refine Le.trans ?_ (by assumption)))
  have e1 : min ds0.length 22 ≤ ds0.length := Nat.min_le_left _ _
  have e2 : min ls0.length 62 ≤ ls0.length := Nat.min_le_left _ _
  (repeat (first | refine Jc ?_ | (apply s_slice_hi hA1; (case hg => rfl); (case hd => rfl); (case hx => rfl); (case hy => rfl); (case hm => rfl); (case hmc => omega); (case hj => omega); intro A2 hA2) | (apply s_slice_hi hB1; (case hg => rfl); (case hd => rfl); (case hx => rfl); (case hy => rfl); (case hm => rfl); (case hmc => omega); (case hj => omega); intro B2 hB2) | (apply s_minn; (case hg => rfl); (case hd => rfl); (case hx => rfl); (case hy => rfl)) | refine Jo ?_ | intro _))
  refine c_loop (fun m S' L F => Le S1 S' ∧ L = [] ∧ ∃ (i : Nat) (ds : List Dep) (ls : List Tri) (vd vl : Value), m = 2 - i ∧ i ≤ 2 ∧ ds.length ≤ 22 ∧ ls.length ≤ 62 ∧ Sr S' vd ds ∧ Sr S' vl ls ∧
      F = [(2, .slice C xs.length f), (3, .slice D ys.length g), (4, .int .i64 at_), (5, .int .i64 wr), (6, .int .i64 cu), (15, .bool true), (16, vd), (17, vl), (18, .int .i64 i)])
      ⟨Le.refl _, rfl, 0, ds0.take (min ds0.length 22), ls0.take (min ls0.length 62), _, _, rfl, by omega, by simp; omega, by simp; omega, ⟨A2, c, rfl, by simp; omega, hA2⟩, ⟨B2, e, rfl, by simp; omega, hB2⟩, rfl⟩ (by repeat (first | exact Sub.nil rfl | exact Sub.marked rfl | refine Sub.cons rfl ?_)) (by repeat (first | exact List.Sublist.refl _ | exact List.Sublist.slnil | exact List.nil_sublist _ | exact List.sublist_append_left _ _ | refine List.Sublist.cons_cons _ ?_ | refine List.Sublist.append (List.Sublist.refl _) ?_ | refine List.Sublist.cons _ ?_)) ?_
  rintro m S' L F ⟨hle, rfl, i, ds, ls, vd, vl, rfl, hi, hdl, hll, hrd, hrl, rfl⟩
  by_cases hlt : i < 2
  rotate_left
  · (repeat (first | refine Jz ?_ | intro _))
    exact o_ret (L' := []) Try.results3 rfl (by repeat (first | exact List.Sublist.refl _ | exact List.Sublist.slnil | exact List.nil_sublist _ | exact List.sublist_append_left _ _ | refine List.Sublist.cons_cons _ ?_ | refine List.Sublist.append (List.Sublist.refl _) ?_ | refine List.Sublist.cons _ ?_)) rfl
  generalize hp1 : pick wr 4 = p1
  have a1 := actives_len ds at_
  have a2 := moms_len ds
  have hdl2 : ds.length ≤ 1000000 := by omega
  have hll2 : ls.length ≤ 1000000 := by omega
  (repeat (first | refine Jc ?_ | (apply z_call; rfl; rfl; rfl; exact active_g at_ (hrd.le (by repeat (first | exact Le.refl _ | assumption | refine Le.trans ?_ (by assumption)))) hdl2; rintro S2 _ v2 hle2 ⟨rfl, u2, rfl, h2⟩) | (apply z_call; rfl; rfl; rfl; exact ractive_g at_ (hrd.le (by repeat (first | exact Le.refl _ | assumption | refine Le.trans ?_ (by assumption)))) hdl2; rintro S3 _ v3 hle3 ⟨rfl, u3, rfl, h3⟩) | (apply z_call; rfl; rfl; rfl; exact moments_g (hrd.le (by repeat (first | exact Le.refl _ | assumption | refine Le.trans ?_ (by assumption)))) hdl2; rintro S4 _ v4 hle4 ⟨rfl, u4, rfl, h4⟩) | (apply z_call; rfl; rfl; rfl; exact rmoments_g (hrd.le (by repeat (first | exact Le.refl _ | assumption | refine Le.trans ?_ (by assumption)))) hdl2; rintro S5 _ v5 hle5 ⟨rfl, u5, rfl, h5⟩) | (apply z_call; rfl; rfl; rfl; exact valid_v rfl (hrd.le (by repeat (first | exact Le.refl _ | assumption | refine Le.trans ?_ (by assumption)))) (hrl.le (by repeat (first | exact Le.refl _ | assumption | refine Le.trans ?_ (by assumption)))) hdl2 hll2; rintro _ _ _ - ⟨rfl, rfl, rfl⟩) | (apply z_call; rfl; rfl; rfl; exact rvalid_v rfl (hrd.le (by repeat (first | exact Le.refl _ | assumption | refine Le.trans ?_ (by assumption)))) (hrl.le (by repeat (first | exact Le.refl _ | assumption | refine Le.trans ?_ (by assumption)))) hdl2 hll2; rintro _ _ _ - ⟨rfl, rfl, rfl⟩) | (apply s_neq_bs; (case hg => rfl); (case hd => rfl); (case hx => rfl); (case hy => rfl)) | (apply z_call; rfl; rfl; rfl; exact same_ok (h2.le (by repeat (first | exact Le.refl _ | assumption | refine Le.trans ?_ (by assumption)))) (h3.le (by repeat (first | exact Le.refl _ | assumption | refine Le.trans ?_ (by assumption)))) (if_len (by omega)); rintro _ _ _ - ⟨rfl, rfl, rfl⟩) | (apply z_call; rfl; rfl; rfl; exact same_ok (h4.le (by repeat (first | exact Le.refl _ | assumption | refine Le.trans ?_ (by assumption)))) (h5.le (by repeat (first | exact Le.refl _ | assumption | refine Le.trans ?_ (by assumption)))) (if_len (by omega)); rintro _ _ _ - ⟨rfl, rfl, rfl⟩) | (apply z_call; rfl; rfl; rfl; exact pick_c hp1 hwr (by decide); rintro _ _ _ - ⟨rfl, rfl, rfl⟩) | (apply s_buildSlice; (case hg => rfl); (case hd => rfl); (case hp => rfl); (case hq => rfl); (case hm => rfl); (case hv => rfl); (case hl => rfl); intro b6; refine W.freeze fun S6 hle6 hb6 => ?_) | refine Jo ?_ | intro _))
  have hT : At S6 (some ⟨b6, 0, none⟩) [wr, p1] := fun _ => ⟨_, rfl, pts_block hb6 rfl⟩
  refine c_meetB (fun S7 L7 F7 => Le S6 S7 ∧ L7 = [] ∧ F7 = [(2, .slice C xs.length f), (3, .slice D ys.length g), (4, .int .i64 at_), (5, .int .i64 wr), (6, .int .i64 cu), (15, .bool true), (16, vd), (17, vl), (18, .int .i64 i)]) ?_ ?_
  · refine c_loop (fun m S7 L7 F7 => Le S6 S7 ∧ L7 = [] ∧ ∃ k : Nat, m = 2 - k ∧ k ≤ 2 ∧ F7 = [(2, .slice C xs.length f), (3, .slice D ys.length g), (4, .int .i64 at_), (5, .int .i64 wr), (6, .int .i64 cu), (15, .bool true), (16, vd), (17, vl), (18, .int .i64 i), (116, .slice (some ⟨b6, 0, none⟩) 2 2), (117, .int .i64 (2 : Nat)), (118, .int .i64 k)]) ⟨Le.refl _, rfl, 0, rfl, by omega, rfl⟩ (by repeat (first | exact Sub.nil rfl | exact Sub.marked rfl | refine Sub.cons rfl ?_)) (by repeat (first | exact List.Sublist.refl _ | exact List.Sublist.slnil | exact List.nil_sublist _ | exact List.sublist_append_left _ _ | refine List.Sublist.cons_cons _ ?_ | refine List.Sublist.append (List.Sublist.refl _) ?_ | refine List.Sublist.cons _ ?_)) ?_
    rintro m S7 L7 F7 ⟨hle7, rfl, k, rfl, hk, rfl⟩
    by_cases hkl : k < 2
    rotate_left
    · (repeat (first | refine Jz ?_ | intro _))
      exact q_cut ⟨hle7, rfl, rfl⟩ (by repeat (first | exact Sub.nil rfl | exact Sub.marked rfl | refine Sub.cons rfl ?_)) (by repeat (first | exact List.Sublist.refl _ | exact List.Sublist.slnil | exact List.nil_sublist _ | exact List.sublist_append_left _ _ | refine List.Sublist.cons_cons _ ?_ | refine List.Sublist.append (List.Sublist.refl _) ?_ | refine List.Sublist.cons _ ?_))
    obtain ⟨q, hq⟩ := at_lt (show k < [wr, p1].length from hkl)
    have hT7 : At S7 _ [wr, p1] := hT.le hle7
    have a3 := cands_len' ds ls q
    (repeat (first | refine Jc ?_ | (apply s_idx hT7; (case hg => rfl); (case hd => rfl); (case hx => rfl); (case hi => rfl); (case hm => rfl); (case hu => exact hq); intro p (hp : Pts _ p [_])) | (apply s_load1; (case hg => rfl); (case hd => rfl); (case hx => rfl); (case hv => exact hp)) | (apply z_call; rfl; rfl; rfl; exact cands_g q (hrd.le (by repeat (first | exact Le.refl _ | assumption | refine Le.trans ?_ (by assumption)))) (hrl.le (by repeat (first | exact Le.refl _ | assumption | refine Le.trans ?_ (by assumption)))) hdl2 hll2; rintro S8 _ v8 hle8 ⟨rfl, u8, rfl, h8⟩) | (apply z_call; rfl; rfl; rfl; exact rcands_g q (hrd.le (by repeat (first | exact Le.refl _ | assumption | refine Le.trans ?_ (by assumption)))) (hrl.le (by repeat (first | exact Le.refl _ | assumption | refine Le.trans ?_ (by assumption)))) hdl2 hll2; rintro S9 _ v9 hle9 ⟨rfl, u9, rfl, h9⟩) | (apply z_call; rfl; rfl; rfl; exact next_g q (hrd.le (by repeat (first | exact Le.refl _ | assumption | refine Le.trans ?_ (by assumption)))) (hrl.le (by repeat (first | exact Le.refl _ | assumption | refine Le.trans ?_ (by assumption)))) hdl2 hll2; rintro S10 _ v10 hle10 ⟨rfl, _, rfl, rfl⟩) | (apply z_call; rfl; rfl; rfl; exact rnext_g q (hrd.le (by repeat (first | exact Le.refl _ | assumption | refine Le.trans ?_ (by assumption)))) (hrl.le (by repeat (first | exact Le.refl _ | assumption | refine Le.trans ?_ (by assumption)))) hdl2 hll2; rintro S11 _ v11 hle11 ⟨rfl, _, rfl, rfl⟩) | (apply z_call; rfl; rfl; rfl; exact same_ok (h8.le (by repeat (first | exact Le.refl _ | assumption | refine Le.trans ?_ (by assumption)))) (h9.le (by repeat (first | exact Le.refl _ | assumption | refine Le.trans ?_ (by assumption)))) (if_len (by omega)); rintro _ _ _ - ⟨rfl, rfl, rfl⟩) | refine Jo ?_ | intro _))
    exact q_back (m' := 2 - (k + 1)) ⟨(by repeat (first | exact Le.refl _ | assumption | refine Le.trans ?_ (by assumption))), rfl, k + 1, rfl, by omega, rfl⟩ (by omega) (by repeat (first | exact Sub.nil rfl | exact Sub.marked rfl | refine Sub.cons rfl ?_)) (by repeat (first | exact List.Sublist.refl _ | exact List.Sublist.slnil | exact List.nil_sublist _ | exact List.sublist_append_left _ _ | refine List.Sublist.cons_cons _ ?_ | refine List.Sublist.append (List.Sublist.refl _) ?_ | refine List.Sublist.cons _ ?_))
  rintro S7 L7 F7 ⟨hle7, rfl, rfl⟩
  have a4 := classes_len ds
  have a5 := cands_len' ds (search ds cu.toNat) 0
  have a6 : (if validB ds [] && inB cu 0 (ds.length - 1) then times (search ds cu.toNat) else []).length ≤ 1000000 := by
    cases hb : validB ds [] && inB cu 0 (ds.length - 1)
    · simp
    · simp only [Bool.and_eq_true] at hb
      have := (search_true (k := cu.toNat) hb.1).len
      simp [times]; omega
  have a7 : (if validB ds [] then classes ds else []).length ≤ 1000000 ∧ ∀ r ∈ (if validB ds [] then classes ds else []), r.length ≤ 1000000 := by
    cases validB ds []
    · simp
    · exact ⟨by have := a4.1; simp; omega, fun r hr => by have := a4.2 r (by simpa using hr); omega⟩
  (repeat (first | refine Jc ?_ | (apply z_call; rfl; rfl; rfl; exact classes_g (hrd.le (by repeat (first | exact Le.refl _ | assumption | refine Le.trans ?_ (by assumption)))) hdl2; rintro S8 _ v8 hle8 ⟨rfl, u8, rfl, h8⟩) | (apply z_call; rfl; rfl; rfl; exact rclasses_g (hrd.le (by repeat (first | exact Le.refl _ | assumption | refine Le.trans ?_ (by assumption)))) hdl2; rintro S9 _ v9 hle9 ⟨rfl, u9, rfl, h9⟩) | (apply z_call; rfl; rfl; rfl; exact search_g cu (hrd.le (by repeat (first | exact Le.refl _ | assumption | refine Le.trans ?_ (by assumption)))) hdl2; rintro S10 _ v10 hle10 ⟨rfl, u10, w10, rfl, h10, g10⟩) | (apply z_call; rfl; rfl; rfl; exact rsearch_g cu (hrd.le (by repeat (first | exact Le.refl _ | assumption | refine Le.trans ?_ (by assumption)))) hdl2; rintro S11 _ v11 hle11 ⟨rfl, u11, w11, rfl, h11, g11⟩) | (apply z_call; rfl; rfl; rfl; exact sameAll_ok (h8.le (by repeat (first | exact Le.refl _ | assumption | refine Le.trans ?_ (by assumption)))) (h9.le (by repeat (first | exact Le.refl _ | assumption | refine Le.trans ?_ (by assumption)))) a7.1 a7.2; rintro _ _ _ - ⟨rfl, rfl, rfl⟩) | (apply z_call; rfl; rfl; rfl; exact same_ok (h10.le (by repeat (first | exact Le.refl _ | assumption | refine Le.trans ?_ (by assumption)))) (h11.le (by repeat (first | exact Le.refl _ | assumption | refine Le.trans ?_ (by assumption)))) a6; rintro _ _ _ - ⟨rfl, rfl, rfl⟩) | (apply z_call; rfl; rfl; rfl; exact same_ok (g10.le (by repeat (first | exact Le.refl _ | assumption | refine Le.trans ?_ (by assumption)))) (g11.le (by repeat (first | exact Le.refl _ | assumption | refine Le.trans ?_ (by assumption)))) (if_len (by omega)); rintro _ _ _ - ⟨rfl, rfl, rfl⟩) | refine Jo ?_ | intro _))
  have mn := made_len xs
  obtain ⟨BL, eL, rfl, heL, hBL⟩ := hrl
  by_cases h0 : (made xs).length = 0
  · (repeat (first | refine Jc ?_ | (apply z_call; rfl; rfl; rfl; exact made_v hx (hSx.le (by repeat (first | exact Le.refl _ | assumption | refine Le.trans ?_ (by assumption)))); rintro S12 _ v12 hle12 ⟨rfl, D12, c12, rfl, hc12, hD12⟩) | refine Jo ?_ | intro _))
    exact o_ret (L' := []) Try.results3 rfl (by repeat (first | exact List.Sublist.refl _ | exact List.Sublist.slnil | exact List.nil_sublist _ | exact List.sublist_append_left _ _ | refine List.Sublist.cons_cons _ ?_ | refine List.Sublist.append (List.Sublist.refl _) ?_ | refine List.Sublist.cons _ ?_)) rfl
  obtain ⟨kc, hkc, hkc2⟩ := pick_nat cu (made xs).length (by omega)
  obtain ⟨d, hd⟩ := at_lt hkc2
  have htl := trials_len d ys 1
  (repeat (first | refine Jc ?_ | (apply z_call; rfl; rfl; rfl; exact made_v hx (hSx.le (by repeat (first | exact Le.refl _ | assumption | refine Le.trans ?_ (by assumption)))); rintro S12 _ v12 hle12 ⟨rfl, D12, c12, rfl, hc12, hD12⟩) | refine Jo ?_ | intro _))
  have hBL12 : At S12 BL ls := hBL.le (by repeat (first | exact Le.refl _ | assumption | refine Le.trans ?_ (by assumption)))
  have hD' : At S12 D ys := hD.le (by repeat (first | exact Le.refl _ | assumption | refine Le.trans ?_ (by assumption)))
  have e3 : min ls.length 3 ≤ ls.length := Nat.min_le_left _ _
  have e4 : (ls.take (min ls.length 3)).length ≤ 3 := by simp; omega
  ((apply c_held ([]); (case hL => (repeat (first | exact List.Sublist.refl _ | exact List.Sublist.slnil | exact List.nil_sublist _ | exact List.sublist_append_left _ _ | apply List.Sublist.cons_cons | (apply List.Sublist.append; exact List.Sublist.refl _) | apply List.Sublist.cons)))); (first | (apply h_first 0; (case hi => rfl); (case hr => kernel_rfl); (case hfr => kernel_rfl); (case hsel => kernel_rfl); (case hg => rfl); (case hd => rfl); (case he => (apply ev_minn; (case hx => rfl); (case hy => rfl)))) | (apply h_slice_hi hBL12 0; (case hi => rfl); (case hr => kernel_rfl); (case hfr => kernel_rfl); (case hsel => kernel_rfl); (case hg => rfl); (case hd => rfl); (case i1 => infer_instance); (case i2 => infer_instance); (case hx => rfl); (case hy => rfl); (case hm => rfl); (case hmc => omega); (case hj => omega); intro A13 hA13) | refine Jf 0 ?_); (first | (apply h_first 1; (case hi => rfl); (case hr => kernel_rfl); (case hfr => kernel_rfl); (case hsel => kernel_rfl); (case hg => rfl); (case hd => rfl); (case he => (apply ev_minn; (case hx => rfl); (case hy => rfl)))) | (apply h_slice_hi hBL12 1; (case hi => rfl); (case hr => kernel_rfl); (case hfr => kernel_rfl); (case hsel => kernel_rfl); (case hg => rfl); (case hd => rfl); (case i1 => infer_instance); (case i2 => infer_instance); (case hx => rfl); (case hy => rfl); (case hm => rfl); (case hmc => omega); (case hj => omega); intro A13 hA13) | refine Jf 1 ?_); (first | (apply h_first 2; (case hi => rfl); (case hr => kernel_rfl); (case hfr => kernel_rfl); (case hsel => kernel_rfl); (case hg => rfl); (case hd => rfl); (case he => (apply ev_minn; (case hx => rfl); (case hy => rfl)))) | (apply h_slice_hi hBL12 2; (case hi => rfl); (case hr => kernel_rfl); (case hfr => kernel_rfl); (case hsel => kernel_rfl); (case hg => rfl); (case hd => rfl); (case i1 => infer_instance); (case i2 => infer_instance); (case hx => rfl); (case hy => rfl); (case hm => rfl); (case hmc => omega); (case hj => omega); intro A13 hA13) | refine Jf 2 ?_); (first | (apply h_first 3; (case hi => rfl); (case hr => kernel_rfl); (case hfr => kernel_rfl); (case hsel => kernel_rfl); (case hg => rfl); (case hd => rfl); (case he => (apply ev_minn; (case hx => rfl); (case hy => rfl)))) | (apply h_slice_hi hBL12 3; (case hi => rfl); (case hr => kernel_rfl); (case hfr => kernel_rfl); (case hsel => kernel_rfl); (case hg => rfl); (case hd => rfl); (case i1 => infer_instance); (case i2 => infer_instance); (case hx => rfl); (case hy => rfl); (case hm => rfl); (case hmc => omega); (case hj => omega); intro A13 hA13) | refine Jf 3 ?_); (first | (apply h_first 5; (case hi => rfl); (case hr => kernel_rfl); (case hfr => kernel_rfl); (case hsel => kernel_rfl); (case hg => rfl); (case hd => rfl); (case he => (apply ev_minn; (case hx => rfl); (case hy => rfl)))) | (apply h_slice_hi hBL12 5; (case hi => rfl); (case hr => kernel_rfl); (case hfr => kernel_rfl); (case hsel => kernel_rfl); (case hg => rfl); (case hd => rfl); (case i1 => infer_instance); (case i2 => infer_instance); (case hx => rfl); (case hy => rfl); (case hm => rfl); (case hmc => omega); (case hj => omega); intro A13 hA13) | refine Jf 5 ?_); (first | (apply h_first 7; (case hi => rfl); (case hr => kernel_rfl); (case hfr => kernel_rfl); (case hsel => kernel_rfl); (case hg => rfl); (case hd => rfl); (case he => (apply ev_minn; (case hx => rfl); (case hy => rfl)))) | (apply h_slice_hi hBL12 7; (case hi => rfl); (case hr => kernel_rfl); (case hfr => kernel_rfl); (case hsel => kernel_rfl); (case hg => rfl); (case hd => rfl); (case i1 => infer_instance); (case i2 => infer_instance); (case hx => rfl); (case hy => rfl); (case hm => rfl); (case hmc => omega); (case hj => omega); intro A13 hA13) | refine Jf 7 ?_); (first | (apply h_first 8; (case hi => rfl); (case hr => kernel_rfl); (case hfr => kernel_rfl); (case hsel => kernel_rfl); (case hg => rfl); (case hd => rfl); (case he => (apply ev_minn; (case hx => rfl); (case hy => rfl)))) | (apply h_slice_hi hBL12 8; (case hi => rfl); (case hr => kernel_rfl); (case hfr => kernel_rfl); (case hsel => kernel_rfl); (case hg => rfl); (case hd => rfl); (case i1 => infer_instance); (case i2 => infer_instance); (case hx => rfl); (case hy => rfl); (case hm => rfl); (case hmc => omega); (case hj => omega); intro A13 hA13) | refine Jf 8 ?_); (first | (apply h_first 9; (case hi => rfl); (case hr => kernel_rfl); (case hfr => kernel_rfl); (case hsel => kernel_rfl); (case hg => rfl); (case hd => rfl); (case he => (apply ev_minn; (case hx => rfl); (case hy => rfl)))) | (apply h_slice_hi hBL12 9; (case hi => rfl); (case hr => kernel_rfl); (case hfr => kernel_rfl); (case hsel => kernel_rfl); (case hg => rfl); (case hd => rfl); (case i1 => infer_instance); (case i2 => infer_instance); (case hx => rfl); (case hy => rfl); (case hm => rfl); (case hmc => omega); (case hj => omega); intro A13 hA13) | refine Jf 9 ?_); (first | (apply h_first 10; (case hi => rfl); (case hr => kernel_rfl); (case hfr => kernel_rfl); (case hsel => kernel_rfl); (case hg => rfl); (case hd => rfl); (case he => (apply ev_minn; (case hx => rfl); (case hy => rfl)))) | (apply h_slice_hi hBL12 10; (case hi => rfl); (case hr => kernel_rfl); (case hfr => kernel_rfl); (case hsel => kernel_rfl); (case hg => rfl); (case hd => rfl); (case i1 => infer_instance); (case i2 => infer_instance); (case hx => rfl); (case hy => rfl); (case hm => rfl); (case hmc => omega); (case hj => omega); intro A13 hA13) | refine Jf 10 ?_); (first | (apply h_first 11; (case hi => rfl); (case hr => kernel_rfl); (case hfr => kernel_rfl); (case hsel => kernel_rfl); (case hg => rfl); (case hd => rfl); (case he => (apply ev_minn; (case hx => rfl); (case hy => rfl)))) | (apply h_slice_hi hBL12 11; (case hi => rfl); (case hr => kernel_rfl); (case hfr => kernel_rfl); (case hsel => kernel_rfl); (case hg => rfl); (case hd => rfl); (case i1 => infer_instance); (case i2 => infer_instance); (case hx => rfl); (case hy => rfl); (case hm => rfl); (case hmc => omega); (case hj => omega); intro A13 hA13) | refine Jf 11 ?_); (apply h_one 4; (case hr => kernel_rfl)); (first | (apply n_call; (case hi => rfl); (case i1 => infer_instance); (case hg => rfl); (case hd => rfl); (case ha => rfl); (case hc => exact pick_c hkc hcu (by omega)); (case hL => (repeat (first | exact pm_nil _ | exact pm_refl _ _ | exact pm_self _ | apply pm_cons | apply pm_app))); (case hsub => (intros; (repeat (first | exact List.Sublist.refl _ | exact List.Sublist.slnil | exact List.nil_sublist _ | exact List.sublist_append_left _ _ | apply List.Sublist.cons_cons | (apply List.Sublist.append; exact List.Sublist.refl _) | apply List.Sublist.cons)))); rintro _ _ _ - ⟨rfl, rfl, rfl⟩) | (apply n_call; (case hi => rfl); (case i1 => infer_instance); (case hg => rfl); (case hd => rfl); (case ha => rfl); (case hc => exact trials_own (made xs) kc d hd ys hy 1 (by decide) D12 D c12 g _ hD12 hD'); (case hL => (repeat (first | exact pm_nil _ | exact pm_refl _ _ | exact pm_self _ | apply pm_cons | apply pm_app))); (case hsub => (intros; (repeat (first | exact List.Sublist.refl _ | exact List.Sublist.slnil | exact List.nil_sublist _ | exact List.sublist_append_left _ _ | apply List.Sublist.cons_cons | (apply List.Sublist.append; exact List.Sublist.refl _) | apply List.Sublist.cons)))); rintro S14 ob14 v14 hle14 ho14) | (apply n_append_st (ms := ls.take (min ls.length 3)) (hA13.le hle14); (case hi => rfl); (case hT => infer_instance); (case hsz => infer_instance); (case hz => infer_instance); (case hby => infer_instance); (case hg => rfl); (case hd => rfl); (case hx => rfl); (case ho => exact ho14); (case hL => (repeat (first | exact pm_nil _ | exact pm_refl _ _ | exact pm_self _ | apply pm_cons | apply pm_app))); (case hy => rfl); (case hm => first | rfl | simp); (case hzs => rfl); (case h0 => decide); (case hb => first | (simp; omega) | simp); (case h63 => first | (simp; omega) | simp); (case hsub => (intro _ _; exact List.nil_sublist _)); intro v15 ob15 ho15) | (refine Jn ?_; try intro _)); (apply h_one 6; (case hr => kernel_rfl)); (first | (apply n_call; (case hi => rfl); (case i1 => infer_instance); (case hg => rfl); (case hd => rfl); (case ha => rfl); (case hc => exact pick_c hkc hcu (by omega)); (case hL => (repeat (first | exact pm_nil _ | exact pm_refl _ _ | exact pm_self _ | apply pm_cons | apply pm_app))); (case hsub => (intros; (repeat (first | exact List.Sublist.refl _ | exact List.Sublist.slnil | exact List.nil_sublist _ | exact List.sublist_append_left _ _ | apply List.Sublist.cons_cons | (apply List.Sublist.append; exact List.Sublist.refl _) | apply List.Sublist.cons)))); rintro _ _ _ - ⟨rfl, rfl, rfl⟩) | (apply n_call; (case hi => rfl); (case i1 => infer_instance); (case hg => rfl); (case hd => rfl); (case ha => rfl); (case hc => exact trials_own (made xs) kc d hd ys hy 1 (by decide) D12 D c12 g _ hD12 hD'); (case hL => (repeat (first | exact pm_nil _ | exact pm_refl _ _ | exact pm_self _ | apply pm_cons | apply pm_app))); (case hsub => (intros; (repeat (first | exact List.Sublist.refl _ | exact List.Sublist.slnil | exact List.nil_sublist _ | exact List.sublist_append_left _ _ | apply List.Sublist.cons_cons | (apply List.Sublist.append; exact List.Sublist.refl _) | apply List.Sublist.cons)))); rintro S14 ob14 v14 hle14 ho14) | (apply n_append_st (ms := ls.take (min ls.length 3)) (hA13.le hle14); (case hi => rfl); (case hT => infer_instance); (case hsz => infer_instance); (case hz => infer_instance); (case hby => infer_instance); (case hg => rfl); (case hd => rfl); (case hx => rfl); (case ho => exact ho14); (case hL => (repeat (first | exact pm_nil _ | exact pm_refl _ _ | exact pm_self _ | apply pm_cons | apply pm_app))); (case hy => rfl); (case hm => first | rfl | simp); (case hzs => rfl); (case h0 => decide); (case hb => first | (simp; omega) | simp); (case h63 => first | (simp; omega) | simp); (case hsub => (intro _ _; exact List.nil_sublist _)); intro v15 ob15 ho15) | (refine Jn ?_; try intro _)); (apply h_one 12; (case hr => kernel_rfl)); (first | (apply n_call; (case hi => rfl); (case i1 => infer_instance); (case hg => rfl); (case hd => rfl); (case ha => rfl); (case hc => exact pick_c hkc hcu (by omega)); (case hL => (repeat (first | exact pm_nil _ | exact pm_refl _ _ | exact pm_self _ | apply pm_cons | apply pm_app))); (case hsub => (intros; (repeat (first | exact List.Sublist.refl _ | exact List.Sublist.slnil | exact List.nil_sublist _ | exact List.sublist_append_left _ _ | apply List.Sublist.cons_cons | (apply List.Sublist.append; exact List.Sublist.refl _) | apply List.Sublist.cons)))); rintro _ _ _ - ⟨rfl, rfl, rfl⟩) | (apply n_call; (case hi => rfl); (case i1 => infer_instance); (case hg => rfl); (case hd => rfl); (case ha => rfl); (case hc => exact trials_own (made xs) kc d hd ys hy 1 (by decide) D12 D c12 g _ hD12 hD'); (case hL => (repeat (first | exact pm_nil _ | exact pm_refl _ _ | exact pm_self _ | apply pm_cons | apply pm_app))); (case hsub => (intros; (repeat (first | exact List.Sublist.refl _ | exact List.Sublist.slnil | exact List.nil_sublist _ | exact List.sublist_append_left _ _ | apply List.Sublist.cons_cons | (apply List.Sublist.append; exact List.Sublist.refl _) | apply List.Sublist.cons)))); rintro S14 ob14 v14 hle14 ho14) | (apply n_append_st (ms := ls.take (min ls.length 3)) (hA13.le hle14); (case hi => rfl); (case hT => infer_instance); (case hsz => infer_instance); (case hz => infer_instance); (case hby => infer_instance); (case hg => rfl); (case hd => rfl); (case hx => rfl); (case ho => exact ho14); (case hL => (repeat (first | exact pm_nil _ | exact pm_refl _ _ | exact pm_self _ | apply pm_cons | apply pm_app))); (case hy => rfl); (case hm => first | rfl | simp); (case hzs => rfl); (case h0 => decide); (case hb => first | (simp; omega) | simp); (case h63 => first | (simp; omega) | simp); (case hsub => (intro _ _; exact List.nil_sublist _)); intro v15 ob15 ho15) | (refine Jn ?_; try intro _)); (first | (apply h_first 13; (case hi => rfl); (case hr => kernel_rfl); (case hfr => kernel_rfl); (case hsel => kernel_rfl); (case hg => rfl); (case hd => rfl); (case he => (apply ev_minn; (case hx => rfl); (case hy => rfl)))) | (apply h_slice_hi hBL12 13; (case hi => rfl); (case hr => kernel_rfl); (case hfr => kernel_rfl); (case hsel => kernel_rfl); (case hg => rfl); (case hd => rfl); (case i1 => infer_instance); (case i2 => infer_instance); (case hx => rfl); (case hy => rfl); (case hm => rfl); (case hmc => omega); (case hj => omega); intro A13 hA13) | refine Jf 13 ?_); (apply h_end; (case hr => kernel_rfl)))
  (repeat (first | refine Jz ?_ | intro _))
  refine W.freezeOws ho15 (by repeat (first | exact pm_nil _ | exact pm_refl _ _ | exact pm_self _ | refine pm_cons ?_ | refine pm_app ?_)) fun S16 hle16 hr16 => ?_
  exact q_back (m' := 2 - (i + 1)) ⟨(by repeat (first | exact Le.refl _ | assumption | refine Le.trans ?_ (by assumption))), rfl, i + 1, made xs, _, _, _, rfl, by omega, by omega, by rw [List.length_append]; omega, ⟨D12, c12, rfl, hc12, hD12.le (by repeat (first | exact Le.refl _ | assumption | refine Le.trans ?_ (by assumption)))⟩, hr16, rfl⟩ (by omega) (by repeat (first | exact Sub.nil rfl | exact Sub.marked rfl | refine Sub.cons rfl ?_)) (by repeat (first | exact List.Sublist.refl _ | exact List.Sublist.slnil | exact List.nil_sublist _ | exact List.sublist_append_left _ _ | refine List.Sublist.cons_cons _ ?_ | refine List.Sublist.append (List.Sublist.refl _) ?_ | refine List.Sublist.cons _ ?_))
end Go.Proofs.Ytmonkjbhoabhhaa
namespace Go.Proofs.Ytmonkjbhoabhhaa
open Go Go.X
open Go.ChangeShapes Go.WideShapes Go.ChangeAt Go.RowKit
set_option linter.unusedVariables false
set_option maxRecDepth 100000 in
theorem lifted3 (os : Os) (started : os.Started) (H : Type) (enc : TypeId × Value → H) :
    ReturnsInHanded {} Try.checked os 3 .any (Rows.bisectMatchesReferenceSpec.pre6 enc Try.prog Try.f3 Rows.bisectMatchesReferenceRow.domain false) (Rows.bisectMatchesReferenceSpec.post enc Try.prog Try.f3 false true false false) := by
  refine returnsInHanded_of_change (C := Try.checked) own started (by kernel_rfl) Try.func3
    (ChangeSpec.witness6 (enc := enc) (C := Try.checked) false ⟨#[], #[.slice none 0 0, .slice none 0 0, .slice none 0 0, .slice none 0 0, .int .i64 0, .int .i64 0, .int .i64 0], []⟩ 8 (by kernel_rfl) (by kernel_rfl) (by kernel_rfl) (by kernel_rfl)) ?_
  intro W base args ds gs before hval0 hW hcnd _
  have hval : ∀ (j : Nat) t v, Try.f3.params[j]? = some t → args[j]? = some v → Value.okWide Try.prog W .any base t v := hval0
  have hW' := hW
  obtain ⟨p, q, hA0, hV, rfl, hfz, hnd⟩ := hW
  have hA : DataW.TrodAll enc Try.prog W 0 (fun _ => true) true Try.f3.params.toList args.toList ds p := hA0
  rw [Try.params3] at hA hval
  obtain ⟨v0, vs0, d0, ds0, p0, q0, hargs, rfl, rfl, h0, r0⟩ := trodAll_cons hA
  obtain ⟨v1, vs1, d1, ds1, p1, q1, rfl, rfl, rfl, h1, r1⟩ := trodAll_cons r0
  obtain ⟨v2, vs2, d2, ds2, p2, q2, rfl, rfl, rfl, h2, r2⟩ := trodAll_cons r1
  obtain ⟨v3, vs3, d3, ds3, p3, q3, rfl, rfl, rfl, h3, r3⟩ := trodAll_cons r2
  obtain ⟨v4, vs4, d4, ds4, p4, q4, rfl, rfl, rfl, h4, r4⟩ := trodAll_cons r3
  obtain ⟨v5, vs5, d5, ds5, p5, q5, rfl, rfl, rfl, h5, r5⟩ := trodAll_cons r4
  obtain ⟨v6, vs6, d6, ds6, p6, q6, rfl, rfl, rfl, h6, r6⟩ := trodAll_cons r5
  obtain ⟨rfl, rfl, rfl⟩ := trodAll_nil r6
  obtain rfl : args = #[v0, v1, v2, v3, v4, v5, v6] := by cases args; simp_all
  obtain ⟨rfl, rfl⟩ := trodVars_none hV
  have k0 := h0
  have lt0 : ∀ x ∈ p0, x.block < W.heap.size := by obtain ⟨m, hm⟩ := k0; exact DataW.trod_lt m _ _ _ hm
  have k1 := h1
  have lt1 : ∀ x ∈ p1, x.block < W.heap.size := by obtain ⟨m, hm⟩ := k1; exact DataW.trod_lt m _ _ _ hm
  have k2 := h2
  have lt2 : ∀ x ∈ p2, x.block < W.heap.size := by obtain ⟨m, hm⟩ := k2; exact DataW.trod_lt m _ _ _ hm
  have k3 := h3
  have lt3 : ∀ x ∈ p3, x.block < W.heap.size := by obtain ⟨m, hm⟩ := k3; exact DataW.trod_lt m _ _ _ hm
  have k4 := h4
  have lt4 : ∀ x ∈ p4, x.block < W.heap.size := by obtain ⟨m, hm⟩ := k4; exact DataW.trod_lt m _ _ _ hm
  have k5 := h5
  have lt5 : ∀ x ∈ p5, x.block < W.heap.size := by obtain ⟨m, hm⟩ := k5; exact DataW.trod_lt m _ _ _ hm
  have k6 := h6
  have lt6 : ∀ x ∈ p6, x.block < W.heap.size := by obtain ⟨m, hm⟩ := k6; exact DataW.trod_lt m _ _ _ hm
  obtain ⟨a0, len0, cap0, rfl⟩ := okWide_slice Try.underlying22 (hval 0 22 v0 rfl rfl)
  obtain ⟨xs0, rfl, gl0, gA0, gx0⟩ := open_sl (α := Dep) Try.underlying22 (by kernel_rfl) rdb_Dep rfl h0
  obtain ⟨a1, len1, cap1, rfl⟩ := okWide_slice Try.underlying23 (hval 1 23 v1 rfl rfl)
  obtain ⟨xs1, rfl, gl1, gA1, gx1⟩ := open_sl (α := Tri) Try.underlying23 (by kernel_rfl) rdb_Tri rfl h1
  obtain ⟨a2, len2, cap2, rfl⟩ := okWide_slice Try.underlying24 (hval 2 24 v2 rfl rfl)
  obtain ⟨xs2, rfl, gl2, gA2, gx2⟩ := open_sl (α := T3) Try.underlying24 (by kernel_rfl) rdb_T3 rfl h2
  obtain ⟨a3, len3, cap3, rfl⟩ := okWide_slice Try.underlying25 (hval 3 25 v3 rfl rfl)
  obtain ⟨xs3, rfl, gl3, gA3, gx3⟩ := open_sl (α := T2) Try.underlying25 (by kernel_rfl) rdb_T2 rfl h3
  obtain ⟨a4, rfl, e1_4, e2_4, w4⟩ := open_int Try.underlying3 (hval 4 3 v4 rfl rfl) h4
  obtain ⟨a5, rfl, e1_5, e2_5, w5⟩ := open_int Try.underlying3 (hval 5 3 v5 rfl rfl) h5
  obtain ⟨a6, rfl, e1_6, e2_6, w6⟩ := open_int Try.underlying3 (hval 6 3 v6 rfl rfl) h6
  refine (calls_of_con (f3_law xs0 a0 cap0 xs1 a1 cap1 xs2 a2 cap2 xs3 a3 cap3 a4 a5 a6 (allOf W) gA0 gl0 gx0 gA1 gl1 gx1 gA2 gl2 gx2 gA3 gl3 gx3 (i64_wf w4) (i64_wf w5) (i64_wf w6)) fun _ _ _ h => h).mono fun e W' ⟨he, bel⟩ => ?_
  subst he
  exact ⟨_, rfl, _, _, _, [], _, [], hW', trodAll_mk1 (shut_bool Try.underlying4 _), (trodAll_cons_mk (Below.trod laidOut (by kernel_rfl) (of_decide_eq_true (by kernel_rfl)) k0 bel lt0) (trodAll_cons_mk (Below.trod laidOut (by kernel_rfl) (of_decide_eq_true (by kernel_rfl)) k1 bel lt1) (trodAll_cons_mk (Below.trod laidOut (by kernel_rfl) (of_decide_eq_true (by kernel_rfl)) k2 bel lt2) (trodAll_cons_mk (Below.trod laidOut (by kernel_rfl) (of_decide_eq_true (by kernel_rfl)) k3 bel lt3) (trodAll_cons_mk (Below.trod laidOut (by kernel_rfl) (of_decide_eq_true (by kernel_rfl)) k4 bel lt4) (trodAll_cons_mk (Below.trod laidOut (by kernel_rfl) (of_decide_eq_true (by kernel_rfl)) k5 bel lt5) (trodAll_cons_mk (Below.trod laidOut (by kernel_rfl) (of_decide_eq_true (by kernel_rfl)) k6 bel lt6) trodAll_mk0))))))), rfl, bel.frame _, fun h => by cases h⟩
theorem over3 : Rows.bisectMatchesReferenceRow.holds Try.pinned (OpenSpec.ofChange Rows.bisectMatchesReferenceSpec) :=
  OpenClaim.holds_of_wide 3 Try.f3 rfl rfl rfl rfl rfl rfl rfl ⟨rfl, rfl, rfl, rfl, rfl⟩ rfl rfl rfl rfl rfl (by kernel_rfl) Try.func3 (by kernel_rfl)
    (of_decide_eq_true (by kernel_rfl)) (by unfold Func.isWrapper; rw [if_neg (of_decide_eq_false (by kernel_rfl))]; exact ⟨rfl, rfl⟩)
    (fun os started H enc _ => lifted3 os started H enc)
theorem bisectMatchesReference_holds : Rows.BisectMatchesReferenceSaid := over3
#print axioms bisectMatchesReference_holds
end Go.Proofs.Ytmonkjbhoabhhaa
