/- ProfileTreesMatchReference returns true for every input, and each argument reads afterwards as it read before; no condition. -/
import Derived.Test.YtcnfchchanlepaaGreatBe
import Derived.Test.YtcnfchchanlepaaGreatBc
import Derived.Test.YtcnfchchanlepaaGreatBd
import Derived.Test.YtcnfchchanlepaaGreatXB
import Derived.Test.YtcnfchchanlepaaGreatXA
import Derived.Test.YtcnfchchanlepaaGreatBa
namespace Go.Proofs.YtcnfchchanlepaaGreat
open Go Go.X
set_option linter.unusedVariables false
/-- What a node's kids before node k leave of its total. -/
def kidT (ns : List Nd) (i k : Nat) : Int := (((ns.take k).drop (i + 1)).map fun n => if n.parent = (i : Int) then n.total else 0).sum
def rstN (ns : List Nd) (i k : Nat) : Int := match ns[i]? with | none => 0 | some n => n.total - n.own - kidT ns i k
theorem kidT_step {ns : List Nd} {k : Nat} {n : Nd} (hn : ns[k]? = some n) (i : Nat) : kidT ns i (k + 1) = kidT ns i k + if i < k ∧ n.parent = (i : Int) then n.total else 0 := by
  have hk := (List.getElem?_eq_some_iff.1 hn).1
  unfold kidT
  by_cases h : i < k
  · rw [take_at hn, List.drop_append_of_le_length (by rw [List.length_take]; omega), List.map_append, List.sum_append]
    by_cases hp : n.parent = (i : Int)
    · rw [if_pos ⟨h, hp⟩]; simp [hp]
    · rw [if_neg fun h => hp h.2]; simp [hp]
  · rw [List.drop_eq_nil_of_le (by rw [List.length_take]; omega), List.drop_eq_nil_of_le (by rw [List.length_take]; omega), if_neg fun h2 => h h2.1]; rfl
theorem kidT_own (ns : List Nd) (i : Nat) : kidT ns i (i + 1) = 0 := by
  unfold kidT
  rw [List.drop_eq_nil_of_le (by rw [List.length_take]; omega)]; rfl
theorem rstN_at {ns : List Nd} {i : Nat} {n : Nd} (h : ns[i]? = some n) (k : Nat) : rstN ns i k = n.total - n.own - kidT ns i k := by unfold rstN; rw [h]
theorem rstN_step {ns : List Nd} {k : Nat} {n : Nd} (hn : ns[k]? = some n) {i : Nat} (hi : i < ns.length) : rstN ns i (k + 1) = rstN ns i k - if i < k ∧ n.parent = (i : Int) then n.total else 0 := by
  obtain ⟨m, hm⟩ := at_lt hi
  rw [rstN_at hm, rstN_at hm, kidT_step hn]; omega
theorem rstN_mono {ns : List Nd} (h : ∀ j n, 0 < j → ns[j]? = some n → 0 ≤ n.total) {i : Nat} (hi : i < ns.length) : ∀ (m k : Nat), k + m = ns.length → rstN ns i ns.length ≤ rstN ns i k
  | 0, k, hk => by rw [← hk]; exact Int.le_refl _
  | m + 1, k, hk => by
    obtain ⟨n, hn⟩ := at_lt (show k < ns.length by omega)
    have h1 := rstN_mono h hi m (k + 1) (by omega)
    rw [rstN_step hn hi] at h1
    split at h1
    · rename_i h2
      have := h k n (by omega) hn
      omega
    · omega
def nodeN (ps : List (List Bs)) (i : Nat) (n : Nd) : Prop :=
  inB n.own 0 1125899906842624 = true ∧ inB n.total (if i = 0 then 0 else 1) 1125899906842624 = true ∧ (ps.getD i []).length ≤ 12 ∧ (0 < i → ¬ (n.name ≠ [63] ∧ nameB n.name = false) ∧ ps.getD (i - 1) [] < ps.getD i [])
/-- A tree is valid, as the reference implementation says it. -/
def RV (ns : List Nd) : Prop := 1 ≤ ns.length ∧ ns.length ≤ 2000 ∧ ∃ ps, rpF ns = some ps ∧ ∀ i n, ns[i]? = some n → nodeN ps i n ∧ rstN ns i ns.length = 0
theorem getD_pre {ps ps' : List (List Bs)} (h : ps <+: ps') {i : Nat} (hi : i < ps.length) : ps'.getD i [] = ps.getD i [] := by
  obtain ⟨t, rfl⟩ := h
  rw [List.getD_eq_getElem?_getD, List.getD_eq_getElem?_getD, List.getElem?_append_left hi]
theorem rpA_pre : ∀ {ns : List Nd} {k : Nat} {ps ps' : List (List Bs)}, rpA ns k ps = some ps' → ps <+: ps' ∧ ps'.length = ps.length + ns.length
  | [], k, ps, ps', h => by
    obtain rfl := Option.some.inj h
    exact ⟨List.prefix_refl _, rfl⟩
  | n :: ns, k, ps, ps', h => by
    rw [rpA] at h
    cases h1 : rpN k n ps with
    | none => rw [h1] at h; cases h
    | some q =>
      rw [h1] at h
      obtain ⟨h2, h3⟩ := rpA_pre (ns := ns) h
      have h4 : ∃ x, q = ps ++ [x] := by
        unfold rpN at h1
        split at h1
        · split at h1
          · cases h1
          · exact ⟨_, (Option.some.inj h1).symm⟩
        · split at h1
          · cases h1
          · exact ⟨_, (Option.some.inj h1).symm⟩
      obtain ⟨x, rfl⟩ := h4
      refine ⟨(List.prefix_append _ _).trans h2, ?_⟩
      simp at h3 ⊢; omega
/-- One node on, in both scans. -/
structure St2 (ns : List Nd) (k : Nat) (ps : List (List Bs)) (rs : List Int) : Prop where
  lp : ps.length = k
  lr : rs.length = k
  rs : ∀ i, i < k → rs[i]? = some (rstN ns i k)
theorem set_rst {ns : List Nd} {k : Nat} {n : Nd} {ps : List (List Bs)} {rs : List Int} (h : St2 ns k ps rs) (hn : ns[k]? = some n) (hp : 0 ≤ n.parent ∧ n.parent < (k : Int)) (q : List Bs) :
    St2 ns (k + 1) (ps ++ [q]) ((rs ++ [n.total - n.own]).set n.parent.toNat ((rs ++ [n.total - n.own]).getD n.parent.toNat 0 - n.total)) ∧ (rs ++ [n.total - n.own]).getD n.parent.toNat 0 = rstN ns n.parent.toNat k := by
  have hk := (List.getElem?_eq_some_iff.1 hn).1
  have hpl : n.parent.toNat < k := by omega
  have hpe : ((n.parent.toNat : Nat) : Int) = n.parent := by omega
  have h1 := h.lr
  have e : (rs ++ [n.total - n.own]).getD n.parent.toNat 0 = rstN ns n.parent.toNat k := by
    rw [List.getD_eq_getElem?_getD, List.getElem?_append_left (by omega), h.rs _ hpl]; rfl
  refine ⟨⟨by rw [List.length_append, h.lp]; rfl, by rw [List.length_set, List.length_append, h1]; rfl, fun i hi => ?_⟩, e⟩
  rw [e, List.getElem?_set]
  by_cases hpi : n.parent.toNat = i
  · subst hpi
    rw [if_pos rfl, if_pos (by rw [List.length_append]; omega), rstN_step hn (by omega), if_pos ⟨hpl, by omega⟩]
  · rw [if_neg hpi]
    by_cases hik : i < k
    · rw [List.getElem?_append_left (by omega), h.rs i hik, rstN_step hn (by omega), if_neg fun h2 => hpi (by omega), Int.sub_zero]
    · obtain rfl : i = k := by omega
      rw [List.getElem?_append_right (by omega), h1, Nat.sub_self, rstN_at hn, kidT_own, Int.sub_zero]; rfl
theorem rd_go {ns : List Nd} : ∀ (m k : Nat) (ps ps' : List (List Bs)) (rs rs' : List Int), k + m = ns.length → 1 ≤ k → St2 ns k ps rs → rdAll (ns.drop k) k ps rs = some (ps', rs') →
    rpA (ns.drop k) k ps = some ps' ∧ St2 ns ns.length ps' rs' ∧ ∀ i n, k ≤ i → ns[i]? = some n → nodeN ps' i n
  | 0, k, ps, ps', rs, rs', hk, h1, hs, hr => by
    have e : ns.drop k = [] := List.drop_eq_nil_of_le (by omega)
    rw [e, rdAll] at hr
    obtain ⟨rfl, rfl⟩ := Prod.mk.inj (Option.some.inj hr)
    obtain rfl : k = ns.length := by omega
    rw [e]
    exact ⟨rfl, hs, fun i n hi hn => by have := (List.getElem?_eq_some_iff.1 hn).1; omega⟩
  | m + 1, k, ps, ps', rs, rs', hk, h1, hs, hr => by
    obtain ⟨n, hn⟩ := at_lt (show k < ns.length by omega)
    rw [rdAll_at hn] at hr
    rw [rpA_at hn]
    cases hx : rdNext k n ps rs with
    | none => rw [hx] at hr; cases hr
    | some st =>
      rw [hx] at hr
      unfold rdNext at hx
      split at hx
      · cases hx
      rename_i g1
      rw [if_neg (show ¬ k = 0 by omega)] at hx
      split at hx
      · cases hx
      rename_i g2
      split at hx
      · cases hx
      rename_i g3
      split at hx
      · cases hx
      rename_i g4
      split at hx
      · cases hx
      rename_i g5
      split at hx
      rotate_left
      · cases hx
      rename_i g6
      obtain rfl := Option.some.inj hx
      have hp : 0 ≤ n.parent ∧ n.parent < (k : Int) := by omega
      obtain ⟨hs2, e⟩ := set_rst hs hn hp (ps.getD n.parent.toNat [] ++ [n.name])
      obtain ⟨i1, i2, i3⟩ := rd_go m (k + 1) _ ps' _ rs' (by omega) (by omega) hs2 hr
      have hrp : rpN k n ps = some (ps ++ [ps.getD n.parent.toNat [] ++ [n.name]]) := by unfold rpN; rw [if_neg (by omega), if_neg g2]
      rw [hrp]
      refine ⟨i1, i2, fun i n' hi hn' => ?_⟩
      by_cases hik : i = k
      · subst hik
        rw [hn] at hn'
        obtain rfl := Option.some.inj hn'
        have hpre := (rpA_pre i1).1
        have l1 : (ps ++ [ps.getD n.parent.toNat [] ++ [n.name]]).length = i + 1 := hs2.lp
        have e1 : ps'.getD i [] = ps.getD n.parent.toNat [] ++ [n.name] := by
          rw [getD_pre hpre (by omega), List.getD_eq_getElem?_getD, List.getElem?_append_right (by rw [hs.lp]; exact Nat.le_refl _), hs.lp, Nat.sub_self]; rfl
        have e2 : ps'.getD (i - 1) [] = ps.getD (i - 1) [] := getD_pre ((List.prefix_append ps _).trans hpre) (by have := hs.lp; omega)
        simp only [Bool.not_eq_false] at g1
        unfold rdOk at g1
        simp only [Bool.and_eq_true, decide_eq_true_eq] at g1
        exact ⟨g1.1, g1.2.1, by rw [e1, List.length_append, List.length_singleton]; omega, fun _ => ⟨g3, by rw [e1, e2]; exact g6⟩⟩
      · exact i3 i n' (by omega) hn'
theorem rd_come {ns : List Nd} {qs : List (List Bs)} (hN : ∀ i n, ns[i]? = some n → nodeN qs i n) (hz : ∀ i, i < ns.length → rstN ns i ns.length = 0) : ∀ (m k : Nat) (ps : List (List Bs)) (rs : List Int), k + m = ns.length → 1 ≤ k → St2 ns k ps rs → rpA (ns.drop k) k ps = some qs →
    ∃ rs', rdAll (ns.drop k) k ps rs = some (qs, rs') ∧ St2 ns ns.length qs rs'
  | 0, k, ps, rs, hk, h1, hs, hr => by
    have e : ns.drop k = [] := List.drop_eq_nil_of_le (by omega)
    rw [e, rpA] at hr
    obtain rfl := Option.some.inj hr
    obtain rfl : k = ns.length := by omega
    rw [e]
    exact ⟨rs, rfl, hs⟩
  | m + 1, k, ps, rs, hk, h1, hs, hr => by
    obtain ⟨n, hn⟩ := at_lt (show k < ns.length by omega)
    rw [rdAll_at hn]
    rw [rpA_at hn] at hr
    have hpos : ∀ j n, 0 < j → ns[j]? = some n → 0 ≤ n.total := fun j n hj hn => by
      have := (hN j n hn).2.1
      rw [if_neg (by omega)] at this
      have := of_decide_eq_true this
      omega
    obtain ⟨c1, c2, c3, c4⟩ := hN k n hn
    obtain ⟨c5, c6⟩ := c4 (by omega)
    cases hx : rpN k n ps with
    | none => rw [hx] at hr; cases hr
    | some q =>
      rw [hx] at hr
      unfold rpN at hx
      rw [if_neg (show ¬ k = 0 by omega)] at hx
      split at hx
      · cases hx
      rename_i g2
      obtain rfl := Option.some.inj hx
      have hp : 0 ≤ n.parent ∧ n.parent < (k : Int) := by omega
      obtain ⟨hs2, e⟩ := set_rst hs hn hp (ps.getD n.parent.toNat [] ++ [n.name])
      obtain ⟨rs', h3, h4⟩ := rd_come hN hz m (k + 1) _ _ (by omega) (by omega) hs2 hr
      have hpre := (rpA_pre hr).1
      have l1 : (ps ++ [ps.getD n.parent.toNat [] ++ [n.name]]).length = k + 1 := hs2.lp
      have e1 : qs.getD k [] = ps.getD n.parent.toNat [] ++ [n.name] := by
        rw [getD_pre hpre (by omega), List.getD_eq_getElem?_getD, List.getElem?_append_right (by rw [hs.lp]; exact Nat.le_refl _), hs.lp, Nat.sub_self]; rfl
      have e2 : qs.getD (k - 1) [] = ps.getD (k - 1) [] := getD_pre ((List.prefix_append ps _).trans hpre) (by have := hs.lp; omega)
      rw [e1, List.length_append, List.length_singleton] at c3
      rw [e1, e2] at c6
      have hown : n.own ≤ n.total := by
        have h5 := rstN_mono hpos (show k < ns.length by omega) m (k + 1) (by omega)
        rw [hz k (by omega), rstN_at hn, kidT_own] at h5
        omega
      have hrest : n.total ≤ rstN ns n.parent.toNat k := by
        have h5 := rstN_mono hpos (show n.parent.toNat < ns.length by omega) m (k + 1) (by omega)
        rw [hz _ (by omega), rstN_step hn (by omega), if_pos ⟨by omega, by omega⟩] at h5
        omega
      have hnx : rdNext k n ps rs = some (ps ++ [ps.getD n.parent.toNat [] ++ [n.name]], (rs ++ [n.total - n.own]).set n.parent.toNat ((rs ++ [n.total - n.own]).getD n.parent.toNat 0 - n.total)) := by
        unfold rdNext
        rw [if_neg (by unfold rdOk; rw [c1, c2, decide_eq_true hown]; decide), if_neg (by omega), if_neg g2, if_neg c5, if_neg (by rw [e]; omega), if_neg (by omega), if_pos c6]
      rw [hnx]
      exact ⟨rs', h3, h4⟩
theorem any_zero {ns : List Nd} {ps : List (List Bs)} {rs : List Int} (h : St2 ns ns.length ps rs) : (!rs.any fun x => x != 0) = true ↔ ∀ i, i < ns.length → rstN ns i ns.length = 0 := by
  rw [Bool.not_eq_true', List.any_eq_false]
  constructor
  · intro h1 i hi
    have h2 := h1 _ (List.mem_of_getElem? (h.rs i hi))
    simpa using h2
  · intro h1 x hx
    obtain ⟨i, hi⟩ := List.mem_iff_getElem?.1 hx
    have hil := (List.getElem?_eq_some_iff.1 hi).1
    have := h.lr
    rw [h.rs i (by omega)] at hi
    rw [← Option.some.inj hi, h1 i (by omega)]
    decide
theorem St2.one {ns : List Nd} {n : Nd} (hn : ns[0]? = some n) : St2 ns 1 [[]] [n.total - n.own] := ⟨rfl, rfl, fun i hi => by
  obtain rfl : i = 0 := by omega
  rw [rstN_at hn, kidT_own, Int.sub_zero]; rfl⟩
theorem RV_iff (ns : List Nd) : validB ns = true ↔ RV ns := by
  by_cases h1 : 1 ≤ ns.length
  rotate_left
  · refine ⟨fun h => ?_, fun h => absurd h.1 h1⟩
    unfold validB readF at h
    rw [if_neg fun h2 => h1 h2.1] at h; cases h
  obtain ⟨n, hn⟩ := at_lt (show 0 < ns.length by omega)
  have hg : ns.getD 0 ⟨0, [], 0, 0⟩ = n := by rw [List.getD_eq_getElem?_getD, hn]; rfl
  have hrd : rdAll ns 0 [[]] [] = (rdNext 0 n [[]] []).bind fun st => rdAll (ns.drop 1) 1 st.1 st.2 := by
    have := rdAll_at (ns := ns) (k := 0) hn (ps := [[]]) (rs := [])
    rwa [List.drop_zero] at this
  have hrp : rpF ns = (rpN 0 n []).bind fun q => rpA (ns.drop 1) 1 q := by
    have := rpA_at hn []
    rw [List.drop_zero] at this
    exact this
  constructor
  · intro h
    unfold validB readF at h
    by_cases ht : rdTop ns
    rotate_left
    · rw [if_neg ht] at h; cases h
    rw [if_pos ht, hrd] at h
    obtain ⟨t1, t2, t3, t4⟩ := ht
    rw [hg] at t3 t4
    cases hok : rdOk 0 n
    · have e : rdNext 0 n [[]] [] = none := by unfold rdNext; rw [if_pos hok]
      rw [e] at h; cases h
    have e : rdNext 0 n [[]] [] = some ([[]], [n.total - n.own]) := by unfold rdNext; rw [if_neg (by rw [hok]; decide), if_pos rfl]; rfl
    rw [e] at h
    simp only [Option.bind_some] at h
    cases hx : rdAll (ns.drop 1) 1 [[]] [n.total - n.own] with
    | none => rw [hx] at h; cases h
    | some st =>
      rw [hx] at h
      obtain ⟨ps', rs'⟩ := st
      obtain ⟨i1, i2, i3⟩ := rd_go (ns.length - 1) 1 _ _ _ _ (by omega) (Nat.le_refl _) (St2.one hn) hx
      have hz := (any_zero i2).1 h
      refine ⟨t1, t2, ps', ?_, fun i m hm => ?_⟩
      · rw [hrp]
        have e2 : rpN 0 n [] = some [[]] := by unfold rpN; rw [if_pos rfl, if_neg (by rintro (h | h); exact h t3; exact h t4)]; rfl
        rw [e2]; exact i1
      · refine ⟨?_, hz i (List.getElem?_eq_some_iff.1 hm).1⟩
        by_cases hi : i = 0
        · subst hi
          rw [hn] at hm
          obtain rfl := Option.some.inj hm
          unfold rdOk at hok
          simp only [Bool.and_eq_true, decide_eq_true_eq] at hok
          have e3 : ps'.getD 0 [] = [] := getD_pre (ps := [[]]) (rpA_pre i1).1 (by decide)
          exact ⟨hok.1, hok.2.1, by rw [e3]; exact Nat.zero_le _, fun h => absurd h (by omega)⟩
        · exact i3 i m (by omega) hm
  · rintro ⟨t1, t2, qs, hq, hN⟩
    rw [hrp] at hq
    have hz : ∀ i, i < ns.length → rstN ns i ns.length = 0 := fun i hi => by
      obtain ⟨m, hm⟩ := at_lt hi
      exact (hN i m hm).2
    have hpos : ∀ j n, 0 < j → ns[j]? = some n → 0 ≤ n.total := fun j n hj hn => by
      have := (hN j n hn).1.2.1
      rw [if_neg (by omega)] at this
      have := of_decide_eq_true this
      omega
    cases hx : rpN 0 n [] with
    | none => rw [hx] at hq; cases hq
    | some q =>
      rw [hx] at hq
      unfold rpN at hx
      rw [if_pos rfl] at hx
      split at hx
      · cases hx
      rename_i g
      obtain rfl := Option.some.inj hx
      have t3 : n.parent = -1 := by by_cases h : n.parent = -1; exact h; exact absurd (.inl h) g
      have t4 : n.name = [] := by by_cases h : n.name = []; exact h; exact absurd (.inr h) g
      obtain ⟨rs', h3, h4⟩ := rd_come (fun i m hm => (hN i m hm).1) hz (ns.length - 1) 1 _ _ (by omega) (Nat.le_refl _) (St2.one hn) hq
      have hown : n.own ≤ n.total := by
        have h5 := rstN_mono hpos (show 0 < ns.length by omega) (ns.length - 1) 1 (by omega)
        rw [hz 0 (by omega), rstN_at hn, kidT_own] at h5
        omega
      obtain ⟨⟨c1, c2, _, _⟩, _⟩ := hN 0 n hn
      have hok : rdOk 0 n = true := by unfold rdOk; rw [c1, c2, decide_eq_true hown]; rfl
      have e : rdNext 0 n [[]] [] = some ([[]], [n.total - n.own]) := by unfold rdNext; rw [if_neg (by rw [hok]; decide), if_pos rfl]; rfl
      have hval : readF ns = some (qs, rs') := by
        unfold readF
        rw [if_pos ⟨t1, t2, by rw [hg]; exact t3, by rw [hg]; exact t4⟩, hrd, e]
        exact h3
      unfold validB
      rw [hval]
      exact (any_zero h4).2 hz
theorem readF_rp {ns : List Nd} (h : validB ns = true) : ∃ ps rs, readF ns = some (ps, rs) ∧ rpF ns = some ps := by
  obtain ⟨t1, t2, qs, hq, hN⟩ := (RV_iff ns).1 h
  cases hr : readF ns with
  | none => unfold validB at h; rw [hr] at h; cases h
  | some st =>
    obtain ⟨ps, rs⟩ := st
    refine ⟨ps, rs, rfl, ?_⟩
    obtain ⟨n, hn⟩ := at_lt (show 0 < ns.length by omega)
    have hg : ns.getD 0 ⟨0, [], 0, 0⟩ = n := by rw [List.getD_eq_getElem?_getD, hn]; rfl
    unfold readF at hr
    by_cases ht : rdTop ns
    rotate_left
    · rw [if_neg ht] at hr; cases hr
    rw [if_pos ht] at hr
    have hrd := rdAll_at (ns := ns) (k := 0) hn (ps := [[]]) (rs := [])
    rw [List.drop_zero] at hrd
    rw [hrd] at hr
    cases hok : rdOk 0 n
    · have e : rdNext 0 n [[]] [] = none := by unfold rdNext; rw [if_pos hok]
      rw [e] at hr; cases hr
    have e : rdNext 0 n [[]] [] = some ([[]], [n.total - n.own]) := by unfold rdNext; rw [if_neg (by rw [hok]; decide), if_pos rfl]; rfl
    rw [e] at hr
    obtain ⟨i1, _, _⟩ := rd_go (ns.length - 1) 1 _ _ _ _ (by omega) (Nat.le_refl _) (St2.one hn) hr
    obtain ⟨_, _, t3, t4⟩ := ht
    rw [hg] at t3 t4
    have hrp := rpA_at hn []
    rw [List.drop_zero] at hrp
    unfold rpF
    rw [hrp]
    have e2 : rpN 0 n [] = some [[]] := by unfold rpN; rw [if_pos rfl, if_neg (by rintro (h | h); exact h t3; exact h t4)]; rfl
    rw [e2]; exact i1
end Go.Proofs.YtcnfchchanlepaaGreat
namespace Go.Proofs.YtcnfchchanlepaaGreat
open Go Go.X
set_option linter.unusedVariables false
set_option maxRecDepth 10000
set_option linter.unusedVariables false
attribute [local irreducible] Code.wpIn wpListIn Exit.then Exit.inBlock X.Out X.Back X.W X.Ev X.Con X.BinV X.Wh X.Wn X.Wq
set_option maxHeartbeats 6400000 in
theorem rValid_con (ns : List Nd) (A : Option Addr) (c : Nat) (S : SH) (hA : At S A ns) (hl : ns.length ≤ 1000000) :
    Con Tryz.prog 10 #[.agg #[.slice A ns.length c]] S [] (fun _ L' r => L' = [] ∧ ∃ b : Bool, r = .bool b ∧ (b = true ↔ RV ns)) := by
  refine con_of (args := [.agg #[.slice A ns.length c]]) Tryz.func10 rfl Tryz.ntmps10 rfl fun w => ?_
  by_cases h1 : 1 ≤ ns.length
  rotate_left
  · (repeat (first | refine Jz ?_ | intro _))
    exact o_ret Tryz.results10 rfl (List.nil_sublist _) ⟨rfl, false, rfl, (fun h => absurd h Bool.false_ne_true), fun h => absurd h.1 h1⟩
  by_cases h2 : ns.length ≤ 2000
  rotate_left
  · (repeat (first | refine Jz ?_ | intro _))
    exact o_ret Tryz.results10 rfl (List.nil_sublist _) ⟨rfl, false, rfl, (fun h => absurd h Bool.false_ne_true), fun h => absurd h.2.1 h2⟩
  cases hrp : rpF ns with
  | none =>
    have hno : ¬ RV ns := fun h => by
      obtain ⟨_, _, ps, h3, _⟩ := h
      rw [hrp] at h3; cases h3
    have hcP := fun S hA => (rPaths_con ns A c S hA hl).mono (R' := fun S' L' r => r = .tuple #[.slice none 0 0, .bool false] ∧ L' = []) fun S' L' r _ hh => by
      rcases hh.2 with ⟨_, h4, h5⟩ | ⟨ps, v, xs, h4, _⟩
      · exact ⟨h4, h5⟩
      · rw [hrp] at h4; cases h4
    (repeat (first | refine Jc ?_ | (apply s_call; (case hg => rfl); (case hd => rfl); (case ha => rfl); (case hc => exact hcP _ hA); (case hL => (repeat (first | exact pm_nil _ | exact pm_refl _ _ | exact pm_self _ | apply pm_cons | apply pm_app))); rintro S2 L2 _ h3 ⟨rfl, rfl⟩) | refine Jo ?_ | intro _))
    exact o_ret Tryz.results10 rfl (List.nil_sublist _) ⟨rfl, false, rfl, (fun h => absurd h Bool.false_ne_true), fun h => absurd h hno⟩
  | some ps =>
  have hcP := fun S hA => (rPaths_con ns A c S hA hl).mono (R' := fun S' L' r => ∃ v xs, r = .tuple #[v, .bool true] ∧ Ows 52 v xs L' ∧ PthL S' xs ps ∧ ps.length = ns.length) fun S' L' r _ hh => by
    rcases hh.2 with ⟨h4, _⟩ | ⟨ps', v, xs, h4, h5, h6, h7, h8⟩
    · rw [hrp] at h4; cases h4
    · rw [hrp] at h4
      obtain rfl := Option.some.inj h4
      exact ⟨v, xs, h5, h6, h7, h8⟩
  have hRV : RV ns ↔ ∀ i n, ns[i]? = some n → nodeN ps i n ∧ rstN ns i ns.length = 0 := by
    constructor
    · rintro ⟨_, _, ps', h3, h4⟩
      rw [hrp] at h3
      obtain rfl := Option.some.inj h3
      exact h4
    · exact fun h => ⟨h1, h2, ps, hrp, h⟩
  (repeat (first | refine Jc ?_ | ((apply s_call; (case hg => rfl); (case hd => rfl); (case ha => rfl); (case hc => exact hcP _ hA); (case hL => (repeat (first | exact pm_nil _ | exact pm_refl _ _ | exact pm_self _ | apply pm_cons | apply pm_app))); rintro S2 L2 _ h3 ⟨v2, xs, rfl, ho2, hps, hpl⟩); refine W.freezeOws ho2 (List.Perm.refl _) fun S3 h3' hs3 => ?_; obtain ⟨Ap, cp, rfl, hcp, hAp⟩ := hs3) | refine Jo ?_ | intro _))
  rename_i b1
  have hps3 := hps.le h3'
  have hA3 := hA.le (h3.trans h3')
  have hxl := hps.1
  refine c_loop (fun m S' L F => S3 = S' ∧ ∃ (i : Nat), m = ns.length - i ∧ i ≤ ns.length ∧ (∀ j n, j < i → ns[j]? = some n → nodeN ps j n ∧ rstN ns j ns.length = 0) ∧ L = [(b1, .cells [.slice A ns.length c].toArray 24 (0, 0))] ∧
      F = [(1, .pointer (some ⟨b1, 0, none⟩)), (3, .slice Ap xs.length cp), (5, .int .i64 i)]) ⟨rfl, 0, rfl, by omega, (fun j n h => absurd h (by omega)), rfl, rfl⟩ sbF sbL ?_
  rintro m S4 L F ⟨rfl, i, rfl, hi, hin, rfl, rfl⟩
  by_cases hil : i < ns.length
  rotate_left
  · (repeat (first | refine Jz ?_ | intro _))
    exact o_ret Tryz.results10 rfl (List.nil_sublist _) ⟨rfl, true, rfl, fun _ => hRV.2 fun j n hn => hin j n (by have := (List.getElem?_eq_some_iff.1 hn).1; omega) hn, fun _ => rfl⟩
  obtain ⟨n, hn⟩ := at_lt hil
  obtain ⟨p, hp⟩ : ∃ p, ps[i]? = some p := at_lt (by omega)
  obtain ⟨x, hx⟩ := at_lt (show i < xs.length by omega)
  obtain ⟨r1, r2, r3⟩ := hps3.2 i x p hx hp
  obtain ⟨xa, xm, xc⟩ := x
  simp only at r1 r2 r3
  subst r1
  have tlp := toS_len p
  have hpd : ps.getD i [] = p := by rw [List.getD_eq_getElem?_getD, hp]; rfl
  have hno : ∀ (h : ¬ (nodeN ps i n ∧ rstN ns i ns.length = 0)), ¬ RV ns := fun h h2 => h (hRV.1 h2 i n hn)
  obtain ⟨nn1, nn2, nn3, nn4⟩ := n
  have hc1 := fun S r h => rin_t nn3 0 1125899906842624 S r h
  have hc2 := fun S r h => rin_t nn4 0 1125899906842624 S r h
  cases v1 : inB nn3 0 1125899906842624
  · have hR := hno fun h => by have h2 := h.1.1; rw [v1] at h2; cases h2
    (repeat (first | refine Jc ?_ | (apply s_idx hA3; (case hg => rfl); (case hd => rfl); (case hx => rfl); (case hi => rfl); (case hm => rfl); (case hu => exact hn); intro q (hq : Pts _ q [.int .i64 nn1, strV nn2, .int .i64 nn3, .int .i64 nn4])) | (apply s_load_ag; (case hg => rfl); (case hd => rfl); (case hx => rfl); (case hv => exact hq); (case hl => rfl)) | (apply z_call; rfl; rfl; rfl; exact hc1 _ _ v1; rintro _ _ _ - ⟨rfl, rfl, rfl⟩) | refine Jo ?_ | intro _))
    exact o_ret Tryz.results10 rfl (List.nil_sublist _) ⟨rfl, false, rfl, (fun h => absurd h Bool.false_ne_true), fun h => absurd h hR⟩
  cases v2 : inB nn4 0 1125899906842624
  · have hR := hno fun h => by
      have h2 := h.1.2.1
      unfold inB at h2 v2
      have h3 := of_decide_eq_true h2
      have h4 := of_decide_eq_false v2
      simp only at h3
      split at h3 <;> omega
    (repeat (first | refine Jc ?_ | (apply s_idx hA3; (case hg => rfl); (case hd => rfl); (case hx => rfl); (case hi => rfl); (case hm => rfl); (case hu => exact hn); intro q (hq : Pts _ q [.int .i64 nn1, strV nn2, .int .i64 nn3, .int .i64 nn4])) | (apply s_load_ag; (case hg => rfl); (case hd => rfl); (case hx => rfl); (case hv => exact hq); (case hl => rfl)) | (apply z_call; rfl; rfl; rfl; exact hc1 _ _ v1; rintro _ _ _ - ⟨rfl, rfl, rfl⟩) | (apply z_call; rfl; rfl; rfl; exact hc2 _ _ v2; rintro _ _ _ - ⟨rfl, rfl, rfl⟩) | refine Jo ?_ | intro _))
    exact o_ret Tryz.results10 rfl (List.nil_sublist _) ⟨rfl, false, rfl, (fun h => absurd h Bool.false_ne_true), fun h => absurd h hR⟩
  by_cases hpl12 : p.length ≤ 12
  rotate_left
  · have hR := hno fun h => by have h2 := h.1.2.2.1; rw [hpd] at h2; exact hpl12 h2
    (repeat (first | refine Jc ?_ | (apply s_idx hA3; (case hg => rfl); (case hd => rfl); (case hx => rfl); (case hi => rfl); (case hm => rfl); (case hu => exact hn); intro q (hq : Pts _ q [.int .i64 nn1, strV nn2, .int .i64 nn3, .int .i64 nn4])) | (apply s_load_ag; (case hg => rfl); (case hd => rfl); (case hx => rfl); (case hv => exact hq); (case hl => rfl)) | (apply z_call; rfl; rfl; rfl; exact hc1 _ _ v1; rintro _ _ _ - ⟨rfl, rfl, rfl⟩) | (apply z_call; rfl; rfl; rfl; exact hc2 _ _ v2; rintro _ _ _ - ⟨rfl, rfl, rfl⟩) | (apply s_idx hAp; (case hg => rfl); (case hd => rfl); (case hx => rfl); (case hi => rfl); (case hm => rfl); (case hu => exact hx); intro q2 (hq2 : Pts _ q2 [.slice xa (toS p).length xc])) | (apply s_load1; (case hg => rfl); (case hd => rfl); (case hx => rfl); (case hv => exact hq2)) | refine Jo ?_ | intro _))
    exact o_ret Tryz.results10 rfl (List.nil_sublist _) ⟨rfl, false, rfl, (fun h => absurd h Bool.false_ne_true), fun h => absurd h hR⟩
  have b1' := of_decide_eq_true v1
  have b2' := of_decide_eq_true v2
  (repeat (first | refine Jc ?_ | (apply s_idx hA3; (case hg => rfl); (case hd => rfl); (case hx => rfl); (case hi => rfl); (case hm => rfl); (case hu => exact hn); intro q (hq : Pts _ q [.int .i64 nn1, strV nn2, .int .i64 nn3, .int .i64 nn4])) | (apply s_load_ag; (case hg => rfl); (case hd => rfl); (case hx => rfl); (case hv => exact hq); (case hl => rfl)) | (apply z_call; rfl; rfl; rfl; exact hc1 _ _ v1; rintro _ _ _ - ⟨rfl, rfl, rfl⟩) | (apply z_call; rfl; rfl; rfl; exact hc2 _ _ v2; rintro _ _ _ - ⟨rfl, rfl, rfl⟩) | (apply s_idx hAp; (case hg => rfl); (case hd => rfl); (case hx => rfl); (case hi => rfl); (case hm => rfl); (case hu => exact hx); intro q2 (hq2 : Pts _ q2 [.slice xa (toS p).length xc])) | (apply s_load1; (case hg => rfl); (case hd => rfl); (case hx => rfl); (case hv => exact hq2)) | refine Jo ?_ | intro _))
  rename_i b6
  have hprev : 0 < i → ∃ (j : Nat) (pq : List Bs) (sqa : Option Addr) (sqc : Nat), (i : Int) - 1 = (j : Int) ∧ xs[j]? = some ⟨sqa, (toS pq).length, sqc⟩ ∧ At S3 sqa (toS pq) ∧ ps.getD (i - 1) [] = pq ∧ pq.length ≤ 12 := fun h0 => by
    obtain ⟨pq, hpq⟩ : ∃ q, ps[i - 1]? = some q := at_lt (by omega)
    obtain ⟨xq, hxq⟩ := at_lt (show i - 1 < xs.length by omega)
    obtain ⟨n', hn'⟩ := at_lt (show i - 1 < ns.length by omega)
    obtain ⟨s1, s2, s3⟩ := hps3.2 (i - 1) xq pq hxq hpq
    obtain ⟨ya, ym, yc⟩ := xq
    simp only at s1 s2 s3
    subst s1
    have hd : ps.getD (i - 1) [] = pq := by rw [List.getD_eq_getElem?_getD, hpq]; rfl
    have := (hin (i - 1) n' (by omega) hn').1.2.2.1
    rw [hd] at this
    exact ⟨i - 1, pq, ya, yc, by omega, hxq, s3, hd, this⟩
  by_cases hbA : 0 < i ∧ nn4 < 1
  · obtain ⟨h0, hb⟩ := hbA
    have hR := hno fun h => by
      have h2 := h.1.2.1
      rw [if_neg (show ¬ i = 0 by omega)] at h2
      have h3 := of_decide_eq_true h2
      simp only at h3; omega
    (repeat (first | refine Jz ?_ | intro _))
    ((apply c_held ([(b6, .cells [.int .i64 nn1, strV nn2, .int .i64 nn3, .int .i64 nn4].toArray 51 (0, 0))]); (case hL => (exact sbT))); refine Jf 0 ?_; refine Jf 1 ?_; refine Jf 2 ?_; refine Jf 3 ?_; refine Jf 4 ?_; refine Jf 5 ?_; refine Jf 6 ?_; refine Jf 7 ?_; refine Jf 8 ?_; refine Jf 9 ?_; refine Jf 10 ?_; refine Jf 11 ?_; refine Jf 12 ?_; (apply h_one 13; (case hr => kernel_rfl)); (refine X.Jn ?_; try intro _); refine Jf 14 ?_; refine Jf 15 ?_; refine Jf 16 ?_; refine Jf 17 ?_; refine Jf 18 ?_; refine Jf 19 ?_; refine Jf 20 ?_; refine Jf 21 ?_; refine Jf 22 ?_; refine Jf 23 ?_; refine Jf 24 ?_; refine Jf 25 ?_; refine Jf 26 ?_; (apply h_one 27; (case hr => kernel_rfl)); (refine X.Jn ?_; try intro _); refine Jf 28 ?_; refine Jf 29 ?_; refine Jf 30 ?_; (apply h_end; (case hr => kernel_rfl)))
    (repeat (first | refine Jz ?_ | intro _))
    exact o_ret Tryz.results10 rfl (List.nil_sublist _) ⟨rfl, false, rfl, (fun h => absurd h Bool.false_ne_true), fun h => absurd h hR⟩
  have hcmp : ∀ (pq : List Bs) (sqa : Option Addr) (sqc : Nat) (S : SH), At S sqa (toS pq) → At S xa (toS p) → pq.length ≤ 12 → ∀ z, cmpP pq p = z → Con Tryz.prog 31 #[.slice sqa (toS pq).length sqc, .slice xa (toS p).length xc] S [] (X.Pure S (.int .i64 z)) := fun pq sqa sqc S h1 h2 h3 z hz => hz ▸ rCompare_con pq p sqa xa sqc xc S h1 h2 (by omega) (by omega)
  by_cases hbB : 0 < i ∧ nn2 ≠ [63] ∧ nameB nn2 = false
  · obtain ⟨h0, hnm, hnb⟩ := hbB
    have hR := hno fun h => (h.1.2.2.2 h0).1 ⟨hnm, hnb⟩
    have hne : (nn2 != [63]) = true := by simpa using hnm
    (repeat (first | refine Jz ?_ | intro _))
    ((apply c_held ([(b6, .cells [.int .i64 nn1, strV nn2, .int .i64 nn3, .int .i64 nn4].toArray 51 (0, 0))]); (case hL => (exact sbT))); refine Jf 0 ?_; refine Jf 1 ?_; refine Jf 2 ?_; refine Jf 3 ?_; refine Jf 4 ?_; refine Jf 5 ?_; refine Jf 6 ?_; refine Jf 7 ?_; refine Jf 8 ?_; (apply h_first 9; (case hi => rfl); (case hr => kernel_rfl); (case hfr => kernel_rfl); (case hsel => kernel_rfl); (case hg => rfl); (case hd => rfl); (case he => (apply ev_neq_bv (r := true) (b := [63]); (case hx => rfl); (case hy => rfl); (case h => exact hne)))); refine Jf 10 ?_; refine Jf 11 ?_; refine Jf 12 ?_; (apply h_one 13; (case hr => kernel_rfl)); (apply n_call; (case hi => rfl); (case i1 => infer_instance); (case hg => rfl); (case hd => rfl); (case ha => rfl); (case hc => exact rfunction_t nn2 _ false hnb); (case hL => (repeat (first | exact pm_nil _ | exact pm_refl _ _ | exact pm_self _ | apply pm_cons | apply pm_app))); (case hsub => (intros; (exact sbT))); rintro _ _ _ - ⟨rfl, rfl, rfl⟩); refine Jf 14 ?_; refine Jf 15 ?_; refine Jf 16 ?_; refine Jf 17 ?_; refine Jf 18 ?_; refine Jf 19 ?_; refine Jf 20 ?_; refine Jf 21 ?_; refine Jf 22 ?_; refine Jf 23 ?_; refine Jf 24 ?_; refine Jf 25 ?_; refine Jf 26 ?_; (apply h_one 27; (case hr => kernel_rfl)); (refine X.Jn ?_; try intro _); refine Jf 28 ?_; refine Jf 29 ?_; refine Jf 30 ?_; (apply h_end; (case hr => kernel_rfl)))
    (repeat (first | refine Jz ?_ | intro _))
    exact o_ret Tryz.results10 rfl (List.nil_sublist _) ⟨rfl, false, rfl, (fun h => absurd h Bool.false_ne_true), fun h => absurd h hR⟩
  by_cases hbC : 0 < i ∧ ¬ ps.getD (i - 1) [] < p
  · obtain ⟨h0, hnl⟩ := hbC
    obtain ⟨j, pq, sqa, sqc, hjj, hxj, s3, hpd2, hq12⟩ := hprev h0
    have hR := hno fun h => by have h2 := (h.1.2.2.2 h0).2; rw [hpd] at h2; exact hnl h2
    rw [hpd2] at hnl
    obtain ⟨z, hz⟩ : ∃ z, cmpP pq p = z := ⟨_, rfl⟩
    have hcc := hcmp pq sqa sqc _ s3 r3 hq12 z hz
    have hz0 : 0 ≤ z := by
      by_cases h : z < 0
      · rw [← hz] at h; exact absurd (cmpP_neg.1 h) hnl
      · omega
    by_cases hnm : nn2 = [63]
    · have hne : (nn2 != [63]) = false := by rw [hnm]; decide
      (repeat (first | refine Jz ?_ | intro _))
      ((apply c_held ([(b6, .cells [.int .i64 nn1, strV nn2, .int .i64 nn3, .int .i64 nn4].toArray 51 (0, 0))]); (case hL => (exact sbT))); refine Jf 0 ?_; refine Jf 1 ?_; refine Jf 2 ?_; refine Jf 3 ?_; refine Jf 4 ?_; refine Jf 5 ?_; refine Jf 6 ?_; refine Jf 7 ?_; refine Jf 8 ?_; (apply h_first 9; (case hi => rfl); (case hr => kernel_rfl); (case hfr => kernel_rfl); (case hsel => kernel_rfl); (case hg => rfl); (case hd => rfl); (case he => (apply ev_neq_bv (r := false) (b := [63]); (case hx => rfl); (case hy => rfl); (case h => exact hne)))); refine Jf 10 ?_; refine Jf 11 ?_; refine Jf 12 ?_; (apply h_one 13; (case hr => kernel_rfl)); (refine X.Jn ?_; try intro _); refine Jf 14 ?_; refine Jf 15 ?_; refine Jf 16 ?_; refine Jf 17 ?_; refine Jf 18 ?_; refine Jf 19 ?_; (refine Jf 20 ?_; rw [hjj]); (apply h_idx hAp 21; (case hi => rfl); (case hr => kernel_rfl); (case hfr => kernel_rfl); (case hsel => kernel_rfl); (case hg => rfl); (case hd => rfl); (case i1 => infer_instance); (case i2 => infer_instance); (case hx => rfl); (case hy => rfl); (case hm => rfl); (case hu => exact hxj); intro u1 (hu1 : Pts _ u1 [.slice sqa (toS pq).length sqc])); (apply h_first 22; (case hi => rfl); (case hr => kernel_rfl); (case hfr => kernel_rfl); (case hsel => kernel_rfl); (case hg => rfl); (case hd => rfl); (case he => (apply ev_load1; (case hx => rfl); (case h => exact hu1)))); refine Jf 23 ?_; refine Jf 24 ?_; (apply h_idx hAp 25; (case hi => rfl); (case hr => kernel_rfl); (case hfr => kernel_rfl); (case hsel => kernel_rfl); (case hg => rfl); (case hd => rfl); (case i1 => infer_instance); (case i2 => infer_instance); (case hx => rfl); (case hy => rfl); (case hm => rfl); (case hu => exact hx); intro u2 (hu2 : Pts _ u2 [.slice xa (toS p).length xc])); (apply h_first 26; (case hi => rfl); (case hr => kernel_rfl); (case hfr => kernel_rfl); (case hsel => kernel_rfl); (case hg => rfl); (case hd => rfl); (case he => (apply ev_load1; (case hx => rfl); (case h => exact hu2)))); (apply h_one 27; (case hr => kernel_rfl)); (apply n_call; (case hi => rfl); (case i1 => infer_instance); (case hg => rfl); (case hd => rfl); (case ha => rfl); (case hc => exact hcc); (case hL => (repeat (first | exact pm_nil _ | exact pm_refl _ _ | exact pm_self _ | apply pm_cons | apply pm_app))); (case hsub => (intros; (exact sbT))); rintro _ _ _ - ⟨rfl, rfl, rfl⟩); refine Jf 28 ?_; refine Jf 29 ?_; refine Jf 30 ?_; (apply h_end; (case hr => kernel_rfl)))
      (repeat (first | refine Jz ?_ | intro _))
      exact o_ret Tryz.results10 rfl (List.nil_sublist _) ⟨rfl, false, rfl, (fun h => absurd h Bool.false_ne_true), fun h => absurd h hR⟩
    · have hne : (nn2 != [63]) = true := by simpa using hnm
      have hnb : nameB nn2 = true := by cases h : nameB nn2; exact absurd ⟨h0, hnm, h⟩ hbB; rfl
      (repeat (first | refine Jz ?_ | intro _))
      ((apply c_held ([(b6, .cells [.int .i64 nn1, strV nn2, .int .i64 nn3, .int .i64 nn4].toArray 51 (0, 0))]); (case hL => (exact sbT))); refine Jf 0 ?_; refine Jf 1 ?_; refine Jf 2 ?_; refine Jf 3 ?_; refine Jf 4 ?_; refine Jf 5 ?_; refine Jf 6 ?_; refine Jf 7 ?_; refine Jf 8 ?_; (apply h_first 9; (case hi => rfl); (case hr => kernel_rfl); (case hfr => kernel_rfl); (case hsel => kernel_rfl); (case hg => rfl); (case hd => rfl); (case he => (apply ev_neq_bv (r := true) (b := [63]); (case hx => rfl); (case hy => rfl); (case h => exact hne)))); refine Jf 10 ?_; refine Jf 11 ?_; refine Jf 12 ?_; (apply h_one 13; (case hr => kernel_rfl)); (apply n_call; (case hi => rfl); (case i1 => infer_instance); (case hg => rfl); (case hd => rfl); (case ha => rfl); (case hc => exact rfunction_t nn2 _ true hnb); (case hL => (repeat (first | exact pm_nil _ | exact pm_refl _ _ | exact pm_self _ | apply pm_cons | apply pm_app))); (case hsub => (intros; (exact sbT))); rintro _ _ _ - ⟨rfl, rfl, rfl⟩); refine Jf 14 ?_; refine Jf 15 ?_; refine Jf 16 ?_; refine Jf 17 ?_; refine Jf 18 ?_; refine Jf 19 ?_; (refine Jf 20 ?_; rw [hjj]); (apply h_idx hAp 21; (case hi => rfl); (case hr => kernel_rfl); (case hfr => kernel_rfl); (case hsel => kernel_rfl); (case hg => rfl); (case hd => rfl); (case i1 => infer_instance); (case i2 => infer_instance); (case hx => rfl); (case hy => rfl); (case hm => rfl); (case hu => exact hxj); intro u1 (hu1 : Pts _ u1 [.slice sqa (toS pq).length sqc])); (apply h_first 22; (case hi => rfl); (case hr => kernel_rfl); (case hfr => kernel_rfl); (case hsel => kernel_rfl); (case hg => rfl); (case hd => rfl); (case he => (apply ev_load1; (case hx => rfl); (case h => exact hu1)))); refine Jf 23 ?_; refine Jf 24 ?_; (apply h_idx hAp 25; (case hi => rfl); (case hr => kernel_rfl); (case hfr => kernel_rfl); (case hsel => kernel_rfl); (case hg => rfl); (case hd => rfl); (case i1 => infer_instance); (case i2 => infer_instance); (case hx => rfl); (case hy => rfl); (case hm => rfl); (case hu => exact hx); intro u2 (hu2 : Pts _ u2 [.slice xa (toS p).length xc])); (apply h_first 26; (case hi => rfl); (case hr => kernel_rfl); (case hfr => kernel_rfl); (case hsel => kernel_rfl); (case hg => rfl); (case hd => rfl); (case he => (apply ev_load1; (case hx => rfl); (case h => exact hu2)))); (apply h_one 27; (case hr => kernel_rfl)); (apply n_call; (case hi => rfl); (case i1 => infer_instance); (case hg => rfl); (case hd => rfl); (case ha => rfl); (case hc => exact hcc); (case hL => (repeat (first | exact pm_nil _ | exact pm_refl _ _ | exact pm_self _ | apply pm_cons | apply pm_app))); (case hsub => (intros; (exact sbT))); rintro _ _ _ - ⟨rfl, rfl, rfl⟩); refine Jf 28 ?_; refine Jf 29 ?_; refine Jf 30 ?_; (apply h_end; (case hr => kernel_rfl)))
      (repeat (first | refine Jz ?_ | intro _))
      exact o_ret Tryz.results10 rfl (List.nil_sublist _) ⟨rfl, false, rfl, (fun h => absurd h Bool.false_ne_true), fun h => absurd h hR⟩
  have hN : nodeN ps i ⟨nn1, nn2, nn3, nn4⟩ := by
    refine ⟨v1, ?_, by rw [hpd]; exact hpl12, fun h0 => ⟨fun h => hbB ⟨h0, h.1, h.2⟩, ?_⟩⟩
    · by_cases h0 : i = 0
      · rw [if_pos h0]; exact v2
      · rw [if_neg h0]; exact decide_eq_true (by simp only; omega)
    · rw [hpd]
      by_cases h : ps.getD (i - 1) [] < p
      · exact h
      · exact absurd ⟨h0, h⟩ hbC
  have hgo : i = 0 ∨ (0 < i ∧ nn2 = [63]) ∨ (0 < i ∧ nn2 ≠ [63] ∧ nameB nn2 = true) := by
    by_cases h0 : i = 0
    · exact .inl h0
    · by_cases hnm : nn2 = [63]
      · exact .inr (.inl ⟨by omega, hnm⟩)
      · exact .inr (.inr ⟨by omega, hnm, by cases h : nameB nn2; exact absurd ⟨by omega, hnm, h⟩ hbB; rfl⟩)
  have hr0 : rstN ns i (i + 1) = nn4 - nn3 := by rw [rstN_at hn, kidT_own, Int.sub_zero]
  rcases hgo with h0 | ⟨h0, hnm⟩ | ⟨h0, hnm, hnb⟩
  case' inl =>
    (repeat (first | refine Jz ?_ | intro _))
    ((apply c_held ([(b6, .cells [.int .i64 nn1, strV nn2, .int .i64 nn3, .int .i64 nn4].toArray 51 (0, 0))]); (case hL => (exact sbT))); refine Jf 0 ?_; refine Jf 1 ?_; refine Jf 2 ?_; refine Jf 3 ?_; refine Jf 4 ?_; refine Jf 5 ?_; refine Jf 6 ?_; refine Jf 7 ?_; refine Jf 8 ?_; refine Jf 9 ?_; refine Jf 10 ?_; refine Jf 11 ?_; refine Jf 12 ?_; (apply h_one 13; (case hr => kernel_rfl)); (refine X.Jn ?_; try intro _); refine Jf 14 ?_; refine Jf 15 ?_; refine Jf 16 ?_; refine Jf 17 ?_; refine Jf 18 ?_; refine Jf 19 ?_; refine Jf 20 ?_; refine Jf 21 ?_; refine Jf 22 ?_; refine Jf 23 ?_; refine Jf 24 ?_; refine Jf 25 ?_; refine Jf 26 ?_; (apply h_one 27; (case hr => kernel_rfl)); (refine X.Jn ?_; try intro _); refine Jf 28 ?_; refine Jf 29 ?_; refine Jf 30 ?_; (apply h_end; (case hr => kernel_rfl)))
    (repeat (first | refine Jz ?_ | intro _))
  case' inr.inl =>
    obtain ⟨j, pq, sqa, sqc, hjj, hxj, s3, hpd2, hq12⟩ := hprev h0
    obtain ⟨z, hz⟩ : ∃ z, cmpP pq p = z := ⟨_, rfl⟩
    have hcc := hcmp pq sqa sqc _ s3 r3 hq12 z hz
    have hz0 : z < 0 := by
      have h2 := (hN.2.2.2 h0).2
      rw [hpd, hpd2] at h2
      rw [← hz]; exact cmpP_neg.2 h2
    have hne : (nn2 != [63]) = false := by rw [hnm]; decide
    (repeat (first | refine Jz ?_ | intro _))
    ((apply c_held ([(b6, .cells [.int .i64 nn1, strV nn2, .int .i64 nn3, .int .i64 nn4].toArray 51 (0, 0))]); (case hL => (exact sbT))); refine Jf 0 ?_; refine Jf 1 ?_; refine Jf 2 ?_; refine Jf 3 ?_; refine Jf 4 ?_; refine Jf 5 ?_; refine Jf 6 ?_; refine Jf 7 ?_; refine Jf 8 ?_; (apply h_first 9; (case hi => rfl); (case hr => kernel_rfl); (case hfr => kernel_rfl); (case hsel => kernel_rfl); (case hg => rfl); (case hd => rfl); (case he => (apply ev_neq_bv (r := false) (b := [63]); (case hx => rfl); (case hy => rfl); (case h => exact hne)))); refine Jf 10 ?_; refine Jf 11 ?_; refine Jf 12 ?_; (apply h_one 13; (case hr => kernel_rfl)); (refine X.Jn ?_; try intro _); refine Jf 14 ?_; refine Jf 15 ?_; refine Jf 16 ?_; refine Jf 17 ?_; refine Jf 18 ?_; refine Jf 19 ?_; (refine Jf 20 ?_; rw [hjj]); (apply h_idx hAp 21; (case hi => rfl); (case hr => kernel_rfl); (case hfr => kernel_rfl); (case hsel => kernel_rfl); (case hg => rfl); (case hd => rfl); (case i1 => infer_instance); (case i2 => infer_instance); (case hx => rfl); (case hy => rfl); (case hm => rfl); (case hu => exact hxj); intro u1 (hu1 : Pts _ u1 [.slice sqa (toS pq).length sqc])); (apply h_first 22; (case hi => rfl); (case hr => kernel_rfl); (case hfr => kernel_rfl); (case hsel => kernel_rfl); (case hg => rfl); (case hd => rfl); (case he => (apply ev_load1; (case hx => rfl); (case h => exact hu1)))); refine Jf 23 ?_; refine Jf 24 ?_; (apply h_idx hAp 25; (case hi => rfl); (case hr => kernel_rfl); (case hfr => kernel_rfl); (case hsel => kernel_rfl); (case hg => rfl); (case hd => rfl); (case i1 => infer_instance); (case i2 => infer_instance); (case hx => rfl); (case hy => rfl); (case hm => rfl); (case hu => exact hx); intro u2 (hu2 : Pts _ u2 [.slice xa (toS p).length xc])); (apply h_first 26; (case hi => rfl); (case hr => kernel_rfl); (case hfr => kernel_rfl); (case hsel => kernel_rfl); (case hg => rfl); (case hd => rfl); (case he => (apply ev_load1; (case hx => rfl); (case h => exact hu2)))); (apply h_one 27; (case hr => kernel_rfl)); (apply n_call; (case hi => rfl); (case i1 => infer_instance); (case hg => rfl); (case hd => rfl); (case ha => rfl); (case hc => exact hcc); (case hL => (repeat (first | exact pm_nil _ | exact pm_refl _ _ | exact pm_self _ | apply pm_cons | apply pm_app))); (case hsub => (intros; (exact sbT))); rintro _ _ _ - ⟨rfl, rfl, rfl⟩); refine Jf 28 ?_; refine Jf 29 ?_; refine Jf 30 ?_; (apply h_end; (case hr => kernel_rfl)))
    (repeat (first | refine Jz ?_ | intro _))
  case' inr.inr =>
    obtain ⟨j, pq, sqa, sqc, hjj, hxj, s3, hpd2, hq12⟩ := hprev h0
    obtain ⟨z, hz⟩ : ∃ z, cmpP pq p = z := ⟨_, rfl⟩
    have hcc := hcmp pq sqa sqc _ s3 r3 hq12 z hz
    have hz0 : z < 0 := by
      have h2 := (hN.2.2.2 h0).2
      rw [hpd, hpd2] at h2
      rw [← hz]; exact cmpP_neg.2 h2
    have hne : (nn2 != [63]) = true := by simpa using hnm
    (repeat (first | refine Jz ?_ | intro _))
    ((apply c_held ([(b6, .cells [.int .i64 nn1, strV nn2, .int .i64 nn3, .int .i64 nn4].toArray 51 (0, 0))]); (case hL => (exact sbT))); refine Jf 0 ?_; refine Jf 1 ?_; refine Jf 2 ?_; refine Jf 3 ?_; refine Jf 4 ?_; refine Jf 5 ?_; refine Jf 6 ?_; refine Jf 7 ?_; refine Jf 8 ?_; (apply h_first 9; (case hi => rfl); (case hr => kernel_rfl); (case hfr => kernel_rfl); (case hsel => kernel_rfl); (case hg => rfl); (case hd => rfl); (case he => (apply ev_neq_bv (r := true) (b := [63]); (case hx => rfl); (case hy => rfl); (case h => exact hne)))); refine Jf 10 ?_; refine Jf 11 ?_; refine Jf 12 ?_; (apply h_one 13; (case hr => kernel_rfl)); (apply n_call; (case hi => rfl); (case i1 => infer_instance); (case hg => rfl); (case hd => rfl); (case ha => rfl); (case hc => exact rfunction_t nn2 _ true hnb); (case hL => (repeat (first | exact pm_nil _ | exact pm_refl _ _ | exact pm_self _ | apply pm_cons | apply pm_app))); (case hsub => (intros; (exact sbT))); rintro _ _ _ - ⟨rfl, rfl, rfl⟩); refine Jf 14 ?_; refine Jf 15 ?_; refine Jf 16 ?_; refine Jf 17 ?_; refine Jf 18 ?_; refine Jf 19 ?_; (refine Jf 20 ?_; rw [hjj]); (apply h_idx hAp 21; (case hi => rfl); (case hr => kernel_rfl); (case hfr => kernel_rfl); (case hsel => kernel_rfl); (case hg => rfl); (case hd => rfl); (case i1 => infer_instance); (case i2 => infer_instance); (case hx => rfl); (case hy => rfl); (case hm => rfl); (case hu => exact hxj); intro u1 (hu1 : Pts _ u1 [.slice sqa (toS pq).length sqc])); (apply h_first 22; (case hi => rfl); (case hr => kernel_rfl); (case hfr => kernel_rfl); (case hsel => kernel_rfl); (case hg => rfl); (case hd => rfl); (case he => (apply ev_load1; (case hx => rfl); (case h => exact hu1)))); refine Jf 23 ?_; refine Jf 24 ?_; (apply h_idx hAp 25; (case hi => rfl); (case hr => kernel_rfl); (case hfr => kernel_rfl); (case hsel => kernel_rfl); (case hg => rfl); (case hd => rfl); (case i1 => infer_instance); (case i2 => infer_instance); (case hx => rfl); (case hy => rfl); (case hm => rfl); (case hu => exact hx); intro u2 (hu2 : Pts _ u2 [.slice xa (toS p).length xc])); (apply h_first 26; (case hi => rfl); (case hr => kernel_rfl); (case hfr => kernel_rfl); (case hsel => kernel_rfl); (case hg => rfl); (case hd => rfl); (case he => (apply ev_load1; (case hx => rfl); (case h => exact hu2)))); (apply h_one 27; (case hr => kernel_rfl)); (apply n_call; (case hi => rfl); (case i1 => infer_instance); (case hg => rfl); (case hd => rfl); (case ha => rfl); (case hc => exact hcc); (case hL => (repeat (first | exact pm_nil _ | exact pm_refl _ _ | exact pm_self _ | apply pm_cons | apply pm_app))); (case hsub => (intros; (exact sbT))); rintro _ _ _ - ⟨rfl, rfl, rfl⟩); refine Jf 28 ?_; refine Jf 29 ?_; refine Jf 30 ?_; (apply h_end; (case hr => kernel_rfl)))
    (repeat (first | refine Jz ?_ | intro _))
  all_goals (
    clear h0 hbA hbB hbC
    refine c_loop (fun m S' L F => S3 = S' ∧ ∃ (k : Nat), m = ns.length - k ∧ i < k ∧ k ≤ ns.length ∧ -1125899906842624 ≤ rstN ns i k ∧ rstN ns i k ≤ 1125899906842624 ∧ L = [(b1, .cells [.slice A ns.length c].toArray 24 (0, 0))] ∧
        F = [(1, .pointer (some ⟨b1, 0, none⟩)), (3, .slice Ap xs.length cp), (5, .int .i64 i), (7, .int .i64 (rstN ns i k)), (8, .int .i64 k)]) ⟨rfl, i + 1, rfl, by omega, by omega, by omega, by omega, rfl, by rw [hr0]⟩ sbF sbL ?_
    rintro m_ S5 L F ⟨rfl, k, rfl, hk1, hk2, hk3, hk4, rfl, rfl⟩
    have hRp : RV ns → ∀ j n, 0 < j → ns[j]? = some n → 1 ≤ n.total := fun h j n hj hn => by
      have := (hRV.1 h j n hn).1.2.1
      rw [if_neg (by omega)] at this
      have := of_decide_eq_true this
      omega
    by_cases hkl : k < ns.length
    rotate_left
    · obtain rfl : k = ns.length := by omega
      by_cases hz : rstN ns i ns.length = 0
      · (repeat (first | refine Jz ?_ | intro _))
        exact q_back (L' := [(b1, .cells [.slice A ns.length c].toArray 24 (0, 0))]) (m' := ns.length - (i + 1)) ⟨rfl, i + 1, rfl, by omega, (fun j n' hj hn' => by
          by_cases hji : j = i
          · subst hji
            rw [hn] at hn'
            obtain rfl := Option.some.inj hn'
            exact ⟨hN, hz⟩
          · exact hin j n' (by omega) hn'), rfl, rfl⟩ (by omega) sbF sbL
      · have hR := hno fun h => hz h.2
        (repeat (first | refine Jz ?_ | intro _))
        exact o_ret Tryz.results10 rfl (List.nil_sublist _) ⟨rfl, false, rfl, (fun h => absurd h Bool.false_ne_true), fun h => absurd h hR⟩
    obtain ⟨m, hm⟩ := at_lt hkl
    have hst := rstN_step hm hil
    by_cases hmp : m.parent = (i : Int)
    rotate_left
    · rw [if_neg (fun h => hmp h.2), Int.sub_zero] at hst
      (repeat (first | refine Jc ?_ | (apply s_idx hA3; (case hg => rfl); (case hd => rfl); (case hx => rfl); (case hi => rfl); (case hm => rfl); (case hu => exact hm); intro u (hu : Pts _ u [.int .i64 m.parent, strV m.name, .int .i64 m.own, .int .i64 m.total])) | (apply s_load_f; (case hg => rfl); (case hd => rfl); (case hx => rfl); (case h => exact hu); (case hv => rfl)) | refine Jo ?_ | intro _))
      exact q_back (L' := [(b1, .cells [.slice A ns.length c].toArray 24 (0, 0))]) (m' := ns.length - (k + 1)) ⟨rfl, k + 1, rfl, by omega, by omega, by omega, by omega, rfl, by rw [hst]⟩ (by omega) sbF sbL
    rw [if_pos ⟨hk1, hmp⟩] at hst
    cases v6 : inB m.total 0 (rstN ns i k)
    · have hR : ¬ RV ns := fun h => by
        have h1 := hRp h k m (by omega) hm
        have h2 := rstN_mono (fun j n hj hn => by have := hRp h j n hj hn; omega) hil (ns.length - (k + 1)) (k + 1) (by omega)
        have h3 := (hRV.1 h i _ hn).2
        have h4 := of_decide_eq_false v6
        omega
      (repeat (first | refine Jc ?_ | (apply s_idx hA3; (case hg => rfl); (case hd => rfl); (case hx => rfl); (case hi => rfl); (case hm => rfl); (case hu => exact hm); intro u (hu : Pts _ u [.int .i64 m.parent, strV m.name, .int .i64 m.own, .int .i64 m.total])) | (apply s_load_f; (case hg => rfl); (case hd => rfl); (case hx => rfl); (case h => exact hu); (case hv => rfl)) | (apply z_call; rfl; rfl; rfl; exact rin_t m.total 0 (rstN ns i k) _ _ v6; rintro _ _ _ - ⟨rfl, rfl, rfl⟩) | refine Jo ?_ | intro _))
      exact o_ret Tryz.results10 rfl (List.nil_sublist _) ⟨rfl, false, rfl, (fun h => absurd h Bool.false_ne_true), fun h => absurd h hR⟩
    · have v7 := of_decide_eq_true v6
      (repeat (first | refine Jc ?_ | (apply s_idx hA3; (case hg => rfl); (case hd => rfl); (case hx => rfl); (case hi => rfl); (case hm => rfl); (case hu => exact hm); intro u (hu : Pts _ u [.int .i64 m.parent, strV m.name, .int .i64 m.own, .int .i64 m.total])) | (apply s_load_f; (case hg => rfl); (case hd => rfl); (case hx => rfl); (case h => exact hu); (case hv => rfl)) | (apply z_call; rfl; rfl; rfl; exact rin_t m.total 0 (rstN ns i k) _ _ v6; rintro _ _ _ - ⟨rfl, rfl, rfl⟩) | refine Jo ?_ | intro _))
      exact q_back (L' := [(b1, .cells [.slice A ns.length c].toArray 24 (0, 0))]) (m' := ns.length - (k + 1)) ⟨rfl, k + 1, rfl, by omega, by omega, by omega, by omega, rfl, by rw [hst]⟩ (by omega) sbF sbL)
theorem rValid_t (ns : List Nd) (A : Option Addr) (c : Nat) (S : SH) (hA : At S A ns) (hl : ns.length ≤ 1000000) (r : Bool) (hr : validB ns = r) :
    Con Tryz.prog 10 #[.agg #[.slice A ns.length c]] S [] (fun _ L' v => L' = [] ∧ v = .bool r) :=
  (rValid_con ns A c S hA hl).mono fun S' L' v _ ⟨h1, b, h2, h3⟩ => by
    refine ⟨h1, ?_⟩
    rw [h2]
    have h4 : b = true ↔ r = true := by rw [h3, ← RV_iff, hr]
    cases b <;> cases r <;> simp_all
end Go.Proofs.YtcnfchchanlepaaGreat
namespace Go.Proofs.YtcnfchchanlepaaGreat
open Go Go.X
set_option linter.unusedVariables false
/-- The nodes' weights, added to a list one after the other. -/
def adK (g : Nd → Int) (acc : List Ch) (ps : List (List Bs)) (ns : List Nd) (k : Nat) : List Ch := ((ps.zip ns).take k).foldl (fun a x => addF a x.1 (g x.2)) acc
theorem zip_at {ps : List (List Bs)} {ns : List Nd} {k : Nat} {p : List Bs} {n : Nd} (hp : ps[k]? = some p) (hn : ns[k]? = some n) : (ps.zip ns)[k]? = some (p, n) := by
  rw [List.getElem?_zip_eq_some]; exact ⟨hp, hn⟩
theorem adK_step {g : Nd → Int} {acc : List Ch} {ps : List (List Bs)} {ns : List Nd} {k : Nat} {p : List Bs} {n : Nd} (hp : ps[k]? = some p) (hn : ns[k]? = some n) : adK g acc ps ns (k + 1) = addF (adK g acc ps ns k) p (g n) := by
  unfold adK
  rw [take_at (zip_at hp hn), List.foldl_append]; rfl
def sT (g : Nd → Int) (ps : List (List Bs)) (ns : List Nd) (k : Nat) (p : List Bs) : Int := (((ps.zip ns).take k).map fun x => if x.1 = p then g x.2 else 0).sum
structure AdOk (acc : List Ch) (m : Nat) : Prop where
  srt : KS acc
  len : acc.length ≤ m
  bd : ∀ z ∈ acc, VQ z.1 ∧ -(1125899906842624 * (m : Int)) ≤ z.2 ∧ z.2 ≤ 1125899906842624 * (m : Int)
theorem AdOk.nil : AdOk [] 0 := ⟨List.Pairwise.nil, Nat.le_refl _, fun z hz => absurd hz List.not_mem_nil⟩
theorem AdOk.step {acc : List Ch} {m : Nat} (h : AdOk acc m) {p : List Bs} (hp : VQ p) {n : Int} (hn : -1125899906842624 ≤ n ∧ n ≤ 1125899906842624) : AdOk (addF acc p n) (m + 1) := by
  refine ⟨addF_srt h.srt p n, by have := addF_len acc p n; have := h.len; omega, fun z hz => ?_⟩
  rcases addF_mem hz with ⟨e1, e2⟩ | e | ⟨x, hx, e1, e2⟩
  · rw [e1, e2]; exact ⟨hp, by omega, by omega⟩
  · have := h.bd z e; exact ⟨this.1, by omega, by omega⟩
  · rw [e1, e2]; have := h.bd x hx; exact ⟨hp, by omega, by omega⟩
theorem adK_ok {g : Nd → Int} {acc : List Ch} {ps : List (List Bs)} {ns : List Nd} {m : Nat} (h : AdOk acc m) (hv : ∀ p ∈ ps, VQ p) (hg : ∀ n ∈ ns, -1125899906842624 ≤ g n ∧ g n ≤ 1125899906842624) (hl : ps.length = ns.length) : ∀ k, k ≤ ns.length → AdOk (adK g acc ps ns k) (m + k)
  | 0, _ => h
  | k + 1, hk => by
    obtain ⟨n, hn⟩ := at_lt (show k < ns.length by omega)
    obtain ⟨p, hp⟩ := at_lt (show k < ps.length by omega)
    rw [adK_step hp hn]
    exact (adK_ok h hv hg hl k (by omega)).step (hv p (List.mem_of_getElem? hp)) (hg n (List.mem_of_getElem? hn))
theorem adK_val (g : Nd → Int) (acc : List Ch) (q : List Bs) : ∀ (zs : List (List Bs × Nd)), valF (zs.foldl (fun a x => addF a x.1 (g x.2)) acc) q = valF acc q + (zs.map fun x => if x.1 = q then g x.2 else 0).sum :=
  snoc_ind (by simp) fun zs x ih => by
    rw [List.foldl_append, List.foldl_cons, List.foldl_nil, addF_val, ih, List.map_append, List.sum_append]
    simp only [List.map_cons, List.map_nil, List.sum_cons, List.sum_nil]
    split <;> omega
theorem sT_wT {g : Nd → Int} {ns : List Nd} {ps : List (List Bs)} {rs : List Int} (h : readF ns = some (ps, rs)) {q : List Bs} (hq : VQ q) : (((ps.zip ns)).map fun x => if x.1 = q then g x.2 else 0).sum = wT g ns q := by
  have hst := (readF_st h).1
  have e : wF g ns = wE g ps ns := by unfold wF; rw [h]
  unfold wT
  rw [e]
  unfold wI wE
  rw [List.map_map]
  refine sum_congrP fun x hx => ?_
  simp only [Function.comp_apply]
  have hv := hst.vq x.1 (List.of_mem_zip hx).1
  by_cases hxq : x.1 = q
  · rw [if_pos hxq, if_pos (by rw [hxq])]
  · rw [if_neg hxq, if_neg fun e => hxq (pth_inj hv hq e)]
/-- What both loops make. -/
theorem two_val {g1 g2 g : Nd → Int} {a b : Int} (h1 : ∀ n, g1 n = a * g n) (h2 : ∀ n, g2 n = b * g n) {ns ms : List Nd} {ps qs : List (List Bs)} {rs rs' : List Int} (hp : readF ns = some (ps, rs)) (hq : readF ms = some (qs, rs')) (lp : ps.length = ns.length) (lq : qs.length = ms.length) {q : List Bs} (hv : VQ q) :
    valF (adK g2 (adK g1 [] ps ns ns.length) qs ms ms.length) q = a * wT g ns q + b * wT g ms q := by
  have t1 : (ps.zip ns).take ns.length = ps.zip ns := List.take_of_length_le (by rw [List.length_zip]; omega)
  have t2 : (qs.zip ms).take ms.length = qs.zip ms := List.take_of_length_le (by rw [List.length_zip]; omega)
  have mulS : ∀ (c : Int) (gg : Nd → Int) (zs : List (List Bs × Nd)), (zs.map fun x => if x.1 = q then c * gg x.2 else 0).sum = c * (zs.map fun x => if x.1 = q then gg x.2 else 0).sum := fun c gg zs => by
    induction zs with
    | nil => simp
    | cons x zs ih => rw [List.map_cons, List.map_cons, List.sum_cons, List.sum_cons, ih, Int.mul_add]; congr 1; split <;> simp
  unfold adK
  rw [t1, t2, adK_val, adK_val]
  have e1 : ((ps.zip ns).map fun x => if x.1 = q then g1 x.2 else 0).sum = a * wT g ns q := by
    rw [← sT_wT hp hv, ← mulS]
    exact sum_congrP fun x _ => by rw [h1]
  have e2 : ((qs.zip ms).map fun x => if x.1 = q then g2 x.2 else 0).sum = b * wT g ms q := by
    rw [← sT_wT hq hv, ← mulS]
    exact sum_congrP fun x _ => by rw [h2]
  rw [e1, e2]
  have : valF [] q = 0 := rfl
  omega
theorem rd_facts {ns : List Nd} {ps : List (List Bs)} {rs : List Int} (h : readF ns = some (ps, rs)) : ps.length = ns.length ∧ (∀ p ∈ ps, VQ p) ∧ (∀ n ∈ ns, 0 ≤ n.own ∧ n.own ≤ n.total ∧ n.total ≤ 1125899906842624) := by
  obtain ⟨h1, _, h2⟩ := readF_st h
  refine ⟨?_, h1.vq, readF_ok h⟩
  have := h1.lp
  have := h2.1
  omega
theorem wT_bd {g : Nd → Int} {ns : List Nd} (h : ∀ x ∈ wF g ns, 0 ≤ x.2 ∧ x.2 ≤ 1125899906842624) (p : List Bs) : 0 ≤ wT g ns p ∧ wT g ns p ≤ 1125899906842624 := wI_rng (wF_ok g ns).1 h (by omega) _
/-- From Build's answer to that of Merge and Sub. -/
theorem build_comb {s : Int} {ns ms : List Nd} (hv : validB ns = true ∧ validB ms = true) {ys : List Ch} (hk : KS ys) (hq : ∀ y ∈ ys, VQ y.1) (hval : ∀ p, VQ p → valF ys p = wT Nd.own ns p + s * wT Nd.own ms p) {v : Value} {ok : Bool} {L' : Blocks} (h : BuildR ys v ok L') : CombR s ns ms v (if ok = true then 0 else 180) L' := by
  rcases h with ⟨⟨y, hy, h1⟩, rfl, rfl, rfl⟩ | ⟨h0, M, hM, h⟩
  · exact .inr ⟨hv, .inl ⟨⟨y.1, hq y hy, by rw [← hval _ (hq y hy), hk.one hy]; exact h1⟩, rfl, rfl, rfl⟩⟩
  · have hM2 : Can (fun p => wT Nd.own ns p + s * wT Nd.own ms p) M := hM.congr hval
    have h1 : ∀ p, VQ p → 0 ≤ wT Nd.own ns p + s * wT Nd.own ms p := fun p hp => by
      rw [← hval p hp]
      unfold valF
      exact sum_nonnegP fun y hy => by
        split
        · exact h0 y hy
        · exact Int.le_refl _
    have e1 : sumL (valF ys) M = sumL (fun p => wT Nd.own ns p + s * wT Nd.own ms p) M := sumL_congr fun p hp => hval p (hM.vq p hp)
    have e2 : nodesC (valF ys) M = nodesC (fun p => wT Nd.own ns p + s * wT Nd.own ms p) M := nodesC_congr fun p hp => hval p (hM.vq p hp)
    have e3 : fits (valF ys) M ↔ fits (fun p => wT Nd.own ns p + s * wT Nd.own ms p) M := by unfold fits; rw [e1]
    refine .inr ⟨hv, .inr ⟨h1, M, hM2, ?_⟩⟩
    rcases h with ⟨hf, rfl, ho⟩ | ⟨hf, rfl, rfl, rfl⟩
    · exact .inl ⟨e3.1 hf, rfl, e2 ▸ ho⟩
    · exact .inr ⟨fun h => hf (e3.2 h), rfl, rfl, rfl⟩
end Go.Proofs.YtcnfchchanlepaaGreat
namespace Go.Proofs.YtcnfchchanlepaaGreat
open Go Go.X
set_option linter.unusedVariables false
theorem BuildR.form {ys : List Ch} {v : Value} {ok : Bool} {L' : Blocks} (h : BuildR ys v ok L') : ∃ A m c, v = .slice A m c := by
  rcases h with ⟨_, _, rfl, _⟩ | ⟨_, M, _, ⟨_, _, ho⟩ | ⟨_, _, rfl, _⟩⟩
  · exact ⟨_, _, _, rfl⟩
  · obtain ⟨A, c, rfl⟩ := ho.form; exact ⟨_, _, _, rfl⟩
  · exact ⟨_, _, _, rfl⟩
theorem BuildR.no {ys : List Ch} {v : Value} {L' : Blocks} (h : BuildR ys v false L') : v = .slice none 0 0 ∧ L' = [] := by
  rcases h with ⟨_, _, h1, h2⟩ | ⟨_, M, _, ⟨_, h, _⟩ | ⟨_, _, h1, h2⟩⟩
  · exact ⟨h1, h2⟩
  · cases h
  · exact ⟨h1, h2⟩
theorem rPathsV {ns : List Nd} {ps : List (List Bs)} (hp : rpF ns = some ps) (A : Option Addr) (c : Nat) (S : SH) (hA : At S A ns) (hl : ns.length ≤ 1000000) :
    Con Tryz.prog 28 #[.agg #[.slice A ns.length c]] S [] (fun S' L' r => ∃ v xs, r = .tuple #[v, .bool true] ∧ Ows 52 v xs L' ∧ PthL S' xs ps) :=
  (rPaths_con ns A c S hA hl).mono fun S' L' r _ hh => by
    rcases hh.2 with ⟨h4, _⟩ | ⟨ps', v, xs, h4, h5, h6, h7, h8⟩
    · rw [hp] at h4; cases h4
    · rw [hp] at h4
      obtain rfl := Option.some.inj h4
      exact ⟨v, xs, h5, h6, h7⟩
set_option maxRecDepth 10000
set_option linter.unusedVariables false
attribute [local irreducible] Code.wpIn wpListIn Exit.then Exit.inBlock X.Out X.Back X.W X.Ev X.Con X.BinV X.Wh X.Wn X.Wq
set_option maxHeartbeats 6400000 in
theorem rComb_con (s : Int) (hs : s = 1 ∨ s = -1) (ns ms : List Nd) (A B : Option Addr) (c d : Nat) (S : SH) (hA : At S A ns) (hB : At S B ms) (hl : ns.length + ms.length ≤ 400) :
    Con Tryz.prog 34 #[.agg #[.slice A ns.length c], .agg #[.slice B ms.length d], .int .i64 s] S [] (fun _ L' r => ∃ v ec, r = .tuple #[.agg #[v], .int .i64 ec] ∧ CombR s ns ms v ec L') := by
  refine con_of (args := [.agg #[.slice A ns.length c], .agg #[.slice B ms.length d], .int .i64 s]) Tryz.func34 rfl Tryz.ntmps34 rfl fun w => ?_
  cases hv1 : validB ns
  · (repeat (first | refine Jc ?_ | ((apply s_call; (case hg => rfl); (case hd => rfl); (case ha => rfl); (case hc => exact rValid_t ns A c _ hA (by omega) _ hv1); (case hL => (repeat (first | exact pm_nil _ | exact pm_refl _ _ | exact pm_self _ | apply pm_cons | apply pm_app))); rintro S1 L1 v1 h1 ⟨rfl, rfl⟩)) | (apply s_evb; (case hg => rfl); (case hd => rfl); (case hn => rfl); (case he => (apply ev_buildS; (case hp => rfl); (case hz => rfl); (case h1 => rfl); (case hr => rfl)))) | refine Jo ?_ | intro _))
    exact o_ret_c2 (L' := []) (sz := 1) (cs := [.slice none 0 0]) Tryz.results34 rfl rfl (by (repeat (first | exact List.Mem.head _ | apply List.Mem.tail | apply List.mem_append_right))) rfl (List.nil_sublist _) ⟨_, _, rfl, .inl ⟨fun h => by rw [hv1] at h; exact Bool.false_ne_true h.1, rfl, rfl, rfl⟩⟩
  (repeat (first | refine Jc ?_ | ((apply s_call; (case hg => rfl); (case hd => rfl); (case ha => rfl); (case hc => exact rValid_t ns A c _ hA (by omega) _ hv1); (case hL => (repeat (first | exact pm_nil _ | exact pm_refl _ _ | exact pm_self _ | apply pm_cons | apply pm_app))); rintro S1 L1 v1 h1 ⟨rfl, rfl⟩)) | refine Jo ?_ | intro _))
  rename_i b3 b4 b6
  cases hv2 : validB ms
  · (repeat (first | refine Jc ?_ | ((apply s_call; (case hg => rfl); (case hd => rfl); (case ha => rfl); (case hc => exact rValid_t ms B d _ (hB.le h1) (by omega) _ hv2); (case hL => (repeat (first | exact pm_nil _ | exact pm_refl _ _ | exact pm_self _ | apply pm_cons | apply pm_app))); rintro S2 L2 v2 h2 ⟨rfl, rfl⟩)) | (apply s_evb; (case hg => rfl); (case hd => rfl); (case hn => rfl); (case he => (apply ev_buildS; (case hp => rfl); (case hz => rfl); (case h1 => rfl); (case hr => rfl)))) | refine Jo ?_ | intro _))
    exact o_ret_c2 (L' := []) (sz := 1) (cs := [.slice none 0 0]) Tryz.results34 rfl rfl (by (repeat (first | exact List.Mem.head _ | apply List.Mem.tail | apply List.mem_append_right))) rfl (List.nil_sublist _) ⟨_, _, rfl, .inl ⟨fun h => by rw [hv2] at h; exact Bool.false_ne_true h.2, rfl, rfl, rfl⟩⟩
  obtain ⟨ps, rs, hrd1, hrp1⟩ := readF_rp hv1
  obtain ⟨qs, rs', hrd2, hrp2⟩ := readF_rp hv2
  obtain ⟨lp, vp, bp⟩ := rd_facts hrd1
  obtain ⟨lq, vq, bq⟩ := rd_facts hrd2
  (repeat (first | refine Jc ?_ | ((apply s_call; (case hg => rfl); (case hd => rfl); (case ha => rfl); (case hc => exact rValid_t ms B d _ (hB.le h1) (by omega) _ hv2); (case hL => (repeat (first | exact pm_nil _ | exact pm_refl _ _ | exact pm_self _ | apply pm_cons | apply pm_app))); rintro S2 L2 v2 h2 ⟨rfl, rfl⟩)) | ((apply s_call; (case hg => rfl); (case hd => rfl); (case ha => rfl); (case hc => exact rPathsV hrp1 A c _ (hA.le (h1.trans h2)) (by omega)); (case hL => (repeat (first | exact pm_nil _ | exact pm_refl _ _ | exact pm_self _ | apply pm_cons | apply pm_app))); rintro S3 L3 _ h3 ⟨v3, xp, rfl, ho3, hxp⟩); refine W.freezeOws ho3 (List.Perm.refl _) fun S4 h4 hs4 => ?_; obtain ⟨Ap, cp, rfl, _, hAp⟩ := hs4) | refine Jo ?_ | intro _))
  have h14 := ((h1.trans h2).trans h3).trans h4
  (repeat (first | refine Jc ?_ | ((apply s_call; (case hg => rfl); (case hd => rfl); (case ha => rfl); (case hc => exact rPathsV hrp2 B d _ (hB.le h14) (by omega)); (case hL => (repeat (first | exact pm_nil _ | exact pm_refl _ _ | exact pm_self _ | apply pm_cons | apply pm_app))); rintro S5 L5 _ h5 ⟨v5, xq, rfl, ho5, hxq⟩); refine W.freezeOws ho5 (List.Perm.refl _) fun S6 h6 hs6 => ?_; obtain ⟨Aq, cq, rfl, _, hAq⟩ := hs6) | refine Jo ?_ | intro _))
  have h46 := h5.trans h6
  have hxp6 := (hxp.le h4).le h46
  have hxq6 := hxq.le h6
  have hAp6 := hAp.le h46
  have hA6 := hA.le (h14.trans h46)
  have hB6 := hB.le (h14.trans h46)
  have lxp := hxp.1
  have lxq := hxq.1
  have ok1 := adK_ok (g := Nd.own) AdOk.nil vp (fun n hn => by have := bp n hn; omega) lp
  have ok2 := adK_ok (g := fun n => s * n.own) (ok1 ns.length (Nat.le_refl _)) vq (fun n hn => by have := bq n hn; rcases hs with rfl | rfl <;> omega) lq
  refine c_loop (fun m S' L F => Le S6 S' ∧ ∃ (i : Nat) (v : Value) (rs : List Cg) (ob : Blocks), m = ns.length - i ∧ i ≤ ns.length ∧ Ows 94 v rs ob ∧ ChL S' rs (adK Nd.own [] ps ns i) ∧ L = ob ++ [(b6, .cells [.slice none 0 0].toArray 24 (0, 0)), (b4, .cells [.slice B ms.length d].toArray 24 (0, 0)), (b3, .cells [.slice A ns.length c].toArray 24 (0, 0))] ∧
      F = [(2, .int .i64 s), (3, .pointer (some ⟨b3, 0, none⟩)), (4, .pointer (some ⟨b4, 0, none⟩)), (6, .pointer (some ⟨b6, 0, none⟩)), (8, .slice Ap xp.length cp), (10, .slice Aq xq.length cq), (12, v), (13, .int .i64 i)]) ⟨Le.refl _, 0, _, [], [], rfl, by omega, Ows.nil _, ChL.nil _, rfl, rfl⟩ sbF sbL ?_
  rintro m S7 L F ⟨h7, i, v, rs1, ob, rfl, hi, ho, hrs, rfl, rfl⟩
  by_cases hil : i < ns.length
  · obtain ⟨n, hn⟩ := at_lt hil
    obtain ⟨p, hp⟩ := at_lt (show i < ps.length by omega)
    obtain ⟨x, hx⟩ := at_lt (show i < xp.length by omega)
    obtain ⟨r1, r2, r3⟩ := hxp6.2 i x p hx hp
    obtain ⟨xa, xm, xc⟩ := x
    simp only at r1 r2 r3
    subst r1
    have hp12 := (vp p (List.mem_of_getElem? hp)).1
    have hbn := bp n (List.mem_of_getElem? hn)
    have hok := ok1 i hi
    have hle := hok.len
    have hrl := hrs.1
    (repeat (first | refine Jz ?_ | intro _))
    ((apply c_held ([(b3, .cells [.slice A ns.length c].toArray 24 (0, 0))]); (case hL => (exact sbT))); refine Jf 0 ?_; refine Jf 1 ?_; refine Jf 2 ?_; (apply h_idx (hAp6.le h7) 3; (case hi => rfl); (case hr => kernel_rfl); (case hfr => kernel_rfl); (case hsel => kernel_rfl); (case hg => rfl); (case hd => rfl); (case i1 => infer_instance); (case i2 => infer_instance); (case hx => rfl); (case hy => rfl); (case hm => rfl); (case hu => exact hx); intro u1 (hu1 : Pts _ u1 [.slice xa (toS p).length xc])); (apply h_first 4; (case hi => rfl); (case hr => kernel_rfl); (case hfr => kernel_rfl); (case hsel => kernel_rfl); (case hg => rfl); (case hd => rfl); (case he => (apply ev_load1; (case hx => rfl); (case h => exact hu1)))); refine Jf 5 ?_; refine Jf 6 ?_; refine Jf 7 ?_; (apply h_idx (hA6.le h7) 8; (case hi => rfl); (case hr => kernel_rfl); (case hfr => kernel_rfl); (case hsel => kernel_rfl); (case hg => rfl); (case hd => rfl); (case i1 => infer_instance); (case i2 => infer_instance); (case hx => rfl); (case hy => rfl); (case hm => rfl); (case hu => exact hn); intro u2 (hu2 : Pts _ u2 [.int .i64 n.parent, strV n.name, .int .i64 n.own, .int .i64 n.total])); refine Jf 9 ?_; (apply h_first 10; (case hi => rfl); (case hr => kernel_rfl); (case hfr => kernel_rfl); (case hsel => kernel_rfl); (case hg => rfl); (case hd => rfl); (case he => (apply ev_load_f; (case hx => rfl); (case h => exact hu2); (case hv => rfl)))); (apply h_one 11; (case hr => kernel_rfl)); (apply n_call; (case hi => rfl); (case i1 => infer_instance); (case hg => rfl); (case hd => rfl); (case ha => rfl); (case hc => exact radd_con rs1 _ v ob p xa xc n.own _ ho hrs (by omega) (fun y hy => by have := (hok.bd y hy).1.1; omega) (by omega) (r3.le h7) r2 (by omega) (fun y hy => by have := (hok.bd y hy).2; omega)); (case hL => (repeat (first | exact pm_nil _ | exact pm_refl _ _ | exact pm_self _ | apply pm_cons | apply pm_app))); (case hsub => (intros; (exact sbT))); rintro S8 L8 v8 h8 ⟨-, rs8, ho8, hrs8⟩); refine Jf 12 ?_; (apply h_end; (case hr => kernel_rfl)); ((((repeat (first | refine Jz ?_ | intro _))); exact q_back (L' := L8 ++ [(b6, .cells [.slice none 0 0].toArray 24 (0, 0)), (b4, .cells [.slice B ms.length d].toArray 24 (0, 0)), (b3, .cells [.slice A ns.length c].toArray 24 (0, 0))]) (m' := ns.length - (i + 1)) ⟨h7.trans h8, i + 1, v8, rs8, L8, rfl, by omega, ho8, by rw [adK_step hp hn]; exact hrs8, rfl, rfl⟩ (by omega) sbF sbL)))
  obtain rfl : i = ns.length := by omega
  (repeat (first | refine Jz ?_ | intro _))
  refine c_loop (fun m S' L F => Le S7 S' ∧ ∃ (i : Nat) (v : Value) (rs : List Cg) (ob : Blocks), m = ms.length - i ∧ i ≤ ms.length ∧ Ows 94 v rs ob ∧ ChL S' rs (adK (fun n => s * n.own) (adK Nd.own [] ps ns ns.length) qs ms i) ∧ L = ob ++ [(b6, .cells [.slice none 0 0].toArray 24 (0, 0)), (b4, .cells [.slice B ms.length d].toArray 24 (0, 0)), (b3, .cells [.slice A ns.length c].toArray 24 (0, 0))] ∧
      F = [(2, .int .i64 s), (3, .pointer (some ⟨b3, 0, none⟩)), (4, .pointer (some ⟨b4, 0, none⟩)), (6, .pointer (some ⟨b6, 0, none⟩)), (8, .slice Ap xp.length cp), (10, .slice Aq xq.length cq), (12, v), (14, .int .i64 i)]) ⟨Le.refl _, 0, v, rs1, ob, rfl, by omega, ho, hrs, rfl, rfl⟩ sbF sbL ?_
  rintro m S9 L F ⟨h9, i, v, rs2, ob, rfl, hi, ho, hrs, rfl, rfl⟩
  have h79 := h7.trans h9
  by_cases hil : i < ms.length
  · obtain ⟨n, hn⟩ := at_lt hil
    obtain ⟨p, hp⟩ := at_lt (show i < qs.length by omega)
    obtain ⟨x, hx⟩ := at_lt (show i < xq.length by omega)
    obtain ⟨r1, r2, r3⟩ := hxq6.2 i x p hx hp
    obtain ⟨xa, xm, xc⟩ := x
    simp only at r1 r2 r3
    subst r1
    have hp12 := (vq p (List.mem_of_getElem? hp)).1
    have hbn := bq n (List.mem_of_getElem? hn)
    have hbs : -1125899906842624 ≤ s * n.own ∧ s * n.own ≤ 1125899906842624 := by rcases hs with rfl | rfl <;> omega
    have hok := ok2 i hi
    have hle := hok.len
    have hrl := hrs.1
    (repeat (first | refine Jz ?_ | intro _))
    ((apply c_held ([(b4, .cells [.slice B ms.length d].toArray 24 (0, 0))]); (case hL => (exact sbT))); refine Jf 0 ?_; refine Jf 1 ?_; refine Jf 2 ?_; (apply h_idx (hAq.le h79) 3; (case hi => rfl); (case hr => kernel_rfl); (case hfr => kernel_rfl); (case hsel => kernel_rfl); (case hg => rfl); (case hd => rfl); (case i1 => infer_instance); (case i2 => infer_instance); (case hx => rfl); (case hy => rfl); (case hm => rfl); (case hu => exact hx); intro u1 (hu1 : Pts _ u1 [.slice xa (toS p).length xc])); (apply h_first 4; (case hi => rfl); (case hr => kernel_rfl); (case hfr => kernel_rfl); (case hsel => kernel_rfl); (case hg => rfl); (case hd => rfl); (case he => (apply ev_load1; (case hx => rfl); (case h => exact hu1)))); refine Jf 5 ?_; refine Jf 6 ?_; refine Jf 7 ?_; refine Jf 8 ?_; (apply h_idx (hB6.le h79) 9; (case hi => rfl); (case hr => kernel_rfl); (case hfr => kernel_rfl); (case hsel => kernel_rfl); (case hg => rfl); (case hd => rfl); (case i1 => infer_instance); (case i2 => infer_instance); (case hx => rfl); (case hy => rfl); (case hm => rfl); (case hu => exact hn); intro u2 (hu2 : Pts _ u2 [.int .i64 n.parent, strV n.name, .int .i64 n.own, .int .i64 n.total])); refine Jf 10 ?_; (apply h_first 11; (case hi => rfl); (case hr => kernel_rfl); (case hfr => kernel_rfl); (case hsel => kernel_rfl); (case hg => rfl); (case hd => rfl); (case he => (apply ev_load_f; (case hx => rfl); (case h => exact hu2); (case hv => rfl)))); refine Jf 12 ?_; (apply h_one 13; (case hr => kernel_rfl)); (apply n_call; (case hi => rfl); (case i1 => infer_instance); (case hg => rfl); (case hd => rfl); (case ha => rfl); (case hc => exact radd_con rs2 _ v ob p xa xc (s * n.own) _ ho hrs (by omega) (fun y hy => by have := (hok.bd y hy).1.1; omega) (by omega) (r3.le h79) r2 (by omega) (fun y hy => by have := (hok.bd y hy).2; omega)); (case hL => (repeat (first | exact pm_nil _ | exact pm_refl _ _ | exact pm_self _ | apply pm_cons | apply pm_app))); (case hsub => (intros; (exact sbT))); rintro S8 L8 v8 h8 ⟨-, rs8, ho8, hrs8⟩); refine Jf 14 ?_; (apply h_end; (case hr => kernel_rfl)); ((((repeat (first | refine Jz ?_ | intro _))); exact q_back (L' := L8 ++ [(b6, .cells [.slice none 0 0].toArray 24 (0, 0)), (b4, .cells [.slice B ms.length d].toArray 24 (0, 0)), (b3, .cells [.slice A ns.length c].toArray 24 (0, 0))]) (m' := ms.length - (i + 1)) ⟨h9.trans h8, i + 1, v8, rs8, L8, rfl, by omega, ho8, by rw [adK_step hp hn]; exact hrs8, rfl, rfl⟩ (by omega) sbF sbL)))
  obtain rfl : i = ms.length := by omega
  have hok := ok2 ms.length (Nat.le_refl _)
  have hle := hok.len
  have hval : ∀ p, VQ p → valF (adK (fun n => s * n.own) (adK Nd.own [] ps ns ns.length) qs ms ms.length) p = wT Nd.own ns p + s * wT Nd.own ms p := fun p hp => by
    rw [two_val (a := 1) (b := s) (g := Nd.own) (fun n => by omega) (fun n => rfl) hrd1 hrd2 lp lq hp, Int.one_mul]
  generalize adK (fun n => s * n.own) (adK Nd.own [] ps ns ns.length) qs ms ms.length = zs at *
  have hbz : ∀ y ∈ zs, -2251799813685248 ≤ y.2 ∧ y.2 ≤ 2251799813685248 := fun y hy => by
    have h1 := hok.srt.one hy
    rw [hval _ (hok.bd y hy).1] at h1
    have h2 := wT_bd (wF_own (ns := ns)) y.1
    have h3 := wT_bd (wF_own (ns := ms)) y.1
    rcases hs with rfl | rfl <;> omega
  have hrl := hrs.1
  refine W.freezeOws (L1 := [(b6, .cells [.slice none 0 0].toArray 24 (0, 0)), (b4, .cells [.slice B ms.length d].toArray 24 (0, 0)), (b3, .cells [.slice A ns.length c].toArray 24 (0, 0))]) ho (List.Perm.refl _) fun S10 h10 hs10 => ?_
  obtain ⟨A10, c10, rfl, _, hA10⟩ := hs10
  (repeat (first | refine Jc ?_ | ((apply s_call; (case hg => rfl); (case hd => rfl); (case ha => rfl); (case hc => exact rBuild_con rs2 zs A10 c10 _ hA10 (hrs.le h10) (by omega) (fun y hy => (hok.bd y hy).1) hbz); (case hL => (repeat (first | exact pm_nil _ | exact pm_refl _ _ | exact pm_self _ | apply pm_cons | apply pm_app))); rintro S11 L11 _ h11 ⟨v11, ok, rfl, hB11⟩); obtain ⟨A11, m11, c11, rfl⟩ := hB11.form) | refine Jo ?_ | intro _))
  have hC := build_comb ⟨hv1, hv2⟩ hok.srt (fun y hy => (hok.bd y hy).1) hval hB11
  cases ok
  · obtain ⟨e1, rfl⟩ := hB11.no
    rw [e1] at hC
    (repeat (first | refine Jc ?_ | (apply s_evb; (case hg => rfl); (case hd => rfl); (case hn => rfl); (case he => (apply ev_buildS; (case hp => rfl); (case hz => rfl); (case h1 => rfl); (case hr => rfl)))) | refine Jo ?_ | intro _))
    exact o_ret_c2 (L' := []) (sz := 1) (cs := [.slice none 0 0]) Tryz.results34 rfl rfl (by (repeat (first | exact List.Mem.head _ | apply List.Mem.tail | apply List.mem_append_right))) rfl (List.nil_sublist _) ⟨_, _, rfl, hC⟩
  · (repeat (first | refine Jz ?_ | intro _))
    exact o_ret_c2 (L' := L11) (sz := 1) (cs := [.slice A11 m11 c11]) Tryz.results34 rfl rfl (by (repeat (first | exact List.Mem.head _ | apply List.Mem.tail | apply List.mem_append_right))) rfl sbL ⟨_, _, rfl, hC⟩
end Go.Proofs.YtcnfchchanlepaaGreat
namespace Go.Proofs.YtcnfchchanlepaaGreat
open Go Go.X
set_option linter.unusedVariables false
/-- What Merge and Sub answer is determined. -/
theorem comb_one (s : Int) (ns ms : List Nd) : ∃ (N : List Nd) (e : Int), N.length ≤ 1000000 ∧ ∀ v ec L', CombR s ns ms v ec L' → ec = e ∧ Ows 51 v N L' := by
  by_cases hv : validB ns = true ∧ validB ms = true
  rotate_left
  · refine ⟨[], 180, by simp, fun v ec L' h => ?_⟩
    rcases h with ⟨_, rfl, rfl, rfl⟩ | ⟨h, _⟩
    · exact ⟨rfl, Ows.nil _⟩
    · exact absurd h hv
  by_cases hn : ∃ p, VQ p ∧ wT Nd.own ns p + s * wT Nd.own ms p < 0
  · refine ⟨[], 180, by simp, fun v ec L' h => ?_⟩
    rcases h with ⟨h, _⟩ | ⟨_, ⟨_, rfl, rfl, rfl⟩ | ⟨h, _⟩⟩
    · exact absurd hv h
    · exact ⟨rfl, Ows.nil _⟩
    · obtain ⟨p, hp, h2⟩ := hn
      have := h p hp; omega
  by_cases hM : ∃ M, Can (fun p => wT Nd.own ns p + s * wT Nd.own ms p) M
  rotate_left
  · refine ⟨[], 0, by simp, fun v ec L' h => ?_⟩
    rcases h with ⟨h, _⟩ | ⟨_, ⟨h, _⟩ | ⟨_, M, hM2, _⟩⟩
    · exact absurd hv h
    · exact absurd h hn
    · exact absurd ⟨M, hM2⟩ hM
  obtain ⟨M, hM⟩ := hM
  by_cases hf : fits (fun p => wT Nd.own ns p + s * wT Nd.own ms p) M
  · refine ⟨nodesC (fun p => wT Nd.own ns p + s * wT Nd.own ms p) M, 0, by rw [nodesC_len]; have := hf.2; omega, fun v ec L' h => ?_⟩
    rcases h with ⟨h, _⟩ | ⟨_, ⟨h, _⟩ | ⟨_, M2, hM2, h⟩⟩
    · exact absurd hv h
    · exact absurd h hn
    · obtain rfl := hM.eq hM2 fun _ _ => rfl
      rcases h with ⟨_, rfl, ho⟩ | ⟨h, _⟩
      · exact ⟨rfl, ho⟩
      · exact absurd hf h
  · refine ⟨[], 180, by simp, fun v ec L' h => ?_⟩
    rcases h with ⟨h, _⟩ | ⟨_, ⟨h, _⟩ | ⟨_, M2, hM2, h⟩⟩
    · exact absurd hv h
    · exact absurd h hn
    · obtain rfl := hM.eq hM2 fun _ _ => rfl
      rcases h with ⟨h, _⟩ | ⟨_, rfl, rfl, rfl⟩
      · exact absurd h hf
      · exact ⟨rfl, Ows.nil _⟩
set_option maxRecDepth 10000
set_option linter.unusedVariables false
attribute [local irreducible] Code.wpIn wpListIn Exit.then Exit.inBlock X.Out X.Back X.W X.Ev X.Con X.BinV X.Wh X.Wn X.Wq
theorem rMerge_con (ns ms : List Nd) (A B : Option Addr) (c d : Nat) (S : SH) (hA : At S A ns) (hB : At S B ms) (hl : ns.length + ms.length ≤ 400) :
    Con Tryz.prog 12 #[.agg #[.slice A ns.length c], .agg #[.slice B ms.length d]] S [] (fun _ L' r => ∃ v ec, r = .tuple #[.agg #[v], .int .i64 ec] ∧ CombR 1 ns ms v ec L') := by
  refine con_of (args := [.agg #[.slice A ns.length c], .agg #[.slice B ms.length d]]) Tryz.func12 rfl Tryz.ntmps12 rfl fun w => ?_
  (repeat (first | refine Jc ?_ | ((apply s_call; (case hg => rfl); (case hd => rfl); (case ha => rfl); (case hc => exact rComb_con 1 (.inl rfl) ns ms A B c d _ hA hB hl); (case hL => (repeat (first | exact pm_nil _ | exact pm_refl _ _ | exact pm_self _ | apply pm_cons | apply pm_app))); rintro S1 L1 _ h1 ⟨v1, ec, rfl, hC⟩); obtain ⟨A1, m1, c1, rfl⟩ := hC.form) | refine Jo ?_ | intro _))
  exact o_ret_c2 (L' := L1) (sz := 1) (cs := [.slice A1 m1 c1]) Tryz.results12 rfl rfl (by (repeat (first | exact List.Mem.head _ | apply List.Mem.tail | apply List.mem_append_right))) rfl sbL ⟨_, _, rfl, hC⟩
theorem rSub_con (ns ms : List Nd) (A B : Option Addr) (c d : Nat) (S : SH) (hA : At S A ns) (hB : At S B ms) (hl : ns.length + ms.length ≤ 400) :
    Con Tryz.prog 14 #[.agg #[.slice A ns.length c], .agg #[.slice B ms.length d]] S [] (fun _ L' r => ∃ v ec, r = .tuple #[.agg #[v], .int .i64 ec] ∧ CombR (-1) ns ms v ec L') := by
  refine con_of (args := [.agg #[.slice A ns.length c], .agg #[.slice B ms.length d]]) Tryz.func14 rfl Tryz.ntmps14 rfl fun w => ?_
  (repeat (first | refine Jc ?_ | ((apply s_call; (case hg => rfl); (case hd => rfl); (case ha => rfl); (case hc => exact rComb_con (-1) (.inr rfl) ns ms A B c d _ hA hB hl); (case hL => (repeat (first | exact pm_nil _ | exact pm_refl _ _ | exact pm_self _ | apply pm_cons | apply pm_app))); rintro S1 L1 _ h1 ⟨v1, ec, rfl, hC⟩); obtain ⟨A1, m1, c1, rfl⟩ := hC.form) | refine Jo ?_ | intro _))
  exact o_ret_c2 (L' := L1) (sz := 1) (cs := [.slice A1 m1 c1]) Tryz.results14 rfl rfl (by (repeat (first | exact List.Mem.head _ | apply List.Mem.tail | apply List.mem_append_right))) rfl sbL ⟨_, _, rfl, hC⟩
set_option maxHeartbeats 1600000 in
theorem rBefore_con (x y : Cg) (a b : Ch) (S : SH) (hx : cgR S x a) (hy : cgR S y b) (ha : -4611686018427387904 ≤ a.2 ∧ a.2 ≤ 4611686018427387904) (hb : -4611686018427387904 ≤ b.2 ∧ b.2 ≤ 4611686018427387904) (la : a.1.length ≤ 1000000) (lb : b.1.length ≤ 1000000) (r : Bool) (hr : r = true ↔ bef a b) :
    Con Tryz.prog 46 #[.agg #[.slice x.path.a x.path.m x.path.c, .int .i64 x.by_], .agg #[.slice y.path.a y.path.m y.path.c, .int .i64 y.by_]] S [] (X.Pure S (.bool r)) := by
  obtain ⟨⟨xa, xm, xc⟩, xb⟩ := x
  obtain ⟨⟨ya, ym, yc⟩, yb⟩ := y
  obtain ⟨p, m⟩ := a
  obtain ⟨q, n⟩ := b
  obtain ⟨r0, r1, r2, r3⟩ := hx
  obtain ⟨s0, s1, s2, s3⟩ := hy
  simp only at r0 r1 r2 r3 s0 s1 s2 s3 ha hb la lb
  subst r0; subst r1; subst s0; subst s1
  refine con_of (args := [.agg #[.slice xa (toS p).length xc, .int .i64 xb], .agg #[.slice ya (toS q).length yc, .int .i64 yb]]) Tryz.func46 rfl Tryz.ntmps46 rfl fun w => ?_
  have hcc := rCompare_con p q xa ya xc yc S r3 s3 la lb
  obtain ⟨z, hz⟩ : ∃ z, cmpP p q = z := ⟨_, rfl⟩
  rw [hz] at hcc
  have hzn : z < 0 ↔ p < q := by rw [← hz]; exact cmpP_neg
  unfold bef ab at hr
  simp only at hr
  by_cases h1 : max yb (-yb) < max xb (-xb)
  · obtain rfl : r = true := hr.2 (.inl h1)
    (repeat (first | refine Jz ?_ | intro _))
    exact o_ret Tryz.results46 rfl (List.nil_sublist _) ⟨rfl, rfl, rfl⟩
  by_cases h2 : max yb (-yb) = max xb (-xb)
  rotate_left
  · obtain rfl : r = false := by cases r; rfl; rcases hr.1 rfl with h | h; exact absurd h h1; exact absurd h.1 h2
    (repeat (first | refine Jz ?_ | intro _))
    exact o_ret Tryz.results46 rfl (List.nil_sublist _) ⟨rfl, rfl, rfl⟩
  by_cases h3 : z < 0
  · obtain rfl : r = true := hr.2 (.inr ⟨h2, hzn.1 h3⟩)
    (repeat (first | refine Jc ?_ | (apply z_call; rfl; rfl; rfl; exact hcc; rintro _ _ _ - ⟨rfl, rfl, rfl⟩) | refine Jo ?_ | intro _))
    exact o_ret Tryz.results46 rfl (List.nil_sublist _) ⟨rfl, rfl, rfl⟩
  · obtain rfl : r = false := by cases r; rfl; rcases hr.1 rfl with h | h; exact absurd h h1; exact absurd (hzn.2 h.2) h3
    (repeat (first | refine Jc ?_ | (apply z_call; rfl; rfl; rfl; exact hcc; rintro _ _ _ - ⟨rfl, rfl, rfl⟩) | refine Jo ?_ | intro _))
    exact o_ret Tryz.results46 rfl (List.nil_sublist _) ⟨rfl, rfl, rfl⟩
set_option maxHeartbeats 1600000 in
theorem rSameCh_con (xs ys : List Cg) (ch : List Ch) (A B : Option Addr) (c d : Nat) (S : SH) (hA : At S A xs) (hB : At S B ys) (hx : ChL S xs ch) (hy : ChL S ys ch) (hl : ∀ y ∈ ch, y.1.length ≤ 1000000) (hlen : ch.length ≤ 1000000) :
    Con Tryz.prog 18 #[.slice A xs.length c, .slice B ys.length d] S [] (X.Pure S (.bool true)) := by
  refine con_of (args := [.slice A xs.length c, .slice B ys.length d]) Tryz.func18 rfl Tryz.ntmps18 rfl fun w => ?_
  have h1 := hx.1
  have h2 := hy.1
  have h12 : xs.length = ys.length := by omega
  (repeat (first | refine Jz ?_ | intro _))
  refine c_loop (fun m S' L F => S = S' ∧ L = [] ∧ ∃ (k : Nat), m = xs.length - k ∧ k ≤ xs.length ∧ F = [(0, .slice A xs.length c), (1, .slice B ys.length d), (5, .int .i64 k)]) ⟨rfl, rfl, 0, rfl, by omega, rfl⟩ sbF sbL ?_
  rintro m S1 L F ⟨rfl, rfl, k, rfl, hk, rfl⟩
  by_cases hlt : k < xs.length
  rotate_left
  · (repeat (first | refine Jz ?_ | intro _))
    exact o_ret Tryz.results18 rfl (List.nil_sublist _) ⟨rfl, rfl, rfl⟩
  obtain ⟨x, hxk⟩ := at_lt hlt
  obtain ⟨y, hyk⟩ := at_lt (show k < ys.length by omega)
  obtain ⟨z, hzk⟩ : ∃ z, ch[k]? = some z := at_lt (by omega)
  obtain ⟨r0, r1, r2, r3⟩ := hx.2 k x z hxk hzk
  obtain ⟨s0, s1, s2, s3⟩ := hy.2 k y z hyk hzk
  have hzl := hl z (List.mem_of_getElem? hzk)
  obtain ⟨⟨xa, xm, xc⟩, xb⟩ := x
  obtain ⟨⟨ya, ym, yc⟩, yb⟩ := y
  obtain ⟨p, n⟩ := z
  simp only at r0 r1 r2 r3 s0 s1 s2 s3 hzl
  subst r0; subst r1; subst s0; subst s1
  have hcc := rCompare_con p p xa ya xc yc S r3 s3 hzl hzl
  rw [cmpP_eq0.2 rfl] at hcc
  (repeat (first | refine Jz ?_ | intro _))
  ((apply c_held ([]); (case hL => (exact sbT))); refine Jf 0 ?_; refine Jf 1 ?_; (apply h_idx hA 2; (case hi => rfl); (case hr => kernel_rfl); (case hfr => kernel_rfl); (case hsel => kernel_rfl); (case hg => rfl); (case hd => rfl); (case i1 => infer_instance); (case i2 => infer_instance); (case hx => rfl); (case hy => rfl); (case hm => rfl); (case hu => exact hxk); intro u1 (hu1 : Pts _ u1 [.slice xa (toS p).length xc, .int .i64 yb])); refine Jf 3 ?_; (apply h_first 4; (case hi => rfl); (case hr => kernel_rfl); (case hfr => kernel_rfl); (case hsel => kernel_rfl); (case hg => rfl); (case hd => rfl); (case he => (apply ev_load_f; (case hx => rfl); (case h => exact hu1); (case hv => rfl)))); refine Jf 5 ?_; refine Jf 6 ?_; (apply h_idx hB 7; (case hi => rfl); (case hr => kernel_rfl); (case hfr => kernel_rfl); (case hsel => kernel_rfl); (case hg => rfl); (case hd => rfl); (case i1 => infer_instance); (case i2 => infer_instance); (case hx => rfl); (case hy => rfl); (case hm => rfl); (case hu => exact hyk); intro u2 (hu2 : Pts _ u2 [.slice ya (toS p).length yc, .int .i64 yb])); refine Jf 8 ?_; (apply h_first 9; (case hi => rfl); (case hr => kernel_rfl); (case hfr => kernel_rfl); (case hsel => kernel_rfl); (case hg => rfl); (case hd => rfl); (case he => (apply ev_load_f; (case hx => rfl); (case h => exact hu2); (case hv => rfl)))); refine Jf 10 ?_; refine Jf 11 ?_; refine Jf 12 ?_; refine Jf 13 ?_; (apply h_idx hA 14; (case hi => rfl); (case hr => kernel_rfl); (case hfr => kernel_rfl); (case hsel => kernel_rfl); (case hg => rfl); (case hd => rfl); (case i1 => infer_instance); (case i2 => infer_instance); (case hx => rfl); (case hy => rfl); (case hm => rfl); (case hu => exact hxk); intro u3 (hu3 : Pts _ u3 [.slice xa (toS p).length xc, .int .i64 yb])); refine Jf 15 ?_; (apply h_first 16; (case hi => rfl); (case hr => kernel_rfl); (case hfr => kernel_rfl); (case hsel => kernel_rfl); (case hg => rfl); (case hd => rfl); (case he => (apply ev_load_f; (case hx => rfl); (case h => exact hu3); (case hv => rfl)))); refine Jf 17 ?_; refine Jf 18 ?_; (apply h_idx hB 19; (case hi => rfl); (case hr => kernel_rfl); (case hfr => kernel_rfl); (case hsel => kernel_rfl); (case hg => rfl); (case hd => rfl); (case i1 => infer_instance); (case i2 => infer_instance); (case hx => rfl); (case hy => rfl); (case hm => rfl); (case hu => exact hyk); intro u4 (hu4 : Pts _ u4 [.slice ya (toS p).length yc, .int .i64 yb])); refine Jf 20 ?_; (apply h_first 21; (case hi => rfl); (case hr => kernel_rfl); (case hfr => kernel_rfl); (case hsel => kernel_rfl); (case hg => rfl); (case hd => rfl); (case he => (apply ev_load_f; (case hx => rfl); (case h => exact hu4); (case hv => rfl)))); (apply h_one 22; (case hr => kernel_rfl)); (apply n_call; (case hi => rfl); (case i1 => infer_instance); (case hg => rfl); (case hd => rfl); (case ha => rfl); (case hc => exact hcc); (case hL => (repeat (first | exact pm_nil _ | exact pm_refl _ _ | exact pm_self _ | apply pm_cons | apply pm_app))); (case hsub => (intros; (exact sbT))); rintro _ _ _ - ⟨rfl, rfl, rfl⟩); refine Jf 23 ?_; refine Jf 24 ?_; (apply h_end; (case hr => kernel_rfl)))
  (repeat (first | refine Jz ?_ | intro _))
  exact q_back (L' := []) (m' := xs.length - (k + 1)) ⟨rfl, rfl, k + 1, rfl, by omega, rfl⟩ (by omega) sbF sbL
end Go.Proofs.YtcnfchchanlepaaGreat
namespace Go.Proofs.YtcnfchchanlepaaGreat
open Go Go.X
set_option linter.unusedVariables false
open Classical in
/-- A change laid in where it belongs. -/
noncomputable def insF : List Ch → Ch → List Ch
  | [], c => [c]
  | y :: l, c => if bef y c then y :: insF l c else c :: y :: l
theorem insF_at {c : Ch} : ∀ {o : List Ch} {k : Nat}, (∀ y ∈ o.take k, bef y c) → (∀ y, o[k]? = some y → ¬ bef y c) → k ≤ o.length → insF o c = o.take k ++ c :: o.drop k
  | [], k, _, _, hk => by
    obtain rfl : k = 0 := by simpa using hk
    rfl
  | y :: o, 0, _, h2, _ => by
    rw [insF, if_neg (h2 y rfl)]; rfl
  | y :: o, k + 1, h1, h2, hk => by
    rw [insF, if_pos (h1 y (by simp)), insF_at (k := k) (fun z hz => h1 z (by rw [List.take_succ_cons]; exact List.mem_cons_of_mem _ hz)) (fun z hz => h2 z (by simpa using hz)) (by simpa using hk)]
    rfl
theorem insF_mem {c x : Ch} : ∀ {o : List Ch}, x ∈ insF o c ↔ x = c ∨ x ∈ o
  | [] => by simp [insF]
  | y :: o => by
    unfold insF
    split
    · rw [List.mem_cons, insF_mem, List.mem_cons]
      constructor
      · rintro (h | h | h)
        · exact .inr (.inl h)
        · exact .inl h
        · exact .inr (.inr h)
      · rintro (h | h | h)
        · exact .inr (.inl h)
        · exact .inl h
        · exact .inr (.inr h)
    · rw [List.mem_cons]
theorem insF_srt {c : Ch} : ∀ {o : List Ch}, o.Pairwise bef → (∀ y ∈ o, y.1 ≠ c.1) → (insF o c).Pairwise bef
  | [], _, _ => List.pairwise_singleton _ _
  | y :: o, h, hd => by
    obtain ⟨h1, h2⟩ := List.pairwise_cons.1 h
    unfold insF
    split
    · rename_i hb
      refine List.pairwise_cons.2 ⟨fun z hz => ?_, insF_srt h2 fun z hz => hd z (List.mem_cons_of_mem _ hz)⟩
      rcases insF_mem.1 hz with e | e
      · rw [e]; exact hb
      · exact h1 z e
    · rename_i hb
      have hcy : bef c y := (bef_tri (hd y List.mem_cons_self)).resolve_left hb
      refine List.pairwise_cons.2 ⟨fun z hz => ?_, h⟩
      rcases List.mem_cons.1 hz with e | e
      · rw [e]; exact hcy
      · exact bef_trans hcy (h1 z e)
noncomputable def insA (zs : List Ch) : List Ch := zs.foldl (fun o z => if z.2 = 0 then o else insF o z) []
theorem insA_snoc (zs : List Ch) (z : Ch) : insA (zs ++ [z]) = if z.2 = 0 then insA zs else insF (insA zs) z := by unfold insA; rw [List.foldl_append]; rfl
theorem insA_mem (x : Ch) : ∀ zs : List Ch, x ∈ insA zs ↔ x ∈ zs ∧ x.2 ≠ 0 :=
  snoc_ind (by simp [insA]) fun zs z ih => by
    rw [insA_snoc]
    by_cases h0 : z.2 = 0
    · rw [if_pos h0, ih]
      constructor
      · rintro ⟨a, b⟩; exact ⟨List.mem_append_left _ a, b⟩
      · rintro ⟨a, b⟩
        rcases List.mem_append.1 a with a | a
        · exact ⟨a, b⟩
        · rw [List.mem_singleton.1 a] at b; exact absurd h0 b
    · rw [if_neg h0, insF_mem, ih]
      constructor
      · rintro (rfl | ⟨a, b⟩)
        · exact ⟨by simp, h0⟩
        · exact ⟨List.mem_append_left _ a, b⟩
      · rintro ⟨a, b⟩
        rcases List.mem_append.1 a with a | a
        · exact .inr ⟨a, b⟩
        · exact .inl (List.mem_singleton.1 a)
theorem insA_srt : ∀ zs : List Ch, KS zs → (insA zs).Pairwise bef :=
  snoc_ind (fun _ => List.Pairwise.nil) fun zs z ih h => by
    obtain ⟨h1, _, h3⟩ := List.pairwise_append.1 h
    rw [insA_snoc]
    split
    · exact ih h1
    · refine insF_srt (ih h1) fun y hy e => ?_
      have := h3 y ((insA_mem y zs).1 hy).1 z (by simp)
      rw [e] at this
      exact plt_irr _ this
theorem insF_len (c : Ch) : ∀ o : List Ch, (insF o c).length = o.length + 1
  | [] => rfl
  | y :: o => by
    unfold insF
    split
    · rw [List.length_cons, insF_len c o, List.length_cons]
    · rfl
theorem insA_len : ∀ zs : List Ch, (insA zs).length ≤ zs.length :=
  snoc_ind (Nat.le_refl _) fun zs z ih => by
    rw [insA_snoc, List.length_append, List.length_singleton]
    split
    · omega
    · rw [insF_len]; omega
theorem insA_chs {zs : List Ch} {d : List Bs → Int} (hk : KS zs) (hq : ∀ z ∈ zs, VQ z.1) (hd : ∀ p, VQ p → valF zs p = d p) : Chs d (insA zs) := by
  refine ⟨insA_srt zs hk, fun x => ?_⟩
  rw [insA_mem]
  constructor
  · rintro ⟨a, b⟩
    exact ⟨hq x a, by rw [← hd _ (hq x a), hk.one a], b⟩
  · rintro ⟨a, b, c⟩
    refine ⟨?_, c⟩
    by_cases hx : ∃ z ∈ zs, z.1 = x.1
    · obtain ⟨z, hz, e⟩ := hx
      have h1 := hk.one hz
      rw [e, hd _ a, ← b] at h1
      have : z = x := Prod.ext e h1.symm
      rw [← this]; exact hz
    · have h1 : valF zs x.1 = 0 := by
        unfold valF
        exact sum_zeroP fun z hz e => hx ⟨z, hz, e⟩
      rw [← hd _ a, h1] at b
      exact absurd b c
end Go.Proofs.YtcnfchchanlepaaGreat
namespace Go.Proofs.YtcnfchchanlepaaGreat
open Go Go.X
set_option linter.unusedVariables false
/-- What the reference implementation's Diff answers. -/
def DiffS (ns ms : List Nd) (ec : Int) (ch : List Ch) : Prop := ¬(validB ns = true ∧ validB ms = true) ∧ ec = 180 ∧ ch = [] ∨ (validB ns = true ∧ validB ms = true) ∧ ec = 0 ∧ Chs (fun p => wT Nd.total ms p - wT Nd.total ns p) ch
set_option maxRecDepth 10000
set_option linter.unusedVariables false
attribute [local irreducible] Code.wpIn wpListIn Exit.then Exit.inBlock X.Out X.Back X.W X.Ev X.Con X.BinV X.Wh X.Wn X.Wq
set_option maxHeartbeats 6400000 in
theorem rDiff_con (ns ms : List Nd) (A B : Option Addr) (c d : Nat) (S : SH) (hA : At S A ns) (hB : At S B ms) (hl : ns.length + ms.length ≤ 250) :
    Con Tryz.prog 16 #[.agg #[.slice A ns.length c], .agg #[.slice B ms.length d]] S [] (fun S' L' r => ∃ (A' : Option Addr) (m c' : Nat) (ec : Int) (xs : List Cg) (ch : List Ch), r = .tuple #[.slice A' m c', .int .i64 ec] ∧ m = xs.length ∧ At S' A' xs ∧ ChL S' xs ch ∧ DiffS ns ms ec ch) := by
  refine con_of (args := [.agg #[.slice A ns.length c], .agg #[.slice B ms.length d]]) Tryz.func16 rfl Tryz.ntmps16 rfl fun w => ?_
  cases hv1 : validB ns
  · (repeat (first | refine Jc ?_ | ((apply s_call; (case hg => rfl); (case hd => rfl); (case ha => rfl); (case hc => exact rValid_t ns A c _ hA (by omega) _ hv1); (case hL => (repeat (first | exact pm_nil _ | exact pm_refl _ _ | exact pm_self _ | apply pm_cons | apply pm_app))); rintro S1 L1 v1 h1 ⟨rfl, rfl⟩)) | refine Jo ?_ | intro _))
    exact o_ret2 (L' := []) Tryz.results16 rfl rfl (List.nil_sublist _) ⟨none, 0, 0, 180, [], [], rfl, rfl, At.nil _ _, ChL.nil _, .inl ⟨fun h => by rw [hv1] at h; exact Bool.false_ne_true h.1, rfl, rfl⟩⟩
  (repeat (first | refine Jc ?_ | ((apply s_call; (case hg => rfl); (case hd => rfl); (case ha => rfl); (case hc => exact rValid_t ns A c _ hA (by omega) _ hv1); (case hL => (repeat (first | exact pm_nil _ | exact pm_refl _ _ | exact pm_self _ | apply pm_cons | apply pm_app))); rintro S1 L1 v1 h1 ⟨rfl, rfl⟩)) | refine Jo ?_ | intro _))
  rename_i b2 b3
  cases hv2 : validB ms
  · (repeat (first | refine Jc ?_ | ((apply s_call; (case hg => rfl); (case hd => rfl); (case ha => rfl); (case hc => exact rValid_t ms B d _ (hB.le h1) (by omega) _ hv2); (case hL => (repeat (first | exact pm_nil _ | exact pm_refl _ _ | exact pm_self _ | apply pm_cons | apply pm_app))); rintro S2 L2 v2 h2 ⟨rfl, rfl⟩)) | refine Jo ?_ | intro _))
    exact o_ret2 (L' := []) Tryz.results16 rfl rfl (List.nil_sublist _) ⟨none, 0, 0, 180, [], [], rfl, rfl, At.nil _ _, ChL.nil _, .inl ⟨fun h => by rw [hv2] at h; exact Bool.false_ne_true h.2, rfl, rfl⟩⟩
  obtain ⟨ps, rs, hrd1, hrp1⟩ := readF_rp hv1
  obtain ⟨qs, rs', hrd2, hrp2⟩ := readF_rp hv2
  obtain ⟨lp, vp, bp⟩ := rd_facts hrd1
  obtain ⟨lq, vq, bq⟩ := rd_facts hrd2
  (repeat (first | refine Jc ?_ | ((apply s_call; (case hg => rfl); (case hd => rfl); (case ha => rfl); (case hc => exact rValid_t ms B d _ (hB.le h1) (by omega) _ hv2); (case hL => (repeat (first | exact pm_nil _ | exact pm_refl _ _ | exact pm_self _ | apply pm_cons | apply pm_app))); rintro S2 L2 v2 h2 ⟨rfl, rfl⟩)) | ((apply s_call; (case hg => rfl); (case hd => rfl); (case ha => rfl); (case hc => exact rPathsV hrp1 A c _ (hA.le (h1.trans h2)) (by omega)); (case hL => (repeat (first | exact pm_nil _ | exact pm_refl _ _ | exact pm_self _ | apply pm_cons | apply pm_app))); rintro S3 L3 _ h3 ⟨v3, xp, rfl, ho3, hxp⟩); refine W.freezeOws ho3 (List.Perm.refl _) fun S4 h4 hs4 => ?_; obtain ⟨Ap, cp, rfl, _, hAp⟩ := hs4) | refine Jo ?_ | intro _))
  have h14 := ((h1.trans h2).trans h3).trans h4
  (repeat (first | refine Jc ?_ | ((apply s_call; (case hg => rfl); (case hd => rfl); (case ha => rfl); (case hc => exact rPathsV hrp2 B d _ (hB.le h14) (by omega)); (case hL => (repeat (first | exact pm_nil _ | exact pm_refl _ _ | exact pm_self _ | apply pm_cons | apply pm_app))); rintro S5 L5 _ h5 ⟨v5, xq, rfl, ho5, hxq⟩); refine W.freezeOws ho5 (List.Perm.refl _) fun S6 h6 hs6 => ?_; obtain ⟨Aq, cq, rfl, _, hAq⟩ := hs6) | refine Jo ?_ | intro _))
  have h46 := h5.trans h6
  have hxp6 := (hxp.le h4).le h46
  have hxq6 := hxq.le h6
  have hAp6 := hAp.le h46
  have hA6 := hA.le (h14.trans h46)
  have hB6 := hB.le (h14.trans h46)
  have lxp := hxp.1
  have lxq := hxq.1
  have ok1 := adK_ok (g := fun n => -n.total) AdOk.nil vp (fun n hn => by have := bp n hn; omega) lp
  have ok2 := adK_ok (g := Nd.total) (ok1 ns.length (Nat.le_refl _)) vq (fun n hn => by have := bq n hn; omega) lq
  refine c_loop (fun m S' L F => Le S6 S' ∧ ∃ (i : Nat) (v : Value) (rs : List Cg) (ob : Blocks), m = ns.length - i ∧ i ≤ ns.length ∧ Ows 94 v rs ob ∧ ChL S' rs (adK (fun n => -n.total) [] ps ns i) ∧ L = ob ++ [(b3, .cells [.slice B ms.length d].toArray 24 (0, 0)), (b2, .cells [.slice A ns.length c].toArray 24 (0, 0))] ∧
      F = [(2, .pointer (some ⟨b2, 0, none⟩)), (3, .pointer (some ⟨b3, 0, none⟩)), (6, .slice Ap xp.length cp), (8, .slice Aq xq.length cq), (10, v), (11, .int .i64 i)]) ⟨Le.refl _, 0, _, [], [], rfl, by omega, Ows.nil _, ChL.nil _, rfl, rfl⟩ sbF sbL ?_
  rintro m S7 L F ⟨h7, i, v, rs1, ob, rfl, hi, ho, hrs, rfl, rfl⟩
  by_cases hil : i < ns.length
  · obtain ⟨n, hn⟩ := at_lt hil
    obtain ⟨p, hp⟩ := at_lt (show i < ps.length by omega)
    obtain ⟨x, hx⟩ := at_lt (show i < xp.length by omega)
    obtain ⟨r1, r2, r3⟩ := hxp6.2 i x p hx hp
    obtain ⟨xa, xm, xc⟩ := x
    simp only at r1 r2 r3
    subst r1
    have hp12 := (vp p (List.mem_of_getElem? hp)).1
    have hbn := bp n (List.mem_of_getElem? hn)
    have hok := ok1 i hi
    have hle := hok.len
    have hrl := hrs.1
    (repeat (first | refine Jz ?_ | intro _))
    ((apply c_held ([(b2, .cells [.slice A ns.length c].toArray 24 (0, 0))]); (case hL => (exact sbT))); refine Jf 0 ?_; refine Jf 1 ?_; refine Jf 2 ?_; (apply h_idx (hAp6.le h7) 3; (case hi => rfl); (case hr => kernel_rfl); (case hfr => kernel_rfl); (case hsel => kernel_rfl); (case hg => rfl); (case hd => rfl); (case i1 => infer_instance); (case i2 => infer_instance); (case hx => rfl); (case hy => rfl); (case hm => rfl); (case hu => exact hx); intro u1 (hu1 : Pts _ u1 [.slice xa (toS p).length xc])); (apply h_first 4; (case hi => rfl); (case hr => kernel_rfl); (case hfr => kernel_rfl); (case hsel => kernel_rfl); (case hg => rfl); (case hd => rfl); (case he => (apply ev_load1; (case hx => rfl); (case h => exact hu1)))); refine Jf 5 ?_; refine Jf 6 ?_; refine Jf 7 ?_; (apply h_idx (hA6.le h7) 8; (case hi => rfl); (case hr => kernel_rfl); (case hfr => kernel_rfl); (case hsel => kernel_rfl); (case hg => rfl); (case hd => rfl); (case i1 => infer_instance); (case i2 => infer_instance); (case hx => rfl); (case hy => rfl); (case hm => rfl); (case hu => exact hn); intro u2 (hu2 : Pts _ u2 [.int .i64 n.parent, strV n.name, .int .i64 n.own, .int .i64 n.total])); refine Jf 9 ?_; (apply h_first 10; (case hi => rfl); (case hr => kernel_rfl); (case hfr => kernel_rfl); (case hsel => kernel_rfl); (case hg => rfl); (case hd => rfl); (case he => (apply ev_load_f; (case hx => rfl); (case h => exact hu2); (case hv => rfl)))); (apply h_first 11; (case hi => rfl); (case hr => kernel_rfl); (case hfr => kernel_rfl); (case hsel => kernel_rfl); (case hg => rfl); (case hd => rfl); (case he => (apply ev_neg; (case hx => rfl); (case h => omega)))); (apply h_one 12; (case hr => kernel_rfl)); (apply n_call; (case hi => rfl); (case i1 => infer_instance); (case hg => rfl); (case hd => rfl); (case ha => rfl); (case hc => exact radd_con rs1 _ v ob p xa xc (-n.total) _ ho hrs (by omega) (fun y hy => by have := (hok.bd y hy).1.1; omega) (by omega) (r3.le h7) r2 (by omega) (fun y hy => by have := (hok.bd y hy).2; omega)); (case hL => (repeat (first | exact pm_nil _ | exact pm_refl _ _ | exact pm_self _ | apply pm_cons | apply pm_app))); (case hsub => (intros; (exact sbT))); rintro S8 L8 v8 h8 ⟨-, rs8, ho8, hrs8⟩); refine Jf 13 ?_; (apply h_end; (case hr => kernel_rfl)); ((((repeat (first | refine Jz ?_ | intro _))); exact q_back (L' := L8 ++ [(b3, .cells [.slice B ms.length d].toArray 24 (0, 0)), (b2, .cells [.slice A ns.length c].toArray 24 (0, 0))]) (m' := ns.length - (i + 1)) ⟨h7.trans h8, i + 1, v8, rs8, L8, rfl, by omega, ho8, by rw [adK_step hp hn]; exact hrs8, rfl, rfl⟩ (by omega) sbF sbL)))
  obtain rfl : i = ns.length := by omega
  (repeat (first | refine Jz ?_ | intro _))
  refine c_loop (fun m S' L F => Le S7 S' ∧ ∃ (i : Nat) (v : Value) (rs : List Cg) (ob : Blocks), m = ms.length - i ∧ i ≤ ms.length ∧ Ows 94 v rs ob ∧ ChL S' rs (adK Nd.total (adK (fun n => -n.total) [] ps ns ns.length) qs ms i) ∧ L = ob ++ [(b3, .cells [.slice B ms.length d].toArray 24 (0, 0)), (b2, .cells [.slice A ns.length c].toArray 24 (0, 0))] ∧
      F = [(2, .pointer (some ⟨b2, 0, none⟩)), (3, .pointer (some ⟨b3, 0, none⟩)), (6, .slice Ap xp.length cp), (8, .slice Aq xq.length cq), (10, v), (12, .int .i64 i)]) ⟨Le.refl _, 0, v, rs1, ob, rfl, by omega, ho, hrs, rfl, rfl⟩ sbF sbL ?_
  rintro m S9 L F ⟨h9, i, v, rs2, ob, rfl, hi, ho, hrs, rfl, rfl⟩
  have h79 := h7.trans h9
  by_cases hil : i < ms.length
  · obtain ⟨n, hn⟩ := at_lt hil
    obtain ⟨p, hp⟩ := at_lt (show i < qs.length by omega)
    obtain ⟨x, hx⟩ := at_lt (show i < xq.length by omega)
    obtain ⟨r1, r2, r3⟩ := hxq6.2 i x p hx hp
    obtain ⟨xa, xm, xc⟩ := x
    simp only at r1 r2 r3
    subst r1
    have hp12 := (vq p (List.mem_of_getElem? hp)).1
    have hbn := bq n (List.mem_of_getElem? hn)
    have hok := ok2 i hi
    have hle := hok.len
    have hrl := hrs.1
    (repeat (first | refine Jz ?_ | intro _))
    ((apply c_held ([(b3, .cells [.slice B ms.length d].toArray 24 (0, 0))]); (case hL => (exact sbT))); refine Jf 0 ?_; refine Jf 1 ?_; refine Jf 2 ?_; (apply h_idx (hAq.le h79) 3; (case hi => rfl); (case hr => kernel_rfl); (case hfr => kernel_rfl); (case hsel => kernel_rfl); (case hg => rfl); (case hd => rfl); (case i1 => infer_instance); (case i2 => infer_instance); (case hx => rfl); (case hy => rfl); (case hm => rfl); (case hu => exact hx); intro u1 (hu1 : Pts _ u1 [.slice xa (toS p).length xc])); (apply h_first 4; (case hi => rfl); (case hr => kernel_rfl); (case hfr => kernel_rfl); (case hsel => kernel_rfl); (case hg => rfl); (case hd => rfl); (case he => (apply ev_load1; (case hx => rfl); (case h => exact hu1)))); refine Jf 5 ?_; refine Jf 6 ?_; refine Jf 7 ?_; (apply h_idx (hB6.le h79) 8; (case hi => rfl); (case hr => kernel_rfl); (case hfr => kernel_rfl); (case hsel => kernel_rfl); (case hg => rfl); (case hd => rfl); (case i1 => infer_instance); (case i2 => infer_instance); (case hx => rfl); (case hy => rfl); (case hm => rfl); (case hu => exact hn); intro u2 (hu2 : Pts _ u2 [.int .i64 n.parent, strV n.name, .int .i64 n.own, .int .i64 n.total])); refine Jf 9 ?_; (apply h_first 10; (case hi => rfl); (case hr => kernel_rfl); (case hfr => kernel_rfl); (case hsel => kernel_rfl); (case hg => rfl); (case hd => rfl); (case he => (apply ev_load_f; (case hx => rfl); (case h => exact hu2); (case hv => rfl)))); (apply h_one 11; (case hr => kernel_rfl)); (apply n_call; (case hi => rfl); (case i1 => infer_instance); (case hg => rfl); (case hd => rfl); (case ha => rfl); (case hc => exact radd_con rs2 _ v ob p xa xc n.total _ ho hrs (by omega) (fun y hy => by have := (hok.bd y hy).1.1; omega) (by omega) (r3.le h79) r2 (by omega) (fun y hy => by have := (hok.bd y hy).2; omega)); (case hL => (repeat (first | exact pm_nil _ | exact pm_refl _ _ | exact pm_self _ | apply pm_cons | apply pm_app))); (case hsub => (intros; (exact sbT))); rintro S8 L8 v8 h8 ⟨-, rs8, ho8, hrs8⟩); refine Jf 12 ?_; (apply h_end; (case hr => kernel_rfl)); ((((repeat (first | refine Jz ?_ | intro _))); exact q_back (L' := L8 ++ [(b3, .cells [.slice B ms.length d].toArray 24 (0, 0)), (b2, .cells [.slice A ns.length c].toArray 24 (0, 0))]) (m' := ms.length - (i + 1)) ⟨h9.trans h8, i + 1, v8, rs8, L8, rfl, by omega, ho8, by rw [adK_step hp hn]; exact hrs8, rfl, rfl⟩ (by omega) sbF sbL)))
  obtain rfl : i = ms.length := by omega
  have hok := ok2 ms.length (Nat.le_refl _)
  have hle := hok.len
  have hval : ∀ p, VQ p → valF (adK Nd.total (adK (fun n => -n.total) [] ps ns ns.length) qs ms ms.length) p = wT Nd.total ms p - wT Nd.total ns p := fun p hp => by
    rw [two_val (a := -1) (b := 1) (g := Nd.total) (fun n => by omega) (fun n => by omega) hrd1 hrd2 lp lq hp]; omega
  generalize adK Nd.total (adK (fun n => -n.total) [] ps ns ns.length) qs ms ms.length = zs at *
  have hbz : ∀ y ∈ zs, -2251799813685248 ≤ y.2 ∧ y.2 ≤ 2251799813685248 ∧ y.1.length ≤ 12 := fun y hy => by
    have h1 := hok.srt.one hy
    rw [hval _ (hok.bd y hy).1] at h1
    have h2 := wT_bd (wF_total (ns := ns)) y.1
    have h3 := wT_bd (wF_total (ns := ms)) y.1
    exact ⟨by omega, by omega, (hok.bd y hy).1.1⟩
  have hrl := hrs.1
  refine W.freezeOws (L1 := [(b3, .cells [.slice B ms.length d].toArray 24 (0, 0)), (b2, .cells [.slice A ns.length c].toArray 24 (0, 0))]) ho (List.Perm.refl _) fun S10 h10 hs10 => ?_
  obtain ⟨A10, c10, rfl, _, hA10⟩ := hs10
  have hrs10 := hrs.le h10
  (repeat (first | refine Jz ?_ | intro _))
  refine c_loop (fun m S' L F => Le S10 S' ∧ ∃ (i : Nat) (Ao : Option Addr) (co : Nat) (xo : List Cg), m = rs2.length - i ∧ i ≤ rs2.length ∧ At S' Ao xo ∧ xo.length ≤ co ∧ ChL S' xo (insA (zs.take i)) ∧ L = [] ∧
      F = [(10, .slice A10 rs2.length c10), (13, .slice Ao xo.length co), (14, .int .i64 i)]) ⟨Le.refl _, 0, none, 0, [], rfl, by omega, At.nil _ _, Nat.le_refl _, ChL.nil _, rfl, rfl⟩ sbF sbL ?_
  rintro m S11 L F ⟨h11, i, Ao, co, xo, rfl, hi, hAo, hco, hxo, rfl, rfl⟩
  have hxol := hxo.1
  have hil3 := insA_len (zs.take i)
  rw [List.length_take] at hil3
  by_cases hil : i < rs2.length
  rotate_left
  · rw [List.take_of_length_le (by omega)] at hxo
    (repeat (first | refine Jz ?_ | intro _))
    exact o_ret2 (L' := []) Tryz.results16 rfl rfl (List.nil_sublist _) ⟨Ao, xo.length, co, 0, xo, _, rfl, rfl, hAo, hxo, .inr ⟨⟨hv1, hv2⟩, rfl, insA_chs hok.srt (fun z hz => (hok.bd z hz).1) hval⟩⟩
  obtain ⟨x, hx⟩ := at_lt hil
  obtain ⟨z, hz⟩ : ∃ z, zs[i]? = some z := at_lt (by omega)
  have hsn := insA_snoc (zs.take i) z
  rw [← take_at hz] at hsn
  have hbzz := hbz z (List.mem_of_getElem? hz)
  have hbo : ∀ y ∈ insA (zs.take i), -2251799813685248 ≤ y.2 ∧ y.2 ≤ 2251799813685248 ∧ y.1.length ≤ 12 := fun y hy => hbz y (List.mem_of_mem_take ((insA_mem y _).1 hy).1)
  obtain ⟨r0, r1, r2, r3⟩ := (hrs10.le h11).2 i x z hx hz
  obtain ⟨⟨xa, xm, xc⟩, xb⟩ := x
  obtain ⟨p, n⟩ := z
  simp only at r0 r1 r2 r3 hbzz hsn
  subst r0; subst r1
  have tlp := toS_len p
  have hA11 := hA10.le h11
  by_cases hz0 : xb = 0
  · rw [if_pos hz0] at hsn
    (repeat (first | refine Jc ?_ | (apply s_idx hA11; (case hg => rfl); (case hd => rfl); (case hx => rfl); (case hi => rfl); (case hm => rfl); (case hu => exact hx); intro u (hu : Pts _ u [.slice xa (toS p).length xc, .int .i64 xb])) | (apply s_load_f; (case hg => rfl); (case hd => rfl); (case hx => rfl); (case h => exact hu); (case hv => rfl)) | refine Jo ?_ | intro _))
    exact q_back (L' := []) (m' := rs2.length - (i + 1)) ⟨h11, i + 1, Ao, co, xo, rfl, by omega, hAo, hco, by rw [hsn]; exact hxo, rfl, rfl⟩ (by omega) sbF sbL
  rw [if_neg hz0] at hsn
  (repeat (first | refine Jc ?_ | (apply s_idx hA11; (case hg => rfl); (case hd => rfl); (case hx => rfl); (case hi => rfl); (case hm => rfl); (case hu => exact hx); intro u (hu : Pts _ u [.slice xa (toS p).length xc, .int .i64 xb])) | (apply s_load_f; (case hg => rfl); (case hd => rfl); (case hx => rfl); (case h => exact hu); (case hv => rfl)) | refine Jo ?_ | intro _))
  ((apply c_held ([]); (case hL => (exact sbT))); refine Jf 1 ?_; refine Jf 2 ?_; (apply h_idx hA11 3; (case hi => rfl); (case hr => kernel_rfl); (case hfr => kernel_rfl); (case hsel => kernel_rfl); (case hg => rfl); (case hd => rfl); (case i1 => infer_instance); (case i2 => infer_instance); (case hx => rfl); (case hy => rfl); (case hm => rfl); (case hu => exact hx); intro u1 (hu1 : Pts _ u1 [.slice xa (toS p).length xc, .int .i64 xb])); refine Jf 4 ?_; (apply h_first 5; (case hi => rfl); (case hr => kernel_rfl); (case hfr => kernel_rfl); (case hsel => kernel_rfl); (case hg => rfl); (case hd => rfl); (case he => (apply ev_load_f; (case hx => rfl); (case h => exact hu1); (case hv => rfl)))); refine Jf 7 ?_; refine Jf 8 ?_; (apply h_idx hA11 9; (case hi => rfl); (case hr => kernel_rfl); (case hfr => kernel_rfl); (case hsel => kernel_rfl); (case hg => rfl); (case hd => rfl); (case i1 => infer_instance); (case i2 => infer_instance); (case hx => rfl); (case hy => rfl); (case hm => rfl); (case hu => exact hx); intro u2 (hu2 : Pts _ u2 [.slice xa (toS p).length xc, .int .i64 xb])); refine Jf 10 ?_; (apply h_first 11; (case hi => rfl); (case hr => kernel_rfl); (case hfr => kernel_rfl); (case hsel => kernel_rfl); (case hg => rfl); (case hd => rfl); (case he => (apply ev_load_f; (case hx => rfl); (case h => exact hu2); (case hv => rfl)))); (apply h_two 0 13; (case hr => kernel_rfl)); (case' k2 => ((refine X.Jn ?_; try intro _); (apply h_one 0; (case hr => kernel_rfl)); (apply n_buildSlice; (case hi => rfl); (case hg => rfl); (case hd => rfl); (case i1 => infer_instance); (case i2 => infer_instance); (case i3 => infer_instance); (case hp => rfl); (case hq => rfl); (case hm => rfl); (case hv => rfl); (case hl => rfl); intro bz); (apply h_one 6; (case hr => kernel_rfl)); ((apply n_append_st (ms := (toS p)) r3; (case hi => rfl); (case hT => infer_instance); (case hsz => infer_instance); (case hz => infer_instance); (case hby => infer_instance); (case hg => rfl); (case hd => rfl); (case hx => rfl); (case ho => exact Ows.full (α := Str) (g := bz) (l := []) rfl (by decide)); (case hL => (repeat (first | exact pm_nil _ | exact pm_refl _ _ | exact pm_self _ | apply pm_cons | apply pm_app))); (case hy => rfl); (case hm => first | rfl | simp); (case hzs => rfl); (case h0 => decide); (case hb => first | (simp; omega) | simp); (case h63 => first | (simp; omega) | simp); (case hsub => first | (intro _ _; exact List.nil_sublist _) | (intros; (exact sbT))); intro v7 ob7 ho7); refine Wh.freezeOws ho7 (List.Perm.refl _) sbL fun S8 h8 hs8 => ?_; obtain ⟨A9, c9, rfl, hc9, hA9⟩ := hs8); (apply h_first 12; (case hi => rfl); (case hr => kernel_rfl); (case hfr => kernel_rfl); (case hsel => kernel_rfl); (case hg => rfl); (case hd => rfl); (case he => (apply ev_buildS; (case hp => rfl); (case hz => rfl); (case h1 => rfl); (case hr => rfl)))); (apply h_one 14; (case hr => kernel_rfl)); (refine X.Jn ?_; try intro _); (apply h_end; (case hr => kernel_rfl)))); (case' k1 => ((apply n_buildSlice; (case hi => rfl); (case hg => rfl); (case hd => rfl); (case i1 => infer_instance); (case i2 => infer_instance); (case i3 => infer_instance); (case hp => rfl); (case hq => rfl); (case hm => rfl); (case hv => rfl); (case hl => rfl); intro bz); (apply h_two 6 13; (case hr => kernel_rfl)); (case' k2 => ((refine X.Jn ?_; try intro _); (apply h_one 6; (case hr => kernel_rfl)); ((apply n_append_st (ms := (toS p)) r3; (case hi => rfl); (case hT => infer_instance); (case hsz => infer_instance); (case hz => infer_instance); (case hby => infer_instance); (case hg => rfl); (case hd => rfl); (case hx => rfl); (case ho => exact Ows.full (α := Str) (g := bz) (l := []) rfl (by decide)); (case hL => (repeat (first | exact pm_nil _ | exact pm_refl _ _ | exact pm_self _ | apply pm_cons | apply pm_app))); (case hy => rfl); (case hm => first | rfl | simp); (case hzs => rfl); (case h0 => decide); (case hb => first | (simp; omega) | simp); (case h63 => first | (simp; omega) | simp); (case hsub => first | (intro _ _; exact List.nil_sublist _) | (intros; (exact sbT))); intro v7 ob7 ho7); refine Wh.freezeOws ho7 (List.Perm.refl _) sbL fun S8 h8 hs8 => ?_; obtain ⟨A9, c9, rfl, hc9, hA9⟩ := hs8); (apply h_first 12; (case hi => rfl); (case hr => kernel_rfl); (case hfr => kernel_rfl); (case hsel => kernel_rfl); (case hg => rfl); (case hd => rfl); (case he => (apply ev_buildS; (case hp => rfl); (case hz => rfl); (case h1 => rfl); (case hr => rfl)))); (apply h_one 14; (case hr => kernel_rfl)); (refine X.Jn ?_; try intro _); (apply h_end; (case hr => kernel_rfl)))); (case' k1 => (((apply n_append_st (ms := (toS p)) r3; (case hi => rfl); (case hT => infer_instance); (case hsz => infer_instance); (case hz => infer_instance); (case hby => infer_instance); (case hg => rfl); (case hd => rfl); (case hx => rfl); (case ho => exact Ows.full (α := Str) (g := bz) (l := []) rfl (by decide)); (case hL => (repeat (first | exact pm_nil _ | exact pm_refl _ _ | exact pm_self _ | apply pm_cons | apply pm_app))); (case hy => rfl); (case hm => first | rfl | simp); (case hzs => rfl); (case h0 => decide); (case hb => first | (simp; omega) | simp); (case h63 => first | (simp; omega) | simp); (case hsub => first | (intro _ _; exact List.nil_sublist _) | (intros; (exact sbT))); intro v7 ob7 ho7); refine Wh.freezeOws ho7 (List.Perm.refl _) sbL fun S8 h8 hs8 => ?_; obtain ⟨A9, c9, rfl, hc9, hA9⟩ := hs8); (apply h_first 12; (case hi => rfl); (case hr => kernel_rfl); (case hfr => kernel_rfl); (case hsel => kernel_rfl); (case hg => rfl); (case hd => rfl); (case he => (apply ev_buildS; (case hp => rfl); (case hz => rfl); (case h1 => rfl); (case hr => rfl)))); (apply h_one 13; (case hr => kernel_rfl)); (refine X.Jn ?_; try intro _); (apply h_one 14; (case hr => kernel_rfl)); (refine X.Jn ?_; try intro _); (apply h_end; (case hr => kernel_rfl)))))))
  all_goals (
    (repeat (first | refine Jz ?_ | intro _))
    rename_i b15
    have hAo8 := hAo.le h8
    have hxo8 := hxo.le h8
    have r38 := r3.le h8
    have hcg : cgR S8 (Cg.mk ⟨A9, (toS p).length, c9⟩ xb) (p, xb) := ⟨rfl, rfl, hc9, hA9⟩
    refine c_loop (fun m S' L F => S8 = S' ∧ ∃ (k : Nat), m = xo.length - k ∧ k ≤ xo.length ∧ (∀ y ∈ (insA (zs.take i)).take k, bef y (p, xb)) ∧ L = [(b15, .cells [.slice A9 (toS p).length c9, .int .i64 xb].toArray 54 (0, 0))] ∧
        F = [(10, .slice A10 rs2.length c10), (13, .slice Ao xo.length co), (14, .int .i64 i), (15, .pointer (some ⟨b15, 0, none⟩)), (16, .int .i64 k)]) ⟨rfl, 0, rfl, by omega, (by simp), rfl, rfl⟩ sbF sbL ?_
    rintro m S12 L F ⟨rfl, k, rfl, hk, hbk, rfl, rfl⟩
    by_cases hgo : ∃ y, (insA (zs.take i))[k]? = some y ∧ bef y (p, xb)
    · obtain ⟨y, hyk, hby⟩ := hgo
      have hkl := (List.getElem?_eq_some_iff.1 hyk).1
      obtain ⟨x', hx'⟩ := at_lt (show k < xo.length by omega)
      have hcy := hxo8.2 k x' y hx' hyk
      have hbyy := hbo y (List.mem_of_getElem? hyk)
      have hbk2 : ∀ y ∈ (insA (zs.take i)).take (k + 1), bef y (p, xb) := fun z hz => by
        rw [take_at hyk] at hz
        rcases List.mem_append.1 hz with h | h
        · exact hbk z h
        · rw [List.mem_singleton.1 h]; exact hby
      have hcB := rBefore_con x' _ y _ S8 hcy hcg (by omega) (by simp only; omega) (by omega) (by simp only; omega) true ⟨fun _ => hby, fun _ => rfl⟩
      obtain ⟨⟨ya, ym, yc⟩, yb⟩ := x'
      (repeat (first | refine Jz ?_ | intro _))
      ((apply c_held ([(b15, .cells [.slice A9 (toS p).length c9, .int .i64 xb].toArray 54 (0, 0))]); (case hL => (exact sbT))); refine Jf 0 ?_; refine Jf 1 ?_; refine Jf 2 ?_; refine Jf 3 ?_; refine Jf 4 ?_; refine Jf 5 ?_; refine Jf 6 ?_; (apply h_idx hAo8 7; (case hi => rfl); (case hr => kernel_rfl); (case hfr => kernel_rfl); (case hsel => kernel_rfl); (case hg => rfl); (case hd => rfl); (case i1 => infer_instance); (case i2 => infer_instance); (case hx => rfl); (case hy => rfl); (case hm => rfl); (case hu => exact hx'); intro u3 (hu3 : Pts _ u3 [.slice ya ym yc, .int .i64 yb])); (apply h_first 8; (case hi => rfl); (case hr => kernel_rfl); (case hfr => kernel_rfl); (case hsel => kernel_rfl); (case hg => rfl); (case hd => rfl); (case he => (apply ev_load_ag; (case hx => rfl); (case h => exact hu3); (case hl => rfl)))); refine Jf 9 ?_; (apply h_one 10; (case hr => kernel_rfl)); (apply n_call; (case hi => rfl); (case i1 => infer_instance); (case hg => rfl); (case hd => rfl); (case ha => rfl); (case hc => exact hcB); (case hL => (repeat (first | exact pm_nil _ | exact pm_refl _ _ | exact pm_self _ | apply pm_cons | apply pm_app))); (case hsub => (intros; (exact sbT))); rintro _ _ _ - ⟨rfl, rfl, rfl⟩); refine Jf 11 ?_; (apply h_end; (case hr => kernel_rfl)))
      (repeat (first | refine Jz ?_ | intro _))
      exact q_back (L' := [(b15, .cells [.slice A9 (toS p).length c9, .int .i64 xb].toArray 54 (0, 0))]) (m' := xo.length - (k + 1)) ⟨rfl, k + 1, rfl, by omega, hbk2, rfl, rfl⟩ (by omega) sbF sbL
    have hnew : ∀ y, (insA (zs.take i))[k]? = some y → ¬ bef y (p, xb) := fun y hy hb => hgo ⟨y, hy, hb⟩
    have hins := insF_at hbk hnew (by omega)
    have htk : (xo.take k).length = k := by rw [List.length_take]; omega
    have hdr : (xo.drop k).length = xo.length - k := List.length_drop
    have hAt : At S8 Ao (xo.take k) := fun h0 => by
      obtain ⟨q, e1, hq⟩ := hAo8 (by omega)
      refine ⟨q, e1, fun j u hj => hq j u ?_⟩
      rw [← cellsOf_take] at hj
      rw [List.getElem?_take] at hj
      split at hj
      · exact hj
      · cases hj
    by_cases hkl : k < xo.length
    case' pos =>
      obtain ⟨x', hx'⟩ := at_lt hkl
      obtain ⟨y, hyk⟩ : ∃ y, (insA (zs.take i))[k]? = some y := at_lt (by omega)
      have hcy := hxo8.2 k x' y hx' hyk
      have hbyy := hbo y (List.mem_of_getElem? hyk)
      have hcB := rBefore_con x' _ y _ S8 hcy hcg (by omega) (by simp only; omega) (by omega) (by simp only; omega) false ⟨fun h => absurd h Bool.false_ne_true, fun h => absurd h (hnew y hyk)⟩
      obtain ⟨⟨ya, ym, yc⟩, yb⟩ := x'
      (repeat (first | refine Jz ?_ | intro _))
      ((apply c_held ([(b15, .cells [.slice A9 (toS p).length c9, .int .i64 xb].toArray 54 (0, 0))]); (case hL => (exact sbT))); refine Jf 0 ?_; refine Jf 1 ?_; refine Jf 2 ?_; refine Jf 3 ?_; refine Jf 4 ?_; refine Jf 5 ?_; refine Jf 6 ?_; (apply h_idx hAo8 7; (case hi => rfl); (case hr => kernel_rfl); (case hfr => kernel_rfl); (case hsel => kernel_rfl); (case hg => rfl); (case hd => rfl); (case i1 => infer_instance); (case i2 => infer_instance); (case hx => rfl); (case hy => rfl); (case hm => rfl); (case hu => exact hx'); intro u3 (hu3 : Pts _ u3 [.slice ya ym yc, .int .i64 yb])); (apply h_first 8; (case hi => rfl); (case hr => kernel_rfl); (case hfr => kernel_rfl); (case hsel => kernel_rfl); (case hg => rfl); (case hd => rfl); (case he => (apply ev_load_ag; (case hx => rfl); (case h => exact hu3); (case hl => rfl)))); refine Jf 9 ?_; (apply h_one 10; (case hr => kernel_rfl)); (apply n_call; (case hi => rfl); (case i1 => infer_instance); (case hg => rfl); (case hd => rfl); (case ha => rfl); (case hc => exact hcB); (case hL => (repeat (first | exact pm_nil _ | exact pm_refl _ _ | exact pm_self _ | apply pm_cons | apply pm_app))); (case hsub => (intros; (exact sbT))); rintro _ _ _ - ⟨rfl, rfl, rfl⟩); refine Jf 11 ?_; (apply h_end; (case hr => kernel_rfl)))
      (repeat (first | refine Jz ?_ | intro _))
    case' neg =>
      (repeat (first | refine Jz ?_ | intro _))
      ((apply c_held ([]); (case hL => (exact sbT))); refine Jf 0 ?_; refine Jf 1 ?_; refine Jf 2 ?_; refine Jf 3 ?_; refine Jf 4 ?_; refine Jf 5 ?_; refine Jf 6 ?_; refine Jf 7 ?_; refine Jf 8 ?_; refine Jf 9 ?_; (apply h_one 10; (case hr => kernel_rfl)); (refine X.Jn ?_; try intro _); refine Jf 11 ?_; (apply h_end; (case hr => kernel_rfl)))
      (repeat (first | refine Jz ?_ | intro _))
    all_goals (
      ((apply c_held ([(b15, .cells [.slice A9 (toS p).length c9, .int .i64 xb].toArray 54 (0, 0))]); (case hL => (exact sbT))); refine Jf 0 ?_; refine Jf 1 ?_; refine Jf 2 ?_; (apply h_first 3; (case hi => rfl); (case hr => kernel_rfl); (case hfr => kernel_rfl); (case hsel => kernel_rfl); (case hg => rfl); (case hd => rfl); (case he => (apply ev_slice_33; (case hx => rfl); (case hy => rfl); (case hz => rfl); (case hj => omega)))); refine Jf 4 ?_; refine Jf 6 ?_; refine Jf 7 ?_; (apply h_slice_lo hAo8 8; (case hi => rfl); (case hr => kernel_rfl); (case hfr => kernel_rfl); (case hsel => kernel_rfl); (case hg => rfl); (case hd => rfl); (case i1 => infer_instance); (case i2 => infer_instance); (case hx => rfl); (case hy => rfl); (case hm => rfl); (case hmc => omega); (case hj => omega); intro A12 hA12); (apply h_one 5; (case hr => kernel_rfl)); (apply n_buildSlice; (case hi => rfl); (case hg => rfl); (case hd => rfl); (case i1 => infer_instance); (case i2 => infer_instance); (case i3 => infer_instance); (case hp => rfl); (case hq => rfl); (case hm => rfl); (case hv => rfl); (case hl => rfl); intro b0); (apply h_one 9; (case hr => kernel_rfl)); (apply n_append_st (ms := xo.drop k) hA12; (case hi => rfl); (case hT => infer_instance); (case hsz => infer_instance); (case hz => infer_instance); (case hby => infer_instance); (case hg => rfl); (case hd => rfl); (case hx => rfl); (case ho => exact Ows.full (α := Cg) (e := 54) (g := b0) (l := [Cg.mk ⟨A9, (toS p).length, c9⟩ xb]) rfl (by simp [maxLen])); (case hL => (repeat (first | exact pm_nil _ | exact pm_refl _ _ | exact pm_self _ | apply pm_cons | apply pm_app))); (case hy => rfl); (case hm => rfl); (case hzs => rfl); (case h0 => decide); (case hb => (simp; omega)); (case h63 => (simp; omega)); (case hsub => (intro _ _; exact sbL)); intro v1 ob1 ho1); (apply h_one 10; (case hr => kernel_rfl)); (apply n_append_grow (ls := xo.take k) (ms := ([Cg.mk ⟨A9, (toS p).length, c9⟩ xb] : List Cg) ++ xo.drop k) hAt; (case hi => rfl); (case hT => infer_instance); (case hsz => infer_instance); (case hz => infer_instance); (case hby => infer_instance); (case hg => rfl); (case hd => rfl); (case hx => rfl); (case hm => exact htk.symm); (case hy => rfl); (case ho => exact ho1); (case hp => (simp)); (case hL => (repeat (first | exact pm_nil _ | exact pm_refl _ _ | exact pm_self _ | apply pm_cons | apply pm_app))); (case hcp => (rw [htk, List.length_append]; simp only [List.length_singleton]; omega)); (case hzs => rfl); (case hfit => (rw [htk, List.length_append, hdr]; unfold Builtin.nextslicecap; simp only [List.length_singleton]; split <;> (try split) <;> omega)); (case h63 => (rw [htk, List.length_append, hdr]; simp only [List.length_singleton]; omega)); (case hsub => (intro _ _; exact sbL)); intro v2 ob2 ho2); refine Jf 11 ?_; (apply h_end; (case hr => kernel_rfl)))
      refine W.freezeOws ho2 (List.Perm.refl _) fun S13 h13 hs13 => ?_
      obtain ⟨A13, c13, rfl, hc13, hA13⟩ := hs13
      have hxn : ChL S13 (xo.take k ++ ([Cg.mk ⟨A9, (toS p).length, c9⟩ xb] ++ xo.drop k)) (insA (zs.take (i + 1))) := by
        rw [hsn, hins]
        have h3 := hxo8.le h13
        exact (h3.take k).app (ChL.cons (hcg.le h13) (h3.drop k))
      (repeat (first | refine Jz ?_ | intro _))
      exact q_back (L' := []) (m' := rs2.length - (i + 1)) ⟨(h11.trans h8).trans h13, i + 1, A13, c13, _, rfl, by omega, hA13, hc13, hxn, rfl, rfl⟩ (by omega) sbF sbL))
end Go.Proofs.YtcnfchchanlepaaGreat
namespace Go.Proofs.YtcnfchchanlepaaGreat
open Go Go.X
set_option linter.unusedVariables false
/-- The total of a path in the tree of stacks. -/
noncomputable def tF (l : List Sym) (ys : List Sk) (p : List Bs) : Int := totL (wS l ys) (mF l ys) p
theorem Chs.congr {d e : List Bs → Int} {ch : List Ch} (h : Chs d ch) (he : ∀ p, VQ p → d p = e p) : Chs e ch :=
  ⟨h.srt, fun x => by
    rw [h.mem]
    exact ⟨fun ⟨a, b, c⟩ => ⟨a, by rw [← he _ a]; exact b, c⟩, fun ⟨a, b, c⟩ => ⟨a, by rw [he _ a]; exact b, c⟩⟩⟩
section
variable {l : List Sym} {ys zs : List Sk}
theorem chs_nodup {d : List Bs → Int} {ch : List Ch} (hc : Chs d ch) : (ch.map (·.1)).Nodup := by
  rw [List.nodup_iff_pairwise_ne, List.pairwise_map]
  refine hc.srt.imp_of_mem fun {a b} ha hb hab e => ?_
  have e1 := ((hc.mem a).1 ha).2.1
  have e2 := ((hc.mem b).1 hb).2.1
  rw [← e] at e2
  have : a = b := Prod.ext e (by rw [e1, e2])
  subst this
  exact bef_irr _ hab
/-- How many of the nodes have a total. -/
def posN (ns : List Nd) : Nat := (ns.filter fun n => decide (0 < n.total)).length
end
end Go.Proofs.YtcnfchchanlepaaGreat
namespace Go.X
open Go Go.RowKit
/-- What follows a piece of code is done once, whatever its ends. -/
theorem c_cutq {P : Program} {cx : Cx} {n : Nat} {S : SH} {L : Blocks} {F : Slots} {x : Code} {R : Act → World → Prop} {Q : Exit → Act → World → Prop} (J : SH → Blocks → Slots → Prop) (k1 : W cx n S L F (x.wpIn (Fr none) 0 P (Exit.then (fun a w => ∃ S' L' F', J S' L' F' ∧ Fm n a F' ∧ St cx S' L' w) Q)))
    (k2 : ∀ S L F, J S L F → W cx n S L F R) : W cx n S L F (x.wpIn (Fr none) 0 P (Exit.then R Q)) := by
  intro a w hf hs
  refine Go.wpIn_mono (k1 a w hf hs) fun e a' w' hq => ?_
  cases e with
  | normal => obtain ⟨S', L', F', hJ, hf', hs'⟩ := hq; exact k2 _ _ _ hJ _ _ hf' hs'
  | _ => exact hq
end Go.X
namespace Go.Proofs.YtcnfchchanlepaaGreat
open Go Go.X
set_option linter.unusedVariables false
theorem nF_small {l : List Sym} {ys : List Sk} (h : Gd l ys) {m : Nat} (hm : ∀ y ∈ ys, y.frames.length ≤ m) : (nF l ys).length ≤ 1 + ys.length * m := by
  have e : (nF l ys).length = (mF l ys).length := nodesC_len _ _
  rw [e]
  have hM := mF_gt h
  have h1 : (mF l ys).length ≤ ([] :: ys.flatMap fun y => (List.range m).map fun i => (pathOf l y).take (i + 1)).length := nodup_sub_len (srt_nodup hM.can.srt) fun p hp => by
    rcases (hM.can.mem p).1 hp with e | ⟨p', hv, h0, hpre⟩
    · rw [e]; exact List.mem_cons_self
    · obtain ⟨y, hy, rfl⟩ := wS_path h.1 h.2 hv h0
      by_cases hp0 : p = []
      · rw [hp0]; exact List.mem_cons_self
      · refine List.mem_cons_of_mem _ (List.mem_flatMap.2 ⟨y, hy, List.mem_map.2 ⟨p.length - 1, ?_, ?_⟩⟩)
        · have h3 := hpre.length_le
          have h4 : (pathOf l y).length = y.frames.length := by unfold pathOf; rw [List.length_map]
          have h5 : 0 < p.length := List.length_pos_iff.2 hp0
          have := hm y hy
          exact List.mem_range.2 (by omega)
        · have h5 : 0 < p.length := List.length_pos_iff.2 hp0
          rw [show p.length - 1 + 1 = p.length by omega]
          exact (List.prefix_iff_eq_take.1 hpre).symm
  refine Nat.le_trans h1 ?_
  rw [List.length_cons, List.length_flatMap]
  have : ∀ zs : List Sk, (zs.map fun y => ((List.range m).map fun i => (pathOf l y).take (i + 1)).length).sum = zs.length * m := fun zs => by
    induction zs with
    | nil => simp
    | cons y zs ih => rw [List.map_cons, List.sum_cons, ih, List.length_map, List.length_range, List.length_cons, Nat.add_mul]; omega
  rw [this]; omega
set_option maxRecDepth 10000
set_option linter.unusedVariables false
attribute [local irreducible] Code.wpIn wpListIn Exit.then Exit.inBlock X.Out X.Back X.W X.Ev X.Con X.BinV X.Wh X.Wn X.Wq
theorem few_con (ns : List Nd) (A : Option Addr) (c : Nat) (S : SH) (hA : At S A ns) (hc : ns.length ≤ c) :
    Con Tryz.prog 8 #[.agg #[.slice A ns.length c]] S [] (fun S' L' r => ∃ A', r = .agg #[.slice A' (ns.take (min ns.length 12)).length c] ∧ At S' A' (ns.take (min ns.length 12)) ∧ L' = []) := by
  refine con_of (args := [.agg #[.slice A ns.length c]]) Tryz.func8 rfl Tryz.ntmps8 rfl fun w => ?_
  (repeat (first | refine Jc ?_ | (apply s_minn (j := 12); (case hg => rfl); (case hd => rfl); (case hx => rfl); (case hy => rfl)) | (apply s_slice_hi hA; (case hg => rfl); (case hd => rfl); (case hx => rfl); (case hy => rfl); (case hm => rfl); (case hmc => omega); (case hj => omega); intro A5 hA5) | (apply s_evb; (case hg => rfl); (case hd => rfl); (case hn => rfl); (case he => (apply ev_buildS; (case hp => rfl); (case hz => rfl); (case h1 => rfl); (case hr => rfl)))) | refine Jo ?_ | intro _))
  exact o_ret_cell (L' := []) (sz := 1) (cs := [.slice A5 (ns.take (min ns.length 12)).length c]) Tryz.results8 rfl (by (repeat (first | exact List.Mem.head _ | apply List.Mem.tail | apply List.mem_append_right))) rfl (List.nil_sublist _) ⟨A5, rfl, hA5, rfl⟩
theorem chs_bd {ns ms : List Nd} {ch : List Ch} (hc : Chs (fun p => wT Nd.total ms p - wT Nd.total ns p) ch) : ch.length ≤ 4000 ∧ ∀ y ∈ ch, y.1.length ≤ 12 := by
  have hv : ∀ y ∈ ch, VQ y.1 := fun y hy => ((hc.mem y).1 hy).1
  refine ⟨?_, fun y hy => (hv y hy).1⟩
  have hnd := chs_nodup hc
  have hnd2 : (ch.map fun y => pth y.1).Nodup := by
    rw [List.nodup_iff_pairwise_ne, List.pairwise_map] at hnd ⊢
    exact hnd.imp_of_mem fun {a b} ha hb hab e => hab (pth_inj (hv a ha) (hv b hb) e)
  have h1 : (ch.map fun y => pth y.1).length ≤ ((wF Nd.total ns).map (·.1) ++ (wF Nd.total ms).map (·.1)).length := nodup_sub_len hnd2 fun k hk => by
    obtain ⟨y, hy, rfl⟩ := List.mem_map.1 hk
    obtain ⟨a, b, c⟩ := (hc.mem y).1 hy
    rw [List.mem_append]
    by_cases h2 : pth y.1 ∈ (wF Nd.total ns).map (·.1)
    · exact .inl h2
    · by_cases h3 : pth y.1 ∈ (wF Nd.total ms).map (·.1)
      · exact .inr h3
      · unfold wT at b
        rw [wI_none h2, wI_none h3] at b
        exact absurd b c
  rw [List.length_map, List.length_append, List.length_map, List.length_map] at h1
  have := (wF_ok Nd.total ns).2.2
  have := (wF_ok Nd.total ms).2.2
  omega
theorem diff_both' (ns ms : List Nd) : ∃ (ch : List Ch) (e : Int), ch.length ≤ 4000 ∧ (∀ y ∈ ch, y.1.length ≤ 12) ∧ (∀ S v ec L', DiffR ns ms S v ec L' → ec = e ∧ ∃ xs, Ows 54 v xs L' ∧ ChL S xs ch) ∧ ∀ ec ch2, DiffS ns ms ec ch2 → ec = e ∧ ch2 = ch := by
  by_cases hx : ∃ ch, (validB ns = true ∧ validB ms = true) ∧ Chs (fun p => wT Nd.total ms p - wT Nd.total ns p) ch
  · obtain ⟨ch, hv, hc⟩ := hx
    obtain ⟨b1, b2⟩ := chs_bd hc
    refine ⟨ch, 0, b1, b2, fun S v ec L' h => ?_, fun ec ch2 h => ?_⟩
    · rcases h with ⟨h, _⟩ | ⟨_, rfl, xs, ch2, h1, h2, h3⟩
      · exact absurd hv h
      · obtain rfl := hc.eq h3 fun _ _ => rfl
        exact ⟨rfl, xs, h1, h2⟩
    · rcases h with ⟨h, _⟩ | ⟨_, rfl, h3⟩
      · exact absurd hv h
      · exact ⟨rfl, h3.eq hc fun _ _ => rfl⟩
  · refine ⟨[], 180, by simp, by simp, fun S v ec L' h => ?_, fun ec ch2 h => ?_⟩
    · rcases h with ⟨_, rfl, rfl, rfl⟩ | ⟨hv, rfl, xs, ch2, h1, h2, h3⟩
      · exact ⟨rfl, [], Ows.nil _, ChL.nil _⟩
      · exact absurd ⟨ch2, hv, h3⟩ hx
    · rcases h with ⟨_, rfl, rfl⟩ | ⟨hv, rfl, h3⟩
      · exact ⟨rfl, rfl⟩
      · exact absurd ⟨ch2, hv, h3⟩ hx
/-- The six answers on two trees: each of mine and its like in the reference implementation. -/
theorem pairX (ns ms : List Nd) (hl : ns.length + ms.length ≤ 250) : ∃ (N1 : List Nd) (e1 : Int) (N2 : List Nd) (e2 : Int) (ch : List Ch) (e3 : Int), N1.length ≤ 1000000 ∧ N2.length ≤ 1000000 ∧ ch.length ≤ 1000000 ∧ (∀ y ∈ ch, y.1.length ≤ 1000000) ∧ ∀ (A B : Option Addr) (c d : Nat) (S : SH), At S A ns → At S B ms →
    Con Tryz.prog 11 #[.agg #[.slice A ns.length c], .agg #[.slice B ms.length d]] S [] (fun _ L' r => ∃ v, r = .tuple #[.agg #[v], .int .i64 e1] ∧ Ows 51 v N1 L') ∧
    Con Tryz.prog 12 #[.agg #[.slice A ns.length c], .agg #[.slice B ms.length d]] S [] (fun _ L' r => ∃ v, r = .tuple #[.agg #[v], .int .i64 e1] ∧ Ows 51 v N1 L') ∧
    Con Tryz.prog 13 #[.agg #[.slice A ns.length c], .agg #[.slice B ms.length d]] S [] (fun _ L' r => ∃ v, r = .tuple #[.agg #[v], .int .i64 e2] ∧ Ows 51 v N2 L') ∧
    Con Tryz.prog 14 #[.agg #[.slice A ns.length c], .agg #[.slice B ms.length d]] S [] (fun _ L' r => ∃ v, r = .tuple #[.agg #[v], .int .i64 e2] ∧ Ows 51 v N2 L') ∧
    Con Tryz.prog 15 #[.agg #[.slice A ns.length c], .agg #[.slice B ms.length d]] S [] (fun S' L' r => Le S S' ∧ ∃ v xs, r = .tuple #[v, .int .i64 e3] ∧ Ows 54 v xs L' ∧ ChL S' xs ch) ∧
    Con Tryz.prog 16 #[.agg #[.slice A ns.length c], .agg #[.slice B ms.length d]] S [] (fun S' L' r => ∃ (A' : Option Addr) (m c' : Nat) (xs : List Cg), r = .tuple #[.slice A' m c', .int .i64 e3] ∧ m = xs.length ∧ At S' A' xs ∧ ChL S' xs ch) := by
  obtain ⟨N1, e1, l1, c1⟩ := comb_one 1 ns ms
  obtain ⟨N2, e2, l2, c2⟩ := comb_one (-1) ns ms
  obtain ⟨ch, e3, b1, b2, c3, c4⟩ := diff_both' ns ms
  refine ⟨N1, e1, N2, e2, ch, e3, l1, l2, by omega, fun y hy => by have := b2 y hy; omega, fun A B c d S hA hB => ⟨?_, ?_, ?_, ?_, ?_, ?_⟩⟩
  · exact (merge_con ns ms A B c d S hA hB (by omega) (by omega)).mono fun S' L' r _ ⟨v, ec, hr, hc⟩ => by
      obtain ⟨rfl, ho⟩ := c1 v ec L' hc
      exact ⟨v, hr, ho⟩
  · exact (rMerge_con ns ms A B c d S hA hB (by omega)).mono fun S' L' r _ ⟨v, ec, hr, hc⟩ => by
      obtain ⟨rfl, ho⟩ := c1 v ec L' hc
      exact ⟨v, hr, ho⟩
  · exact (sub_con ns ms A B c d S hA hB (by omega) (by omega)).mono fun S' L' r _ ⟨v, ec, hr, hc⟩ => by
      obtain ⟨rfl, ho⟩ := c2 v ec L' hc
      exact ⟨v, hr, ho⟩
  · exact (rSub_con ns ms A B c d S hA hB (by omega)).mono fun S' L' r _ ⟨v, ec, hr, hc⟩ => by
      obtain ⟨rfl, ho⟩ := c2 v ec L' hc
      exact ⟨v, hr, ho⟩
  · exact (diff_con ns ms A B c d S hA hB (by omega) (by omega)).mono fun S' L' r _ ⟨h1, v, ec, hr, hc⟩ => by
      obtain ⟨rfl, xs, ho, hx⟩ := c3 S' v ec L' hc
      exact ⟨h1, v, xs, hr, ho, hx⟩
  · exact (rDiff_con ns ms A B c d S hA hB hl).mono fun S' L' r _ ⟨A', m, c', ec, xs, ch2, hr, hm, hA, hx, hc⟩ => by
      obtain ⟨rfl, rfl⟩ := c4 ec ch2 hc
      exact ⟨A', m, c', xs, hr, hm, hA, hx⟩
end Go.Proofs.YtcnfchchanlepaaGreat
namespace Go.X
open Go Go.RowKit
theorem ev_neq_bb {P : Program} {cx : Cx} {n : Nat} {S : SH} {L : Blocks} {F : Slots} {ty : TypeId} {T T' : TypeId} [hT : Boo P T] {x y : Operand} {p : Bool} (hx : evO F x = some (.bool p)) (hy : evO F y = some (.bool p)) : Ev P cx n S L F (.binOp .neq T x y T') ty (.bool false) := by
  have h := ev_neq_b (P := P) (cx := cx) (n := n) (S := S) (L := L) (ty := ty) (T := T) (T' := T') hx hy
  have e : (!(p == p)) = false := by simp
  rwa [e] at h
end Go.X
namespace Go.Proofs.YtcnfchchanlepaaGreat
open Go Go.X
set_option linter.unusedVariables false
theorem rfoldT {l : List Sym} {ys : List Sk} (h : Gd l ys) (xs : List Stk) (A B : Option Addr) (c d : Nat) (S : SH) (hA : At S A l) (hB : At S B xs) (hy : SkL S xs ys) :
    Con Tryz.prog 5 #[.slice A l.length c, .slice B xs.length d] S [] (fun _ L' r => ∃ v, r = .tuple #[.agg #[v], .int .i64 0] ∧ Ows 51 v (nF l ys) L') :=
  (rFold_con l xs ys A B c d S hA (by have := h.1.2; omega) hB (by have := sks_len h.2; have := hy.1; omega) hy).mono fun S' L' r _ ⟨v, ec, hr, hf⟩ => by
    obtain ⟨h1, h2⟩ := fold_ok h.1 h.2 (mF_gt h) hf
    subst h1
    exact ⟨v, hr, h2⟩
set_option maxRecDepth 10000
set_option linter.unusedVariables false
attribute [local irreducible] Code.wpIn wpListIn Exit.then Exit.inBlock X.Out X.Back X.W X.Ev X.Con X.BinV X.Wh X.Wn X.Wq
set_option maxHeartbeats 12800000 in
theorem trees_law (ns : List Nd) (A : Option Addr) (c : Nat) (ms : List Nd) (B : Option Addr) (d : Nat) (xs : List A3) (D : Option Addr) (e : Nat) (ls : List A6) (E : Option Addr) (f : Nat) (ks : List A6) (G : Option Addr) (g : Nat) (S : SH) (hA : At S A ns) (hc : ns.length ≤ c) (hB : At S B ms) (hd : ms.length ≤ d) (hD : At S D xs) (hx : ∀ x ∈ xs, i64A x) (hE : At S E ls) (hl : ∀ x ∈ ls, i64B x) (hG : At S G ks) (hk : ∀ x ∈ ks, i64B x) :
    Con Tryz.prog 3 #[.agg #[.slice A ns.length c], .agg #[.slice B ms.length d], .slice D xs.length e, .slice E ls.length f, .slice G ks.length g] S [] (fun _ L' r => L' = [] ∧ r = .bool true) := by
  refine con_of (args := [.agg #[.slice A ns.length c], .agg #[.slice B ms.length d], .slice D xs.length e, .slice E ls.length f, .slice G ks.length g]) Tryz.func3 rfl Tryz.ntmps3 rfl fun w => ?_
  have g1 := gdT xs ls
  have g2 := gdT xs ks
  (repeat (first | refine Jc ?_ | (apply s_call; (case hg => rfl); (case hd => rfl); (case ha => rfl); (case hc => exact sane_con _); (case hL => (repeat (first | exact pm_nil _ | exact pm_refl _ _ | exact pm_self _ | apply pm_cons | apply pm_app))); rintro S1 _ _ h1 ⟨rfl, rfl⟩) | refine Jo ?_ | intro _))
  rename_i b5 b6
  (repeat (first | refine Jc ?_ | ((apply s_call; (case hg => rfl); (case hd => rfl); (case ha => rfl); (case hc => exact rTable_con xs D e _ (hD.le h1) hx); (case hL => (repeat (first | exact pm_nil _ | exact pm_refl _ _ | exact pm_self _ | apply pm_cons | apply pm_app))); rintro S2 L2 v2 h2 ⟨-, ho2⟩); refine W.freezeOws ho2 (List.Perm.refl _) fun S3 h3 hs3 => ?_; obtain ⟨At_, ct, rfl, hct, hT⟩ := hs3) | refine Jo ?_ | intro _))
  have h13 := (h1.trans h2).trans h3
  (repeat (first | refine Jc ?_ | ((apply s_call; (case hg => rfl); (case hd => rfl); (case ha => rfl); (case hc => exact rMade_con ls E f _ (hE.le h13) hl); (case hL => (repeat (first | exact pm_nil _ | exact pm_refl _ _ | exact pm_self _ | apply pm_cons | apply pm_app))); rintro S4 L4 v4 h4 ⟨-, ya, ho4, ka⟩); refine W.freezeOws ho4 (List.Perm.refl _) fun S5 h5 hs5 => ?_; obtain ⟨Aa, ca, rfl, hca, hAa⟩ := hs5) | refine Jo ?_ | intro _))
  have h35 := h4.trans h5
  have h15 := h13.trans h35
  (repeat (first | refine Jc ?_ | ((apply s_call; (case hg => rfl); (case hd => rfl); (case ha => rfl); (case hc => exact rfoldT g1 ya _ _ _ _ _ (hT.le h35) hAa (ka.le h5)); (case hL => (repeat (first | exact pm_nil _ | exact pm_refl _ _ | exact pm_self _ | apply pm_cons | apply pm_app))); rintro S6 L6 _ h6 ⟨v6, rfl, ho6⟩); refine W.freezeOws ho6 (List.Perm.refl _) fun S7 h7 hs7 => ?_; obtain ⟨A7, c7, rfl, _, hA7⟩ := hs7) | refine Jo ?_ | intro _))
  rename_i b12
  have h57 := h6.trans h7
  have h17 := h15.trans h57
  (repeat (first | refine Jc ?_ | ((apply s_call; (case hg => rfl); (case hd => rfl); (case ha => rfl); (case hc => exact rTable_con xs D e _ (hD.le h17) hx); (case hL => (repeat (first | exact pm_nil _ | exact pm_refl _ _ | exact pm_self _ | apply pm_cons | apply pm_app))); rintro S8 L8 v8 h8 ⟨-, ho8⟩); refine W.freezeOws ho8 (List.Perm.refl _) fun S9 h9 hs9 => ?_; obtain ⟨At2, ct2, rfl, hct2, hT2⟩ := hs9) | refine Jo ?_ | intro _))
  have h79 := h8.trans h9
  have h19 := h17.trans h79
  (repeat (first | refine Jc ?_ | ((apply s_call; (case hg => rfl); (case hd => rfl); (case ha => rfl); (case hc => exact rMade_con ks G g _ (hG.le h19) hk); (case hL => (repeat (first | exact pm_nil _ | exact pm_refl _ _ | exact pm_self _ | apply pm_cons | apply pm_app))); rintro S10 L10 v10 h10 ⟨-, yb, ho10, kb⟩); refine W.freezeOws ho10 (List.Perm.refl _) fun S11 h11 hs11 => ?_; obtain ⟨Ab, cb, rfl, hcb, hAb⟩ := hs11) | refine Jo ?_ | intro _))
  have h911 := h10.trans h11
  have h111 := h19.trans h911
  (repeat (first | refine Jc ?_ | ((apply s_call; (case hg => rfl); (case hd => rfl); (case ha => rfl); (case hc => exact rfoldT g2 yb _ _ _ _ _ (hT2.le h911) hAb (kb.le h11)); (case hL => (repeat (first | exact pm_nil _ | exact pm_refl _ _ | exact pm_self _ | apply pm_cons | apply pm_app))); rintro S12 L12 _ h12 ⟨v12, rfl, ho12⟩); refine W.freezeOws ho12 (List.Perm.refl _) fun S13 h13' hs13 => ?_; obtain ⟨A13, c13, rfl, _, hA13⟩ := hs13) | refine Jo ?_ | intro _))
  rename_i b14
  have h1113 := h12.trans h13'
  have h113 := h111.trans h1113
  have hA7x := (hA7.le h79).le (h911.trans h1113)
  ((apply c_held ([(b14, .cells [.slice A13 (nF (tableF xs) (madeF ks)).length c13].toArray 24 (0, 0)), (b12, .cells [.slice A7 (nF (tableF xs) (madeF ls)).length c7].toArray 24 (0, 0)), (b6, .cells [.slice B ms.length d].toArray 24 (0, 0)), (b5, .cells [.slice A ns.length c].toArray 24 (0, 0))]); (case hL => (exact sbT))); refine Jf 0 ?_; refine Jf 2 ?_; refine Jf 4 ?_; refine Jf 5 ?_; (apply h_one 1; (case hr => kernel_rfl)); (apply n_call; (case hi => rfl); (case i1 => infer_instance); (case hg => rfl); (case hd => rfl); (case ha => rfl); (case hc => exact few_con ns A c _ (hA.le h113) hc); (case hL => (repeat (first | exact pm_nil _ | exact pm_refl _ _ | exact pm_self _ | apply pm_cons | apply pm_app))); (case hsub => (intros; (exact sbT))); rintro S14 L14 v14 h14 ⟨Af, rfl, hAf, rfl⟩); (apply h_one 3; (case hr => kernel_rfl)); (apply n_call; (case hi => rfl); (case i1 => infer_instance); (case hg => rfl); (case hd => rfl); (case ha => rfl); (case hc => exact few_con ms B d _ ((hB.le h113).le h14) hd); (case hL => (repeat (first | exact pm_nil _ | exact pm_refl _ _ | exact pm_self _ | apply pm_cons | apply pm_app))); (case hsub => (intros; (exact sbT))); rintro S15 L15 v15 h15' ⟨Ag, rfl, hAg, rfl⟩); (apply h_one 6; (case hr => kernel_rfl)); (apply n_buildSlice; (case hi => rfl); (case hg => rfl); (case hd => rfl); (case i1 => infer_instance); (case i2 => infer_instance); (case i3 => infer_instance); (case hp => rfl); (case hq => rfl); (case hm => rfl); (case hv => rfl); (case hl => rfl); intro b16); refine Jf 7 ?_; (apply h_end; (case hr => kernel_rfl)))
  have h1315 := h14.trans h15'
  refine W.freezeOws (L1 := [(b14, .cells [.slice A13 (nF (tableF xs) (madeF ks)).length c13].toArray 24 (0, 0)), (b12, .cells [.slice A7 (nF (tableF xs) (madeF ls)).length c7].toArray 24 (0, 0)), (b6, .cells [.slice B ms.length d].toArray 24 (0, 0)), (b5, .cells [.slice A ns.length c].toArray 24 (0, 0))]) (Ows.full (α := Sv) (e := 24) (g := b16) (l := [Sv.mk Af (ns.take (min ns.length 12)).length c, Sv.mk Ag (ms.take (min ms.length 12)).length d, Sv.mk A7 (nF (tableF xs) (madeF ls)).length c7, Sv.mk A13 (nF (tableF xs) (madeF ks)).length c13]) rfl (by simp [maxLen])) (List.Perm.refl _) fun S16 h16 hs16 => ?_
  obtain ⟨Aw, cw, ew, hcw, hAw⟩ := hs16
  injection ew with e3w e4w e5w
  rw [e3w]
  have k1 := hAf.le (h15'.trans h16)
  have k2 := hAg.le h16
  have k3 := hA7x.le (h1315.trans h16)
  have k4 := hA13.le (h1315.trans h16)
  have fr : ∀ (zs : List A6), ∀ y ∈ madeF zs, y.frames.length ≤ 4 := fun zs y hy => by
    unfold madeF at hy
    obtain ⟨z, hz, rfl⟩ := List.mem_map.1 hy
    have h1 := mkFr_len z
    have h2 := mkN_le z
    show (mkFr z).length ≤ 4
    omega
  have n3 := nF_small g1 (fr ls)
  have n4 := nF_small g2 (fr ks)
  have m3 := madeF_len ls
  have m4 := madeF_len ks
  have hall : ∀ i < 4, ∃ (ni : List Nd) (Ai : Option Addr) (ci : Nat), ([Sv.mk Af (ns.take (min ns.length 12)).length c, Sv.mk Ag (ms.take (min ms.length 12)).length d, Sv.mk A7 (nF (tableF xs) (madeF ls)).length c7, Sv.mk A13 (nF (tableF xs) (madeF ks)).length c13] : List Sv)[i]? = some ⟨Ai, ni.length, ci⟩ ∧ At S16 Ai ni ∧ ni.length ≤ 125 := fun i hi => by
    match i, hi with
    | 0, _ => exact ⟨_, _, _, rfl, k1, by rw [List.length_take]; omega⟩
    | 1, _ => exact ⟨_, _, _, rfl, k2, by rw [List.length_take]; omega⟩
    | 2, _ => exact ⟨_, _, _, rfl, k3, by omega⟩
    | 3, _ => exact ⟨_, _, _, rfl, k4, by omega⟩
  (repeat (first | refine Jz ?_ | intro _))
  refine c_loop (fun m S' L F => Le S16 S' ∧ ∃ (i : Nat), m = 4 - i ∧ i ≤ 4 ∧ L = [] ∧ F = [(11, .bool true), (16, .slice Aw 4 4), (17, .int .i64 i)]) ⟨Le.refl _, 0, rfl, by omega, rfl, rfl⟩ sbF sbL ?_
  rintro m S17 L F ⟨h17', i, rfl, hi, rfl, rfl⟩
  by_cases hi4 : i < 4
  rotate_left
  · (repeat (first | refine Jz ?_ | intro _))
    exact o_ret (L' := []) Tryz.results3 rfl (List.nil_sublist _) ⟨rfl, rfl⟩
  obtain ⟨n1, Ai, ci, hi1, hAi, hni⟩ := hall i hi4
  have hAw2 := hAw.le h17'
  have hAi2 := hAi.le h17'
  (repeat (first | refine Jz ?_ | intro _))
  refine c_cutq (fun S' L F => Le S17 S' ∧ L = [] ∧ ∃ bb, F = [(11, .bool true), (16, .slice Aw 4 4), (17, .int .i64 i), (77, bb)] ∧ bb = .bool false) ?_ ?_
  · ((apply c_held ([]); (case hL => (exact sbT))); refine Jf 0 ?_; refine Jf 1 ?_; (apply h_idx hAw2 2; (case hi => rfl); (case hr => kernel_rfl); (case hfr => kernel_rfl); (case hsel => kernel_rfl); (case hg => rfl); (case hd => rfl); (case i1 => infer_instance); (case i2 => infer_instance); (case hx => rfl); (case hy => rfl); (case hm => rfl); (case hu => exact hi1); intro u1 (hu1 : Pts _ u1 [.slice Ai n1.length ci])); (apply h_first 3; (case hi => rfl); (case hr => kernel_rfl); (case hfr => kernel_rfl); (case hsel => kernel_rfl); (case hg => rfl); (case hd => rfl); (case he => (apply ev_load_ag; (case hx => rfl); (case h => exact hu1); (case hl => rfl)))); refine Jf 5 ?_; refine Jf 6 ?_; (apply h_idx hAw2 7; (case hi => rfl); (case hr => kernel_rfl); (case hfr => kernel_rfl); (case hsel => kernel_rfl); (case hg => rfl); (case hd => rfl); (case i1 => infer_instance); (case i2 => infer_instance); (case hx => rfl); (case hy => rfl); (case hm => rfl); (case hu => exact hi1); intro u2 (hu2 : Pts _ u2 [.slice Ai n1.length ci])); (apply h_first 8; (case hi => rfl); (case hr => kernel_rfl); (case hfr => kernel_rfl); (case hsel => kernel_rfl); (case hg => rfl); (case hd => rfl); (case he => (apply ev_load_ag; (case hx => rfl); (case h => exact hu2); (case hl => rfl)))); (apply h_one 4; (case hr => kernel_rfl)); (apply n_call; (case hi => rfl); (case i1 => infer_instance); (case hg => rfl); (case hd => rfl); (case ha => rfl); (case hc => exact valid_con n1 Ai ci _ hAi2 (by omega)); (case hL => (repeat (first | exact pm_nil _ | exact pm_refl _ _ | exact pm_self _ | apply pm_cons | apply pm_app))); (case hsub => (intros; (exact sbT))); rintro Sa La va ha ⟨rfl, rfl⟩); (apply h_one 9; (case hr => kernel_rfl)); (apply n_call; (case hi => rfl); (case i1 => infer_instance); (case hg => rfl); (case hd => rfl); (case ha => rfl); (case hc => exact rValid_t n1 Ai ci _ (hAi2.le ha) (by omega) _ rfl); (case hL => (repeat (first | exact pm_nil _ | exact pm_refl _ _ | exact pm_self _ | apply pm_cons | apply pm_app))); (case hsub => (intros; (exact sbT))); rintro Sb Lb vb hb ⟨rfl, rfl⟩); (apply h_first 10; (case hi => rfl); (case hr => kernel_rfl); (case hfr => kernel_rfl); (case hsel => kernel_rfl); (case hg => rfl); (case hd => rfl); (case he => (apply ev_neq_bb; (case hx => rfl); (case hy => rfl)))); (apply h_end; (case hr => kernel_rfl)); ((refine q_then ?_; exact q_cut (L' := []) ⟨ha.trans hb, rfl, _, rfl, rfl⟩ sbF sbL)))
  rintro S17_ L F ⟨hs17, rfl, bb, rfl, rfl⟩
  (repeat (first | refine Jz ?_ | intro _))
  refine c_loop (fun m S' L F => Le S17_ S' ∧ ∃ (k : Nat), m = 4 - k ∧ k ≤ 4 ∧ L = [] ∧ F = [(11, .bool true), (16, .slice Aw 4 4), (17, .int .i64 i), (18, .int .i64 k)]) ⟨Le.refl _, 0, rfl, by omega, rfl, rfl⟩ sbF sbL ?_
  rintro m S14_ L F ⟨hs14, k, rfl, hk, rfl, rfl⟩
  by_cases hk4 : k < 4
  rotate_left
  · (repeat (first | refine Jz ?_ | intro _))
    exact q_back (L' := []) (m' := 4 - (i + 1)) ⟨(h17'.trans hs17).trans hs14, i + 1, rfl, by omega, rfl, rfl⟩ (by omega) sbF sbL
  obtain ⟨n2, Ak, ck, hk1, hAk, hnk⟩ := hall k hk4
  have hle := (h17'.trans hs17).trans hs14
  have hAw3 := hAw.le hle
  have hAi3 := hAi.le hle
  have hAk3 := hAk.le hle
  obtain ⟨N1, e1, N2, e2, ch, e3, l1, l2, l3, l4, hq⟩ := pairX n1 n2 (by omega)
  have q1 := fun A B c d S h1 h2 => (hq A B c d S h1 h2).1
  have q2 := fun A B c d S h1 h2 => (hq A B c d S h1 h2).2.1
  have q3 := fun A B c d S h1 h2 => (hq A B c d S h1 h2).2.2.1
  have q4 := fun A B c d S h1 h2 => (hq A B c d S h1 h2).2.2.2.1
  have q5 := fun A B c d S h1 h2 => (hq A B c d S h1 h2).2.2.2.2.1
  have q6 := fun A B c d S h1 h2 => (hq A B c d S h1 h2).2.2.2.2.2
  (repeat (first | refine Jz ?_ | intro _))
  refine c_cutq (fun S' L F => Le S14_ S' ∧ ∃ (b19 : Nat) (A15 : Option Addr) (c15 : Nat), At S' A15 N1 ∧ L = [(b19, .cells [.slice A15 N1.length c15].toArray 24 (0, 0))] ∧ F = [(11, .bool true), (16, .slice Aw 4 4), (17, .int .i64 i), (18, .int .i64 k), (19, .pointer (some ⟨b19, 0, none⟩)), (20, .int .i64 e1)]) ?_ ?_
  · ((apply c_held ([]); (case hL => (exact sbT))); refine Jf 0 ?_; refine Jf 1 ?_; (apply h_idx hAw3 2; (case hi => rfl); (case hr => kernel_rfl); (case hfr => kernel_rfl); (case hsel => kernel_rfl); (case hg => rfl); (case hd => rfl); (case i1 => infer_instance); (case i2 => infer_instance); (case hx => rfl); (case hy => rfl); (case hm => rfl); (case hu => exact hi1); intro u1 (hu1 : Pts _ u1 [.slice Ai n1.length ci])); (apply h_first 3; (case hi => rfl); (case hr => kernel_rfl); (case hfr => kernel_rfl); (case hsel => kernel_rfl); (case hg => rfl); (case hd => rfl); (case he => (apply ev_load_ag; (case hx => rfl); (case h => exact hu1); (case hl => rfl)))); refine Jf 4 ?_; refine Jf 5 ?_; (apply h_idx hAw3 6; (case hi => rfl); (case hr => kernel_rfl); (case hfr => kernel_rfl); (case hsel => kernel_rfl); (case hg => rfl); (case hd => rfl); (case i1 => infer_instance); (case i2 => infer_instance); (case hx => rfl); (case hy => rfl); (case hm => rfl); (case hu => exact hk1); intro u2 (hu2 : Pts _ u2 [.slice Ak n2.length ck])); (apply h_first 7; (case hi => rfl); (case hr => kernel_rfl); (case hfr => kernel_rfl); (case hsel => kernel_rfl); (case hg => rfl); (case hd => rfl); (case he => (apply ev_load_ag; (case hx => rfl); (case h => exact hu2); (case hl => rfl)))); (apply h_two 8 12; (case hr => kernel_rfl)); (case k1 => (((apply n_call; (case hi => rfl); (case i1 => infer_instance); (case hg => rfl); (case hd => rfl); (case ha => rfl); (case hc => exact (q1 _ _ _ _ _ hAi3 hAk3)); (case hL => (repeat (first | exact pm_nil _ | exact pm_refl _ _ | exact pm_self _ | apply pm_cons | apply pm_app))); (case hsub => (intros; (exact sbT))); rintro Sa La va ha ⟨v, rfl, ho⟩); refine Wh.freezeOws ho (List.Perm.refl _) sbL fun Sb hb hsb => ?_; obtain ⟨A15, c15, rfl, hcx, hAr⟩ := hsb); refine Jf 9 ?_; refine Jf 10 ?_; refine Jf 11 ?_; (apply h_one 12; (case hr => kernel_rfl)); (refine X.Jn ?_; try intro _); (apply h_one 13; (case hr => kernel_rfl)); (refine X.Jn ?_; try intro _); refine Jf 14 ?_; (apply h_end; (case hr => kernel_rfl)); ((rename_i b19; refine q_then ?_; exact q_cut (L' := [(b19, .cells [.slice A15 N1.length c15].toArray 24 (0, 0))]) ⟨ha.trans hb, b19, A15, c15, hAr, rfl, rfl⟩ sbF sbL)))); (case k2 => ((refine X.Jn ?_; try intro _); (apply h_one 8; (case hr => kernel_rfl)); ((apply n_call; (case hi => rfl); (case i1 => infer_instance); (case hg => rfl); (case hd => rfl); (case ha => rfl); (case hc => exact (q1 _ _ _ _ _ hAi3 hAk3)); (case hL => (repeat (first | exact pm_nil _ | exact pm_refl _ _ | exact pm_self _ | apply pm_cons | apply pm_app))); (case hsub => (intros; (exact sbT))); rintro Sa La va ha ⟨v, rfl, ho⟩); refine Wh.freezeOws ho (List.Perm.refl _) sbL fun Sb hb hsb => ?_; obtain ⟨A15, c15, rfl, hcx, hAr⟩ := hsb); refine Jf 9 ?_; refine Jf 10 ?_; refine Jf 11 ?_; (apply h_one 13; (case hr => kernel_rfl)); (refine X.Jn ?_; try intro _); refine Jf 14 ?_; (apply h_end; (case hr => kernel_rfl)); ((rename_i b19; refine q_then ?_; exact q_cut (L' := [(b19, .cells [.slice A15 N1.length c15].toArray 24 (0, 0))]) ⟨ha.trans hb, b19, A15, c15, hAr, rfl, rfl⟩ sbF sbL)))))
  rintro S15_ L F ⟨hs15, b19, A15, c15, hA15, rfl, rfl⟩
  have hAw3 := hAw3.le hs15
  have hAi3 := hAi3.le hs15
  have hAk3 := hAk3.le hs15
  (repeat (first | refine Jz ?_ | intro _))
  refine c_cutq (fun S' L F => Le S15_ S' ∧ ∃ (b21 : Nat) (A16 : Option Addr) (c16 : Nat), At S' A16 N1 ∧ L = [(b21, .cells [.slice A16 N1.length c16].toArray 24 (0, 0)), (b19, .cells [.slice A15 N1.length c15].toArray 24 (0, 0))] ∧ F = [(11, .bool true), (16, .slice Aw 4 4), (17, .int .i64 i), (18, .int .i64 k), (19, .pointer (some ⟨b19, 0, none⟩)), (20, .int .i64 e1), (21, .pointer (some ⟨b21, 0, none⟩)), (22, .int .i64 e1)]) ?_ ?_
  · ((apply c_held ([]); (case hL => (exact sbT))); refine Jf 0 ?_; refine Jf 1 ?_; (apply h_idx hAw3 2; (case hi => rfl); (case hr => kernel_rfl); (case hfr => kernel_rfl); (case hsel => kernel_rfl); (case hg => rfl); (case hd => rfl); (case i1 => infer_instance); (case i2 => infer_instance); (case hx => rfl); (case hy => rfl); (case hm => rfl); (case hu => exact hi1); intro u1 (hu1 : Pts _ u1 [.slice Ai n1.length ci])); (apply h_first 3; (case hi => rfl); (case hr => kernel_rfl); (case hfr => kernel_rfl); (case hsel => kernel_rfl); (case hg => rfl); (case hd => rfl); (case he => (apply ev_load_ag; (case hx => rfl); (case h => exact hu1); (case hl => rfl)))); refine Jf 4 ?_; refine Jf 5 ?_; (apply h_idx hAw3 6; (case hi => rfl); (case hr => kernel_rfl); (case hfr => kernel_rfl); (case hsel => kernel_rfl); (case hg => rfl); (case hd => rfl); (case i1 => infer_instance); (case i2 => infer_instance); (case hx => rfl); (case hy => rfl); (case hm => rfl); (case hu => exact hk1); intro u2 (hu2 : Pts _ u2 [.slice Ak n2.length ck])); (apply h_first 7; (case hi => rfl); (case hr => kernel_rfl); (case hfr => kernel_rfl); (case hsel => kernel_rfl); (case hg => rfl); (case hd => rfl); (case he => (apply ev_load_ag; (case hx => rfl); (case h => exact hu2); (case hl => rfl)))); (apply h_two 8 12; (case hr => kernel_rfl)); (case k1 => (((apply n_call; (case hi => rfl); (case i1 => infer_instance); (case hg => rfl); (case hd => rfl); (case ha => rfl); (case hc => exact (q2 _ _ _ _ _ hAi3 hAk3)); (case hL => (repeat (first | exact pm_nil _ | exact pm_refl _ _ | exact pm_self _ | apply pm_cons | apply pm_app))); (case hsub => (intros; (exact sbT))); rintro Sa La va ha ⟨v, rfl, ho⟩); refine Wh.freezeOws ho (List.Perm.refl _) sbL fun Sb hb hsb => ?_; obtain ⟨A16, c16, rfl, hcx, hAr⟩ := hsb); refine Jf 9 ?_; refine Jf 10 ?_; refine Jf 11 ?_; (apply h_one 12; (case hr => kernel_rfl)); (refine X.Jn ?_; try intro _); (apply h_one 13; (case hr => kernel_rfl)); (refine X.Jn ?_; try intro _); refine Jf 14 ?_; (apply h_end; (case hr => kernel_rfl)); ((rename_i b21; refine q_then ?_; exact q_cut (L' := [(b21, .cells [.slice A16 N1.length c16].toArray 24 (0, 0)), (b19, .cells [.slice A15 N1.length c15].toArray 24 (0, 0))]) ⟨ha.trans hb, b21, A16, c16, hAr, rfl, rfl⟩ sbF sbL)))); (case k2 => ((refine X.Jn ?_; try intro _); (apply h_one 8; (case hr => kernel_rfl)); ((apply n_call; (case hi => rfl); (case i1 => infer_instance); (case hg => rfl); (case hd => rfl); (case ha => rfl); (case hc => exact (q2 _ _ _ _ _ hAi3 hAk3)); (case hL => (repeat (first | exact pm_nil _ | exact pm_refl _ _ | exact pm_self _ | apply pm_cons | apply pm_app))); (case hsub => (intros; (exact sbT))); rintro Sa La va ha ⟨v, rfl, ho⟩); refine Wh.freezeOws ho (List.Perm.refl _) sbL fun Sb hb hsb => ?_; obtain ⟨A16, c16, rfl, hcx, hAr⟩ := hsb); refine Jf 9 ?_; refine Jf 10 ?_; refine Jf 11 ?_; (apply h_one 13; (case hr => kernel_rfl)); (refine X.Jn ?_; try intro _); refine Jf 14 ?_; (apply h_end; (case hr => kernel_rfl)); ((rename_i b21; refine q_then ?_; exact q_cut (L' := [(b21, .cells [.slice A16 N1.length c16].toArray 24 (0, 0)), (b19, .cells [.slice A15 N1.length c15].toArray 24 (0, 0))]) ⟨ha.trans hb, b21, A16, c16, hAr, rfl, rfl⟩ sbF sbL)))))
  rintro S16_ L F ⟨hs16, b21, A16, c16, hA16, rfl, rfl⟩
  have hAw3 := hAw3.le hs16
  have hAi3 := hAi3.le hs16
  have hAk3 := hAk3.le hs16
  have hA15 := hA15.le hs16
  (repeat (first | refine Jz ?_ | intro _))
  refine c_cutq (fun S' L F => Le S16_ S' ∧ ∃ (b23 : Nat) (A17 : Option Addr) (c17 : Nat), At S' A17 N2 ∧ L = [(b23, .cells [.slice A17 N2.length c17].toArray 24 (0, 0)), (b21, .cells [.slice A16 N1.length c16].toArray 24 (0, 0)), (b19, .cells [.slice A15 N1.length c15].toArray 24 (0, 0))] ∧ F = [(11, .bool true), (16, .slice Aw 4 4), (17, .int .i64 i), (18, .int .i64 k), (19, .pointer (some ⟨b19, 0, none⟩)), (20, .int .i64 e1), (21, .pointer (some ⟨b21, 0, none⟩)), (22, .int .i64 e1), (23, .pointer (some ⟨b23, 0, none⟩)), (24, .int .i64 e2)]) ?_ ?_
  · ((apply c_held ([]); (case hL => (exact sbT))); refine Jf 0 ?_; refine Jf 1 ?_; (apply h_idx hAw3 2; (case hi => rfl); (case hr => kernel_rfl); (case hfr => kernel_rfl); (case hsel => kernel_rfl); (case hg => rfl); (case hd => rfl); (case i1 => infer_instance); (case i2 => infer_instance); (case hx => rfl); (case hy => rfl); (case hm => rfl); (case hu => exact hi1); intro u1 (hu1 : Pts _ u1 [.slice Ai n1.length ci])); (apply h_first 3; (case hi => rfl); (case hr => kernel_rfl); (case hfr => kernel_rfl); (case hsel => kernel_rfl); (case hg => rfl); (case hd => rfl); (case he => (apply ev_load_ag; (case hx => rfl); (case h => exact hu1); (case hl => rfl)))); refine Jf 4 ?_; refine Jf 5 ?_; (apply h_idx hAw3 6; (case hi => rfl); (case hr => kernel_rfl); (case hfr => kernel_rfl); (case hsel => kernel_rfl); (case hg => rfl); (case hd => rfl); (case i1 => infer_instance); (case i2 => infer_instance); (case hx => rfl); (case hy => rfl); (case hm => rfl); (case hu => exact hk1); intro u2 (hu2 : Pts _ u2 [.slice Ak n2.length ck])); (apply h_first 7; (case hi => rfl); (case hr => kernel_rfl); (case hfr => kernel_rfl); (case hsel => kernel_rfl); (case hg => rfl); (case hd => rfl); (case he => (apply ev_load_ag; (case hx => rfl); (case h => exact hu2); (case hl => rfl)))); (apply h_two 8 12; (case hr => kernel_rfl)); (case k1 => (((apply n_call; (case hi => rfl); (case i1 => infer_instance); (case hg => rfl); (case hd => rfl); (case ha => rfl); (case hc => exact (q3 _ _ _ _ _ hAi3 hAk3)); (case hL => (repeat (first | exact pm_nil _ | exact pm_refl _ _ | exact pm_self _ | apply pm_cons | apply pm_app))); (case hsub => (intros; (exact sbT))); rintro Sa La va ha ⟨v, rfl, ho⟩); refine Wh.freezeOws ho (List.Perm.refl _) sbL fun Sb hb hsb => ?_; obtain ⟨A17, c17, rfl, hcx, hAr⟩ := hsb); refine Jf 9 ?_; refine Jf 10 ?_; refine Jf 11 ?_; (apply h_one 12; (case hr => kernel_rfl)); (refine X.Jn ?_; try intro _); (apply h_one 13; (case hr => kernel_rfl)); (refine X.Jn ?_; try intro _); refine Jf 14 ?_; (apply h_end; (case hr => kernel_rfl)); ((rename_i b23; refine q_then ?_; exact q_cut (L' := [(b23, .cells [.slice A17 N2.length c17].toArray 24 (0, 0)), (b21, .cells [.slice A16 N1.length c16].toArray 24 (0, 0)), (b19, .cells [.slice A15 N1.length c15].toArray 24 (0, 0))]) ⟨ha.trans hb, b23, A17, c17, hAr, rfl, rfl⟩ sbF sbL)))); (case k2 => ((refine X.Jn ?_; try intro _); (apply h_one 8; (case hr => kernel_rfl)); ((apply n_call; (case hi => rfl); (case i1 => infer_instance); (case hg => rfl); (case hd => rfl); (case ha => rfl); (case hc => exact (q3 _ _ _ _ _ hAi3 hAk3)); (case hL => (repeat (first | exact pm_nil _ | exact pm_refl _ _ | exact pm_self _ | apply pm_cons | apply pm_app))); (case hsub => (intros; (exact sbT))); rintro Sa La va ha ⟨v, rfl, ho⟩); refine Wh.freezeOws ho (List.Perm.refl _) sbL fun Sb hb hsb => ?_; obtain ⟨A17, c17, rfl, hcx, hAr⟩ := hsb); refine Jf 9 ?_; refine Jf 10 ?_; refine Jf 11 ?_; (apply h_one 13; (case hr => kernel_rfl)); (refine X.Jn ?_; try intro _); refine Jf 14 ?_; (apply h_end; (case hr => kernel_rfl)); ((rename_i b23; refine q_then ?_; exact q_cut (L' := [(b23, .cells [.slice A17 N2.length c17].toArray 24 (0, 0)), (b21, .cells [.slice A16 N1.length c16].toArray 24 (0, 0)), (b19, .cells [.slice A15 N1.length c15].toArray 24 (0, 0))]) ⟨ha.trans hb, b23, A17, c17, hAr, rfl, rfl⟩ sbF sbL)))))
  rintro S17_ L F ⟨hs17b, b23, A17, c17, hA17, rfl, rfl⟩
  have hAw3 := hAw3.le hs17b
  have hAi3 := hAi3.le hs17b
  have hAk3 := hAk3.le hs17b
  have hA15 := hA15.le hs17b
  have hA16 := hA16.le hs17b
  (repeat (first | refine Jz ?_ | intro _))
  refine c_cutq (fun S' L F => Le S17_ S' ∧ ∃ (b25 : Nat) (A18 : Option Addr) (c18 : Nat), At S' A18 N2 ∧ L = [(b25, .cells [.slice A18 N2.length c18].toArray 24 (0, 0)), (b23, .cells [.slice A17 N2.length c17].toArray 24 (0, 0)), (b21, .cells [.slice A16 N1.length c16].toArray 24 (0, 0)), (b19, .cells [.slice A15 N1.length c15].toArray 24 (0, 0))] ∧ F = [(11, .bool true), (16, .slice Aw 4 4), (17, .int .i64 i), (18, .int .i64 k), (19, .pointer (some ⟨b19, 0, none⟩)), (20, .int .i64 e1), (21, .pointer (some ⟨b21, 0, none⟩)), (22, .int .i64 e1), (23, .pointer (some ⟨b23, 0, none⟩)), (24, .int .i64 e2), (25, .pointer (some ⟨b25, 0, none⟩)), (26, .int .i64 e2)]) ?_ ?_
  · ((apply c_held ([]); (case hL => (exact sbT))); refine Jf 0 ?_; refine Jf 1 ?_; (apply h_idx hAw3 2; (case hi => rfl); (case hr => kernel_rfl); (case hfr => kernel_rfl); (case hsel => kernel_rfl); (case hg => rfl); (case hd => rfl); (case i1 => infer_instance); (case i2 => infer_instance); (case hx => rfl); (case hy => rfl); (case hm => rfl); (case hu => exact hi1); intro u1 (hu1 : Pts _ u1 [.slice Ai n1.length ci])); (apply h_first 3; (case hi => rfl); (case hr => kernel_rfl); (case hfr => kernel_rfl); (case hsel => kernel_rfl); (case hg => rfl); (case hd => rfl); (case he => (apply ev_load_ag; (case hx => rfl); (case h => exact hu1); (case hl => rfl)))); refine Jf 4 ?_; refine Jf 5 ?_; (apply h_idx hAw3 6; (case hi => rfl); (case hr => kernel_rfl); (case hfr => kernel_rfl); (case hsel => kernel_rfl); (case hg => rfl); (case hd => rfl); (case i1 => infer_instance); (case i2 => infer_instance); (case hx => rfl); (case hy => rfl); (case hm => rfl); (case hu => exact hk1); intro u2 (hu2 : Pts _ u2 [.slice Ak n2.length ck])); (apply h_first 7; (case hi => rfl); (case hr => kernel_rfl); (case hfr => kernel_rfl); (case hsel => kernel_rfl); (case hg => rfl); (case hd => rfl); (case he => (apply ev_load_ag; (case hx => rfl); (case h => exact hu2); (case hl => rfl)))); (apply h_two 8 12; (case hr => kernel_rfl)); (case k1 => (((apply n_call; (case hi => rfl); (case i1 => infer_instance); (case hg => rfl); (case hd => rfl); (case ha => rfl); (case hc => exact (q4 _ _ _ _ _ hAi3 hAk3)); (case hL => (repeat (first | exact pm_nil _ | exact pm_refl _ _ | exact pm_self _ | apply pm_cons | apply pm_app))); (case hsub => (intros; (exact sbT))); rintro Sa La va ha ⟨v, rfl, ho⟩); refine Wh.freezeOws ho (List.Perm.refl _) sbL fun Sb hb hsb => ?_; obtain ⟨A18, c18, rfl, hcx, hAr⟩ := hsb); refine Jf 9 ?_; refine Jf 10 ?_; refine Jf 11 ?_; (apply h_one 12; (case hr => kernel_rfl)); (refine X.Jn ?_; try intro _); (apply h_one 13; (case hr => kernel_rfl)); (refine X.Jn ?_; try intro _); refine Jf 14 ?_; (apply h_end; (case hr => kernel_rfl)); ((rename_i b25; refine q_then ?_; exact q_cut (L' := [(b25, .cells [.slice A18 N2.length c18].toArray 24 (0, 0)), (b23, .cells [.slice A17 N2.length c17].toArray 24 (0, 0)), (b21, .cells [.slice A16 N1.length c16].toArray 24 (0, 0)), (b19, .cells [.slice A15 N1.length c15].toArray 24 (0, 0))]) ⟨ha.trans hb, b25, A18, c18, hAr, rfl, rfl⟩ sbF sbL)))); (case k2 => ((refine X.Jn ?_; try intro _); (apply h_one 8; (case hr => kernel_rfl)); ((apply n_call; (case hi => rfl); (case i1 => infer_instance); (case hg => rfl); (case hd => rfl); (case ha => rfl); (case hc => exact (q4 _ _ _ _ _ hAi3 hAk3)); (case hL => (repeat (first | exact pm_nil _ | exact pm_refl _ _ | exact pm_self _ | apply pm_cons | apply pm_app))); (case hsub => (intros; (exact sbT))); rintro Sa La va ha ⟨v, rfl, ho⟩); refine Wh.freezeOws ho (List.Perm.refl _) sbL fun Sb hb hsb => ?_; obtain ⟨A18, c18, rfl, hcx, hAr⟩ := hsb); refine Jf 9 ?_; refine Jf 10 ?_; refine Jf 11 ?_; (apply h_one 13; (case hr => kernel_rfl)); (refine X.Jn ?_; try intro _); refine Jf 14 ?_; (apply h_end; (case hr => kernel_rfl)); ((rename_i b25; refine q_then ?_; exact q_cut (L' := [(b25, .cells [.slice A18 N2.length c18].toArray 24 (0, 0)), (b23, .cells [.slice A17 N2.length c17].toArray 24 (0, 0)), (b21, .cells [.slice A16 N1.length c16].toArray 24 (0, 0)), (b19, .cells [.slice A15 N1.length c15].toArray 24 (0, 0))]) ⟨ha.trans hb, b25, A18, c18, hAr, rfl, rfl⟩ sbF sbL)))))
  rintro S18_ L F ⟨hs18, b25, A18, c18, hA18, rfl, rfl⟩
  have hAw3 := hAw3.le hs18
  have hAi3 := hAi3.le hs18
  have hAk3 := hAk3.le hs18
  have hA15 := hA15.le hs18
  have hA16 := hA16.le hs18
  have hA17 := hA17.le hs18
  (repeat (first | refine Jz ?_ | intro _))
  refine c_cutq (fun S' L F => Le S18_ S' ∧ ∃ (A19 : Option Addr) (c19 : Nat) (xs19 : List Cg), At S' A19 xs19 ∧ ChL S' xs19 ch ∧ L = [(b25, .cells [.slice A18 N2.length c18].toArray 24 (0, 0)), (b23, .cells [.slice A17 N2.length c17].toArray 24 (0, 0)), (b21, .cells [.slice A16 N1.length c16].toArray 24 (0, 0)), (b19, .cells [.slice A15 N1.length c15].toArray 24 (0, 0))] ∧ F = [(11, .bool true), (16, .slice Aw 4 4), (17, .int .i64 i), (18, .int .i64 k), (19, .pointer (some ⟨b19, 0, none⟩)), (20, .int .i64 e1), (21, .pointer (some ⟨b21, 0, none⟩)), (22, .int .i64 e1), (23, .pointer (some ⟨b23, 0, none⟩)), (24, .int .i64 e2), (25, .pointer (some ⟨b25, 0, none⟩)), (26, .int .i64 e2), (27, .slice A19 xs19.length c19), (28, .int .i64 e3)]) ?_ ?_
  · ((apply c_held ([]); (case hL => (exact sbT))); refine Jf 0 ?_; refine Jf 1 ?_; (apply h_idx hAw3 2; (case hi => rfl); (case hr => kernel_rfl); (case hfr => kernel_rfl); (case hsel => kernel_rfl); (case hg => rfl); (case hd => rfl); (case i1 => infer_instance); (case i2 => infer_instance); (case hx => rfl); (case hy => rfl); (case hm => rfl); (case hu => exact hi1); intro u1 (hu1 : Pts _ u1 [.slice Ai n1.length ci])); (apply h_first 3; (case hi => rfl); (case hr => kernel_rfl); (case hfr => kernel_rfl); (case hsel => kernel_rfl); (case hg => rfl); (case hd => rfl); (case he => (apply ev_load_ag; (case hx => rfl); (case h => exact hu1); (case hl => rfl)))); refine Jf 4 ?_; refine Jf 5 ?_; (apply h_idx hAw3 6; (case hi => rfl); (case hr => kernel_rfl); (case hfr => kernel_rfl); (case hsel => kernel_rfl); (case hg => rfl); (case hd => rfl); (case i1 => infer_instance); (case i2 => infer_instance); (case hx => rfl); (case hy => rfl); (case hm => rfl); (case hu => exact hk1); intro u2 (hu2 : Pts _ u2 [.slice Ak n2.length ck])); (apply h_first 7; (case hi => rfl); (case hr => kernel_rfl); (case hfr => kernel_rfl); (case hsel => kernel_rfl); (case hg => rfl); (case hd => rfl); (case he => (apply ev_load_ag; (case hx => rfl); (case h => exact hu2); (case hl => rfl)))); (apply h_one 8; (case hr => kernel_rfl)); ((apply n_call; (case hi => rfl); (case i1 => infer_instance); (case hg => rfl); (case hd => rfl); (case ha => rfl); (case hc => exact (q5 _ _ _ _ _ hAi3 hAk3)); (case hL => (repeat (first | exact pm_nil _ | exact pm_refl _ _ | exact pm_self _ | apply pm_cons | apply pm_app))); (case hsub => (intros; (exact sbT))); rintro Sa La va ha ⟨-, v, xs19, rfl, ho, hch19⟩); refine Wh.freezeOws ho (List.Perm.refl _) sbL fun Sb hb hsb => ?_; obtain ⟨A19, c19, rfl, _, hAr⟩ := hsb); refine Jf 9 ?_; refine Jf 10 ?_; refine Jf 11 ?_; refine Jf 12 ?_; refine Jf 13 ?_; (apply h_end; (case hr => kernel_rfl)); ((refine q_then ?_; exact q_cut (L' := [(b25, .cells [.slice A18 N2.length c18].toArray 24 (0, 0)), (b23, .cells [.slice A17 N2.length c17].toArray 24 (0, 0)), (b21, .cells [.slice A16 N1.length c16].toArray 24 (0, 0)), (b19, .cells [.slice A15 N1.length c15].toArray 24 (0, 0))]) ⟨ha.trans hb, A19, c19, xs19, hAr, hch19.le hb, rfl, rfl⟩ sbF sbL)))
  rintro S19_ L F ⟨hs19, A19, c19, xs19, hA19, hch19, rfl, rfl⟩
  have hAw3 := hAw3.le hs19
  have hAi3 := hAi3.le hs19
  have hAk3 := hAk3.le hs19
  have hA15 := hA15.le hs19
  have hA16 := hA16.le hs19
  have hA17 := hA17.le hs19
  have hA18 := hA18.le hs19
  (repeat (first | refine Jz ?_ | intro _))
  refine c_cutq (fun S' L F => Le S19_ S' ∧ ∃ (A20 : Option Addr) (c20 : Nat) (xs20 : List Cg), At S' A20 xs20 ∧ ChL S' xs20 ch ∧ L = [(b25, .cells [.slice A18 N2.length c18].toArray 24 (0, 0)), (b23, .cells [.slice A17 N2.length c17].toArray 24 (0, 0)), (b21, .cells [.slice A16 N1.length c16].toArray 24 (0, 0)), (b19, .cells [.slice A15 N1.length c15].toArray 24 (0, 0))] ∧ F = [(11, .bool true), (16, .slice Aw 4 4), (17, .int .i64 i), (18, .int .i64 k), (19, .pointer (some ⟨b19, 0, none⟩)), (20, .int .i64 e1), (21, .pointer (some ⟨b21, 0, none⟩)), (22, .int .i64 e1), (23, .pointer (some ⟨b23, 0, none⟩)), (24, .int .i64 e2), (25, .pointer (some ⟨b25, 0, none⟩)), (26, .int .i64 e2), (27, .slice A19 xs19.length c19), (28, .int .i64 e3), (29, .slice A20 xs20.length c20), (30, .int .i64 e3)]) ?_ ?_
  · ((apply c_held ([]); (case hL => (exact sbT))); refine Jf 0 ?_; refine Jf 1 ?_; (apply h_idx hAw3 2; (case hi => rfl); (case hr => kernel_rfl); (case hfr => kernel_rfl); (case hsel => kernel_rfl); (case hg => rfl); (case hd => rfl); (case i1 => infer_instance); (case i2 => infer_instance); (case hx => rfl); (case hy => rfl); (case hm => rfl); (case hu => exact hi1); intro u1 (hu1 : Pts _ u1 [.slice Ai n1.length ci])); (apply h_first 3; (case hi => rfl); (case hr => kernel_rfl); (case hfr => kernel_rfl); (case hsel => kernel_rfl); (case hg => rfl); (case hd => rfl); (case he => (apply ev_load_ag; (case hx => rfl); (case h => exact hu1); (case hl => rfl)))); refine Jf 4 ?_; refine Jf 5 ?_; (apply h_idx hAw3 6; (case hi => rfl); (case hr => kernel_rfl); (case hfr => kernel_rfl); (case hsel => kernel_rfl); (case hg => rfl); (case hd => rfl); (case i1 => infer_instance); (case i2 => infer_instance); (case hx => rfl); (case hy => rfl); (case hm => rfl); (case hu => exact hk1); intro u2 (hu2 : Pts _ u2 [.slice Ak n2.length ck])); (apply h_first 7; (case hi => rfl); (case hr => kernel_rfl); (case hfr => kernel_rfl); (case hsel => kernel_rfl); (case hg => rfl); (case hd => rfl); (case he => (apply ev_load_ag; (case hx => rfl); (case h => exact hu2); (case hl => rfl)))); (apply h_one 8; (case hr => kernel_rfl)); (apply n_call; (case hi => rfl); (case i1 => infer_instance); (case hg => rfl); (case hd => rfl); (case ha => rfl); (case hc => exact (q6 _ _ _ _ _ hAi3 hAk3)); (case hL => (repeat (first | exact pm_nil _ | exact pm_refl _ _ | exact pm_self _ | apply pm_cons | apply pm_app))); (case hsub => (intros; (exact sbT))); rintro Sa La va ha ⟨A20, m20, c20, xs20, rfl, rfl, hAr, hch20⟩); refine Jf 9 ?_; refine Jf 10 ?_; refine Jf 11 ?_; refine Jf 12 ?_; refine Jf 13 ?_; (apply h_end; (case hr => kernel_rfl)); ((refine q_then ?_; exact q_cut (L' := [(b25, .cells [.slice A18 N2.length c18].toArray 24 (0, 0)), (b23, .cells [.slice A17 N2.length c17].toArray 24 (0, 0)), (b21, .cells [.slice A16 N1.length c16].toArray 24 (0, 0)), (b19, .cells [.slice A15 N1.length c15].toArray 24 (0, 0))]) ⟨ha, A20, c20, xs20, hAr, hch20, rfl, rfl⟩ sbF sbL)))
  rintro S20_ L F ⟨hs20, A20, c20, xs20, hA20, hch20, rfl, rfl⟩
  have hAw3 := hAw3.le hs20
  have hAi3 := hAi3.le hs20
  have hAk3 := hAk3.le hs20
  have hA15 := hA15.le hs20
  have hA16 := hA16.le hs20
  have hA17 := hA17.le hs20
  have hA18 := hA18.le hs20
  have hA19 := hA19.le hs20
  have hch19 := hch19.le hs20
  obtain ⟨rs, hrs⟩ : ∃ rs : Bool, rs = true ↔ n1 = n2 := by
    by_cases h : n1 = n2
    · exact ⟨true, fun _ => h, fun _ => rfl⟩
    · exact ⟨false, fun k => (by cases k), fun k => absurd k h⟩
  (repeat (first | refine Jz ?_ | intro _))
  ((apply c_held ([(b25, .cells [.slice A18 N2.length c18].toArray 24 (0, 0)), (b23, .cells [.slice A17 N2.length c17].toArray 24 (0, 0)), (b21, .cells [.slice A16 N1.length c16].toArray 24 (0, 0)), (b19, .cells [.slice A15 N1.length c15].toArray 24 (0, 0))]); (case hL => (exact sbT))); refine Jf 0 ?_; refine Jf 1 ?_; refine Jf 2 ?_; refine Jf 3 ?_; refine Jf 4 ?_; refine Jf 5 ?_; refine Jf 6 ?_; refine Jf 7 ?_; refine Jf 8 ?_; refine Jf 9 ?_; refine Jf 10 ?_; refine Jf 11 ?_; refine Jf 12 ?_; refine Jf 13 ?_; refine Jf 14 ?_; refine Jf 15 ?_; (apply h_one 16; (case hr => kernel_rfl)); (apply n_call; (case hi => rfl); (case i1 => infer_instance); (case hg => rfl); (case hd => rfl); (case ha => rfl); (case hc => exact (rSame_con N1 N1 A15 A16 c15 c16 _ hA15 hA16 l1 l1 true ⟨fun _ => rfl, fun _ => rfl⟩)); (case hL => (repeat (first | exact pm_nil _ | exact pm_refl _ _ | exact pm_self _ | apply pm_cons | apply pm_app))); (case hsub => (intros; (exact sbT))); rintro _ _ _ - ⟨rfl, rfl, rfl⟩); refine Jf 17 ?_; refine Jf 18 ?_; refine Jf 19 ?_; refine Jf 20 ?_; refine Jf 21 ?_; (apply h_one 22; (case hr => kernel_rfl)); (apply n_call; (case hi => rfl); (case i1 => infer_instance); (case hg => rfl); (case hd => rfl); (case ha => rfl); (case hc => exact (rSame_con N2 N2 A17 A18 c17 c18 _ hA17 hA18 l2 l2 true ⟨fun _ => rfl, fun _ => rfl⟩)); (case hL => (repeat (first | exact pm_nil _ | exact pm_refl _ _ | exact pm_self _ | apply pm_cons | apply pm_app))); (case hsub => (intros; (exact sbT))); rintro _ _ _ - ⟨rfl, rfl, rfl⟩); refine Jf 23 ?_; refine Jf 24 ?_; refine Jf 25 ?_; refine Jf 26 ?_; refine Jf 27 ?_; (apply h_one 28; (case hr => kernel_rfl)); (apply n_call; (case hi => rfl); (case i1 => infer_instance); (case hg => rfl); (case hd => rfl); (case ha => rfl); (case hc => exact (rSameCh_con xs19 xs20 ch A19 A20 c19 c20 _ hA19 hA20 hch19 hch20 l4 l3)); (case hL => (repeat (first | exact pm_nil _ | exact pm_refl _ _ | exact pm_self _ | apply pm_cons | apply pm_app))); (case hsub => (intros; (exact sbT))); rintro _ _ _ - ⟨rfl, rfl, rfl⟩); refine Jf 29 ?_; refine Jf 30 ?_; refine Jf 31 ?_; refine Jf 32 ?_; refine Jf 33 ?_; (apply h_idx hAw3 34; (case hi => rfl); (case hr => kernel_rfl); (case hfr => kernel_rfl); (case hsel => kernel_rfl); (case hg => rfl); (case hd => rfl); (case i1 => infer_instance); (case i2 => infer_instance); (case hx => rfl); (case hy => rfl); (case hm => rfl); (case hu => exact hi1); intro u1 (hu1 : Pts _ u1 [.slice Ai n1.length ci])); (apply h_first 35; (case hi => rfl); (case hr => kernel_rfl); (case hfr => kernel_rfl); (case hsel => kernel_rfl); (case hg => rfl); (case hd => rfl); (case he => (apply ev_load_ag; (case hx => rfl); (case h => exact hu1); (case hl => rfl)))); refine Jf 36 ?_; refine Jf 37 ?_; (apply h_idx hAw3 38; (case hi => rfl); (case hr => kernel_rfl); (case hfr => kernel_rfl); (case hsel => kernel_rfl); (case hg => rfl); (case hd => rfl); (case i1 => infer_instance); (case i2 => infer_instance); (case hx => rfl); (case hy => rfl); (case hm => rfl); (case hu => exact hk1); intro u2 (hu2 : Pts _ u2 [.slice Ak n2.length ck])); (apply h_first 39; (case hi => rfl); (case hr => kernel_rfl); (case hfr => kernel_rfl); (case hsel => kernel_rfl); (case hg => rfl); (case hd => rfl); (case he => (apply ev_load_ag; (case hx => rfl); (case h => exact hu2); (case hl => rfl)))); refine Jf 41 ?_; refine Jf 42 ?_; (apply h_idx hAw3 43; (case hi => rfl); (case hr => kernel_rfl); (case hfr => kernel_rfl); (case hsel => kernel_rfl); (case hg => rfl); (case hd => rfl); (case i1 => infer_instance); (case i2 => infer_instance); (case hx => rfl); (case hy => rfl); (case hm => rfl); (case hu => exact hi1); intro u3 (hu3 : Pts _ u3 [.slice Ai n1.length ci])); (apply h_first 44; (case hi => rfl); (case hr => kernel_rfl); (case hfr => kernel_rfl); (case hsel => kernel_rfl); (case hg => rfl); (case hd => rfl); (case he => (apply ev_load_ag; (case hx => rfl); (case h => exact hu3); (case hl => rfl)))); refine Jf 45 ?_; refine Jf 46 ?_; (apply h_idx hAw3 47; (case hi => rfl); (case hr => kernel_rfl); (case hfr => kernel_rfl); (case hsel => kernel_rfl); (case hg => rfl); (case hd => rfl); (case i1 => infer_instance); (case i2 => infer_instance); (case hx => rfl); (case hy => rfl); (case hm => rfl); (case hu => exact hk1); intro u4 (hu4 : Pts _ u4 [.slice Ak n2.length ck])); (apply h_first 48; (case hi => rfl); (case hr => kernel_rfl); (case hfr => kernel_rfl); (case hsel => kernel_rfl); (case hg => rfl); (case hd => rfl); (case he => (apply ev_load_ag; (case hx => rfl); (case h => exact hu4); (case hl => rfl)))); (apply h_one 40; (case hr => kernel_rfl)); (apply n_call; (case hi => rfl); (case i1 => infer_instance); (case hg => rfl); (case hd => rfl); (case ha => rfl); (case hc => exact (same_con n1 n2 Ai Ak ci ck _ hAi3 hAk3 (by omega) (by omega) rs hrs)); (case hL => (repeat (first | exact pm_nil _ | exact pm_refl _ _ | exact pm_self _ | apply pm_cons | apply pm_app))); (case hsub => (intros; (exact sbT))); rintro _ _ _ - ⟨rfl, rfl, rfl⟩); (apply h_one 49; (case hr => kernel_rfl)); (apply n_call; (case hi => rfl); (case i1 => infer_instance); (case hg => rfl); (case hd => rfl); (case ha => rfl); (case hc => exact (rSame_con n1 n2 Ai Ak ci ck _ hAi3 hAk3 (by omega) (by omega) rs hrs)); (case hL => (repeat (first | exact pm_nil _ | exact pm_refl _ _ | exact pm_self _ | apply pm_cons | apply pm_app))); (case hsub => (intros; (exact sbT))); rintro _ _ _ - ⟨rfl, rfl, rfl⟩); (apply h_first 50; (case hi => rfl); (case hr => kernel_rfl); (case hfr => kernel_rfl); (case hsel => kernel_rfl); (case hg => rfl); (case hd => rfl); (case he => (apply ev_neq_bb; (case hx => rfl); (case hy => rfl)))); refine Jf 51 ?_; (apply h_end; (case hr => kernel_rfl)))
  (repeat (first | refine Jz ?_ | intro _))
  exact q_back (L' := []) (m' := 4 - (k + 1)) ⟨(((((hs14.trans hs15).trans hs16).trans hs17b).trans hs18).trans hs19).trans hs20, k + 1, rfl, by omega, rfl, rfl⟩ (by omega) sbF sbL
end Go.Proofs.YtcnfchchanlepaaGreat
namespace Go.Proofs.YtcnfchchanlepaaGreat
open Go Go.X
set_option linter.unusedVariables false
theorem rdb_Nd : Rdb (α := Nd) Tryz.prog 51 (fun _ _ => True) := fun H enc w fuel cs x h => by
  have hl : cs.length = 4 := len_s (by kernel_rfl) Tryz.underlying51 h
  match cs, hl with
  | [c0, c1, c2, c3], _ =>
  obtain ⟨a0, e0, o0⟩ := (rdb_int Tryz.underlying3).at_ (part_f 0 h)
  obtain ⟨a1, e1, o1⟩ := (rdb_str Tryz.underlying9).at_ (part_f 1 h)
  obtain ⟨a2, e2, o2⟩ := (rdb_int Tryz.underlying3).at_ (part_f 2 h)
  obtain ⟨a3, e3, o3⟩ := (rdb_int Tryz.underlying3).at_ (part_f 3 h)
  simp [Cl.cells] at e0 e1 e2 e3
  subst e0 e1 e2 e3
  exact ⟨⟨a0, a1.b, a2, a3⟩, rfl, trivial⟩
theorem rdb_Tree : Rdb (α := Sv) Tryz.prog 24 (fun S x => ∃ l : List Nd, x.m = l.length ∧ l.length ≤ x.c ∧ At S x.a l ∧ ∀ y ∈ l, True) := fun H enc w fuel cs x h => by
  have hl : cs.length = 1 := len_s (by kernel_rfl) Tryz.underlying24 h
  match cs, hl with
  | [c0], _ =>
  obtain ⟨a0, e0, o0⟩ := (rdb_slice Tryz.underlying22 (by kernel_rfl) rdb_Nd).at_ (part_f 0 h)
  simp [Cl.cells] at e0
  subst e0
  exact ⟨a0, rfl, o0⟩
theorem open_tree {H : Type} {enc : TypeId × Value → H} {w : World} {cs : Array Value} {d : DataW H} {ps : List MemPlace} (h : DataW.Trod enc Tryz.prog w 0 (fun _ => true) true 24 (.agg cs) d ps) : ∃ (l : List Nd) (A : Option Addr) (c : Nat), cs = #[.slice A l.length c] ∧ l.length ≤ c ∧ At (allOf w) A l := by
  obtain ⟨fuel, hf⟩ := h
  obtain ⟨x, e, l, h1, h2, h3, _⟩ := rdb_Tree.use ⟨_, hf⟩
  obtain ⟨xa, xm, xc⟩ := x
  simp only at h1 h2 h3
  subst h1
  refine ⟨l, xa, xc, ?_, h2, h3⟩
  have e2 : cs.toList = [.slice xa l.length xc] := by simpa [Cl.cells, Value.cells] using e
  exact Array.toList_inj.1 (by rw [e2])
end Go.Proofs.YtcnfchchanlepaaGreat
namespace Go.Proofs.YtcnfchchanlepaaGreat
open Go Go.X
open Go.ChangeShapes Go.WideShapes Go.ChangeAt Go.RowKit
set_option linter.unusedVariables false
set_option maxRecDepth 100000 in
theorem liftedProfileTreesMatchReference (os : Os) (started : os.Started) (H : Type) (enc : TypeId × Value → H) :
    ReturnsInHanded {} Tryz.checked os 3 .any (Rows.profileTreesMatchReferenceSpec.pre6 enc Tryz.prog Tryz.f3 Rows.profileTreesMatchReferenceRow.domain false) (Rows.profileTreesMatchReferenceSpec.post enc Tryz.prog Tryz.f3 false true false false) := by
  refine returnsInHanded_of_change (C := Tryz.checked) own started (by kernel_rfl) Tryz.func3
    (ChangeSpec.witness6 (enc := enc) (C := Tryz.checked) false ⟨#[], #[.agg #[.slice none 0 0], .agg #[.slice none 0 0], .slice none 0 0, .slice none 0 0, .slice none 0 0], []⟩ 8 (by kernel_rfl) (by kernel_rfl) (by kernel_rfl) (by kernel_rfl)) ?_
  intro W base args ds gs before hval0 hW hcnd _
  have hval : ∀ (j : Nat) t v, Tryz.f3.params[j]? = some t → args[j]? = some v → Value.okWide Tryz.prog W .any base t v := hval0
  have hW' := hW
  obtain ⟨p, q, hA0, hV, rfl, hfz, hnd⟩ := hW
  have hA : DataW.TrodAll enc Tryz.prog W 0 (fun _ => true) true Tryz.f3.params.toList args.toList ds p := hA0
  rw [Tryz.params3] at hA hval
  obtain ⟨v0, vs0, d0, ds0, p0, q0, hargs, rfl, rfl, h0, r0⟩ := trodAll_cons hA
  obtain ⟨v1, vs1, d1, ds1, p1, q1, rfl, rfl, rfl, h1, r1⟩ := trodAll_cons r0
  obtain ⟨v2, vs2, d2, ds2, p2, q2, rfl, rfl, rfl, h2, r2⟩ := trodAll_cons r1
  obtain ⟨v3, vs3, d3, ds3, p3, q3, rfl, rfl, rfl, h3, r3⟩ := trodAll_cons r2
  obtain ⟨v4, vs4, d4, ds4, p4, q4, rfl, rfl, rfl, h4, r4⟩ := trodAll_cons r3
  obtain ⟨rfl, rfl, rfl⟩ := trodAll_nil r4
  obtain rfl : args = #[v0, v1, v2, v3, v4] := by cases args; simp_all
  obtain ⟨rfl, rfl⟩ := trodVars_none hV
  have k0 := h0
  have lt0 : ∀ x ∈ p0, x.block < W.heap.size := by obtain ⟨m, hm⟩ := k0; exact DataW.trod_lt m _ _ _ hm
  have k1 := h1
  have lt1 : ∀ x ∈ p1, x.block < W.heap.size := by obtain ⟨m, hm⟩ := k1; exact DataW.trod_lt m _ _ _ hm
  have k2 := h2
  have lt2 : ∀ x ∈ p2, x.block < W.heap.size := by obtain ⟨m, hm⟩ := k2; exact DataW.trod_lt m _ _ _ hm
  have k3 := h3
  have lt3 : ∀ x ∈ p3, x.block < W.heap.size := by obtain ⟨m, hm⟩ := k3; exact DataW.trod_lt m _ _ _ hm
  have k4 := h4
  have lt4 : ∀ x ∈ p4, x.block < W.heap.size := by obtain ⟨m, hm⟩ := k4; exact DataW.trod_lt m _ _ _ hm
  obtain ⟨cs0, rfl, sz0⟩ := okWide_struct Tryz.underlying24 (hval 0 24 v0 rfl rfl)
  obtain ⟨xs0, a0, cap0, rfl, gl0, gA0⟩ := open_tree h0
  obtain ⟨cs1, rfl, sz1⟩ := okWide_struct Tryz.underlying24 (hval 1 24 v1 rfl rfl)
  obtain ⟨xs1, a1, cap1, rfl, gl1, gA1⟩ := open_tree h1
  obtain ⟨a2, len2, cap2, rfl⟩ := okWide_slice Tryz.underlying25 (hval 2 25 v2 rfl rfl)
  obtain ⟨xs2, rfl, gl2, gA2, gx2⟩ := open_sl (α := A3) Tryz.underlying25 (by kernel_rfl) rdb_A3 rfl h2
  obtain ⟨a3, len3, cap3, rfl⟩ := okWide_slice Tryz.underlying26 (hval 3 26 v3 rfl rfl)
  obtain ⟨xs3, rfl, gl3, gA3, gx3⟩ := open_sl (α := A6) Tryz.underlying26 (by kernel_rfl) rdb_A6 rfl h3
  obtain ⟨a4, len4, cap4, rfl⟩ := okWide_slice Tryz.underlying26 (hval 4 26 v4 rfl rfl)
  obtain ⟨xs4, rfl, gl4, gA4, gx4⟩ := open_sl (α := A6) Tryz.underlying26 (by kernel_rfl) rdb_A6 rfl h4
  refine (calls_of_con (trees_law xs0 a0 cap0 xs1 a1 cap1 xs2 a2 cap2 xs3 a3 cap3 xs4 a4 cap4 (allOf W) gA0 gl0 gA1 gl1 gA2 gx2 gA3 gx3 gA4 gx4) fun _ _ _ h => h.2).mono fun e W' ⟨he, bel⟩ => ?_
  subst he
  exact ⟨_, rfl, _, _, _, [], _, [], hW', trodAll_mk1 (shut_bool Tryz.underlying4 _), (trodAll_cons_mk (Below.trod laidOut (by kernel_rfl) (of_decide_eq_true (by kernel_rfl)) k0 bel lt0) (trodAll_cons_mk (Below.trod laidOut (by kernel_rfl) (of_decide_eq_true (by kernel_rfl)) k1 bel lt1) (trodAll_cons_mk (Below.trod laidOut (by kernel_rfl) (of_decide_eq_true (by kernel_rfl)) k2 bel lt2) (trodAll_cons_mk (Below.trod laidOut (by kernel_rfl) (of_decide_eq_true (by kernel_rfl)) k3 bel lt3) (trodAll_cons_mk (Below.trod laidOut (by kernel_rfl) (of_decide_eq_true (by kernel_rfl)) k4 bel lt4) trodAll_mk0))))), rfl, bel.frame _, fun h => by cases h⟩
theorem overProfileTreesMatchReference : Rows.profileTreesMatchReferenceRow.holds Tryz.pinned (OpenSpec.ofChange Rows.profileTreesMatchReferenceSpec) :=
  OpenClaim.holds_of_wide 3 Tryz.f3 rfl rfl rfl rfl rfl rfl rfl ⟨rfl, rfl, rfl, rfl, rfl⟩ rfl rfl rfl rfl rfl (by kernel_rfl) Tryz.func3 (by kernel_rfl)
    (of_decide_eq_true (by kernel_rfl)) (by unfold Func.isWrapper; rw [if_neg (of_decide_eq_false (by kernel_rfl))]; exact ⟨rfl, rfl⟩)
    (fun os started H enc _ => liftedProfileTreesMatchReference os started H enc)
theorem profileTreesMatchReference_holds : Rows.ProfileTreesMatchReferenceSaid := overProfileTreesMatchReference
#print axioms profileTreesMatchReference_holds
end Go.Proofs.YtcnfchchanlepaaGreat
