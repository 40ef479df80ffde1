/- Contracts of functions of this program, each proved by a walk through its code, and plain lemmas on what they compute; on no condition beyond those that each theorem states. -/
import Derived.Test.YtnlfohlngapkfaaGreatDoorBa
import Derived.Test.YtnlfohlngapkfaaGreatDoorXA
import Derived.Test.YtnlfohlngapkfaaGreatDoorPShelf
import Derived.Test.YtnlfohlngapkfaaGreatDoorPFacts
import Derived.Test.YtnlfohlngapkfaaGreatDoorXB
namespace Go.Proofs.YtnlfohlngapkfaaGreatDoor
open Go Go.X
set_option maxRecDepth 10000
set_option linter.unusedVariables false
attribute [local irreducible] Code.wpIn wpListIn Exit.then Exit.inBlock X.Out X.Back X.W X.Ev X.Con X.BinV X.Wh X.Wn X.Wq
abbrev le_ : Int → Int → Bool := fun x y => decide (x ≤ y)
theorem take_at {α : Type} {l : List α} {k : Nat} {x : α} (h : l[k]? = some x) : l.take (k + 1) = l.take k ++ [x] := by rw [List.take_add_one, h]; rfl
theorem at_lt {α : Type} {l : List α} {k : Nat} (h : k < l.length) : ∃ x, l[k]? = some x := ⟨l[k], List.getElem?_eq_getElem h⟩
end Go.Proofs.YtnlfohlngapkfaaGreatDoor
namespace Go.Proofs.YtnlfohlngapkfaaGreatDoor
open Go Go.X
set_option maxRecDepth 10000
set_option linter.unusedVariables false
attribute [local irreducible] Code.wpIn wpListIn Exit.then Exit.inBlock X.Out X.Back X.W X.Ev X.Con X.BinV X.Wh X.Wn X.Wq
/-- What a condition on an int costs and answers: nothing changes. -/
def PredC (f : FuncId) (caps : List Value) (LP : Blocks) (q : Int → Bool) : Prop := ∀ (i : Int) (S : SH), i64 i → Con Tryz.prog f ([Value.int .i64 i] ++ caps).toArray S LP (fun S' L' r => S' = S ∧ L' = LP ∧ r = .bool (q i))
def gone (m : Nat) (i : Int) : Bool := decide (i < 0) || decide ((m : Int) ≤ i)
def FirstAt (q : Int → Bool) (o : List Int) (r : Int) : Prop := (r = -1 ∧ ∀ x ∈ o, q x = false) ∨ ∃ k : Nat, r = k ∧ k < o.length ∧ (∀ x ∈ o.take k, q x = false) ∧ ∀ x, o[k]? = some x → q x = true
end Go.Proofs.YtnlfohlngapkfaaGreatDoor
namespace Go.Proofs.YtnlfohlngapkfaaGreatDoor
open Go Go.X
set_option maxRecDepth 10000
set_option linter.unusedVariables false
attribute [local irreducible] Code.wpIn wpListIn Exit.then Exit.inBlock X.Out X.Back X.W X.Ev X.Con X.BinV X.Wh X.Wn X.Wq
theorem sorted_le {zs : List Int} (h : zs.Pairwise (· ≤ ·)) {i j : Nat} (hij : i ≤ j) (hj : j < zs.length) : zs.toArray[i]! ≤ zs.toArray[j]! := by
  have hi : i < zs.length := by omega
  simp only [List.getElem!_toArray, getElem!_pos zs i hi, getElem!_pos zs j hj]
  rcases Nat.lt_or_eq_of_le hij with hlt | rfl
  · exact List.pairwise_iff_getElem.1 h i j hi hj hlt
  · exact Int.le_refl _
theorem cut_sorted (zs : List Int) (hs : zs.Pairwise (· ≤ ·)) : ∀ m, m ≤ zs.length → (Lib.compactUpTo zs.toArray m).Pairwise (· < ·) ∧ (∀ x, x ∈ Lib.compactUpTo zs.toArray m ↔ ∃ j, j < m ∧ zs.toArray[j]! = x)
  | 0, _ => by simp [Lib.compactUpTo]
  | m + 1, hm => by
    obtain ⟨h1, h2⟩ := cut_sorted zs hs m (by omega)
    rw [Lib.compactUpTo_succ]
    cases hk : Lib.keeps zs.toArray m
    · have hm0 : m ≠ 0 := fun e => by subst e; simp [Lib.keeps] at hk
      have heq : zs.toArray[m]! = zs.toArray[m - 1]! := Classical.byContradiction fun hne => by
        rw [Lib.keeps_pos hne] at hk; cases hk
      simp only [Bool.false_eq_true, if_false, List.append_nil]
      refine ⟨h1, fun x => (h2 x).trans ⟨fun ⟨j, hj, e⟩ => ⟨j, by omega, e⟩, fun ⟨j, hj, e⟩ => ?_⟩⟩
      rcases Nat.lt_or_eq_of_le (Nat.lt_succ_iff.1 hj) with hlt | rfl
      · exact ⟨j, hlt, e⟩
      · exact ⟨j - 1, by omega, heq.symm.trans e⟩
    · simp only [if_true]
      constructor
      · rw [List.pairwise_append]
        refine ⟨h1, by simp, fun x hx y hy => ?_⟩
        simp only [List.mem_singleton] at hy
        subst hy
        obtain ⟨j, hj, rfl⟩ := (h2 x).1 hx
        have hne : zs.toArray[m]! ≠ zs.toArray[m - 1]! := fun e => by
          rw [Lib.keeps_neg (by omega) e] at hk; cases hk
        have a1 := sorted_le hs (show j ≤ m - 1 by omega) (by omega)
        have a2 := sorted_le hs (show m - 1 ≤ m by omega) (by omega)
        omega
      · intro x
        rw [List.mem_append, h2, List.mem_singleton]
        constructor
        · rintro (⟨j, hj, e⟩ | rfl)
          · exact ⟨j, by omega, e⟩
          · exact ⟨m, by omega, rfl⟩
        · rintro ⟨j, hj, e⟩
          rcases Nat.lt_or_eq_of_le (Nat.lt_succ_iff.1 hj) with hlt | rfl
          · exact .inl ⟨j, hlt, e⟩
          · exact .inr e.symm
theorem compact_sorted (zs : List Int) (hs : zs.Pairwise (· ≤ ·)) : (Lib.compact zs).Pairwise (· < ·) ∧ ∀ x, x ∈ Lib.compact zs ↔ x ∈ zs := by
  obtain ⟨h1, h2⟩ := cut_sorted zs hs zs.length (Nat.le_refl _)
  refine ⟨h1, fun x => (h2 x).trans ?_⟩
  rw [List.mem_iff_getElem]
  constructor
  · rintro ⟨j, hj, e⟩; exact ⟨j, hj, by simpa [getElem!_pos zs j hj] using e⟩
  · rintro ⟨j, hj, e⟩; exact ⟨j, hj, by simpa [getElem!_pos zs j hj] using e⟩
theorem sorted_spec (ks : List Int) : (Lib.compact (ks.mergeSort le_)).Pairwise (· < ·) ∧ ∀ x, x ∈ Lib.compact (ks.mergeSort le_) ↔ x ∈ ks := by
  have hs : (ks.mergeSort le_).Pairwise (· ≤ ·) := by
    have := List.pairwise_mergeSort (le := le_) (fun a b c h1 h2 => by simp [le_] at *; omega) (fun a b => by simp [le_]; omega) ks
    exact this.imp fun h => by simpa [le_] using h
  obtain ⟨h1, h2⟩ := compact_sorted _ hs
  exact ⟨h1, fun x => (h2 x).trans (List.mergeSort_perm _ _).mem_iff⟩
def tear (torn : Int) (w : Wr) : Wr := if 0 ≤ torn then ⟨w.off, w.s.take torn.toNat⟩ else w
def survAt (pend : List Wr) (torn : Int) (o : List Int) (k : Nat) : Wr := if k + 1 = o.length then tear torn (pend[(o[k]!).toNat]!) else pend[(o[k]!).toNat]!
def surv (pend : List Wr) (torn : Int) (o : List Int) : List Wr := (List.range o.length).map (survAt pend torn o)
def applyL (B : Bs) (ws : List Wr) : Bs := ws.foldl (fun b w => lset b w.off w.s) B
def orderOf (m : Nat) (keep : List Int) : List Int := (Lib.compact (keep.mergeSort le_)).filter fun i => !gone m i
def crB (D : Dk) (keep : List Int) (torn : Int) : Bs := applyL D.dur (surv D.pend torn (orderOf D.pend.length keep))
def crD (D : Dk) (keep : List Int) (torn : Int) : Dk := ⟨false, 0, crB D keep torn, crB D keep torn, []⟩
theorem applyL_len {N : Nat} : ∀ (ws : List Wr) (B : Bs), B.length = N → (∀ w ∈ ws, w.off + w.s.length ≤ N) → (applyL B ws).length = N
  | [], B, h, _ => h
  | w :: ws, B, h, hw => applyL_len ws (lset B w.off w.s) (by rw [lset_len (by have := hw w List.mem_cons_self; omega), h]) fun x hx => hw x (List.mem_cons_of_mem _ hx)
theorem applyL_snoc (B : Bs) (ws : List Wr) (w : Wr) : applyL B (ws ++ [w]) = lset (applyL B ws) w.off w.s := by simp [applyL]
theorem surv_at (pend : List Wr) (torn : Int) (o : List Int) {k : Nat} (h : k < o.length) : (surv pend torn o)[k]? = some (survAt pend torn o k) := by simp [surv, h]
theorem survAt_eq {pend : List Wr} {torn : Int} {o : List Int} {k : Nat} {x : Int} {w : Wr} (hx : o[k]? = some x) (hw : pend[x.toNat]? = some w) : survAt pend torn o k = if k + 1 = o.length then tear torn w else w := by
  have e1 : o[k]! = x := by rw [List.getElem!_eq_getElem?_getD, hx]; rfl
  have e2 : pend[x.toNat]! = w := by rw [List.getElem!_eq_getElem?_getD, hw]; rfl
  simp [survAt, e1, e2]
end Go.Proofs.YtnlfohlngapkfaaGreatDoor
namespace Go.Proofs.YtnlfohlngapkfaaGreatDoor
open Go Go.X
set_option maxRecDepth 10000
set_option linter.unusedVariables false
attribute [local irreducible] Code.wpIn wpListIn Exit.then Exit.inBlock X.Out X.Back X.W X.Ev X.Con X.BinV X.Wh X.Wn X.Wq
end Go.Proofs.YtnlfohlngapkfaaGreatDoor
namespace Go.Proofs.YtnlfohlngapkfaaGreatDoor
open Go Go.X
set_option maxRecDepth 10000
set_option linter.unusedVariables false
attribute [local irreducible] Code.wpIn wpListIn Exit.then Exit.inBlock X.Out X.Back X.W X.Ev X.Con X.BinV X.Wh X.Wn X.Wq
theorem sorted_ext : ∀ (a b : List Int), a.Pairwise (· < ·) → b.Pairwise (· < ·) → (∀ x, x ∈ a ↔ x ∈ b) → a = b
  | [], b, _, _, h => (List.eq_nil_iff_forall_not_mem.2 fun x hx => by simpa using (h x).2 hx).symm
  | x :: a, [], _, _, h => by have := (h x).1 List.mem_cons_self; simp at this
  | x :: a, y :: b, ha, hb, h => by
    rw [List.pairwise_cons] at ha hb
    have hxy : x = y := Classical.byContradiction fun hne => by
      have h1 := (h x).1 List.mem_cons_self
      have h2 := (h y).2 List.mem_cons_self
      simp only [List.mem_cons] at h1 h2
      rcases h1 with h1 | h1
      · exact hne h1
      rcases h2 with h2 | h2
      · exact hne h2.symm
      have := hb.1 x h1
      have := ha.1 y h2
      omega
    subst hxy
    rw [sorted_ext a b ha.2 hb.2 fun z => ⟨fun hz => ?_, fun hz => ?_⟩]
    · have h1 := (h z).1 (List.mem_cons_of_mem _ hz)
      have h2 := ha.1 z hz
      simp only [List.mem_cons] at h1
      rcases h1 with h1 | h1
      · omega
      · exact h1
    · have h1 := (h z).2 (List.mem_cons_of_mem _ hz)
      have h2 := hb.1 z hz
      simp only [List.mem_cons] at h1
      rcases h1 with h1 | h1
      · omega
      · exact h1
/-- Which of the numbers below m are in a list. -/
def kept (m : Nat) (keep : List Int) : List Nat := (List.range m).filter fun (i : Nat) => decide ((i : Int) ∈ keep)
theorem orderOf_eq (m : Nat) (keep : List Int) : orderOf m keep = (kept m keep).map fun (i : Nat) => (i : Int) := by
  obtain ⟨h1, h2⟩ := sorted_spec keep
  refine sorted_ext _ _ (h1.filter _) ?_ fun x => ?_
  · rw [List.pairwise_map]
    exact (List.pairwise_lt_range.filter _).imp fun h => by omega
  · simp only [orderOf, kept, List.mem_filter, h2, gone, List.mem_map, List.mem_range, decide_eq_true_eq]
    simp only [Bool.not_eq_true', Bool.or_eq_false_iff, decide_eq_false_iff_not]
    constructor
    · rintro ⟨h3, h4, h5⟩
      exact ⟨x.toNat, ⟨by omega, by rw [Int.toNat_of_nonneg (by omega)]; exact h3⟩, by omega⟩
    · rintro ⟨i, ⟨h3, h4⟩, rfl⟩
      exact ⟨h4, by omega, by omega⟩
def tearLast (torn : Int) : List Wr → List Wr
  | [] => []
  | [w] => [tear torn w]
  | w :: v :: r => w :: tearLast torn (v :: r)
theorem tearLast_len (torn : Int) : ∀ ws : List Wr, (tearLast torn ws).length = ws.length
  | [] => rfl
  | [w] => rfl
  | w :: v :: r => by simp only [tearLast, List.length_cons, tearLast_len torn (v :: r)]
theorem tearLast_at (torn : Int) : ∀ (ws : List Wr) (k : Nat) (w : Wr), ws[k]? = some w → (tearLast torn ws)[k]? = some (if k + 1 = ws.length then tear torn w else w)
  | [], k, w, h => by simp at h
  | [v], k, w, h => by
    cases k with
    | zero => simp at h; subst h; simp [tearLast]
    | succ k => simp at h
  | u :: v :: r, k, w, h => by
    cases k with
    | zero => simp at h; subst h; simp [tearLast]
    | succ k =>
      simp only [List.getElem?_cons_succ] at h
      have := tearLast_at torn (v :: r) k w h
      simp only [tearLast, List.getElem?_cons_succ, this, List.length_cons]
      congr 1
      by_cases e : k + 1 = r.length + 1
      · rw [if_pos e, if_pos (by omega)]
      · rw [if_neg e, if_neg (by omega)]
def keepW (pend : List Wr) (keep : List Int) : List Wr := (kept pend.length keep).map fun i => pend[i]!
theorem surv_eq (pend : List Wr) (torn : Int) (keep : List Int) : surv pend torn (orderOf pend.length keep) = tearLast torn (keepW pend keep) := by
  rw [orderOf_eq]
  apply List.ext_getElem?
  intro k
  by_cases hk : k < (kept pend.length keep).length
  · obtain ⟨i, hi⟩ := at_lt hk
    have hm := List.mem_of_getElem? hi
    simp only [kept, List.mem_filter, List.mem_range] at hm
    obtain ⟨w, hw⟩ := at_lt hm.1
    have e2 : pend[i]! = w := by rw [List.getElem!_eq_getElem?_getD, hw]; rfl
    rw [surv_at _ _ _ (by simpa using hk), survAt_eq (x := (i : Int)) (w := w) (by simp [hi]) (by simpa using hw), tearLast_at torn _ k w (by simp [keepW, hi, hw])]
    simp [keepW]
  · rw [List.getElem?_eq_none (by simp [surv]; omega), List.getElem?_eq_none (by rw [tearLast_len]; simp [keepW]; omega)]
theorem crB_eq (D : Dk) (keep : List Int) (torn : Int) : crB D keep torn = applyL D.dur (tearLast torn (keepW D.pend keep)) := by rw [crB, surv_eq]
end Go.Proofs.YtnlfohlngapkfaaGreatDoor
namespace Go.Proofs.YtnlfohlngapkfaaGreatDoor
open Go Go.X
set_option maxRecDepth 10000
set_option linter.unusedVariables false
attribute [local irreducible] Code.wpIn wpListIn Exit.then Exit.inBlock X.Out X.Back X.W X.Ev X.Con X.BinV X.Wh X.Wn X.Wq
theorem groups_con (z : Nat) (S : SH) : Con Tryz.prog 151 #[.int .u64 z] S [] (fun S' L' v => S' = S ∧ ∃ b, v = .func (.func 187) #[] #[.pointer (some ⟨b, 0, none⟩)] ∧ L' = [(b, .cells [.int .u64 z].toArray 180 (0, 0))]) := by
  refine con_of (args := [.int .u64 z]) Tryz.func151 rfl Tryz.ntmps151 rfl fun w => ?_
  (repeat (first | refine Jz ?_ | intro _))
  exact o_ret Tryz.results151 rfl sbL ⟨rfl, _, rfl, rfl⟩
/-- The byte of a group. -/
def gby (z : Nat) : UInt8 := UInt8.ofNat (if z < 128 then z else z % 128 + 128)
theorem enc_gby_lt {z : Nat} (h : z < 128) : enc z = [gby z] := by rw [enc_lt h, gby, if_pos h]
theorem enc_gby_ge {z : Nat} (h : 128 ≤ z) : enc z = gby z :: enc (z / 128) := by rw [enc_ge h, gby, if_neg (by omega)]
theorem groups1_con {l r : Nat} {fn : FuncId} {tmps : Array Value} {ps : Array Tmp} {assign body : Code} (hps : ps.size = 2) (I : Bs → Blocks → Prop) (hI : ∀ x L, I x L → (l, rec0 fn tmps ps assign body r .ready none) ∈ L) (bz : Nat) (S : SH)
    (hR : ∀ x (z : Nat) L, z < 18446744073709551616 → I x L → x.length ≤ 64 → RdR Tryz.prog l fn ((ps.zip #[.int .u8 ((z % 128 : Nat) : Int), .bool (decide (z < 128))]).foldl (fun t (p : Tmp × Value) => t.setIfInBounds p.1 p.2) tmps) assign body S L (fun S' L' => S' = S ∧ I (x ++ [gby z]) L') true)
    (z : Nat) (hz : z < 18446744073709551616) (L0 : Blocks) (h0 : I [] L0) :
    Con Tryz.prog 187 #[.func (.yield l) #[] #[], .pointer (some ⟨bz, 0, none⟩)] S ((bz, .cells [.int .u64 z].toArray 180 (0, 0)) :: L0) (fun S' L' v => S' = S ∧ I (enc z) L') := by
  refine con_of (args := [.func (.yield l) #[] #[], .pointer (some ⟨bz, 0, none⟩)]) Tryz.func187 rfl Tryz.ntmps187 rfl fun w => ?_
  have hz10 : (enc z).length ≤ 10 := enc_len 9 z (Nat.lt_trans hz (by decide))
  (repeat (first | refine Jz ?_ | intro _))
  refine c_loop (fun m S' L F => S' = S ∧ ∃ x L1, enc z = x ++ enc m ∧ m < 18446744073709551616 ∧ I x L1 ∧ L = (bz, .cells [.int .u64 m].toArray 180 (0, 0)) :: L1 ∧
      F = [(0, .func (.yield l) #[] #[]), (1, .pointer (some ⟨bz, 0, none⟩))]) ⟨rfl, [], L0, rfl, hz, h0, rfl, rfl⟩ sbF (List.Sublist.refl _) ?_
  rintro m S' L F ⟨rfl, x, L1, hx, hm, hi, rfl, rfl⟩
  have hxl : x.length ≤ 64 := by
    have := congrArg List.length hx
    rw [List.length_append] at this
    omega
  have hand : BinV Tryz.prog .and .u64 (m : Int) 127 (.int .u64 ((m % 128 : Nat) : Int)) := by
    have := bv_and64 (P := Tryz.prog) (n := 127) hm (by decide)
    rw [show m &&& 127 = m % 128 from Nat.and_two_pow_sub_one_eq_mod m 7] at this
    exact this
  have hshr : (m : Int) / 2 ^ 7 = ((m / 128 : Nat) : Int) := by rw [show (2 : Int) ^ 7 = 128 from rfl]; exact (Int.natCast_ediv m 128).symm
  have hw8 : IntKind.u8.wrap ((m % 128 : Nat) : Int) = ((m % 128 : Nat) : Int) := by rw [wrap_u8]; omega
  by_cases hlt : m < 128
  · have hd : decide (m < 128) = true := decide_eq_true hlt
    have hr := hR x m L1 hm hi hxl
    rw [hd] at hr
    rw [enc_gby_lt hlt] at hx
    (repeat (first | refine Jc ?_ | (apply s_bin; (case hg => rfl); (case hd => rfl); (case hx => rfl); (case hy => rfl); (case hb => exact hand)) | (apply s_evb; (case hg => rfl); (case hd => rfl); (case hn => rfl); (case he => (apply ev_convw; (case hx => rfl); (case hw => exact hw8)))) | (apply s_yieldR; (case hg => rfl); (case hd => rfl); (case hx => rfl); (case ha => rfl); (case hL => exact List.perm_append_comm (l₁ := [_])); (case hm => exact hI _ _ hi); (case hp => exact hps.symm); (case hc => exact hr); rintro S2 L2 ⟨rfl, hi2⟩) | refine Jo ?_ | intro _))
    exact o_ret0 (.inl rfl) Tryz.results187 (List.sublist_append_left _ _) ⟨rfl, by rw [hx]; exact hi2⟩
  · have hd : decide (m < 128) = false := decide_eq_false hlt
    have hr := hR x m L1 hm hi hxl
    rw [hd] at hr
    rw [enc_gby_ge (z := m) (by omega)] at hx
    (repeat (first | refine Jc ?_ | (apply s_bin; (case hg => rfl); (case hd => rfl); (case hx => rfl); (case hy => rfl); (case hb => exact hand)) | (apply s_evb; (case hg => rfl); (case hd => rfl); (case hn => rfl); (case he => (apply ev_convw; (case hx => rfl); (case hw => exact hw8)))) | (apply s_evb; (case hg => rfl); (case hd => rfl); (case hn => rfl); (case he => (apply ev_shr (c := 7); (case hx => rfl); (case hy => rfl); (case hc => decide); (case hr => exact hshr)))) | (apply s_yieldR; (case hg => rfl); (case hd => rfl); (case hx => rfl); (case ha => rfl); (case hL => exact List.perm_append_comm (l₁ := [_])); (case hm => exact hI _ _ hi); (case hp => exact hps.symm); (case hc => exact hr); rintro S2 L2 ⟨rfl, hi2⟩) | refine Jo ?_ | intro _))
    refine W.perm ?_ (List.perm_append_comm (l₂ := [_]))
    exact q_back (m' := m / 128) ⟨rfl, x ++ [gby m], L2, by rw [hx, List.append_assoc]; rfl, by omega, hi2, rfl, rfl⟩ (by omega) sbF (List.Sublist.refl _)
/-- What PutInt answers. -/
def putV (n : Int) : Value := if wOk n then .tuple #[strV (ibs n), .int .i64 0] else .tuple #[strV [], .int .i64 10]
theorem u64_zig {n : Int} (h : wOk n) : ∃ (u u2 v : Nat) (s : Int), IntKind.u64.wrap n = (u : Int) ∧ (u * 2 ^ 1) % 18446744073709551616 = u2 ∧ n / 2 ^ 63 = s ∧ IntKind.u64.wrap s = (v : Int) ∧ u2 < 18446744073709551616 ∧ v < 18446744073709551616 ∧ u2 ^^^ v = zig n := by
  simp only [wrap_u64]
  rw [show (2 : Int) ^ 63 = 9223372036854775808 from rfl]
  unfold wOk at h
  unfold zig
  by_cases h0 : n < 0
  · refine ⟨(18446744073709551616 + n).toNat, (18446744073709551616 + 2 * n).toNat, 18446744073709551615, -1, by omega, by omega, by omega, by omega, by omega, by decide, ?_⟩
    rw [if_pos h0, xor_ones (by omega)]; omega
  · refine ⟨n.toNat, (2 * n).toNat, 0, 0, by omega, by omega, by omega, by omega, by omega, by decide, ?_⟩
    rw [if_neg h0, Nat.xor_zero]
theorem PutInt_con (n : Int) (S : SH) (hn : -9223372036854775808 ≤ n ∧ n ≤ 9223372036854775807) : Con Tryz.prog 124 #[.int .i64 n] S [] (Pure S (putV n)) := by
  refine con_of (args := [.int .i64 n]) Tryz.func124 rfl Tryz.ntmps124 rfl fun w => ?_
  by_cases hw : wOk n
  rotate_left
  · rw [putV, if_neg hw]
    unfold wOk at hw
    by_cases h1 : n < -4611686018427387903
    · (repeat (first | refine Jz ?_ | intro _))
      exact o_ret2 (L' := []) Tryz.results124 rfl rfl (List.nil_sublist _) ⟨rfl, rfl, rfl⟩
    · (repeat (first | refine Jz ?_ | intro _))
      exact o_ret2 (L' := []) Tryz.results124 rfl rfl (List.nil_sublist _) ⟨rfl, rfl, rfl⟩
  rw [putV, if_pos hw]
  have hw' := hw
  unfold wOk at hw'
  obtain ⟨u, u2, v, s, c1, c2, c3, c4, c5, c6, c7⟩ := u64_zig hw
  have hx := bv_xor64 (P := Tryz.prog) c5 c6
  rw [c7] at hx
  (repeat (first | refine Jc ?_ | (apply s_evb; (case hg => rfl); (case hd => rfl); (case hn => rfl); (case he => (apply ev_convw; (case hx => rfl); (case hw => first | exact c1 | exact c4)))) | (apply s_evb; (case hg => rfl); (case hd => rfl); (case hn => rfl); (case he => (apply ev_shlw (c := 1); (case hx => rfl); (case hy => rfl); (case hc => decide); (case hr => exact c2)))) | (apply s_evb; (case hg => rfl); (case hd => rfl); (case hn => rfl); (case he => (apply ev_shr (c := 63); (case hx => rfl); (case hy => rfl); (case hc => decide); (case hr => exact c3)))) | (apply s_bin; (case hg => rfl); (case hd => rfl); (case hx => rfl); (case hy => rfl); (case hb => exact hx)) | ((apply s_call; (case hg => rfl); (case hd => rfl); (case ha => rfl); (case hc => exact groups_con (zig n) _); (case hL => (repeat (first | exact pm_nil _ | exact pm_refl _ _ | exact pm_self _ | apply pm_cons | apply pm_app))); rintro S1 L1 v1 - ⟨rfl, bz, rfl, rfl⟩)) | refine Jo ?_ | intro _))
  rename_i b2
  refine W.trim (F' := [(4, .pointer (some ⟨b2, 0, none⟩)), (20, .func (.func 187) #[] #[.pointer (some ⟨bz, 0, none⟩)])]) (L' := [(bz, .cells [.int .u64 (zig n)].toArray 180 (0, 0)), (b2, .cells [.slice none 0 0].toArray 39 (0, 0))]) sbF sbL ?_
  refine c_rangeFunc (caps := [.pointer (some ⟨bz, 0, none⟩)]) rfl rfl fun r l fn tmps hfm => ?_
  generalize hrec : rec0 fn tmps _ _ _ r LoopState.ready none = o
  obtain ⟨I, hI⟩ : ∃ I : Bs → Blocks → Prop, I = fun x L => ∃ v ob, Ows 5 v x ob ∧ L = (l, o) :: (b2, .cells [v].toArray 39 (0, 0)) :: ob := ⟨_, rfl⟩
  have hmem : ∀ x L, I x L → (l, o) ∈ L := fun x L h => by rw [hI] at h; obtain ⟨v, ob, -, rfl⟩ := h; exact List.mem_cons_self
  rw [← hrec] at hmem
  have hzb := zig_bd hw
  refine ⟨(bz, .cells [.int .u64 (zig n)].toArray 180 (0, 0)) :: (l, o) :: [(b2, .cells [.slice none 0 0].toArray 39 (0, 0))], [(r, .deferred (some []))], fun S' L' v => S' = S1 ∧ I (enc (zig n)) L', ?_, ?_, ?_⟩
  · exact ((List.perm_append_comm (l₁ := [_]) (l₂ := [_, _])).cons _).trans (List.Perm.swap _ _ _)
  · refine groups1_con rfl I hmem bz _ ?_ (zig n) (by omega) _ (by rw [hI]; exact ⟨_, _, Ows.nil 5, rfl⟩)
    intro x z L hz hx hxl
    rw [hI] at hx
    obtain ⟨v, ob, ho, rfl⟩ := hx
    have hfm' := (hfm.put (d := 21) (.int .u8 ((z % 128 : Nat) : Int)) rfl).put (d := 22) (.bool (decide (z < 128))) rfl
    have hfm2 : Fm 33 { tmps := (#[21, 22].zip #[Value.int .u8 ((z % 128 : Nat) : Int), .bool (decide (z < 128))]).foldl (fun t (p : Tmp × Value) => t.setIfInBounds p.1 p.2) tmps, defers := [] } [(22, .bool (decide (z < 128))), (21, .int .u8 ((z % 128 : Nat) : Int)), (4, .pointer (some ⟨b2, 0, none⟩)), (20, .func (.func 187) #[] #[.pointer (some ⟨bz, 0, none⟩)])] := by simpa [Act.put] using hfm'
    rw [← hrec]
    refine rd_ofR hfm2 fun w' => ?_
    by_cases hlt : z < 128
    · rw [decide_eq_true hlt]
      have e : ((z % 128 : Nat) : Int) = ((gby z).toNat : Int) := by rw [gby, if_pos hlt, u8_nat (by omega)]; omega
      rw [e]
      (repeat (first | refine Jz ?_ | intro _))
      apply r_begin
      (repeat (first | refine Jc ?_ | (apply s_append (ms := [gby z]); (case hg => rfl); (case hd => rfl); (case hx => rfl); (case ho => exact ho); (case hL => (repeat (first | exact pm_nil _ | exact pm_refl _ _ | exact pm_self _ | apply pm_cons | apply pm_app))); (case hy => rfl); (case hm => rfl); (case hs => (apply Src.own; (repeat (first | exact List.Mem.head _ | apply List.Mem.tail | apply List.mem_append_right)))); (case hzs => rfl); (case h0 => decide); (case hb => (simp; omega)); (case h63 => (simp; omega)); intro v' ob' ho'; obtain ⟨A', c', rfl⟩ := ho'.form) | refine Jo ?_ | intro _))
      refine W.perm ?_ (List.perm_append_comm.trans (List.Perm.swap _ _ _))
      refine r_end (L' := (b2, .cells [.slice A' (x ++ [gby z]).length c'].toArray 39 (0, 0)) :: ob') ((List.Sublist.refl _).cons _) fun w'' hs => ⟨rfl, S1, _, ⟨rfl, by rw [hI]; exact ⟨_, _, ho', rfl⟩⟩, ?_⟩
      rw [hrec] at hs
      exact hs
    · rw [decide_eq_false hlt]
      have hor : BinV Tryz.prog .or .u8 ((z % 128 : Nat) : Int) 128 (.int .u8 ((gby z).toNat : Int)) := by
        have := bv_or8 (P := Tryz.prog) (m := z % 128) (n := 128) (by omega) (by decide)
        have e : z % 128 ||| 128 = (gby z).toNat := by
          rw [gby, if_neg hlt, u8_nat (by omega), Nat.or_comm]
          have := Nat.two_pow_add_eq_or_of_lt (i := 7) (b := z % 128) (by omega) 1
          rw [show 2 ^ 7 * 1 = 128 from rfl] at this
          rw [← this]; omega
        rw [e] at this
        exact this
      (repeat (first | refine Jz ?_ | intro _))
      apply r_begin
      (repeat (first | refine Jc ?_ | (apply s_bin; (case hg => rfl); (case hd => rfl); (case hx => rfl); (case hy => rfl); (case hb => exact hor)) | (apply s_append (ms := [gby z]); (case hg => rfl); (case hd => rfl); (case hx => rfl); (case ho => exact ho); (case hL => (repeat (first | exact pm_nil _ | exact pm_refl _ _ | exact pm_self _ | apply pm_cons | apply pm_app))); (case hy => rfl); (case hm => rfl); (case hs => (apply Src.own; (repeat (first | exact List.Mem.head _ | apply List.Mem.tail | apply List.mem_append_right)))); (case hzs => rfl); (case h0 => decide); (case hb => (simp; omega)); (case h63 => (simp; omega)); intro v' ob' ho'; obtain ⟨A', c', rfl⟩ := ho'.form) | refine Jo ?_ | intro _))
      refine W.perm ?_ (List.perm_append_comm.trans (List.Perm.swap _ _ _))
      refine r_end (L' := (b2, .cells [.slice A' (x ++ [gby z]).length c'].toArray 39 (0, 0)) :: ob') ((List.Sublist.refl _).cons _) fun w'' hs => ⟨rfl, S1, _, ⟨rfl, by rw [hI]; exact ⟨_, _, ho', rfl⟩⟩, ?_⟩
      rw [hrec] at hs
      exact hs
  · rintro S' L1' v hle ⟨rfl, hi⟩
    rw [hI] at hi
    obtain ⟨v1, ob, ho, rfl⟩ := hi
    rw [← hrec]
    refine ⟨.ready, none, (b2, .cells [v1].toArray 39 (0, 0)) :: (ob ++ [(r, .deferred (some []))]), List.Perm.refl _, by decide, ?_⟩
    obtain ⟨g, cap, tl, rfl, rfl, q1, q2, q3⟩ := ho.rowed (enc_pos _)
    (repeat (first | refine Jc ?_ | (apply s_evb; (case hg => rfl); (case hd => rfl); (case hn => rfl); (case he => (apply ev_str_row; (case hx => rfl); (case hm => (repeat (first | exact List.Mem.head _ | apply List.Mem.tail | apply List.mem_append_right))); (case hk => simp)))) | refine Jo ?_ | intro _))
    refine o_ret2m (L' := []) (L1 := [(b2, .cells [.slice (some ⟨g, 0, none⟩) (enc (zig n)).length cap].toArray 39 (0, 0)), (g, .cells (cellsOf (enc (zig n)) ++ tl).toArray 5 (0, 0))]) Tryz.results124 rfl rfl rfl ?_ (List.nil_sublist _) ⟨rfl, rfl, ?_⟩
    · exact List.perm_append_comm (l₁ := [_, _]) (l₂ := [_])
    · rw [List.drop_zero, List.take_length]; rfl
end Go.Proofs.YtnlfohlngapkfaaGreatDoor
namespace Go.Proofs.YtnlfohlngapkfaaGreatDoor
open Go Go.X
set_option maxRecDepth 10000
set_option linter.unusedVariables false
attribute [local irreducible] Code.wpIn wpListIn Exit.then Exit.inBlock X.Out X.Back X.W X.Ev X.Con X.BinV X.Wh X.Wn X.Wq
/-- What Int answers. -/
def intV (s : Bs) (at_ : Int) : Value :=
  if at_ < 0 ∨ (s.length : Int) < at_ then .tuple #[.int .i64 0, .int .i64 0, .int .i64 2]
  else match decI (s.drop at_.toNat) with
    | none => .tuple #[.int .i64 0, .int .i64 0, .int .i64 10]
    | some (n, k) => .tuple #[.int .i64 n, .int .i64 (at_ + k), .int .i64 0]
theorem pow128 (i : Nat) : 128 ^ i = 2 ^ (7 * i) := by rw [Nat.pow_mul]
theorem pow128_le {i : Nat} (h : i ≤ 8) : 128 ^ i ≤ 72057594037927936 := Nat.le_trans (Nat.pow_le_pow_right (by decide) h) (by decide)
/-- One more group. -/
theorem val_step {z m i : Nat} (hz : z < 128 ^ i) (hm : m < 128) (hi : i ≤ 8) : m * 2 ^ (7 * i) < 18446744073709551616 ∧ z ||| m * 2 ^ (7 * i) = z + m * 128 ^ i ∧ z + m * 128 ^ i < 9223372036854775808 ∧ z < 18446744073709551616 ∧ z + m * 128 ^ i < 128 ^ (i + 1) := by
  have h1 := pow128_le hi
  have h2 : m * 128 ^ i ≤ 127 * 128 ^ i := Nat.mul_le_mul_right _ (by omega)
  rw [← pow128]
  refine ⟨by omega, ?_, by omega, by omega, by rw [Nat.pow_succ]; omega⟩
  have := Nat.two_pow_add_eq_or_of_lt (i := 7 * i) (b := z) (by rw [← pow128]; exact hz) m
  rw [← pow128, Nat.mul_comm] at this
  rw [Nat.or_comm, ← this, Nat.add_comm]
set_option maxHeartbeats 1600000 in
theorem Int_con (s : Bs) (at_ : Int) (S : SH) (hs : s.length ≤ 9223372036854775807) : Con Tryz.prog 171 #[strV s, .int .i64 at_] S [] (Pure S (intV s at_)) := by
  refine con_of (args := [strV s, .int .i64 at_]) Tryz.func171 rfl Tryz.ntmps171 rfl fun w => ?_
  by_cases h1 : at_ < 0
  · rw [intV, if_pos (.inl h1)]
    (repeat (first | refine Jz ?_ | intro _))
    exact o_ret3 (L' := []) Tryz.results171 rfl rfl rfl (List.nil_sublist _) ⟨rfl, rfl, rfl⟩
  by_cases h2 : (s.length : Int) < at_
  · rw [intV, if_pos (.inr h2)]
    (repeat (first | refine Jc ?_ | (apply s_evb; (case hg => rfl); (case hd => rfl); (case hn => rfl); (case he => (apply ev_len_b; rfl))) | refine Jo ?_ | intro _))
    exact o_ret3 (L' := []) Tryz.results171 rfl rfl rfl (List.nil_sublist _) ⟨rfl, rfl, rfl⟩
  obtain ⟨p, rfl⟩ : ∃ p : Nat, at_ = p := ⟨at_.toNat, by omega⟩
  rw [intV, if_neg (by omega), Int.toNat_natCast]
  (repeat (first | refine Jc ?_ | (apply s_evb; (case hg => rfl); (case hd => rfl); (case hn => rfl); (case he => (apply ev_len_b; rfl))) | refine Jo ?_ | intro _))
  generalize hl : s.drop p = l
  have hll : l.length = s.length - p := by rw [← hl, List.length_drop]
  have hat : ∀ i, l[i]? = s[p + i]? := fun i => by rw [← hl, List.getElem?_drop]
  refine c_loop (fun m S' L F => S' = S ∧ ∃ i z : Nat, m = 9 - i ∧ i ≤ 9 ∧ i ≤ l.length ∧ (∀ c ∈ l.take i, 128 ≤ c.toNat) ∧ z = val (l.take i) ∧ z < 128 ^ i ∧ L = [] ∧
      F = [(19, .int .i64 i), (7, .int .u64 z), (0, strV s), (1, .int .i64 p)]) ⟨rfl, 0, 0, rfl, by omega, by omega, by simp, by simp [val], by simp, rfl, rfl⟩ sbF sbL ?_
  rintro m S' L F ⟨rfl, i, z, rfl, hi9, hil, hhi, hz, hzl, rfl, rfl⟩
  by_cases h9 : i < 9
  rotate_left
  · rw [decI_none hhi (.inl (by omega))]
    (repeat (first | refine Jz ?_ | intro _))
    exact o_ret3 (L' := []) Tryz.results171 rfl rfl rfl (List.nil_sublist _) ⟨rfl, rfl, rfl⟩
  by_cases hlt : p + i < s.length
  rotate_left
  · rw [decI_none hhi (.inr (by omega))]
    (repeat (first | refine Jc ?_ | (apply s_evb; (case hg => rfl); (case hd => rfl); (case hn => rfl); (case he => (apply ev_len_b; rfl))) | refine Jo ?_ | intro _))
    exact o_ret3 (L' := []) Tryz.results171 rfl rfl rfl (List.nil_sublist _) ⟨rfl, rfl, rfl⟩
  obtain ⟨b, hb⟩ : ∃ b, s[p + i]? = some b := ⟨s[p + i], List.getElem?_eq_getElem hlt⟩
  have hbl : l[i]? = some b := by rw [hat, hb]
  have hb256 := b.toNat_lt
  obtain ⟨v1, v2, v3, v4, v5⟩ := val_step hzl (m := b.toNat % 128) (by omega) (show i ≤ 8 by omega)
  have hand : BinV Tryz.prog .and .u8 (b.toNat : Int) 127 (.int .u8 ((b.toNat % 128 : Nat) : Int)) := by
    have := bv_and8 (P := Tryz.prog) (m := b.toNat) (n := 127) (by omega) (by decide)
    rw [show b.toNat &&& 127 = b.toNat % 128 from Nat.and_two_pow_sub_one_eq_mod _ 7] at this
    exact this
  have hw1 : IntKind.u64.wrap ((b.toNat % 128 : Nat) : Int) = ((b.toNat % 128 : Nat) : Int) := wrap_u64_in (by omega)
  have hor : BinV Tryz.prog .or .u64 (z : Int) ((b.toNat % 128 * 2 ^ (7 * i) : Nat) : Int) (.int .u64 ((z + b.toNat % 128 * 128 ^ i : Nat) : Int)) := by
    have := bv_or64 (P := Tryz.prog) v4 v1
    rw [v2] at this
    exact this
  have htk : l.take (i + 1) = l.take i ++ [b] := by rw [List.take_add_one, hbl]; rfl
  have hlen : (l.take i).length = i := by rw [List.length_take]; omega
  have hz2 : z + b.toNat % 128 * 128 ^ i = val (l.take (i + 1)) := by rw [htk, val_snoc, hlen, ← hz]
  have hlast := fun h => decI_last (l := l) hhi h9 hbl h _ (by rw [← hz])
  generalize z + b.toNat % 128 * 128 ^ i = y at *
  have hand1 : BinV Tryz.prog .and .u64 (y : Int) 1 (.int .u64 ((y % 2 : Nat) : Int)) := by
    have := bv_and64 (P := Tryz.prog) (m := y) (n := 1) (by omega) (by decide)
    rw [Nat.and_one_is_mod] at this
    exact this
  have hsh : (y : Int) / 2 ^ 1 = ((y / 2 : Nat) : Int) := by rw [show (2 : Int) ^ 1 = 2 from rfl]; exact (Int.natCast_ediv y 2).symm
  have hw2 : IntKind.i64.wrap ((y / 2 : Nat) : Int) = ((y / 2 : Nat) : Int) := w64_in (by omega)
  have hw3 : IntKind.i64.wrap ((y % 2 : Nat) : Int) = ((y % 2 : Nat) : Int) := w64_in (by omega)
  by_cases hhb : 128 ≤ b.toNat
  · (repeat (first | refine Jc ?_ | (apply s_evb; (case hg => rfl); (case hd => rfl); (case hn => rfl); (case he => (apply ev_len_b; rfl))) | (apply s_evb; (case hg => rfl); (case hd => rfl); (case hn => rfl); (case he => ((apply ev_index_b (k := p + i); (case hx => rfl); (case hi => rfl); (case hu => exact hb))))) | (apply s_bin; (case hg => rfl); (case hd => rfl); (case hx => rfl); (case hy => rfl); (case hb => first | exact hand | exact hor | exact hand1)) | (apply s_evb; (case hg => rfl); (case hd => rfl); (case hn => rfl); (case he => (apply ev_convw; (case hx => rfl); (case hw => first | exact hw1 | exact hw2 | exact hw3)))) | (apply s_evb; (case hg => rfl); (case hd => rfl); (case hn => rfl); (case he => (apply ev_shl64 (c := 7 * i); (case hx => rfl); (case hy => rfl); (case hc => omega); (case h => exact v1)))) | (apply s_evb; (case hg => rfl); (case hd => rfl); (case hn => rfl); (case he => (apply ev_shr (c := 1); (case hx => rfl); (case hy => rfl); (case hc => decide); (case hr => exact hsh)))) | refine Jo ?_ | intro _))
    refine q_back (m' := 9 - (i + 1)) ⟨rfl, i + 1, y, rfl, by omega, by omega, ?_, hz2, v5, rfl, rfl⟩ (by omega) sbF sbL
    intro c hc
    rw [htk] at hc
    rcases List.mem_append.1 hc with hc | hc
    · exact hhi c hc
    · rw [List.mem_singleton.1 hc]; exact hhb
  rw [hlast (by omega)]
  have hub : -4611686018427387904 ≤ unzig y ∧ unzig y ≤ 4611686018427387903 := by unfold unzig; split <;> omega
  have hxor : BinV Tryz.prog .xor .i64 ((y / 2 : Nat) : Int) (-((y % 2 : Nat) : Int)) (.int .i64 (unzig y)) := by
    unfold unzig
    by_cases h : y % 2 = 1
    · rw [if_pos h, h, show -((y / 2 : Nat) : Int) - 1 = -1 - ((y / 2 : Nat) : Int) by omega]
      exact bv_xor_m1 (by omega)
    · rw [if_neg h, show y % 2 = 0 by omega]
      exact bv_xor_0 (by omega)
  generalize unzig y = n at *
  by_cases hb0 : b.toNat = 0 <;> by_cases hi0 : 0 < i <;> by_cases hn : n < -4611686018427387903
  all_goals first | rw [if_pos ⟨by omega, by unfold wOk; omega⟩] | rw [if_neg (fun h => by have := h.1; have := h.2; unfold wOk at this; omega)]
  all_goals (repeat (first | refine Jc ?_ | (apply s_evb; (case hg => rfl); (case hd => rfl); (case hn => rfl); (case he => (apply ev_len_b; rfl))) | (apply s_evb; (case hg => rfl); (case hd => rfl); (case hn => rfl); (case he => ((apply ev_index_b (k := p + i); (case hx => rfl); (case hi => rfl); (case hu => exact hb))))) | (apply s_bin; (case hg => rfl); (case hd => rfl); (case hx => rfl); (case hy => rfl); (case hb => first | exact hand | exact hor | exact hand1 | exact hxor)) | (apply s_evb; (case hg => rfl); (case hd => rfl); (case hn => rfl); (case he => (apply ev_convw; (case hx => rfl); (case hw => first | exact hw1 | exact hw2 | exact hw3)))) | (apply s_evb; (case hg => rfl); (case hd => rfl); (case hn => rfl); (case he => (apply ev_shl64 (c := 7 * i); (case hx => rfl); (case hy => rfl); (case hc => omega); (case h => exact v1)))) | (apply s_evb; (case hg => rfl); (case hd => rfl); (case hn => rfl); (case he => (apply ev_shr (c := 1); (case hx => rfl); (case hy => rfl); (case hc => decide); (case hr => exact hsh)))) | refine Jo ?_ | intro _))
  all_goals first | exact o_ret3 (L' := []) Tryz.results171 rfl rfl rfl (List.nil_sublist _) ⟨rfl, rfl, rfl⟩ | exact o_ret3 (L' := []) Tryz.results171 rfl rfl rfl (List.nil_sublist _) ⟨rfl, rfl, by simp only [Int.natCast_add]; rw [← Int.add_assoc]; rfl⟩
end Go.Proofs.YtnlfohlngapkfaaGreatDoor
namespace Go.Proofs.YtnlfohlngapkfaaGreatDoor
open Go Go.X
set_option maxRecDepth 10000
set_option linter.unusedVariables false
attribute [local irreducible] Code.wpIn wpListIn Exit.then Exit.inBlock X.Out X.Back X.W X.Ev X.Con X.BinV X.Wh X.Wn X.Wq
/-- How a string is stored. -/
def stw (s : Bs) : Bs := ibs s.length ++ s
def putSV (s : Bs) : Value := if s.length ≤ 65536 then .tuple #[strV (stw s), .int .i64 0] else .tuple #[strV [], .int .i64 10]
/-- The stored string at the beginning, and how long it is as stored. -/
def decS (l : Bs) : Option (Bs × Nat) := match decI l with
  | none => none
  | some (n, k) => if 0 ≤ n ∧ n ≤ 65536 ∧ k + n.toNat ≤ l.length then some ((l.drop k).take n.toNat, k + n.toNat) else none
def strgV (s : Bs) (at_ : Int) : Value :=
  if at_ < 0 ∨ (s.length : Int) < at_ then .tuple #[strV [], .int .i64 0, .int .i64 2]
  else match decS (s.drop at_.toNat) with
    | none => .tuple #[strV [], .int .i64 0, .int .i64 10]
    | some (r, k) => .tuple #[strV r, .int .i64 (at_ + k), .int .i64 0]
theorem PutString_con (s : Bs) (S : SH) (hs : s.length ≤ 9223372036854775807) : Con Tryz.prog 94 #[strV s] S [] (Pure S (putSV s)) := by
  refine con_of (args := [strV s]) Tryz.func94 rfl Tryz.ntmps94 rfl fun w => ?_
  by_cases h : s.length ≤ 65536
  · have hw : wOk (s.length : Int) := by unfold wOk; omega
    have hl := ibs_len hw
    have hc : Con Tryz.prog 124 #[.int .i64 (s.length : Int)] S [] (Pure S (.tuple #[strV (ibs s.length), .int .i64 0])) := (PutInt_con (s.length : Int) S (by omega)).eq (if_pos hw)
    (repeat (first | refine Jc ?_ | (apply s_evb; (case hg => rfl); (case hd => rfl); (case hn => rfl); (case he => (apply ev_len_b; rfl))) | ((apply z_call; rfl; rfl; rfl; exact hc; rintro _ _ _ - ⟨rfl, rfl, rfl⟩)) | (apply s_evb; (case hg => rfl); (case hd => rfl); (case hn => rfl); (case he => ((apply ev_add_bs; (case hx => rfl); (case hy => rfl); (case h => omega))))) | refine Jo ?_ | intro _))
    exact o_ret2 Tryz.results94 rfl rfl (List.nil_sublist _) ⟨rfl, rfl, (if_pos h).symm⟩
  · (repeat (first | refine Jc ?_ | (apply s_evb; (case hg => rfl); (case hd => rfl); (case hn => rfl); (case he => (apply ev_len_b; rfl))) | refine Jo ?_ | intro _))
    exact o_ret2 Tryz.results94 rfl rfl (List.nil_sublist _) ⟨rfl, rfl, (if_neg h).symm⟩
theorem wString_con (s : Bs) (at_ : Int) (S : SH) (hs : s.length ≤ 4611686018427387903) : Con Tryz.prog 141 #[strV s, .int .i64 at_] S [] (Pure S (strgV s at_)) := by
  refine con_of (args := [strV s, .int .i64 at_]) Tryz.func141 rfl Tryz.ntmps141 rfl fun w => ?_
  have hi := Int_con s at_ S (by omega)
  by_cases h : at_ < 0 ∨ (s.length : Int) < at_
  · have hc := hi.eq (v' := .tuple #[.int .i64 0, .int .i64 0, .int .i64 2]) (if_pos h)
    (repeat (first | refine Jc ?_ | ((apply z_call; rfl; rfl; rfl; exact hc; rintro _ _ _ - ⟨rfl, rfl, rfl⟩)) | refine Jo ?_ | intro _))
    exact o_ret3 Tryz.results141 rfl rfl rfl (List.nil_sublist _) ⟨rfl, rfl, (if_pos h).symm⟩
  obtain ⟨p, rfl⟩ : ∃ p : Nat, at_ = (p : Int) := ⟨at_.toNat, by omega⟩
  have hp : p ≤ s.length := by omega
  have e0 : ((p : Int)).toNat = p := Int.toNat_natCast p
  have hsv : strgV s p = match decS (s.drop p) with
    | none => .tuple #[strV [], .int .i64 0, .int .i64 10]
    | some (r, k) => .tuple #[strV r, .int .i64 ((p : Int) + k), .int .i64 0] := by rw [strgV, if_neg h, e0]
  have hiv : intV s p = match decI (s.drop p) with
    | none => .tuple #[.int .i64 0, .int .i64 0, .int .i64 10]
    | some (n, k) => .tuple #[.int .i64 n, .int .i64 ((p : Int) + k), .int .i64 0] := by rw [intV, if_neg h, e0] <;> (cases decI (s.drop p) <;> rfl)
  rw [hsv]
  rcases hd : decI (s.drop p) with _ | ⟨n, k⟩
  · have hc := hi.eq (v' := .tuple #[.int .i64 0, .int .i64 0, .int .i64 10]) (by rw [hiv, hd])
    have hds : decS (s.drop p) = none := by rw [decS, hd]
    rw [hds]
    (repeat (first | refine Jc ?_ | ((apply z_call; rfl; rfl; rfl; exact hc; rintro _ _ _ - ⟨rfl, rfl, rfl⟩)) | refine Jo ?_ | intro _))
    exact o_ret3 Tryz.results141 rfl rfl rfl (List.nil_sublist _) ⟨rfl, rfl, rfl⟩
  have hc := hi.eq (v' := .tuple #[.int .i64 n, .int .i64 ((p : Int) + k), .int .i64 0]) (by rw [hiv, hd])
  have hk : k ≤ (s.drop p).length := by
    obtain ⟨-, h2, h3⟩ := (decI_iff _ _ _).1 hd
    have := congrArg List.length h3
    rw [List.length_take, ← h2] at this
    omega
  rw [List.length_drop] at hk
  by_cases hg : 0 ≤ n ∧ n ≤ 65536 ∧ k + n.toNat ≤ (s.drop p).length
  · have hds : decS (s.drop p) = some (((s.drop p).drop k).take n.toNat, k + n.toNat) := by rw [decS, hd]; exact if_pos hg
    rw [hds]
    obtain ⟨m, rfl⟩ : ∃ m : Nat, n = (m : Int) := ⟨n.toNat, by omega⟩
    rw [Int.toNat_natCast, List.length_drop] at hg
    rw [Int.toNat_natCast]
    have e1 : (s.take (p + k + m)).drop (p + k) = ((s.drop p).drop k).take m := by rw [List.drop_drop, List.drop_take]; congr 1; omega
    (repeat (first | refine Jc ?_ | (apply s_evb; (case hg => rfl); (case hd => rfl); (case hn => rfl); (case he => (apply ev_len_b; rfl))) | ((apply z_call; rfl; rfl; rfl; exact hc; rintro _ _ _ - ⟨rfl, rfl, rfl⟩)) | (apply s_evb; (case hg => rfl); (case hd => rfl); (case hn => rfl); (case he => ((apply ev_slice_b (i := p + k) (j := p + k + m); (case hx => rfl); (case hy => rfl); (case hz => rfl); (case hj => omega))))) | refine Jo ?_ | intro _))
    rw [e1]
    refine o_ret3 Tryz.results141 rfl rfl rfl (List.nil_sublist _) ⟨rfl, rfl, ?_⟩
    rw [show (p : Int) + (k : Int) + (m : Int) = (p : Int) + ((k + m : Nat) : Int) by omega]
  · have hds : decS (s.drop p) = none := by rw [decS, hd]; exact if_neg hg
    rw [hds]
    rw [List.length_drop] at hg
    by_cases g1 : n < 0
    · (repeat (first | refine Jc ?_ | (apply s_evb; (case hg => rfl); (case hd => rfl); (case hn => rfl); (case he => (apply ev_len_b; rfl))) | ((apply z_call; rfl; rfl; rfl; exact hc; rintro _ _ _ - ⟨rfl, rfl, rfl⟩)) | refine Jo ?_ | intro _))
      exact o_ret3 Tryz.results141 rfl rfl rfl (List.nil_sublist _) ⟨rfl, rfl, rfl⟩
    by_cases g2 : 65536 < n
    · (repeat (first | refine Jc ?_ | (apply s_evb; (case hg => rfl); (case hd => rfl); (case hn => rfl); (case he => (apply ev_len_b; rfl))) | ((apply z_call; rfl; rfl; rfl; exact hc; rintro _ _ _ - ⟨rfl, rfl, rfl⟩)) | refine Jo ?_ | intro _))
      exact o_ret3 Tryz.results141 rfl rfl rfl (List.nil_sublist _) ⟨rfl, rfl, rfl⟩
    · (repeat (first | refine Jc ?_ | (apply s_evb; (case hg => rfl); (case hd => rfl); (case hn => rfl); (case he => (apply ev_len_b; rfl))) | ((apply z_call; rfl; rfl; rfl; exact hc; rintro _ _ _ - ⟨rfl, rfl, rfl⟩)) | refine Jo ?_ | intro _))
      exact o_ret3 Tryz.results141 rfl rfl rfl (List.nil_sublist _) ⟨rfl, rfl, rfl⟩
end Go.Proofs.YtnlfohlngapkfaaGreatDoor
namespace Go.Proofs.YtnlfohlngapkfaaGreatDoor
open Go Go.X
set_option maxRecDepth 10000
set_option linter.unusedVariables false
attribute [local irreducible] Code.wpIn wpListIn Exit.then Exit.inBlock X.Out X.Back X.W X.Ev X.Con X.BinV X.Wh X.Wn X.Wq
instance ptrBuilder : Ptr Tryz.prog 94 := ⟨by kernel_rfl⟩
theorem extNoEscape : Ext Tryz.prog 135 Extern.AbiNoEscape.same := ⟨fun args w => run_callFunc_extern Tryz.func135 (by kernel_rfl) (by kernel_rfl) (by kernel_rfl) (by kernel_rfl) args w⟩
theorem copyCheck_con (b : Nat) (p v : Value) (S : SH) (hp : p = .pointer none ∨ p = .pointer (some ⟨b, 0, none⟩)) :
    Con Tryz.prog 92 #[.pointer (some ⟨b, 0, none⟩)] S [(b, .cells [p, v].toArray 96 (0, 0))] (fun S' L' r => S' = S ∧ r = .tuple #[] ∧ L' = [(b, .cells [.pointer (some ⟨b, 0, none⟩), v].toArray 96 (0, 0))]) := by
  refine con_of (args := [.pointer (some ⟨b, 0, none⟩)]) Tryz.func92 rfl Tryz.ntmps92 rfl fun w => ?_
  rcases hp with rfl | rfl
  · (repeat (first | refine Jc ?_ | (apply s_evb; (case hg => rfl); (case hd => rfl); (case hn => rfl); (case he => (apply ev_nilCheck; rfl))) | (apply s_evb; (case hg => rfl); (case hd => rfl); (case hn => rfl); (case he => (apply ev_eql_p; (case hx => rfl); (case hy => rfl)))) | (apply s_evb; (case hg => rfl); (case hd => rfl); (case hn => rfl); (case he => (apply ev_neq_p; (case hx => rfl); (case hy => rfl)))) | (apply s_evb; (case hg => rfl); (case hd => rfl); (case hn => rfl); (case he => (apply ev_to_unsafe (t := 96) (sz := 2); (case hs => exact Tryz.underlying94); (case hd => exact Tryz.underlying201); (case ht => kernel_rfl); (case hz => decide); (case hx => rfl); (case hm => (repeat (first | exact List.Mem.head _ | apply List.Mem.tail | apply List.mem_append_right))); (case h0 => exact Nat.zero_lt_succ _)))) | (apply s_evb; (case hg => rfl); (case hd => rfl); (case hn => rfl); (case he => (apply ev_noEscape extNoEscape; rfl))) | (apply s_evb; (case hg => rfl); (case hd => rfl); (case hn => rfl); (case he => (apply ev_from_unsafe (u := 96) (sz := 2); (case hs => exact Tryz.underlying201); (case hd => exact Tryz.underlying94); (case hu => kernel_rfl); (case hx => rfl); (case hm => (repeat (first | exact List.Mem.head _ | apply List.Mem.tail | apply List.mem_append_right))); (case hl => kernel_rfl)))) | refine Jo ?_ | intro _))
    exact o_ret0 (.inr rfl) Tryz.results92 (List.Sublist.refl _) ⟨rfl, rfl, rfl⟩
  · (repeat (first | refine Jc ?_ | (apply s_evb; (case hg => rfl); (case hd => rfl); (case hn => rfl); (case he => (apply ev_nilCheck; rfl))) | (apply s_evb; (case hg => rfl); (case hd => rfl); (case hn => rfl); (case he => (apply ev_eql_p; (case hx => rfl); (case hy => rfl)))) | (apply s_evb; (case hg => rfl); (case hd => rfl); (case hn => rfl); (case he => (apply ev_neq_pp (te := 96) (sz := 2); (case hT => exact Tryz.underlying94); (case hz => kernel_rfl); (case hx => rfl); (case hy => rfl)))) | refine Jo ?_ | intro _))
    exact o_ret0 (.inr rfl) Tryz.results92 (List.Sublist.refl _) ⟨rfl, rfl, rfl⟩
/-- A strings.Builder of the call's own, and what it holds. -/
def OwB (b : Nat) (l : Bs) (L : Blocks) : Prop := ∃ p v ob, L = (b, .cells [p, v].toArray 96 (0, 0)) :: ob ∧ (p = .pointer none ∨ p = .pointer (some ⟨b, 0, none⟩)) ∧ Ows 5 v l ob
theorem OwB.new (b : Nat) : OwB b [] [(b, .cells [.pointer none, .slice none 0 0].toArray 96 (0, 0))] := ⟨_, _, [], rfl, .inl rfl, Ows.nil _⟩
theorem WriteString_con {b : Nat} {l s : Bs} {L : Blocks} (h : OwB b l L) (S : SH) (hl : l.length + s.length ≤ 1000000000000) :
    Con Tryz.prog 45 #[.pointer (some ⟨b, 0, none⟩), strV s] S L (fun S' L' r => S' = S ∧ OwB b (l ++ s) L') := by
  obtain ⟨p, v, ob, rfl, hp, ho⟩ := h
  refine con_of (args := [.pointer (some ⟨b, 0, none⟩), strV s]) Tryz.func45 rfl Tryz.ntmps45 rfl fun w => ?_
  obtain ⟨A, c, rfl⟩ := ho.form
  (repeat (first | refine Jc ?_ | (apply s_call (L2 := ob); (case hg => rfl); (case hd => rfl); (case ha => rfl); (case hc => exact copyCheck_con b p (.slice A l.length c) S hp); (case hL => exact List.Perm.refl _); rintro S2 L2 v2 hle2 ⟨rfl, rfl, rfl⟩) | (apply s_evb; (case hg => rfl); (case hd => rfl); (case hn => rfl); (case he => (apply ev_nilCheck; rfl))) | (apply s_append_s; (case hg => rfl); (case hd => rfl); (case hx => rfl); (case ho => exact ho); (case hL => exact (List.perm_append_comm (l₁ := [_]))); (case hy => rfl); (case hb => exact hl); intro v3 ob3 ho3; obtain ⟨A3, c3, rfl⟩ := ho3.form) | (apply s_evb; (case hg => rfl); (case hd => rfl); (case hn => rfl); (case he => (apply ev_len_b; rfl))) | refine Jo ?_ | intro _))
  refine W.perm ?_ (List.perm_append_comm (l₂ := [_]))
  exact o_ret2 Tryz.results45 rfl rfl (List.Sublist.refl _) ⟨rfl, _, _, ob3, rfl, .inr rfl, ho3⟩
theorem String_con {b : Nat} {l : Bs} {L : Blocks} (h : OwB b l L) (S : SH) (h0 : l ≠ []) (hl : l.length ≤ 1000000000000) :
    Con Tryz.prog 47 #[.pointer (some ⟨b, 0, none⟩)] S L (fun S' L' r => S' = S ∧ L' = [] ∧ r = strV l) := by
  obtain ⟨p, v, ob, rfl, hp, ho⟩ := h
  refine con_of (args := [.pointer (some ⟨b, 0, none⟩)]) Tryz.func47 rfl Tryz.ntmps47 rfl fun w => ?_
  have hpos : 0 < l.length := by cases l with | nil => exact absurd rfl h0 | cons x r => simp
  rcases ho with ⟨rfl, rfl, rfl⟩ | ⟨gb, cap, cur, rfl, rfl, h1, h2, h3, h4⟩
  · exact absurd rfl h0
  have hone : Cl.size UInt8 = 1 := rfl
  rw [hone, Nat.mul_one] at h3 h4
  (repeat (first | refine Jz ?_ | intro _))
  ((apply c_held ([(b, .cells [p, .slice (some ⟨gb, 0, none⟩) l.length cap].toArray 96 (0, 0))]); (case hL => (exact sbT))); refine Jf 0 ?_; refine Jf 1 ?_; refine Jf 2 ?_; refine Jf 3 ?_; (apply h_first 4; (case hi => rfl); (case hr => kernel_rfl); (case hfr => kernel_rfl); (case hsel => kernel_rfl); (case hg => rfl); (case hd => rfl); (case he => (apply ev_sliceData; (case hx => rfl); (case hc => omega)))); refine Jf 5 ?_; refine Jf 6 ?_; refine Jf 7 ?_; refine Jf 8 ?_; refine Jf 9 ?_; (apply h_one 10; (case hr => kernel_rfl)); (apply n_unsafeString (l := l); (case hi => rfl); (case hp => exact Tryz.underlying165); (case hc1 => kernel_rfl); (case hg => rfl); (case hd => rfl); (case hx => rfl); (case hy => rfl); (case hL => exact List.Perm.swap _ _ _); (case h0 => exact h0); (case hcap => omega); (case h63 => omega); (case ht => exact h4); (case hsub => exact List.Sublist.refl _)); refine Jf 11 ?_; (apply h_end; (case hr => kernel_rfl)))
  (repeat (first | refine Jz ?_ | intro _))
  exact o_ret Tryz.results47 rfl (List.nil_sublist _) ⟨rfl, rfl, rfl⟩
theorem extMakeNoZero : Ext Tryz.prog 211 (Extern.BytealgMakeNoZero.makeNoZero #[3] #[39]) := ⟨fun args w => run_callFunc_extern Tryz.func211 (by kernel_rfl) (by kernel_rfl) (by kernel_rfl) (by kernel_rfl) args w⟩
theorem grow_con (b m : Nat) (p : Value) (S : SH) (h1 : 1 ≤ m) (h2 : m ≤ 1000000000000) (hp : p = .pointer none ∨ p = .pointer (some ⟨b, 0, none⟩)) :
    Con Tryz.prog 195 #[.pointer (some ⟨b, 0, none⟩), .int .i64 m] S [(b, .cells [p, .slice none 0 0].toArray 96 (0, 0))] (fun S' L' r => S' = S ∧ OwB b [] L' ∧ r = .tuple #[]) := by
  refine con_of (args := [.pointer (some ⟨b, 0, none⟩), .int .i64 m]) Tryz.func195 rfl Tryz.ntmps195 rfl fun w => ?_
  (repeat (first | refine Jz ?_ | intro _))
  ((apply c_held ([(b, .cells [p, .slice none 0 0].toArray 96 (0, 0))]); (case hL => (exact sbT))); refine Jf 0 ?_; refine Jf 1 ?_; refine Jf 2 ?_; refine Jf 3 ?_; (apply h_first 4; (case hi => rfl); (case hr => kernel_rfl); (case hfr => kernel_rfl); (case hsel => kernel_rfl); (case hg => rfl); (case hd => rfl); (case he => (apply ev_cap; rfl))); refine Jf 5 ?_; refine Jf 6 ?_; refine Jf 7 ?_; refine Jf 9 ?_; refine Jf 10 ?_; refine Jf 11 ?_; refine Jf 12 ?_; refine Jf 13 ?_; (apply h_one 8; (case hr => kernel_rfl)); (apply n_mkNoZero (m := m) extMakeNoZero; (case hi => rfl); (case hg => rfl); (case hd => rfl); (case hx => (show some (Value.int .i64 (0 + (m : Int))) = _; rw [Int.zero_add])); (case hm => exact h2); intro gb cs q1 q2); (apply h_first 14; (case hi => rfl); (case hr => kernel_rfl); (case hfr => kernel_rfl); (case hsel => kernel_rfl); (case hg => rfl); (case hd => rfl); (case he => (apply ev_slice_hi0 (j := 0); (case hx => rfl); (case hy => rfl); (case hj => omega)))); refine Jf 15 ?_; (apply h_end; (case hr => kernel_rfl)))
  (repeat (first | refine Jc ?_ | (apply s_evb; (case hg => rfl); (case hd => rfl); (case hn => rfl); (case he => (apply ev_nilCheck; rfl))) | (apply s_copy_st (α := UInt8) (ms := []) (At.nil S none) rfl; (case hg => rfl); (case hd => rfl); (case hx => rfl); (case hy => rfl); (case hm2 => rfl); (case hm => exact Nat.le_refl _); (case hcs => exact Nat.zero_le _); (case hL => (repeat (first | exact Upd.head | apply Upd.tail | apply Upd.app)))) | refine Jo ?_ | intro _))
  refine W.perm ?_ (List.Perm.swap _ _ _)
  refine o_ret0 (.inr rfl) Tryz.results195 (List.Sublist.refl _) ⟨rfl, ⟨p, _, _, rfl, hp, .inr ⟨gb, cs.size, _, rfl, rfl, Nat.zero_le _, q2, ?_, rfl⟩⟩, rfl⟩
  show (cellsOf ([] : Bs) ++ cs.toList.drop 0).toArray.size = cs.size * 1
  simp [cellsOf]
theorem Grow_con (b m : Nat) (S : SH) (h1 : 1 ≤ m) (h2 : m ≤ 1000000000000) :
    Con Tryz.prog 162 #[.pointer (some ⟨b, 0, none⟩), .int .i64 m] S [(b, .cells [.pointer none, .slice none 0 0].toArray 96 (0, 0))] (fun S' L' r => S' = S ∧ OwB b [] L') := by
  refine con_of (args := [.pointer (some ⟨b, 0, none⟩), .int .i64 m]) Tryz.func162 rfl Tryz.ntmps162 rfl fun w => ?_
  (repeat (first | refine Jc ?_ | (apply s_call (L2 := []); (case hg => rfl); (case hd => rfl); (case ha => rfl); (case hc => exact copyCheck_con b (.pointer none) (.slice none 0 0) S (.inl rfl)); (case hL => exact List.Perm.refl _); rintro S2 L2 v2 hle2 ⟨rfl, rfl, rfl⟩) | refine Jo ?_ | intro _))
  ((apply c_held ([(b, .cells [.pointer (some ⟨b, 0, none⟩), .slice none 0 0].toArray 96 (0, 0))]); (case hL => (exact sbT))); refine Jf 0 ?_; refine Jf 1 ?_; refine Jf 2 ?_; refine Jf 3 ?_; (apply h_first 4; (case hi => rfl); (case hr => kernel_rfl); (case hfr => kernel_rfl); (case hsel => kernel_rfl); (case hg => rfl); (case hd => rfl); (case he => (apply ev_cap; rfl))); refine Jf 5 ?_; refine Jf 6 ?_; refine Jf 7 ?_; refine Jf 8 ?_; refine Jf 9 ?_; refine Jf 10 ?_; refine Jf 11 ?_; refine Jf 12 ?_; (apply h_end; (case hr => kernel_rfl)))
  (repeat (first | refine Jc ?_ | (apply s_call (L2 := []); (case hg => rfl); (case hd => rfl); (case ha => rfl); (case hc => exact grow_con b m _ S2 h1 h2 (.inr rfl)); (case hL => exact List.Perm.refl _); rintro S3 L3 v3 hle3 ⟨rfl, hB, rfl⟩) | refine Jo ?_ | intro _))
  exact o_ret0 (.inr rfl) Tryz.results162 (L' := L3) (by rw [List.append_nil]; exact List.Sublist.refl _) ⟨rfl, hB⟩
set_option maxHeartbeats 1600000 in
/-- strings.Join of two strings with nothing between them. -/
theorem Join_con (a c : Bs) (A : Option Addr) (cap : Nat) (S : SH) (hA : At S A [(⟨a⟩ : Str), ⟨c⟩]) (h0 : a ≠ []) (ha : a.length ≤ 1000000000) (hc : c.length ≤ 1000000000) (hcap : 2 ≤ cap) :
    Con Tryz.prog 170 #[.slice A 2 cap, strV []] S [] (fun S' L' r => S' = S ∧ L' = [] ∧ r = strV (a ++ c)) := by
  refine con_of (args := [.slice A 2 cap, strV []]) Tryz.func170 rfl Tryz.ntmps170 rfl fun w => ?_
  have hpos : 0 < a.length := by cases a with | nil => exact absurd rfl h0 | cons x r => simp
  obtain ⟨l, hl⟩ : ∃ l, l = [(⟨a⟩ : Str), ⟨c⟩] := ⟨_, rfl⟩
  have hl2 : 2 = l.length := by rw [hl]; rfl
  have e0 : l[0]? = some ⟨a⟩ := by rw [hl]; rfl
  have e1 : l[1]? = some ⟨c⟩ := by rw [hl]; rfl
  rw [← hl] at hA
  (repeat (first | refine Jc ?_ | (apply s_evb; (case hg => rfl); (case hd => rfl); (case hn => rfl); (case he => (apply ev_len_b; rfl))) | refine Jo ?_ | intro _))
  refine c_meetB (fun S' L F => S' = S ∧ L = [] ∧ F = [(0, .slice A 2 cap), (1, strV []), (5, .int .i64 (a.length + c.length : Nat))]) ?_ ?_
  · refine c_loop (fun m S' L F => S' = S ∧ L = [] ∧ ∃ (i : Nat) (q : Int), m = 2 - i ∧ (i = 0 ∧ q = 0 ∨ i = 1 ∧ q = (a.length : Int) ∨ i = 2 ∧ q = (a.length : Int) + (c.length : Int)) ∧ F = [(0, .slice A 2 cap), (1, strV []), (5, .int .i64 q), (39, .slice A 2 cap), (40, .int .i64 2), (41, .int .i64 i)]) ⟨rfl, rfl, 0, 0, rfl, .inl ⟨rfl, rfl⟩, rfl⟩ sbF (List.nil_sublist _) ?_
    rintro m S' L F ⟨rfl, rfl, i, q, rfl, hi, rfl⟩
    rcases hi with ⟨rfl, rfl⟩ | ⟨rfl, rfl⟩ | ⟨rfl, rfl⟩
    · (repeat (first | refine Jc ?_ | (apply s_evb; (case hg => rfl); (case hd => rfl); (case hn => rfl); (case he => (apply ev_len_b; rfl))) | (apply s_idx hA; (case hg => rfl); (case hd => rfl); (case hx => rfl); (case hi => rfl); (case hm => exact hl2); (case hu => exact e0); intro p (hp : Pts _ p [strV a])) | (apply s_load1; (case hg => rfl); (case hd => rfl); (case hx => rfl); (case hv => exact hp)) | refine Jo ?_ | intro _))
      exact q_back (m' := 1) ⟨rfl, rfl, 1, 0 + (a.length : Int), rfl, .inr (.inl ⟨rfl, by omega⟩), rfl⟩ (by omega) sbF (List.nil_sublist _)
    · (repeat (first | refine Jc ?_ | (apply s_evb; (case hg => rfl); (case hd => rfl); (case hn => rfl); (case he => (apply ev_len_b; rfl))) | (apply s_idx hA; (case hg => rfl); (case hd => rfl); (case hx => rfl); (case hi => rfl); (case hm => exact hl2); (case hu => exact e1); intro p (hp : Pts _ p [strV c])) | (apply s_load1; (case hg => rfl); (case hd => rfl); (case hx => rfl); (case hv => exact hp)) | refine Jo ?_ | intro _))
      exact q_back (m' := 0) ⟨rfl, rfl, 2, (a.length : Int) + (c.length : Int), rfl, .inr (.inr ⟨rfl, rfl⟩), rfl⟩ (by omega) sbF (List.nil_sublist _)
    · (repeat (first | refine Jz ?_ | intro _))
      exact q_cut ⟨rfl, rfl, rfl⟩ sbF (List.nil_sublist _)
  rintro S1 L F ⟨rfl, rfl, rfl⟩
  (repeat (first | refine Jc ?_ | (apply s_call (L2 := []); (case hg => rfl); (case hd => rfl); (case ha => rfl); (case hc => exact Grow_con _ (a.length + c.length) S1 (by omega) (by omega)); (case hL => exact List.Perm.refl _); rintro S3 L3 v3 hle3 ⟨rfl, hB⟩) | refine Jo ?_ | intro _))
  have hlA := hA
  have hlen9 : 1 = (l.drop 1).length := by rw [hl]; rfl
  have e9 : (l.drop 1)[0]? = some ⟨c⟩ := by rw [hl]; rfl
  rename_i b
  rw [List.append_nil]
  (repeat (first | refine Jc ?_ | (apply s_idx hA; (case hg => rfl); (case hd => rfl); (case hx => rfl); (case hi => rfl); (case hm => exact hl2); (case hu => exact e0); intro p (hp : Pts _ p [strV a])) | (apply s_load1; (case hg => rfl); (case hd => rfl); (case hx => rfl); (case hv => exact hp)) | (apply s_call (L2 := []); (case hg => rfl); (case hd => rfl); (case ha => rfl); (case hc => exact WriteString_con (s := a) hB S3 (by simp; omega)); (case hL => exact (List.Perm.of_eq (List.append_nil _).symm)); rintro S4 L4 v4 hle4 ⟨rfl, hB4⟩) | (apply s_slice_lo (i := 1) hlA; (case hg => rfl); (case hd => rfl); (case hx => rfl); (case hy => rfl); (case hm => exact hl2); (case hmc => omega); (case hj => omega); intro A9 hA9) | refine Jo ?_ | intro _))
  rw [List.append_nil]
  obtain ⟨r, hr⟩ : ∃ r, r = l.drop 1 := ⟨_, rfl⟩
  rw [← hr] at hA9 hlen9 e9 ⊢
  clear hr
  refine c_loop (fun m S' L F => S' = S4 ∧ ∃ i : Nat, m = 1 - i ∧ (i = 0 ∧ OwB b a L ∨ i = 1 ∧ OwB b (a ++ c) L) ∧ F = [(1, strV []), (8, .pointer (some ⟨b, 0, none⟩)), (63, .slice A9 r.length (cap - 1)), (64, .int .i64 r.length), (65, .int .i64 i)]) ⟨rfl, 0, rfl, .inl ⟨rfl, hB4⟩, rfl⟩ sbF (List.Sublist.refl _) ?_
  rintro m S' L F ⟨rfl, i, rfl, hi, rfl⟩
  rcases hi with ⟨rfl, hB5⟩ | ⟨rfl, hB5⟩
  · (repeat (first | refine Jc ?_ | (apply s_idx hA9; (case hg => rfl); (case hd => rfl); (case hx => rfl); (case hi => rfl); (case hm => rfl); (case hu => exact e9); intro p (hp : Pts _ p [strV c])) | (apply s_load1; (case hg => rfl); (case hd => rfl); (case hx => rfl); (case hv => exact hp)) | (apply s_call (L2 := []); (case hg => rfl); (case hd => rfl); (case ha => rfl); (case hc => exact WriteString_con (s := []) hB5 S' (by simp; omega)); (case hL => exact (List.Perm.of_eq (List.append_nil _).symm)); rintro S5 L5 v5 hle5 ⟨rfl, hB6⟩; rw [List.append_nil] at hB6; rw [List.append_nil]) | (apply s_call (L2 := []); (case hg => rfl); (case hd => rfl); (case ha => rfl); (case hc => exact WriteString_con (s := c) hB6 _ (by omega)); (case hL => exact (List.Perm.of_eq (List.append_nil _).symm)); rintro S6 L6 v6 hle6 ⟨rfl, hB7⟩; rw [List.append_nil]) | refine Jo ?_ | intro _))
    exact q_back (m' := 0) ⟨rfl, 1, rfl, .inr ⟨rfl, hB7⟩, rfl⟩ (by omega) sbF (List.Sublist.refl _)
  · (repeat (first | refine Jc ?_ | (apply s_call (L2 := []); (case hg => rfl); (case hd => rfl); (case ha => rfl); (case hc => exact String_con hB5 S' (by simp [h0]) (by simp; omega)); (case hL => exact (List.Perm.of_eq (List.append_nil _).symm)); rintro S5 L5 v5 hle5 ⟨rfl, rfl, rfl⟩) | refine Jo ?_ | intro _))
    exact o_ret Tryz.results170 rfl (List.nil_sublist _) ⟨rfl, rfl, rfl⟩
end Go.Proofs.YtnlfohlngapkfaaGreatDoor
namespace Go.Proofs.YtnlfohlngapkfaaGreatDoor
open Go Go.X
set_option maxRecDepth 10000
set_option linter.unusedVariables false
attribute [local irreducible] Code.wpIn wpListIn Exit.then Exit.inBlock X.Out X.Back X.W X.Ev X.Con X.BinV X.Wh X.Wn X.Wq
theorem RotL_con (x : UInt32) (c : Nat) (h1 : 1 ≤ c) (h2 : c ≤ 31) (S : SH) : Con Tryz.prog 226 #[.int .u32 (x.toNat : Int), .int .i64 (-(c : Int))] S [] (Pure S (.int .u32 ((rot c x).toNat : Int))) := by
  refine con_of (args := [.int .u32 (x.toNat : Int), .int .i64 (-(c : Int))]) Tryz.func226 rfl Tryz.ntmps226 rfl fun w => ?_
  obtain ⟨m, hm⟩ : ∃ m : Nat, m = 18446744073709551616 - c := ⟨_, rfl⟩
  have hw : IntKind.u64.wrap (-(c : Int)) = (m : Int) := by rw [wrap_u64]; omega
  obtain ⟨k, hk⟩ : ∃ k : Nat, k = 32 - c := ⟨_, rfl⟩
  have hand : BinV Tryz.prog .and .u64 (m : Int) 31 (.int .u64 (k : Int)) := by
    have := bv_and64 (P := Tryz.prog) (m := m) (n := 31) (by omega) (by decide)
    rw [show m &&& 31 = m % 32 from Nat.and_two_pow_sub_one_eq_mod _ 5, show m % 32 = k by omega] at this
    exact this
  have hsub : BinV Tryz.prog .sub .u64 32 (k : Int) (.int .u64 (c : Int)) := by
    have := bv_subu64 (P := Tryz.prog) (m := 32) (n := k) (by omega) (by decide)
    rw [show 32 - k = c by omega] at this
    exact this
  (repeat (first | refine Jc ?_ | (apply s_evb; (case hg => rfl); (case hd => rfl); (case hn => rfl); (case he => (apply ev_convw; (case hx => rfl); (case hw => exact hw)))) | (apply s_bin; (case hg => rfl); (case hd => rfl); (case hx => rfl); (case hy => rfl); (case hb => first | exact hand | exact hsub | exact bv_or32)) | (apply s_evb; (case hg => rfl); (case hd => rfl); (case hn => rfl); (case he => (apply ev_shl32; (case hx => rfl); (case hy => rfl); (case hc => omega)))) | (apply s_evb; (case hg => rfl); (case hd => rfl); (case hn => rfl); (case he => (apply ev_shr32; (case hx => rfl); (case hy => rfl); (case hc => omega)))) | refine Jo ?_ | intro _))
  exact o_ret (L' := []) Tryz.results226 rfl (List.nil_sublist _) ⟨rfl, rfl, by rw [rot, hk]⟩
def natI (l : List Nat) : List Int := l.map fun c : Nat => (c : Int)
theorem mixed_con (x : UInt32) (l : List Nat) (A : Option Addr) (cap : Nat) (S : SH) (hA : At S A (natI l)) (hl : ∀ c ∈ l, 1 ≤ c ∧ c ≤ 31) (hn : l.length ≤ 100) :
    Con Tryz.prog 214 #[.int .u32 (x.toNat : Int), .slice A l.length cap] S [] (Pure S (.int .u32 ((mix l x).toNat : Int))) := by
  refine con_of (args := [.int .u32 (x.toNat : Int), .slice A l.length cap]) Tryz.func214 rfl Tryz.ntmps214 rfl fun w => ?_
  (repeat (first | refine Jz ?_ | intro _))
  refine c_loop (fun m S' L F => S' = S ∧ L = [] ∧ ∃ i : Nat, m = l.length - i ∧ i ≤ l.length ∧
      F = [(0, .int .u32 (x.toNat : Int)), (8, .slice A l.length cap), (9, .int .i64 l.length), (10, .int .i64 i), (5, .int .u32 ((mix (l.take i) x).toNat : Int))]) ⟨rfl, rfl, 0, rfl, by omega, rfl⟩ sbF sbL ?_
  rintro m S' L F ⟨rfl, rfl, i, rfl, hi, rfl⟩
  by_cases hlt : i < l.length
  rotate_left
  · obtain rfl : i = l.length := by omega
    rw [List.take_length]
    (repeat (first | refine Jz ?_ | intro _))
    exact o_ret (L' := []) Tryz.results214 rfl (List.nil_sublist _) ⟨rfl, rfl, rfl⟩
  obtain ⟨c, hc⟩ := at_lt' hlt
  obtain ⟨c1, c2⟩ := hl c (List.mem_of_getElem? hc)
  have hcI : (natI l)[i]? = some (c : Int) := by simp [natI, hc]
  have hln : l.length = (natI l).length := by simp [natI]
  (repeat (first | refine Jc ?_ | (apply s_idx hA; (case hg => rfl); (case hd => rfl); (case hx => rfl); (case hi => rfl); (case hm => exact hln); (case hu => exact hcI); intro p (hp : Pts _ p [.int .i64 (c : Int)])) | (apply s_load1; (case hg => rfl); (case hd => rfl); (case hx => rfl); (case hv => exact hp)) | ((apply z_call; rfl; rfl; rfl; exact RotL_con x c c1 c2 _; rintro _ _ _ - ⟨rfl, rfl, rfl⟩)) | (apply s_evb; (case hg => rfl); (case hd => rfl); (case hn => rfl); (case he => first | (apply ev_binV; (case hx => rfl); (case hy => rfl); (case hb => first | exact bv_add32 | exact bv_xor32 | exact bv_and32 | exact bv_or32)) | (apply ev_conv32; rfl) | (apply ev_conv8; rfl) | (apply ev_not32; rfl))) | refine Jo ?_ | intro _))
  refine q_back (m' := l.length - (i + 1)) ⟨rfl, rfl, i + 1, rfl, by omega, rfl⟩ (by omega) ?_ sbL
  have e : mix (l.take (i + 1)) x = mix (l.take i) x ^^^ rot c x := by
    rw [List.take_succ_eq_append_getElem hlt, mix, List.foldl_append]
    have : l[i] = c := by rw [List.getElem?_eq_getElem hlt] at hc; exact Option.some.inj hc
    rw [this]; rfl
  rw [e]
  exact sbF
end Go.Proofs.YtnlfohlngapkfaaGreatDoor
