/- Contracts of functions of this program, each proved by a walk through its code, and plain lemmas on what they compute; on no condition beyond those that each theorem states. -/
import Derived.Test.YtogfficbloejcaaDoorBb
import Derived.Test.YtogfficbloejcaaDoorBc
import Derived.Test.YtogfficbloejcaaDoorBa
import Derived.Test.YtogfficbloejcaaDoorXA
import Derived.Test.YtogfficbloejcaaDoorXB
namespace Go.Proofs.YtogfficbloejcaaDoor
open Go Go.X
set_option maxRecDepth 10000
set_option linter.unusedVariables false
attribute [local irreducible] Code.wpIn wpListIn Exit.then Exit.inBlock X.Out X.Back X.W X.Ev X.Con X.BinV X.Wh X.Wn X.Wq
theorem rin_con (a lo hi : Int) (S : SH) : Con Tryd.prog 63 #[.int .i64 a, .int .i64 lo, .int .i64 hi] S [] (Pure S (.bool (bP (lo ≤ a ∧ a ≤ hi)))) := by
  refine con_of (args := [.int .i64 a, .int .i64 lo, .int .i64 hi]) Tryd.func63 rfl Tryd.ntmps63 rfl fun w => ?_
  by_cases h1 : lo ≤ a
  · by_cases h2 : a ≤ hi
    · (repeat (first | refine Jz ?_ | intro _))
      exact o_ret Tryd.results63 rfl (List.nil_sublist _) ⟨rfl, rfl, by rw [bP_t ⟨h1, h2⟩]⟩
    · (repeat (first | refine Jz ?_ | intro _))
      exact o_ret Tryd.results63 rfl (List.nil_sublist _) ⟨rfl, rfl, by rw [bP_f fun h => h2 h.2]⟩
  · (repeat (first | refine Jz ?_ | intro _))
    exact o_ret Tryd.results63 rfl (List.nil_sublist _) ⟨rfl, rfl, by rw [bP_f fun h => h1 h.1]⟩
def re : Nat → Int × Int
  | 0 => (0, 0)
  | n + 1 => ((re n).2 + 1, 2 * (re n).2 + 1)
theorem re_bd : ∀ i : Nat, i < 44 → 0 ≤ (re i).2 ∧ (re i).2 ≤ 8796093022207 := by decide
theorem re_edges : ∀ i : Nat, i < 44 → (edges i).1 = (re i).1 ∧ (edges i).2 = if i = 43 then (re i).1 else (re i).2 := by decide
theorem rEdges_con (k : Int) (S : SH) : Con Tryd.prog 12 #[.int .i64 k] S [] (Pure S (.tuple #[.int .i64 (edges k).1, .int .i64 (edges k).2])) := by
  refine con_of (args := [.int .i64 k]) Tryd.func12 rfl Tryd.ntmps12 rfl fun w => ?_
  by_cases h1 : k < 0
  · have e : edges k = (-1, -1) := by simp [edges, h1]
    (repeat (first | refine Jz ?_ | intro _))
    exact o_ret2 Tryd.results12 rfl rfl (List.Sublist.refl _) ⟨rfl, rfl, by rw [e]⟩
  by_cases h2 : 43 < k
  · have e : edges k = (-1, -1) := by simp [edges, show 44 ≤ k by omega]
    (repeat (first | refine Jz ?_ | intro _))
    exact o_ret2 Tryd.results12 rfl rfl (List.Sublist.refl _) ⟨rfl, rfl, by rw [e]⟩
  obtain ⟨m, rfl⟩ : ∃ m : Nat, k = m := ⟨k.toNat, by omega⟩
  obtain ⟨e1, e2⟩ := re_edges m (by omega)
  (repeat (first | refine Jz ?_ | intro _))
  refine c_loop (fun q S' L F => S' = S ∧ ∃ i : Nat, q = m - i ∧ i ≤ m ∧ L = [] ∧ F = [(0, .int .i64 m), (4, .int .i64 (re i).1), (5, .int .i64 (re i).2), (6, .int .i64 i)]) ⟨rfl, 0, rfl, by omega, rfl, rfl⟩ sbF sbL ?_
  rintro q S' L F ⟨rfl, i, rfl, hi, rfl, rfl⟩
  have hb := re_bd i (by omega)
  by_cases hlt : i < m
  · (repeat (first | refine Jz ?_ | intro _))
    exact q_back (m' := m - (i + 1)) ⟨rfl, i + 1, rfl, by omega, rfl, rfl⟩ (by omega) sbF sbL
  obtain rfl : i = m := by omega
  by_cases h43 : i = 43
  · rw [if_pos h43] at e2
    (repeat (first | refine Jz ?_ | intro _))
    exact o_ret2 Tryd.results12 rfl rfl (List.Sublist.refl _) ⟨rfl, rfl, by rw [e1, e2]⟩
  · rw [if_neg h43] at e2
    (repeat (first | refine Jz ?_ | intro _))
    exact o_ret2 Tryd.results12 rfl rfl (List.Sublist.refl _) ⟨rfl, rfl, by rw [e1, e2]⟩
theorem rBucket_con (d : Int) (S : SH) : Con Tryd.prog 14 #[.int .i64 d] S [] (Pure S (.int .i64 (bucket d))) := by
  refine con_of (args := [.int .i64 d]) Tryd.func14 rfl Tryd.ntmps14 rfl fun w => ?_
  by_cases h1 : d < 0
  · (repeat (first | refine Jz ?_ | intro _))
    exact o_ret Tryd.results14 rfl (List.Sublist.refl _) ⟨rfl, rfl, by simp [bucket, h1]⟩
  by_cases h2 : 4398046511104 < d
  · (repeat (first | refine Jz ?_ | intro _))
    exact o_ret Tryd.results14 rfl (List.Sublist.refl _) ⟨rfl, rfl, by simp [bucket, h2]⟩
  obtain ⟨m, rfl⟩ : ∃ m : Nat, d = m := ⟨d.toNat, by omega⟩
  have e : bucket (m : Int) = (Lib.bitLen m : Nat) := by unfold bucket; rw [if_neg (by omega)]; rfl
  have hbl := Lib.bitLen_le m 43 (by decide) (by omega)
  rw [e]
  (repeat (first | refine Jz ?_ | intro _))
  refine c_loop (fun q S' L F => S' = S ∧ ∃ i : Nat, q ≤ m ∧ Lib.bitLen m = i + Lib.bitLen q ∧ L = [] ∧ F = [(0, .int .i64 q), (3, .int .i64 i)]) ⟨rfl, 0, Nat.le_refl _, by omega, rfl, rfl⟩ sbF sbL ?_
  rintro q S' L F ⟨rfl, i, hq, hi, rfl, rfl⟩
  by_cases hlt : 0 < q
  · have hh := Lib.bitLen_half q (by omega) (by omega)
    have hqq : BinV Tryd.prog .quo .i64 (q : Int) 2 (.int .i64 ((q / 2 : Nat) : Int)) := bv_quo64 (n := 2) (by decide) (w64_in (by omega))
    (repeat (first | refine Jc ?_ | (apply s_bin; (case hg => rfl); (case hd => rfl); (case hx => rfl); (case hy => rfl); (case hb => exact hqq)) | refine Jo ?_ | intro _))
    exact q_back (m' := q / 2) ⟨rfl, i + 1, by omega, by omega, rfl, rfl⟩ (by omega) sbF sbL
  obtain rfl : q = 0 := by omega
  have h0 : Lib.bitLen 0 = 0 := rfl
  (repeat (first | refine Jz ?_ | intro _))
  exact o_ret Tryd.results14 rfl (List.Sublist.refl _) ⟨rfl, rfl, by rw [hi, h0]; rfl⟩
theorem cmp_ne {a b : Int} (h : a ≠ b) : Lib.compareInt a b ≠ 0 := by unfold Lib.compareInt; split <;> (try split) <;> omega
theorem cmp_eq (a : Int) : Lib.compareInt a a = 0 := by unfold Lib.compareInt; split <;> (try split) <;> omega
theorem cmp_lt {a b : Int} : Lib.compareInt a b < 0 ↔ a < b := by unfold Lib.compareInt; split <;> (try split) <;> omega
theorem cmpL_step {a b : Int} {l m : List Int} : cmpL (a :: l) (b :: m) < 0 ↔ (a ≠ b ∧ a < b) ∨ (a = b ∧ cmpL l m < 0) := by
  rw [cmpL]
  by_cases h : a = b
  · subst h; rw [if_neg (by rw [cmp_eq]; simp)]; simp
  · rw [if_pos (cmp_ne h), cmp_lt]; simp [h]
/-- A key is before another one. -/
def Bef (a b : PC) : Prop := cmpL a.key b.key < 0
theorem rBefore_con (p q : Ce) (S : SH) : Con Tryd.prog 60 #[.agg p.vals.toArray, .agg q.vals.toArray] S [] (Pure S (.bool (bP (Bef p.p q.p)))) := by
  refine con_of (args := [.agg p.vals.toArray, .agg q.vals.toArray]) Tryd.func60 rfl Tryd.ntmps60 rfl fun w => ?_
  obtain ⟨⟨a0, a1, a2, a3, ax⟩, pla, plc, pha, phc⟩ := p
  obtain ⟨⟨b0, b1, b2, b3, bx⟩, qla, qlc, qha, qhc⟩ := q
  have hB : Bef ⟨a0, a1, a2, a3, ax⟩ ⟨b0, b1, b2, b3, bx⟩ ↔ (a0 ≠ b0 ∧ a0 < b0) ∨ (a0 = b0 ∧ ((a1 ≠ b1 ∧ a1 < b1) ∨ (a1 = b1 ∧ ((a2 ≠ b2 ∧ a2 < b2) ∨ (a2 = b2 ∧ ((a3 ≠ b3 ∧ a3 < b3) ∨ (a3 = b3 ∧ False))))))) := by
    unfold Bef PC.key
    rw [cmpL_step, cmpL_step, cmpL_step, cmpL_step]
    simp [cmpL]
  unfold Ce.vals
  dsimp only
  (repeat (first | refine Jc ?_ | (apply s_evb; (case hg => rfl); (case hd => rfl); (case hn => rfl); (case he => (apply ev_buildS; (case hp => rfl); (case hz => rfl); (case h1 => rfl); (case hr => rfl)))) | refine Jo ?_ | intro _))
  rename_i b5 b6
  refine W.trim (L' := [(b6, .cells [.int .i64 b0, .int .i64 b1, .int .i64 b2, .int .i64 b3].toArray 68 (0, 0)), (b5, .cells [.int .i64 a0, .int .i64 a1, .int .i64 a2, .int .i64 a3].toArray 68 (0, 0))]) (F' := [(5, .pointer (some ⟨b5, 0, none⟩)), (6, .pointer (some ⟨b6, 0, none⟩)), (7, .int .i64 0)]) sbF sbL ?_
  refine c_loop (fun m S' L F => S' = S ∧ ∃ i : Nat, m = 4 - i ∧ i ≤ 4 ∧ (0 < i → a0 = b0) ∧ (1 < i → a1 = b1) ∧ (2 < i → a2 = b2) ∧ (3 < i → a3 = b3) ∧ L = [(b6, .cells [.int .i64 b0, .int .i64 b1, .int .i64 b2, .int .i64 b3].toArray 68 (0, 0)), (b5, .cells [.int .i64 a0, .int .i64 a1, .int .i64 a2, .int .i64 a3].toArray 68 (0, 0))] ∧
      F = [(5, .pointer (some ⟨b5, 0, none⟩)), (6, .pointer (some ⟨b6, 0, none⟩)), (7, .int .i64 i)]) ⟨rfl, 0, rfl, by omega, by omega, by omega, by omega, by omega, rfl, rfl⟩ sbF sbL ?_
  rintro m S' L F ⟨rfl, i, rfl, hi, g0, g1, g2, g3, rfl, rfl⟩
  match i, hi with
  | 0, _ =>
    by_cases h : a0 = b0
    · (repeat (first | refine Jc ?_ | (apply c_draw; (case hB => kernel_rfl); (repeat (first | (apply q_ev; (case hg => rfl); (case hd => rfl); (case he => (apply ev_indexAddr_a; (case hx => rfl); (case hi => rfl); (case hk => decide)))) | refine Jd ?_))) | refine Jo ?_ | intro _))
      exact q_back (m' := 3) ⟨rfl, 1, rfl, by omega, by omega, by omega, by omega, by omega, rfl, rfl⟩ (by omega) sbF sbL
    · by_cases h2 : a0 < b0
      · (repeat (first | refine Jc ?_ | (apply c_draw; (case hB => kernel_rfl); (repeat (first | (apply q_ev; (case hg => rfl); (case hd => rfl); (case he => (apply ev_indexAddr_a; (case hx => rfl); (case hi => rfl); (case hk => decide)))) | refine Jd ?_))) | refine Jo ?_ | intro _))
        exact o_ret (L' := []) Tryd.results60 rfl (List.nil_sublist _) ⟨rfl, rfl, by rw [bP_t (hB.2 (by omega))]⟩
      · (repeat (first | refine Jc ?_ | (apply c_draw; (case hB => kernel_rfl); (repeat (first | (apply q_ev; (case hg => rfl); (case hd => rfl); (case he => (apply ev_indexAddr_a; (case hx => rfl); (case hi => rfl); (case hk => decide)))) | refine Jd ?_))) | refine Jo ?_ | intro _))
        exact o_ret (L' := []) Tryd.results60 rfl (List.nil_sublist _) ⟨rfl, rfl, by rw [bP_f (fun hh => by have := hB.1 hh; omega)]⟩
  | 1, _ =>
    have e0 := g0 (by omega)
    by_cases h : a1 = b1
    · (repeat (first | refine Jc ?_ | (apply c_draw; (case hB => kernel_rfl); (repeat (first | (apply q_ev; (case hg => rfl); (case hd => rfl); (case he => (apply ev_indexAddr_a; (case hx => rfl); (case hi => rfl); (case hk => decide)))) | refine Jd ?_))) | refine Jo ?_ | intro _))
      exact q_back (m' := 2) ⟨rfl, 2, rfl, by omega, by omega, by omega, by omega, by omega, rfl, rfl⟩ (by omega) sbF sbL
    · by_cases h2 : a1 < b1
      · (repeat (first | refine Jc ?_ | (apply c_draw; (case hB => kernel_rfl); (repeat (first | (apply q_ev; (case hg => rfl); (case hd => rfl); (case he => (apply ev_indexAddr_a; (case hx => rfl); (case hi => rfl); (case hk => decide)))) | refine Jd ?_))) | refine Jo ?_ | intro _))
        exact o_ret (L' := []) Tryd.results60 rfl (List.nil_sublist _) ⟨rfl, rfl, by rw [bP_t (hB.2 (by omega))]⟩
      · (repeat (first | refine Jc ?_ | (apply c_draw; (case hB => kernel_rfl); (repeat (first | (apply q_ev; (case hg => rfl); (case hd => rfl); (case he => (apply ev_indexAddr_a; (case hx => rfl); (case hi => rfl); (case hk => decide)))) | refine Jd ?_))) | refine Jo ?_ | intro _))
        exact o_ret (L' := []) Tryd.results60 rfl (List.nil_sublist _) ⟨rfl, rfl, by rw [bP_f (fun hh => by have := hB.1 hh; omega)]⟩
  | 2, _ =>
    have e0 := g0 (by omega)
    have e1 := g1 (by omega)
    by_cases h : a2 = b2
    · (repeat (first | refine Jc ?_ | (apply c_draw; (case hB => kernel_rfl); (repeat (first | (apply q_ev; (case hg => rfl); (case hd => rfl); (case he => (apply ev_indexAddr_a; (case hx => rfl); (case hi => rfl); (case hk => decide)))) | refine Jd ?_))) | refine Jo ?_ | intro _))
      exact q_back (m' := 1) ⟨rfl, 3, rfl, by omega, by omega, by omega, by omega, by omega, rfl, rfl⟩ (by omega) sbF sbL
    · by_cases h2 : a2 < b2
      · (repeat (first | refine Jc ?_ | (apply c_draw; (case hB => kernel_rfl); (repeat (first | (apply q_ev; (case hg => rfl); (case hd => rfl); (case he => (apply ev_indexAddr_a; (case hx => rfl); (case hi => rfl); (case hk => decide)))) | refine Jd ?_))) | refine Jo ?_ | intro _))
        exact o_ret (L' := []) Tryd.results60 rfl (List.nil_sublist _) ⟨rfl, rfl, by rw [bP_t (hB.2 (by omega))]⟩
      · (repeat (first | refine Jc ?_ | (apply c_draw; (case hB => kernel_rfl); (repeat (first | (apply q_ev; (case hg => rfl); (case hd => rfl); (case he => (apply ev_indexAddr_a; (case hx => rfl); (case hi => rfl); (case hk => decide)))) | refine Jd ?_))) | refine Jo ?_ | intro _))
        exact o_ret (L' := []) Tryd.results60 rfl (List.nil_sublist _) ⟨rfl, rfl, by rw [bP_f (fun hh => by have := hB.1 hh; omega)]⟩
  | 3, _ =>
    have e0 := g0 (by omega)
    have e1 := g1 (by omega)
    have e2 := g2 (by omega)
    by_cases h : a3 = b3
    · (repeat (first | refine Jc ?_ | (apply c_draw; (case hB => kernel_rfl); (repeat (first | (apply q_ev; (case hg => rfl); (case hd => rfl); (case he => (apply ev_indexAddr_a; (case hx => rfl); (case hi => rfl); (case hk => decide)))) | refine Jd ?_))) | refine Jo ?_ | intro _))
      exact q_back (m' := 0) ⟨rfl, 4, rfl, by omega, by omega, by omega, by omega, by omega, rfl, rfl⟩ (by omega) sbF sbL
    · by_cases h2 : a3 < b3
      · (repeat (first | refine Jc ?_ | (apply c_draw; (case hB => kernel_rfl); (repeat (first | (apply q_ev; (case hg => rfl); (case hd => rfl); (case he => (apply ev_indexAddr_a; (case hx => rfl); (case hi => rfl); (case hk => decide)))) | refine Jd ?_))) | refine Jo ?_ | intro _))
        exact o_ret (L' := []) Tryd.results60 rfl (List.nil_sublist _) ⟨rfl, rfl, by rw [bP_t (hB.2 (by omega))]⟩
      · (repeat (first | refine Jc ?_ | (apply c_draw; (case hB => kernel_rfl); (repeat (first | (apply q_ev; (case hg => rfl); (case hd => rfl); (case he => (apply ev_indexAddr_a; (case hx => rfl); (case hi => rfl); (case hk => decide)))) | refine Jd ?_))) | refine Jo ?_ | intro _))
        exact o_ret (L' := []) Tryd.results60 rfl (List.nil_sublist _) ⟨rfl, rfl, by rw [bP_f (fun hh => by have := hB.1 hh; omega)]⟩
  | 4, _ =>
    have e0 := g0 (by omega)
    have e1 := g1 (by omega)
    have e2 := g2 (by omega)
    have e3 := g3 (by omega)
    (repeat (first | refine Jz ?_ | intro _))
    exact o_ret (L' := []) Tryd.results60 rfl (List.nil_sublist _) ⟨rfl, rfl, by rw [bP_f (fun hh => by have := hB.1 hh; simp [e0, e1, e2, e3] at this)]⟩
theorem rints_con (a b : List Int) (A B : Option Addr) (ca cb : Nat) (S : SH) (hA : At S A a) (hB : At S B b) (la : a.length ≤ 1000000) (lb : b.length ≤ 1000000) :
    Con Tryd.prog 61 #[.slice A a.length ca, .slice B b.length cb] S [] (Pure S (.bool (bP (a = b)))) := by
  refine con_of (args := [.slice A a.length ca, .slice B b.length cb]) Tryd.func61 rfl Tryd.ntmps61 rfl fun w => ?_
  by_cases hlen : a.length = b.length
  rotate_left
  · (repeat (first | refine Jz ?_ | intro _))
    exact o_ret Tryd.results61 rfl (List.nil_sublist _) ⟨rfl, rfl, by rw [bP_f fun h => hlen (by rw [h])]⟩
  (repeat (first | refine Jz ?_ | intro _))
  refine c_loop (fun m S' L F => S' = S ∧ ∃ i : Nat, m = a.length - i ∧ i ≤ a.length ∧ a.take i = b.take i ∧ L = [] ∧ F = [(0, .slice A a.length ca), (1, .slice B b.length cb), (5, .int .i64 i)]) ⟨rfl, 0, rfl, by omega, rfl, rfl, rfl⟩ sbF sbL ?_
  rintro m S' L F ⟨rfl, i, rfl, hi, heq, rfl, rfl⟩
  by_cases hlt : i < a.length
  · obtain ⟨x, hx⟩ := at_lt' hlt
    obtain ⟨y, hy⟩ := at_lt' (l := b) (by omega : i < b.length)
    by_cases hxy : x = y
    · (repeat (first | refine Jc ?_ | (apply c_draw; (case hB => kernel_rfl); (repeat (first | (apply q_idx hA; (case hg => rfl); (case hd => rfl); (case hx => rfl); (case hi => rfl); (case hm => rfl); (case hu => exact hx); intro p1 (hp1 : Pts _ p1 [.int .i64 x])) | (apply q_idx hB; (case hg => rfl); (case hd => rfl); (case hx => rfl); (case hi => rfl); (case hm => rfl); (case hu => exact hy); intro p2 (hp2 : Pts _ p2 [.int .i64 y])) | (apply q_ev; (case hg => rfl); (case hd => rfl); (case he => (apply ev_load1; (case hx => rfl); (case h => exact hp1)))) | (apply q_ev; (case hg => rfl); (case hd => rfl); (case he => (apply ev_load1; (case hx => rfl); (case h => exact hp2)))) | refine Jd ?_))) | refine Jo ?_ | intro _))
      exact q_back (m' := a.length - (i + 1)) ⟨rfl, i + 1, rfl, by omega, by rw [take_at' hx, take_at' hy, heq, hxy], rfl, rfl⟩ (by omega) sbF sbL
    · (repeat (first | refine Jc ?_ | (apply c_draw; (case hB => kernel_rfl); (repeat (first | (apply q_idx hA; (case hg => rfl); (case hd => rfl); (case hx => rfl); (case hi => rfl); (case hm => rfl); (case hu => exact hx); intro p1 (hp1 : Pts _ p1 [.int .i64 x])) | (apply q_idx hB; (case hg => rfl); (case hd => rfl); (case hx => rfl); (case hi => rfl); (case hm => rfl); (case hu => exact hy); intro p2 (hp2 : Pts _ p2 [.int .i64 y])) | (apply q_ev; (case hg => rfl); (case hd => rfl); (case he => (apply ev_load1; (case hx => rfl); (case h => exact hp1)))) | (apply q_ev; (case hg => rfl); (case hd => rfl); (case he => (apply ev_load1; (case hx => rfl); (case h => exact hp2)))) | refine Jd ?_))) | refine Jo ?_ | intro _))
      exact o_ret Tryd.results61 rfl (List.nil_sublist _) ⟨rfl, rfl, by rw [bP_f fun h => hxy (by subst h; rw [hx] at hy; injection hy)]⟩
  (repeat (first | refine Jz ?_ | intro _))
  exact o_ret Tryd.results61 rfl (List.nil_sublist _) ⟨rfl, rfl, by rw [bP_t (by rw [List.take_of_length_le (by omega), List.take_of_length_le (by omega)] at heq; exact heq)]⟩
theorem bef_eq {a b : PC} (h1 : ¬ Bef a b) (h2 : ¬ Bef b a) : a.key = b.key := by
  unfold Bef at *
  have := cmpL_neg a.key b.key
  exact cmpL_eq0 (by omega)
theorem bef_irr (a b : PC) (h : a.key = b.key) : ¬ Bef a b := by unfold Bef; rw [h, cmpL_self]; decide
theorem rSameCell_con (p q : Ce) (S : SH) (hp : p.ok S) (hq : q.ok S) : Con Tryd.prog 30 #[.agg p.vals.toArray, .agg q.vals.toArray] S [] (Pure S (.bool (bP (p.p = q.p)))) := by
  refine con_of (args := [.agg p.vals.toArray, .agg q.vals.toArray]) Tryd.func30 rfl Tryd.ntmps30 rfl fun w => ?_
  have c1 := rBefore_con p q S
  have c2 := rBefore_con q p S
  by_cases h1 : Bef p.p q.p
  · rw [bP_t h1] at c1
    rw [bP_f (fun e => bef_irr _ _ (by rw [e]) h1)]
    unfold Ce.vals at c1 ⊢
    (repeat (first | refine Jc ?_ | ((apply z_call; rfl; rfl; rfl; exact c1; rintro _ _ _ - ⟨rfl, rfl, rfl⟩)) | refine Jo ?_ | intro _))
    exact o_ret (L' := []) Tryd.results30 rfl (List.nil_sublist _) ⟨rfl, rfl, rfl⟩
  by_cases h2 : Bef q.p p.p
  · rw [bP_f h1] at c1
    rw [bP_t h2] at c2
    rw [bP_f (fun e => bef_irr _ _ (by rw [e]) h2)]
    unfold Ce.vals at c1 c2 ⊢
    (repeat (first | refine Jc ?_ | ((apply z_call; rfl; rfl; rfl; exact c1; rintro _ _ _ - ⟨rfl, rfl, rfl⟩)) | ((apply z_call; rfl; rfl; rfl; exact c2; rintro _ _ _ - ⟨rfl, rfl, rfl⟩)) | refine Jo ?_ | intro _))
    exact o_ret (L' := []) Tryd.results30 rfl (List.nil_sublist _) ⟨rfl, rfl, rfl⟩
  have hk := bef_eq h1 h2
  rw [bP_f h1] at c1
  rw [bP_f h2] at c2
  obtain ⟨⟨a0, a1, a2, a3, ⟨an, al, ah, ab, als, ahs⟩⟩, pla, plc, pha, phc⟩ := p
  obtain ⟨⟨b0, b1, b2, b3, ⟨bn, bl, bh, bb, bls, bhs⟩⟩, qla, qlc, qha, qhc⟩ := q
  simp only [PC.key, List.cons.injEq, and_true] at hk
  obtain ⟨rfl, rfl, rfl, rfl⟩ := hk
  obtain ⟨p1, p2, p3, p4, p5, p6⟩ := hp
  obtain ⟨q1, q2, q3, q4, q5, q6⟩ := hq
  dsimp only at *
  have i1 := rints_con als bls pla qla plc qlc S p1 q1 (by omega) (by omega)
  have i2 := rints_con ahs bhs pha qha phc qhc S p2 q2 (by omega) (by omega)
  have hiff : ((⟨a0, a1, a2, a3, ⟨an, al, ah, ab, als, ahs⟩⟩ : PC) = ⟨a0, a1, a2, a3, ⟨bn, bl, bh, bb, bls, bhs⟩⟩) ↔ (an = bn ∧ al = bl ∧ ah = bh ∧ ab = bb ∧ als = bls ∧ ahs = bhs) := by simp
  unfold Ce.vals at *
  dsimp only at *
  by_cases g1 : an = bn
  rotate_left
  · rw [bP_f (fun e => g1 (hiff.1 e).1)]
    (repeat (first | refine Jc ?_ | ((apply z_call; rfl; rfl; rfl; exact c1; rintro _ _ _ - ⟨rfl, rfl, rfl⟩)) | ((apply z_call; rfl; rfl; rfl; exact c2; rintro _ _ _ - ⟨rfl, rfl, rfl⟩)) | refine Jo ?_ | intro _))
    exact o_ret (L' := []) Tryd.results30 rfl (List.nil_sublist _) ⟨rfl, rfl, rfl⟩
  by_cases g2 : al = bl
  rotate_left
  · rw [bP_f (fun e => g2 (hiff.1 e).2.1)]
    (repeat (first | refine Jc ?_ | ((apply z_call; rfl; rfl; rfl; exact c1; rintro _ _ _ - ⟨rfl, rfl, rfl⟩)) | ((apply z_call; rfl; rfl; rfl; exact c2; rintro _ _ _ - ⟨rfl, rfl, rfl⟩)) | refine Jo ?_ | intro _))
    exact o_ret (L' := []) Tryd.results30 rfl (List.nil_sublist _) ⟨rfl, rfl, rfl⟩
  by_cases g3 : ah = bh
  rotate_left
  · rw [bP_f (fun e => g3 (hiff.1 e).2.2.1)]
    (repeat (first | refine Jc ?_ | ((apply z_call; rfl; rfl; rfl; exact c1; rintro _ _ _ - ⟨rfl, rfl, rfl⟩)) | ((apply z_call; rfl; rfl; rfl; exact c2; rintro _ _ _ - ⟨rfl, rfl, rfl⟩)) | refine Jo ?_ | intro _))
    exact o_ret (L' := []) Tryd.results30 rfl (List.nil_sublist _) ⟨rfl, rfl, rfl⟩
  by_cases g4 : ab = bb
  rotate_left
  · rw [bP_f (fun e => g4 (hiff.1 e).2.2.2.1)]
    (repeat (first | refine Jc ?_ | ((apply z_call; rfl; rfl; rfl; exact c1; rintro _ _ _ - ⟨rfl, rfl, rfl⟩)) | ((apply z_call; rfl; rfl; rfl; exact c2; rintro _ _ _ - ⟨rfl, rfl, rfl⟩)) | refine Jo ?_ | intro _))
    exact o_ret (L' := []) Tryd.results30 rfl (List.nil_sublist _) ⟨rfl, rfl, rfl⟩
  by_cases g5 : als = bls
  rotate_left
  · rw [bP_f (fun e => g5 (hiff.1 e).2.2.2.2.1)]
    rw [bP_f g5] at i1
    (repeat (first | refine Jc ?_ | ((apply z_call; rfl; rfl; rfl; exact c1; rintro _ _ _ - ⟨rfl, rfl, rfl⟩)) | ((apply z_call; rfl; rfl; rfl; exact c2; rintro _ _ _ - ⟨rfl, rfl, rfl⟩)) | ((apply z_call; rfl; rfl; rfl; exact i1; rintro _ _ _ - ⟨rfl, rfl, rfl⟩)) | refine Jo ?_ | intro _))
    exact o_ret (L' := []) Tryd.results30 rfl (List.nil_sublist _) ⟨rfl, rfl, rfl⟩
  rw [bP_t g5] at i1
  have hh : bP ((⟨a0, a1, a2, a3, ⟨an, al, ah, ab, als, ahs⟩⟩ : PC) = ⟨a0, a1, a2, a3, ⟨bn, bl, bh, bb, bls, bhs⟩⟩) = bP (ahs = bhs) := by
    by_cases g6 : ahs = bhs
    · rw [bP_t g6, bP_t (hiff.2 ⟨g1, g2, g3, g4, g5, g6⟩)]
    · rw [bP_f g6, bP_f (fun e => g6 (hiff.1 e).2.2.2.2.2)]
  rw [hh]
  (repeat (first | refine Jc ?_ | ((apply z_call; rfl; rfl; rfl; exact c1; rintro _ _ _ - ⟨rfl, rfl, rfl⟩)) | ((apply z_call; rfl; rfl; rfl; exact c2; rintro _ _ _ - ⟨rfl, rfl, rfl⟩)) | ((apply z_call; rfl; rfl; rfl; exact i1; rintro _ _ _ - ⟨rfl, rfl, rfl⟩)) | ((apply z_call; rfl; rfl; rfl; exact i2; rintro _ _ _ - ⟨rfl, rfl, rfl⟩)) | refine Jo ?_ | intro _))
  exact o_ret (L' := []) Tryd.results30 rfl (List.nil_sublist _) ⟨rfl, rfl, rfl⟩
end Go.Proofs.YtogfficbloejcaaDoor
namespace Go.Proofs.YtogfficbloejcaaDoor
open Go Go.X
set_option maxRecDepth 10000
set_option linter.unusedVariables false
attribute [local irreducible] Code.wpIn wpListIn Exit.then Exit.inBlock X.Out X.Back X.W X.Ev X.Con X.BinV X.Wh X.Wn X.Wq
theorem counts_le {l : List Int} {n s : Int} (h : CountsP l n s) : ∀ c ∈ l, c ≤ n := by
  intro c hc
  obtain ⟨i, hi⟩ := List.getElem?_of_mem hc
  have hn : ∀ x ∈ l, 0 ≤ x := fun x hx => (h.each x hx).1
  have h1 := sum_take_le l hn (i + 1)
  have h2 := sum_take_le l hn i
  rw [take_at' hi, List.sum_append] at h1
  simp only [List.sum_cons, List.sum_nil] at h1
  have := h.tot
  omega
theorem rfits_con (l : List Int) (A : Option Addr) (c : Nat) (number sum : Int) (S : SH) (hA : At S A l) (hl : l.length ≤ 1000000) (hn : number ≤ 1000000) :
    Con Tryd.prog 87 #[.slice A l.length c, .int .i64 number, .int .i64 sum] S [] (Pure S (.bool (bP (CountsP l number sum)))) := by
  refine con_of (args := [.slice A l.length c, .int .i64 number, .int .i64 sum]) Tryd.func87 rfl Tryd.ntmps87 rfl fun w => ?_
  by_cases hlen : l.length = 44
  rotate_left
  · (repeat (first | refine Jz ?_ | intro _))
    exact o_ret Tryd.results87 rfl (List.nil_sublist _) ⟨rfl, rfl, by rw [bP_f fun h => hlen h.len]⟩
  (repeat (first | refine Jz ?_ | intro _))
  refine c_loop (fun m S' L F => S' = S ∧ L = [] ∧ ∃ (k : Nat), m = 44 - k ∧ k ≤ 44 ∧ (∀ x ∈ l.take k, 0 ≤ x ∧ x ≤ number) ∧ ∃ sk : Int, sk = (l.take k).sum ∧
      F = [(0, .slice A l.length c), (1, .int .i64 number), (2, .int .i64 sum), (7, .int .i64 sk), (8, .int .i64 k)]) ⟨rfl, rfl, 0, rfl, by omega, by simp, 0, by simp, rfl⟩ sbF sbL ?_
  rintro m S' L F ⟨rfl, rfl, k, rfl, hk1, hall, sk, hsk, rfl⟩
  by_cases hlt : k < 44
  · obtain ⟨x, hx⟩ := at_lt' (l := l) (by omega : k < l.length)
    have htk := take_at' hx
    have hb := sum_le (l.take k) 1000000 (fun c hc => by have := (hall c hc).2; omega)
    have hb0 := sum_nonneg (l.take k) (fun c hc => (hall c hc).1)
    rw [List.length_take, Nat.min_eq_left (by omega), ← hsk] at hb
    rw [← hsk] at hb0
    have ic := rin_con x 0 number S'
    by_cases hg : 0 ≤ x ∧ x ≤ number
    rotate_left
    · rw [bP_f hg] at ic
      (repeat (first | refine Jc ?_ | (apply s_idx hA; (case hg => rfl); (case hd => rfl); (case hx => rfl); (case hi => rfl); (case hm => rfl); (case hu => exact hx); intro p hp) | (apply s_load1; (case hg => rfl); (case hd => rfl); (case hx => rfl); (case hv => exact hp)) | ((apply z_call; rfl; rfl; rfl; exact ic; rintro _ _ _ - ⟨rfl, rfl, rfl⟩)) | refine Jo ?_ | intro _))
      refine o_ret Tryd.results87 rfl (List.nil_sublist _) ⟨rfl, rfl, ?_⟩
      rw [bP_f fun h => hg ⟨(h.each x (List.mem_of_getElem? hx)).1, counts_le h x (List.mem_of_getElem? hx)⟩]
    rw [bP_t hg] at ic
    (repeat (first | refine Jc ?_ | (apply s_idx hA; (case hg => rfl); (case hd => rfl); (case hx => rfl); (case hi => rfl); (case hm => rfl); (case hu => exact hx); intro p hp) | (apply s_load1; (case hg => rfl); (case hd => rfl); (case hx => rfl); (case hv => exact hp)) | ((apply z_call; rfl; rfl; rfl; exact ic; rintro _ _ _ - ⟨rfl, rfl, rfl⟩)) | refine Jo ?_ | intro _))
    refine q_back (m' := 44 - (k + 1)) ⟨rfl, rfl, k + 1, rfl, by omega, ?_, sk + x, by rw [htk, List.sum_append, ← hsk]; simp, rfl⟩ (by omega) sbF (List.Sublist.refl _)
    intro y hy
    rw [htk] at hy
    rcases List.mem_append.1 hy with hy | hy
    · exact hall y hy
    · rw [List.mem_singleton.1 hy]; exact hg
  obtain rfl : k = 44 := by omega
  rw [List.take_of_length_le (by omega)] at hall hsk
  subst hsk
  by_cases hsum : l.sum = number
  rotate_left
  · (repeat (first | refine Jz ?_ | intro _))
    exact o_ret Tryd.results87 rfl (List.nil_sublist _) ⟨rfl, rfl, by rw [bP_f fun h => hsum h.tot]⟩
  (repeat (first | refine Jz ?_ | intro _))
  have hnn : ∀ x ∈ l, 0 ≤ x := fun x hx => (hall x hx).1
  refine c_loop (fun m S2 L F => S2 = S' ∧ L = [] ∧ ∃ (k : Nat), m = 44 - k ∧ k ≤ 44 ∧ ∃ lo hi : Int, lo = sumE eLo 0 (l.take k) ∧ hi = sumE eHi 0 (l.take k) ∧
      F = [(0, .slice A l.length c), (2, .int .i64 sum), (9, .int .i64 lo), (10, .int .i64 hi), (11, .int .i64 k)]) ⟨rfl, rfl, 0, rfl, by omega, 0, 0, by simp [sumE], by simp [sumE], rfl⟩ sbF (List.Sublist.refl _) ?_
  rintro m S2 L F ⟨rfl, rfl, k, rfl, hk1, lo, hi, hlo, hhi, rfl⟩
  by_cases hlt2 : k < 44
  rotate_left
  · obtain rfl : k = 44 := by omega
    rw [List.take_of_length_le (by omega)] at hlo hhi
    have ic := rin_con sum lo hi S2
    have hiff : (lo ≤ sum ∧ sum ≤ hi) ↔ CountsP l number sum := ⟨fun h => ⟨hlen, fun c hc => by have := hall c hc; omega, hsum, by omega, by omega⟩, fun h => ⟨by rw [hlo]; exact h.lo, by rw [hhi]; exact h.hi⟩⟩
    rw [show bP (lo ≤ sum ∧ sum ≤ hi) = bP (CountsP l number sum) by rw [propext hiff]] at ic
    (repeat (first | refine Jc ?_ | ((apply z_call; rfl; rfl; rfl; exact ic; rintro _ _ _ - ⟨rfl, rfl, rfl⟩)) | refine Jo ?_ | intro _))
    exact o_ret Tryd.results87 rfl (List.nil_sublist _) ⟨rfl, rfl, rfl⟩
  obtain ⟨x, hx⟩ := at_lt' (l := l) (by omega : k < l.length)
  have htk := take_at' hx
  have hx0 := hall x (List.mem_of_getElem? hx)
  obtain ⟨e1, e2, e3⟩ := edges_bd k (by omega)
  obtain ⟨s1, s2⟩ := sum_take_le l hnn (k + 1)
  have b1 := sumE_bd 0 (l.take (k + 1)) (fun y hy => hnn y (List.mem_of_mem_take hy)) (by simp; omega)
  have b2 := sumE_bd 0 (l.take k) (fun y hy => hnn y (List.mem_of_mem_take hy)) (by simp; omega)
  have hkl : k ≤ l.length := by omega
  have l1 : sumE eLo 0 (l.take (k + 1)) = lo + x * eLo k := by rw [htk, sumE_snoc, ← hlo]; simp [Nat.min_eq_left hkl]
  have l2 : sumE eHi 0 (l.take (k + 1)) = hi + x * eHi k := by rw [htk, sumE_snoc, ← hhi]; simp [Nat.min_eq_left hkl]
  have m1 := Int.mul_nonneg hx0.1 e1
  have m2 := Int.mul_nonneg hx0.1 (Int.le_trans e1 e2)
  have hbig : (l.take (k + 1)).sum * 4398046511104 ≤ 1000000 * 4398046511104 := Int.mul_le_mul_of_nonneg_right (by omega) (by decide)
  rw [← hlo, ← hhi] at b2
  rw [l1, l2] at b1
  unfold eLo at e1 e2 m1 b1
  unfold eHi at e2 e3 m2 b1
  (repeat (first | refine Jc ?_ | (apply s_idx hA; (case hg => rfl); (case hd => rfl); (case hx => rfl); (case hi => rfl); (case hm => rfl); (case hu => exact hx); intro p hp) | (apply s_load1; (case hg => rfl); (case hd => rfl); (case hx => rfl); (case hv => exact hp)) | (apply z_call; rfl; rfl; rfl; exact rEdges_con (k : Int) _; rintro _ _ _ - ⟨rfl, rfl, rfl⟩) | refine Jo ?_ | intro _))
  exact q_back (m' := 44 - (k + 1)) ⟨rfl, rfl, k + 1, rfl, by omega, lo + x * (edges (k : Int)).1, hi + x * (edges (k : Int)).2, l1.symm, l2.symm, rfl⟩ (by omega) sbF (List.Sublist.refl _)
theorem rWhole_con (q : Ce) (S : SH) (hq : q.ok S) : Con Tryd.prog 57 #[.agg q.vals.toArray] S [] (Pure S (.bool (bP (CellP q.p.x)))) := by
  refine con_of (args := [.agg q.vals.toArray]) Tryd.func57 rfl Tryd.ntmps57 rfl fun w => ?_
  obtain ⟨⟨qs, qv, qo, qd, ⟨qn, ql, qh, qb, qls, qhs⟩⟩, qla, qlc, qha, qhc⟩ := q
  obtain ⟨q1, q2, q3, q4, q5, q6⟩ := hq
  unfold Ce.vals
  dsimp only at *
  have i1 := rin_con qn 1 1000000 S
  by_cases h1 : 1 ≤ qn ∧ qn ≤ 1000000
  rotate_left
  · rw [bP_f h1] at i1
    rw [bP_f (fun h => h1 ⟨h.n1, h.n2⟩)]
    (repeat (first | refine Jc ?_ | ((apply z_call; rfl; rfl; rfl; exact i1; rintro _ _ _ - ⟨rfl, rfl, rfl⟩)) | refine Jo ?_ | intro _))
    exact o_ret (L' := []) Tryd.results57 rfl (List.nil_sublist _) ⟨rfl, rfl, rfl⟩
  rw [bP_t h1] at i1
  have i2 := rin_con qb 0 (24000 * qn) S
  by_cases h2 : 0 ≤ qb ∧ qb ≤ 24000 * qn
  rotate_left
  · rw [bP_f h2] at i2
    rw [bP_f (fun h => h2 ⟨h.b1, h.b2⟩)]
    (repeat (first | refine Jc ?_ | ((apply z_call; rfl; rfl; rfl; exact i1; rintro _ _ _ - ⟨rfl, rfl, rfl⟩)) | ((apply z_call; rfl; rfl; rfl; exact i2; rintro _ _ _ - ⟨rfl, rfl, rfl⟩)) | refine Jo ?_ | intro _))
    exact o_ret (L' := []) Tryd.results57 rfl (List.nil_sublist _) ⟨rfl, rfl, rfl⟩
  rw [bP_t h2] at i2
  have c1 := rfits_con qls qla qlc qn ql S q1 (by omega) h1.2
  have c2 := rfits_con qhs qha qhc qn qh S q2 (by omega) h1.2
  by_cases h3 : CountsP qls qn ql
  rotate_left
  · rw [bP_f h3] at c1
    rw [bP_f (fun h => h3 h.lo)]
    (repeat (first | refine Jc ?_ | ((apply z_call; rfl; rfl; rfl; exact i1; rintro _ _ _ - ⟨rfl, rfl, rfl⟩)) | ((apply z_call; rfl; rfl; rfl; exact i2; rintro _ _ _ - ⟨rfl, rfl, rfl⟩)) | ((apply z_call; rfl; rfl; rfl; exact c1; rintro _ _ _ - ⟨rfl, rfl, rfl⟩)) | refine Jo ?_ | intro _))
    exact o_ret (L' := []) Tryd.results57 rfl (List.nil_sublist _) ⟨rfl, rfl, rfl⟩
  rw [bP_t h3] at c1
  have hiff : CountsP qhs qn qh ↔ CellP ⟨qn, ql, qh, qb, qls, qhs⟩ := ⟨fun h => ⟨h1.1, h1.2, h2.1, h2.2, h3, h⟩, fun h => h.hi⟩
  rw [propext hiff] at c2
  (repeat (first | refine Jc ?_ | ((apply z_call; rfl; rfl; rfl; exact i1; rintro _ _ _ - ⟨rfl, rfl, rfl⟩)) | ((apply z_call; rfl; rfl; rfl; exact i2; rintro _ _ _ - ⟨rfl, rfl, rfl⟩)) | ((apply z_call; rfl; rfl; rfl; exact c1; rintro _ _ _ - ⟨rfl, rfl, rfl⟩)) | ((apply z_call; rfl; rfl; rfl; exact c2; rintro _ _ _ - ⟨rfl, rfl, rfl⟩)) | refine Jo ?_ | intro _))
  exact o_ret (L' := []) Tryd.results57 rfl (List.nil_sublist _) ⟨rfl, rfl, rfl⟩
theorem KeyP_iff (c : PC) : KeyP c.key ↔ ((0 ≤ c.s ∧ c.s ≤ 7) ∧ (0 ≤ c.v ∧ c.v ≤ 9) ∧ (0 ≤ c.o ∧ c.o ≤ 11) ∧ (0 ≤ c.d ∧ c.d ≤ 99)) := by
  constructor
  · exact fun h => ⟨h 0 _ _ rfl rfl, h 1 _ _ rfl rfl, h 2 _ _ rfl rfl, h 3 _ _ rfl rfl⟩
  · rintro ⟨h0, h1, h2, h3⟩ j x y hx hy
    match j with
    | 0 => simp [PC.key, limsL] at hx hy; subst hx hy; exact h0
    | 1 => simp [PC.key, limsL] at hx hy; subst hx hy; exact h1
    | 2 => simp [PC.key, limsL] at hx hy; subst hx hy; exact h2
    | 3 => simp [PC.key, limsL] at hx hy; subst hx hy; exact h3
    | j + 4 => simp [PC.key] at hx
theorem rValidCell_con (q : Ce) (S : SH) (hq : q.ok S) : Con Tryd.prog 55 #[.agg q.vals.toArray] S [] (Pure S (.bool (bP (PcP q.p)))) := by
  refine con_of (args := [.agg q.vals.toArray]) Tryd.func55 rfl Tryd.ntmps55 rfl fun w => ?_
  have wc := rWhole_con q S hq
  have hk := KeyP_iff q.p
  obtain ⟨⟨qs, qv, qo, qd, qx⟩, qla, qlc, qha, qhc⟩ := q
  have hpi : PcP ⟨qs, qv, qo, qd, qx⟩ ↔ KeyP (⟨qs, qv, qo, qd, qx⟩ : PC).key ∧ CellP qx := ⟨fun h => ⟨h.key, h.cell⟩, fun h => ⟨h.1, h.2⟩⟩
  dsimp only at *
  rw [hk] at hpi
  unfold Ce.vals at *
  dsimp only at *
  have i1 := rin_con qs 0 7 S
  have i2 := rin_con qv 0 9 S
  have i3 := rin_con qo 0 11 S
  have i4 := rin_con qd 0 99 S
  by_cases h1 : 0 ≤ qs ∧ qs ≤ 7
  rotate_left
  · rw [bP_f h1] at i1
    rw [bP_f (fun h => h1 (hpi.1 h).1.1)]
    (repeat (first | refine Jc ?_ | ((apply z_call; rfl; rfl; rfl; exact i1; rintro _ _ _ - ⟨rfl, rfl, rfl⟩)) | refine Jo ?_ | intro _))
    exact o_ret (L' := []) Tryd.results55 rfl (List.nil_sublist _) ⟨rfl, rfl, rfl⟩
  rw [bP_t h1] at i1
  by_cases h2 : 0 ≤ qv ∧ qv ≤ 9
  rotate_left
  · rw [bP_f h2] at i2
    rw [bP_f (fun h => h2 (hpi.1 h).1.2.1)]
    (repeat (first | refine Jc ?_ | ((apply z_call; rfl; rfl; rfl; exact i1; rintro _ _ _ - ⟨rfl, rfl, rfl⟩)) | ((apply z_call; rfl; rfl; rfl; exact i2; rintro _ _ _ - ⟨rfl, rfl, rfl⟩)) | refine Jo ?_ | intro _))
    exact o_ret (L' := []) Tryd.results55 rfl (List.nil_sublist _) ⟨rfl, rfl, rfl⟩
  rw [bP_t h2] at i2
  by_cases h3 : 0 ≤ qo ∧ qo ≤ 11
  rotate_left
  · rw [bP_f h3] at i3
    rw [bP_f (fun h => h3 (hpi.1 h).1.2.2.1)]
    (repeat (first | refine Jc ?_ | ((apply z_call; rfl; rfl; rfl; exact i1; rintro _ _ _ - ⟨rfl, rfl, rfl⟩)) | ((apply z_call; rfl; rfl; rfl; exact i2; rintro _ _ _ - ⟨rfl, rfl, rfl⟩)) | ((apply z_call; rfl; rfl; rfl; exact i3; rintro _ _ _ - ⟨rfl, rfl, rfl⟩)) | refine Jo ?_ | intro _))
    exact o_ret (L' := []) Tryd.results55 rfl (List.nil_sublist _) ⟨rfl, rfl, rfl⟩
  rw [bP_t h3] at i3
  by_cases h4 : 0 ≤ qd ∧ qd ≤ 99
  rotate_left
  · rw [bP_f h4] at i4
    rw [bP_f (fun h => h4 (hpi.1 h).1.2.2.2)]
    (repeat (first | refine Jc ?_ | ((apply z_call; rfl; rfl; rfl; exact i1; rintro _ _ _ - ⟨rfl, rfl, rfl⟩)) | ((apply z_call; rfl; rfl; rfl; exact i2; rintro _ _ _ - ⟨rfl, rfl, rfl⟩)) | ((apply z_call; rfl; rfl; rfl; exact i3; rintro _ _ _ - ⟨rfl, rfl, rfl⟩)) | ((apply z_call; rfl; rfl; rfl; exact i4; rintro _ _ _ - ⟨rfl, rfl, rfl⟩)) | refine Jo ?_ | intro _))
    exact o_ret (L' := []) Tryd.results55 rfl (List.nil_sublist _) ⟨rfl, rfl, rfl⟩
  rw [bP_t h4] at i4
  have hiff : CellP qx ↔ PcP ⟨qs, qv, qo, qd, qx⟩ := ⟨fun h => hpi.2 ⟨⟨h1, h2, h3, h4⟩, h⟩, fun h => h.cell⟩
  rw [propext hiff] at wc
  (repeat (first | refine Jc ?_ | ((apply z_call; rfl; rfl; rfl; exact i1; rintro _ _ _ - ⟨rfl, rfl, rfl⟩)) | ((apply z_call; rfl; rfl; rfl; exact i2; rintro _ _ _ - ⟨rfl, rfl, rfl⟩)) | ((apply z_call; rfl; rfl; rfl; exact i3; rintro _ _ _ - ⟨rfl, rfl, rfl⟩)) | ((apply z_call; rfl; rfl; rfl; exact i4; rintro _ _ _ - ⟨rfl, rfl, rfl⟩)) | ((apply z_call; rfl; rfl; rfl; exact wc; rintro _ _ _ - ⟨rfl, rfl, rfl⟩)) | refine Jo ?_ | intro _))
  exact o_ret (L' := []) Tryd.results55 rfl (List.nil_sublist _) ⟨rfl, rfl, rfl⟩
end Go.Proofs.YtogfficbloejcaaDoor
namespace Go.Proofs.YtogfficbloejcaaDoor
open Go Go.X
set_option maxRecDepth 10000
set_option linter.unusedVariables false
attribute [local irreducible] Code.wpIn wpListIn Exit.then Exit.inBlock X.Out X.Back X.W X.Ev X.Con X.BinV X.Wh X.Wn X.Wq
/-- The encodings of integers, one behind the other. -/
def txt (l : List Int) : Bs := l.flatMap ibs
theorem txt_nil : txt [] = [] := rfl
theorem txt_cons (n : Int) (l : List Int) : txt (n :: l) = ibs n ++ txt l := by simp [txt]
theorem txt_app (l m : List Int) : txt (l ++ m) = txt l ++ txt m := by simp [txt]
theorem txt_take {l : List Int} {i : Nat} {n : Int} (h : l[i]? = some n) : txt (l.take (i + 1)) = txt (l.take i) ++ ibs n := by
  rw [List.take_add_one, h, txt_app]; simp [txt]
theorem txt_len {l : List Int} (h : ∀ n ∈ l, wOk n) : (txt l).length ≤ 9 * l.length := by
  induction l with
  | nil => simp [txt]
  | cons n l ih =>
    rw [txt_cons, List.length_append, List.length_cons]
    have h1 := ibs_len (h n List.mem_cons_self)
    have h2 := ih fun m hm => h m (List.mem_cons_of_mem _ hm)
    omega
theorem put_con (ns : List Int) (A : Option Addr) (c : Nat) (out : Bs) (b0 : Nat) (S : SH) (hA : At S A ns) (hw : ∀ n ∈ ns, wOk n) (hl : ns.length ≤ 1000000) (ho : out.length ≤ 1000000000000) :
    Con Tryd.prog 65 #[.slice A ns.length c, .pointer (some ⟨b0, 0, none⟩)] S [(b0, .cells [strV out].toArray 9 (0, 0))] (fun S' L' v => S' = S ∧ L' = [(b0, .cells [strV (out ++ txt ns)].toArray 9 (0, 0))] ∧ v = .tuple #[]) := by
  refine con_of (args := [.slice A ns.length c, .pointer (some ⟨b0, 0, none⟩)]) Tryd.func65 rfl Tryd.ntmps65 rfl fun w => ?_
  (repeat (first | refine Jz ?_ | intro _))
  refine c_loop (fun m S' L F => S' = S ∧ ∃ i : Nat, m = ns.length - i ∧ i ≤ ns.length ∧ L = [(b0, .cells [strV (out ++ txt (ns.take i))].toArray 9 (0, 0))] ∧
      F = [(1, .pointer (some ⟨b0, 0, none⟩)), (7, .slice A ns.length c), (8, .int .i64 ns.length), (9, .int .i64 i)]) (L' := [(b0, .cells [strV out].toArray 9 (0, 0))]) ⟨rfl, 0, rfl, by omega, by rw [List.take_zero, txt_nil, List.append_nil], rfl⟩ sbF (List.Sublist.refl _) ?_
  rintro m S' L F ⟨rfl, i, rfl, hi, rfl, rfl⟩
  by_cases hlt : i < ns.length
  rotate_left
  · (repeat (first | refine Jz ?_ | intro _))
    exact o_ret0 (.inr rfl) Tryd.results65 (List.Sublist.refl _) ⟨rfl, by rw [List.take_of_length_le (by omega)], rfl⟩
  obtain ⟨n, hn⟩ := at_lt' hlt
  have hwn := hw n (List.mem_of_getElem? hn)
  have hpn := PutInt_con n S' (by unfold wOk at hwn; omega)
  rw [putV, if_pos hwn] at hpn
  have htl : (txt (ns.take i)).length ≤ 9 * i := by
    have := txt_len (l := ns.take i) fun m hm => hw m (List.mem_of_mem_take hm)
    rw [List.length_take] at this
    omega
  have hnl := ibs_len hwn
  (repeat (first | refine Jc ?_ | (apply s_idx hA; (case hg => rfl); (case hd => rfl); (case hx => rfl); (case hi => rfl); (case hm => rfl); (case hu => exact hn); intro p (hp : Pts _ p [.int .i64 n])) | (apply s_load1; (case hg => rfl); (case hd => rfl); (case hx => rfl); (case hv => exact hp)) | ((apply z_call; rfl; rfl; rfl; exact hpn; rintro _ _ _ - ⟨rfl, rfl, rfl⟩)) | (apply s_evb; (case hg => rfl); (case hd => rfl); (case hn => rfl); (case he => ((apply ev_add_bs; (case hx => rfl); (case hy => rfl); (case h => (simp only [List.length_append]; omega)))))) | refine Jo ?_ | intro _))
  refine q_back (m' := ns.length - (i + 1)) ⟨rfl, i + 1, rfl, by omega, ?_, rfl⟩ (by omega) sbF sbL
  rw [txt_take hn]; rw [List.append_assoc]; rfl
end Go.Proofs.YtogfficbloejcaaDoor
namespace Go.Proofs.YtogfficbloejcaaDoor
open Go Go.X
set_option maxRecDepth 10000
set_option linter.unusedVariables false
attribute [local irreducible] Code.wpIn wpListIn Exit.then Exit.inBlock X.Out X.Back X.W X.Ev X.Con X.BinV X.Wh X.Wn X.Wq
/-- The buckets that are not empty, with their counts. -/
def someI : Nat → List Int → List Int
  | _, [] => []
  | k, n :: t => if n = 0 then someI (k + 1) t else (k : Int) :: n :: someI (k + 1) t
theorem someI_snoc : ∀ (l : List Int) (k : Nat) (n : Int), someI k (l ++ [n]) = someI k l ++ (if n = 0 then [] else [((k + l.length : Nat) : Int), n])
  | [], k, n => by simp [someI]
  | a :: l, k, n => by
    have ih := someI_snoc l (k + 1) n
    rw [List.length_cons, show k + (l.length + 1) = k + 1 + l.length by omega]
    simp only [List.cons_append, someI, ih]
    split <;> simp
theorem someI_take {l : List Int} {i : Nat} {n : Int} (h : l[i]? = some n) : someI 0 (l.take (i + 1)) = someI 0 (l.take i) ++ (if n = 0 then [] else [(i : Int), n]) := by
  have hl := (List.getElem?_eq_some_iff.1 h).1
  rw [take_at' h, someI_snoc, List.length_take, Nat.min_eq_left (by omega), Nat.zero_add]
theorem someI_len : ∀ (l : List Int) (k : Nat), (someI k l).length ≤ 2 * l.length
  | [], k => by simp [someI]
  | a :: l, k => by
    have := someI_len l (k + 1)
    simp only [someI]
    split <;> simp only [List.length_cons] <;> omega
def rowI (l : List Int) : List Int := ((someI 0 l).length : Int) / 2 :: someI 0 l
def cellI (c : PC) : List Int := [c.s, c.v, c.o, c.d, c.x.n, c.x.lo, c.x.hi, c.x.by_] ++ (rowI c.x.ls ++ rowI c.x.hs)
/-- The integers that a sketch's encoding is made of. -/
def skI (l : List PC) : List Int := (l.length : Int) :: l.flatMap cellI
theorem someI_ok : ∀ (l : List Int) (k : Nat), k + l.length ≤ 44 → (∀ c ∈ l, 0 ≤ c ∧ c ≤ 1000000) → ∀ n ∈ someI k l, wOk n
  | [], k, _, _, n, h => by simp [someI] at h
  | a :: l, k, hk, hl, n, h => by
    rw [List.length_cons] at hk
    have ha := hl a List.mem_cons_self
    have ih := someI_ok l (k + 1) (by omega) (fun c hc => hl c (List.mem_cons_of_mem _ hc))
    simp only [someI] at h
    split at h
    · exact ih n h
    · rcases List.mem_cons.1 h with rfl | h
      · unfold wOk; omega
      · rcases List.mem_cons.1 h with rfl | h
        · unfold wOk; omega
        · exact ih n h
theorem CountsP.sum_bd {l : List Int} {n s : Int} (h : CountsP l n s) : 0 ≤ s ∧ s ≤ n * 4398046511104 := by
  obtain ⟨h1, h2, h3⟩ := sumE_bd 0 l (fun c hc => (h.each c hc).1) (by have := h.len; omega)
  have := h.lo
  have := h.hi
  have := h.tot
  subst this
  omega
theorem rowI_ok {l : List Int} {n s : Int} (h : CountsP l n s) : ∀ x ∈ rowI l, wOk x := by
  have hl := h.len
  have hs := someI_len l 0
  intro x hx
  rcases List.mem_cons.1 hx with rfl | hx
  · unfold wOk; omega
  · exact someI_ok l 0 (by omega) h.each x hx
theorem KeyP.bd {c : PC} (h : KeyP c.key) : (0 ≤ c.s ∧ c.s ≤ 7) ∧ (0 ≤ c.v ∧ c.v ≤ 9) ∧ (0 ≤ c.o ∧ c.o ≤ 11) ∧ (0 ≤ c.d ∧ c.d ≤ 99) := ⟨h 0 _ _ rfl rfl, h 1 _ _ rfl rfl, h 2 _ _ rfl rfl, h 3 _ _ rfl rfl⟩
theorem PcP.head {c : PC} (h : PcP c) : ∀ x ∈ [c.s, c.v, c.o, c.d, c.x.n, c.x.lo, c.x.hi, c.x.by_], wOk x := by
  obtain ⟨h1, h2, h3, h4⟩ := KeyP.bd h.key
  obtain ⟨n1, n2, b1, b2, lo, hi⟩ := h.cell
  have l1 := lo.sum_bd
  have l2 := hi.sum_bd
  intro x hx
  simp only [List.mem_cons, List.not_mem_nil, or_false] at hx
  unfold wOk
  rcases hx with rfl | rfl | rfl | rfl | rfl | rfl | rfl | rfl <;> omega
theorem cellI_ok {c : PC} (h : PcP c) : ∀ x ∈ cellI c, wOk x := by
  intro x hx
  rcases List.mem_append.1 hx with hx | hx
  · exact h.head x hx
  · rcases List.mem_append.1 hx with hx | hx
    · exact rowI_ok h.cell.lo x hx
    · exact rowI_ok h.cell.hi x hx
theorem rowI_len {l : List Int} (h : l.length = 44) : (rowI l).length ≤ 89 := by
  have := someI_len l 0
  simp only [rowI, List.length_cons]; omega
theorem cellI_len {c : PC} (h : PcP c) : (cellI c).length ≤ 186 := by
  have h1 := rowI_len h.cell.lo.len
  have h2 := rowI_len h.cell.hi.len
  simp only [cellI, List.length_append, List.length_cons, List.length_nil]; omega
theorem cells_len {l : List PC} (h : ∀ c ∈ l, PcP c) : (l.flatMap cellI).length ≤ 186 * l.length := by
  induction l with
  | nil => simp
  | cons c l ih =>
    have h1 := cellI_len (h c List.mem_cons_self)
    have h2 := ih fun x hx => h x (List.mem_cons_of_mem _ hx)
    rw [List.flatMap_cons, List.length_append, List.length_cons]; omega
theorem skI_ok {l : List PC} (h : ValidP l) : ∀ x ∈ skI l, wOk x := by
  intro x hx
  have := h.len
  rcases List.mem_cons.1 hx with rfl | hx
  · unfold wOk; omega
  · obtain ⟨c, hc, hx⟩ := List.mem_flatMap.1 hx
    exact cellI_ok (h.each c hc) x hx
/-- What Encode answers. -/
noncomputable def encV (l : List PC) : Value := by classical exact if ValidP l then .tuple #[strV (txt (skI l)), .int .i64 0] else .tuple #[strV [], .int .i64 170]
theorem encV_t {l : List PC} (h : ValidP l) : encV l = .tuple #[strV (txt (skI l)), .int .i64 0] := by unfold encV; rw [if_pos h]
theorem encV_f {l : List PC} (h : ¬ ValidP l) : encV l = .tuple #[strV [], .int .i64 170] := by unfold encV; rw [if_neg h]
end Go.Proofs.YtogfficbloejcaaDoor
namespace Go.Proofs.YtogfficbloejcaaDoor
open Go Go.X
set_option maxRecDepth 10000
set_option linter.unusedVariables false
attribute [local irreducible] Code.wpIn wpListIn Exit.then Exit.inBlock X.Out X.Back X.W X.Ev X.Con X.BinV X.Wh X.Wn X.Wq
theorem at_litB {α : Type} [Cl α] {S : SH} {b : Nat} {l : List α} {T : TypeId} {fz : Nat × Nat} {cs : Array Value} (h : S b = some (.cells cs T fz)) (e : cs.toList = cellsOf l) : At S (some ⟨b, 0, none⟩) l := fun _ => ⟨_, rfl, pts_block h (by rw [e]; exact List.take_length)⟩
set_option maxHeartbeats 1600000 in
theorem Encode_con (cs : List Ce) (A : Option Addr) (c : Nat) (S : SH) (hG : Gl S) (hA : At S A cs) (hok : ∀ q ∈ cs, q.ok S) (hl : cs.length ≤ 1000000) :
    Con Tryd.prog 34 #[.agg #[.slice A cs.length c]] S [] (fun S' L' r => L' = [] ∧ r = encV (cs.map (·.p))) := by
  refine con_of (args := [.agg [.slice A cs.length c].toArray]) Tryd.func34 rfl Tryd.ntmps34 rfl fun w => ?_
  have hv := Valid_con cs A c S hG hA hok hl
  by_cases hval : ValidP (cs.map (·.p))
  rotate_left
  · rw [bP_f hval] at hv
    (repeat (first | refine Jc ?_ | ((apply z_call; rfl; rfl; rfl; exact hv; rintro _ _ _ - ⟨rfl, rfl, rfl⟩)) | refine Jo ?_ | intro _))
    rw [encV_f hval]
    exact o_ret2 (L' := []) Tryd.results34 rfl rfl (List.nil_sublist _) ⟨rfl, rfl⟩
  rw [bP_t hval] at hv
  rw [encV_t hval]
  have hlen := hval.len
  rw [List.length_map] at hlen
  have hsk := skI_ok hval
  have hlw : ∀ x ∈ [(cs.length : Int)], wOk x := fun x hx => by rw [List.mem_singleton.1 hx]; unfold wOk; omega
  (repeat (first | refine Jc ?_ | ((apply z_call; rfl; rfl; rfl; exact hv; rintro _ _ _ - ⟨rfl, rfl, rfl⟩)) | (apply s_buildSlice; (case hg => rfl); (case hd => rfl); (case hp => rfl); (case hq => rfl); (case hm => rfl); (case hv => rfl); (case hl => rfl); intro bl; refine W.freeze fun S1 hle1 hb1 => ?_) | refine Jo ?_ | intro _))
  rename_i b1 b4
  (repeat (first | refine Jc ?_ | (apply s_callw (caps := [.pointer (some ⟨b4, 0, none⟩)]); (case hg => rfl); (case hd => rfl); (case hx => rfl); (case i1 => infer_instance); (case ha => rfl); (case hc => exact put_con [(cs.length : Int)] _ 1 [] _ _ (at_litB hb1 rfl) hlw (by simp) (by simp)); (case hL => (exact pmT)); rintro S2 L2 v2 hle2 ⟨rfl, rfl, rfl⟩) | refine Jo ?_ | intro _))
  refine c_loop (fun m S' L F => Le S2 S' ∧ ∃ (i : Nat) (out : Bs), m = cs.length - i ∧ i ≤ cs.length ∧ out = txt ((cs.length : Int) :: ((cs.take i).map (·.p)).flatMap cellI) ∧ out.length ≤ 9 * (1 + 186 * i) ∧ L = [(b4, .cells [strV out].toArray 9 (0, 0))] ∧
      F = [(4, .pointer (some ⟨b4, 0, none⟩)), (5, .func (.func 65) #[] #[.pointer (some ⟨b4, 0, none⟩)]), (24, .slice A cs.length c), (25, .int .i64 cs.length), (26, .int .i64 i)])
    (L' := [(b4, .cells [strV ([] ++ txt [(cs.length : Int)])].toArray 9 (0, 0))]) ⟨Le.refl _, 0, _, rfl, by omega, rfl, txt_len hlw, rfl, rfl⟩ sbF sbL ?_
  rintro m S' L F ⟨hle, i, out, rfl, hi, ho, hol, rfl, rfl⟩
  by_cases hlt : i < cs.length
  rotate_left
  · (repeat (first | refine Jz ?_ | intro _))
    rw [List.take_of_length_le (by omega)] at ho
    exact o_ret2 (L' := []) Tryd.results34 rfl rfl (List.nil_sublist _) ⟨rfl, by rw [ho, skI, List.length_map]⟩
  obtain ⟨q, hq⟩ := at_lt' hlt
  have hqok : q.ok S' := ((hok q (List.mem_of_getElem? hq)).le hle1).le hle
  have hpc : PcP q.p := hval.each q.p (List.mem_map.2 ⟨q, List.mem_of_getElem? hq, rfl⟩)
  have hnext : txt ((cs.length : Int) :: ((cs.take (i + 1)).map (·.p)).flatMap cellI) = out ++ txt (cellI q.p) := by
    rw [take_at' hq, ho, ← txt_app]; simp
  have hA' : At S' A cs := (hA.le hle1).le hle
  obtain ⟨⟨ps, pv, po, pd, ⟨xn, xl, xh, xb, xls, xhs⟩⟩, qla, qlc, qha, qhc⟩ := q
  obtain ⟨q1, q2, q3, q4, q5, q6⟩ := hqok
  have hhd := hpc.head
  have hhl := txt_len hhd
  dsimp only at *
  (repeat (first | refine Jc ?_ | (apply s_idx hA'; (case hg => rfl); (case hd => rfl); (case hx => rfl); (case hi => rfl); (case hm => rfl); (case hu => exact hq); intro p (hp : Pts _ p [.int .i64 ps, .int .i64 pv, .int .i64 po, .int .i64 pd, .int .i64 xn, .int .i64 xl, .int .i64 xh, .int .i64 xb, .slice qla xls.length qlc, .slice qha xhs.length qhc])) | (apply s_load_ag; (case hg => rfl); (case hd => rfl); (case hx => rfl); (case hv => exact hp); (case hl => rfl)) | (apply s_buildSlice; (case hg => rfl); (case hd => rfl); (case hp => rfl); (case hq => rfl); (case hm => rfl); (case hv => rfl); (case hl => rfl); intro bl; refine W.freeze fun S3 hle3 hb3 => ?_) | (apply s_callw (caps := [.pointer (some ⟨b4, 0, none⟩)]); (case hg => rfl); (case hd => rfl); (case hx => rfl); (case i1 => infer_instance); (case ha => rfl); (case hc => exact put_con [ps, pv, po, pd, xn, xl, xh, xb] _ 8 out _ _ (at_litB hb3 rfl) hhd (by simp) (by omega)); (case hL => (exact pmT)); rintro S4 L4 v4 hle4 ⟨rfl, rfl, rfl⟩) | refine Jo ?_ | intro _))
  have hleA : Le S' S3 := Le.trans (by assumption) hle3
  have hT : At S3 (some ⟨bl, 0, none⟩) [(⟨qla, xls.length, qlc⟩ : Sv), ⟨qha, xhs.length, qhc⟩] := at_litB hb3 rfl
  have hrows : ∀ j : Nat, j < 2 → ∃ (a : Option Addr) (row : List Int) (c' : Nat), [(⟨qla, xls.length, qlc⟩ : Sv), ⟨qha, xhs.length, qhc⟩][j]? = some ⟨a, row.length, c'⟩ ∧ [xls, xhs][j]? = some row ∧ At S3 a row ∧ row.length = 44 ∧ ∀ x ∈ rowI row, wOk x := by
    intro j hj
    match j, hj with
    | 0, _ => exact ⟨qla, xls, qlc, rfl, rfl, (q1.le hleA), hpc.cell.lo.len, rowI_ok hpc.cell.lo⟩
    | 1, _ => exact ⟨qha, xhs, qhc, rfl, rfl, (q2.le hleA), hpc.cell.hi.len, rowI_ok hpc.cell.hi⟩
  have hle3' : Le S2 S3 := hle.trans hleA
  obtain ⟨svs, hsvs⟩ : ∃ svs, svs = [(⟨qla, xls.length, qlc⟩ : Sv), ⟨qha, xhs.length, qhc⟩] := ⟨_, rfl⟩
  rw [← hsvs] at hT hrows
  have hsl : svs.length = 2 := by rw [hsvs]; rfl
  refine c_loop (fun m S5 L F => Le S3 S5 ∧ ∃ (j : Nat) (out2 : Bs), m = 2 - j ∧ j ≤ 2 ∧ out2 = out ++ txt ([ps, pv, po, pd, xn, xl, xh, xb] ++ ([xls, xhs].take j).flatMap rowI) ∧ out2.length ≤ 9 * (1 + 186 * i) + 9 * (8 + 89 * j) ∧ L = [(b4, .cells [strV out2].toArray 9 (0, 0))] ∧
      F = [(55, .int .i64 j), (54, .int .i64 2), (53, .slice (some ⟨bl, 0, none⟩) 2 2), (5, .func (.func 65) #[] #[.pointer (some ⟨b4, 0, none⟩)]), (4, .pointer (some ⟨b4, 0, none⟩)), (24, .slice A cs.length c), (25, .int .i64 cs.length), (26, .int .i64 i)])
    (L' := [(b4, .cells [strV (out ++ txt [ps, pv, po, pd, xn, xl, xh, xb])].toArray 9 (0, 0))]) ⟨Le.refl _, 0, _, rfl, by omega, by simp, by rw [List.length_append]; simp at hhl; omega, rfl, rfl⟩ sbF sbL ?_
  rintro m S5 L F ⟨hle5, j, out2, rfl, hj, ho2, hol2, rfl, rfl⟩
  by_cases hj2 : j < 2
  rotate_left
  · (repeat (first | refine Jz ?_ | intro _))
    have hje : j = 2 := by omega
    subst hje
    refine q_back (m' := cs.length - (i + 1)) ⟨hle3'.trans hle5, i + 1, out2, rfl, by omega, ?_, by omega, rfl, rfl⟩ (by omega) sbF sbL
    rw [hnext, ho2]; simp [cellI]
  obtain ⟨ra, row, rc, hsv, hrw, hra, hrl, hrok⟩ := hrows j hj2
  have hT5 := hT.le hle5
  have hra5 := hra.le hle5
  have hsl2 : 2 = svs.length := hsl.symm
  (repeat (first | refine Jc ?_ | (apply s_idx hT5; (case hg => rfl); (case hd => rfl); (case hx => rfl); (case hi => rfl); (case hm => exact hsl2); (case hu => exact hsv); intro p2 (hp2 : Pts _ p2 [.slice ra row.length rc])) | (apply s_load1; (case hg => rfl); (case hd => rfl); (case hx => rfl); (case hv => exact hp2)) | refine Jo ?_ | intro _))
  refine c_loop (fun m S6 L F => S6 = S5 ∧ ∃ (k : Nat) (v : Value) (ob : Blocks), m = row.length - k ∧ k ≤ row.length ∧ Ows 3 v (someI 0 (row.take k)) ob ∧ L = ob ++ [(b4, .cells [strV out2].toArray 9 (0, 0))] ∧
      F = [(61, .int .i64 k), (60, .int .i64 row.length), (59, .slice ra row.length rc), (10, v), (55, .int .i64 j), (54, .int .i64 2), (53, .slice (some ⟨bl, 0, none⟩) 2 2), (5, .func (.func 65) #[] #[.pointer (some ⟨b4, 0, none⟩)]), (4, .pointer (some ⟨b4, 0, none⟩)), (24, .slice A cs.length c), (25, .int .i64 cs.length), (26, .int .i64 i)])
    ⟨rfl, 0, _, [], rfl, by omega, Ows.nil 3, rfl, rfl⟩ sbF sbL ?_
  rintro m S6 L F ⟨rfl, k, v, ob, rfl, hk, hob, rfl, rfl⟩
  by_cases hk2 : k < row.length
  · obtain ⟨n, hn⟩ := at_lt' hk2
    have hst := someI_take hn
    have hsl3 := someI_len (row.take k) 0
    rw [List.length_take] at hsl3
    by_cases hn0 : n = 0
    · rw [if_pos hn0, List.append_nil] at hst
      (repeat (first | refine Jc ?_ | (apply s_idx hra5; (case hg => rfl); (case hd => rfl); (case hx => rfl); (case hi => rfl); (case hm => rfl); (case hu => exact hn); intro p3 (hp3 : Pts _ p3 [.int .i64 n])) | (apply s_load1; (case hg => rfl); (case hd => rfl); (case hx => rfl); (case hv => exact hp3)) | refine Jo ?_ | intro _))
      exact q_back (m' := row.length - (k + 1)) ⟨rfl, k + 1, v, ob, rfl, by omega, by rw [hst]; exact hob, rfl, rfl⟩ (by omega) sbF sbL
    · rw [if_neg hn0] at hst
      (repeat (first | refine Jc ?_ | (apply s_idx hra5; (case hg => rfl); (case hd => rfl); (case hx => rfl); (case hi => rfl); (case hm => rfl); (case hu => exact hn); intro p3 (hp3 : Pts _ p3 [.int .i64 n])) | (apply s_load1; (case hg => rfl); (case hd => rfl); (case hx => rfl); (case hv => exact hp3)) | (apply s_append (ms := [(k : Int), n]); (case hg => rfl); (case hd => rfl); (case hx => rfl); (case ho => exact hob); (case hL => (exact pmT)); (case hy => rfl); (case hm => rfl); (case hs => (apply Src.own; (repeat (first | exact List.Mem.head _ | apply List.Mem.tail | apply List.mem_append_right)))); (case hzs => rfl); (case h0 => decide); (case hb => (simp; omega)); (case h63 => (simp; omega)); intro v' ob' ho') | refine Jo ?_ | intro _))
      exact q_back (m' := row.length - (k + 1)) ⟨rfl, k + 1, v', ob', rfl, by omega, by rw [hst]; exact ho', rfl, rfl⟩ (by omega) sbF sbL
  have hke : k = row.length := by omega
  subst hke
  rw [List.take_length] at hob
  have hsl3 := someI_len row 0
  refine W.freezeOws hob (by repeat (first | exact pm_nil _ | exact pm_refl _ _ | exact pm_self _ | refine pm_cons ?_ | refine pm_app ?_)) fun S7 hle7 hsr => ?_
  obtain ⟨A7, c7, rfl, hc7, hA7⟩ := hsr
  have hw1 : ∀ x ∈ [((someI 0 row).length : Int) / 2], wOk x := fun x hx => hrok x (by rw [List.mem_singleton.1 hx]; exact List.mem_cons_self)
  have hl1 := txt_len hw1
  have hw2 : ∀ x ∈ someI 0 row, wOk x := fun x hx => hrok x (List.mem_cons_of_mem _ hx)
  have hl2 := txt_len hw2
  simp only [List.length_singleton] at hl1
  (repeat (first | refine Jc ?_ | (apply s_buildSlice; (case hg => rfl); (case hd => rfl); (case hp => rfl); (case hq => rfl); (case hm => rfl); (case hv => rfl); (case hl => rfl); intro bn; refine W.freeze fun S8 hle8 hb8 => ?_) | (apply s_callw (caps := [.pointer (some ⟨b4, 0, none⟩)]); (case hg => rfl); (case hd => rfl); (case hx => rfl); (case i1 => infer_instance); (case ha => rfl); (case hc => exact put_con [((someI 0 row).length : Int) / 2] _ 1 out2 _ _ (at_litB hb8 rfl) hw1 (by simp) (by omega)); (case hL => (exact pmT)); rintro S9 L9 v9 hle9 ⟨rfl, rfl, rfl⟩) | (apply s_callw (caps := [.pointer (some ⟨b4, 0, none⟩)]); (case hg => rfl); (case hd => rfl); (case hx => rfl); (case i1 => infer_instance); (case ha => rfl); (case hc => exact put_con (someI 0 row) A7 c7 (out2 ++ txt [((someI 0 row).length : Int) / 2]) _ _ (hA7.le (by repeat (first | exact Le.refl _ | assumption | refine Le.trans ?_ (by assumption)))) hw2 (by omega) (by rw [List.length_append]; omega)); (case hL => (exact pmT)); rintro S10 L10 v10 hle10 ⟨rfl, rfl, rfl⟩) | refine Jo ?_ | intro _))
  refine q_back (m' := 2 - (j + 1)) ⟨(hle5.trans hle7).trans hle8, j + 1, _, rfl, by omega, ?_, ?_, rfl, rfl⟩ (by omega) sbF sbL
  · rw [take_at' hrw, List.flatMap_append, ho2, List.append_assoc, List.append_assoc, ← txt_app, ← txt_app]
    simp [rowI]
  · rw [List.length_append, List.length_append]; omega
end Go.Proofs.YtogfficbloejcaaDoor
namespace Go.Proofs.YtogfficbloejcaaDoor
open Go Go.X
set_option maxRecDepth 10000
set_option linter.unusedVariables false
attribute [local irreducible] Code.wpIn wpListIn Exit.then Exit.inBlock X.Out X.Back X.W X.Ev X.Con X.BinV X.Wh X.Wn X.Wq
theorem rSame_con {va vb : Value} {a b : List PC} (S : SH) (ha : SkV S va a) (hb : SkV S vb b) : Con Tryd.prog 18 #[va, vb] S [] (Pure S (.bool (bP (a = b)))) := by
  obtain ⟨A, ca, xs, rfl, hA, oka, la, rfl⟩ := ha
  obtain ⟨B, cb, ys, rfl, hB, okb, lb, rfl⟩ := hb
  refine con_of (args := [.agg [.slice A xs.length ca].toArray, .agg [.slice B ys.length cb].toArray]) Tryd.func18 rfl Tryd.ntmps18 rfl fun w => ?_
  by_cases hlen : xs.length = ys.length
  rotate_left
  · (repeat (first | refine Jz ?_ | intro _))
    exact o_ret Tryd.results18 rfl (List.nil_sublist _) ⟨rfl, rfl, by rw [bP_f fun h => hlen (by have := congrArg List.length h; simpa using this)]⟩
  (repeat (first | refine Jz ?_ | intro _))
  rename_i b2 b3
  refine c_loop (fun m S' L F => S' = S ∧ ∃ i : Nat, m = xs.length - i ∧ i ≤ xs.length ∧ (xs.map (·.p)).take i = (ys.map (·.p)).take i ∧ L = [(b3, .cells [.slice B ys.length cb].toArray 24 (0, 0)), (b2, .cells [.slice A xs.length ca].toArray 24 (0, 0))] ∧
      F = [(2, .pointer (some ⟨b2, 0, none⟩)), (3, .pointer (some ⟨b3, 0, none⟩)), (5, .int .i64 i)]) ⟨rfl, 0, rfl, by omega, rfl, rfl, rfl⟩ sbF sbL ?_
  rintro m S' L F ⟨rfl, i, rfl, hi, heq, rfl, rfl⟩
  by_cases hlt : i < xs.length
  rotate_left
  · (repeat (first | refine Jz ?_ | intro _))
    exact o_ret Tryd.results18 rfl (List.nil_sublist _) ⟨rfl, rfl, by rw [bP_t (by rw [List.take_of_length_le (by rw [List.length_map]; omega), List.take_of_length_le (by rw [List.length_map]; omega)] at heq; exact heq)]⟩
  obtain ⟨x, hx⟩ := at_lt' hlt
  obtain ⟨y, hy⟩ := at_lt' (l := ys) (by omega : i < ys.length)
  have hxm : (xs.map (·.p))[i]? = some x.p := by rw [List.getElem?_map, hx]; rfl
  have hym : (ys.map (·.p))[i]? = some y.p := by rw [List.getElem?_map, hy]; rfl
  have sc := rSameCell_con x y S' (oka x (List.mem_of_getElem? hx)) (okb y (List.mem_of_getElem? hy))
  generalize hsb : bP (x.p = y.p) = sb at *
  (repeat (first | refine Jz ?_ | intro _))
  ((apply c_held ([(b3, .cells [.slice B ys.length cb].toArray 24 (0, 0)), (b2, .cells [.slice A xs.length ca].toArray 24 (0, 0))]); (case hL => (exact sbT))); refine Jf 0 ?_; refine Jf 1 ?_; refine Jf 2 ?_; (apply h_idx hA 3; (case hi => rfl); (case hr => kernel_rfl); (case hfr => kernel_rfl); (case hsel => kernel_rfl); (case hg => rfl); (case hd => rfl); (case i1 => infer_instance); (case i2 => infer_instance); (case hx => rfl); (case hy => rfl); (case hm => rfl); (case hu => exact hx); intro p1 hp1); (apply h_first 4; (case hi => rfl); (case hr => kernel_rfl); (case hfr => kernel_rfl); (case hsel => kernel_rfl); (case hg => rfl); (case hd => rfl); (case he => (apply ev_load_ag; (case hx => rfl); (case h => exact hp1); (case hl => rfl)))); refine Jf 5 ?_; refine Jf 6 ?_; refine Jf 7 ?_; (apply h_idx hB 8; (case hi => rfl); (case hr => kernel_rfl); (case hfr => kernel_rfl); (case hsel => kernel_rfl); (case hg => rfl); (case hd => rfl); (case i1 => infer_instance); (case i2 => infer_instance); (case hx => rfl); (case hy => rfl); (case hm => rfl); (case hu => exact hy); intro p2 hp2); (apply h_first 9; (case hi => rfl); (case hr => kernel_rfl); (case hfr => kernel_rfl); (case hsel => kernel_rfl); (case hg => rfl); (case hd => rfl); (case he => (apply ev_load_ag; (case hx => rfl); (case h => exact hp2); (case hl => rfl)))); (apply h_one 10; (case hr => kernel_rfl)); (apply n_call; (case hi => rfl); (case i1 => infer_instance); (case hg => rfl); (case hd => rfl); (case ha => rfl); (case hc => exact sc); (case hL => (exact pmT)); (case hsub => (intros; (exact sbT))); rintro _ _ _ - ⟨rfl, rfl, rfl⟩); refine Jf 11 ?_; (apply h_end; (case hr => kernel_rfl)))
  cases sb
  · (repeat (first | refine Jz ?_ | intro _))
    exact o_ret (L' := []) Tryd.results18 rfl (List.nil_sublist _) ⟨rfl, rfl, by
      rw [bP_f fun h => by have e := bP_t (p := x.p = y.p) (by rw [h] at hxm; rw [hxm] at hym; injection hym); rw [hsb] at e; cases e]⟩
  · (repeat (first | refine Jz ?_ | intro _))
    exact q_back (m' := xs.length - (i + 1)) ⟨rfl, i + 1, rfl, by omega, by rw [take_at' hxm, take_at' hym, heq, bP_iff.1 hsb], rfl, rfl⟩ (by omega) sbF sbL
end Go.Proofs.YtogfficbloejcaaDoor
namespace Go.Proofs.YtogfficbloejcaaDoor
open Go Go.X
set_option maxRecDepth 10000
set_option linter.unusedVariables false
attribute [local irreducible] Code.wpIn wpListIn Exit.then Exit.inBlock X.Out X.Back X.W X.Ev X.Con X.BinV X.Wh X.Wn X.Wq
def z44 : List Value := ints (fun _ => 0) 44
/-- A cell with the key of another one, and with two rows of its own. -/
theorem rEmpty_con (q : Ce) (S : SH) : Con Tryd.prog 47 #[.agg q.vals.toArray] S [] (fun S' L' v => S' = S ∧ ∃ bl bh : Nat, v = .agg [.int .i64 q.p.s, .int .i64 q.p.v, .int .i64 q.p.o, .int .i64 q.p.d, .int .i64 0, .int .i64 0, .int .i64 0, .int .i64 0, .slice (some ⟨bl, 0, none⟩) 44 44, .slice (some ⟨bh, 0, none⟩) 44 44].toArray ∧ L' = [(bl, .cells z44.toArray 3 (0, 0)), (bh, .cells z44.toArray 3 (0, 0))]) := by
  refine con_of (args := [.agg q.vals.toArray]) Tryd.func47 rfl Tryd.ntmps47 rfl fun w => ?_
  obtain ⟨⟨a0, a1, a2, a3, ⟨an, al, ah, ab, als, ahs⟩⟩, pla, plc, pha, phc⟩ := q
  unfold Ce.vals
  dsimp only
  (repeat (first | refine Jz ?_ | intro _))
  rename_i b1 b2
  refine c_meet (fun S2 L2 F2 => S2 = S ∧ ∃ bl bh, L2.Perm [(bl, .cells (List.replicate 44 (Value.int .i64 0)).toArray 3 (0, 0)), (bh, .cells (List.replicate 44 (Value.int .i64 0)).toArray 3 (0, 0)), (b2, .cells [.int .i64 a0, .int .i64 a1, .int .i64 a2, .int .i64 a3, .int .i64 0, .int .i64 0, .int .i64 0, .int .i64 0, .slice (some ⟨bl, 0, none⟩) 44 44, .slice (some ⟨bh, 0, none⟩) 44 44].toArray 45 (0, 0)), (b1, .cells [.int .i64 a0, .int .i64 a1, .int .i64 a2, .int .i64 a3, .int .i64 an, .int .i64 al, .int .i64 ah, .int .i64 ab, .slice pla als.length plc, .slice pha ahs.length phc].toArray 45 (0, 0))] ∧
      F2 = [(2, .pointer (some ⟨b2, 0, none⟩))]) ?_ ?_
  · ((apply c_held ([(b1, .cells [.int .i64 a0, .int .i64 a1, .int .i64 a2, .int .i64 a3, .int .i64 an, .int .i64 al, .int .i64 ah, .int .i64 ab, .slice pla als.length plc, .slice pha ahs.length phc].toArray 45 (0, 0))]); (case hL => (exact sbT))); (first | (apply h_first 0; (case hi => rfl); (case hr => kernel_rfl); (case hfr => kernel_rfl); (case hsel => kernel_rfl); (case hg => rfl); (case hd => rfl); (case he => (apply ev_buildS; (case hp => rfl); (case hz => rfl); (case h1 => rfl); (case hr => rfl)))) | refine Jf 0 ?_); (first | (apply h_first 1; (case hi => rfl); (case hr => kernel_rfl); (case hfr => kernel_rfl); (case hsel => kernel_rfl); (case hg => rfl); (case hd => rfl); (case he => (apply ev_buildS; (case hp => rfl); (case hz => rfl); (case h1 => rfl); (case hr => rfl)))) | refine Jf 1 ?_); (first | (apply h_first 2; (case hi => rfl); (case hr => kernel_rfl); (case hfr => kernel_rfl); (case hsel => kernel_rfl); (case hg => rfl); (case hd => rfl); (case he => (apply ev_buildS; (case hp => rfl); (case hz => rfl); (case h1 => rfl); (case hr => rfl)))) | refine Jf 2 ?_); (first | (apply h_first 3; (case hi => rfl); (case hr => kernel_rfl); (case hfr => kernel_rfl); (case hsel => kernel_rfl); (case hg => rfl); (case hd => rfl); (case he => (apply ev_buildS; (case hp => rfl); (case hz => rfl); (case h1 => rfl); (case hr => rfl)))) | refine Jf 3 ?_); (first | (apply h_first 4; (case hi => rfl); (case hr => kernel_rfl); (case hfr => kernel_rfl); (case hsel => kernel_rfl); (case hg => rfl); (case hd => rfl); (case he => (apply ev_buildS; (case hp => rfl); (case hz => rfl); (case h1 => rfl); (case hr => rfl)))) | refine Jf 4 ?_); (first | (apply h_first 5; (case hi => rfl); (case hr => kernel_rfl); (case hfr => kernel_rfl); (case hsel => kernel_rfl); (case hg => rfl); (case hd => rfl); (case he => (apply ev_buildS; (case hp => rfl); (case hz => rfl); (case h1 => rfl); (case hr => rfl)))) | refine Jf 5 ?_); (first | (apply h_first 6; (case hi => rfl); (case hr => kernel_rfl); (case hfr => kernel_rfl); (case hsel => kernel_rfl); (case hg => rfl); (case hd => rfl); (case he => (apply ev_buildS; (case hp => rfl); (case hz => rfl); (case h1 => rfl); (case hr => rfl)))) | refine Jf 6 ?_); (first | (apply h_first 7; (case hi => rfl); (case hr => kernel_rfl); (case hfr => kernel_rfl); (case hsel => kernel_rfl); (case hg => rfl); (case hd => rfl); (case he => (apply ev_buildS; (case hp => rfl); (case hz => rfl); (case h1 => rfl); (case hr => rfl)))) | refine Jf 7 ?_); (apply h_two 8 9; (case hr => kernel_rfl)); (case k1 => ((first | (apply n_make1 (m := 44); (case hi => rfl); (case i1 => infer_instance); (case i2 => infer_instance); (case i3 => infer_instance); (case i4 => infer_instance); (case hg => rfl); (case hd => rfl); (case hx => rfl); (case hy => rfl); (case hzc => rfl); (case hb => decide); (case h63 => decide); intro _) | (refine Jn ?_; try intro _)); (apply h_one 9; (case hr => kernel_rfl)); (first | (apply n_make1 (m := 44); (case hi => rfl); (case i1 => infer_instance); (case i2 => infer_instance); (case i3 => infer_instance); (case i4 => infer_instance); (case hg => rfl); (case hd => rfl); (case hx => rfl); (case hy => rfl); (case hzc => rfl); (case hb => decide); (case h63 => decide); intro _) | (refine Jn ?_; try intro _)); (first | (apply h_first 10; (case hi => rfl); (case hr => kernel_rfl); (case hfr => kernel_rfl); (case hsel => kernel_rfl); (case hg => rfl); (case hd => rfl); (case he => (apply ev_buildS; (case hp => rfl); (case hz => rfl); (case h1 => rfl); (case hr => rfl)))) | refine Jf 10 ?_); (apply h_one 11; (case hr => kernel_rfl)); (first | (apply n_make1 (m := 44); (case hi => rfl); (case i1 => infer_instance); (case i2 => infer_instance); (case i3 => infer_instance); (case i4 => infer_instance); (case hg => rfl); (case hd => rfl); (case hx => rfl); (case hy => rfl); (case hzc => rfl); (case hb => decide); (case h63 => decide); intro _) | (refine Jn ?_; try intro _)); (apply h_end; (case hr => kernel_rfl)); (apply q_then; exact q_cut ⟨rfl, _, _, (by first | exact List.Perm.refl _ | exact List.Perm.swap _ _ _), rfl⟩ sbF (List.Sublist.refl _)))); (case k2 => ((first | (apply n_make1 (m := 44); (case hi => rfl); (case i1 => infer_instance); (case i2 => infer_instance); (case i3 => infer_instance); (case i4 => infer_instance); (case hg => rfl); (case hd => rfl); (case hx => rfl); (case hy => rfl); (case hzc => rfl); (case hb => decide); (case h63 => decide); intro _) | (refine Jn ?_; try intro _)); (apply h_one 8; (case hr => kernel_rfl)); (first | (apply n_make1 (m := 44); (case hi => rfl); (case i1 => infer_instance); (case i2 => infer_instance); (case i3 => infer_instance); (case i4 => infer_instance); (case hg => rfl); (case hd => rfl); (case hx => rfl); (case hy => rfl); (case hzc => rfl); (case hb => decide); (case h63 => decide); intro _) | (refine Jn ?_; try intro _)); (first | (apply h_first 10; (case hi => rfl); (case hr => kernel_rfl); (case hfr => kernel_rfl); (case hsel => kernel_rfl); (case hg => rfl); (case hd => rfl); (case he => (apply ev_buildS; (case hp => rfl); (case hz => rfl); (case h1 => rfl); (case hr => rfl)))) | refine Jf 10 ?_); (apply h_one 11; (case hr => kernel_rfl)); (first | (apply n_make1 (m := 44); (case hi => rfl); (case i1 => infer_instance); (case i2 => infer_instance); (case i3 => infer_instance); (case i4 => infer_instance); (case hg => rfl); (case hd => rfl); (case hx => rfl); (case hy => rfl); (case hzc => rfl); (case hb => decide); (case h63 => decide); intro _) | (refine Jn ?_; try intro _)); (apply h_end; (case hr => kernel_rfl)); (apply q_then; exact q_cut ⟨rfl, _, _, (by first | exact List.Perm.refl _ | exact List.Perm.swap _ _ _), rfl⟩ sbF (List.Sublist.refl _)))))
  rintro S2 L2 F2 ⟨rfl, bl, bh, hp, rfl⟩
  refine W.perm ?_ hp
  rw [ints_zero]
  (repeat (first | refine Jz ?_ | intro _))
  exact o_ret_cell (L' := [(bl, .cells z44.toArray 3 (0, 0)), (bh, .cells z44.toArray 3 (0, 0))]) (sz := 10) (cs := [.int .i64 a0, .int .i64 a1, .int .i64 a2, .int .i64 a3, .int .i64 0, .int .i64 0, .int .i64 0, .int .i64 0, .slice (some ⟨bl, 0, none⟩) 44 44, .slice (some ⟨bh, 0, none⟩) 44 44]) Tryd.results47 rfl (by repeat (first | exact List.Mem.head _ | refine List.Mem.tail _ ?_ | exact List.mem_append_right _ (List.Mem.head _))) rfl sbL ⟨rfl, bl, bh, rfl, rfl⟩
/-- One number, with another one added or taken away. -/
def addB (by_ x y : Int) : Int := w64 (x + w64 (by_ * y))
theorem addB_1 : addB 1 = plusW := by
  funext x y; unfold addB plusW; rw [Int.one_mul, w64_add_r]
theorem addB_m1 : addB (-1) = minusW := by
  funext x y
  unfold addB minusW
  rw [w64_add_r, show x + -1 * y = x - y by omega]
theorem ints_step (z : Nat → Int) (k : Nat) (v : Int) (hv : v = z k) : (ints (fun i => if i < k then z i else 0) 44).set k (.int .i64 v) = ints (fun i => if i < k + 1 then z i else 0) 44 := by
  subst hv
  rw [ints_set]
  congr 1
  funext i
  by_cases h : i = k
  · subst h; simp
  · by_cases h2 : i < k
    · rw [if_neg h, if_pos h2, if_pos (by omega)]
    · rw [if_neg h, if_neg h2, if_neg (by omega)]
theorem ints_full (z : Nat → Int) : ints (fun i => if i < 44 then z i else 0) 44 = ints z 44 := by
  unfold ints
  refine List.map_congr_left fun i hi => ?_
  have hi' : i < 44 := by simpa using hi
  show Value.int .i64 (if i < 44 then z i else 0) = _
  rw [if_pos hi']
theorem getD_some {l : List Int} {i : Nat} {x : Int} (h : l[i]? = some x) : l.getD i 0 = x := by simp [List.getD, h]
theorem zipL_44 (g : Int → Int → Int) {a b : List Int} (ha : a.length = 44) (hb : b.length = 44) : zipL g a b = (List.range 44).map fun i => g (a.getD i 0) (b.getD i 0) := by
  unfold zipL
  rw [ha, hb]
  refine List.map_congr_left fun i hi => ?_
  have hi' : i < 44 := by simpa using hi
  rw [zipF, if_pos hi']
theorem at_ints {S : SH} {b : Nat} {T : TypeId} {f : Nat → Int} (h : S b = some (.cells (ints f 44).toArray T (0, 0))) : At S (some ⟨b, 0, none⟩) ((List.range 44).map f) := fun _ => ⟨_, rfl, pts_block h (by
  rw [cells_int, List.map_map]
  exact List.take_length)⟩
set_option maxHeartbeats 1600000 in
theorem rAdd_con (p q : Ce) (by_ : Int) (S : SH) (hp : p.ok S) (hq : q.ok S) (l1 : p.p.x.ls.length = 44) (l2 : p.p.x.hs.length = 44) (l3 : q.p.x.ls.length = 44) (l4 : q.p.x.hs.length = 44) :
    Con Tryd.prog 56 #[.agg p.vals.toArray, .agg q.vals.toArray, .int .i64 by_] S [] (fun S' L' v => L' = [] ∧ ∃ q' : Ce, v = .agg q'.vals.toArray ∧ q'.p = { p.p with x := vop (addB by_) p.p.x q.p.x } ∧ q'.ok S') := by
  refine con_of (args := [.agg p.vals.toArray, .agg q.vals.toArray, .int .i64 by_]) Tryd.func56 rfl Tryd.ntmps56 rfl fun w => ?_
  have he := rEmpty_con p S
  obtain ⟨⟨a0, a1, a2, a3, ⟨an, al, ah, ab, als, ahs⟩⟩, pla, plc, pha, phc⟩ := p
  obtain ⟨⟨b0, b1, b2, b3, ⟨bn, bl, bh, bb, bls, bhs⟩⟩, qla, qlc, qha, qhc⟩ := q
  obtain ⟨p1, p2, p3, p4, p5, p6⟩ := hp
  obtain ⟨q1, q2, q3, q4, q5, q6⟩ := hq
  unfold Ce.vals at *
  dsimp only at *
  (repeat (first | refine Jc ?_ | ((apply z_call; rfl; rfl; rfl; exact he; rintro S2 L2 v2 - ⟨rfl, el, eh, rfl, rfl⟩)) | (apply s_bin; (case hg => rfl); (case hd => rfl); (case hx => rfl); (case hy => rfl); (case hb => first | exact bv_mulw | exact bv_addw)) | refine Jo ?_ | intro _))
  rename_i ba bbx br bo
  refine c_loop (fun m S' L F => S' = S2 ∧ ∃ k : Nat, m = 44 - k ∧ k ≤ 44 ∧ L = [(bo, .cells [.int .i64 a0, .int .i64 a1, .int .i64 a2, .int .i64 a3, .int .i64 (addB by_ an bn), .int .i64 (addB by_ al bl), .int .i64 (addB by_ ah bh), .int .i64 (addB by_ ab bb), .slice (some ⟨el, 0, none⟩) 44 44, .slice (some ⟨eh, 0, none⟩) 44 44].toArray 45 (0, 0)), (el, .cells (ints (fun i => if i < k then (fun i => addB by_ (als.getD i 0) (bls.getD i 0)) i else 0) 44).toArray 3 (0, 0)), (eh, .cells (ints (fun i => if i < k then (fun i => addB by_ (ahs.getD i 0) (bhs.getD i 0)) i else 0) 44).toArray 3 (0, 0)), (br, .cells [.int .i64 0, .int .i64 0, .int .i64 0, .int .i64 0, .int .i64 0, .int .i64 0, .int .i64 0, .int .i64 0, .slice none 0 0, .slice none 0 0].toArray 45 (0, 0)), (bbx, .cells [.int .i64 b0, .int .i64 b1, .int .i64 b2, .int .i64 b3, .int .i64 bn, .int .i64 bl, .int .i64 bh, .int .i64 bb, .slice qla bls.length qlc, .slice qha bhs.length qhc].toArray 45 (0, 0)), (ba, .cells [.int .i64 a0, .int .i64 a1, .int .i64 a2, .int .i64 a3, .int .i64 an, .int .i64 al, .int .i64 ah, .int .i64 ab, .slice pla als.length plc, .slice pha ahs.length phc].toArray 45 (0, 0))] ∧
      F = [(2, .int .i64 by_), (3, .pointer (some ⟨ba, 0, none⟩)), (4, .pointer (some ⟨bbx, 0, none⟩)), (6, .pointer (some ⟨br, 0, none⟩)), (7, .pointer (some ⟨bo, 0, none⟩)), (8, .int .i64 k)])
    (L' := [(bo, .cells [.int .i64 a0, .int .i64 a1, .int .i64 a2, .int .i64 a3, .int .i64 (addB by_ an bn), .int .i64 (addB by_ al bl), .int .i64 (addB by_ ah bh), .int .i64 (addB by_ ab bb), .slice (some ⟨el, 0, none⟩) 44 44, .slice (some ⟨eh, 0, none⟩) 44 44].toArray 45 (0, 0)), (el, .cells (ints (fun i => if i < 0 then (fun i => addB by_ (als.getD i 0) (bls.getD i 0)) i else 0) 44).toArray 3 (0, 0)), (eh, .cells (ints (fun i => if i < 0 then (fun i => addB by_ (ahs.getD i 0) (bhs.getD i 0)) i else 0) 44).toArray 3 (0, 0)), (br, .cells [.int .i64 0, .int .i64 0, .int .i64 0, .int .i64 0, .int .i64 0, .int .i64 0, .int .i64 0, .int .i64 0, .slice none 0 0, .slice none 0 0].toArray 45 (0, 0)), (bbx, .cells [.int .i64 b0, .int .i64 b1, .int .i64 b2, .int .i64 b3, .int .i64 bn, .int .i64 bl, .int .i64 bh, .int .i64 bb, .slice qla bls.length qlc, .slice qha bhs.length qhc].toArray 45 (0, 0)), (ba, .cells [.int .i64 a0, .int .i64 a1, .int .i64 a2, .int .i64 a3, .int .i64 an, .int .i64 al, .int .i64 ah, .int .i64 ab, .slice pla als.length plc, .slice pha ahs.length phc].toArray 45 (0, 0))]) ⟨rfl, 0, rfl, by omega, rfl, rfl⟩ sbF (List.Sublist.refl _) ?_
  rintro m S' L F ⟨rfl, k, rfl, hk44, rfl, rfl⟩
  by_cases hk : k < 44
  · obtain ⟨x1, hx1⟩ := at_lt' (l := als) (by omega : k < als.length)
    obtain ⟨y1, hy1⟩ := at_lt' (l := bls) (by omega : k < bls.length)
    obtain ⟨x2, hx2⟩ := at_lt' (l := ahs) (by omega : k < ahs.length)
    obtain ⟨y2, hy2⟩ := at_lt' (l := bhs) (by omega : k < bhs.length)
    (repeat (first | refine Jz ?_ | intro _))
    ((apply c_held ([(bo, .cells [.int .i64 a0, .int .i64 a1, .int .i64 a2, .int .i64 a3, .int .i64 (addB by_ an bn), .int .i64 (addB by_ al bl), .int .i64 (addB by_ ah bh), .int .i64 (addB by_ ab bb), .slice (some ⟨el, 0, none⟩) 44 44, .slice (some ⟨eh, 0, none⟩) 44 44].toArray 45 (0, 0)), (eh, .cells (ints (fun i => if i < k then (fun i => addB by_ (ahs.getD i 0) (bhs.getD i 0)) i else 0) 44).toArray 3 (0, 0)), (bbx, .cells [.int .i64 b0, .int .i64 b1, .int .i64 b2, .int .i64 b3, .int .i64 bn, .int .i64 bl, .int .i64 bh, .int .i64 bb, .slice qla bls.length qlc, .slice qha bhs.length qhc].toArray 45 (0, 0)), (ba, .cells [.int .i64 a0, .int .i64 a1, .int .i64 a2, .int .i64 a3, .int .i64 an, .int .i64 al, .int .i64 ah, .int .i64 ab, .slice pla als.length plc, .slice pha ahs.length phc].toArray 45 (0, 0))]); (case hL => (exact sbT))); (first | (apply h_first 0; (case hi => rfl); (case hr => kernel_rfl); (case hfr => kernel_rfl); (case hsel => kernel_rfl); (case hg => rfl); (case hd => rfl); (case he => (apply ev_binV; (case hx => rfl); (case hy => rfl); (case hb => first | exact bv_mulw | exact bv_addw)))) | (apply h_first 0; (case hi => rfl); (case hr => kernel_rfl); (case hfr => kernel_rfl); (case hsel => kernel_rfl); (case hg => rfl); (case hd => rfl); (case he => (apply ev_idxo1; (case hx => rfl); (case hi => rfl); (case hk => exact hk)))) | refine Jf 0 ?_); (first | (apply h_first 1; (case hi => rfl); (case hr => kernel_rfl); (case hfr => kernel_rfl); (case hsel => kernel_rfl); (case hg => rfl); (case hd => rfl); (case he => (apply ev_binV; (case hx => rfl); (case hy => rfl); (case hb => first | exact bv_mulw | exact bv_addw)))) | (apply h_first 1; (case hi => rfl); (case hr => kernel_rfl); (case hfr => kernel_rfl); (case hsel => kernel_rfl); (case hg => rfl); (case hd => rfl); (case he => (apply ev_idxo1; (case hx => rfl); (case hi => rfl); (case hk => exact hk)))) | refine Jf 1 ?_); (first | (apply h_first 2; (case hi => rfl); (case hr => kernel_rfl); (case hfr => kernel_rfl); (case hsel => kernel_rfl); (case hg => rfl); (case hd => rfl); (case he => (apply ev_binV; (case hx => rfl); (case hy => rfl); (case hb => first | exact bv_mulw | exact bv_addw)))) | (apply h_first 2; (case hi => rfl); (case hr => kernel_rfl); (case hfr => kernel_rfl); (case hsel => kernel_rfl); (case hg => rfl); (case hd => rfl); (case he => (apply ev_idxo1; (case hx => rfl); (case hi => rfl); (case hk => exact hk)))) | refine Jf 2 ?_); (first | (apply h_first 3; (case hi => rfl); (case hr => kernel_rfl); (case hfr => kernel_rfl); (case hsel => kernel_rfl); (case hg => rfl); (case hd => rfl); (case he => (apply ev_binV; (case hx => rfl); (case hy => rfl); (case hb => first | exact bv_mulw | exact bv_addw)))) | (apply h_first 3; (case hi => rfl); (case hr => kernel_rfl); (case hfr => kernel_rfl); (case hsel => kernel_rfl); (case hg => rfl); (case hd => rfl); (case he => (apply ev_idxo1; (case hx => rfl); (case hi => rfl); (case hk => exact hk)))) | refine Jf 3 ?_); (first | (apply h_first 4; (case hi => rfl); (case hr => kernel_rfl); (case hfr => kernel_rfl); (case hsel => kernel_rfl); (case hg => rfl); (case hd => rfl); (case he => (apply ev_binV; (case hx => rfl); (case hy => rfl); (case hb => first | exact bv_mulw | exact bv_addw)))) | (apply h_first 4; (case hi => rfl); (case hr => kernel_rfl); (case hfr => kernel_rfl); (case hsel => kernel_rfl); (case hg => rfl); (case hd => rfl); (case he => (apply ev_idxo1; (case hx => rfl); (case hi => rfl); (case hk => exact hk)))) | refine Jf 4 ?_); (first | (apply h_first 5; (case hi => rfl); (case hr => kernel_rfl); (case hfr => kernel_rfl); (case hsel => kernel_rfl); (case hg => rfl); (case hd => rfl); (case he => (apply ev_binV; (case hx => rfl); (case hy => rfl); (case hb => first | exact bv_mulw | exact bv_addw)))) | (apply h_first 5; (case hi => rfl); (case hr => kernel_rfl); (case hfr => kernel_rfl); (case hsel => kernel_rfl); (case hg => rfl); (case hd => rfl); (case he => (apply ev_idxo1; (case hx => rfl); (case hi => rfl); (case hk => exact hk)))) | refine Jf 5 ?_); (apply h_idx p1 6; (case hi => rfl); (case hr => kernel_rfl); (case hfr => kernel_rfl); (case hsel => kernel_rfl); (case hg => rfl); (case hd => rfl); (case i1 => infer_instance); (case i2 => infer_instance); (case hx => rfl); (case hy => rfl); (case hm => rfl); (case hu => exact hx1); intro pa (hpa : Pts _ pa [.int .i64 x1])); (apply h_first 7; (case hi => rfl); (case hr => kernel_rfl); (case hfr => kernel_rfl); (case hsel => kernel_rfl); (case hg => rfl); (case hd => rfl); (case he => (apply ev_load1; (case hx => rfl); (case h => exact hpa)))); (first | (apply h_first 8; (case hi => rfl); (case hr => kernel_rfl); (case hfr => kernel_rfl); (case hsel => kernel_rfl); (case hg => rfl); (case hd => rfl); (case he => (apply ev_binV; (case hx => rfl); (case hy => rfl); (case hb => first | exact bv_mulw | exact bv_addw)))) | (apply h_first 8; (case hi => rfl); (case hr => kernel_rfl); (case hfr => kernel_rfl); (case hsel => kernel_rfl); (case hg => rfl); (case hd => rfl); (case he => (apply ev_idxo1; (case hx => rfl); (case hi => rfl); (case hk => exact hk)))) | refine Jf 8 ?_); (first | (apply h_first 9; (case hi => rfl); (case hr => kernel_rfl); (case hfr => kernel_rfl); (case hsel => kernel_rfl); (case hg => rfl); (case hd => rfl); (case he => (apply ev_binV; (case hx => rfl); (case hy => rfl); (case hb => first | exact bv_mulw | exact bv_addw)))) | (apply h_first 9; (case hi => rfl); (case hr => kernel_rfl); (case hfr => kernel_rfl); (case hsel => kernel_rfl); (case hg => rfl); (case hd => rfl); (case he => (apply ev_idxo1; (case hx => rfl); (case hi => rfl); (case hk => exact hk)))) | refine Jf 9 ?_); (first | (apply h_first 10; (case hi => rfl); (case hr => kernel_rfl); (case hfr => kernel_rfl); (case hsel => kernel_rfl); (case hg => rfl); (case hd => rfl); (case he => (apply ev_binV; (case hx => rfl); (case hy => rfl); (case hb => first | exact bv_mulw | exact bv_addw)))) | (apply h_first 10; (case hi => rfl); (case hr => kernel_rfl); (case hfr => kernel_rfl); (case hsel => kernel_rfl); (case hg => rfl); (case hd => rfl); (case he => (apply ev_idxo1; (case hx => rfl); (case hi => rfl); (case hk => exact hk)))) | refine Jf 10 ?_); (first | (apply h_first 11; (case hi => rfl); (case hr => kernel_rfl); (case hfr => kernel_rfl); (case hsel => kernel_rfl); (case hg => rfl); (case hd => rfl); (case he => (apply ev_binV; (case hx => rfl); (case hy => rfl); (case hb => first | exact bv_mulw | exact bv_addw)))) | (apply h_first 11; (case hi => rfl); (case hr => kernel_rfl); (case hfr => kernel_rfl); (case hsel => kernel_rfl); (case hg => rfl); (case hd => rfl); (case he => (apply ev_idxo1; (case hx => rfl); (case hi => rfl); (case hk => exact hk)))) | refine Jf 11 ?_); (apply h_idx q1 12; (case hi => rfl); (case hr => kernel_rfl); (case hfr => kernel_rfl); (case hsel => kernel_rfl); (case hg => rfl); (case hd => rfl); (case i1 => infer_instance); (case i2 => infer_instance); (case hx => rfl); (case hy => rfl); (case hm => rfl); (case hu => exact hy1); intro pb (hpb : Pts _ pb [.int .i64 y1])); (apply h_first 13; (case hi => rfl); (case hr => kernel_rfl); (case hfr => kernel_rfl); (case hsel => kernel_rfl); (case hg => rfl); (case hd => rfl); (case he => (apply ev_load1; (case hx => rfl); (case h => exact hpb)))); (first | (apply h_first 14; (case hi => rfl); (case hr => kernel_rfl); (case hfr => kernel_rfl); (case hsel => kernel_rfl); (case hg => rfl); (case hd => rfl); (case he => (apply ev_binV; (case hx => rfl); (case hy => rfl); (case hb => first | exact bv_mulw | exact bv_addw)))) | (apply h_first 14; (case hi => rfl); (case hr => kernel_rfl); (case hfr => kernel_rfl); (case hsel => kernel_rfl); (case hg => rfl); (case hd => rfl); (case he => (apply ev_idxo1; (case hx => rfl); (case hi => rfl); (case hk => exact hk)))) | refine Jf 14 ?_); (first | (apply h_first 15; (case hi => rfl); (case hr => kernel_rfl); (case hfr => kernel_rfl); (case hsel => kernel_rfl); (case hg => rfl); (case hd => rfl); (case he => (apply ev_binV; (case hx => rfl); (case hy => rfl); (case hb => first | exact bv_mulw | exact bv_addw)))) | (apply h_first 15; (case hi => rfl); (case hr => kernel_rfl); (case hfr => kernel_rfl); (case hsel => kernel_rfl); (case hg => rfl); (case hd => rfl); (case he => (apply ev_idxo1; (case hx => rfl); (case hi => rfl); (case hk => exact hk)))) | refine Jf 15 ?_); (first | (apply h_first 16; (case hi => rfl); (case hr => kernel_rfl); (case hfr => kernel_rfl); (case hsel => kernel_rfl); (case hg => rfl); (case hd => rfl); (case he => (apply ev_binV; (case hx => rfl); (case hy => rfl); (case hb => first | exact bv_mulw | exact bv_addw)))) | (apply h_first 16; (case hi => rfl); (case hr => kernel_rfl); (case hfr => kernel_rfl); (case hsel => kernel_rfl); (case hg => rfl); (case hd => rfl); (case he => (apply ev_idxo1; (case hx => rfl); (case hi => rfl); (case hk => exact hk)))) | refine Jf 16 ?_); (apply h_one 17; (case hr => kernel_rfl)); (first | (apply n_store; (case hi => rfl); (case i1 => infer_instance); (case hg => rfl); (case hx => rfl); (case hy => rfl); (case h1 => rfl); (case hL => (repeat (first | exact Upd.head | apply Upd.tail | apply Upd.app))); (case hu => exact ints_nth _ _ k hk); (case hsub => (intro _; exact sbL))) | (refine Jn ?_; try intro _)); (apply h_end; (case hr => kernel_rfl)))
    rw [ints_step (fun i => addB by_ (als.getD i 0) (bls.getD i 0)) k (w64 (x1 + w64 (by_ * y1))) (by simp only [getD_some hx1, getD_some hy1]; rfl)]
    (repeat (first | refine Jz ?_ | intro _))
    ((apply c_held ([(bo, .cells [.int .i64 a0, .int .i64 a1, .int .i64 a2, .int .i64 a3, .int .i64 (addB by_ an bn), .int .i64 (addB by_ al bl), .int .i64 (addB by_ ah bh), .int .i64 (addB by_ ab bb), .slice (some ⟨el, 0, none⟩) 44 44, .slice (some ⟨eh, 0, none⟩) 44 44].toArray 45 (0, 0)), (el, .cells (ints (fun i => if i < k + 1 then (fun i => addB by_ (als.getD i 0) (bls.getD i 0)) i else 0) 44).toArray 3 (0, 0)), (bbx, .cells [.int .i64 b0, .int .i64 b1, .int .i64 b2, .int .i64 b3, .int .i64 bn, .int .i64 bl, .int .i64 bh, .int .i64 bb, .slice qla bls.length qlc, .slice qha bhs.length qhc].toArray 45 (0, 0)), (ba, .cells [.int .i64 a0, .int .i64 a1, .int .i64 a2, .int .i64 a3, .int .i64 an, .int .i64 al, .int .i64 ah, .int .i64 ab, .slice pla als.length plc, .slice pha ahs.length phc].toArray 45 (0, 0))]); (case hL => (exact sbT))); (first | (apply h_first 0; (case hi => rfl); (case hr => kernel_rfl); (case hfr => kernel_rfl); (case hsel => kernel_rfl); (case hg => rfl); (case hd => rfl); (case he => (apply ev_binV; (case hx => rfl); (case hy => rfl); (case hb => first | exact bv_mulw | exact bv_addw)))) | (apply h_first 0; (case hi => rfl); (case hr => kernel_rfl); (case hfr => kernel_rfl); (case hsel => kernel_rfl); (case hg => rfl); (case hd => rfl); (case he => (apply ev_idxo1; (case hx => rfl); (case hi => rfl); (case hk => exact hk)))) | refine Jf 0 ?_); (first | (apply h_first 1; (case hi => rfl); (case hr => kernel_rfl); (case hfr => kernel_rfl); (case hsel => kernel_rfl); (case hg => rfl); (case hd => rfl); (case he => (apply ev_binV; (case hx => rfl); (case hy => rfl); (case hb => first | exact bv_mulw | exact bv_addw)))) | (apply h_first 1; (case hi => rfl); (case hr => kernel_rfl); (case hfr => kernel_rfl); (case hsel => kernel_rfl); (case hg => rfl); (case hd => rfl); (case he => (apply ev_idxo1; (case hx => rfl); (case hi => rfl); (case hk => exact hk)))) | refine Jf 1 ?_); (first | (apply h_first 2; (case hi => rfl); (case hr => kernel_rfl); (case hfr => kernel_rfl); (case hsel => kernel_rfl); (case hg => rfl); (case hd => rfl); (case he => (apply ev_binV; (case hx => rfl); (case hy => rfl); (case hb => first | exact bv_mulw | exact bv_addw)))) | (apply h_first 2; (case hi => rfl); (case hr => kernel_rfl); (case hfr => kernel_rfl); (case hsel => kernel_rfl); (case hg => rfl); (case hd => rfl); (case he => (apply ev_idxo1; (case hx => rfl); (case hi => rfl); (case hk => exact hk)))) | refine Jf 2 ?_); (first | (apply h_first 3; (case hi => rfl); (case hr => kernel_rfl); (case hfr => kernel_rfl); (case hsel => kernel_rfl); (case hg => rfl); (case hd => rfl); (case he => (apply ev_binV; (case hx => rfl); (case hy => rfl); (case hb => first | exact bv_mulw | exact bv_addw)))) | (apply h_first 3; (case hi => rfl); (case hr => kernel_rfl); (case hfr => kernel_rfl); (case hsel => kernel_rfl); (case hg => rfl); (case hd => rfl); (case he => (apply ev_idxo1; (case hx => rfl); (case hi => rfl); (case hk => exact hk)))) | refine Jf 3 ?_); (first | (apply h_first 4; (case hi => rfl); (case hr => kernel_rfl); (case hfr => kernel_rfl); (case hsel => kernel_rfl); (case hg => rfl); (case hd => rfl); (case he => (apply ev_binV; (case hx => rfl); (case hy => rfl); (case hb => first | exact bv_mulw | exact bv_addw)))) | (apply h_first 4; (case hi => rfl); (case hr => kernel_rfl); (case hfr => kernel_rfl); (case hsel => kernel_rfl); (case hg => rfl); (case hd => rfl); (case he => (apply ev_idxo1; (case hx => rfl); (case hi => rfl); (case hk => exact hk)))) | refine Jf 4 ?_); (first | (apply h_first 5; (case hi => rfl); (case hr => kernel_rfl); (case hfr => kernel_rfl); (case hsel => kernel_rfl); (case hg => rfl); (case hd => rfl); (case he => (apply ev_binV; (case hx => rfl); (case hy => rfl); (case hb => first | exact bv_mulw | exact bv_addw)))) | (apply h_first 5; (case hi => rfl); (case hr => kernel_rfl); (case hfr => kernel_rfl); (case hsel => kernel_rfl); (case hg => rfl); (case hd => rfl); (case he => (apply ev_idxo1; (case hx => rfl); (case hi => rfl); (case hk => exact hk)))) | refine Jf 5 ?_); (apply h_idx p2 6; (case hi => rfl); (case hr => kernel_rfl); (case hfr => kernel_rfl); (case hsel => kernel_rfl); (case hg => rfl); (case hd => rfl); (case i1 => infer_instance); (case i2 => infer_instance); (case hx => rfl); (case hy => rfl); (case hm => rfl); (case hu => exact hx2); intro pa (hpa : Pts _ pa [.int .i64 x2])); (apply h_first 7; (case hi => rfl); (case hr => kernel_rfl); (case hfr => kernel_rfl); (case hsel => kernel_rfl); (case hg => rfl); (case hd => rfl); (case he => (apply ev_load1; (case hx => rfl); (case h => exact hpa)))); (first | (apply h_first 8; (case hi => rfl); (case hr => kernel_rfl); (case hfr => kernel_rfl); (case hsel => kernel_rfl); (case hg => rfl); (case hd => rfl); (case he => (apply ev_binV; (case hx => rfl); (case hy => rfl); (case hb => first | exact bv_mulw | exact bv_addw)))) | (apply h_first 8; (case hi => rfl); (case hr => kernel_rfl); (case hfr => kernel_rfl); (case hsel => kernel_rfl); (case hg => rfl); (case hd => rfl); (case he => (apply ev_idxo1; (case hx => rfl); (case hi => rfl); (case hk => exact hk)))) | refine Jf 8 ?_); (first | (apply h_first 9; (case hi => rfl); (case hr => kernel_rfl); (case hfr => kernel_rfl); (case hsel => kernel_rfl); (case hg => rfl); (case hd => rfl); (case he => (apply ev_binV; (case hx => rfl); (case hy => rfl); (case hb => first | exact bv_mulw | exact bv_addw)))) | (apply h_first 9; (case hi => rfl); (case hr => kernel_rfl); (case hfr => kernel_rfl); (case hsel => kernel_rfl); (case hg => rfl); (case hd => rfl); (case he => (apply ev_idxo1; (case hx => rfl); (case hi => rfl); (case hk => exact hk)))) | refine Jf 9 ?_); (first | (apply h_first 10; (case hi => rfl); (case hr => kernel_rfl); (case hfr => kernel_rfl); (case hsel => kernel_rfl); (case hg => rfl); (case hd => rfl); (case he => (apply ev_binV; (case hx => rfl); (case hy => rfl); (case hb => first | exact bv_mulw | exact bv_addw)))) | (apply h_first 10; (case hi => rfl); (case hr => kernel_rfl); (case hfr => kernel_rfl); (case hsel => kernel_rfl); (case hg => rfl); (case hd => rfl); (case he => (apply ev_idxo1; (case hx => rfl); (case hi => rfl); (case hk => exact hk)))) | refine Jf 10 ?_); (first | (apply h_first 11; (case hi => rfl); (case hr => kernel_rfl); (case hfr => kernel_rfl); (case hsel => kernel_rfl); (case hg => rfl); (case hd => rfl); (case he => (apply ev_binV; (case hx => rfl); (case hy => rfl); (case hb => first | exact bv_mulw | exact bv_addw)))) | (apply h_first 11; (case hi => rfl); (case hr => kernel_rfl); (case hfr => kernel_rfl); (case hsel => kernel_rfl); (case hg => rfl); (case hd => rfl); (case he => (apply ev_idxo1; (case hx => rfl); (case hi => rfl); (case hk => exact hk)))) | refine Jf 11 ?_); (apply h_idx q2 12; (case hi => rfl); (case hr => kernel_rfl); (case hfr => kernel_rfl); (case hsel => kernel_rfl); (case hg => rfl); (case hd => rfl); (case i1 => infer_instance); (case i2 => infer_instance); (case hx => rfl); (case hy => rfl); (case hm => rfl); (case hu => exact hy2); intro pb (hpb : Pts _ pb [.int .i64 y2])); (apply h_first 13; (case hi => rfl); (case hr => kernel_rfl); (case hfr => kernel_rfl); (case hsel => kernel_rfl); (case hg => rfl); (case hd => rfl); (case he => (apply ev_load1; (case hx => rfl); (case h => exact hpb)))); (first | (apply h_first 14; (case hi => rfl); (case hr => kernel_rfl); (case hfr => kernel_rfl); (case hsel => kernel_rfl); (case hg => rfl); (case hd => rfl); (case he => (apply ev_binV; (case hx => rfl); (case hy => rfl); (case hb => first | exact bv_mulw | exact bv_addw)))) | (apply h_first 14; (case hi => rfl); (case hr => kernel_rfl); (case hfr => kernel_rfl); (case hsel => kernel_rfl); (case hg => rfl); (case hd => rfl); (case he => (apply ev_idxo1; (case hx => rfl); (case hi => rfl); (case hk => exact hk)))) | refine Jf 14 ?_); (first | (apply h_first 15; (case hi => rfl); (case hr => kernel_rfl); (case hfr => kernel_rfl); (case hsel => kernel_rfl); (case hg => rfl); (case hd => rfl); (case he => (apply ev_binV; (case hx => rfl); (case hy => rfl); (case hb => first | exact bv_mulw | exact bv_addw)))) | (apply h_first 15; (case hi => rfl); (case hr => kernel_rfl); (case hfr => kernel_rfl); (case hsel => kernel_rfl); (case hg => rfl); (case hd => rfl); (case he => (apply ev_idxo1; (case hx => rfl); (case hi => rfl); (case hk => exact hk)))) | refine Jf 15 ?_); (first | (apply h_first 16; (case hi => rfl); (case hr => kernel_rfl); (case hfr => kernel_rfl); (case hsel => kernel_rfl); (case hg => rfl); (case hd => rfl); (case he => (apply ev_binV; (case hx => rfl); (case hy => rfl); (case hb => first | exact bv_mulw | exact bv_addw)))) | (apply h_first 16; (case hi => rfl); (case hr => kernel_rfl); (case hfr => kernel_rfl); (case hsel => kernel_rfl); (case hg => rfl); (case hd => rfl); (case he => (apply ev_idxo1; (case hx => rfl); (case hi => rfl); (case hk => exact hk)))) | refine Jf 16 ?_); (apply h_one 17; (case hr => kernel_rfl)); (first | (apply n_store; (case hi => rfl); (case i1 => infer_instance); (case hg => rfl); (case hx => rfl); (case hy => rfl); (case h1 => rfl); (case hL => (repeat (first | exact Upd.head | apply Upd.tail | apply Upd.app))); (case hu => exact ints_nth _ _ k hk); (case hsub => (intro _; exact sbL))) | (refine Jn ?_; try intro _)); (apply h_end; (case hr => kernel_rfl)))
    rw [ints_step (fun i => addB by_ (ahs.getD i 0) (bhs.getD i 0)) k (w64 (x2 + w64 (by_ * y2))) (by simp only [getD_some hx2, getD_some hy2]; rfl)]
    (repeat (first | refine Jz ?_ | intro _))
    exact q_back (m' := 44 - (k + 1)) ⟨rfl, k + 1, rfl, by omega, rfl, rfl⟩ (by omega) sbF (List.Sublist.refl _)
  obtain rfl : k = 44 := by omega
  rw [ints_full, ints_full]
  refine W.perm ?_ ((List.Perm.swap _ _ _).trans ((List.Perm.swap _ _ _).cons _))
  refine W.freeze fun S3 h3 hb3 => W.freeze fun S4 h4 hb4 => ?_
  have z1 := zipL_44 (addB by_) l1 l3
  have z2 := zipL_44 (addB by_) l2 l4
  have e1 : (zipL (addB by_) als bls).length = 44 := by rw [z1]; simp
  have e2 : (zipL (addB by_) ahs bhs).length = 44 := by rw [z2]; simp
  have hq : (⟨⟨a0, a1, a2, a3, vop (addB by_) ⟨an, al, ah, ab, als, ahs⟩ ⟨bn, bl, bh, bb, bls, bhs⟩⟩, some ⟨el, 0, none⟩, 44, some ⟨eh, 0, none⟩, 44⟩ : Ce).vals = [.int .i64 a0, .int .i64 a1, .int .i64 a2, .int .i64 a3, .int .i64 (addB by_ an bn), .int .i64 (addB by_ al bl), .int .i64 (addB by_ ah bh), .int .i64 (addB by_ ab bb), .slice (some ⟨el, 0, none⟩) 44 44, .slice (some ⟨eh, 0, none⟩) 44 44] := by
    simp only [Ce.vals, vop, e1, e2]
  have hok : (⟨⟨a0, a1, a2, a3, vop (addB by_) ⟨an, al, ah, ab, als, ahs⟩ ⟨bn, bl, bh, bb, bls, bhs⟩⟩, some ⟨el, 0, none⟩, 44, some ⟨eh, 0, none⟩, 44⟩ : Ce).ok S4 :=
    ⟨by simp only [vop]; rw [z1]; exact at_ints (h4 _ _ hb3), by simp only [vop]; rw [z2]; exact at_ints hb4, Nat.le_of_eq e1, Nat.le_of_eq e2, by simp only [vop, e1]; decide, by simp only [vop, e2]; decide⟩
  (repeat (first | refine Jz ?_ | intro _))
  exact o_ret_cell (L' := []) (sz := 10) (cs := [.int .i64 a0, .int .i64 a1, .int .i64 a2, .int .i64 a3, .int .i64 (addB by_ an bn), .int .i64 (addB by_ al bl), .int .i64 (addB by_ ah bh), .int .i64 (addB by_ ab bb), .slice (some ⟨el, 0, none⟩) 44 44, .slice (some ⟨eh, 0, none⟩) 44 44]) Tryd.results56 rfl (by repeat (first | exact List.Mem.head _ | refine List.Mem.tail _ ?_ | exact List.mem_append_right _ (List.Mem.head _))) rfl (List.nil_sublist _) ⟨rfl, _, (congrArg (fun l : List Value => Value.agg l.toArray) hq).symm, rfl, hok⟩
end Go.Proofs.YtogfficbloejcaaDoor
namespace Go.Proofs.YtogfficbloejcaaDoor
open Go Go.X
set_option maxRecDepth 10000
set_option linter.unusedVariables false
attribute [local irreducible] Code.wpIn wpListIn Exit.then Exit.inBlock X.Out X.Back X.W X.Ev X.Con X.BinV X.Wh X.Wn X.Wq
def zero44 : Vec := ⟨0, 0, 0, 0, List.replicate 44 0, List.replicate 44 0⟩
def emptyP (c : PC) : PC := { c with x := zero44 }
theorem rEmptyF_con (q : Ce) (S : SH) : Con Tryd.prog 47 #[.agg q.vals.toArray] S [] (fun S' L' v => L' = [] ∧ ∃ q' : Ce, v = .agg q'.vals.toArray ∧ q'.p = emptyP q.p ∧ q'.ok S') := by
  have h := rEmpty_con q S
  refine con_frz (con_frz h (R' := fun S' L' v => ∃ bl bh : Nat, v = .agg [.int .i64 q.p.s, .int .i64 q.p.v, .int .i64 q.p.o, .int .i64 q.p.d, .int .i64 0, .int .i64 0, .int .i64 0, .int .i64 0, .slice (some ⟨bl, 0, none⟩) 44 44, .slice (some ⟨bh, 0, none⟩) 44 44].toArray ∧ S' bl = some (.cells z44.toArray 3 (0, 0)) ∧ L' = [(bh, .cells z44.toArray 3 (0, 0))]) ?_) ?_
  · rintro S' L' v ⟨-, bl, bh, rfl, rfl⟩
    exact ⟨bl, _, _, rfl, fun S2 h2 hb => ⟨bl, bh, rfl, hb, rfl⟩⟩
  · rintro S' L' v ⟨bl, bh, rfl, hb1, rfl⟩
    refine ⟨bh, _, _, rfl, fun S2 h2 hb2 => ⟨rfl, ⟨emptyP q.p, some ⟨bl, 0, none⟩, 44, some ⟨bh, 0, none⟩, 44⟩, rfl, rfl, ?_⟩⟩
    have hz : ∀ {b : Nat}, S2 b = some (.cells z44.toArray 3 (0, 0)) → At S2 (some ⟨b, 0, none⟩) (List.replicate 44 (0 : Int)) := fun h => by
      have := at_ints (f := fun _ => 0) h
      rwa [show (List.range 44).map (fun _ => (0 : Int)) = List.replicate 44 0 by decide] at this
    exact ⟨hz (h2 _ _ hb1), hz hb2, by simp [emptyP, zero44], by simp [emptyP, zero44], by simp [emptyP, zero44], by simp [emptyP, zero44]⟩
/-- A cell is put into a list in order. -/
noncomputable def putP (by_ : Int) : List PC → PC → List PC
  | [], c => [{ c with x := vop (addB by_) zero44 c.x }]
  | p :: l, c => by classical exact if Bef p c then p :: putP by_ l c else if Bef c p then { c with x := vop (addB by_) zero44 c.x } :: p :: l else { p with x := vop (addB by_) p.x c.x } :: l
theorem putP_skip {by_ : Int} {c : PC} : ∀ {l : List PC} {k : Nat}, (∀ p ∈ l.take k, Bef p c) → putP by_ l c = l.take k ++ putP by_ (l.drop k) c
  | _, 0, _ => rfl
  | [], k + 1, _ => by simp
  | p :: l, k + 1, h => by
    rw [putP, if_pos (h p (by simp)), putP_skip (l := l) (k := k) fun q hq => h q (by simp [hq])]
    simp
theorem putP_len (by_ : Int) (c : PC) : ∀ l : List PC, (putP by_ l c).length ≤ l.length + 1
  | [] => by simp [putP]
  | p :: l => by
    have := putP_len by_ c l
    rw [putP]
    split
    · simp only [List.length_cons]; omega
    · split <;> simp
/-- Rows of 44 counts. -/
def R44 (c : PC) : Prop := c.x.ls.length = 44 ∧ c.x.hs.length = 44
/-- A list of cells in memory. -/
def ClV (S : SH) (v : Value) (l : List PC) : Prop := ∃ (A : Option Addr) (c : Nat) (cs : List Ce), v = .slice A cs.length c ∧ cs.length ≤ c ∧ At S A cs ∧ (∀ q ∈ cs, q.ok S) ∧ cs.map (·.p) = l
theorem ClV.le {S T : SH} {v : Value} {l : List PC} (h : ClV S v l) (k : Le S T) : ClV T v l := by
  obtain ⟨A, c, cs, h1, h2, h3, h4, h5⟩ := h
  exact ⟨A, c, cs, h1, h2, h3.le k, fun q hq => (h4 q hq).le k, h5⟩
theorem zipL_R {g : Int → Int → Int} {a b : List Int} (ha : a.length = 44) (hb : b.length = 44) : (zipL g a b).length = 44 := by rw [zipL_len, ha, hb]; rfl
set_option maxHeartbeats 1600000 in
theorem rPut_con {va : Value} {l : List PC} (q : Ce) (by_ : Int) (S : SH) (hl : ClV S va l) (hq : q.ok S) (hlen : l.length ≤ 900) (r1 : ∀ p ∈ l, R44 p) (r2 : R44 q.p) :
    Con Tryd.prog 48 #[va, .agg q.vals.toArray, .int .i64 by_] S [] (fun S' L' v => L' = [] ∧ ClV S' v (putP by_ l q.p)) := by
  obtain ⟨A, ca, cs, rfl, hca, hA, oka, rfl⟩ := hl
  rw [List.length_map] at hlen
  refine con_of (args := [.slice A cs.length ca, .agg q.vals.toArray, .int .i64 by_]) Tryd.func48 rfl Tryd.ntmps48 rfl fun w => ?_
  (repeat (first | refine Jz ?_ | intro _))
  rename_i b4
  refine c_meetB (fun S' L F => S' = S ∧ ∃ k : Nat, k ≤ cs.length ∧ (∀ p ∈ (cs.map (·.p)).take k, Bef p q.p) ∧ (∀ x, cs[k]? = some x → ¬ Bef x.p q.p) ∧ L = [(b4, .cells q.vals.toArray 45 (0, 0))] ∧ F = [(0, .slice A cs.length ca), (2, .int .i64 by_), (4, .pointer (some ⟨b4, 0, none⟩)), (7, .int .i64 k)]) ?_ ?_
  · refine c_loop (fun m S' L F => S' = S ∧ ∃ k : Nat, m = cs.length - k ∧ k ≤ cs.length ∧ (∀ p ∈ (cs.map (·.p)).take k, Bef p q.p) ∧ L = [(b4, .cells q.vals.toArray 45 (0, 0))] ∧ F = [(0, .slice A cs.length ca), (2, .int .i64 by_), (4, .pointer (some ⟨b4, 0, none⟩)), (7, .int .i64 k)])
      ⟨rfl, 0, rfl, by omega, by simp, rfl, rfl⟩ sbF sbL ?_
    rintro m S' L F ⟨rfl, k, rfl, hk, hbef, rfl, rfl⟩
    by_cases hlt : k < cs.length
    rotate_left
    · (repeat (first | refine Jz ?_ | intro _))
      exact q_cut ⟨rfl, k, hk, hbef, fun x hx => by have := (List.getElem?_eq_some_iff.1 hx).1; omega, rfl, rfl⟩ sbF sbL
    obtain ⟨x, hx⟩ := at_lt' hlt
    have hxm : (cs.map (·.p))[k]? = some x.p := by rw [List.getElem?_map, hx]; rfl
    have bc := rBefore_con x q S'
    by_cases hb : Bef x.p q.p
    · rw [bP_t hb] at bc
      (repeat (first | refine Jz ?_ | intro _))
      ((apply c_held ([(b4, .cells q.vals.toArray 45 (0, 0))]); (case hL => (exact sbT))); refine Jf 0 ?_; refine Jf 1 ?_; (apply h_idx hA 2; (case hi => rfl); (case hr => kernel_rfl); (case hfr => kernel_rfl); (case hsel => kernel_rfl); (case hg => rfl); (case hd => rfl); (case i1 => infer_instance); (case i2 => infer_instance); (case hx => rfl); (case hy => rfl); (case hm => rfl); (case hu => exact hx); intro p1 hp1); (apply h_first 3; (case hi => rfl); (case hr => kernel_rfl); (case hfr => kernel_rfl); (case hsel => kernel_rfl); (case hg => rfl); (case hd => rfl); (case he => (apply ev_load_ag; (case hx => rfl); (case h => exact hp1); (case hl => rfl)))); refine Jf 4 ?_; (apply h_one 5; (case hr => kernel_rfl)); (apply n_call; (case hi => rfl); (case i1 => infer_instance); (case hg => rfl); (case hd => rfl); (case ha => rfl); (case hc => exact bc); (case hL => (exact pmT)); (case hsub => (intros; (exact sbT))); rintro _ _ _ - ⟨rfl, rfl, rfl⟩); refine Jf 6 ?_; (apply h_end; (case hr => kernel_rfl)))
      (repeat (first | refine Jz ?_ | intro _))
      refine q_back (m' := cs.length - (k + 1)) ⟨rfl, k + 1, rfl, by omega, fun p hp => ?_, rfl, rfl⟩ (by omega) sbF sbL
      rw [take_at' hxm] at hp
      rcases List.mem_append.1 hp with hp | hp
      · exact hbef p hp
      · rw [List.mem_singleton.1 hp]; exact hb
    · rw [bP_f hb] at bc
      (repeat (first | refine Jz ?_ | intro _))
      ((apply c_held ([(b4, .cells q.vals.toArray 45 (0, 0))]); (case hL => (exact sbT))); refine Jf 0 ?_; refine Jf 1 ?_; (apply h_idx hA 2; (case hi => rfl); (case hr => kernel_rfl); (case hfr => kernel_rfl); (case hsel => kernel_rfl); (case hg => rfl); (case hd => rfl); (case i1 => infer_instance); (case i2 => infer_instance); (case hx => rfl); (case hy => rfl); (case hm => rfl); (case hu => exact hx); intro p1 hp1); (apply h_first 3; (case hi => rfl); (case hr => kernel_rfl); (case hfr => kernel_rfl); (case hsel => kernel_rfl); (case hg => rfl); (case hd => rfl); (case he => (apply ev_load_ag; (case hx => rfl); (case h => exact hp1); (case hl => rfl)))); refine Jf 4 ?_; (apply h_one 5; (case hr => kernel_rfl)); (apply n_call; (case hi => rfl); (case i1 => infer_instance); (case hg => rfl); (case hd => rfl); (case ha => rfl); (case hc => exact bc); (case hL => (exact pmT)); (case hsub => (intros; (exact sbT))); rintro _ _ _ - ⟨rfl, rfl, rfl⟩); refine Jf 6 ?_; (apply h_end; (case hr => kernel_rfl)))
      (repeat (first | refine Jz ?_ | intro _))
      exact q_cut ⟨rfl, k, hk, hbef, fun y hy => by rw [hx] at hy; injection hy with hy; subst hy; exact hb, rfl, rfl⟩ sbF sbL
  rintro S' L F ⟨rfl, k, hk, hbef, hnb, rfl, rfl⟩
  rw [putP_skip hbef]
  have htl : (cs.take k).length = k := by rw [List.length_take]; omega
  (repeat (first | refine Jc ?_ | (apply s_slice_hi hA; (case hg => rfl); (case hd => rfl); (case hx => rfl); (case hy => rfl); (case hm => rfl); (case hmc => omega); (case hj => omega); intro A1 hA1) | refine Jo ?_ | intro _))
  rename_i b0
  have ho0 := Ows.full (α := Ce) (e := 45) (g := b0) (cs := []) (l := []) rfl (by decide)
  (repeat (first | refine Jc ?_ | (apply s_append_st (ms := cs.take k) hA1; (case hg => rfl); (case hd => rfl); (case hx => rfl); (case ho => exact ho0); (case hL => (exact pmT)); (case hy => rfl); (case hm => first | rfl | simp); (case hzs => rfl); (case h0 => decide); (case hb => first | (simp; omega) | simp); (case h63 => first | (simp; omega) | simp); intro v1' ob1 ho1) | refine Jo ?_ | intro _))
  have hqr := r2
  have hfin : ∀ (S3 : SH) (L3 : Blocks) (F3 : Slots) (x : Ce) (k2 : Nat) (v : Value) (ob Lx : Blocks), Le S' S3 → k2 ≤ cs.length → Ows 45 v (cs.take k ++ [x] ++ cs.drop k2) ob → L3.Perm (ob ++ Lx) → x.ok S3 → geT F3 6 = some v → get F3 kM = none → ((cs.map (·.p)).take k ++ x.p :: (cs.map (·.p)).drop k2) = (cs.map (·.p)).take k ++ putP by_ ((cs.map (·.p)).drop k) q.p →
      W ⟨w, S', []⟩ 71 S3 L3 F3 (Out Tryd.prog ⟨w, S', []⟩ Tryd.f48 (fun S2 L2 v => L2 = [] ∧ ClV S2 v ((cs.map (·.p)).take k ++ putP by_ ((cs.map (·.p)).drop k) q.p)) .ret) := by
    intro S3 L3 F3 x k2 v ob Lx h1 h2 h3 h4 h5 h6 h7 h8
    refine W.perm ?_ h4
    refine W.freezeOws h3 (List.Perm.refl _) fun S4 hle4 hsr => ?_
    obtain ⟨A4, c4, rfl, hc4, hA4⟩ := hsr
    refine o_ret (L' := []) Tryd.results48 h6 (List.nil_sublist _) ⟨rfl, A4, c4, _, rfl, hc4, hA4, fun y hy => ?_, by rw [← h8]; simp⟩ h7
    rcases List.mem_append.1 hy with hy | hy
    · rcases List.mem_append.1 hy with hy | hy
      · exact ((oka y (List.mem_of_mem_take hy)).le h1).le hle4
      · rw [List.mem_singleton.1 hy]; exact h5.le hle4
    · exact ((oka y (List.mem_of_mem_drop hy)).le h1).le hle4
  by_cases hlt : k < cs.length
  · obtain ⟨x, hx⟩ := at_lt' hlt
    have hxm : (cs.map (·.p))[k]? = some x.p := by rw [List.getElem?_map, hx]; rfl
    have hxr := r1 x.p (List.mem_of_getElem? hxm)
    have hdr : (cs.map (·.p)).drop k = x.p :: (cs.map (·.p)).drop (k + 1) := drop_at hxm
    rw [show decide ((k : Int) < (cs.length : Int)) = true from decide_eq_true (by omega)]
    have bc := rBefore_con q x S'
    by_cases hb : Bef q.p x.p
    rotate_left
    · rw [bP_f hb] at bc
      have ac := fun S2 (h : Le S' S2) => rAdd_con x q by_ S2 ((oka x (List.mem_of_getElem? hx)).le h) (hq.le h) hxr.1 hxr.2 hqr.1 hqr.2
      (repeat (first | refine Jz ?_ | intro _))
      ((apply c_held ([(b4, .cells q.vals.toArray 45 (0, 0))]); (case hL => (exact sbT))); refine Jf 0 ?_; refine Jf 1 ?_; refine Jf 2 ?_; (apply h_idx hA 3; (case hi => rfl); (case hr => kernel_rfl); (case hfr => kernel_rfl); (case hsel => kernel_rfl); (case hg => rfl); (case hd => rfl); (case i1 => infer_instance); (case i2 => infer_instance); (case hx => rfl); (case hy => rfl); (case hm => rfl); (case hu => exact hx); intro p1 hp1); (apply h_first 4; (case hi => rfl); (case hr => kernel_rfl); (case hfr => kernel_rfl); (case hsel => kernel_rfl); (case hg => rfl); (case hd => rfl); (case he => (apply ev_load_ag; (case hx => rfl); (case h => exact hp1); (case hl => rfl)))); (apply h_one 5; (case hr => kernel_rfl)); (apply n_call; (case hi => rfl); (case i1 => infer_instance); (case hg => rfl); (case hd => rfl); (case ha => rfl); (case hc => exact bc); (case hL => (exact pmT)); (case hsub => (intros; (exact sbT))); rintro _ _ _ - ⟨rfl, rfl, rfl⟩); refine Jf 6 ?_; (apply h_end; (case hr => kernel_rfl)))
      (repeat (first | refine Jz ?_ | intro _))
      ((apply c_held ([(b4, .cells q.vals.toArray 45 (0, 0))]); (case hL => (exact sbT))); refine Jf 0 ?_; refine Jf 1 ?_; refine Jf 2 ?_; (apply h_idx hA 3; (case hi => rfl); (case hr => kernel_rfl); (case hfr => kernel_rfl); (case hsel => kernel_rfl); (case hg => rfl); (case hd => rfl); (case i1 => infer_instance); (case i2 => infer_instance); (case hx => rfl); (case hy => rfl); (case hm => rfl); (case hu => exact hx); intro p1 hp1); (apply h_first 4; (case hi => rfl); (case hr => kernel_rfl); (case hfr => kernel_rfl); (case hsel => kernel_rfl); (case hg => rfl); (case hd => rfl); (case he => (apply ev_load_ag; (case hx => rfl); (case h => exact hp1); (case hl => rfl)))); refine Jf 5 ?_; refine Jf 6 ?_; (apply h_one 7; (case hr => kernel_rfl)); (apply n_call; (case hi => rfl); (case i1 => infer_instance); (case hg => rfl); (case hd => rfl); (case ha => rfl); (case hc => exact ac _ (Le.refl _)); (case hL => (exact pmT)); (case hsub => (intros; (exact sbT))); rintro S3 L3 v3 hle3 ⟨rfl, q', rfl, hqp, hqok⟩); (apply h_one 8; (case hr => kernel_rfl)); (apply n_buildSlice; (case hi => rfl); (case hg => rfl); (case hd => rfl); (case i1 => infer_instance); (case i2 => infer_instance); (case i3 => infer_instance); (case hp => rfl); (case hq => rfl); (case hm => rfl); (case hv => rfl); (case hl => rfl); intro bl); (apply h_one 9; (case hr => kernel_rfl)); (apply n_append (ms := [q']); (case hi => rfl); (case hT => infer_instance); (case hsz => infer_instance); (case hz => infer_instance); (case hby => infer_instance); (case hg => rfl); (case hd => rfl); (case hx => rfl); (case ho => exact ho1); (case hL => (exact pmT)); (case hy => rfl); (case hm => rfl); (case hs => (apply Src.own; (repeat (first | exact List.Mem.head _ | apply List.Mem.tail | apply List.mem_append_right)))); (case hzs => rfl); (case h0 => decide); (case hb => (simp; omega)); (case h63 => (simp; omega)); (case hsub => (intros; (exact sbT))); intro v2' ob2 ho2); refine Jf 10 ?_; (apply h_end; (case hr => kernel_rfl)))
      (repeat (first | refine Jc ?_ | (apply s_slice_lo (i := k + 1) (hA.le hle3); (case hg => rfl); (case hd => rfl); (case hx => rfl); (case hy => rfl); (case hm => rfl); (case hmc => omega); (case hj => omega); intro A2 hA2) | (apply s_append_st (ms := cs.drop (k + 1)) hA2; (case hg => rfl); (case hd => rfl); (case hx => rfl); (case ho => exact ho2); (case hL => (exact pmT)); (case hy => rfl); (case hm => first | rfl | simp); (case hzs => rfl); (case h0 => decide); (case hb => first | (simp; omega) | simp); (case h63 => first | (simp; omega) | simp); intro v3' ob3 ho3) | refine Jo ?_ | intro _))
      exact hfin S3 _ _ q' (k + 1) v3' ob3 _ hle3 (by omega) ho3 (List.Perm.refl _) hqok rfl rfl (by rw [hdr, putP, if_neg (hnb x hx), if_neg hb, hqp])
    · rw [bP_t hb] at bc
      (repeat (first | refine Jz ?_ | intro _))
      ((apply c_held ([(b4, .cells q.vals.toArray 45 (0, 0))]); (case hL => (exact sbT))); refine Jf 0 ?_; refine Jf 1 ?_; refine Jf 2 ?_; (apply h_idx hA 3; (case hi => rfl); (case hr => kernel_rfl); (case hfr => kernel_rfl); (case hsel => kernel_rfl); (case hg => rfl); (case hd => rfl); (case i1 => infer_instance); (case i2 => infer_instance); (case hx => rfl); (case hy => rfl); (case hm => rfl); (case hu => exact hx); intro p1 hp1); (apply h_first 4; (case hi => rfl); (case hr => kernel_rfl); (case hfr => kernel_rfl); (case hsel => kernel_rfl); (case hg => rfl); (case hd => rfl); (case he => (apply ev_load_ag; (case hx => rfl); (case h => exact hp1); (case hl => rfl)))); (apply h_one 5; (case hr => kernel_rfl)); (apply n_call; (case hi => rfl); (case i1 => infer_instance); (case hg => rfl); (case hd => rfl); (case ha => rfl); (case hc => exact bc); (case hL => (exact pmT)); (case hsub => (intros; (exact sbT))); rintro _ _ _ - ⟨rfl, rfl, rfl⟩); refine Jf 6 ?_; (apply h_end; (case hr => kernel_rfl)))
      (repeat (first | refine Jz ?_ | intro _))
      ((apply c_held ([(b4, .cells q.vals.toArray 45 (0, 0))]); (case hL => (exact sbT))); refine Jf 0 ?_; refine Jf 1 ?_; refine Jf 3 ?_; refine Jf 4 ?_; (apply h_one 2; (case hr => kernel_rfl)); (apply n_call; (case hi => rfl); (case i1 => infer_instance); (case hg => rfl); (case hd => rfl); (case ha => rfl); (case hc => exact rEmptyF_con q _); (case hL => (exact pmT)); (case hsub => (intros; (exact sbT))); rintro S3 L3 v3 hle3 ⟨rfl, qe, rfl, hqe, hqeok⟩); (apply h_one 5; (case hr => kernel_rfl)); (apply n_call; (case hi => rfl); (case i1 => infer_instance); (case hg => rfl); (case hd => rfl); (case ha => rfl); (case hc => exact rAdd_con qe q by_ _ hqeok (hq.le hle3) (by rw [hqe]; simp [emptyP, zero44]) (by rw [hqe]; simp [emptyP, zero44]) hqr.1 hqr.2); (case hL => (exact pmT)); (case hsub => (intros; (exact sbT))); rintro S5 L5 v5 hle5 ⟨rfl, q', rfl, hqp, hqok⟩); (apply h_one 6; (case hr => kernel_rfl)); (apply n_buildSlice; (case hi => rfl); (case hg => rfl); (case hd => rfl); (case i1 => infer_instance); (case i2 => infer_instance); (case i3 => infer_instance); (case hp => rfl); (case hq => rfl); (case hm => rfl); (case hv => rfl); (case hl => rfl); intro bl); (apply h_one 7; (case hr => kernel_rfl)); (apply n_append (ms := [q']); (case hi => rfl); (case hT => infer_instance); (case hsz => infer_instance); (case hz => infer_instance); (case hby => infer_instance); (case hg => rfl); (case hd => rfl); (case hx => rfl); (case ho => exact ho1); (case hL => (exact pmT)); (case hy => rfl); (case hm => rfl); (case hs => (apply Src.own; (repeat (first | exact List.Mem.head _ | apply List.Mem.tail | apply List.mem_append_right)))); (case hzs => rfl); (case h0 => decide); (case hb => (simp; omega)); (case h63 => (simp; omega)); (case hsub => (intros; (exact sbT))); intro v2' ob2 ho2); refine Jf 8 ?_; (apply h_end; (case hr => kernel_rfl)))
      rw [hqe] at hqp
      (repeat (first | refine Jc ?_ | (apply s_slice_lo (i := k) ((hA.le hle3).le hle5); (case hg => rfl); (case hd => rfl); (case hx => rfl); (case hy => rfl); (case hm => rfl); (case hmc => omega); (case hj => omega); intro A2 hA2) | (apply s_append_st (ms := cs.drop k) hA2; (case hg => rfl); (case hd => rfl); (case hx => rfl); (case ho => exact ho2); (case hL => (exact pmT)); (case hy => rfl); (case hm => first | rfl | simp); (case hzs => rfl); (case h0 => decide); (case hb => first | (simp; omega) | simp); (case h63 => first | (simp; omega) | simp); intro v3' ob3 ho3) | refine Jo ?_ | intro _))
      exact hfin S5 _ _ q' k v3' ob3 _ (hle3.trans hle5) (by omega) ho3 (List.Perm.refl _) hqok rfl rfl (by rw [hdr, putP, if_neg (hnb x hx), if_pos hb, hqp]; rfl)
  · rw [show decide ((k : Int) < (cs.length : Int)) = false from decide_eq_false (by omega)]
    (repeat (first | refine Jz ?_ | intro _))
    ((apply c_held ([(b4, .cells q.vals.toArray 45 (0, 0))]); (case hL => (exact sbT))); refine Jf 0 ?_; refine Jf 1 ?_; refine Jf 3 ?_; refine Jf 4 ?_; (apply h_one 2; (case hr => kernel_rfl)); (apply n_call; (case hi => rfl); (case i1 => infer_instance); (case hg => rfl); (case hd => rfl); (case ha => rfl); (case hc => exact rEmptyF_con q _); (case hL => (exact pmT)); (case hsub => (intros; (exact sbT))); rintro S3 L3 v3 hle3 ⟨rfl, qe, rfl, hqe, hqeok⟩); (apply h_one 5; (case hr => kernel_rfl)); (apply n_call; (case hi => rfl); (case i1 => infer_instance); (case hg => rfl); (case hd => rfl); (case ha => rfl); (case hc => exact rAdd_con qe q by_ _ hqeok (hq.le hle3) (by rw [hqe]; simp [emptyP, zero44]) (by rw [hqe]; simp [emptyP, zero44]) hqr.1 hqr.2); (case hL => (exact pmT)); (case hsub => (intros; (exact sbT))); rintro S5 L5 v5 hle5 ⟨rfl, q', rfl, hqp, hqok⟩); (apply h_one 6; (case hr => kernel_rfl)); (apply n_buildSlice; (case hi => rfl); (case hg => rfl); (case hd => rfl); (case i1 => infer_instance); (case i2 => infer_instance); (case i3 => infer_instance); (case hp => rfl); (case hq => rfl); (case hm => rfl); (case hv => rfl); (case hl => rfl); intro bl); (apply h_one 7; (case hr => kernel_rfl)); (apply n_append (ms := [q']); (case hi => rfl); (case hT => infer_instance); (case hsz => infer_instance); (case hz => infer_instance); (case hby => infer_instance); (case hg => rfl); (case hd => rfl); (case hx => rfl); (case ho => exact ho1); (case hL => (exact pmT)); (case hy => rfl); (case hm => rfl); (case hs => (apply Src.own; (repeat (first | exact List.Mem.head _ | apply List.Mem.tail | apply List.mem_append_right)))); (case hzs => rfl); (case h0 => decide); (case hb => (simp; omega)); (case h63 => (simp; omega)); (case hsub => (intros; (exact sbT))); intro v2' ob2 ho2); refine Jf 8 ?_; (apply h_end; (case hr => kernel_rfl)))
    rw [hqe] at hqp
    (repeat (first | refine Jc ?_ | (apply s_slice_lo (i := k) ((hA.le hle3).le hle5); (case hg => rfl); (case hd => rfl); (case hx => rfl); (case hy => rfl); (case hm => rfl); (case hmc => omega); (case hj => omega); intro A2 hA2) | (apply s_append_st (ms := cs.drop k) hA2; (case hg => rfl); (case hd => rfl); (case hx => rfl); (case ho => exact ho2); (case hL => (exact pmT)); (case hy => rfl); (case hm => first | rfl | simp); (case hzs => rfl); (case h0 => decide); (case hb => first | (simp; omega) | simp); (case h63 => first | (simp; omega) | simp); intro v3' ob3 ho3) | refine Jo ?_ | intro _))
    exact hfin S5 _ _ q' k v3' ob3 _ (hle3.trans hle5) (by omega) ho3 (List.Perm.refl _) hqok rfl rfl (by rw [List.drop_of_length_le (by rw [List.length_map]; omega), putP, hqp]; rfl)
end Go.Proofs.YtogfficbloejcaaDoor
