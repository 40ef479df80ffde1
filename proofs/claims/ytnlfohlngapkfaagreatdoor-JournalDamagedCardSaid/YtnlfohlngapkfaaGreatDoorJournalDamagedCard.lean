/- JournalDamaged returns true for every input, and each argument reads afterwards as it read before; the listed package variables start as the program's text lays them, and the given tie to the text is used. -/
import Derived.Test.YtnlfohlngapkfaaGreatDoorBf
import Derived.Test.YtnlfohlngapkfaaGreatDoorBe
import Derived.Test.YtnlfohlngapkfaaGreatDoorXB
import Derived.Test.YtnlfohlngapkfaaGreatDoorCards
import Derived.Test.YtnlfohlngapkfaaGreatDoorTie
namespace Go.Proofs.YtnlfohlngapkfaaGreatDoor
open Go Go.X
set_option maxRecDepth 10000
set_option linter.unusedVariables false
attribute [local irreducible] Code.wpIn wpListIn Exit.then Exit.inBlock X.Out X.Back X.W X.Ev X.Con X.BinV X.Wh X.Wn X.Wq
attribute [local irreducible] sumK chain stw group stored
/-- Whether the byte at an index of stored records is one of the length of a record (plain). -/
def sizedP : List Str → Int → Bool
  | [], _ => false
  | r :: t, at_ => if 1 ≤ at_ ∧ at_ ≤ ((ibs r.b.length).length : Int) then true else sizedP t (at_ - (33 + (ibs r.b.length).length + r.b.length))
theorem chain_def (K : List UInt32) (h r : Bs) : chain K h r = sumK K ([2] ++ (h ++ r)) := by unfold chain; rfl
theorem stored_def (K : List UInt32) (h r : Bs) : stored K h r = 1 :: (ibs r.length ++ (r ++ chain K h r)) := by unfold stored stw; simp
theorem stw_def (r : Bs) : stw r = ibs r.length ++ r := by unfold stw; rfl
/-- A stored record with another digest than its own. -/
theorem bad_digest {K : List UInt32} {h r d rest : Bs} (hr : r.length ≤ 65536) (hd : d.length = 32) (hne : d ≠ chain K h r) : Bad K h (1 :: (stw r ++ (d ++ rest))) := by
  refine ⟨⟨1, rfl, by decide⟩, ?_⟩
  rintro ⟨x, rest2, hx, e⟩
  have e1 : stw r ++ (d ++ rest) = stw x ++ (chain K h x ++ rest2) := by
    have h0 : stored K h x ++ rest2 = 1 :: (stw x ++ (chain K h x ++ rest2)) := by rw [stored_def, stw_def]; simp
    rw [h0] at e
    exact (List.cons.inj e).2
  have e2 := decS_stw hr (d ++ rest)
  rw [e1, decS_stw hx] at e2
  obtain ⟨rfl, -⟩ := Prod.mk.inj (Option.some.inj e2)
  have e3 := List.append_cancel_left e1
  exact hne (List.append_inj e3 (by rw [hd, chain_len])).1
theorem lset_one_ne {B : Bs} {i : Nat} {c b : UInt8} (h : B[i]? = some b) (hc : b ≠ c) : lset B i [c] ≠ B := by
  intro e
  have hi := (List.getElem?_eq_some_iff.1 h).1
  have : (lset B i [c])[i]? = some c := by
    unfold lset
    rw [List.append_assoc, List.getElem?_append_right (by rw [List.length_take]; omega), List.length_take, Nat.min_eq_left (by omega), Nat.sub_self]
    rfl
  rw [e, h] at this
  exact hc (Option.some.inj this)
theorem lset_in {a b t : Bs} {o : Nat} (h : o + t.length ≤ a.length) : lset (a ++ b) o t = lset a o t ++ b := by
  unfold lset
  rw [List.take_append_of_le_length (by omega), List.drop_append_of_le_length h]
  simp
/-- What the disk holds where one byte of the records, that is none of a length, is another one. -/
theorem damaged_plain (Z : Bs) (c : UInt8) : ∀ (R : List Str) (h : Bs) (k : Nat) (b : UInt8), Short R → h.length = 32 → k < (group shaK h R).1.length → sizedP R (k : Int) = false → ((group shaK h R).1 ++ Z)[k]? = some b → b ≠ c →
    (∃ l tail, Short l ∧ l.length ≤ R.length ∧ lset ((group shaK h R).1 ++ Z) k [c] = (group shaK h l).1 ++ tail ∧ Bad shaK (group shaK h l).2 tail) ∨
    (c = 0 ∧ ∃ j, j < R.length ∧ ∃ tail, lset ((group shaK h R).1 ++ Z) k [c] = (group shaK h (R.take j)).1 ++ 0 :: tail) ∨
    (∃ l i x y, Short l ∧ l.length = R.length ∧ lset ((group shaK h R).1 ++ Z) k [c] = (group shaK h l).1 ++ Z ∧ (headsL h R).take i = (headsL h l).take i ∧ (headsL h R)[i]? = some ⟨x⟩ ∧ (headsL h l)[i]? = some ⟨y⟩ ∧ x ≠ y ∧ sumK shaK x = sumK shaK y)
  | [], h, k, b, _, _, hk, _, _, _ => by rw [group_nil] at hk; cases hk
  | r :: t, h, k, b, hS, hh, hk, hz, hb, hbc => by
    have hr := hS r List.mem_cons_self
    have ht : Short t := fun x hx => hS x (List.mem_cons_of_mem _ hx)
    have hsl : (stored shaK h r.b).length = 33 + (ibs r.b.length).length + r.b.length := by rw [stored_leq, stw_leq]; omega
    rw [sizedP] at hz
    rw [group_cons] at hk hb ⊢
    simp only [List.append_assoc] at hk hb ⊢
    have hzi : ¬((1 : Int) ≤ k ∧ (k : Int) ≤ ((ibs r.b.length).length : Int)) := by
      intro hc; rw [if_pos hc] at hz; cases hz
    rw [if_neg hzi] at hz
    by_cases hin : (stored shaK h r.b).length ≤ k
    · -- in a later record
      obtain ⟨k', rfl⟩ : ∃ k', k = (stored shaK h r.b).length + k' := ⟨k - (stored shaK h r.b).length, by omega⟩
      rw [lset_app]
      rw [List.getElem?_append_right (by omega), Nat.add_sub_cancel_left] at hb
      rw [List.length_append] at hk
      have hz' : sizedP t (k' : Int) = false := by
        rw [← hz]; congr 1; omega
      rcases damaged_plain Z c t (chain shaK h r.b) k' b ht (chain_len _ _ _) (by omega) hz' hb hbc with ⟨l, tail, h1, h2, h3, h4⟩ | ⟨h1, j, h2, tail, h3⟩ | ⟨l, i, x, y, h1, h2, h3, h4, h5, h6, h7, h8⟩
      · refine .inl ⟨r :: l, tail, fun x hx => ?_, by simp; omega, ?_, ?_⟩
        · rcases List.mem_cons.1 hx with rfl | hx
          · exact hr
          · exact h1 x hx
        · rw [h3, group_cons]; simp
        · rw [group_cons]; exact h4
      · refine .inr (.inl ⟨h1, j + 1, by simp; omega, tail, ?_⟩)
        rw [h3, List.take_succ_cons, group_cons]; simp
      · refine .inr (.inr ⟨r :: l, i + 1, x, y, fun x hx => ?_, by simp; omega, ?_, ?_, ?_, ?_, h7, h8⟩)
        · rcases List.mem_cons.1 hx with rfl | hx
          · exact hr
          · exact h1 x hx
        · rw [h3, group_cons]; simp
        · simp only [headsL, List.take_succ_cons, h4]
        · simpa [headsL] using h5
        · simpa [headsL] using h6
    · -- in this one
      have hin : k < (stored shaK h r.b).length := by omega
      rw [lset_in (show k + 1 ≤ _ from hin)]
      rw [List.getElem?_append_left hin] at hb
      generalize hrest : (group shaK (chain shaK h r.b) t).1 ++ Z = rest at *
      rw [stored_def] at hb ⊢
      have hrec : ∀ (r' : Bs), r'.length = r.b.length → r' ≠ r.b → chain shaK h r' = chain shaK h r.b → ∃ l i x y, Short l ∧ l.length = (r :: t).length ∧ (1 :: (ibs r.b.length ++ (r' ++ chain shaK h r.b))) ++ rest = (group shaK h l).1 ++ Z ∧ (headsL h (r :: t)).take i = (headsL h l).take i ∧ (headsL h (r :: t))[i]? = some ⟨x⟩ ∧ (headsL h l)[i]? = some ⟨y⟩ ∧ x ≠ y ∧ sumK shaK x = sumK shaK y := by
        intro r' hl hne he
        refine ⟨⟨r'⟩ :: t, 0, ([2] ++ h) ++ r.b, ([2] ++ h) ++ r', fun x hx => ?_, by simp, ?_, rfl, rfl, rfl, fun e => hne (List.append_cancel_left e).symm, ?_⟩
        · rcases List.mem_cons.1 hx with rfl | hx
          · show r'.length ≤ _
            omega
          · exact ht x hx
        · rw [group_cons, stored_def, he, hl, ← hrest]; simp
        · rw [chain_def, chain_def] at he
          rw [List.append_assoc, List.append_assoc]; exact he.symm
      cases k with
      | zero =>
        have hb1 : b = 1 := by simpa using hb.symm
        have e : lset (1 :: (ibs r.b.length ++ (r.b ++ chain shaK h r.b))) 0 [c] = c :: (ibs r.b.length ++ (r.b ++ chain shaK h r.b)) := by simp [lset]
        rw [e]
        by_cases hc0 : c = 0
        · exact .inr (.inl ⟨hc0, 0, by simp, (ibs r.b.length ++ (r.b ++ chain shaK h r.b)) ++ rest, by rw [hc0, List.take_zero, group_nil]; rfl⟩)
        · refine .inl ⟨[], c :: ((ibs r.b.length ++ (r.b ++ chain shaK h r.b)) ++ rest), Short.nil, Nat.zero_le _, by rw [group_nil]; rfl, ⟨c, rfl, hc0⟩, ?_⟩
          rintro ⟨x, rest2, -, e2⟩
          rw [stored_def] at e2
          exact hbc (by rw [hb1]; exact (List.cons.inj e2).1.symm)
      | succ k =>
        obtain ⟨k', rfl⟩ : ∃ k', k = (ibs r.b.length).length + k' := ⟨k - (ibs r.b.length).length, by omega⟩
        have e : lset (1 :: (ibs r.b.length ++ (r.b ++ chain shaK h r.b))) ((ibs r.b.length).length + k' + 1) [c] = 1 :: (ibs r.b.length ++ lset (r.b ++ chain shaK h r.b) k' [c]) := by
          have := lset_app (a := 1 :: ibs r.b.length) (b := r.b ++ chain shaK h r.b) (o := k') (t := [c])
          simp only [List.length_cons, List.cons_append] at this
          rw [← this]; congr 1; omega
        rw [e]
        rw [List.getElem?_cons_succ, List.getElem?_append_right (by omega), Nat.add_sub_cancel_left] at hb
        rw [hsl] at hin
        by_cases hkr : k' < r.b.length
        · -- in the record
          rw [lset_in (show k' + 1 ≤ _ from hkr)]
          rw [List.getElem?_append_left hkr] at hb
          have hl := lset_length r.b k' [c] (show k' + 1 ≤ _ from hkr)
          have hne := lset_one_ne hb hbc
          by_cases he : chain shaK h (lset r.b k' [c]) = chain shaK h r.b
          · exact .inr (.inr (hrec _ hl hne he))
          · refine .inl ⟨[], _, Short.nil, Nat.zero_le _, by rw [group_nil]; exact (List.nil_append _).symm, ?_⟩
            rw [group_nil]
            have hbd := bad_digest (K := shaK) (h := h) (r := lset r.b k' [c]) (d := chain shaK h r.b) (rest := rest) (by omega) (chain_len _ _ _) (fun e => he e.symm)
            rw [stw_def, hl] at hbd
            simpa using hbd
        · -- in the digest
          obtain ⟨j, rfl⟩ : ∃ j, k' = r.b.length + j := ⟨k' - r.b.length, by omega⟩
          rw [lset_app]
          rw [List.getElem?_append_right (by omega), Nat.add_sub_cancel_left] at hb
          refine .inl ⟨[], _, Short.nil, Nat.zero_le _, by rw [group_nil]; exact (List.nil_append _).symm, ?_⟩
          rw [group_nil]
          have hbd := bad_digest (K := shaK) (h := h) (r := r.b) (d := lset (chain shaK h r.b) j [c]) (rest := rest) hr (by rw [lset_length _ _ _ (by rw [chain_len]; simp; omega), chain_len]) (lset_one_ne hb hbc)
          rw [stw_def] at hbd
          simpa using hbd
end Go.Proofs.YtnlfohlngapkfaaGreatDoor
namespace Go.Proofs.YtnlfohlngapkfaaGreatDoor
open Go Go.X
set_option maxRecDepth 10000
set_option linter.unusedVariables false
attribute [local irreducible] Code.wpIn wpListIn Exit.then Exit.inBlock X.Out X.Back X.W X.Ev X.Con X.BinV X.Wh X.Wn X.Wq
theorem sized_con (l : List Str) (A : Option Addr) (c : Nat) (at_ : Int) (S : SH) (hA : At S A l) (hl : l.length ≤ 1000) (hb : Short l) (ha : 0 ≤ at_ ∧ at_ ≤ 1000000) :
    Con Tryz.prog 27 #[.slice A l.length c, .int .i64 at_] S [] (X.Pure S (.bool (sizedP l at_))) := by
  refine con_of (args := [.slice A l.length c, .int .i64 at_]) Tryz.func27 rfl Tryz.ntmps27 rfl fun w => ?_
  (repeat (first | refine Jz ?_ | intro _))
  refine c_loop (fun m S' L F => S' = S ∧ L = [] ∧ ∃ (k : Nat) (d t : List Str) (a : Int), m = t.length ∧ k = d.length ∧ l = d ++ t ∧ sizedP l at_ = sizedP t a ∧ -(100000 * (k : Int)) ≤ a ∧ a ≤ 1000000 ∧ F = [(0, .slice A l.length c), (1, .int .i64 a), (5, .int .i64 k)]) ⟨rfl, rfl, 0, [], l, at_, rfl, rfl, rfl, rfl, by omega, ha.2, rfl⟩ sbF (List.nil_sublist _) ?_
  rintro m S2 L F ⟨rfl, rfl, k, d, t, a, rfl, hk, hdt, hz, ha1, ha2, rfl⟩
  rw [hz]
  cases t with
  | nil =>
    have hkl : k = l.length := by rw [hdt]; simp [hk]
    (repeat (first | refine Jz ?_ | intro _))
    exact o_ret Tryz.results27 rfl (List.nil_sublist _) ⟨rfl, rfl, rfl⟩
  | cons r t =>
    have hkl : k < l.length := by rw [hdt]; simp [hk]
    have hx : l[k]? = some r := by rw [hdt, hk, List.getElem?_append_right (Nat.le_refl _), Nat.sub_self]; rfl
    have hr := hb r (by rw [hdt]; simp)
    have hw : wOk (r.b.length : Int) := by unfold wOk; omega
    have hil := ibs_len hw
    have hc : Con Tryz.prog 64 #[.int .i64 (r.b.length : Int)] S2 [] (X.Pure S2 (.tuple #[strV (ibs r.b.length), .int .i64 0])) := (rPutInt_con (r.b.length : Int) S2 (by omega)).eq (if_pos hw)
    rw [sizedP]
    by_cases h1 : 1 ≤ a
    · by_cases h2 : a ≤ ((ibs r.b.length).length : Int)
      · rw [if_pos ⟨h1, h2⟩]
        (repeat (first | refine Jc ?_ | (apply s_idx hA; (case hg => rfl); (case hd => rfl); (case hx => rfl); (case hi => rfl); (case hm => rfl); (case hu => exact hx); intro q (hq : Pts _ q [strV r.b])) | (apply s_load1; (case hg => rfl); (case hd => rfl); (case hx => rfl); (case hv => exact hq)) | (apply s_evb; (case hg => rfl); (case hd => rfl); (case hn => rfl); (case he => (apply ev_len_b; rfl))) | ((apply z_call; rfl; rfl; rfl; exact hc; rintro _ _ _ - ⟨rfl, rfl, rfl⟩)) | refine Jo ?_ | intro _))
        exact o_ret Tryz.results27 rfl (List.nil_sublist _) ⟨rfl, rfl, rfl⟩
      · rw [if_neg (fun h => h2 h.2)]
        (repeat (first | refine Jc ?_ | (apply s_idx hA; (case hg => rfl); (case hd => rfl); (case hx => rfl); (case hi => rfl); (case hm => rfl); (case hu => exact hx); intro q (hq : Pts _ q [strV r.b])) | (apply s_load1; (case hg => rfl); (case hd => rfl); (case hx => rfl); (case hv => exact hq)) | (apply s_evb; (case hg => rfl); (case hd => rfl); (case hn => rfl); (case he => (apply ev_len_b; rfl))) | ((apply z_call; rfl; rfl; rfl; exact hc; rintro _ _ _ - ⟨rfl, rfl, rfl⟩)) | refine Jo ?_ | intro _))
        refine q_back (m' := t.length) ⟨rfl, rfl, k + 1, d ++ [r], t, a - (33 + (ibs r.b.length).length + r.b.length), rfl, by simp [hk], by rw [hdt]; simp, rfl, by omega, by omega, rfl⟩ (by simp) ?_ (List.nil_sublist _)
        rw [show a - (33 + ((ibs r.b.length).length : Int) + r.b.length) = a - (1 + ((ibs r.b.length).length : Int) + r.b.length + 32) by omega]
        exact sbF
    · rw [if_neg (fun h => h1 h.1)]
      (repeat (first | refine Jc ?_ | (apply s_idx hA; (case hg => rfl); (case hd => rfl); (case hx => rfl); (case hi => rfl); (case hm => rfl); (case hu => exact hx); intro q (hq : Pts _ q [strV r.b])) | (apply s_load1; (case hg => rfl); (case hd => rfl); (case hx => rfl); (case hv => exact hq)) | (apply s_evb; (case hg => rfl); (case hd => rfl); (case hn => rfl); (case he => (apply ev_len_b; rfl))) | ((apply z_call; rfl; rfl; rfl; exact hc; rintro _ _ _ - ⟨rfl, rfl, rfl⟩)) | refine Jo ?_ | intro _))
      refine q_back (m' := t.length) ⟨rfl, rfl, k + 1, d ++ [r], t, a - (33 + (ibs r.b.length).length + r.b.length), rfl, by simp [hk], by rw [hdt]; simp, rfl, by omega, by omega, rfl⟩ (by simp) ?_ (List.nil_sublist _)
      rw [show a - (33 + ((ibs r.b.length).length : Int) + r.b.length) = a - (1 + ((ibs r.b.length).length : Int) + r.b.length + 32) by omega]
      exact sbF
end Go.Proofs.YtnlfohlngapkfaaGreatDoor
namespace Go.Proofs.YtnlfohlngapkfaaGreatDoor
open Go Go.X
set_option maxRecDepth 10000
set_option linter.unusedVariables false
attribute [local irreducible] Code.wpIn wpListIn Exit.then Exit.inBlock X.Out X.Back X.W X.Ev X.Con X.BinV X.Wh X.Wn X.Wq
attribute [local irreducible] sumK chain stw group stored
/-- Open of a disk that has power and fails no writes: its records, whatever is durable. -/
theorem OpenV_con {v : Value} {dur vis : Bs} {pend : List Wr} {LD : Blocks} (h : OwD v ⟨false, 0, dur, vis, pend⟩ LD) {K : List UInt32} {N : Nat} {l : List Str} (hm : Mess K N l vis) (hd : dur.length = N) (hN : N ≤ 1000000) (hp : pend.length ≤ 1000) (hs : Short l) (S : SH) (hK : Pts S ⟨4, 0, none⟩ (cellsOf K)) (hKl : K.length = 64) :
    Con Tryz.prog 26 #[v] S LD (fun S' L' r => ∃ jv LJ LD' D', L' = LJ ++ LD' ∧ OwJ jv v (jnK K l) LJ ∧ OwD v D' LD' ∧ r = .tuple #[jv, .int .i64 0]) := by
  have hrl := recB_len (K := K) hs
  have hle := hm.le
  obtain ⟨hBl, tail, hB, ht⟩ := hm
  have hlen : (recB K l).length + tail.length = N := by rw [← hBl, hB, List.length_append]
  have hg : recB K l = (group K head0 l).1 := rfl
  by_cases htr : Lib.trimB tail 0 = []
  · refine (OpenOk_con h K l tail S rfl (hBl.trans hd.symm) (show dur.length ≤ _ by omega) hB hs (by omega) ht htr hK hKl).mono fun S' L' r _ ⟨jv, LJ, LD', e1, e2, e3, e4⟩ => ⟨jv, LJ, LD', _, e1, e2, e3, e4⟩
  · have hE : (openE (group K head0 l).1.length tail.length ⟨false, 0, dur, vis, pend⟩).2 = 0 := by
      have e0 : ∀ D, app2 (group K head0 l).1.length (List.replicate tail.length 0) 0 D = (wrD D ((group K head0 l).1.length : Nat) (List.replicate tail.length 0), wrE D ((group K head0 l).1.length : Nat) (List.replicate tail.length 0)) := fun D => rfl
      have e1 : ∀ D, app2 (group K head0 l).1.length (List.replicate tail.length 0) 1 D = (syncD D, if D.off then 321 else 0) := fun D => rfl
      have w := wrD_on (left := 0) (dur := dur) (vis := vis) (pend := pend) (o := (group K head0 l).1.length) (s := List.replicate tail.length 0) (by simp; rw [← hg]; omega)
      unfold openE
      rw [firstP2, e0, w.1, w.2, e1]
      simp [usedP]
    refine (OpenFix_con h K l tail S rfl (hBl.trans hd.symm) (show dur.length ≤ _ by omega) (show pend.length ≤ _ by omega) hB hs (by omega) ht htr hK hKl).mono fun S' L' r _ h => ?_
    obtain ⟨jv, LJ, LD', h | h⟩ := h
    · obtain ⟨e1, -, e3, e4, e5⟩ := h
      exact ⟨jv, LJ, LD', _, e1, e3, e4, e5⟩
    · exact absurd hE h.1
theorem few_sum (K : List UInt32) (h : Bs) (l : List Str) : (group K h (fewL l)).1.length ≤ 810 := by
  have hm : ∀ x ∈ fewL l, 33 + (stw x.b).length ≤ 135 := by
    intro x hx
    unfold fewL at hx
    obtain ⟨y, -, rfl⟩ := List.mem_map.1 hx
    have hl : (cut1 y).b.length ≤ 100 := by unfold cut1; simp only [List.length_take]; omega
    rw [stw_leq]
    by_cases h1 : (cut1 y).b.length < 64
    · rw [ibs_small h1]; omega
    · rw [ibs_mid (by omega) (by omega)]; omega
  have hle := few_len l
  rw [group_sum]
  generalize fewL l = m at *
  have : ∀ m : List Str, (∀ x ∈ m, 33 + (stw x.b).length ≤ 135) → (m.map fun r => 33 + (stw r.b).length).sum ≤ 135 * m.length := by
    intro m
    induction m with
    | nil => intro _; simp
    | cons x t ih =>
      intro h
      have h1 := h x List.mem_cons_self
      have h2 := ih fun y hy => h y (List.mem_cons_of_mem _ hy)
      simp only [List.map_cons, List.sum_cons, List.length_cons]
      omega
  have h3 := this m hm
  omega
theorem headsL_bd : ∀ (l : List Str) (h : Bs), Short l → h.length = 32 → ∀ y ∈ headsL h l, y.b.length ≤ 65569
  | [], _, _, _, y, hy => by cases hy
  | r :: t, h, hs, hh, y, hy => by
    rcases List.mem_cons.1 hy with rfl | hy
    · have := hs r List.mem_cons_self
      simp only [List.length_append, List.length_cons, List.length_nil]
      omega
    · exact headsL_bd t _ (fun x hx => hs x (List.mem_cons_of_mem _ hx)) (chain_len _ _ _) y hy
set_option maxHeartbeats 3200000 in
theorem damaged_law (xs : List Sv) (A : Option Addr) (cp : Nat) (at_ : Int) (c : UInt8) (p : Addr) (S : SH) (hat : i64 at_) (hA : At S A xs) (hx : ∀ x ∈ xs, slOk S x) (hK : Pts S ⟨4, 0, none⟩ (cellsOf shaK)) (hE : Pts S ⟨0, 0, none⟩ [errV p]) :
    Con Tryz.prog 4 #[.slice A xs.length cp, .int .i64 at_, .int .u8 c.toNat] S [] (fun S' L' r => r = .bool true) := by
  refine con_of (args := [.slice A xs.length cp, .int .i64 at_, .int .u8 c.toNat]) Tryz.func4 rfl Tryz.ntmps4 rfl fun w => ?_
  have hKl := shaK_len
  have h0 : (recB shaK []).length = 0 := by rw [recB_nil]; rfl
  (repeat (first | refine Jc ?_ | (apply s_call (L2 := []); (case hg => rfl); (case hd => rfl); (case ha => rfl); (case hc => exact sane_con shaK p S hK hKl hE); (case hL => (exact pmc (fun p => by first | rfl | ((repeat rw [List.countP_append]); (repeat rw [List.countP_cons]); (repeat rw [List.countP_nil]); (all_goals (first | rfl | omega)))))); rintro S1 L1 v1 hle1 ⟨rfl, rfl⟩) | (apply s_call (L2 := []); (case hg => rfl); (case hd => rfl); (case ha => rfl); (case hc => exact New_con 6000 S1 (by omega)); (case hL => (exact pmc (fun p => by first | rfl | ((repeat rw [List.countP_append]); (repeat rw [List.countP_cons]); (repeat rw [List.countP_nil]); (all_goals (first | rfl | omega)))))); rintro S2 L2 v2 - ⟨rfl, v, hD, rfl⟩; rw [newD_eq shaK] at hD; obtain ⟨bd, rfl⟩ := hD.form) | refine Jo ?_ | intro _))
  (repeat (first | refine Jc ?_ | (apply s_call (L2 := []); (case hg => rfl); (case hd => rfl); (case ha => rfl); (case hc => exact OpenR_con hD (Good_mess (by omega)) (by omega) Short.nil S2 (hK.le hle1) hKl); (case hL => (exact pmc (fun p => by first | rfl | ((repeat rw [List.countP_append]); (repeat rw [List.countP_cons]); (repeat rw [List.countP_nil]); (all_goals (first | rfl | omega)))))); rintro S3 L3 v3 hle3 ⟨jv, LJ, LD, rfl, hJ, hD2, rfl⟩; obtain ⟨bj, rfl⟩ := hJ.form) | refine Jo ?_ | intro _))
  refine c_meetB (fun S' L F => Le S S' ∧ ∃ (a : List Str) (LJ LD : Blocks), Short a ∧ a.length ≤ 36 ∧ (recB shaK a).length ≤ 4860 ∧ OwJ (.pointer (some ⟨bj, 0, none⟩)) (.pointer (some ⟨bd, 0, none⟩)) (jnK shaK a) LJ ∧ OwD (.pointer (some ⟨bd, 0, none⟩)) (setD (Good shaK 6000 a)) LD ∧ L = LJ ++ LD ∧ F = [(1, .int .i64 at_), (2, .int .u8 c.toNat), (7, .bool true), (8, .pointer (some ⟨bd, 0, none⟩)), (10, .pointer (some ⟨bj, 0, none⟩))]) ?_ ?_
  · refine c_loop (fun m S' L F => Le S S' ∧ ∃ (k : Nat) (a : List Str) (LJ LD : Blocks), m = 6 - k ∧ k ≤ 6 ∧ Short a ∧ a.length ≤ 6 * k ∧ (recB shaK a).length ≤ 810 * k ∧ OwJ (.pointer (some ⟨bj, 0, none⟩)) (.pointer (some ⟨bd, 0, none⟩)) (jnK shaK a) LJ ∧ OwD (.pointer (some ⟨bd, 0, none⟩)) (setD (Good shaK 6000 a)) LD ∧ L = LJ ++ LD ∧ F = [(0, .slice A xs.length cp), (1, .int .i64 at_), (2, .int .u8 c.toNat), (7, .bool true), (8, .pointer (some ⟨bd, 0, none⟩)), (10, .pointer (some ⟨bj, 0, none⟩)), (12, .int .i64 k)]) ⟨hle1.trans hle3, 0, [], LJ, LD, rfl, by omega, Short.nil, Nat.le_refl _, by omega, hJ, hD2, rfl, rfl⟩ sbF (List.sublist_append_left _ _) ?_
    clear hJ hD2 hD
    rintro m S4 L F ⟨hle4, k, a, LJ, LD, rfl, hk6, hsa, hal, hra, hJ, hD, rfl, rfl⟩
    have hKS := hK.le hle4
    by_cases hlt : k < xs.length ∧ k < 6
    · obtain ⟨h1, h2⟩ := hlt
      obtain ⟨x, hxk⟩ : ∃ x, xs[k]? = some x := ⟨_, List.getElem?_eq_getElem h1⟩
      obtain ⟨xa, xm, xc⟩ := x
      obtain ⟨l, hm, hc, hAl, hyl⟩ := (hx _ (List.mem_of_getElem? hxk)).le hle4
      simp only at hm hc hAl
      subst hm
      have hfs := few_sum shaK (group shaK head0 a).2 l
      have hsum : (recB shaK (a ++ fewL l)).length ≤ 810 * (k + 1) := by rw [recB_append, List.length_append]; omega
      have hfl := few_len l
      (repeat (first | refine Jc ?_ | (apply s_idx (hA.le hle4); (case hg => rfl); (case hd => rfl); (case hx => rfl); (case hi => rfl); (case hm => rfl); (case hu => exact hxk); intro q (hq : Pts _ q [.slice xa l.length xc])) | (apply s_load1; (case hg => rfl); (case hd => rfl); (case hx => rfl); (case hv => exact hq)) | (apply s_call (L2 := LJ ++ LD); (case hg => rfl); (case hd => rfl); (case ha => rfl); (case hc => exact few_con l xa xc S4 hAl); (case hL => (exact pmc (fun p => by first | rfl | ((repeat rw [List.countP_append]); (repeat rw [List.countP_cons]); (repeat rw [List.countP_nil]); (all_goals (first | rfl | omega)))))); rintro S5 L5 v5 - ⟨rfl, ho5⟩; refine W.freezeOws (L1 := LJ ++ LD) ho5 (pmc (fun p => by first | rfl | ((repeat rw [List.countP_append]); (repeat rw [List.countP_cons]); (repeat rw [List.countP_nil]); (all_goals (first | rfl | omega))))) fun S6 hle6 hs6 => ?_; obtain ⟨A6, c6, rfl, -, hA6⟩ := hs6) | refine Jo ?_ | intro _))
      (repeat (first | refine Jc ?_ | (apply s_call (L2 := []); (case hg => rfl); (case hd => rfl); (case ha => rfl); (case hc => exact AppS_con hJ hD (fewL l) A6 c6 S6 hA6 (by omega) hsa (few_short l) (by omega) (by omega) (hKS.le hle6) hKl); (case hL => (exact pmc (fun p => by first | rfl | ((repeat rw [List.countP_append]); (repeat rw [List.countP_cons]); (repeat rw [List.countP_nil]); (all_goals (first | rfl | omega)))))); rintro S7 L7 v7 hle7 ⟨LJ7, LD7, rfl, h7⟩; have h7' := h7.resolve_left (fun h => (by have := h.1; omega)); obtain ⟨-, hJ7, hD7, rfl⟩ := h7') | refine Jo ?_ | intro _))
      exact q_back (m' := 6 - (k + 1)) ⟨hle4.trans (hle6.trans hle7), k + 1, a ++ fewL l, LJ7, LD7, rfl, by omega, hsa.app (few_short l), by rw [List.length_append]; omega, hsum, hJ7, hD7, rfl, rfl⟩ (by omega) sbF (List.sublist_append_left _ _)
    by_cases h1 : k < xs.length
    all_goals
      (repeat (first | refine Jz ?_ | intro _))
      exact q_cut ⟨hle4, a, LJ, LD, hsa, by omega, by omega, hJ, hD, rfl, rfl⟩ sbF (List.Sublist.refl _)
  clear hJ hD2 hD
  rintro S4 L F ⟨hle4, a, LJ, LD, hsa, hal, hra, hJ, hD, rfl, rfl⟩
  have hKS := hK.le hle4
  have hES := hE.le hle4
  have hG := Good_len (K := shaK) (N := 6000) (l := a) (by omega)
  have hrl := recB_len (K := shaK) hsa
  (repeat (first | refine Jc ?_ | (apply s_call (L2 := LD); (case hg => rfl); (case hd => rfl); (case ha => rfl); (case hc => exact Records_con hJ S4 (show a.length ≤ _ by omega)); (case hL => (exact pmc (fun p => by first | rfl | ((repeat rw [List.countP_append]); (repeat rw [List.countP_cons]); (repeat rw [List.countP_nil]); (all_goals (first | rfl | omega)))))); rintro S7 L7 v7 - ⟨rfl, ob7, rfl, ho7⟩; refine W.freezeOws (L1 := LJ ++ LD) ho7 (pmc (fun p => by first | rfl | ((repeat rw [List.countP_append]); (repeat rw [List.countP_cons]); (repeat rw [List.countP_nil]); (all_goals (first | rfl | omega))))) fun S8 hle8 hs8 => ?_; obtain ⟨A8, c8, rfl, hc8, hA8⟩ := hs8; have hA8 : At S8 A8 a := hA8; have hc8 : a.length ≤ c8 := hc8; have hjl : (jnK shaK a).recs.length = a.length := rfl) | refine Jo ?_ | intro _))
  have hct : ∀ (v : Value) (LD : Blocks) (S : SH), OwD v (setD (Good shaK 6000 a)) LD → Con Tryz.prog 23 #[v] S LD (Kp v (setD (Good shaK 6000 a)) S (strV (Good shaK 6000 a))) := fun v LD S h => content_con h S rfl rfl (show (Good shaK 6000 a).length ≤ _ by omega)
  by_cases han : a = []
  · have hz0 : (recB shaK a).length = 0 := by rw [han]; exact h0
    have ha0 : a.length = 0 := by rw [han]; rfl
    (repeat (first | refine Jc ?_ | (apply s_call (L2 := []); (case hg => rfl); (case hd => rfl); (case ha => rfl); (case hc => exact RoomN_con hJ hD S8 hG (by omega) (by omega)); (case hL => (exact pmc (fun p => by first | rfl | ((repeat rw [List.countP_append]); (repeat rw [List.countP_cons]); (repeat rw [List.countP_nil]); (all_goals (first | rfl | omega)))))); rintro S9 L9 v9 - ⟨rfl, LD9, rfl, hD9, rfl⟩) | refine Jo ?_ | intro _))
    exact o_ret Tryz.results4 rfl (List.nil_sublist _) rfl
  have hap : 1 ≤ a.length := by rcases a with _ | ⟨x, t⟩; exact absurd rfl han; simp
  have hkb := pickI_bd at_ (6000 - (((6000 : Nat) : Int) - (recB shaK a).length)) (by omega)
  obtain ⟨k, hk⟩ : ∃ k : Nat, pickI at_ (6000 - (((6000 : Nat) : Int) - (recB shaK a).length)) = k := ⟨(pickI at_ (6000 - (((6000 : Nat) : Int) - (recB shaK a).length))).toNat, by omega⟩
  have hpk : ∀ S, Con Tryz.prog 15 #[.int .i64 at_, .int .i64 (6000 - (((6000 : Nat) : Int) - (recB shaK a).length))] S [] (X.Pure S (.int .i64 (k : Int))) := fun S => by
    rw [← hk]; exact lpick_con at_ _ S hat (by omega)
  rw [hk] at hkb
  have hkl : k < (recB shaK a).length := by omega
  have hszc : ∀ S, At S A8 a → Con Tryz.prog 27 #[.slice A8 a.length c8, .int .i64 (k : Int)] S [] (X.Pure S (.bool (sizedP a (k : Int)))) := fun S h => sized_con a A8 c8 k S h (by omega) hsa (by omega)
  cases hz : sizedP a (k : Int)
  rotate_left
  · rw [hz] at hszc
    (repeat (first | refine Jc ?_ | (apply s_call (L2 := []); (case hg => rfl); (case hd => rfl); (case ha => rfl); (case hc => exact RoomN_con hJ hD S8 hG (by omega) (by omega)); (case hL => (exact pmc (fun p => by first | rfl | ((repeat rw [List.countP_append]); (repeat rw [List.countP_cons]); (repeat rw [List.countP_nil]); (all_goals (first | rfl | omega)))))); rintro S9 L9 v9 - ⟨rfl, LD9, rfl, hD9, rfl⟩) | ((apply z_call; rfl; rfl; rfl; exact hpk _; rintro _ _ _ - ⟨rfl, rfl, rfl⟩)) | ((apply z_call; rfl; rfl; rfl; exact hszc _ hA8; rintro _ _ _ - ⟨rfl, rfl, rfl⟩)) | refine Jo ?_ | intro _))
    exact o_ret Tryz.results4 rfl (List.nil_sublist _) rfl
  rw [hz] at hszc
  obtain ⟨b, hb⟩ : ∃ b, (Good shaK 6000 a)[k]? = some b := ⟨_, List.getElem?_eq_getElem (by omega)⟩
  by_cases hbc : b = c
  · have hbn : (b.toNat : Int) = c.toNat := by rw [hbc]
    (repeat (first | refine Jc ?_ | (apply s_call (L2 := []); (case hg => rfl); (case hd => rfl); (case ha => rfl); (case hc => exact RoomN_con hJ hD S8 hG (by omega) (by omega)); (case hL => (exact pmc (fun p => by first | rfl | ((repeat rw [List.countP_append]); (repeat rw [List.countP_cons]); (repeat rw [List.countP_nil]); (all_goals (first | rfl | omega)))))); rintro S9 L9 v9 - ⟨rfl, LD9, rfl, hD9, rfl⟩) | ((apply z_call; rfl; rfl; rfl; exact hpk _; rintro _ _ _ - ⟨rfl, rfl, rfl⟩)) | ((apply z_call; rfl; rfl; rfl; exact hszc _ hA8; rintro _ _ _ - ⟨rfl, rfl, rfl⟩)) | (apply s_call (L2 := LJ); (case hg => rfl); (case hd => rfl); (case ha => rfl); (case hc => exact hct _ _ _ hD9); (case hL => (exact pmc (fun p => by first | rfl | ((repeat rw [List.countP_append]); (repeat rw [List.countP_cons]); (repeat rw [List.countP_nil]); (all_goals (first | rfl | omega)))))); rintro S10 L10 v10 - ⟨rfl, hD10, rfl⟩) | (apply s_evb; (case hg => rfl); (case hd => rfl); (case hn => rfl); (case he => (apply ev_len_b; rfl))) | (apply s_evb; (case hg => rfl); (case hd => rfl); (case hn => rfl); (case he => ((apply ev_index_b (k := k); (case hx => rfl); (case hi => rfl); (case hu => exact hb))))) | refine Jo ?_ | intro _))
    exact o_ret Tryz.results4 rfl (List.nil_sublist _) rfl
  have hbn : (b.toNat : Int) ≠ c.toNat := fun e => hbc (UInt8.toNat_inj.1 (by exact_mod_cast e))
  have hwr : ∀ {v : Value} {LD : Blocks} (S : SH), OwD v (setD (Good shaK 6000 a)) LD → Con Tryz.prog 14 #[v, .int .i64 (k : Int), strV [c]] S LD (fun S' L' r => S' = S ∧ OwD v ⟨false, 0, Good shaK 6000 a, lset (Good shaK 6000 a) k [c], [⟨k, [c]⟩]⟩ L' ∧ r = .int .i64 (wrE (setD (Good shaK 6000 a)) (k : Int) [c])) := fun S h => by
    have e := (wrD_on (left := 0) (dur := Good shaK 6000 a) (vis := Good shaK 6000 a) (pend := []) (o := k) (s := [c]) (by simp; omega)).1
    have hw := Write_con h S (k : Int) [c] (by unfold i64; omega) (by simp) (Nat.zero_le _)
    change Con _ _ _ _ _ (fun S' L' r => S' = S ∧ OwD _ (wrD ⟨false, 0, Good shaK 6000 a, Good shaK 6000 a, []⟩ (k : Int) [c]) L' ∧ _) at hw
    rw [e] at hw
    exact hw
  (repeat (first | refine Jc ?_ | (apply s_call (L2 := []); (case hg => rfl); (case hd => rfl); (case ha => rfl); (case hc => exact RoomN_con hJ hD S8 hG (by omega) (by omega)); (case hL => (exact pmc (fun p => by first | rfl | ((repeat rw [List.countP_append]); (repeat rw [List.countP_cons]); (repeat rw [List.countP_nil]); (all_goals (first | rfl | omega)))))); rintro S9 L9 v9 - ⟨rfl, LD9, rfl, hD9, rfl⟩) | ((apply z_call; rfl; rfl; rfl; exact hpk _; rintro _ _ _ - ⟨rfl, rfl, rfl⟩)) | ((apply z_call; rfl; rfl; rfl; exact hszc _ hA8; rintro _ _ _ - ⟨rfl, rfl, rfl⟩)) | (apply s_call (L2 := LJ); (case hg => rfl); (case hd => rfl); (case ha => rfl); (case hc => exact hct _ _ _ hD9); (case hL => (exact pmc (fun p => by first | rfl | ((repeat rw [List.countP_append]); (repeat rw [List.countP_cons]); (repeat rw [List.countP_nil]); (all_goals (first | rfl | omega)))))); rintro S10 L10 v10 - ⟨rfl, hD10, rfl⟩) | (apply s_evb; (case hg => rfl); (case hd => rfl); (case hn => rfl); (case he => (apply ev_len_b; rfl))) | (apply s_evb; (case hg => rfl); (case hd => rfl); (case hn => rfl); (case he => ((apply ev_index_b (k := k); (case hx => rfl); (case hi => rfl); (case hu => exact hb))))) | (apply s_evb; (case hg => rfl); (case hd => rfl); (case hn => rfl); (case he => ((apply ev_str_own (B := [c]); (case hx => rfl); (case hm => exact List.Mem.head _); (case hk => exact Nat.le_refl _))))) | refine Jo ?_ | intro _))
  refine W.weaken (L' := L10 ++ LJ) ?_ (X.Sub.refl _) sbL
  (repeat (first | refine Jc ?_ | (apply s_call (L2 := LJ); (case hg => rfl); (case hd => rfl); (case ha => rfl); (case hc => exact hwr _ hD10); (case hL => (exact pmc (fun p => by first | rfl | ((repeat rw [List.countP_append]); (repeat rw [List.countP_cons]); (repeat rw [List.countP_nil]); (all_goals (first | rfl | omega)))))); rintro S11 L11 v11 - ⟨rfl, hD11, rfl⟩) | refine Jo ?_ | intro _))
  have hvl : (lset (Good shaK 6000 a) k [c]).length = 6000 := by rw [lset_length _ _ _ (by simp; omega)]; exact hG
  have hpl := damaged_plain (zs (6000 - (recB shaK a).length)) c a head0 k b hsa (by unfold head0; simp) hkl hz hb hbc
  change (∃ l tail, Short l ∧ l.length ≤ a.length ∧ lset (Good shaK 6000 a) k [c] = (group shaK head0 l).1 ++ tail ∧ Bad shaK (group shaK head0 l).2 tail) ∨ (c = 0 ∧ ∃ j, j < a.length ∧ ∃ tail, lset (Good shaK 6000 a) k [c] = (group shaK head0 (a.take j)).1 ++ 0 :: tail) ∨ (∃ l i x y, Short l ∧ l.length = a.length ∧ lset (Good shaK 6000 a) k [c] = (group shaK head0 l).1 ++ zs (6000 - (recB shaK a).length) ∧ (headsL head0 a).take i = (headsL head0 l).take i ∧ (headsL head0 a)[i]? = some ⟨x⟩ ∧ (headsL head0 l)[i]? = some ⟨y⟩ ∧ x ≠ y ∧ sumK shaK x = sumK shaK y) at hpl
  rcases hpl with ⟨l, tail, hsl, hll, hvis, hbad⟩ | ⟨hc0, j, hj, tail, hvis⟩ | ⟨l, i, x, y, hsl, hll, hvis, hti, hxi, hyi, hxy, hsum⟩
  · have hob := fun S h1 h2 => OpenBad_con hD11 shaK l tail S p rfl (hvl.trans hG.symm) (show (Good shaK 6000 a).length ≤ _ by omega) hvis hsl (by omega) hbad h1 hKl h2
    (repeat (first | refine Jc ?_ | (apply s_call (L2 := LJ); (case hg => rfl); (case hd => rfl); (case ha => rfl); (case hc => exact OpenBad_con hD11 shaK l tail _ p rfl (hvl.trans hG.symm) (show (Good shaK 6000 a).length ≤ _ by omega) hvis hsl (by omega) hbad (hK.le (by repeat (first | exact Le.refl _ | assumption | refine Le.trans ?_ (by assumption)))) hKl (hE.le (by repeat (first | exact Le.refl _ | assumption | refine Le.trans ?_ (by assumption))))); (case hL => (exact pmc (fun p => by first | rfl | ((repeat rw [List.countP_append]); (repeat rw [List.countP_cons]); (repeat rw [List.countP_nil]); (all_goals (first | rfl | omega)))))); rintro S12 L12 v12 hle12 ⟨hD12, rfl⟩) | refine Jo ?_ | intro _))
    exact o_ret Tryz.results4 rfl (List.nil_sublist _) rfl
  · -- fewer records
    have hmess : Mess shaK 6000 (a.take j) (lset (Good shaK 6000 a) k [c]) := ⟨hvl, 0 :: tail, hvis, fun x hx => by simpa using hx.symm⟩
    obtain ⟨is, his⟩ : ∃ is, is = a.take j := ⟨_, rfl⟩
    have hisl : is.length < a.length := by rw [his, List.length_take]; omega
    have hist : a.take is.length = is := by rw [his, List.length_take, Nat.min_eq_left (by omega)]
    have hiss : Short is := fun r hr => hsa r (by rw [his] at hr; exact List.mem_of_mem_take hr)
    rw [← his] at hmess
    have hcz : (c.toNat : Int) = 0 := by rw [hc0]; rfl
    (repeat (first | refine Jc ?_ | (apply s_call (L2 := LJ); (case hg => rfl); (case hd => rfl); (case ha => rfl); (case hc => exact OpenV_con hD11 hmess hG (by omega) (by simp) hiss _ (hK.le (by repeat (first | exact Le.refl _ | assumption | refine Le.trans ?_ (by assumption)))) hKl); (case hL => (exact pmc (fun p => by first | rfl | ((repeat rw [List.countP_append]); (repeat rw [List.countP_cons]); (repeat rw [List.countP_nil]); (all_goals (first | rfl | omega)))))); rintro S12 L12 v12 hle12 ⟨kv, LK, LD12, D12, rfl, hJk0, hD12, rfl⟩; obtain ⟨bk, rfl⟩ := hJk0.form; have hJk : OwJ (.pointer (some ⟨bk, 0, none⟩)) (.pointer (some ⟨bd, 0, none⟩)) (jnK shaK is) LK := hJk0) | (apply s_evb; (case hg => rfl); (case hd => rfl); (case hn => rfl); (case he => (apply ev_eql_p; (case hx => rfl); (case hy => rfl)))) | refine Jo ?_ | intro _))
    (repeat (first | refine Jc ?_ | (apply s_call (L2 := LJ ++ LD12); (case hg => rfl); (case hd => rfl); (case ha => rfl); (case hc => exact Records_con hJk S12 (show is.length ≤ _ by omega)); (case hL => (exact pmc (fun p => by first | rfl | ((repeat rw [List.countP_append]); (repeat rw [List.countP_cons]); (repeat rw [List.countP_nil]); (all_goals (first | rfl | omega)))))); rintro S13 L13 v13 - ⟨rfl, ob13, rfl, ho13⟩; refine W.freezeOws (L1 := LK ++ (LJ ++ LD12)) ho13 (pmc (fun p => by first | rfl | ((repeat rw [List.countP_append]); (repeat rw [List.countP_cons]); (repeat rw [List.countP_nil]); (all_goals (first | rfl | omega))))) fun S14 hle14 hs14 => ?_; obtain ⟨A14, c14, rfl, -, hA14⟩ := hs14; have hA14 : At S14 A14 is := hA14; have hjl2 : (jnK shaK is).recs.length = is.length := rfl) | (apply s_slice_hi (hA8.le (by repeat (first | exact Le.refl _ | assumption | refine Le.trans ?_ (by assumption)))); (case hg => rfl); (case hd => rfl); (case hx => rfl); (case hy => rfl); (case hm => rfl); (case hmc => omega); (case hj => omega); intro A15 hA15) | ((apply z_call; rfl; rfl; rfl; exact same_con_t (l := is) (r := a.take is.length) hA14 hA15 (by omega) (by rw [hist]); rintro _ _ _ - ⟨rfl, rfl, rfl⟩)) | refine Jo ?_ | intro _))
    exact o_ret Tryz.results4 rfl (List.nil_sublist _) rfl
  -- as many records: two strings with the same digest
  have hmess : Mess shaK 6000 l (lset (Good shaK 6000 a) k [c]) := ⟨hvl, _, hvis, fun x hx => zs_at _ x hx⟩
  have hal2 := headsL_len a head0
  have hll2 := headsL_len l head0
  have hil : i < a.length := by rw [← hal2]; exact (List.getElem?_eq_some_iff.1 hxi).1
  by_cases hcz : (c.toNat : Int) = 0
  all_goals
    (repeat (first | refine Jc ?_ | (apply s_call (L2 := LJ); (case hg => rfl); (case hd => rfl); (case ha => rfl); (case hc => exact OpenV_con hD11 hmess hG (by omega) (by simp) hsl _ (hK.le (by repeat (first | exact Le.refl _ | assumption | refine Le.trans ?_ (by assumption)))) hKl); (case hL => (exact pmc (fun p => by first | rfl | ((repeat rw [List.countP_append]); (repeat rw [List.countP_cons]); (repeat rw [List.countP_nil]); (all_goals (first | rfl | omega)))))); rintro S12 L12 v12 hle12 ⟨kv, LK, LD12, D12, rfl, hJk0, hD12, rfl⟩; obtain ⟨bk, rfl⟩ := hJk0.form; have hJk : OwJ (.pointer (some ⟨bk, 0, none⟩)) (.pointer (some ⟨bd, 0, none⟩)) (jnK shaK l) LK := hJk0) | (apply s_evb; (case hg => rfl); (case hd => rfl); (case hn => rfl); (case he => (apply ev_eql_p; (case hx => rfl); (case hy => rfl)))) | (apply s_call (L2 := LJ ++ LD12); (case hg => rfl); (case hd => rfl); (case ha => rfl); (case hc => exact Records_con hJk S12 (show l.length ≤ _ by omega)); (case hL => (exact pmc (fun p => by first | rfl | ((repeat rw [List.countP_append]); (repeat rw [List.countP_cons]); (repeat rw [List.countP_nil]); (all_goals (first | rfl | omega)))))); rintro S13 L13 v13 - ⟨rfl, ob13, rfl, ho13⟩; refine W.freezeOws (L1 := LK ++ (LJ ++ LD12)) ho13 (pmc (fun p => by first | rfl | ((repeat rw [List.countP_append]); (repeat rw [List.countP_cons]); (repeat rw [List.countP_nil]); (all_goals (first | rfl | omega))))) fun S14 hle14 hs14 => ?_; obtain ⟨A14, c14, rfl, -, hA14⟩ := hs14; have hA14 : At S14 A14 l := hA14; have hjl2 : (jnK shaK l).recs.length = l.length := rfl) | (apply s_call (L2 := LK ++ (LJ ++ LD12)); (case hg => rfl); (case hd => rfl); (case ha => rfl); (case hc => exact heads_con a A8 c8 _ (hA8.le (by repeat (first | exact Le.refl _ | assumption | refine Le.trans ?_ (by assumption)))) (by omega) (fun r hr => by have := hsa r hr; omega)); (case hL => (exact pmc (fun p => by first | rfl | ((repeat rw [List.countP_append]); (repeat rw [List.countP_cons]); (repeat rw [List.countP_nil]); (all_goals (first | rfl | omega)))))); rintro S15 L15 v15 hle15 ho15; refine W.freezeOws (L1 := LK ++ (LJ ++ LD12)) ho15 (pmc (fun p => by first | rfl | ((repeat rw [List.countP_append]); (repeat rw [List.countP_cons]); (repeat rw [List.countP_nil]); (all_goals (first | rfl | omega))))) fun S16 hle16 hs16 => ?_; obtain ⟨A16, c16, rfl, -, hA16⟩ := hs16) | (apply s_call (L2 := LK ++ (LJ ++ LD12)); (case hg => rfl); (case hd => rfl); (case ha => rfl); (case hc => exact heads_con l A14 c14 _ (hA14.le (by repeat (first | exact Le.refl _ | assumption | refine Le.trans ?_ (by assumption)))) (by omega) (fun r hr => by have := hsl r hr; omega)); (case hL => (exact pmc (fun p => by first | rfl | ((repeat rw [List.countP_append]); (repeat rw [List.countP_cons]); (repeat rw [List.countP_nil]); (all_goals (first | rfl | omega)))))); rintro S17 L17 v17 hle17 ho17; refine W.freezeOws (L1 := LK ++ (LJ ++ LD12)) ho17 (pmc (fun p => by first | rfl | ((repeat rw [List.countP_append]); (repeat rw [List.countP_cons]); (repeat rw [List.countP_nil]); (all_goals (first | rfl | omega))))) fun S18 hle18 hs18 => ?_; obtain ⟨A18, c18, rfl, -, hA18⟩ := hs18) | refine Jo ?_ | intro _))
    refine c_loop (fun m S' L F => Le S18 S' ∧ L = LK ++ (LJ ++ LD12) ∧ ∃ j : Nat, m = i - j ∧ j ≤ i ∧ F = [(7, .bool true), (21, .slice A16 (headsL head0 a).length c16), (22, .slice A18 (headsL head0 l).length c18), (23, .int .i64 j)]) ⟨Le.refl _, rfl, 0, rfl, Nat.zero_le _, rfl⟩ sbF (List.Sublist.refl _) ?_
    rintro m S19 L F ⟨hle19, rfl, j, rfl, hji, rfl⟩
    have hB1 := hA16.le (show Le _ S19 from (by repeat (first | exact Le.refl _ | assumption | refine Le.trans ?_ (by assumption))))
    have hB2 := hA18.le hle19
    by_cases hlt : j < i
    · obtain ⟨⟨z⟩, hza⟩ : ∃ z, (headsL head0 a)[j]? = some z := ⟨_, List.getElem?_eq_getElem (by omega)⟩
      have hzl : (headsL head0 l)[j]? = some ⟨z⟩ := by
        have := congrArg (·[j]?) hti
        simp only [List.getElem?_take, if_pos hlt] at this
        rw [← this]; exact hza
      (repeat (first | refine Jz ?_ | intro _))
      ((apply c_held ([]); (case hL => (exact sbT))); refine Jf 0 ?_; refine Jf 1 ?_; (apply h_idx hB1 2; (case hi => rfl); (case hr => kernel_rfl); (case hfr => kernel_rfl); (case hsel => kernel_rfl); (case hg => rfl); (case hd => rfl); (case i1 => infer_instance); (case i2 => infer_instance); (case hx => rfl); (case hy => rfl); (case hm => rfl); (case hu => exact hza); intro q (hq : Pts _ q [strV z])); (apply h_first 3; (case hi => rfl); (case hr => kernel_rfl); (case hfr => kernel_rfl); (case hsel => kernel_rfl); (case hg => rfl); (case hd => rfl); (case he => (apply ev_load1; (case hx => rfl); (case h => exact hq)))); refine Jf 4 ?_; refine Jf 5 ?_; (apply h_idx hB2 6; (case hi => rfl); (case hr => kernel_rfl); (case hfr => kernel_rfl); (case hsel => kernel_rfl); (case hg => rfl); (case hd => rfl); (case i1 => infer_instance); (case i2 => infer_instance); (case hx => rfl); (case hy => rfl); (case hm => rfl); (case hu => exact hzl); intro q2 (hq2 : Pts _ q2 [strV z])); (apply h_first 7; (case hi => rfl); (case hr => kernel_rfl); (case hfr => kernel_rfl); (case hsel => kernel_rfl); (case hg => rfl); (case hd => rfl); (case he => (apply ev_load1; (case hx => rfl); (case h => exact hq2)))); (apply h_first 8; (case hi => rfl); (case hr => kernel_rfl); (case hfr => kernel_rfl); (case hsel => kernel_rfl); (case hg => rfl); (case hd => rfl); (case he => (apply ev_neq_bs' (r := false); (case hx => rfl); (case hy => rfl); (case h => simp)))); refine Jf 9 ?_; refine Jf 10 ?_; refine Jf 11 ?_; refine Jf 12 ?_; refine Jf 13 ?_; refine Jf 15 ?_; refine Jf 16 ?_; refine Jf 17 ?_; refine Jf 18 ?_; (apply h_one 14; (case hr => kernel_rfl)); (refine X.Jn ?_; try intro _); (apply h_one 19; (case hr => kernel_rfl)); (refine X.Jn ?_; try intro _); refine Jf 20 ?_; refine Jf 21 ?_; (apply h_end; (case hr => kernel_rfl)))
      (repeat (first | refine Jz ?_ | intro _))
      exact q_back (m' := i - (j + 1)) ⟨hle19, rfl, j + 1, rfl, by omega, rfl⟩ (by omega) sbF (List.Sublist.refl _)
    obtain rfl : j = i := by omega
    have hxl := headsL_bd a head0 hsa (by unfold head0; simp) _ (List.mem_of_getElem? hxi)
    have hyl := headsL_bd l head0 hsl (by unfold head0; simp) _ (List.mem_of_getElem? hyi)
    simp only at hxl hyl
    (repeat (first | refine Jz ?_ | intro _))
    ((apply c_held ([]); (case hL => (exact sbT))); refine Jf 0 ?_; refine Jf 1 ?_; (apply h_idx hB1 2; (case hi => rfl); (case hr => kernel_rfl); (case hfr => kernel_rfl); (case hsel => kernel_rfl); (case hg => rfl); (case hd => rfl); (case i1 => infer_instance); (case i2 => infer_instance); (case hx => rfl); (case hy => rfl); (case hm => rfl); (case hu => exact hxi); intro q (hq : Pts _ q [strV x])); (apply h_first 3; (case hi => rfl); (case hr => kernel_rfl); (case hfr => kernel_rfl); (case hsel => kernel_rfl); (case hg => rfl); (case hd => rfl); (case he => (apply ev_load1; (case hx => rfl); (case h => exact hq)))); refine Jf 4 ?_; refine Jf 5 ?_; (apply h_idx hB2 6; (case hi => rfl); (case hr => kernel_rfl); (case hfr => kernel_rfl); (case hsel => kernel_rfl); (case hg => rfl); (case hd => rfl); (case i1 => infer_instance); (case i2 => infer_instance); (case hx => rfl); (case hy => rfl); (case hm => rfl); (case hu => exact hyi); intro q2 (hq2 : Pts _ q2 [strV y])); (apply h_first 7; (case hi => rfl); (case hr => kernel_rfl); (case hfr => kernel_rfl); (case hsel => kernel_rfl); (case hg => rfl); (case hd => rfl); (case he => (apply ev_load1; (case hx => rfl); (case h => exact hq2)))); (apply h_first 8; (case hi => rfl); (case hr => kernel_rfl); (case hfr => kernel_rfl); (case hsel => kernel_rfl); (case hg => rfl); (case hd => rfl); (case he => (apply ev_neq_bs' (r := true); (case hx => rfl); (case hy => rfl); (case h => simp [hxy])))); refine Jf 9 ?_; refine Jf 10 ?_; refine Jf 11 ?_; (apply h_idx hB1 12; (case hi => rfl); (case hr => kernel_rfl); (case hfr => kernel_rfl); (case hsel => kernel_rfl); (case hg => rfl); (case hd => rfl); (case i1 => infer_instance); (case i2 => infer_instance); (case hx => rfl); (case hy => rfl); (case hm => rfl); (case hu => exact hxi); intro q3 (hq3 : Pts _ q3 [strV x])); (apply h_first 13; (case hi => rfl); (case hr => kernel_rfl); (case hfr => kernel_rfl); (case hsel => kernel_rfl); (case hg => rfl); (case hd => rfl); (case he => (apply ev_load1; (case hx => rfl); (case h => exact hq3)))); refine Jf 15 ?_; refine Jf 16 ?_; (apply h_idx hB2 17; (case hi => rfl); (case hr => kernel_rfl); (case hfr => kernel_rfl); (case hsel => kernel_rfl); (case hg => rfl); (case hd => rfl); (case i1 => infer_instance); (case i2 => infer_instance); (case hx => rfl); (case hy => rfl); (case hm => rfl); (case hu => exact hyi); intro q4 (hq4 : Pts _ q4 [strV y])); (apply h_first 18; (case hi => rfl); (case hr => kernel_rfl); (case hfr => kernel_rfl); (case hsel => kernel_rfl); (case hg => rfl); (case hd => rfl); (case he => (apply ev_load1; (case hx => rfl); (case h => exact hq4)))); (apply h_one 14; (case hr => kernel_rfl)); (apply n_call; (case hi => rfl); (case i1 => infer_instance); (case hg => rfl); (case hd => rfl); (case ha => rfl); (case hc => exact rSum_con x S19 (by omega)); (case hL => (repeat (first | exact pm_nil _ | exact pm_refl _ _ | exact pm_self _ | apply pm_cons | apply pm_app))); (case hsub => (intros; (exact sbT))); rintro S20 _ _ - ⟨rfl, rfl⟩); (apply h_one 19; (case hr => kernel_rfl)); (apply n_call; (case hi => rfl); (case i1 => infer_instance); (case hg => rfl); (case hd => rfl); (case ha => rfl); (case hc => exact rSum_con y _ (by omega)); (case hL => (repeat (first | exact pm_nil _ | exact pm_refl _ _ | exact pm_self _ | apply pm_cons | apply pm_app))); (case hsub => (intros; (exact sbT))); rintro S21 _ _ - ⟨rfl, rfl⟩); (apply h_first 20; (case hi => rfl); (case hr => kernel_rfl); (case hfr => kernel_rfl); (case hsel => kernel_rfl); (case hg => rfl); (case hd => rfl); (case he => (apply ev_eql_bs' (r := true); (case hx => rfl); (case hy => rfl); (case h => simp [hsum])))); refine Jf 21 ?_; (apply h_end; (case hr => kernel_rfl)))
    (repeat (first | refine Jz ?_ | intro _))
    exact o_ret Tryz.results4 rfl (List.nil_sublist _) rfl
end Go.Proofs.YtnlfohlngapkfaaGreatDoor
namespace Go.Proofs.YtnlfohlngapkfaaGreatDoor
open Go Go.X
set_option maxRecDepth 10000
set_option linter.unusedVariables false
attribute [local irreducible] Code.wpIn wpListIn Exit.then Exit.inBlock X.Out X.Back X.W X.Ev X.Con X.BinV X.Wh X.Wn X.Wq
theorem u8_wf {n : Int} (h : (Lit.int .u8 n).wf = true) : n = ((UInt8.ofNat n.toNat).toNat : Int) := by
  have e1 : IntKind.min .u8 = 0 := by decide
  have e2 : IntKind.max .u8 = 255 := by decide
  simp [Lit.wf, e1, e2] at h
  rw [UInt8.toNat_ofNat']
  omega
theorem damagedI_law (xs : List Sv) (A : Option Addr) (cp : Nat) (at_ : Int) (c : Int) (p : Addr) (S : SH) (hA : At S A xs) (hx : ∀ x ∈ xs, slOk S x) (hat : i64 at_) (hc : (Lit.int .u8 c).wf = true) (hK : Pts S ⟨4, 0, none⟩ (cellsOf shaK)) (hE : Pts S ⟨0, 0, none⟩ [errV p]) :
    Con Tryz.prog 4 #[.slice A xs.length cp, .int .i64 at_, .int .u8 c] S [] (fun S' L' r => r = .bool true) := by
  rw [u8_wf hc]
  exact damaged_law xs A cp at_ _ p S hat hA hx hK hE
end Go.Proofs.YtnlfohlngapkfaaGreatDoor
namespace Go.Proofs.YtnlfohlngapkfaaGreatDoor
open Go Go.X
open Go.ChangeShapes Go.WideShapes Go.ChangeAt Go.RowKit
set_option linter.unusedVariables false
set_option maxHeartbeats 1600000 in
set_option maxRecDepth 100000 in
theorem contractJournalDamaged (H : Type) (enc : TypeId × Value → H) (W : World) (base : Nat) (args : Array Value) (ds gs : List (DataW H)) (before : List MemPlace)
    (hval0 : ∀ (j : Nat) t v, Tryz.f4.params[j]? = some t → args[j]? = some v → Value.okWide Tryz.prog W .any base t v)
    (hW : DataW.Whole enc Tryz.prog Tryz.f4.params.toList Rows.journalDamagedSpec.vars false W args.toList ds gs before) (hL : laidMetH Tryz.prog Rows.journalDamagedRow.laid W) :
    Calls Tryz.prog 4 args W fun e W' => ∃ v, e = .returned v ∧ Rows.journalDamagedSpec.post enc Tryz.prog Tryz.f4 false true false false W args v W' := by
  have hval : ∀ (j : Nat) t v, Tryz.f4.params[j]? = some t → args[j]? = some v → Value.okWide Tryz.prog W .any base t v := hval0
  have hW' := hW
  obtain ⟨p, q, hA0, hV, rfl, hfz, hnd⟩ := hW
  have hA : DataW.TrodAll enc Tryz.prog W 0 (fun _ => true) true Tryz.f4.params.toList args.toList ds p := hA0
  rw [Tryz.params4] at hA hval
  obtain ⟨v0, vs0, d0, ds0, p0, q0, hargs, rfl, rfl, h0, r0⟩ := trodAll_cons hA
  obtain ⟨v1, vs1, d1, ds1, p1, q1, rfl, rfl, rfl, h1, r1⟩ := trodAll_cons r0
  obtain ⟨v2, vs2, d2, ds2, p2, q2, rfl, rfl, rfl, h2, r2⟩ := trodAll_cons r1
  obtain ⟨rfl, rfl, rfl⟩ := trodAll_nil r2
  obtain rfl : args = #[v0, v1, v2] := by cases args; simp_all
  obtain ⟨rfl, rfl⟩ := trodVars_none hV
  have k0 := h0
  have lt0 : ∀ x ∈ p0, x.block < W.heap.size := by obtain ⟨m, hm⟩ := k0; exact DataW.trod_lt m _ _ _ hm
  have k1 := h1
  have lt1 : ∀ x ∈ p1, x.block < W.heap.size := by obtain ⟨m, hm⟩ := k1; exact DataW.trod_lt m _ _ _ hm
  have k2 := h2
  have lt2 : ∀ x ∈ p2, x.block < W.heap.size := by obtain ⟨m, hm⟩ := k2; exact DataW.trod_lt m _ _ _ hm
  obtain ⟨a0, len0, cap0, rfl⟩ := okWide_slice Tryz.underlying48 (hval 0 48 v0 rfl rfl)
  obtain ⟨xs0, rfl, gl0, gm0, gA0, gx0⟩ := open_slm (α := Sv) Tryz.underlying48 (by kernel_rfl) slOk_rdb rfl h0
  obtain ⟨a1, rfl, e1_1, e2_1, w1⟩ := open_int Tryz.underlying3 (hval 1 3 v1 rfl rfl) h1
  obtain ⟨a2, rfl, e1_2, e2_2, w2⟩ := open_int Tryz.underlying5 (hval 2 5 v2 rfl rfl) h2
  obtain ⟨ep, hEp⟩ := err_laid hL
  refine (calls_of_con (damagedI_law xs0 a0 cap0 a1 a2 ep (allOf W) gA0 gx0 (i64_wf w1) w2 (round_laid hL) hEp) fun _ _ _ h => h).mono fun e W' ⟨he, bel⟩ => ?_
  subst he
  exact ⟨_, rfl, _, _, _, [], _, [], hW', trodAll_mk1 (shut_bool Tryz.underlying4 _), (trodAll_cons_mk (Below.trod laidOut (by kernel_rfl) (of_decide_eq_true (by kernel_rfl)) k0 bel lt0) (trodAll_cons_mk (Below.trod laidOut (by kernel_rfl) (of_decide_eq_true (by kernel_rfl)) k1 bel lt1) (trodAll_cons_mk (Below.trod laidOut (by kernel_rfl) (of_decide_eq_true (by kernel_rfl)) k2 bel lt2) trodAll_mk0))), rfl, bel.frame _, fun h => by cases h⟩
theorem laid_metJournalDamaged (os : Os) : laidMet Tryz.prog Rows.journalDamagedRow.laid ((laidWorld os).forCall (fun _ _ => 0) ⟨#[], #[.slice none 0 0, .int .i64 0, .int .u8 0], []⟩).memory :=
  laidMet_of_run' 8 (by kernel_rfl) (by kernel_rfl)
theorem readsJournalDamaged (os : Os) {H : Type} (enc : TypeId × Value → H) : ∃ places, DataW.whole enc Tryz.prog ((laidWorld os).forCall (fun _ _ => 0) ⟨#[], #[.slice none 0 0, .int .i64 0, .int .u8 0], []⟩).memory Tryz.f4.params.toList Rows.journalDamagedSpec.vars false (#[.slice none 0 0, .int .i64 0, .int .u8 0] : Array Value).toList 8 = some ([.nil, .lit (.int .i64 0), .lit (.int .u8 0)], [], places) :=
  ⟨[], by kernel_rfl⟩
set_option maxRecDepth 100000 in
theorem liftedJournalDamaged (os : Os) (started : os.Started) (H : Type) (enc : TypeId × Value → H) (F : Stop.Interp) :
    ReturnsInHanded {} Tryz.checked os 4 .any ((OpenSpec.ofChange Rows.journalDamagedSpec).preRow enc Tryz.prog Tryz.f4 Rows.journalDamagedRow.domain false Rows.journalDamagedRow.laid) (((OpenSpec.ofChange Rows.journalDamagedSpec).at F).post enc Tryz.prog Tryz.f4 false true false false) := by
  obtain ⟨places, hx⟩ := readsJournalDamaged os enc
  refine returnsInHanded_of_row (C := Tryz.checked) (s := OpenSpec.ofChange Rows.journalDamagedSpec) own started (by kernel_rfl) Tryz.func4
    (witness_row_at (enc := enc) (C := Tryz.checked) false (laidWorld os) #[.slice none 0 0, .int .i64 0, .int .u8 0] rfl (by kernel_rfl) (by kernel_rfl) (by kernel_rfl)
      (OpenSpec.preRow_of_cond 8 hx (by kernel_rfl) (fun k hk => by cases hk) (by kernel_rfl) (laid_metJournalDamaged os))) ?_
  intro W base args ds gs before hval hW c1 c2 c3 hL c4 c5
  exact contractJournalDamaged H enc W base args ds gs before hval hW hL
theorem saidJournalDamaged : Rows.JournalDamagedSaid :=
  OpenClaim.holds_of_cond 4 Tryz.f4 rfl rfl rfl rfl rfl rfl rfl ⟨rfl, rfl, rfl, rfl, rfl⟩ rfl rfl rfl rfl rfl (by kernel_rfl) Tryz.func4 (by kernel_rfl)
    (of_decide_eq_true (by kernel_rfl)) (by unfold Func.isWrapper; rw [if_neg (of_decide_eq_false (by kernel_rfl))]; exact ⟨rfl, rfl⟩)
    (fun os started H enc _ F => by rw [OpenClaim.pre_eq_preRow]; exact liftedJournalDamaged os started H enc F)
theorem plainJournalDamaged (f : FuncId) (fn : Func) (hf : Tryz.pinned.checked.prog.funcNamed "latecomer/latecomerlaw33.JournalDamaged" = some f) (hfn : Tryz.pinned.checked.prog.funcs[f]? = some fn) :
    true = Tryz.pinned.checked.prog.looks [] ∧ ∀ (j : Nat) t, fn.params[j]? = some t → Tryz.pinned.checked.prog.wantsStandIn t = false := by
  obtain rfl : f = 4 := Option.some.inj ((show Tryz.prog.funcNamed "latecomer/latecomerlaw33.JournalDamaged" = some 4 by kernel_rfl).symm.trans hf) |>.symm
  obtain rfl : fn = Tryz.f4 := (Option.some.inj (Tryz.func4.symm.trans hfn)).symm
  refine ⟨by kernel_rfl, fun j t ht => ?_⟩
  rw [Tryz.params4] at ht
  have hm := Array.mem_of_getElem? ht
  simp only [List.mem_toArray, List.mem_cons, List.not_mem_nil, or_false] at hm
  rcases hm with rfl | rfl | rfl
  · exact (show Tryz.prog.wantsStandIn 48 = false by kernel_rfl)
  · exact (show Tryz.prog.wantsStandIn 3 = false by kernel_rfl)
  · exact (show Tryz.prog.wantsStandIn 5 = false by kernel_rfl)
theorem journalDamaged_holds : Rows.JournalDamagedCardSaid :=
  Claim7.holds_tied_plain_at .later [] _ _ _ _ saidJournalDamaged (fun _ h => by cases h) (by kernel_rfl) (fun _ h => by cases h) journalDamaged_row_tie rfl ⟨rfl, rfl⟩ (by kernel_rfl) rfl plainJournalDamaged (by kernel_rfl)
#print axioms journalDamaged_holds
end Go.Proofs.YtnlfohlngapkfaaGreatDoor
