/- Contracts of functions of this program, each proved by a walk through its code, and plain lemmas on what they compute; on no condition beyond those that each theorem states. -/
import Derived.Test.YtnlfohlngapkfaaGreatDoorBf
import Derived.Test.YtnlfohlngapkfaaGreatDoorBe
import Derived.Test.YtnlfohlngapkfaaGreatDoorXA
namespace Go.Proofs.YtnlfohlngapkfaaGreatDoor
open Go Go.X
set_option maxRecDepth 10000
set_option linter.unusedVariables false
attribute [local irreducible] Code.wpIn wpListIn Exit.then Exit.inBlock X.Out X.Back X.W X.Ev X.Con X.BinV X.Wh X.Wn X.Wq
theorem drop_take1 {B : Bs} {cap o n : Nat} (hn : cap = o → n = 0) : (B.drop (if cap = o then 0 else o)).take n = (B.drop o).take n := by
  split
  · rename_i h; rw [hn h]; simp
  · rfl
def rvis (R : Rf) : Bs := applyL R.sure R.l
def rreadV (R : Rf) (off n : Int) : Value := .tuple (if R.down then #[strV [], .int .i64 321] else if insideB R.sure.length off n then #[strV (((rvis R).drop off.toNat).take n.toNat), .int .i64 0] else #[strV [], .int .i64 320])
theorem RRead_con {v : Value} {R : Rf} {L : Blocks} (h : OwR v R L) (hll : R.l.length ≤ 2000000) (S : SH) (off n : Int) (h1 : i64 off) (h2 : i64 n) : Con Tryz.prog 97 #[v, .int .i64 off, .int .i64 n] S L (fun S' L' r => S' = S ∧ OwR v R L' ∧ r = rreadV R off n) := by
  cases hin : !R.down && insideB R.sure.length off n
  · obtain ⟨b, g, N, cap, tl, pv, ob, rfl, hp, ho, hw, hc1, hc2, hc3⟩ := h
    have hk : OwR (.pointer (some ⟨b, 0, none⟩)) R (rfB b g N cap tl pv ob R) := ⟨b, g, N, cap, tl, pv, ob, rfl, List.Perm.refl _, ho, hw, hc1, hc2, hc3⟩
    refine con_of (args := [.pointer (some ⟨b, 0, none⟩), .int .i64 off, .int .i64 n]) Tryz.func97 rfl Tryz.ntmps97 rfl fun w => W.perm ?_ hp
    obtain ⟨su, l, dn, le⟩ := R
    have w1 := hw.sure
    have w2 := hw.max
    unfold i64 at h1 h2
    simp only at w1
    unfold rfB
    cases dn
    rotate_left
    · (repeat (first | refine Jz ?_ | intro _))
      exact o_ret2 Tryz.results97 rfl rfl (List.Sublist.refl _) ⟨rfl, hk, rfl⟩
    simp only [Bool.not_false, Bool.true_and, insideB, w1] at hin
    by_cases c1 : off < 0
    rotate_left
    by_cases c2 : n < 0
    rotate_left
    by_cases c3 : off > N
    rotate_left
    have c4 : n > N - off := by
      rw [Bool.and_eq_false_iff, Bool.and_eq_false_iff, Bool.and_eq_false_iff] at hin
      simp only [decide_eq_false_iff_not] at hin
      omega
    all_goals
      (repeat (first | refine Jz ?_ | intro _))
      exact o_ret2 Tryz.results97 rfl rfl (List.Sublist.refl _) ⟨rfl, hk, by simp only [rreadV, insideB, w1, hin]; rfl⟩
  · rw [Bool.and_eq_true] at hin
    obtain ⟨hdn, hin⟩ := hin
    have hin' := hin
    simp only [insideB, Bool.and_eq_true, decide_eq_true_eq] at hin'
    obtain ⟨⟨⟨q1, q2⟩, q3⟩, q4⟩ := hin'
    obtain ⟨o, rfl⟩ : ∃ o : Nat, off = o := ⟨off.toNat, by omega⟩
    obtain ⟨m, rfl⟩ : ∃ m : Nat, n = m := ⟨n.toNat, by omega⟩
    have hO := h
    obtain ⟨b, g, N, cap, tl, pv, ob, rfl, hp, ho, hw, hc1, hc2, hc3⟩ := h
    have hk : OwR (.pointer (some ⟨b, 0, none⟩)) R (rfB b g N cap tl pv ob R) := ⟨b, g, N, cap, tl, pv, ob, rfl, List.Perm.refl _, ho, hw, hc1, hc2, hc3⟩
    refine con_of (args := [.pointer (some ⟨b, 0, none⟩), .int .i64 o, .int .i64 m]) Tryz.func97 rfl Tryz.ntmps97 rfl fun w => W.perm ?_ hp
    have w1 := hw.sure
    have w2 := hw.max
    have w3 : R.down = false := by simpa using hdn
    have hvl : (rvis R).length = N := by have := appl_len hw R.l.length; rwa [List.take_of_length_le (Nat.le_refl _)] at this
    obtain ⟨su, l, dn, le⟩ := R
    simp only at w1 w3 q3 q4
    subst w3
    unfold rfB
    (repeat (first | refine Jc ?_ | (apply s_call; (case hg => rfl); (case hd => rfl); (case ha => rfl); (case hc => exact Visible_con hk hll _); (case hL => (repeat (first | exact pm_nil _ | exact pm_refl _ _ | exact pm_self _ | apply pm_cons | apply pm_app))); rintro S2 L2 _ - ⟨rfl, g3, cap3, tl3, L3, rfl, hO3, rfl, r1, r2, r3⟩) | (apply s_bin; (case hg => rfl); (case hd => rfl); (case hx => rfl); (case hy => rfl); (case hb => (apply bv_addn; omega))) | (apply s_evb; (case hg => rfl); (case hd => rfl); (case hn => rfl); (case he => ((apply ev_sub_both; (case hx => rfl); (case hy => rfl); (case hz => rfl); (case hmc => (simp only at r1; omega)); (case hi => omega))))) | (apply s_evb; (case hg => rfl); (case hd => rfl); (case hn => rfl); (case he => ((apply ev_str_row (B := rvis ⟨su, l, false, le⟩) (tl := tl3); (case hx => rfl); (case hm => exact List.Mem.head _); (case hk => (rw [hvl]; simp only at r1; split <;> omega)))))) | refine Jo ?_ | intro _))
    refine o_ret2 (L' := L3) Tryz.results97 rfl rfl ?_ ⟨rfl, hO3, ?_⟩
    · exact (List.sublist_append_left _ _).cons _
    · rw [show o + m - o = m by omega, drop_take1 (by simp only at r1; omega)]
      simp [rreadV, hin]
theorem RSync_con {v : Value} {R : Rf} {L : Blocks} (h : OwR v R L) (hll : R.l.length ≤ 2000000) (S : SH) : Con Tryz.prog 53 #[v] S L (fun S' L' r => S' = S ∧ OwR v (if R.down then R else { R with sure := rvis R, l := [] }) L' ∧ r = .int .i64 (if R.down then 321 else 0)) := by
  obtain ⟨b, g, N, cap, tl, pv, ob, rfl, hp, ho, hw, hc1, hc2, hc3⟩ := h
  have hk : OwR (.pointer (some ⟨b, 0, none⟩)) R (rfB b g N cap tl pv ob R) := ⟨b, g, N, cap, tl, pv, ob, rfl, List.Perm.refl _, ho, hw, hc1, hc2, hc3⟩
  refine con_of (args := [.pointer (some ⟨b, 0, none⟩)]) Tryz.func53 rfl Tryz.ntmps53 rfl fun w => W.perm ?_ hp
  have w1 := hw.sure
  have hvl : (rvis R).length = N := by have := appl_len hw R.l.length; rwa [List.take_of_length_le (Nat.le_refl _)] at this
  obtain ⟨su, l, dn, le⟩ := R
  unfold rfB
  cases dn
  rotate_left
  · (repeat (first | refine Jz ?_ | intro _))
    exact o_ret Tryz.results53 rfl (List.Sublist.refl _) ⟨rfl, hk, rfl⟩
  simp only at w1
  (repeat (first | refine Jc ?_ | (apply s_call; (case hg => rfl); (case hd => rfl); (case ha => rfl); (case hc => exact Visible_con hk hll _); (case hL => (repeat (first | exact pm_nil _ | exact pm_refl _ _ | exact pm_self _ | apply pm_cons | apply pm_app))); rintro S2 L2 _ - ⟨rfl, g3, cap3, tl3, L3, rfl, hO3, rfl, r1, r2, r3⟩) | refine Jo ?_ | intro _))
  obtain ⟨b', g', N', cap', tl', pv', ob', e5, hp', ho', hw', hc1', hc2', hc3'⟩ := hO3
  cases e5
  obtain rfl : N' = N := hw'.sure.symm.trans w1
  refine W.perm ?_ (((pnil (List.Perm.refl _)).trans (hp'.cons _)).trans (List.Perm.swap _ _ _))
  (repeat (first | refine Jz ?_ | intro _))
  refine o_ret (L' := (b, .cells [.slice (some ⟨g3, 0, none⟩) su.length cap3, .slice none 0 0, .bool false, .int .i64 le].toArray 67 (0, 0)) :: (g3, .cells (cellsOf (applyL su l) ++ tl3).toArray 5 (0, 0)) :: []) Tryz.results53 rfl (((List.nil_sublist _).cons_cons _).cons_cons _) ⟨rfl, ⟨b, g3, N', cap3, tl3, .slice none 0 0, [], rfl, ?_, Ows.nil 118, ⟨hvl, hw.pos, hw.max, hw.left, by simp⟩, by simp only at r1; omega, r2, r3⟩, rfl⟩
  simp only [rfB, w1]
  exact List.Perm.refl _
end Go.Proofs.YtnlfohlngapkfaaGreatDoor
namespace Go.Proofs.YtnlfohlngapkfaaGreatDoor
open Go Go.X
set_option maxRecDepth 10000
set_option linter.unusedVariables false
attribute [local irreducible] Code.wpIn wpListIn Exit.then Exit.inBlock X.Out X.Back X.W X.Ev X.Con X.BinV X.Wh X.Wn X.Wq
def rwD (R : Rf) (off : Int) (s : Bs) : Rf := if !R.down && insideB R.sure.length off s.length then ⟨R.sure, R.l ++ [⟨off.toNat, s⟩], (usedP false R.left).1, (usedP false R.left).2⟩ else R
def rwE (R : Rf) (off : Int) (s : Bs) : Int := if R.down then 321 else if insideB R.sure.length off s.length then 0 else 320
theorem RWrite_con {v : Value} {R : Rf} {L : Blocks} (h : OwR v R L) (S : SH) (off : Int) (s : Bs) (h1 : i64 off) (hs : s.length ≤ 9223372036854775807) (hl : R.l.length ≤ 1000000) : Con Tryz.prog 17 #[v, .int .i64 off, strV s] S L (fun S' L' r => S' = S ∧ OwR v (rwD R off s) L' ∧ r = .int .i64 (rwE R off s)) := by
  obtain ⟨b, g, N, cap, tl, pv, ob, rfl, hp, ho, hw, hc1, hc2, hc3⟩ := h
  have hk : OwR (.pointer (some ⟨b, 0, none⟩)) R (rfB b g N cap tl pv ob R) := ⟨b, g, N, cap, tl, pv, ob, rfl, List.Perm.refl _, ho, hw, hc1, hc2, hc3⟩
  have w1 := hw.sure
  have w2 := hw.max
  unfold i64 at h1
  obtain ⟨su, l, dn, le⟩ := R
  simp only at w1
  cases hin : !dn && insideB su.length off s.length
  · refine con_of (args := [.pointer (some ⟨b, 0, none⟩), .int .i64 off, strV s]) Tryz.func17 rfl Tryz.ntmps17 rfl fun w => W.perm ?_ hp
    have e1 : rwD ⟨su, l, dn, le⟩ off s = ⟨su, l, dn, le⟩ := by simp only [rwD, hin]; rfl
    rw [e1]
    unfold rfB
    cases dn
    rotate_left
    · (repeat (first | refine Jz ?_ | intro _))
      exact o_ret Tryz.results17 rfl (List.Sublist.refl _) ⟨rfl, hk, rfl⟩
    simp only [Bool.not_false, Bool.true_and] at hin
    have e2 : rwE ⟨su, l, false, le⟩ off s = 320 := by simp only [rwE, hin]; rfl
    rw [e2]
    simp only [insideB, w1] at hin
    by_cases c1 : off < 0
    rotate_left
    by_cases c3 : off > N
    rotate_left
    have c4 : (s.length : Int) > N - off := by
      rw [Bool.and_eq_false_iff, Bool.and_eq_false_iff, Bool.and_eq_false_iff] at hin
      simp only [decide_eq_false_iff_not] at hin
      omega
    all_goals
      (repeat (first | refine Jc ?_ | (apply s_evb; (case hg => rfl); (case hd => rfl); (case hn => rfl); (case he => (apply ev_len_b; rfl))) | refine Jo ?_ | intro _))
      exact o_ret Tryz.results17 rfl (List.Sublist.refl _) ⟨rfl, hk, rfl⟩
  · rw [Bool.and_eq_true] at hin
    obtain ⟨hdn, hin⟩ := hin
    obtain rfl : dn = false := by simpa using hdn
    have hin' := hin
    simp only [insideB, Bool.and_eq_true, decide_eq_true_eq] at hin'
    obtain ⟨⟨⟨q1, q2⟩, q3⟩, q4⟩ := hin'
    obtain ⟨o, rfl⟩ : ∃ o : Nat, off = o := ⟨off.toNat, by omega⟩
    have e1 : rwD ⟨su, l, false, le⟩ o s = ⟨su, l ++ [⟨o, s⟩], (usedP false le).1, (usedP false le).2⟩ := by simp [rwD, hin]
    have e2 : rwE ⟨su, l, false, le⟩ o s = 0 := by simp [rwE, hin]
    rw [e1, e2]
    refine con_of (args := [.pointer (some ⟨b, 0, none⟩), .int .i64 o, strV s]) Tryz.func17 rfl Tryz.ntmps17 rfl fun w => W.perm ?_ hp
    have wl := hw.left
    simp only at wl hl ho
    unfold rfB
    dsimp only
    by_cases d1 : le = 0
    rotate_left
    by_cases d2 : le - 1 = 0
    all_goals
      (repeat (first | refine Jc ?_ | (apply s_evb; (case hg => rfl); (case hd => rfl); (case hn => rfl); (case he => (apply ev_len_b; rfl))) | (apply s_append (ms := [Wr.mk o s]); (case hg => rfl); (case hd => rfl); (case hx => rfl); (case ho => exact ho); (case hL => (repeat (first | exact pm_nil _ | exact pm_refl _ _ | exact pm_self _ | apply pm_cons | apply pm_app))); (case hy => rfl); (case hm => rfl); (case hs => (apply Src.own; (repeat (first | exact List.Mem.head _ | apply List.Mem.tail | apply List.mem_append_right)))); (case hzs => rfl); (case h0 => decide); (case hb => (simp; omega)); (case h63 => (simp; omega)); intro v' ob' ho'; obtain ⟨A', c', rfl⟩ := ho'.form) | refine Jo ?_ | intro _))
      refine W.perm ?_ List.perm_append_comm
      refine o_ret (L' := (b, .cells [.slice (some ⟨g, 0, none⟩) N cap, .slice A' (l ++ [Wr.mk o s]).length c', .bool (usedP false le).1, .int .i64 (usedP false le).2].toArray 67 (0, 0)) :: (g, .cells (cellsOf su ++ tl).toArray 5 (0, 0)) :: ob') Tryz.results17 rfl ?_ ⟨rfl, ⟨b, g, N, cap, tl, _, ob', rfl, List.Perm.refl _, ho', ⟨w1, hw.pos, hw.max, ?_, ?_⟩, hc1, hc2, hc3⟩, rfl⟩
      · simp only [usedP]
        simp [d1]
        try simp [d2]
        try exact List.Sublist.cons _ (List.Sublist.refl _)
      · simp only [usedP]
        split <;> simp only <;> omega
      · intro x hx
        simp only [List.mem_append, List.mem_singleton] at hx
        rcases hx with hx | rfl
        · exact hw.fit x hx
        · simp only; omega
end Go.Proofs.YtnlfohlngapkfaaGreatDoor
namespace Go.Proofs.YtnlfohlngapkfaaGreatDoor
open Go Go.X
set_option maxRecDepth 10000
set_option linter.unusedVariables false
attribute [local irreducible] Code.wpIn wpListIn Exit.then Exit.inBlock X.Out X.Back X.W X.Ev X.Con X.BinV X.Wh X.Wn X.Wq
attribute [local irreducible] sumK chain stw group stored
/-- Whether the byte at an index of stored records is one of the length of a record (plain). -/
def sizedP : List Str → Int → Bool
  | [], _ => false
  | r :: t, at_ => if 1 ≤ at_ ∧ at_ ≤ ((ibs r.b.length).length : Int) then true else sizedP t (at_ - (33 + (ibs r.b.length).length + r.b.length))
theorem stored_def (K : List UInt32) (h r : Bs) : stored K h r = 1 :: (ibs r.length ++ (r ++ chain K h r)) := by unfold stored stw; simp
theorem stw_def (r : Bs) : stw r = ibs r.length ++ r := by unfold stw; rfl
end Go.Proofs.YtnlfohlngapkfaaGreatDoor
namespace Go.Proofs.YtnlfohlngapkfaaGreatDoor
open Go Go.X
set_option maxRecDepth 10000
set_option linter.unusedVariables false
attribute [local irreducible] Code.wpIn wpListIn Exit.then Exit.inBlock X.Out X.Back X.W X.Ev X.Con X.BinV X.Wh X.Wn X.Wq
attribute [local irreducible] sumK chain stw group stored
theorem decS_take {l r : Bs} {k : Nat} (h : decS l = some (r, k)) : l.take k = stw r := by
  unfold decS at h
  split at h
  · cases h
  · rename_i n k' hd
    split at h
    · rename_i hg
      simp only [Option.some.injEq, Prod.mk.injEq] at h
      obtain ⟨h1, h2⟩ := h
      obtain ⟨-, e2, e3⟩ := (decI_iff _ _ _).1 hd
      have hl : ((l.drop k').take n.toNat).length = n.toNat := by rw [List.length_take, List.length_drop]; omega
      rw [stw_def, ← h2, List.take_add, e3, ← h1, hl, Int.toNat_of_nonneg hg.1]
    · cases h
/-- The reference's journal in blocks of the call's own. -/
def OwK (v dv : Value) (l : List Str) (e : Nat) (br : Bool) (L : Blocks) : Prop :=
  ∃ b rv ob, v = .pointer (some ⟨b, 0, none⟩) ∧ L = (b, .cells [dv, rv, .int .i64 (e : Nat), .bool br].toArray 43 (0, 0)) :: ob ∧ Ows 9 rv l ob
theorem OwK.form {v dv : Value} {l : List Str} {e : Nat} {br : Bool} {L : Blocks} (h : OwK v dv l e br L) : ∃ b, v = .pointer (some ⟨b, 0, none⟩) := by obtain ⟨b, _, _, rfl, _⟩ := h; exact ⟨b, rfl⟩
def rsync (R : Rf) : Rf := if R.down then R else { R with sure := rvis R, l := [] }
/-- What the reference's Open does where the rest is not all zeros: the disk, and the error. -/
def rfix (R : Rf) (size q : Nat) : Rf × Int := if rwE R (size : Nat) (List.replicate q 0) ≠ 0 then (rwD R (size : Nat) (List.replicate q 0), rwE R (size : Nat) (List.replicate q 0)) else (rsync (rwD R (size : Nat) (List.replicate q 0)), if (rwD R (size : Nat) (List.replicate q 0)).down then 321 else 0)
/-- What Open of the reference leaves, on records and a tail. -/
def ROpened (dv : Value) (R : Rf) (l : List Str) (tail : Bs) (L' : Blocks) (r : Value) : Prop :=
  (Bad shaK (group shaK head0 l).2 tail ∧ OwR dv R L' ∧ r = .tuple #[.pointer none, .int .i64 332]) ∨
  ((∀ c, tail[0]? = some c → c = 0) ∧ tail = List.replicate tail.length 0 ∧ ∃ jv LJ LD', L' = LD' ++ LJ ∧ OwK jv dv l (group shaK head0 l).1.length false LJ ∧ OwR dv R LD' ∧ r = .tuple #[jv, .int .i64 0]) ∨
  ((∀ c, tail[0]? = some c → c = 0) ∧ tail ≠ List.replicate tail.length 0 ∧ (rfix R (group shaK head0 l).1.length tail.length).2 = 0 ∧ ∃ jv LJ LD', L' = LD' ++ LJ ∧ OwK jv dv l (group shaK head0 l).1.length false LJ ∧ OwR dv (rfix R (group shaK head0 l).1.length tail.length).1 LD' ∧ r = .tuple #[jv, .int .i64 0]) ∨
  ((∀ c, tail[0]? = some c → c = 0) ∧ tail ≠ List.replicate tail.length 0 ∧ (rfix R (group shaK head0 l).1.length tail.length).2 ≠ 0 ∧ OwR dv (rfix R (group shaK head0 l).1.length tail.length).1 L' ∧ r = .tuple #[.pointer none, .int .i64 (rfix R (group shaK head0 l).1.length tail.length).2])
set_option maxHeartbeats 6400000 in
theorem rOpen_con {dv : Value} {R : Rf} {LD : Blocks} (h : OwR dv R LD) (l : List Str) (tail : Bs) (S : SH) (hdn : R.down = false) (hll : R.l.length ≤ 100000) (hvl : (rvis R).length = R.sure.length) (hd : R.sure.length ≤ 1000000) (hvis : rvis R = (group shaK head0 l).1 ++ tail) (hsh : Short l) (hl : l.length ≤ 100000) (htl : Bad shaK (group shaK head0 l).2 tail ∨ ∀ c, tail[0]? = some c → c = 0) :
    Con Tryz.prog 58 #[dv] S LD (fun S' L' r => ROpened dv R l tail L' r) := by
  obtain ⟨b, g, N, cap, tl, pv, ob, rfl, hp, ho, hw, hc1, hc2, hc3⟩ := h
  have hk : OwR (.pointer (some ⟨b, 0, none⟩)) R (rfB b g N cap tl pv ob R) := ⟨b, g, N, cap, tl, pv, ob, rfl, List.Perm.refl _, ho, hw, hc1, hc2, hc3⟩
  have hN := hw.sure
  have hrv : rreadV R 0 (N : Nat) = .tuple #[strV (rvis R), .int .i64 0] := by
    unfold rreadV insideB
    rw [hdn, hN]
    simp [← hN, ← hvl]
  have hrd : ∀ S, Con Tryz.prog 97 #[.pointer (some ⟨b, 0, none⟩), .int .i64 0, .int .i64 (N : Nat)] S (rfB b g N cap tl pv ob R) (fun S' L' r => S' = S ∧ OwR (.pointer (some ⟨b, 0, none⟩)) R L' ∧ r = .tuple #[strV (rvis R), .int .i64 0]) := fun S => by
    have := RRead_con hk (by omega) S 0 (N : Nat) (by unfold i64; omega) (by unfold i64; omega)
    rw [hrv] at this; exact this
  refine con_of (args := [.pointer (some ⟨b, 0, none⟩)]) Tryz.func58 rfl Tryz.ntmps58 rfl fun w => W.perm ?_ hp
  unfold rfB at hrd ⊢
  clear hk
  obtain ⟨s, hs⟩ : ∃ s, s = rvis R := ⟨_, rfl⟩
  rw [← hs] at hrd hrv hvl hvis
  have hsN : s.length = N := hvl.trans hN
  obtain ⟨dv, hdv⟩ : ∃ dv : Value, dv = .pointer (some ⟨b, 0, none⟩) := ⟨_, rfl⟩
  (repeat (first | refine Jc ?_ | (apply s_evb; (case hg => rfl); (case hd => rfl); (case hn => rfl); (case he => (apply ev_nilCheck; rfl))) | (apply s_call (L2 := []); (case hg => rfl); (case hd => rfl); (case ha => rfl); (case hc => exact hrd _); (case hL => (exact pmc (fun p => by first | rfl | ((repeat rw [List.countP_append]); (repeat rw [List.countP_cons]); (repeat rw [List.countP_nil]); (all_goals (first | rfl | omega)))))); rintro S1 L1 v1 hle1 ⟨rfl, hk1, rfl⟩) | (apply s_evb; (case hg => rfl); (case hd => rfl); (case hn => rfl); (case he => ((apply ev_build (cells := [.pointer (some ⟨b, 0, none⟩), .slice none 0 0, .int .i64 0, .bool false].toArray); (case hp => rfl); (case hc => rfl))))) | ((apply z_call; rfl; rfl; rfl; exact rHeadNil_con _; rintro S2 _ _ hle2 ⟨rfl, rfl⟩)) | refine Jo ?_ | intro _))
  rename_i bj
  refine c_meetB (fun S' L F => Le S2 S' ∧ (∀ c, tail[0]? = some c → c = 0) ∧ ∃ rv ob, Ows 9 rv l ob ∧ L = ob ++ ((bj, .cells [.pointer (some ⟨b, 0, none⟩), rv, .int .i64 ((group shaK head0 l).1.length : Nat), .bool false].toArray 43 (0, 0)) :: L1) ∧ F = [(0, .pointer (some ⟨b, 0, none⟩)), (4, .int .i64 (N : Nat)), (5, strV s), (7, .pointer (some ⟨bj, 0, none⟩))]) ?_ ?_
  · refine c_loop (fun m S' L F => Le S2 S' ∧ ∃ (d t : List Str) (pre h : Bs) (rv : Value) (ob : Blocks), m = t.length ∧ l = d ++ t ∧ s = pre ++ ((group shaK h t).1 ++ tail) ∧ (group shaK head0 l).2 = (group shaK h t).2 ∧ h.length = 32 ∧ Ows 9 rv d ob ∧ L = ob ++ ((bj, .cells [.pointer (some ⟨b, 0, none⟩), rv, .int .i64 (pre.length : Nat), .bool false].toArray 43 (0, 0)) :: L1) ∧ F = [(0, .pointer (some ⟨b, 0, none⟩)), (4, .int .i64 (N : Nat)), (5, strV s), (7, .pointer (some ⟨bj, 0, none⟩)), (8, strV h)]) ⟨Le.refl _, [], l, [], head0, _, [], rfl, rfl, (show s = [] ++ _ from hvis), rfl, (by unfold head0; simp), Ows.nil _, rfl, rfl⟩ sbF sbL ?_
    rintro m S' L F ⟨hle', d, t, pre, h, rv, ob, rfl, hdt, hpre, hg2, hh', ho', rfl, rfl⟩
    cases t with
    | nil =>
      rw [group_nil] at hpre hg2
      have hpre : s = pre ++ tail := hpre
      have hout : pre = (group shaK head0 l).1 := by rw [hpre] at hvis; exact List.append_cancel_right hvis
      rw [List.append_nil] at hdt
      have hslen : s.length = pre.length + tail.length := by rw [hpre]; simp
      rcases htl with hbad | hok
      · have hbad' := hbad
        rw [hg2] at hbad
        obtain ⟨⟨x, hx, hx0⟩, hno⟩ := hbad
        simp only at hno
        have htpos : 0 < tail.length := (List.getElem?_eq_some_iff.1 hx).1
        have e1 : pre.length < s.length := by omega
        have e2 : s[pre.length]? = some x := by rw [hpre, List.getElem?_append_right (Nat.le_refl _), Nat.sub_self]; exact hx
        have hcn0 : (x.toNat : Int) ≠ 0 := fun e => hx0 (UInt8.toNat_inj.1 (by simpa using e))
        have hdrop : s.drop (pre.length + 1) = tail.drop 1 := by rw [hpre, ← List.drop_drop]; simp
        obtain ⟨A, c, rfl⟩ := ho'.form
        rcases hds : decS (tail.drop 1) with _ | ⟨r, k⟩
        · have hsv : strgV s ((pre.length : Int) + 1) = .tuple #[strV [], .int .i64 0, .int .i64 10] := by
            unfold strgV
            rw [if_neg (by omega), show ((pre.length : Int) + 1).toNat = pre.length + 1 by omega, hdrop, hds]
          have hcs : ∀ S'', Con Tryz.prog 98 #[strV s, .int .i64 ((pre.length : Int) + 1)] S'' [] (X.Pure S'' (.tuple #[strV [], .int .i64 0, .int .i64 10])) := fun S'' => (rString_con s _ S'' (by omega)).eq hsv
          by_cases hc1 : (x.toNat : Int) = 1
          all_goals
            (repeat (first | refine Jc ?_ | (apply s_evb; (case hg => rfl); (case hd => rfl); (case hn => rfl); (case he => (apply ev_len_b; rfl))) | (apply s_evb; (case hg => rfl); (case hd => rfl); (case hn => rfl); (case he => (apply ev_nilCheck; rfl))) | (apply s_evb; (case hg => rfl); (case hd => rfl); (case hn => rfl); (case he => ((apply ev_index_b (k := pre.length); (case hx => rfl); (case hi => rfl); (case hu => exact e2))))) | ((apply z_call; rfl; rfl; rfl; exact hcs _; rintro _ _ _ - ⟨rfl, rfl, rfl⟩)) | refine Jo ?_ | intro _))
            exact o_ret2 Tryz.results58 rfl rfl sbL (.inl ⟨hbad', hk1, rfl⟩)
        obtain ⟨hr1, hkl⟩ := decS_some hds
        have hst := decS_take hds
        rw [List.length_drop] at hkl
        have hsv : strgV s ((pre.length : Int) + 1) = .tuple #[strV r, .int .i64 ((pre.length : Int) + 1 + (k : Nat)), .int .i64 0] := by
          unfold strgV
          rw [if_neg (by omega), show ((pre.length : Int) + 1).toNat = pre.length + 1 by omega, hdrop, hds]
        have hcs : ∀ S'', Con Tryz.prog 98 #[strV s, .int .i64 ((pre.length : Int) + 1)] S'' [] (X.Pure S'' (.tuple #[strV r, .int .i64 ((pre.length : Int) + 1 + (k : Nat)), .int .i64 0])) := fun S'' => (rString_con s _ S'' (by omega)).eq hsv
        by_cases hc1 : (x.toNat : Int) = 1
        rotate_left
        · (repeat (first | refine Jc ?_ | (apply s_evb; (case hg => rfl); (case hd => rfl); (case hn => rfl); (case he => (apply ev_len_b; rfl))) | (apply s_evb; (case hg => rfl); (case hd => rfl); (case hn => rfl); (case he => (apply ev_nilCheck; rfl))) | (apply s_evb; (case hg => rfl); (case hd => rfl); (case hn => rfl); (case he => ((apply ev_index_b (k := pre.length); (case hx => rfl); (case hi => rfl); (case hu => exact e2))))) | ((apply z_call; rfl; rfl; rfl; exact hcs _; rintro _ _ _ - ⟨rfl, rfl, rfl⟩)) | refine Jo ?_ | intro _))
          exact o_ret2 Tryz.results58 rfl rfl sbL (.inl ⟨hbad', hk1, rfl⟩)
        by_cases hfit : 1 + k + 32 ≤ tail.length
        rotate_left
        · (repeat (first | refine Jc ?_ | (apply s_evb; (case hg => rfl); (case hd => rfl); (case hn => rfl); (case he => (apply ev_len_b; rfl))) | (apply s_evb; (case hg => rfl); (case hd => rfl); (case hn => rfl); (case he => (apply ev_nilCheck; rfl))) | (apply s_evb; (case hg => rfl); (case hd => rfl); (case hn => rfl); (case he => ((apply ev_index_b (k := pre.length); (case hx => rfl); (case hi => rfl); (case hu => exact e2))))) | ((apply z_call; rfl; rfl; rfl; exact hcs _; rintro _ _ _ - ⟨rfl, rfl, rfl⟩)) | ((apply z_call; rfl; rfl; rfl; exact rChain_con h r _ (by omega) (by omega); rintro S5 _ _ hle5 ⟨rfl, rfl⟩)) | refine Jo ?_ | intro _))
          exact o_ret2 Tryz.results58 rfl rfl sbL (.inl ⟨hbad', hk1, rfl⟩)
        have hsub : (s.take (pre.length + 1 + k + 32)).drop (pre.length + 1 + k) = (tail.drop (1 + k)).take 32 := by
          rw [List.drop_take, show pre.length + 1 + k + 32 - (pre.length + 1 + k) = 32 by omega, hpre, Nat.add_assoc, ← List.drop_drop (i := 1 + k) (j := pre.length), List.drop_left]
        have hne : ((s.take (pre.length + 1 + k + 32)).drop (pre.length + 1 + k) != chain shaK h r) = true := by
          rw [hsub, bne_iff_ne]
          intro e
          have hx1 : x = 1 := UInt8.toNat_inj.1 (show x.toNat = 1 by omega)
          refine hno ⟨r, tail.drop (1 + k + 32), hr1, ?_⟩
          rw [stored_def, ← e, ← List.append_assoc, ← stw_def, ← hst]
          cases tail with
          | nil => cases htpos
          | cons y tl =>
            have hy : y = 1 := by rw [← hx1]; simpa using hx
            rw [hy]
            have e5 : (1 :: tl).drop (1 + k) = tl.drop k := by rw [Nat.add_comm, List.drop_succ_cons]
            have e6 : (1 :: tl).drop (1 + k + 32) = (tl.drop k).drop 32 := by rw [List.drop_drop, show 1 + k + 32 = (k + 32) + 1 by omega, List.drop_succ_cons]
            rw [e5, e6]
            simp
            rw [← List.drop_drop, List.take_append_drop, List.take_append_drop]
        (repeat (first | refine Jc ?_ | (apply s_evb; (case hg => rfl); (case hd => rfl); (case hn => rfl); (case he => (apply ev_len_b; rfl))) | (apply s_evb; (case hg => rfl); (case hd => rfl); (case hn => rfl); (case he => (apply ev_nilCheck; rfl))) | (apply s_evb; (case hg => rfl); (case hd => rfl); (case hn => rfl); (case he => ((apply ev_index_b (k := pre.length); (case hx => rfl); (case hi => rfl); (case hu => exact e2))))) | ((apply z_call; rfl; rfl; rfl; exact hcs _; rintro _ _ _ - ⟨rfl, rfl, rfl⟩)) | ((apply z_call; rfl; rfl; rfl; exact rChain_con h r _ (by omega) (by omega); rintro S5 _ _ hle5 ⟨rfl, rfl⟩)) | (apply s_evb; (case hg => rfl); (case hd => rfl); (case hn => rfl); (case he => ((apply ev_slice_b (i := pre.length + 1 + k) (j := pre.length + 1 + k + 32); (case hx => rfl); (case hy => exact congrArg (fun z => some (Value.int .i64 z)) (show (pre.length : Int) + 1 + (k : Nat) = ((pre.length + 1 + k : Nat) : Int) by omega)); (case hz => exact congrArg (fun z => some (Value.int .i64 z)) (show (pre.length : Int) + 1 + (k : Nat) + 32 = ((pre.length + 1 + k + 32 : Nat) : Int) by omega)); (case hj => exact ⟨by omega, by omega⟩))))) | (apply s_evb; (case hg => rfl); (case hd => rfl); (case hn => rfl); (case he => ((apply ev_neq_bs' (r := true); (case hx => rfl); (case hy => rfl); (case h => exact hne))))) | refine Jo ?_ | intro _))
        exact o_ret2 Tryz.results58 rfl rfl sbL (.inl ⟨hbad', hk1, rfl⟩)
      · obtain ⟨A, c, rfl⟩ := ho'.form
        cases tail with
        | nil =>
          have e1 : s.length = pre.length := by rw [hpre]; simp
          (repeat (first | refine Jc ?_ | (apply s_evb; (case hg => rfl); (case hd => rfl); (case hn => rfl); (case he => (apply ev_len_b; rfl))) | (apply s_evb; (case hg => rfl); (case hd => rfl); (case hn => rfl); (case he => (apply ev_nilCheck; rfl))) | refine Jo ?_ | intro _))
          exact q_cut ⟨hle', hok, _, ob, by rw [hdt]; exact ho', by rw [← hout], rfl⟩ sbF (List.Sublist.refl _)
        | cons x tl =>
          have e1 : pre.length < s.length := by rw [hpre]; simp
          have e2 : s[pre.length]? = some 0 := by rw [hpre, List.getElem?_append_right (Nat.le_refl _)]; simp [hok x rfl]
          (repeat (first | refine Jc ?_ | (apply s_evb; (case hg => rfl); (case hd => rfl); (case hn => rfl); (case he => (apply ev_len_b; rfl))) | (apply s_evb; (case hg => rfl); (case hd => rfl); (case hn => rfl); (case he => (apply ev_nilCheck; rfl))) | (apply s_evb; (case hg => rfl); (case hd => rfl); (case hn => rfl); (case he => ((apply ev_index_b (k := pre.length); (case hx => rfl); (case hi => rfl); (case hu => exact e2))))) | refine Jo ?_ | intro _))
          exact q_cut ⟨hle', hok, _, ob, by rw [hdt]; exact ho', by rw [← hout], rfl⟩ sbF (List.Sublist.refl _)
    | cons r t =>
      rw [group_cons] at hpre hg2
      have hrl := hsh r (by rw [hdt]; simp)
      have hcl := chain_len shaK h r.b
      have hpre2 : s = pre ++ (1 :: (stw r.b ++ (chain shaK h r.b ++ ((group shaK (chain shaK h r.b) t).1 ++ tail)))) := by rw [hpre, stored_def, stw_def]; simp
      have hslen : s.length = pre.length + (1 + ((stw r.b).length + (32 + ((group shaK (chain shaK h r.b) t).1 ++ tail).length))) := by rw [hpre2]; simp only [List.length_append, List.length_cons, hcl]; omega
      have e1 : pre.length < s.length := by omega
      have e2 : s[pre.length]? = some 1 := by rw [hpre2, List.getElem?_append_right (Nat.le_refl _)]; simp
      have e3 : s.drop (pre.length + 1) = stw r.b ++ (chain shaK h r.b ++ ((group shaK (chain shaK h r.b) t).1 ++ tail)) := by rw [hpre2, ← List.drop_drop]; simp
      have hsv : strgV s ((pre.length : Int) + 1) = .tuple #[strV r.b, .int .i64 ((pre.length : Int) + 1 + ((stw r.b).length : Nat)), .int .i64 0] := by
        unfold strgV
        rw [if_neg (by omega), show ((pre.length : Int) + 1).toNat = pre.length + 1 by omega, e3, decS_stw hrl]
      have hcs : ∀ S'', Con Tryz.prog 98 #[strV s, .int .i64 ((pre.length : Int) + 1)] S'' [] (X.Pure S'' (.tuple #[strV r.b, .int .i64 ((pre.length : Int) + 1 + ((stw r.b).length : Nat)), .int .i64 0])) := fun S'' => (rString_con s _ S'' (by omega)).eq hsv
      have hsub : (s.take (pre.length + 1 + (stw r.b).length + 32)).drop (pre.length + 1 + (stw r.b).length) = chain shaK h r.b := by
        rw [List.drop_take, ← List.drop_drop (i := (stw r.b).length) (j := pre.length + 1), e3, show pre.length + 1 + (stw r.b).length + 32 - (pre.length + 1 + (stw r.b).length) = 32 by omega, List.drop_left, ← hcl, List.take_left]
      obtain ⟨A, c, rfl⟩ := ho'.form
      have hdl : d.length < l.length := by rw [hdt]; simp
      (repeat (first | refine Jc ?_ | (apply s_evb; (case hg => rfl); (case hd => rfl); (case hn => rfl); (case he => (apply ev_len_b; rfl))) | (apply s_evb; (case hg => rfl); (case hd => rfl); (case hn => rfl); (case he => (apply ev_nilCheck; rfl))) | (apply s_evb; (case hg => rfl); (case hd => rfl); (case hn => rfl); (case he => ((apply ev_index_b (k := pre.length); (case hx => rfl); (case hi => rfl); (case hu => exact e2))))) | ((apply z_call; rfl; rfl; rfl; exact hcs _; rintro _ _ _ - ⟨rfl, rfl, rfl⟩)) | ((apply z_call; rfl; rfl; rfl; exact rChain_con h r.b _ (by omega) (by omega); rintro S5 _ _ hle5 ⟨rfl, rfl⟩)) | (apply s_evb; (case hg => rfl); (case hd => rfl); (case hn => rfl); (case he => ((apply ev_slice_b (i := pre.length + 1 + (stw r.b).length) (j := pre.length + 1 + (stw r.b).length + 32); (case hx => rfl); (case hy => exact congrArg (fun z => some (Value.int .i64 z)) (show (pre.length : Int) + 1 + ((stw r.b).length : Nat) = ((pre.length + 1 + (stw r.b).length : Nat) : Int) by omega)); (case hz => exact congrArg (fun z => some (Value.int .i64 z)) (show (pre.length : Int) + 1 + ((stw r.b).length : Nat) + 32 = ((pre.length + 1 + (stw r.b).length + 32 : Nat) : Int) by omega)); (case hj => exact ⟨by omega, by omega⟩))))) | (apply s_evb; (case hg => rfl); (case hd => rfl); (case hn => rfl); (case he => ((apply ev_neq_bs' (r := false); (case hx => rfl); (case hy => rfl); (case h => (rw [hsub]; simp)))))) | (apply s_append (ms := [(⟨r.b⟩ : Str)]); (case hg => rfl); (case hd => rfl); (case hx => rfl); (case ho => exact ho'); (case hL => (repeat (first | exact pm_nil _ | exact pm_refl _ _ | exact pm_self _ | apply pm_cons | apply pm_app))); (case hy => rfl); (case hm => rfl); (case hs => (apply Src.own; (repeat (first | exact List.Mem.head _ | apply List.Mem.tail | apply List.mem_append_right)))); (case hzs => rfl); (case h0 => decide); (case hb => (simp; omega)); (case h63 => (simp; omega)); intro v6 ob6 ho6; obtain ⟨A6, c6, rfl⟩ := ho6.form) | refine Jo ?_ | intro _))
      have hpl : ((pre ++ (1 :: (stw r.b ++ chain shaK h r.b))).length : Int) = (pre.length : Int) + 1 + ((stw r.b).length : Nat) + 32 := by simp only [List.length_append, List.length_cons, hcl]; omega
      refine q_back (L' := ob6 ++ ((bj, .cells [.pointer (some ⟨b, 0, none⟩), .slice A6 (d ++ [(⟨r.b⟩ : Str)]).length c6, .int .i64 ((pre.length : Int) + 1 + ((stw r.b).length : Nat) + 32), .bool false].toArray 43 (0, 0)) :: L1)) (m' := t.length) ⟨hle'.trans hle5, d ++ [r], t, pre ++ (1 :: (stw r.b ++ chain shaK h r.b)), chain shaK h r.b, _, ob6, rfl, by rw [hdt]; simp, by rw [hpre2]; simp, hg2, hcl, ho6, by rw [hpl], rfl⟩ (by simp) sbF sbL
  rintro S' L F ⟨hle', hok, rv, ob, ho', rfl, rfl⟩
  have hgl : (group shaK head0 l).1.length + tail.length = N := by rw [← hsN, hvis, List.length_append]
  obtain ⟨A, c, rfl⟩ := ho'.form
  have htd : s.drop (group shaK head0 l).1.length = tail := by rw [hvis, List.drop_left]
  have hK : OwK (.pointer (some ⟨bj, 0, none⟩)) (.pointer (some ⟨b, 0, none⟩)) l (group shaK head0 l).1.length false ((bj, .cells [.pointer (some ⟨b, 0, none⟩), .slice A l.length c, .int .i64 ((group shaK head0 l).1.length : Nat), .bool false].toArray 43 (0, 0)) :: ob) := ⟨bj, _, ob, rfl, rfl, ho'⟩
  refine W.perm (L' := L1 ++ ((bj, .cells [.pointer (some ⟨b, 0, none⟩), .slice A l.length c, .int .i64 ((group shaK head0 l).1.length : Nat), .bool false].toArray 43 (0, 0)) :: ob)) ?_ (pmc (fun p => by first | rfl | ((repeat rw [List.countP_append]); (repeat rw [List.countP_cons]); (repeat rw [List.countP_nil]); (all_goals (first | rfl | omega)))))
  have hmk : ∃ q, q = tail.length := ⟨_, rfl⟩
  obtain ⟨q, hq⟩ := hmk
  by_cases hz : tail = List.replicate tail.length 0
  · (repeat (first | refine Jc ?_ | (apply s_evb; (case hg => rfl); (case hd => rfl); (case hn => rfl); (case he => (apply ev_nilCheck; rfl))) | (apply s_make1 (m := q); (case hg => rfl); (case hd => rfl); (case hx => exact congrArg (fun z => some (Value.int .i64 z)) (show (N : Int) - ((group shaK head0 l).1.length : Nat) = (q : Int) by omega)); (case hy => exact congrArg (fun z => some (Value.int .i64 z)) (show (N : Int) - ((group shaK head0 l).1.length : Nat) = (q : Int) by omega)); (case hzc => rfl); (case hb => omega); (case h63 => omega); intro _) | (apply s_evb; (case hg => rfl); (case hd => rfl); (case hn => rfl); (case he => ((apply ev_str_own (B := List.replicate q 0); (case hx => rfl); (case hm => (rw [← cellsOf_zero]; exact List.Mem.head _)); (case hk => simp))))) | (apply s_evb; (case hg => rfl); (case hd => rfl); (case hn => rfl); (case he => ((apply ev_slice_bl (i := (group shaK head0 l).1.length); (case hx => rfl); (case hy => rfl); (case hj => omega))))) | (apply s_evb; (case hg => rfl); (case hd => rfl); (case hn => rfl); (case he => ((apply ev_neq_bs' (r := false); (case hx => rfl); (case hy => rfl); (case h => (rw [htd, hz]; simp [hq])))))) | refine Jo ?_ | intro _))
    exact o_ret2 Tryz.results58 rfl rfl (List.Sublist.cons _ (List.Sublist.refl _)) (.inr (.inl ⟨hok, hz, _, _, L1, rfl, hK, hk1, rfl⟩))
  have htk : (List.take q (List.drop 0 (List.replicate q (0 : UInt8)))) = List.replicate q 0 := by simp
  have hwr : ∀ S, Con Tryz.prog 17 #[.pointer (some ⟨b, 0, none⟩), .int .i64 ((group shaK head0 l).1.length : Nat), strV (List.take q (List.drop 0 (List.replicate q (0 : UInt8))))] S L1 (fun S' L' r => S' = S ∧ OwR (.pointer (some ⟨b, 0, none⟩)) (rwD R ((group shaK head0 l).1.length : Nat) (List.replicate q 0)) L' ∧ r = .int .i64 (rwE R ((group shaK head0 l).1.length : Nat) (List.replicate q 0))) := fun S => by
    rw [htk]; exact RWrite_con hk1 S _ _ (by unfold i64; omega) (by simp; omega) (by omega)
  (repeat (first | refine Jc ?_ | (apply s_evb; (case hg => rfl); (case hd => rfl); (case hn => rfl); (case he => (apply ev_nilCheck; rfl))) | (apply s_make1 (m := q); (case hg => rfl); (case hd => rfl); (case hx => exact congrArg (fun z => some (Value.int .i64 z)) (show (N : Int) - ((group shaK head0 l).1.length : Nat) = (q : Int) by omega)); (case hy => exact congrArg (fun z => some (Value.int .i64 z)) (show (N : Int) - ((group shaK head0 l).1.length : Nat) = (q : Int) by omega)); (case hzc => rfl); (case hb => omega); (case h63 => omega); intro _) | (apply s_evb; (case hg => rfl); (case hd => rfl); (case hn => rfl); (case he => ((apply ev_str_own (B := List.replicate q 0); (case hx => rfl); (case hm => (rw [← cellsOf_zero]; exact List.Mem.head _)); (case hk => simp))))) | (apply s_evb; (case hg => rfl); (case hd => rfl); (case hn => rfl); (case he => ((apply ev_slice_bl (i := (group shaK head0 l).1.length); (case hx => rfl); (case hy => rfl); (case hj => omega))))) | (apply s_evb; (case hg => rfl); (case hd => rfl); (case hn => rfl); (case he => ((apply ev_neq_bs' (r := true); (case hx => rfl); (case hy => rfl); (case h => (rw [htd, htk, bne_iff_ne, hq]; exact hz)))))) | refine Jo ?_ | intro _))
  refine W.weaken (L' := L1 ++ ((bj, .cells [.pointer (some ⟨b, 0, none⟩), .slice A l.length c, .int .i64 ((group shaK head0 l).1.length : Nat), .bool false].toArray 43 (0, 0)) :: ob)) ?_ (X.Sub.refl _) sbL
  have hlw : (rwD R ((group shaK head0 l).1.length : Nat) (List.replicate q 0)).l.length ≤ 2000000 := by
    unfold rwD
    split
    · simp only [List.length_append, List.length_cons, List.length_nil]; omega
    · omega
  by_cases he : rwE R ((group shaK head0 l).1.length : Nat) (List.replicate q 0) = 0
  · cases hd1 : (rwD R ((group shaK head0 l).1.length : Nat) (List.replicate q 0)).down
    · have hsy : ∀ {LR : Blocks} S, OwR (.pointer (some ⟨b, 0, none⟩)) (rwD R ((group shaK head0 l).1.length : Nat) (List.replicate q 0)) LR → Con Tryz.prog 53 #[.pointer (some ⟨b, 0, none⟩)] S LR (fun S' L' r => S' = S ∧ OwR (.pointer (some ⟨b, 0, none⟩)) (rsync (rwD R ((group shaK head0 l).1.length : Nat) (List.replicate q 0))) L' ∧ r = .int .i64 0) := fun S h => by
        have := RSync_con h hlw S
        rw [hd1] at this
        unfold rsync; rw [hd1]; exact this
      (repeat (first | refine Jc ?_ | (apply s_evb; (case hg => rfl); (case hd => rfl); (case hn => rfl); (case he => (apply ev_nilCheck; rfl))) | (apply s_call (L2 := (bj, .cells [.pointer (some ⟨b, 0, none⟩), .slice A l.length c, .int .i64 ((group shaK head0 l).1.length : Nat), .bool false].toArray 43 (0, 0)) :: ob); (case hg => rfl); (case hd => rfl); (case ha => rfl); (case hc => exact hwr _); (case hL => (exact pmc (fun p => by first | rfl | ((repeat rw [List.countP_append]); (repeat rw [List.countP_cons]); (repeat rw [List.countP_nil]); (all_goals (first | rfl | omega)))))); rintro S6 L6 v6 - ⟨rfl, hR6, rfl⟩) | (apply s_call (L2 := (bj, .cells [.pointer (some ⟨b, 0, none⟩), .slice A l.length c, .int .i64 ((group shaK head0 l).1.length : Nat), .bool false].toArray 43 (0, 0)) :: ob); (case hg => rfl); (case hd => rfl); (case ha => rfl); (case hc => exact hsy _ hR6); (case hL => (exact pmc (fun p => by first | rfl | ((repeat rw [List.countP_append]); (repeat rw [List.countP_cons]); (repeat rw [List.countP_nil]); (all_goals (first | rfl | omega)))))); rintro S7 L7 v7 - ⟨rfl, hR7, rfl⟩) | refine Jo ?_ | intro _))
      refine o_ret2 Tryz.results58 rfl rfl (List.Sublist.refl _) (.inr (.inr (.inl ⟨hok, hz, ?_, _, _, L7, rfl, hK, ?_, rfl⟩)))
      · rw [← hq, rfix, if_neg (fun h => h he)]; rw [hd1]; rfl
      · rw [← hq, rfix, if_neg (fun h => h he)]; exact hR7
    · have hsy : ∀ {LR : Blocks} S, OwR (.pointer (some ⟨b, 0, none⟩)) (rwD R ((group shaK head0 l).1.length : Nat) (List.replicate q 0)) LR → Con Tryz.prog 53 #[.pointer (some ⟨b, 0, none⟩)] S LR (fun S' L' r => S' = S ∧ OwR (.pointer (some ⟨b, 0, none⟩)) (rsync (rwD R ((group shaK head0 l).1.length : Nat) (List.replicate q 0))) L' ∧ r = .int .i64 321) := fun S h => by
        have := RSync_con h hlw S
        rw [hd1] at this
        unfold rsync; rw [hd1]; exact this
      (repeat (first | refine Jc ?_ | (apply s_evb; (case hg => rfl); (case hd => rfl); (case hn => rfl); (case he => (apply ev_nilCheck; rfl))) | (apply s_call (L2 := (bj, .cells [.pointer (some ⟨b, 0, none⟩), .slice A l.length c, .int .i64 ((group shaK head0 l).1.length : Nat), .bool false].toArray 43 (0, 0)) :: ob); (case hg => rfl); (case hd => rfl); (case ha => rfl); (case hc => exact hwr _); (case hL => (exact pmc (fun p => by first | rfl | ((repeat rw [List.countP_append]); (repeat rw [List.countP_cons]); (repeat rw [List.countP_nil]); (all_goals (first | rfl | omega)))))); rintro S6 L6 v6 - ⟨rfl, hR6, rfl⟩) | (apply s_call (L2 := (bj, .cells [.pointer (some ⟨b, 0, none⟩), .slice A l.length c, .int .i64 ((group shaK head0 l).1.length : Nat), .bool false].toArray 43 (0, 0)) :: ob); (case hg => rfl); (case hd => rfl); (case ha => rfl); (case hc => exact hsy _ hR6); (case hL => (exact pmc (fun p => by first | rfl | ((repeat rw [List.countP_append]); (repeat rw [List.countP_cons]); (repeat rw [List.countP_nil]); (all_goals (first | rfl | omega)))))); rintro S7 L7 v7 - ⟨rfl, hR7, rfl⟩) | refine Jo ?_ | intro _))
      refine o_ret2 Tryz.results58 rfl rfl (List.sublist_append_left _ _) (.inr (.inr (.inr ⟨hok, hz, ?_, ?_, ?_⟩)))
      · rw [← hq, rfix, if_neg (fun h => h he), hd1]; simp
      · rw [← hq, rfix, if_neg (fun h => h he)]; exact hR7
      · rw [← hq, rfix, if_neg (fun h => h he), hd1]; rfl
  · (repeat (first | refine Jc ?_ | (apply s_evb; (case hg => rfl); (case hd => rfl); (case hn => rfl); (case he => (apply ev_nilCheck; rfl))) | (apply s_call (L2 := (bj, .cells [.pointer (some ⟨b, 0, none⟩), .slice A l.length c, .int .i64 ((group shaK head0 l).1.length : Nat), .bool false].toArray 43 (0, 0)) :: ob); (case hg => rfl); (case hd => rfl); (case ha => rfl); (case hc => exact hwr _); (case hL => (exact pmc (fun p => by first | rfl | ((repeat rw [List.countP_append]); (repeat rw [List.countP_cons]); (repeat rw [List.countP_nil]); (all_goals (first | rfl | omega)))))); rintro S6 L6 v6 - ⟨rfl, hR6, rfl⟩) | refine Jo ?_ | intro _))
    refine o_ret2 Tryz.results58 rfl rfl (List.sublist_append_left _ _) (.inr (.inr (.inr ⟨hok, hz, ?_, ?_, ?_⟩)))
    · rw [← hq, rfix, if_pos he]; exact he
    · rw [← hq, rfix, if_pos he]; exact hR6
    · rw [← hq, rfix, if_pos he]
end Go.Proofs.YtnlfohlngapkfaaGreatDoor
namespace Go.Proofs.YtnlfohlngapkfaaGreatDoor
open Go Go.X
set_option maxRecDepth 10000
set_option linter.unusedVariables false
attribute [local irreducible] Code.wpIn wpListIn Exit.then Exit.inBlock X.Out X.Back X.W X.Ev X.Con X.BinV X.Wh X.Wn X.Wq
attribute [local irreducible] sumK chain stw group stored
/-- The reference's head of a list of records. -/
theorem rHead_con (l : List Str) (A : Option Addr) (c : Nat) (S : SH) (hA : At S A l) (hl : l.length ≤ 1000000) (hb : Short l) :
    Con Tryz.prog 51 #[.slice A l.length c] S [] (fun S' L' v => L' = [] ∧ v = strV (group shaK head0 l).2) := by
  refine con_of (args := [.slice A l.length c]) Tryz.func51 rfl Tryz.ntmps51 rfl fun w => ?_
  (repeat (first | refine Jc ?_ | (apply s_make1 (m := 32); (case hg => rfl); (case hd => rfl); (case hx => rfl); (case hy => rfl); (case hzc => rfl); (case hb => omega); (case h63 => omega); intro _) | (apply s_evb; (case hg => rfl); (case hd => rfl); (case hn => rfl); (case he => ((apply ev_str_own (B := head0); (case hx => rfl); (case hm => exact List.Mem.head _); (case hk => exact Nat.le_refl _))))) | refine Jo ?_ | intro _))
  refine c_loop (fun m S' L F => Le S S' ∧ L = [] ∧ ∃ (k : Nat) (d t : List Str) (h : Bs), m = t.length ∧ k = d.length ∧ l = d ++ t ∧ (group shaK head0 l).2 = (group shaK h t).2 ∧ h.length = 32 ∧ F = [(0, .slice A l.length c), (3, strV h), (4, .int .i64 k)]) ⟨Le.refl _, rfl, 0, [], l, head0, rfl, rfl, rfl, rfl, (by unfold head0; simp), rfl⟩ sbF (List.nil_sublist _) ?_
  rintro m S4 L F ⟨hle4, rfl, k, d, t, h, rfl, hk, hdt, hg, hh, rfl⟩
  cases t with
  | nil =>
    have hkl : k = l.length := by rw [hdt]; simp [hk]
    (repeat (first | refine Jz ?_ | intro _))
    exact o_ret Tryz.results51 rfl (List.nil_sublist _) ⟨rfl, by rw [hg, group_nil]⟩
  | cons r t =>
    have hkl : k < l.length := by rw [hdt]; simp [hk]
    have hx : l[k]? = some r := by rw [hdt, hk, List.getElem?_append_right (Nat.le_refl _), Nat.sub_self]; rfl
    have hr := hb r (by rw [hdt]; simp)
    rw [group_cons] at hg
    (repeat (first | refine Jc ?_ | (apply s_idx (hA.le hle4); (case hg => rfl); (case hd => rfl); (case hx => rfl); (case hi => rfl); (case hm => rfl); (case hu => exact hx); intro q (hq : Pts _ q [strV r.b])) | (apply s_load1; (case hg => rfl); (case hd => rfl); (case hx => rfl); (case hv => exact hq)) | ((apply z_call; rfl; rfl; rfl; exact rChain_con h r.b _ (by omega) (by omega); rintro S5 _ _ hle5 ⟨rfl, rfl⟩)) | refine Jo ?_ | intro _))
    exact q_back (L' := []) (m' := t.length) ⟨hle4.trans hle5, rfl, k + 1, d ++ [r], t, chain shaK h r.b, rfl, by simp [hk], by rw [hdt]; simp, hg, chain_len _ _ _, rfl⟩ (by simp) sbF (List.nil_sublist _)
/-- The reference's journal whose list is stable. -/
def OwKs (v dv : Value) (S : SH) (l : List Str) (e : Nat) (br : Bool) (L : Blocks) : Prop :=
  ∃ b A c, v = .pointer (some ⟨b, 0, none⟩) ∧ L = [(b, .cells [dv, .slice A l.length c, .int .i64 (e : Nat), .bool br].toArray 43 (0, 0))] ∧ l.length ≤ c ∧ At S A l
theorem OwKs.le {v dv : Value} {S T : SH} {l : List Str} {e : Nat} {br : Bool} {L : Blocks} (hle : Le S T) (h : OwKs v dv S l e br L) : OwKs v dv T l e br L := by
  obtain ⟨b, A, c, h1, h2, h3, h4⟩ := h
  exact ⟨b, A, c, h1, h2, h3, h4.le hle⟩
end Go.Proofs.YtnlfohlngapkfaaGreatDoor
namespace Go.Proofs.YtnlfohlngapkfaaGreatDoor
open Go Go.X
set_option maxRecDepth 10000
set_option linter.unusedVariables false
attribute [local irreducible] Code.wpIn wpListIn Exit.then Exit.inBlock X.Out X.Back X.W X.Ev X.Con X.BinV X.Wh X.Wn X.Wq
attribute [local irreducible] sumK chain stw group stored
theorem rRoom_con {v dv : Value} {R : Rf} {l : List Str} {e : Nat} {br : Bool} {LK LD : Blocks} {S : SH} (hK : OwKs v dv S l e br LK) (hR : OwR dv R LD) (he : e ≤ 1000000) :
    Con Tryz.prog 22 #[v] S (LK ++ LD) (fun S' L' r => S' = S ∧ ∃ LD', L' = LK ++ LD' ∧ OwR dv R LD' ∧ r = .int .i64 ((R.sure.length : Int) - e)) := by
  obtain ⟨bk, A, c, rfl, rfl, hc, hA⟩ := hK
  obtain ⟨b, g, N, cap, tl, pv, ob, rfl, hp, ho, hw, hc1, hc2, hc3⟩ := hR
  have hk : OwR (.pointer (some ⟨b, 0, none⟩)) R (rfB b g N cap tl pv ob R) := ⟨b, g, N, cap, tl, pv, ob, rfl, List.Perm.refl _, ho, hw, hc1, hc2, hc3⟩
  have hN := hw.sure
  have hmx := hw.max
  refine con_of (args := [.pointer (some ⟨bk, 0, none⟩)]) Tryz.func22 rfl Tryz.ntmps22 rfl fun w => W.perm ?_ (List.Perm.append_left _ hp)
  unfold rfB at hk ⊢
  rw [hN]
  (repeat (first | refine Jz ?_ | intro _))
  ((apply c_held ([(bk, .cells [.pointer (some ⟨b, 0, none⟩), .slice A l.length c, .int .i64 (e : Nat), .bool br].toArray 43 (0, 0)), (b, .cells [.slice (some ⟨g, 0, none⟩) N cap, pv, .bool R.down, .int .i64 R.left].toArray 67 (0, 0))]); (case hL => (exact sbT))); refine Jf 0 ?_; (apply h_first 1; (case hi => rfl); (case hr => kernel_rfl); (case hfr => kernel_rfl); (case hsel => kernel_rfl); (case hg => rfl); (case hd => rfl); (case he => (apply ev_nilCheck; rfl))); refine Jf 2 ?_; refine Jf 3 ?_; (apply h_first 4; (case hi => rfl); (case hr => kernel_rfl); (case hfr => kernel_rfl); (case hsel => kernel_rfl); (case hg => rfl); (case hd => rfl); (case he => (apply ev_nilCheck; rfl))); refine Jf 5 ?_; refine Jf 6 ?_; refine Jf 7 ?_; refine Jf 8 ?_; (apply h_first 9; (case hi => rfl); (case hr => kernel_rfl); (case hfr => kernel_rfl); (case hsel => kernel_rfl); (case hg => rfl); (case hd => rfl); (case he => (apply ev_nilCheck; rfl))); refine Jf 10 ?_; refine Jf 11 ?_; refine Jf 12 ?_; refine Jf 13 ?_; (apply h_end; (case hr => kernel_rfl)))
  (repeat (first | refine Jz ?_ | intro _))
  exact o_ret Tryz.results22 rfl (List.Sublist.refl _) ⟨rfl, _, rfl, hk, rfl⟩
theorem rSync_t {v : Value} {R : Rf} {L : Blocks} (h : OwR v R L) (hll : R.l.length ≤ 2000000) (S : SH) (hd : R.down = true) : Con Tryz.prog 53 #[v] S L (fun S' L' r => S' = S ∧ OwR v R L' ∧ r = .int .i64 321) := by
  have := RSync_con h hll S
  simpa [hd] using this
theorem rSync_f {v : Value} {R : Rf} {L : Blocks} (h : OwR v R L) (hll : R.l.length ≤ 2000000) (S : SH) (hd : R.down = false) : Con Tryz.prog 53 #[v] S L (fun S' L' r => S' = S ∧ OwR v (rsync R) L' ∧ r = .int .i64 0) := by
  have := RSync_con h hll S
  unfold rsync
  simpa [hd] using this
/-- What appending a group does to the reference's disk: the disk, and the error. -/
def rapp (R : Rf) (size : Nat) (out : Bs) : Rf × Int :=
  if rwE R ((size : Nat) + 1 : Int) (out.drop 1) ≠ 0 then (rwD R ((size : Nat) + 1 : Int) (out.drop 1), rwE R ((size : Nat) + 1 : Int) (out.drop 1))
  else if (rwD R ((size : Nat) + 1 : Int) (out.drop 1)).down then (rwD R ((size : Nat) + 1 : Int) (out.drop 1), 321)
  else if rwE (rsync (rwD R ((size : Nat) + 1 : Int) (out.drop 1))) (size : Nat) (out.take 1) ≠ 0 then (rwD (rsync (rwD R ((size : Nat) + 1 : Int) (out.drop 1))) (size : Nat) (out.take 1), rwE (rsync (rwD R ((size : Nat) + 1 : Int) (out.drop 1))) (size : Nat) (out.take 1))
  else if (rwD (rsync (rwD R ((size : Nat) + 1 : Int) (out.drop 1))) (size : Nat) (out.take 1)).down then (rwD (rsync (rwD R ((size : Nat) + 1 : Int) (out.drop 1))) (size : Nat) (out.take 1), 321)
  else (rsync (rwD (rsync (rwD R ((size : Nat) + 1 : Int) (out.drop 1))) (size : Nat) (out.take 1)), 0)
set_option maxHeartbeats 3200000 in
/-- The first part of the reference's Append: how the group is stored. -/
theorem rAppend_con {v dv : Value} {R : Rf} {a : List Str} {e : Nat} {br : Bool} {LK LD : Blocks} {S : SH} (hK : OwKs v dv S a e br LK) (hR : OwR dv R LD) (he : e = (group shaK head0 a).1.length) (he2 : e ≤ 1000000) (hll : R.l.length ≤ 100000) (hN : R.sure.length ≤ 1000000) (l : List Str) (B : Option Addr) (cB : Nat) (hB : At S B l) (hl : l.length ≤ 1000) (hal : a.length ≤ 1000000) (hsa : Short a) (hsl : Short l) :
    Con Tryz.prog 13 #[v, .slice B l.length cB] S (LK ++ LD) (fun S' L' r => ∃ LK' LD', L' = LK' ++ LD' ∧
      ((br = true ∧ OwKs v dv S' a e br LK' ∧ OwR dv R LD' ∧ r = .int .i64 330) ∨
       (br = false ∧ R.sure.length < e + (group shaK (group shaK head0 a).2 l).1.length ∧ OwKs v dv S' a e br LK' ∧ OwR dv R LD' ∧ r = .int .i64 331) ∨
       (br = false ∧ l = [] ∧ e ≤ R.sure.length ∧ OwKs v dv S' a e br LK' ∧ OwR dv R LD' ∧ r = .int .i64 0) ∨
       (br = false ∧ l ≠ [] ∧ e + (group shaK (group shaK head0 a).2 l).1.length ≤ R.sure.length ∧ (rapp R e (group shaK (group shaK head0 a).2 l).1).2 ≠ 0 ∧ OwKs v dv S' a e true LK' ∧ OwR dv (rapp R e (group shaK (group shaK head0 a).2 l).1).1 LD' ∧ r = .int .i64 (rapp R e (group shaK (group shaK head0 a).2 l).1).2) ∨
       (br = false ∧ l ≠ [] ∧ e + (group shaK (group shaK head0 a).2 l).1.length ≤ R.sure.length ∧ (rapp R e (group shaK (group shaK head0 a).2 l).1).2 = 0 ∧ OwKs v dv S' (a ++ l) (e + (group shaK (group shaK head0 a).2 l).1.length) false LK' ∧ OwR dv (rapp R e (group shaK (group shaK head0 a).2 l).1).1 LD' ∧ r = .int .i64 0))) := by
  obtain ⟨bk, A, c, rfl, rfl, hc, hA⟩ := hK
  refine con_of (args := [.pointer (some ⟨bk, 0, none⟩), .slice B l.length cB]) Tryz.func13 rfl Tryz.ntmps13 rfl fun w => ?_
  cases br
  rotate_left
  · (repeat (first | refine Jc ?_ | (apply s_evb; (case hg => rfl); (case hd => rfl); (case hn => rfl); (case he => (apply ev_nilCheck; rfl))) | refine Jo ?_ | intro _))
    exact o_ret Tryz.results13 rfl (List.Sublist.refl _) ⟨_, _, rfl, .inl ⟨rfl, ⟨bk, A, c, rfl, rfl, hc, hA⟩, hR, rfl⟩⟩
  (repeat (first | refine Jc ?_ | (apply s_evb; (case hg => rfl); (case hd => rfl); (case hn => rfl); (case he => (apply ev_nilCheck; rfl))) | ((apply z_call; rfl; rfl; rfl; exact rHead_con a A c _ hA hal hsa; rintro S2 _ _ hle2 ⟨rfl, rfl⟩)) | refine Jo ?_ | intro _))
  obtain ⟨h0, hh0⟩ : ∃ h0, h0 = (group shaK head0 a).2 := ⟨_, rfl⟩
  rw [← hh0]
  have hh32 : h0.length = 32 := by rw [hh0]; exact group_head (by unfold head0; simp) a
  refine c_meetB (fun S' L F => Le S S' ∧ L = [(bk, .cells [dv, .slice A a.length c, .int .i64 (e : Nat), .bool false].toArray 43 (0, 0))] ++ LD ∧ F = [(0, .pointer (some ⟨bk, 0, none⟩)), (1, .slice B l.length cB), (5, strV (group shaK h0 l).1)]) ?_ ?_
  · refine c_loop (fun m S' L F => Le S S' ∧ L = [(bk, .cells [dv, .slice A a.length c, .int .i64 (e : Nat), .bool false].toArray 43 (0, 0))] ++ LD ∧ ∃ k : Nat, m = l.length - k ∧ k ≤ l.length ∧ F = [(0, .pointer (some ⟨bk, 0, none⟩)), (1, .slice B l.length cB), (5, strV (group shaK h0 (l.take k)).1), (6, strV (group shaK h0 (l.take k)).2), (7, .int .i64 k)]) ⟨hle2, rfl, 0, rfl, Nat.zero_le _, by rw [List.take_zero, group_nil]⟩ sbF sbL ?_
    rintro m S4 L F ⟨hle4, rfl, k, rfl, hk, rfl⟩
    by_cases hlt : k < l.length
    rotate_left
    · obtain rfl : k = l.length := by omega
      rw [List.take_of_length_le (Nat.le_refl _)]
      (repeat (first | refine Jz ?_ | intro _))
      exact q_cut ⟨hle4, rfl, rfl⟩ sbF (List.Sublist.refl _)
    obtain ⟨r, hx⟩ : ∃ r, l[k]? = some r := ⟨_, List.getElem?_eq_getElem hlt⟩
    have hr := hsl r (List.mem_of_getElem? hx)
    have hg := group_take (K := shaK) (h := h0) hx
    have hgl := grp_len (K := shaK) (h := h0) (l := l.take k) (fun x hx => hsl x (List.mem_of_mem_take hx))
    have hgh := group_head (K := shaK) hh32 (l.take k)
    rw [List.length_take, Nat.min_eq_left hk] at hgl
    obtain ⟨⟨o, h⟩, hoh⟩ : ∃ x, x = group shaK h0 (l.take k) := ⟨_, rfl⟩
    rw [← hoh] at hg hgl hgh ⊢
    simp only at hgl hgh ⊢
    have hsl2 : (stored shaK h r.b).length ≤ 70000 := by
      have hw : wOk (r.b.length : Int) := by unfold wOk; omega
      have := ibs_len hw
      rw [stored_leq, stw_leq]; omega
    (repeat (first | refine Jc ?_ | (apply s_idx (hB.le hle4); (case hg => rfl); (case hd => rfl); (case hx => rfl); (case hi => rfl); (case hm => rfl); (case hu => exact hx); intro q (hq : Pts _ q [strV r.b])) | (apply s_load1; (case hg => rfl); (case hd => rfl); (case hx => rfl); (case hv => exact hq)) | (apply s_evb; (case hg => rfl); (case hd => rfl); (case hn => rfl); (case he => (apply ev_len_b; rfl))) | ((apply z_call; rfl; rfl; rfl; exact rStored_con h r.b _ (by omega) hr; rintro S5 _ _ hle5 ⟨rfl, rfl⟩)) | (apply s_evb; (case hg => rfl); (case hd => rfl); (case hn => rfl); (case he => ((apply ev_add_bs; (case hx => rfl); (case hy => rfl); (case h => omega))))) | refine Jo ?_ | intro _))
    refine q_back (L' := [(bk, .cells [dv, .slice A a.length c, .int .i64 (e : Nat), .bool false].toArray 43 (0, 0))] ++ LD) (m' := l.length - (k + 1)) ⟨hle4.trans hle5, rfl, k + 1, rfl, by omega, rfl⟩ (by omega) ?_ sbL
    rw [hg]
    exact sbF
  rintro S4 L F ⟨hle4, rfl, rfl⟩
  have hgl := grp_len (K := shaK) (h := h0) (l := l) hsl
  have hgn := grp_nil (K := shaK) (h := h0) (l := l) hsl
  obtain ⟨o, ho⟩ : ∃ o, o = (group shaK h0 l).1 := ⟨_, rfl⟩
  rw [← ho] at hgl hgn ⊢
  have hKs : OwKs (.pointer (some ⟨bk, 0, none⟩)) dv S4 a e false [(bk, .cells [dv, .slice A a.length c, .int .i64 (e : Nat), .bool false].toArray 43 (0, 0))] := ⟨bk, A, c, rfl, rfl, hc, hA.le hle4⟩
  by_cases hfit : R.sure.length < e + o.length
  · (repeat (first | refine Jc ?_ | (apply s_evb; (case hg => rfl); (case hd => rfl); (case hn => rfl); (case he => (apply ev_len_b; rfl))) | (apply s_call (L2 := []); (case hg => rfl); (case hd => rfl); (case ha => rfl); (case hc => exact rRoom_con hKs hR he2); (case hL => (exact pmc (fun p => by first | rfl | ((repeat rw [List.countP_append]); (repeat rw [List.countP_cons]); (repeat rw [List.countP_nil]); (all_goals (first | rfl | omega)))))); rintro S5 L5 v5 - ⟨rfl, LD5, rfl, hR5, rfl⟩) | refine Jo ?_ | intro _))
    exact o_ret Tryz.results13 rfl (List.sublist_append_left _ _) ⟨_, _, rfl, .inr (.inl ⟨rfl, hfit, hKs, hR5, rfl⟩)⟩
  by_cases hnil : l = []
  · have ho0 : o = [] := hgn.2 hnil
    subst ho0
    (repeat (first | refine Jc ?_ | (apply s_evb; (case hg => rfl); (case hd => rfl); (case hn => rfl); (case he => (apply ev_len_b; rfl))) | (apply s_call (L2 := []); (case hg => rfl); (case hd => rfl); (case ha => rfl); (case hc => exact rRoom_con hKs hR he2); (case hL => (exact pmc (fun p => by first | rfl | ((repeat rw [List.countP_append]); (repeat rw [List.countP_cons]); (repeat rw [List.countP_nil]); (all_goals (first | rfl | omega)))))); rintro S5 L5 v5 - ⟨rfl, LD5, rfl, hR5, rfl⟩) | (apply s_evb; (case hg => rfl); (case hd => rfl); (case hn => rfl); (case he => ((apply ev_eql_bs' (r := true) (a := []) (b := []); (case hx => rfl); (case hy => rfl); (case h => rfl))))) | refine Jo ?_ | intro _))
    exact o_ret Tryz.results13 rfl (List.sublist_append_left _ _) ⟨_, _, rfl, .inr (.inr (.inl ⟨rfl, hnil, by simp at hfit; omega, hKs, hR5, rfl⟩))⟩
  have hne : o ≠ [] := fun h => hnil (hgn.1 h)
  have hnb : (o == ([] : Bs)) = false := by rw [beq_eq_false_iff_ne]; exact hne
  have hopos : 1 ≤ o.length := by cases o; exact absurd rfl hne; simp
  (repeat (first | refine Jc ?_ | (apply s_evb; (case hg => rfl); (case hd => rfl); (case hn => rfl); (case he => (apply ev_len_b; rfl))) | (apply s_call (L2 := []); (case hg => rfl); (case hd => rfl); (case ha => rfl); (case hc => exact rRoom_con hKs hR he2); (case hL => (exact pmc (fun p => by first | rfl | ((repeat rw [List.countP_append]); (repeat rw [List.countP_cons]); (repeat rw [List.countP_nil]); (all_goals (first | rfl | omega)))))); rintro S5 L5 v5 - ⟨rfl, LD5, rfl, hR5, rfl⟩) | (apply s_evb; (case hg => rfl); (case hd => rfl); (case hn => rfl); (case he => ((apply ev_eql_bs' (r := false) (a := o) (b := []); (case hx => rfl); (case hy => rfl); (case h => exact hnb))))) | refine Jo ?_ | intro _))
  have hw1 := RWrite_con hR5 S5 ((e : Nat) + 1 : Int) (o.drop 1) (by unfold i64; omega) (by simp; omega) (by omega)
  have hl1 : (rwD R ((e : Nat) + 1 : Int) (o.drop 1)).l.length ≤ 100001 := by
    unfold rwD
    split
    · simp only [List.length_append, List.length_cons, List.length_nil]; omega
    · omega
  obtain ⟨pr, hpr⟩ : ∃ pr, pr = rapp R e o := ⟨_, rfl⟩
  rw [← hpr]
  unfold rapp at hpr
  generalize hR1 : rwD R ((e : Nat) + 1 : Int) (o.drop 1) = R1 at *
  generalize hE1 : rwE R ((e : Nat) + 1 : Int) (o.drop 1) = E1 at *
  ((apply c_held ([(bk, .cells [dv, .slice A a.length c, .int .i64 (e : Nat), .bool false].toArray 43 (0, 0))]); (case hL => (exact sbT))); refine Jf 0 ?_; (apply h_first 1; (case hi => rfl); (case hr => kernel_rfl); (case hfr => kernel_rfl); (case hsel => kernel_rfl); (case hg => rfl); (case hd => rfl); (case he => (apply ev_nilCheck; rfl))); refine Jf 2 ?_; refine Jf 3 ?_; refine Jf 4 ?_; (apply h_first 5; (case hi => rfl); (case hr => kernel_rfl); (case hfr => kernel_rfl); (case hsel => kernel_rfl); (case hg => rfl); (case hd => rfl); (case he => (apply ev_nilCheck; rfl))); refine Jf 6 ?_; refine Jf 7 ?_; refine Jf 8 ?_; refine Jf 9 ?_; (apply h_first 10; (case hi => rfl); (case hr => kernel_rfl); (case hfr => kernel_rfl); (case hsel => kernel_rfl); (case hg => rfl); (case hd => rfl); (case he => (apply ev_slice_bl (i := 1); (case hx => rfl); (case hy => rfl); (case hj => omega)))); (apply h_one 11; (case hr => kernel_rfl)); (apply n_call; (case hi => rfl); (case i1 => infer_instance); (case hg => rfl); (case hd => rfl); (case ha => rfl); (case hc => exact hw1); (case hL => (repeat (first | exact pm_nil _ | exact pm_refl _ _ | exact pm_self _ | apply pm_cons | apply pm_app))); (case hsub => (intros; (exact sbT))); rintro S6 L6 v6 - ⟨rfl, hR6, rfl⟩); refine Jf 12 ?_; (apply h_end; (case hr => kernel_rfl)))
  refine W.perm (L' := [(bk, .cells [dv, .slice A a.length c, .int .i64 (e : Nat), .bool false].toArray 43 (0, 0))] ++ L6) ?_ (pmc (fun p => by first | rfl | ((repeat rw [List.countP_append]); (repeat rw [List.countP_cons]); (repeat rw [List.countP_nil]); (all_goals (first | rfl | omega)))))
  by_cases he1 : E1 = 0
  rotate_left
  · rw [if_pos he1] at hpr
    (repeat (first | refine Jc ?_ | (apply s_evb; (case hg => rfl); (case hd => rfl); (case hn => rfl); (case he => (apply ev_nilCheck; rfl))) | refine Jo ?_ | intro _))
    exact o_ret Tryz.results13 rfl (List.Sublist.refl _) ⟨[(bk, .cells [dv, .slice A a.length c, .int .i64 (e : Nat), .bool true].toArray 43 (0, 0))], _, rfl, .inr (.inr (.inr (.inl ⟨rfl, hnil, by omega, by rw [hpr]; exact he1, ⟨bk, A, c, rfl, rfl, hc, hA.le (by repeat (first | exact Le.refl _ | assumption | refine Le.trans ?_ (by assumption)))⟩, by rw [hpr]; exact hR6, by rw [hpr]⟩)))⟩
  rw [if_neg (fun h => h he1)] at hpr
  cases hd1 : R1.down
  rotate_left
  · rw [if_pos hd1] at hpr
    (repeat (first | refine Jc ?_ | (apply s_evb; (case hg => rfl); (case hd => rfl); (case hn => rfl); (case he => (apply ev_nilCheck; rfl))) | (apply s_call (L2 := [(bk, .cells [dv, .slice A a.length c, .int .i64 (e : Nat), .bool false].toArray 43 (0, 0))]); (case hg => rfl); (case hd => rfl); (case ha => rfl); (case hc => exact rSync_t hR6 (by omega) S6 hd1); (case hL => (exact pmc (fun p => by first | rfl | ((repeat rw [List.countP_append]); (repeat rw [List.countP_cons]); (repeat rw [List.countP_nil]); (all_goals (first | rfl | omega)))))); rintro S7 L7 v7 - ⟨rfl, hR7, rfl⟩; refine W.perm (L' := [(bk, .cells [dv, .slice A a.length c, .int .i64 (e : Nat), .bool false].toArray 43 (0, 0))] ++ L7) ?_ (pmc (fun p => by first | rfl | ((repeat rw [List.countP_append]); (repeat rw [List.countP_cons]); (repeat rw [List.countP_nil]); (all_goals (first | rfl | omega)))))) | refine Jo ?_ | intro _))
    exact o_ret Tryz.results13 rfl (List.Sublist.refl _) ⟨[(bk, .cells [dv, .slice A a.length c, .int .i64 (e : Nat), .bool true].toArray 43 (0, 0))], _, rfl, .inr (.inr (.inr (.inl ⟨rfl, hnil, by omega, by rw [hpr]; exact (by decide : (321 : Int) ≠ 0), ⟨bk, A, c, rfl, rfl, hc, hA.le (by repeat (first | exact Le.refl _ | assumption | refine Le.trans ?_ (by assumption)))⟩, by rw [hpr]; exact hR7, by rw [hpr]⟩)))⟩
  rw [if_neg (by rw [hd1]; decide)] at hpr
  (repeat (first | refine Jc ?_ | (apply s_evb; (case hg => rfl); (case hd => rfl); (case hn => rfl); (case he => (apply ev_nilCheck; rfl))) | (apply s_call (L2 := [(bk, .cells [dv, .slice A a.length c, .int .i64 (e : Nat), .bool false].toArray 43 (0, 0))]); (case hg => rfl); (case hd => rfl); (case ha => rfl); (case hc => exact rSync_f hR6 (by omega) S6 hd1); (case hL => (exact pmc (fun p => by first | rfl | ((repeat rw [List.countP_append]); (repeat rw [List.countP_cons]); (repeat rw [List.countP_nil]); (all_goals (first | rfl | omega)))))); rintro S7 L7 v7 - ⟨rfl, hR7, rfl⟩; refine W.perm (L' := [(bk, .cells [dv, .slice A a.length c, .int .i64 (e : Nat), .bool false].toArray 43 (0, 0))] ++ L7) ?_ (pmc (fun p => by first | rfl | ((repeat rw [List.countP_append]); (repeat rw [List.countP_cons]); (repeat rw [List.countP_nil]); (all_goals (first | rfl | omega)))))) | refine Jo ?_ | intro _))
  have hrl : (rsync R1).l = [] := by unfold rsync; rw [hd1]; rfl
  have hw2 := RWrite_con hR7 S7 (e : Nat) (o.take 1) (by unfold i64; omega) (by simp; omega) (by rw [hrl]; exact Nat.zero_le _)
  have hl3 : (rwD (rsync R1) (e : Nat) (o.take 1)).l.length ≤ 1 := by
    unfold rwD
    split
    · rw [hrl]; exact Nat.le_refl _
    · rw [hrl]; exact Nat.zero_le _
  generalize hR3 : rwD (rsync R1) (e : Nat) (o.take 1) = R3 at *
  generalize hE3 : rwE (rsync R1) (e : Nat) (o.take 1) = E3 at *
  ((apply c_held ([(bk, .cells [dv, .slice A a.length c, .int .i64 (e : Nat), .bool false].toArray 43 (0, 0))]); (case hL => (exact sbT))); refine Jf 0 ?_; (apply h_first 1; (case hi => rfl); (case hr => kernel_rfl); (case hfr => kernel_rfl); (case hsel => kernel_rfl); (case hg => rfl); (case hd => rfl); (case he => (apply ev_nilCheck; rfl))); refine Jf 2 ?_; refine Jf 3 ?_; refine Jf 4 ?_; (apply h_first 5; (case hi => rfl); (case hr => kernel_rfl); (case hfr => kernel_rfl); (case hsel => kernel_rfl); (case hg => rfl); (case hd => rfl); (case he => (apply ev_nilCheck; rfl))); refine Jf 6 ?_; refine Jf 7 ?_; refine Jf 8 ?_; (apply h_first 9; (case hi => rfl); (case hr => kernel_rfl); (case hfr => kernel_rfl); (case hsel => kernel_rfl); (case hg => rfl); (case hd => rfl); (case he => (apply ev_slice_bh (j := 1); (case hx => rfl); (case hz => rfl); (case hj => omega)))); (apply h_one 10; (case hr => kernel_rfl)); (apply n_call; (case hi => rfl); (case i1 => infer_instance); (case hg => rfl); (case hd => rfl); (case ha => rfl); (case hc => exact hw2); (case hL => (repeat (first | exact pm_nil _ | exact pm_refl _ _ | exact pm_self _ | apply pm_cons | apply pm_app))); (case hsub => (intros; (exact sbT))); rintro S8 L8 v8 - ⟨rfl, hR8, rfl⟩); refine Jf 11 ?_; (apply h_end; (case hr => kernel_rfl)))
  refine W.perm (L' := [(bk, .cells [dv, .slice A a.length c, .int .i64 (e : Nat), .bool false].toArray 43 (0, 0))] ++ L8) ?_ (pmc (fun p => by first | rfl | ((repeat rw [List.countP_append]); (repeat rw [List.countP_cons]); (repeat rw [List.countP_nil]); (all_goals (first | rfl | omega)))))
  by_cases he3 : E3 = 0
  rotate_left
  · rw [if_pos he3] at hpr
    (repeat (first | refine Jc ?_ | (apply s_evb; (case hg => rfl); (case hd => rfl); (case hn => rfl); (case he => (apply ev_nilCheck; rfl))) | refine Jo ?_ | intro _))
    exact o_ret Tryz.results13 rfl (List.Sublist.refl _) ⟨[(bk, .cells [dv, .slice A a.length c, .int .i64 (e : Nat), .bool true].toArray 43 (0, 0))], _, rfl, .inr (.inr (.inr (.inl ⟨rfl, hnil, by omega, by rw [hpr]; exact he3, ⟨bk, A, c, rfl, rfl, hc, hA.le (by repeat (first | exact Le.refl _ | assumption | refine Le.trans ?_ (by assumption)))⟩, by rw [hpr]; exact hR8, by rw [hpr]⟩)))⟩
  rw [if_neg (fun h => h he3)] at hpr
  cases hd3 : R3.down
  rotate_left
  · rw [if_pos hd3] at hpr
    (repeat (first | refine Jc ?_ | (apply s_evb; (case hg => rfl); (case hd => rfl); (case hn => rfl); (case he => (apply ev_nilCheck; rfl))) | (apply s_call (L2 := [(bk, .cells [dv, .slice A a.length c, .int .i64 (e : Nat), .bool false].toArray 43 (0, 0))]); (case hg => rfl); (case hd => rfl); (case ha => rfl); (case hc => exact rSync_t hR8 (by omega) S8 hd3); (case hL => (exact pmc (fun p => by first | rfl | ((repeat rw [List.countP_append]); (repeat rw [List.countP_cons]); (repeat rw [List.countP_nil]); (all_goals (first | rfl | omega)))))); rintro S9 L9 v9 - ⟨rfl, hR9, rfl⟩; refine W.perm (L' := [(bk, .cells [dv, .slice A a.length c, .int .i64 (e : Nat), .bool false].toArray 43 (0, 0))] ++ L9) ?_ (pmc (fun p => by first | rfl | ((repeat rw [List.countP_append]); (repeat rw [List.countP_cons]); (repeat rw [List.countP_nil]); (all_goals (first | rfl | omega)))))) | refine Jo ?_ | intro _))
    exact o_ret Tryz.results13 rfl (List.Sublist.refl _) ⟨[(bk, .cells [dv, .slice A a.length c, .int .i64 (e : Nat), .bool true].toArray 43 (0, 0))], _, rfl, .inr (.inr (.inr (.inl ⟨rfl, hnil, by omega, by rw [hpr]; exact (by decide : (321 : Int) ≠ 0), ⟨bk, A, c, rfl, rfl, hc, hA.le (by repeat (first | exact Le.refl _ | assumption | refine Le.trans ?_ (by assumption)))⟩, by rw [hpr]; exact hR9, by rw [hpr]⟩)))⟩
  rw [if_neg (by rw [hd3]; decide)] at hpr
  (repeat (first | refine Jc ?_ | (apply s_evb; (case hg => rfl); (case hd => rfl); (case hn => rfl); (case he => (apply ev_nilCheck; rfl))) | (apply s_call (L2 := [(bk, .cells [dv, .slice A a.length c, .int .i64 (e : Nat), .bool false].toArray 43 (0, 0))]); (case hg => rfl); (case hd => rfl); (case ha => rfl); (case hc => exact rSync_f hR8 (by omega) S8 hd3); (case hL => (exact pmc (fun p => by first | rfl | ((repeat rw [List.countP_append]); (repeat rw [List.countP_cons]); (repeat rw [List.countP_nil]); (all_goals (first | rfl | omega)))))); rintro S9 L9 v9 - ⟨rfl, hR9, rfl⟩; refine W.perm (L' := [(bk, .cells [dv, .slice A a.length c, .int .i64 (e : Nat), .bool false].toArray 43 (0, 0))] ++ L9) ?_ (pmc (fun p => by first | rfl | ((repeat rw [List.countP_append]); (repeat rw [List.countP_cons]); (repeat rw [List.countP_nil]); (all_goals (first | rfl | omega)))))) | refine Jo ?_ | intro _))
  (repeat (first | refine Jc ?_ | (apply s_evb; (case hg => rfl); (case hd => rfl); (case hn => rfl); (case he => (apply ev_nilCheck; rfl))) | (apply s_evb; (case hg => rfl); (case hd => rfl); (case hn => rfl); (case he => (apply ev_len_b; rfl))) | (apply s_append_st (ms := a) (hA.le (by repeat (first | exact Le.refl _ | assumption | refine Le.trans ?_ (by assumption)))); (case hg => rfl); (case hd => rfl); (case hx => rfl); (case ho => exact (Ows.nil (α := Str) 9)); (case hL => (repeat (first | exact pm_nil _ | exact pm_refl _ _ | exact pm_self _ | apply pm_cons | apply pm_app))); (case hy => rfl); (case hm => first | rfl | simp); (case hzs => rfl); (case h0 => decide); (case hb => first | (simp; omega) | simp); (case h63 => first | (simp; omega) | simp); intro v10 ob10 ho10) | (apply s_append_st (ms := l) (hB.le (by repeat (first | exact Le.refl _ | assumption | refine Le.trans ?_ (by assumption)))); (case hg => rfl); (case hd => rfl); (case hx => rfl); (case ho => exact ho10); (case hL => (repeat (first | exact pm_nil _ | exact pm_refl _ _ | exact pm_self _ | apply pm_cons | apply pm_app))); (case hy => rfl); (case hm => first | rfl | simp); (case hzs => rfl); (case h0 => decide); (case hb => first | (simp; omega) | simp); (case h63 => first | (simp; omega) | simp); intro v11 ob11 ho11; refine W.freezeOws (L1 := [(bk, .cells [dv, .slice A a.length c, .int .i64 (e : Nat), .bool false].toArray 43 (0, 0))] ++ L9) ho11 (pmc (fun p => by first | rfl | ((repeat rw [List.countP_append]); (repeat rw [List.countP_cons]); (repeat rw [List.countP_nil]); (all_goals (first | rfl | omega))))) fun S12 hle12 hs12 => ?_; obtain ⟨A12, c12, rfl, hc12, hA12⟩ := hs12) | refine Jo ?_ | intro _))
  rw [List.nil_append] at hc12 hA12
  refine o_ret (L' := [(bk, .cells [dv, .slice A12 (a ++ l).length c12, .int .i64 ((e : Int) + o.length), .bool false].toArray 43 (0, 0))] ++ L9) Tryz.results13 rfl (List.Sublist.refl _) ⟨_, L9, rfl, .inr (.inr (.inr (.inr ⟨rfl, hnil, by omega, by rw [hpr], ⟨bk, A12, c12, rfl, ?_, hc12, hA12⟩, by rw [hpr]; exact hR9, rfl⟩)))⟩
  rw [show ((e + o.length : Nat) : Int) = (e : Int) + o.length by omega]
end Go.Proofs.YtnlfohlngapkfaaGreatDoor
namespace Go.Proofs.YtnlfohlngapkfaaGreatDoor
open Go Go.X
set_option maxRecDepth 10000
set_option linter.unusedVariables false
attribute [local irreducible] Code.wpIn wpListIn Exit.then Exit.inBlock X.Out X.Back X.W X.Ev X.Con X.BinV X.Wh X.Wn X.Wq
def keepU (l : List Wr) (keep : List Int) (k : Nat) : List Wr := (kept k keep).map fun i => l[i]!
end Go.Proofs.YtnlfohlngapkfaaGreatDoor
namespace Go.Proofs.YtnlfohlngapkfaaGreatDoor
open Go Go.X
set_option maxRecDepth 10000
set_option linter.unusedVariables false
attribute [local irreducible] Code.wpIn wpListIn Exit.then Exit.inBlock X.Out X.Back X.W X.Ev X.Con X.BinV X.Wh X.Wn X.Wq
structure Sp where
  call : Int
  off : Int
  n : Int
  s : Bs
  kp : Sv
instance : Inhabited Sp := ⟨⟨0, 0, 0, [], ⟨none, 0, 0⟩⟩⟩
instance : Cl Sp := ⟨5, fun x => [.int .i64 x.call, .int .i64 x.off, .int .i64 x.n, strV x.s, .slice x.kp.a x.kp.m x.kp.c], fun _ => rfl, fun _ u hu => by simp at hu; rcases hu with rfl | rfl | rfl | rfl | rfl <;> rfl⟩
def spOk (S : SH) (x : Sp) : Prop := i64 x.call ∧ i64 x.off ∧ i64 x.n ∧ x.s.length ≤ maxLen ∧ ∃ l : List Int, x.kp.m = l.length ∧ l.length ≤ x.kp.c ∧ At S x.kp.a l ∧ ∀ y ∈ l, i64 y
theorem spOk.le {S T : SH} (h : Le S T) {x : Sp} (k : spOk S x) : spOk T x := by
  obtain ⟨h1, h2, h3, h4, l, h5, h6, h7, h8⟩ := k
  exact ⟨h1, h2, h3, h4, l, h5, h6, h7.le h, h8⟩
/-- The disk and the reference's disk say the same. -/
structure Rel (N k : Nat) (D : Dk) (R : Rf) : Prop where
  sure : R.sure = D.dur
  l : R.l = D.pend
  down : R.down = D.off
  left : R.left = D.left
  vis : D.vis = applyL D.dur D.pend
  dur : D.dur.length = N
  vlen : D.vis.length = N
  pend : D.pend.length ≤ k
  pos : 0 ≤ D.left
theorem Rel.up {N k : Nat} {D : Dk} {R : Rf} (h : Rel N k D R) : Rel N (k + 1) D R := ⟨h.sure, h.l, h.down, h.left, h.vis, h.dur, h.vlen, by have := h.pend; omega, h.pos⟩
theorem Rel.new (N : Nat) : Rel N 0 (newD N) ⟨List.replicate N 0, [], false, 0⟩ := ⟨rfl, rfl, rfl, rfl, rfl, by simp [newD], by simp [newD], Nat.le_refl _, Int.le_refl _⟩
theorem Rel.read {N k : Nat} {D : Dk} {R : Rf} (h : Rel N k D R) (off n : Int) : rreadV R off n = readV D off n := by
  simp only [rreadV, readV, h.down, h.sure, rvis, h.l, h.vis]
theorem Rel.wr {N k : Nat} {D : Dk} {R : Rf} (h : Rel N k D R) (off : Int) (s : Bs) : Rel N (k + 1) (wrD D off s) (rwD R off s) ∧ rwE R off s = wrE D off s := by
  refine ⟨?_, by simp only [rwE, wrE, h.down, h.sure]⟩
  have hk : (!R.down && insideB R.sure.length off s.length) = okW D off s := by rw [h.down, h.sure]; rfl
  rw [wrD, rwD, hk]
  by_cases ho : okW D off s = true
  · rw [if_pos ho, if_pos ho]
    rw [okW, Bool.and_eq_true] at ho
    have hoff : D.off = false := by simpa using ho.1
    have hin := ho.2
    simp only [insideB, Bool.and_eq_true, decide_eq_true_eq] at hin
    have hd := h.dur
    have hv := h.vlen
    have hp := h.pos
    refine ⟨h.sure, by simp [h.l], by simp [h.left, hoff], by simp [h.left, hoff], ?_, h.dur, ?_, ?_, ?_⟩
    · simp only [applyL_snoc]
      rw [← h.vis]
    · simp only
      rw [lset_len (by omega), hv]
    · have := h.pend
      simp; omega
    · simp only [usedP]
      split <;> simp only <;> omega
  · rw [if_neg ho, if_neg ho]
    exact h.up
theorem Rel.sync {N k : Nat} {D : Dk} {R : Rf} (h : Rel N k D R) : Rel N k (syncD D) (if R.down then R else { R with sure := rvis R, l := [] }) := by
  simp only [syncD, h.down]
  cases ho : D.off
  · exact ⟨by simp [rvis, h.sure, h.l, h.vis], by simp, by simp, by simp [h.left], by simp [applyL], by simpa using h.vlen, by simpa using h.vlen, by simp, by simpa using h.pos⟩
  · simpa using h
theorem Rel.cut {N k : Nat} {D : Dk} {R : Rf} (h : Rel N k D R) (n : Int) : Rel N k (cutD D n) (if R.down = true ∨ n < 0 then R else { R with down := decide (n = 0), left := n }) ∧ (if R.down then (321 : Int) else if n < 0 then 2 else 0) = cutE D n := by
  refine ⟨?_, by simp only [cutE, h.down]⟩
  simp only [cutD, h.down]
  by_cases hc : D.off = true ∨ n < 0
  · simp only [hc, if_true]; exact h
  · simp only [hc, if_false]
    have : ¬ n < 0 := fun e => hc (.inr e)
    exact ⟨h.sure, h.l, rfl, rfl, h.vis, h.dur, h.vlen, h.pend, by simp only; omega⟩
end Go.Proofs.YtnlfohlngapkfaaGreatDoor
namespace Go.Proofs.YtnlfohlngapkfaaGreatDoor
open Go Go.X
set_option maxRecDepth 10000
set_option linter.unusedVariables false
attribute [local irreducible] Code.wpIn wpListIn Exit.then Exit.inBlock X.Out X.Back X.W X.Ev X.Con X.BinV X.Wh X.Wn X.Wq
attribute [local irreducible] sumK chain stw group stored
/-- Whatever a disk holds is records, and a tail that is empty, begins with 0, or is damaged. -/
theorem split_all (K : List UInt32) : ∀ (n : Nat) (B h : Bs), B.length ≤ n → ∃ l tail, Short l ∧ B = (group K h l).1 ++ tail ∧ (Bad K (group K h l).2 tail ∨ ∀ c, tail[0]? = some c → c = 0)
  | 0, B, h, hn => ⟨[], [], Short.nil, by rw [group_nil]; exact List.eq_nil_of_length_eq_zero (by omega), .inr fun c hc => by cases hc⟩
  | n + 1, B, h, hn => by
    by_cases h0 : ∀ c, B[0]? = some c → c = 0
    · exact ⟨[], B, Short.nil, by rw [group_nil]; rfl, .inr h0⟩
    by_cases hr : ∃ r rest : Bs, r.length ≤ 65536 ∧ B = stored K h r ++ rest
    · obtain ⟨r, rest, hr1, rfl⟩ := hr
      have hsl : 33 ≤ (stored K h r).length := by rw [stored_leq]; omega
      rw [List.length_append] at hn
      obtain ⟨l, tail, h1, h2, h3⟩ := split_all K n rest (chain K h r) (by omega)
      refine ⟨⟨r⟩ :: l, tail, fun x hx => ?_, ?_, ?_⟩
      · rcases List.mem_cons.1 hx with rfl | hx
        · exact hr1
        · exact h1 x hx
      · rw [group_cons, h2]; simp
      · rw [group_cons]; exact h3
    · refine ⟨[], B, Short.nil, by rw [group_nil]; rfl, .inl ⟨?_, by rw [group_nil]; exact hr⟩⟩
      obtain ⟨c, hc⟩ := Classical.not_forall.1 h0
      obtain ⟨hc1, hc2⟩ := Classical.not_imp.1 hc
      exact ⟨c, hc1, hc2⟩
theorem Rel.sync' {N k : Nat} {D : Dk} {R : Rf} (h : Rel N k D R) : Rel N k (syncD D) (rsync R) := h.sync
/-- What Open does to a disk whose rest is not all zeros: both do the same. -/
theorem Rel.fix {N k : Nat} {D : Dk} {R : Rf} (h : Rel N k D R) (size q : Nat) : Rel N (k + 1) (openE size q D).1 (rfix R size q).1 ∧ (rfix R size q).2 = (openE size q D).2 := by
  obtain ⟨w1, w2⟩ := h.wr (size : Nat) (List.replicate q 0)
  have e0 : ∀ D, app2 size (List.replicate q 0) 0 D = (wrD D (size : Nat) (List.replicate q 0), wrE D (size : Nat) (List.replicate q 0)) := fun D => rfl
  have e1 : ∀ D, app2 size (List.replicate q 0) 1 D = (syncD D, if D.off then 321 else 0) := fun D => rfl
  unfold openE rfix
  rw [firstP2, e0, e1, w2]
  have hd := w1.down
  have hs := w1.sync'
  generalize wrD D (size : Nat) (List.replicate q 0) = D1 at *
  generalize rwD R (size : Nat) (List.replicate q 0) = R1 at *
  generalize wrE D (size : Nat) (List.replicate q 0) = E at *
  by_cases he : E = 0
  · cases ho : D1.off <;> simp [hd, ho, he, hs]
  · simp [he, w1]
theorem Rel.app {N k : Nat} {D : Dk} {R : Rf} (h : Rel N k D R) (size : Nat) (out : Bs) : Rel N (k + 2) (firstP (app4 size out) 4 0 D).1 (rapp R size out).1 ∧ (rapp R size out).2 = (firstP (app4 size out) 4 0 D).2 := by
  have e0 : ∀ D, app4 size out 0 D = (wrD D ((size : Nat) + 1 : Int) (out.drop 1), wrE D ((size : Nat) + 1 : Int) (out.drop 1)) := fun D => by
    unfold app4; rw [if_pos rfl, Int.natCast_succ]
  have e1 : ∀ D, app4 size out 1 D = (syncD D, if D.off then 321 else 0) := fun D => rfl
  have e2 : ∀ D, app4 size out 2 D = (wrD D (size : Nat) (out.take 1), wrE D (size : Nat) (out.take 1)) := fun D => rfl
  have e3 : ∀ D, app4 size out 3 D = (syncD D, if D.off then 321 else 0) := fun D => rfl
  obtain ⟨w1, w2⟩ := h.wr ((size : Nat) + 1 : Int) (out.drop 1)
  have hd := w1.down
  have hs := w1.sync'
  unfold rapp
  rw [firstP4, e0, e1, e2, e3, w2]
  generalize wrD D ((size : Nat) + 1 : Int) (out.drop 1) = D1 at *
  generalize rwD R ((size : Nat) + 1 : Int) (out.drop 1) = R1 at *
  generalize wrE D ((size : Nat) + 1 : Int) (out.drop 1) = E at *
  obtain ⟨v1, v2⟩ := hs.wr (size : Nat) (out.take 1)
  have hd2 := v1.down
  have hs2 := v1.sync'
  rw [v2]
  generalize wrD (syncD D1) (size : Nat) (out.take 1) = D3 at *
  generalize rwD (rsync R1) (size : Nat) (out.take 1) = R3 at *
  generalize wrE (syncD D1) (size : Nat) (out.take 1) = E3 at *
  by_cases he : E = 0
  · cases ho : D1.off
    · by_cases he3 : E3 = 0
      · cases ho3 : D3.off
        · simp [hd, ho, he, hd2, ho3, he3, hs2]
        · have e5 : rsync R3 = R3 := by unfold rsync; simp [hd2, ho3]
          rw [e5] at hs2
          simp [hd, ho, he, hd2, ho3, he3, hs2]
      · simp [hd, ho, he, he3, v1]
    · have e5 : rsync R1 = R1 := by unfold rsync; simp [hd, ho]
      rw [e5] at hs
      simp [hd, ho, he, hs.up]
  · simp [he, w1.up]
end Go.Proofs.YtnlfohlngapkfaaGreatDoor
namespace Go.Proofs.YtnlfohlngapkfaaGreatDoor
open Go Go.X
set_option maxRecDepth 10000
set_option linter.unusedVariables false
attribute [local irreducible] Code.wpIn wpListIn Exit.then Exit.inBlock X.Out X.Back X.W X.Ev X.Con X.BinV X.Wh X.Wn X.Wq
attribute [local irreducible] sumK chain stw group stored
theorem rOpenOff_con {dv : Value} {R : Rf} {LD : Blocks} (h : OwR dv R LD) (S : SH) (hdn : R.down = true) (hll : R.l.length ≤ 1000000) :
    Con Tryz.prog 58 #[dv] S LD (fun S' L' r => OwR dv R L' ∧ r = .tuple #[.pointer none, .int .i64 321]) := by
  obtain ⟨b, g, N, cap, tl, pv, ob, rfl, hp, ho, hw, hc1, hc2, hc3⟩ := h
  have hk : OwR (.pointer (some ⟨b, 0, none⟩)) R (rfB b g N cap tl pv ob R) := ⟨b, g, N, cap, tl, pv, ob, rfl, List.Perm.refl _, ho, hw, hc1, hc2, hc3⟩
  have hmx := hw.max
  have hrd : ∀ S, Con Tryz.prog 97 #[.pointer (some ⟨b, 0, none⟩), .int .i64 0, .int .i64 (N : Nat)] S (rfB b g N cap tl pv ob R) (fun S' L' r => S' = S ∧ OwR (.pointer (some ⟨b, 0, none⟩)) R L' ∧ r = .tuple #[strV [], .int .i64 321]) := fun S => by
    have := RRead_con hk (by omega) S 0 (N : Nat) (by unfold i64; omega) (by unfold i64; omega)
    rw [rreadV, hdn] at this; exact this
  refine con_of (args := [.pointer (some ⟨b, 0, none⟩)]) Tryz.func58 rfl Tryz.ntmps58 rfl fun w => W.perm ?_ hp
  unfold rfB at hrd ⊢
  (repeat (first | refine Jc ?_ | (apply s_evb; (case hg => rfl); (case hd => rfl); (case hn => rfl); (case he => (apply ev_nilCheck; rfl))) | (apply s_call (L2 := []); (case hg => rfl); (case hd => rfl); (case ha => rfl); (case hc => exact hrd _); (case hL => (exact pmc (fun p => by first | rfl | ((repeat rw [List.countP_append]); (repeat rw [List.countP_cons]); (repeat rw [List.countP_nil]); (all_goals (first | rfl | omega)))))); rintro S1 L1 v1 hle1 ⟨rfl, hk1, rfl⟩) | refine Jo ?_ | intro _))
  exact o_ret2 Tryz.results58 rfl rfl (List.sublist_append_left _ _) ⟨hk1, rfl⟩
end Go.Proofs.YtnlfohlngapkfaaGreatDoor
namespace Go.Proofs.YtnlfohlngapkfaaGreatDoor
open Go Go.X
set_option maxRecDepth 10000
set_option linter.unusedVariables false
attribute [local irreducible] Code.wpIn wpListIn Exit.then Exit.inBlock X.Out X.Back X.W X.Ev X.Con X.BinV X.Wh X.Wn X.Wq
attribute [local irreducible] sumK chain stw group stored
open Classical in
/-- What Open does: the disk, and the error. -/
noncomputable def openO (D : Dk) (l : List Str) (tail : Bs) : Dk × Int :=
  if D.off = true then (D, 321) else if Bad shaK (group shaK head0 l).2 tail then (D, 332) else if tail = List.replicate tail.length 0 then (D, 0) else openE (group shaK head0 l).1.length tail.length D
open Classical in
noncomputable def openR (R : Rf) (l : List Str) (tail : Bs) : Rf × Int :=
  if R.down = true then (R, 321) else if Bad shaK (group shaK head0 l).2 tail then (R, 332) else if tail = List.replicate tail.length 0 then (R, 0) else rfix R (group shaK head0 l).1.length tail.length
theorem Rel.openO' {N k : Nat} {D : Dk} {R : Rf} (h : Rel N k D R) (l : List Str) (tail : Bs) : Rel N (k + 1) (openO D l tail).1 (openR R l tail).1 ∧ (openR R l tail).2 = (openO D l tail).2 := by
  unfold openO openR
  rw [h.down]
  split
  · exact ⟨h.up, rfl⟩
  · split
    · exact ⟨h.up, rfl⟩
    · split
      · exact ⟨h.up, rfl⟩
      · exact h.fix _ _
theorem jopen_con {v : Value} {D : Dk} {LD : Blocks} (h : OwD v D LD) (l : List Str) (tail : Bs) (S : SH) (p : Addr) (hvl : D.vis.length = D.dur.length) (hd : D.dur.length ≤ 1000000) (hpl : D.pend.length ≤ 100000) (hvis : D.vis = (group shaK head0 l).1 ++ tail)
    (hsh : Short l) (htl : Bad shaK (group shaK head0 l).2 tail ∨ ∀ c, tail[0]? = some c → c = 0) (hK : Pts S ⟨4, 0, none⟩ (cellsOf shaK)) (hE : Pts S ⟨0, 0, none⟩ [errV p]) :
    Con Tryz.prog 26 #[v] S LD (fun S' L' r => ((openO D l tail).2 ≠ 0 ∧ OwD v (openO D l tail).1 L' ∧ r = .tuple #[.pointer none, .int .i64 (openO D l tail).2]) ∨
      ((openO D l tail).2 = 0 ∧ ∃ jv LJ LD', L' = LJ ++ LD' ∧ OwJ jv v (jnK shaK l) LJ ∧ OwD v (openO D l tail).1 LD' ∧ r = .tuple #[jv, .int .i64 0])) := by
  have hrl := (grp_len (K := shaK) (h := head0) hsh).1
  have hlen : (group shaK head0 l).1.length + tail.length = D.dur.length := by rw [← hvl, hvis, List.length_append]
  cases hoff : D.off
  rotate_left
  · have e : openO D l tail = (D, 321) := by unfold openO; rw [if_pos hoff]
    rw [e]
    exact (OpenOff_con h S hoff (by omega)).mono fun S' L' r _ ⟨_, h2, h3⟩ => .inl ⟨by simp, h2, h3⟩
  by_cases hb : Bad shaK (group shaK head0 l).2 tail
  · have e : openO D l tail = (D, 332) := by unfold openO; rw [if_neg (by rw [hoff]; decide), if_pos hb]
    rw [e]
    exact (OpenBad_con h shaK l tail S p hoff hvl hd hvis hsh (by omega) hb hK shaK_len hE).mono fun S' L' r _ ⟨h2, h3⟩ => .inl ⟨by simp, h2, h3⟩
  have hok := htl.resolve_left hb
  by_cases hz : tail = List.replicate tail.length 0
  · have e : openO D l tail = (D, 0) := by unfold openO; rw [if_neg (by rw [hoff]; decide), if_neg hb, if_pos hz]
    rw [e]
    exact (OpenOk_con h shaK l tail S hoff hvl (by omega) hvis hsh (by omega) hok ((trimB_nil tail).2 hz) hK shaK_len).mono fun S' L' r _ ⟨jv, LJ, LD', h1, h2, h3, h4⟩ => .inr ⟨rfl, jv, LJ, LD', h1, h2, h3, h4⟩
  · have e : openO D l tail = openE (group shaK head0 l).1.length tail.length D := by unfold openO; rw [if_neg (by rw [hoff]; decide), if_neg hb, if_neg hz]
    rw [e]
    refine (OpenFix_con h shaK l tail S hoff hvl hd hpl hvis hsh (by omega) hok (fun h => hz ((trimB_nil tail).1 h)) hK shaK_len).mono fun S' L' r _ h => ?_
    obtain ⟨jv, LJ, LD', h | h⟩ := h
    · obtain ⟨h1, h2, h3, h4, h5⟩ := h
      exact .inr ⟨h2, jv, LJ, LD', h1, h3, h4, h5⟩
    · exact .inl h
theorem ropen_con {v : Value} {R : Rf} {LD : Blocks} (h : OwR v R LD) (l : List Str) (tail : Bs) (S : SH) (hvl : (rvis R).length = R.sure.length) (hd : R.sure.length ≤ 1000000) (hpl : R.l.length ≤ 100000) (hvis : rvis R = (group shaK head0 l).1 ++ tail)
    (hsh : Short l) (htl : Bad shaK (group shaK head0 l).2 tail ∨ ∀ c, tail[0]? = some c → c = 0) :
    Con Tryz.prog 58 #[v] S LD (fun S' L' r => ((openR R l tail).2 ≠ 0 ∧ OwR v (openR R l tail).1 L' ∧ r = .tuple #[.pointer none, .int .i64 (openR R l tail).2]) ∨
      ((openR R l tail).2 = 0 ∧ ∃ jv LJ LD', L' = LD' ++ LJ ∧ OwK jv v l (group shaK head0 l).1.length false LJ ∧ OwR v (openR R l tail).1 LD' ∧ r = .tuple #[jv, .int .i64 0])) := by
  have hrl := (grp_len (K := shaK) (h := head0) hsh).1
  have hlen : (group shaK head0 l).1.length + tail.length = R.sure.length := by rw [← hvl, hvis, List.length_append]
  cases hoff : R.down
  rotate_left
  · have e : openR R l tail = (R, 321) := by unfold openR; rw [if_pos hoff]
    rw [e]
    exact (rOpenOff_con h S hoff (by omega)).mono fun S' L' r _ ⟨h2, h3⟩ => .inl ⟨by simp, h2, h3⟩
  have hdn : ¬ R.down = true := by rw [hoff]; decide
  refine (rOpen_con h l tail S hoff hpl hvl hd hvis hsh (by omega) htl).mono fun S' L' r _ h => ?_
  have hnb : (∀ c, tail[0]? = some c → c = 0) → ¬ Bad shaK (group shaK head0 l).2 tail := fun h1 ⟨⟨c, hc, hc0⟩, _⟩ => hc0 (h1 c hc)
  rcases h with ⟨hb, h2, h3⟩ | ⟨hok, hz, jv, LJ, LD', h1, h2, h3, h4⟩ | ⟨hok, hz, h0, jv, LJ, LD', h1, h2, h3, h4⟩ | ⟨hok, hz, h0, h2, h3⟩
  · have e : openR R l tail = (R, 332) := by unfold openR; rw [if_neg hdn, if_pos hb]
    rw [e]; exact .inl ⟨by simp, h2, h3⟩
  · have e : openR R l tail = (R, 0) := by unfold openR; rw [if_neg hdn, if_neg (hnb hok), if_pos hz]
    rw [e]; exact .inr ⟨rfl, jv, LJ, LD', h1, h2, h3, h4⟩
  all_goals
    have e : openR R l tail = rfix R (group shaK head0 l).1.length tail.length := by unfold openR; rw [if_neg hdn, if_neg (hnb hok), if_neg hz]
    rw [e]
  · exact .inr ⟨h0, jv, LJ, LD', h1, h2, h3, h4⟩
  · exact .inl ⟨h0, h2, h3⟩
end Go.Proofs.YtnlfohlngapkfaaGreatDoor
namespace Go.Proofs.YtnlfohlngapkfaaGreatDoor
open Go Go.X
set_option maxRecDepth 10000
set_option linter.unusedVariables false
attribute [local irreducible] Code.wpIn wpListIn Exit.then Exit.inBlock X.Out X.Back X.W X.Ev X.Con X.BinV X.Wh X.Wn X.Wq
attribute [local irreducible] sumK chain stw group stored
def wdO (bw : Nat) (vd jv vr kv : Value) : Nat × Obj := (bw, .cells [vd, jv, vr, kv].toArray 32 (0, 0))
def jnB (l : List Str) (br : Bool) : Jn := ⟨l, (group shaK head0 l).2, (recB shaK l).length, br⟩
/-- Both journals, each with its disk. -/
def OwWd (bw : Nat) (D : Dk) (R : Rf) (js : Option (List Str × Bool)) (S : SH) (L : Blocks) : Prop :=
  ∃ vd vr LD LR, OwD vd D LD ∧ OwR vr R LR ∧
    match js with
    | none => L = (bw, .cells [vd, .pointer none, vr, .pointer none].toArray 32 (0, 0)) :: (LD ++ LR)
    | some (l, br) => ∃ jv kv LJ LK, OwJ jv vd (jnB l br) LJ ∧ OwKs kv vr S l (recB shaK l).length br LK ∧ L = (bw, .cells [vd, jv, vr, kv].toArray 32 (0, 0)) :: ((LJ ++ LD) ++ (LK ++ LR))
/-- The records of both journals are short, and fit. -/
def jsOk (N : Nat) (js : Option (List Str × Bool)) : Prop := ∀ l br, js = some (l, br) → Short l ∧ (recB shaK l).length ≤ N
theorem OwKs.form {v dv : Value} {S : SH} {l : List Str} {e : Nat} {br : Bool} {L : Blocks} (h : OwKs v dv S l e br L) : ∃ b, v = .pointer (some ⟨b, 0, none⟩) := by obtain ⟨b, _, _, rfl, _⟩ := h; exact ⟨b, rfl⟩
set_option maxHeartbeats 1600000 in
/-- Both journals are opened on disks that say the same: they agree. -/
theorem wopen_con {bw : Nat} {vd vr j0 k0 : Value} {D : Dk} {R : Rf} {LD LR : Blocks} {N m : Nat} (hD : OwD vd D LD) (hR : OwR vr R LR) (hrel : Rel N m D R) (S : SH) (p : Addr) (hN : N ≤ 1000000) (hm : m ≤ 100000) (l : List Str) (tail : Bs) (hvis : D.vis = (group shaK head0 l).1 ++ tail)
    (hsh : Short l) (htl : Bad shaK (group shaK head0 l).2 tail ∨ ∀ c, tail[0]? = some c → c = 0) (hK : Pts S ⟨4, 0, none⟩ (cellsOf shaK)) (hE : Pts S ⟨0, 0, none⟩ [errV p]) :
    Con Tryz.prog 18 #[.pointer (some ⟨bw, 0, none⟩)] S ((bw, .cells [vd, j0, vr, k0].toArray 32 (0, 0)) :: (LD ++ LR)) (fun S' L' r => r = .bool true ∧ OwWd bw (openO D l tail).1 (openR R l tail).1 (if (openO D l tail).2 = 0 then some (l, false) else none) S' L') := by
  obtain ⟨hr1, hr2⟩ := hrel.openO' l tail
  have hj := fun S h1 h2 => jopen_con hD l tail S p (hrel.vlen.trans hrel.dur.symm) (by have := hrel.dur; omega) (by have := hrel.pend; omega) hvis hsh htl h1 h2
  have hrv : rvis R = D.vis := by unfold rvis; rw [hrel.sure, hrel.l, hrel.vis]
  have hk := fun S => ropen_con hR l tail S (by rw [hrv, hrel.sure]; exact hrel.vlen.trans hrel.dur.symm) (by rw [hrel.sure]; have := hrel.dur; omega) (by rw [hrel.l]; have := hrel.pend; omega) (by rw [hrv]; exact hvis) hsh htl
  refine con_of (args := [.pointer (some ⟨bw, 0, none⟩)]) Tryz.func18 rfl Tryz.ntmps18 rfl fun w => ?_
  rw [hr2] at hk
  generalize (openO D l tail).1 = D1 at *
  generalize (openR R l tail).1 = R1 at *
  generalize (openO D l tail).2 = E at *
  by_cases he : E = 0
  rotate_left
  · have hj' : ∀ S, Pts S ⟨4, 0, none⟩ (cellsOf shaK) → Pts S ⟨0, 0, none⟩ [errV p] → Con Tryz.prog 26 #[vd] S LD (fun S' L' r => OwD vd D1 L' ∧ r = .tuple #[.pointer none, .int .i64 E]) := fun S h1 h2 => (hj S h1 h2).mono fun S' L' r _ h => (h.resolve_right fun h => he h.1).2
    have hk' : ∀ S, Con Tryz.prog 58 #[vr] S LR (fun S' L' r => OwR vr R1 L' ∧ r = .tuple #[.pointer none, .int .i64 E]) := fun S => (hk S).mono fun S' L' r _ h => (h.resolve_right fun h => he h.1).2
    rw [if_neg he]
    (repeat (first | refine Jc ?_ | (apply s_evb; (case hg => rfl); (case hd => rfl); (case hn => rfl); (case he => (apply ev_nilCheck; rfl))) | (apply s_evb; (case hg => rfl); (case hd => rfl); (case hn => rfl); (case he => (apply ev_eql_p; (case hx => rfl); (case hy => rfl)))) | (apply s_call (L2 := (bw, .cells [vd, j0, vr, k0].toArray 32 (0, 0)) :: LR); (case hg => rfl); (case hd => rfl); (case ha => rfl); (case hc => exact hj' _ hK hE); (case hL => (exact pmc (fun p => by (repeat (first | rw [List.countP_append] | rw [List.countP_cons] | rw [List.countP_nil])); (all_goals (first | rfl | omega))))); rintro S1 L1 v1 hle1 ⟨hD1, rfl⟩; refine W.perm (L' := (bw, .cells [vd, j0, vr, k0].toArray 32 (0, 0)) :: (L1 ++ LR)) ?_ (pmc (fun p => by (repeat (first | rw [List.countP_append] | rw [List.countP_cons] | rw [List.countP_nil])); (all_goals (first | rfl | omega))))) | (apply s_call (L2 := (bw, .cells [vd, j0, vr, k0].toArray 32 (0, 0)) :: L1); (case hg => rfl); (case hd => rfl); (case ha => rfl); (case hc => exact hk' _); (case hL => (exact pmc (fun p => by (repeat (first | rw [List.countP_append] | rw [List.countP_cons] | rw [List.countP_nil])); (all_goals (first | rfl | omega))))); rintro S2 L2 v2 hle2 ⟨hR2, rfl⟩; refine W.perm (L' := (bw, .cells [vd, j0, vr, k0].toArray 32 (0, 0)) :: (L1 ++ L2)) ?_ (pmc (fun p => by (repeat (first | rw [List.countP_append] | rw [List.countP_cons] | rw [List.countP_nil])); (all_goals (first | rfl | omega))))) | refine Jo ?_ | intro _))
    exact o_ret Tryz.results18 rfl (List.Sublist.refl _) ⟨rfl, vd, vr, L1, L2, hD1, hR2, rfl⟩
  · subst he
    have hj' : ∀ S, Pts S ⟨4, 0, none⟩ (cellsOf shaK) → Pts S ⟨0, 0, none⟩ [errV p] → Con Tryz.prog 26 #[vd] S LD (fun S' L' r => ∃ jv LJ LD', L' = LJ ++ LD' ∧ OwJ jv vd (jnB l false) LJ ∧ OwD vd D1 LD' ∧ r = .tuple #[jv, .int .i64 0]) := fun S h1 h2 => (hj S h1 h2).mono fun S' L' r _ h => (h.resolve_left fun h => h.1 rfl).2
    have hk' : ∀ S, Con Tryz.prog 58 #[vr] S LR (fun S' L' r => ∃ jv LJ LD', L' = LD' ++ LJ ∧ OwK jv vr l (recB shaK l).length false LJ ∧ OwR vr R1 LD' ∧ r = .tuple #[jv, .int .i64 0]) := fun S => (hk S).mono fun S' L' r _ h => (h.resolve_left fun h => h.1 rfl).2
    rw [if_pos rfl]
    (repeat (first | refine Jc ?_ | (apply s_evb; (case hg => rfl); (case hd => rfl); (case hn => rfl); (case he => (apply ev_nilCheck; rfl))) | (apply s_evb; (case hg => rfl); (case hd => rfl); (case hn => rfl); (case he => (apply ev_eql_p; (case hx => rfl); (case hy => rfl)))) | (apply s_call (L2 := (bw, .cells [vd, j0, vr, k0].toArray 32 (0, 0)) :: LR); (case hg => rfl); (case hd => rfl); (case ha => rfl); (case hc => exact hj' _ hK hE); (case hL => (exact pmc (fun p => by (repeat (first | rw [List.countP_append] | rw [List.countP_cons] | rw [List.countP_nil])); (all_goals (first | rfl | omega))))); rintro S1 L1 v1 hle1 ⟨jv, LJ, LD1, rfl, hJ, hD1, rfl⟩; obtain ⟨bj, rfl⟩ := hJ.form; refine W.perm (L' := (bw, .cells [vd, j0, vr, k0].toArray 32 (0, 0)) :: ((LJ ++ LD1) ++ LR)) ?_ (pmc (fun p => by (repeat (first | rw [List.countP_append] | rw [List.countP_cons] | rw [List.countP_nil])); (all_goals (first | rfl | omega))))) | (apply s_call (L2 := (bw, .cells [vd, j0, vr, k0].toArray 32 (0, 0)) :: (LJ ++ LD1)); (case hg => rfl); (case hd => rfl); (case ha => rfl); (case hc => exact hk' _); (case hL => (exact pmc (fun p => by (repeat (first | rw [List.countP_append] | rw [List.countP_cons] | rw [List.countP_nil])); (all_goals (first | rfl | omega))))); rintro S2 L2 v2 hle2 ⟨kv, LK, LR2, rfl, ⟨bk, rv, ob, rfl, rfl, hol⟩, hR2, rfl⟩) | refine Jo ?_ | intro _))
    refine W.freezeOws (L1 := (bw, .cells (([vd, j0, vr, k0].set (0 + 1) (.pointer (some ⟨bj, 0, none⟩))).set (0 + 3) (.pointer (some ⟨bk, 0, none⟩))).toArray 32 (0, 0)) :: ((LJ ++ LD1) ++ ([(bk, .cells [vr, rv, .int .i64 ((recB shaK l).length : Nat), .bool false].toArray 43 (0, 0))] ++ LR2))) hol (pmc (fun p => by (repeat (first | rw [List.countP_append] | rw [List.countP_cons] | rw [List.countP_nil])); (all_goals (first | rfl | omega)))) fun S12 hle12 hs12 => ?_
    obtain ⟨A12, c12, rfl, hc12, hA12⟩ := hs12
    exact o_ret Tryz.results18 rfl (List.Sublist.refl _) ⟨rfl, vd, vr, LD1, LR2, hD1, hR2, _, _, LJ, _, hJ, ⟨bk, A12, c12, rfl, rfl, hc12, hA12⟩, rfl⟩
end Go.Proofs.YtnlfohlngapkfaaGreatDoor
