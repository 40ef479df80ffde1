/- Contracts of functions of this program, each proved by a walk through its code, and plain lemmas on what they compute; on no condition beyond those that each theorem states. -/
import Derived.Test.YtmonkjbhoabhhaaPFacts
namespace Go.Proofs.Ytmonkjbhoabhhaa
open Go Go.X
structure Dep where
  service : Int
  version : Int
  frm : Int
  to : Int
structure Tri where
  at_ : Int
  bad : Bool
instance : Cl Dep := ⟨4, fun d => [.int .i64 d.service, .int .i64 d.version, .int .i64 d.frm, .int .i64 d.to], fun _ => rfl, fun _ u hu => by simp at hu; rcases hu with rfl | rfl | rfl | rfl <;> rfl⟩
instance : Cl Tri := ⟨2, fun d => [.int .i64 d.at_, .bool d.bad], fun _ => rfl, fun _ u hu => by simp at hu; rcases hu with rfl | rfl <;> rfl⟩
def inB (n lo hi : Int) : Bool := decide (lo ≤ n) && decide (n ≤ hi)
def Dep.ok (d : Dep) : Bool := inB d.service 0 7 && inB d.version 0 9 && inB d.frm 0 d.to && decide (d.to ≤ 1000000)
def Tri.ok (d : Tri) : Bool := inB d.at_ 0 1000000
set_option maxRecDepth 10000
set_option linter.unusedVariables false
attribute [local irreducible] Code.wpIn wpListIn Exit.then Exit.inBlock X.Out X.Back X.W X.Ev X.Con X.BinV X.Wh X.Wn X.Wq
theorem in_con (n lo hi : Int) (S : SH) : Con Try.prog 37 #[.int .i64 n, .int .i64 lo, .int .i64 hi] S [] (Pure S (.bool (inB n lo hi))) := by
  refine con_of (args := [.int .i64 n, .int .i64 lo, .int .i64 hi]) Try.func37 rfl Try.ntmps37 rfl fun w => ?_
  by_cases h1 : lo ≤ n
  all_goals by_cases h2 : n ≤ hi
  all_goals (repeat (first | refine Jz ?_ | intro _))
  all_goals refine o_ret Try.results37 rfl .slnil ⟨rfl, rfl, ?_⟩
  all_goals simp [inB, h1, h2]
theorem in_b {n lo hi : Int} {S : SH} {b : Bool} (h : inB n lo hi = b) : Con Try.prog 37 #[.int .i64 n, .int .i64 lo, .int .i64 hi] S [] (Pure S (.bool b)) := h ▸ in_con n lo hi S
end Go.Proofs.Ytmonkjbhoabhhaa
namespace Go.Proofs.Ytmonkjbhoabhhaa
open Go Go.X
set_option maxRecDepth 10000
set_option linter.unusedVariables false
attribute [local irreducible] Code.wpIn wpListIn Exit.then Exit.inBlock X.Out X.Back X.W X.Ev X.Con X.BinV X.Wh X.Wn X.Wq
theorem all_f {α : Type} {p : α → Bool} {l : List α} {k : Nat} {x : α} (h : l[k]? = some x) (hx : p x = false) : l.all p = false := by
  rw [List.all_eq_false]; exact ⟨x, List.mem_of_getElem? h, by simp [hx]⟩
theorem all_take {α : Type} {p : α → Bool} {l : List α} {k : Nat} {x : α} (h : l[k]? = some x) (hx : p x = true) (ha : (l.take k).all p = true) : (l.take (k + 1)).all p = true := by
  rw [List.take_add_one, List.all_append, ha, h]; simp [hx]
theorem all_of {α : Type} {p : α → Bool} {l : List α} {k : Nat} (hk : l.length ≤ k) (ha : (l.take k).all p = true) : l.all p = true := by
  rwa [List.take_of_length_le hk] at ha
theorem at_lt {α : Type} {l : List α} {k : Nat} (h : k < l.length) : ∃ x, l[k]? = some x := ⟨l[k], List.getElem?_eq_getElem h⟩
theorem valid_con (ds : List Dep) (ls : List Tri) (A B : Option Addr) (c e : Nat) (S : SH) (hA : At S A ds) (hB : At S B ls) (hd : ds.length ≤ 1000000) (hl : ls.length ≤ 1000000) :
    Con Try.prog 14 #[.slice A ds.length c, .slice B ls.length e] S [] (Pure S (.bool (ds.all Dep.ok && ls.all Tri.ok && decide (ds.length ≤ 20) && decide (ls.length ≤ 60)))) := by
  refine con_of (args := [.slice A ds.length c, .slice B ls.length e]) Try.func14 rfl Try.ntmps14 rfl fun w => ?_
  (repeat (first | refine Jz ?_ | intro _))
  refine c_loop (fun m S' L F => S' = S ∧ L = [] ∧ ∃ k : Nat, m = ds.length - k ∧ k ≤ ds.length ∧ (ds.take k).all Dep.ok = true ∧
    F = [(0, .slice A ds.length c), (1, .slice B ls.length e), (9, .slice A ds.length c), (10, .int .i64 ds.length), (11, .int .i64 k)]) ⟨rfl, rfl, 0, rfl, by omega, by simp, rfl⟩ (by repeat (first | exact Sub.nil rfl | exact Sub.marked rfl | refine Sub.cons rfl ?_)) (by repeat (first | exact List.Sublist.refl _ | exact List.Sublist.slnil | exact List.nil_sublist _ | exact List.sublist_append_left _ _ | refine List.Sublist.cons_cons _ ?_ | refine List.Sublist.append (List.Sublist.refl _) ?_ | refine List.Sublist.cons _ ?_)) ?_
  rintro m S' L F ⟨rfl, rfl, k, rfl, hk, hall, rfl⟩
  by_cases hlt : k < ds.length
  · obtain ⟨d, hx⟩ := at_lt hlt
    cases h1 : inB d.service 0 7
    rotate_left
    cases h2 : inB d.version 0 9
    rotate_left
    cases h3 : inB d.frm 0 d.to
    rotate_left
    by_cases h4 : d.to ≤ 1000000
    all_goals (repeat (first | refine Jc ?_ | (apply z_call; rfl; rfl; rfl; exact in_b (by assumption); rintro _ _ _ - ⟨rfl, rfl, rfl⟩) | (apply s_idx hA; (case hg => rfl); (case hd => rfl); (case hx => rfl); (case hi => rfl); (case hm => rfl); (case hu => exact hx); intro p (hp : Pts _ p [_, _, _, _])) | (apply s_load_ag; (case hg => rfl); (case hd => rfl); (case hx => rfl); (case hv => exact hp); (case hl => rfl)) | refine Jo ?_ | intro _))
    · refine q_back (m' := ds.length - (k + 1)) ⟨rfl, rfl, k + 1, rfl, by omega, all_take hx (by simp [Dep.ok, *]) hall, rfl⟩ (by omega) (by repeat (first | exact Sub.nil rfl | exact Sub.marked rfl | refine Sub.cons rfl ?_)) (by repeat (first | exact List.Sublist.refl _ | exact List.Sublist.slnil | exact List.nil_sublist _ | exact List.sublist_append_left _ _ | refine List.Sublist.cons_cons _ ?_ | refine List.Sublist.append (List.Sublist.refl _) ?_ | refine List.Sublist.cons _ ?_))
    all_goals
      refine o_ret Try.results14 rfl (by repeat (first | exact List.Sublist.refl _ | exact List.Sublist.slnil | exact List.nil_sublist _ | exact List.sublist_append_left _ _ | refine List.Sublist.cons_cons _ ?_ | refine List.Sublist.append (List.Sublist.refl _) ?_ | refine List.Sublist.cons _ ?_)) ⟨rfl, rfl, ?_⟩
      simp [all_f (p := Dep.ok) hx (by simp [Dep.ok, *])]
  · (repeat (first | refine Jz ?_ | intro _))
    have hallD := all_of (by omega) hall
    refine c_loop (fun m S'' L F => S'' = S' ∧ L = [] ∧ ∃ k : Nat, m = ls.length - k ∧ k ≤ ls.length ∧ (ls.take k).all Tri.ok = true ∧
      F = [(0, .slice A ds.length c), (1, .slice B ls.length e), (39, .slice B ls.length e), (40, .int .i64 ls.length), (41, .int .i64 k)]) ⟨rfl, rfl, 0, rfl, by omega, by simp, rfl⟩ (by repeat (first | exact Sub.nil rfl | exact Sub.marked rfl | refine Sub.cons rfl ?_)) (by repeat (first | exact List.Sublist.refl _ | exact List.Sublist.slnil | exact List.nil_sublist _ | exact List.sublist_append_left _ _ | refine List.Sublist.cons_cons _ ?_ | refine List.Sublist.append (List.Sublist.refl _) ?_ | refine List.Sublist.cons _ ?_)) ?_
    rintro m S'' L F ⟨rfl, rfl, k, rfl, hk, hall, rfl⟩
    by_cases hlt : k < ls.length
    · obtain ⟨d, hx⟩ := at_lt hlt
      cases h1 : inB d.at_ 0 1000000
      all_goals (repeat (first | refine Jc ?_ | (apply z_call; rfl; rfl; rfl; exact in_b (by assumption); rintro _ _ _ - ⟨rfl, rfl, rfl⟩) | (apply s_idx hB; (case hg => rfl); (case hd => rfl); (case hx => rfl); (case hi => rfl); (case hm => rfl); (case hu => exact hx); intro p (hp : Pts _ p [_, _])) | (apply s_load_ag; (case hg => rfl); (case hd => rfl); (case hx => rfl); (case hv => exact hp); (case hl => rfl)) | refine Jo ?_ | intro _))
      · refine o_ret Try.results14 rfl (by repeat (first | exact List.Sublist.refl _ | exact List.Sublist.slnil | exact List.nil_sublist _ | exact List.sublist_append_left _ _ | refine List.Sublist.cons_cons _ ?_ | refine List.Sublist.append (List.Sublist.refl _) ?_ | refine List.Sublist.cons _ ?_)) ⟨rfl, rfl, ?_⟩
        simp [all_f (p := Tri.ok) hx (by simp [Tri.ok, *])]
      · refine q_back (m' := ls.length - (k + 1)) ⟨rfl, rfl, k + 1, rfl, by omega, all_take hx (by simp [Tri.ok, *]) hall, rfl⟩ (by omega) (by repeat (first | exact Sub.nil rfl | exact Sub.marked rfl | refine Sub.cons rfl ?_)) (by repeat (first | exact List.Sublist.refl _ | exact List.Sublist.slnil | exact List.nil_sublist _ | exact List.sublist_append_left _ _ | refine List.Sublist.cons_cons _ ?_ | refine List.Sublist.append (List.Sublist.refl _) ?_ | refine List.Sublist.cons _ ?_))
    · have hallT := all_of (by omega) hall
      by_cases h1 : ds.length ≤ 20
      all_goals by_cases h2 : ls.length ≤ 60
      all_goals (repeat (first | refine Jz ?_ | intro _))
      all_goals
        refine o_ret Try.results14 rfl (by repeat (first | exact List.Sublist.refl _ | exact List.Sublist.slnil | exact List.nil_sublist _ | exact List.sublist_append_left _ _ | refine List.Sublist.cons_cons _ ?_ | refine List.Sublist.append (List.Sublist.refl _) ?_ | refine List.Sublist.cons _ ?_)) ⟨rfl, rfl, ?_⟩
        simp [*]
end Go.Proofs.Ytmonkjbhoabhhaa
namespace Go.Proofs.Ytmonkjbhoabhhaa
open Go Go.X
set_option maxRecDepth 10000
set_option linter.unusedVariables false
attribute [local irreducible] Code.wpIn wpListIn Exit.then Exit.inBlock X.Out X.Back X.W X.Ev X.Con X.BinV X.Wh X.Wn X.Wq
def on (d : Dep) (t : Int) : Bool := decide (d.frm ≤ t) && decide (t < d.to)
theorem on_con (d : Dep) (t : Int) (S : SH) : Con Try.prog 34 #[.agg #[.int .i64 d.service, .int .i64 d.version, .int .i64 d.frm, .int .i64 d.to], .int .i64 t] S [] (Pure S (.bool (on d t))) := by
  refine con_of (args := [.agg #[.int .i64 d.service, .int .i64 d.version, .int .i64 d.frm, .int .i64 d.to], .int .i64 t]) Try.func34 rfl Try.ntmps34 rfl fun w => ?_
  by_cases h1 : d.frm ≤ t
  all_goals by_cases h2 : t < d.to
  all_goals (repeat (first | refine Jz ?_ | intro _))
  all_goals
    refine o_ret Try.results34 rfl (by repeat (first | exact List.Sublist.refl _ | exact List.Sublist.slnil | exact List.nil_sublist _ | exact List.sublist_append_left _ _ | refine List.Sublist.cons_cons _ ?_ | refine List.Sublist.append (List.Sublist.refl _) ?_ | refine List.Sublist.cons _ ?_)) ⟨rfl, rfl, ?_⟩
    simp [on, h1, h2]
def inR := inB
theorem rin_con (n lo hi : Int) (S : SH) : Con Try.prog 33 #[.int .i64 n, .int .i64 lo, .int .i64 hi] S [] (Pure S (.bool (inB n lo hi))) := by
  refine con_of (args := [.int .i64 n, .int .i64 lo, .int .i64 hi]) Try.func33 rfl Try.ntmps33 rfl fun w => ?_
  by_cases h1 : lo ≤ n
  all_goals by_cases h2 : n ≤ hi
  all_goals (repeat (first | refine Jz ?_ | intro _))
  all_goals refine o_ret Try.results33 rfl .slnil ⟨rfl, rfl, ?_⟩
  all_goals simp [inB, h1, h2]
def pick (c n : Int) : Int := (if c < 0 then -(c + 1) else c) % n
theorem pick_con (c n : Int) (S : SH) (hc : -9223372036854775808 ≤ c ∧ c ≤ 9223372036854775807) (hn : 0 < n) : Con Try.prog 17 #[.int .i64 c, .int .i64 n] S [] (Pure S (.int .i64 (pick c n))) := by
  refine con_of (args := [.int .i64 c, .int .i64 n]) Try.func17 rfl Try.ntmps17 rfl fun w => ?_
  by_cases h1 : c < 0
  all_goals (repeat (first | refine Jz ?_ | intro _))
  all_goals
    refine o_ret Try.results17 rfl (by repeat (first | exact List.Sublist.refl _ | exact List.Sublist.slnil | exact List.nil_sublist _ | exact List.sublist_append_left _ _ | refine List.Sublist.cons_cons _ ?_ | refine List.Sublist.append (List.Sublist.refl _) ?_ | refine List.Sublist.cons _ ?_)) ⟨rfl, rfl, ?_⟩
    simp [pick, h1]
theorem rpick_con (c n : Int) (S : SH) (hc : -9223372036854775808 ≤ c ∧ c ≤ 9223372036854775807) (hn : 0 < n) : Con Try.prog 42 #[.int .i64 c, .int .i64 n] S [] (Pure S (.int .i64 (pick c n))) := by
  refine con_of (args := [.int .i64 c, .int .i64 n]) Try.func42 rfl Try.ntmps42 rfl fun w => ?_
  by_cases h1 : c < 0
  all_goals (repeat (first | refine Jz ?_ | intro _))
  all_goals
    refine o_ret Try.results42 rfl (by repeat (first | exact List.Sublist.refl _ | exact List.Sublist.slnil | exact List.nil_sublist _ | exact List.sublist_append_left _ _ | refine List.Sublist.cons_cons _ ?_ | refine List.Sublist.append (List.Sublist.refl _) ?_ | refine List.Sublist.cons _ ?_)) ⟨rfl, rfl, ?_⟩
    simp [pick, h1]
def alike (a b : Dep) : Bool := (a.frm == b.frm && a.to == b.to) || (a.frm == a.to && b.frm == b.to)
theorem alike_con (a b : Dep) (S : SH) : Con Try.prog 41 #[.agg #[.int .i64 a.service, .int .i64 a.version, .int .i64 a.frm, .int .i64 a.to], .agg #[.int .i64 b.service, .int .i64 b.version, .int .i64 b.frm, .int .i64 b.to]] S [] (Pure S (.bool (alike a b))) := by
  refine con_of (args := [.agg #[.int .i64 a.service, .int .i64 a.version, .int .i64 a.frm, .int .i64 a.to], .agg #[.int .i64 b.service, .int .i64 b.version, .int .i64 b.frm, .int .i64 b.to]]) Try.func41 rfl Try.ntmps41 rfl fun w => ?_
  by_cases h1 : a.frm = b.frm
  all_goals by_cases h2 : a.to = b.to
  rotate_left
  all_goals by_cases h3 : a.frm = a.to
  all_goals by_cases h4 : b.frm = b.to
  all_goals try (exfalso; omega)
  all_goals (repeat (first | refine Jz ?_ | intro _))
  all_goals
    refine o_ret Try.results41 rfl (by repeat (first | exact List.Sublist.refl _ | exact List.Sublist.slnil | exact List.nil_sublist _ | exact List.sublist_append_left _ _ | refine List.Sublist.cons_cons _ ?_ | refine List.Sublist.append (List.Sublist.refl _) ?_ | refine List.Sublist.cons _ ?_)) ⟨rfl, rfl, ?_⟩
    refine congrArg Value.bool (Eq.symm ?_)
    simp [alike]
    omega
theorem same_con (a b : List Int) (A B : Option Addr) (c e : Nat) (S : SH) (hA : At S A a) (hB : At S B b) (ha : a.length ≤ 1000000000) :
    Con Try.prog 16 #[.slice A a.length c, .slice B b.length e] S [] (Pure S (.bool (a == b))) := by
  refine con_of (args := [.slice A a.length c, .slice B b.length e]) Try.func16 rfl Try.ntmps16 rfl fun w => ?_
  by_cases hl : a.length = b.length
  · (repeat (first | refine Jz ?_ | intro _))
    refine c_loop (fun m S' L F => S' = S ∧ L = [] ∧ ∃ k : Nat, m = a.length - k ∧ k ≤ a.length ∧ a.take k = b.take k ∧
      F = [(0, .slice A a.length c), (1, .slice B b.length e), (5, .int .i64 k)]) ⟨rfl, rfl, 0, rfl, by omega, by simp, rfl⟩ (by repeat (first | exact Sub.nil rfl | exact Sub.marked rfl | refine Sub.cons rfl ?_)) (by repeat (first | exact List.Sublist.refl _ | exact List.Sublist.slnil | exact List.nil_sublist _ | exact List.sublist_append_left _ _ | refine List.Sublist.cons_cons _ ?_ | refine List.Sublist.append (List.Sublist.refl _) ?_ | refine List.Sublist.cons _ ?_)) ?_
    rintro m S' L F ⟨rfl, rfl, k, rfl, hk, hall, rfl⟩
    by_cases hlt : k < a.length
    · obtain ⟨x, hx⟩ := at_lt hlt
      obtain ⟨y, hy⟩ := at_lt (show k < b.length by omega)
      by_cases hxy : x = y
      all_goals
        (repeat (first | refine Jz ?_ | intro _))
        (repeat (first | (apply q_idx hA; (case hg => rfl); (case hd => rfl); (case hx => rfl); (case hi => rfl); (case hm => rfl); (case hu => exact hx); intro p (hp : Pts _ p [_])) | (apply q_idx hB; (case hg => rfl); (case hd => rfl); (case hx => rfl); (case hi => rfl); (case hm => rfl); (case hu => exact hy); intro q (hq : Pts _ q [_])) | (apply q_ev; (case hg => rfl); (case hd => rfl); (case he => (apply ev_load1; (case hx => rfl); (case h => exact hp)))) | (apply q_ev; (case hg => rfl); (case hd => rfl); (case he => (apply ev_load1; (case hx => rfl); (case h => exact hq)))) | refine Jd ?_))
        (repeat (first | refine Jz ?_ | intro _))
      · refine q_back (m' := a.length - (k + 1)) ⟨rfl, rfl, k + 1, rfl, by omega, ?_, rfl⟩ (by omega) (by repeat (first | exact Sub.nil rfl | exact Sub.marked rfl | refine Sub.cons rfl ?_)) (by repeat (first | exact List.Sublist.refl _ | exact List.Sublist.slnil | exact List.nil_sublist _ | exact List.sublist_append_left _ _ | refine List.Sublist.cons_cons _ ?_ | refine List.Sublist.append (List.Sublist.refl _) ?_ | refine List.Sublist.cons _ ?_))
        rw [List.take_add_one, List.take_add_one, hall, hx, hy, hxy]
      · refine o_ret Try.results16 rfl (by repeat (first | exact List.Sublist.refl _ | exact List.Sublist.slnil | exact List.nil_sublist _ | exact List.sublist_append_left _ _ | refine List.Sublist.cons_cons _ ?_ | refine List.Sublist.append (List.Sublist.refl _) ?_ | refine List.Sublist.cons _ ?_)) ⟨rfl, rfl, ?_⟩
        have : a ≠ b := fun e => by subst e; rw [hx] at hy; exact hxy (Option.some.inj hy)
        simp [this]
    · (repeat (first | refine Jz ?_ | intro _))
      refine o_ret Try.results16 rfl (by repeat (first | exact List.Sublist.refl _ | exact List.Sublist.slnil | exact List.nil_sublist _ | exact List.sublist_append_left _ _ | refine List.Sublist.cons_cons _ ?_ | refine List.Sublist.append (List.Sublist.refl _) ?_ | refine List.Sublist.cons _ ?_)) ⟨rfl, rfl, ?_⟩
      rw [List.take_of_length_le (by omega), List.take_of_length_le (by omega)] at hall
      simp [hall]
  · (repeat (first | refine Jz ?_ | intro _))
    refine o_ret Try.results16 rfl (by repeat (first | exact List.Sublist.refl _ | exact List.Sublist.slnil | exact List.nil_sublist _ | exact List.sublist_append_left _ _ | refine List.Sublist.cons_cons _ ?_ | refine List.Sublist.append (List.Sublist.refl _) ?_ | refine List.Sublist.cons _ ?_)) ⟨rfl, rfl, ?_⟩
    have : a ≠ b := fun e => hl (by rw [e])
    simp [this]
theorem has_con (l : List Int) (n : Int) (A : Option Addr) (c : Nat) (S : SH) (hA : At S A l) (ha : l.length ≤ 1000000000) :
    Con Try.prog 29 #[.slice A l.length c, .int .i64 n] S [] (Pure S (.bool (l.contains n))) := by
  refine con_of (args := [.slice A l.length c, .int .i64 n]) Try.func29 rfl Try.ntmps29 rfl fun w => ?_
  (repeat (first | refine Jz ?_ | intro _))
  refine c_loop (fun m S' L F => S' = S ∧ L = [] ∧ ∃ k : Nat, m = l.length - k ∧ k ≤ l.length ∧ (l.take k).contains n = false ∧
      F = [(0, .slice A l.length c), (1, .int .i64 n), (5, .int .i64 k)]) ⟨rfl, rfl, 0, rfl, by omega, by simp, rfl⟩ (by repeat (first | exact Sub.nil rfl | exact Sub.marked rfl | refine Sub.cons rfl ?_)) (by repeat (first | exact List.Sublist.refl _ | exact List.Sublist.slnil | exact List.nil_sublist _ | exact List.sublist_append_left _ _ | refine List.Sublist.cons_cons _ ?_ | refine List.Sublist.append (List.Sublist.refl _) ?_ | refine List.Sublist.cons _ ?_)) ?_
  rintro m S' L F ⟨rfl, rfl, k, rfl, hk, hall, rfl⟩
  by_cases hlt : k < l.length
  · obtain ⟨x, hx⟩ := at_lt hlt
    by_cases hxy : x = n
    all_goals (repeat (first | refine Jc ?_ | (apply s_idx hA; (case hg => rfl); (case hd => rfl); (case hx => rfl); (case hi => rfl); (case hm => rfl); (case hu => exact hx); intro p (hp : Pts _ p [_])) | (apply s_load1; (case hg => rfl); (case hd => rfl); (case hx => rfl); (case hv => exact hp)) | refine Jo ?_ | intro _))
    · refine o_ret Try.results29 rfl (by repeat (first | exact List.Sublist.refl _ | exact List.Sublist.slnil | exact List.nil_sublist _ | exact List.sublist_append_left _ _ | refine List.Sublist.cons_cons _ ?_ | refine List.Sublist.append (List.Sublist.refl _) ?_ | refine List.Sublist.cons _ ?_)) ⟨rfl, rfl, ?_⟩
      have : n ∈ l := hxy ▸ List.mem_of_getElem? hx
      simp [this]
    · refine q_back (m' := l.length - (k + 1)) ⟨rfl, rfl, k + 1, rfl, by omega, ?_, rfl⟩ (by omega) (by repeat (first | exact Sub.nil rfl | exact Sub.marked rfl | refine Sub.cons rfl ?_)) (by repeat (first | exact List.Sublist.refl _ | exact List.Sublist.slnil | exact List.nil_sublist _ | exact List.sublist_append_left _ _ | refine List.Sublist.cons_cons _ ?_ | refine List.Sublist.append (List.Sublist.refl _) ?_ | refine List.Sublist.cons _ ?_))
      rw [List.take_add_one, hx]
      simp at hall
      simp [hall, Ne.symm hxy]
  · (repeat (first | refine Jz ?_ | intro _))
    refine o_ret Try.results29 rfl (by repeat (first | exact List.Sublist.refl _ | exact List.Sublist.slnil | exact List.nil_sublist _ | exact List.sublist_append_left _ _ | refine List.Sublist.cons_cons _ ?_ | refine List.Sublist.append (List.Sublist.refl _) ?_ | refine List.Sublist.cons _ ?_)) ⟨rfl, rfl, ?_⟩
    rw [List.take_of_length_le (by omega)] at hall
    rw [hall]
theorem part_con (l m : List Int) (A B : Option Addr) (c e : Nat) (S : SH) (hA : At S A l) (hB : At S B m) (ha : l.length ≤ 1000000000) (hm : m.length ≤ 1000000000) :
    Con Try.prog 30 #[.slice A l.length c, .slice B m.length e] S [] (Pure S (.bool (l.all m.contains))) := by
  refine con_of (args := [.slice A l.length c, .slice B m.length e]) Try.func30 rfl Try.ntmps30 rfl fun w => ?_
  (repeat (first | refine Jz ?_ | intro _))
  refine c_loop (fun q S' L F => S' = S ∧ L = [] ∧ ∃ k : Nat, q = l.length - k ∧ k ≤ l.length ∧ (l.take k).all m.contains = true ∧
      F = [(0, .slice A l.length c), (1, .slice B m.length e), (5, .int .i64 k)]) ⟨rfl, rfl, 0, rfl, by omega, by simp, rfl⟩ (by repeat (first | exact Sub.nil rfl | exact Sub.marked rfl | refine Sub.cons rfl ?_)) (by repeat (first | exact List.Sublist.refl _ | exact List.Sublist.slnil | exact List.nil_sublist _ | exact List.sublist_append_left _ _ | refine List.Sublist.cons_cons _ ?_ | refine List.Sublist.append (List.Sublist.refl _) ?_ | refine List.Sublist.cons _ ?_)) ?_
  rintro q S' L F ⟨rfl, rfl, k, rfl, hk, hall, rfl⟩
  by_cases hlt : k < l.length
  · obtain ⟨x, hx⟩ := at_lt hlt
    cases hxy : m.contains x
    all_goals (repeat (first | refine Jc ?_ | (apply s_idx hA; (case hg => rfl); (case hd => rfl); (case hx => rfl); (case hi => rfl); (case hm => rfl); (case hu => exact hx); intro p (hp : Pts _ p [_])) | (apply s_load1; (case hg => rfl); (case hd => rfl); (case hx => rfl); (case hv => exact hp)) | (apply z_call; rfl; rfl; rfl; exact (has_con m x B e _ hB hm).eq (congrArg Value.bool hxy); rintro _ _ _ - ⟨rfl, rfl, rfl⟩) | refine Jo ?_ | intro _))
    · refine o_ret Try.results30 rfl (by repeat (first | exact List.Sublist.refl _ | exact List.Sublist.slnil | exact List.nil_sublist _ | exact List.sublist_append_left _ _ | refine List.Sublist.cons_cons _ ?_ | refine List.Sublist.append (List.Sublist.refl _) ?_ | refine List.Sublist.cons _ ?_)) ⟨rfl, rfl, ?_⟩
      rw [all_f (p := m.contains) hx hxy]
    · exact q_back (m' := l.length - (k + 1)) ⟨rfl, rfl, k + 1, rfl, by omega, all_take hx hxy hall, rfl⟩ (by omega) (by repeat (first | exact Sub.nil rfl | exact Sub.marked rfl | refine Sub.cons rfl ?_)) (by repeat (first | exact List.Sublist.refl _ | exact List.Sublist.slnil | exact List.nil_sublist _ | exact List.sublist_append_left _ _ | refine List.Sublist.cons_cons _ ?_ | refine List.Sublist.append (List.Sublist.refl _) ?_ | refine List.Sublist.cons _ ?_))
  · (repeat (first | refine Jz ?_ | intro _))
    refine o_ret Try.results30 rfl (by repeat (first | exact List.Sublist.refl _ | exact List.Sublist.slnil | exact List.nil_sublist _ | exact List.sublist_append_left _ _ | refine List.Sublist.cons_cons _ ?_ | refine List.Sublist.append (List.Sublist.refl _) ?_ | refine List.Sublist.cons _ ?_)) ⟨rfl, rfl, ?_⟩
    rw [all_of (by omega) hall]
end Go.Proofs.Ytmonkjbhoabhhaa
namespace Go.Proofs.Ytmonkjbhoabhhaa
open Go Go.X
set_option maxRecDepth 10000
set_option linter.unusedVariables false
attribute [local irreducible] Code.wpIn wpListIn Exit.then Exit.inBlock X.Out X.Back X.W X.Ev X.Con X.BinV X.Wh X.Wn X.Wq
/-- A set: which of twenty numbers are in it. -/
def bits (p : Nat → Bool) : List Value := (List.range 20).map fun i => .bool (p i)
theorem bits_len (p : Nat → Bool) : (bits p).length = 20 := by simp [bits]
theorem bits_at (p : Nat → Bool) (k : Nat) (h : k < 20) : (bits p)[k]? = some (.bool (p k)) := by simp [bits, h]
theorem bits_set (p : Nat → Bool) (k : Nat) (b : Bool) : (bits p).set k (.bool b) = bits fun i => if i = k then b else p i := by
  apply List.ext_getElem?
  intro i
  rw [List.getElem?_set]
  simp only [bits, List.getElem?_map]
  by_cases hi : k = i
  · subst hi; by_cases hk : k < 20 <;> simp [hk]
  · by_cases hk : i < 20 <;> simp [hk, hi, Ne.symm hi]
theorem bits_congr {p q : Nat → Bool} (h : ∀ i, i < 20 → p i = q i) : bits p = bits q := by
  apply List.map_congr_left; intro i hi; rw [h i (by simpa using hi)]
theorem bits_one (p : Nat → Bool) : (bits p).all (·.oneCell') = true := by simp [bits, Value.oneCell']
theorem bits_zero : bits (fun _ => false) = [.bool false, .bool false, .bool false, .bool false, .bool false, .bool false, .bool false, .bool false, .bool false, .bool false, .bool false, .bool false, .bool false, .bool false, .bool false, .bool false, .bool false, .bool false, .bool false, .bool false] := rfl
/-- Whether deployment i is active at t. -/
def onAt (ds : List Dep) (t : Int) (i : Nat) : Bool := match ds[i]? with | some d => on d t | none => false
theorem active_con (ds : List Dep) (t : Int) (A : Option Addr) (c : Nat) (S : SH) (hA : At S A ds) (hd : ds.length ≤ 20) :
    Con Try.prog 31 #[.slice A ds.length c, .int .i64 t] S [] (Pure S (.agg (bits (onAt ds t)).toArray)) := by
  refine con_of (args := [.slice A ds.length c, .int .i64 t]) Try.func31 rfl Try.ntmps31 rfl fun w => ?_
  (repeat (first | refine Jz ?_ | intro _))
  rename_i b4 b5
  refine c_loop (fun m S' L F => S' = S ∧ ∃ k : Nat, m = ds.length - k ∧ k ≤ ds.length ∧
      L = [(b5, .cells (bits (fun i => decide (i < k) && onAt ds t i)).toArray 57 (0, 0)), (b4, .cells (bits fun _ => false).toArray 57 (0, 0))] ∧
      F = [(0, .slice A ds.length c), (1, .int .i64 t), (4, .pointer (some ⟨b4, 0, none⟩)), (5, .pointer (some ⟨b5, 0, none⟩)), (8, .slice A ds.length c), (9, .int .i64 ds.length), (10, .int .i64 k)])
      ⟨rfl, 0, rfl, by omega, rfl, rfl⟩ (by repeat (first | exact Sub.nil rfl | exact Sub.marked rfl | refine Sub.cons rfl ?_)) (by repeat (first | exact List.Sublist.refl _ | exact List.Sublist.slnil | exact List.nil_sublist _ | exact List.sublist_append_left _ _ | refine List.Sublist.cons_cons _ ?_ | refine List.Sublist.append (List.Sublist.refl _) ?_ | refine List.Sublist.cons _ ?_)) ?_
  rintro m S' L F ⟨rfl, k, rfl, hk, rfl, rfl⟩
  by_cases hlt : k < ds.length
  · obtain ⟨d, hx⟩ := at_lt hlt
    by_cases h1 : d.frm ≤ t
    all_goals by_cases h2 : t < d.to
    all_goals
      (repeat (first | refine Jc ?_ | (apply s_idx hA; (case hg => rfl); (case hd => rfl); (case hx => rfl); (case hi => rfl); (case hm => rfl); (case hu => exact hx); intro p (hp : Pts _ p [_, _, _, _])) | (apply s_load_ag; (case hg => rfl); (case hd => rfl); (case hx => rfl); (case hv => exact hp); (case hl => rfl)) | refine Jo ?_ | intro _))
      apply s_store
      (case hg => rfl); (case hx => rfl); (case hy => rfl); (case h1 => rfl); (case hL => (repeat (first | exact Upd.head | apply Upd.tail | apply Upd.app))); (case hu => exact bits_at _ _ (by omega))
      rw [bits_set]
      (repeat (first | refine Jz ?_ | intro _))
      refine q_back (m' := ds.length - (k + 1)) ⟨rfl, k + 1, rfl, by omega, ?_, rfl⟩ (by omega) (by repeat (first | exact Sub.nil rfl | exact Sub.marked rfl | refine Sub.cons rfl ?_)) (List.Sublist.cons _ (List.Sublist.refl _))
      refine congrArg (fun l => [(b5, Obj.cells (List.toArray l) 57 (0, 0)), _]) (bits_congr fun i hi => ?_)
      have e : onAt ds t k = on d t := by simp [onAt, hx]
      by_cases hik : i = k
      · subst hik; simp [e, on, h1, h2]
      · simp [hik, show (i < k + 1) = (i < k) from by apply propext; omega]
  · (repeat (first | refine Jz ?_ | intro _))
    refine o_ret_cell Try.results31 rfl (by repeat (first | exact List.Mem.head _ | refine List.Mem.tail _ ?_ | exact List.mem_append_right _ (List.Mem.head _))) rfl (by repeat (first | exact List.Sublist.refl _ | exact List.Sublist.slnil | exact List.nil_sublist _ | exact List.sublist_append_left _ _ | refine List.Sublist.cons_cons _ ?_ | refine List.Sublist.append (List.Sublist.refl _) ?_ | refine List.Sublist.cons _ ?_)) ⟨rfl, rfl, congrArg (fun l => Value.agg (List.toArray l)) (bits_congr fun i hi => ?_)⟩
    by_cases hik : i < k
    · simp [hik]
    · have : ds[i]? = none := List.getElem?_eq_none (by omega)
      simp [hik, onAt, this]
/-- The numbers below n that meet p. -/
def idxs (p : Nat → Bool) (n : Nat) : List Int := ((List.range n).filter p).map Int.ofNat
theorem idxs_len (p : Nat → Bool) (n : Nat) : (idxs p n).length ≤ n := by
  have := List.length_filter_le p (List.range n); simpa [idxs] using this
theorem idxs_t {p : Nat → Bool} {n : Nat} (h : p n = true) : idxs p (n + 1) = idxs p n ++ [(n : Int)] := by simp [idxs, List.range_succ, h]
theorem idxs_f {p : Nat → Bool} {n : Nat} (h : p n = false) : idxs p (n + 1) = idxs p n := by simp [idxs, List.range_succ, h]
theorem list_con (p : Nat → Bool) (S : SH) :
    Con Try.prog 32 #[.agg (bits p).toArray] S [] (fun S' L' v => L' = [] ∧ Sr S' v (idxs p 20)) := by
  refine con_of (args := [.agg (bits p).toArray]) Try.func32 rfl Try.ntmps32 rfl fun w => ?_
  (repeat (first | refine Jz ?_ | intro _))
  rename_i b1
  refine c_loop (fun m S' L F => S' = S ∧ ∃ (k : Nat) (v : Value) (ob : Blocks), m = 20 - k ∧ k ≤ 20 ∧ Ows 3 v (idxs p k) ob ∧ L = ob ∧
      F = [(3, v), (6, .agg (bits p).toArray), (7, .int .i64 k)]) ⟨rfl, 0, _, _, rfl, by omega, Ows.nil 3, rfl, rfl⟩ (by repeat (first | exact Sub.nil rfl | exact Sub.marked rfl | refine Sub.cons rfl ?_)) (by repeat (first | exact List.Sublist.refl _ | exact List.Sublist.slnil | exact List.nil_sublist _ | exact List.sublist_append_left _ _ | refine List.Sublist.cons_cons _ ?_ | refine List.Sublist.append (List.Sublist.refl _) ?_ | refine List.Sublist.cons _ ?_)) ?_
  rintro m S' L F ⟨rfl, k, v, ob, rfl, hk, ho, rfl, rfl⟩
  by_cases hlt : k < 20
  · have hlen := idxs_len p k
    cases hp : p k
    all_goals have hb := bits_at p k hlt
    all_goals rw [hp] at hb
    all_goals (repeat (first | refine Jc ?_ | (apply s_index_a; (case hg => rfl); (case hd => rfl); (case hx => rfl); (case hi => rfl); (case hk => exact hlt); (case hv => exact hb)) | (apply s_append (ms := [(k : Int)]); (case hg => rfl); (case hd => rfl); (case hx => rfl); (case ho => exact ho); (case hL => (repeat (first | exact pm_nil _ | exact pm_refl _ _ | exact pm_self _ | apply pm_cons | apply pm_app))); (case hy => rfl); (case hm => rfl); (case hs => (apply Src.own; (repeat (first | exact List.Mem.head _ | apply List.Mem.tail | apply List.mem_append_right)))); (case hzs => rfl); (case h0 => decide); (case hb => (simp; omega)); (case h63 => (simp; omega)); intro v' ob' ho') | refine Jo ?_ | intro _))
    · refine q_back (m' := 20 - (k + 1)) ⟨rfl, k + 1, v, L, rfl, by omega, by rw [idxs_f hp]; exact ho, rfl, rfl⟩ (by omega) (by repeat (first | exact Sub.nil rfl | exact Sub.marked rfl | refine Sub.cons rfl ?_)) (by repeat (first | exact List.Sublist.refl _ | exact List.Sublist.slnil | exact List.nil_sublist _ | exact List.sublist_append_left _ _ | refine List.Sublist.cons_cons _ ?_ | refine List.Sublist.append (List.Sublist.refl _) ?_ | refine List.Sublist.cons _ ?_))
    · refine q_back (m' := 20 - (k + 1)) ⟨rfl, k + 1, v', ob', rfl, by omega, by rw [idxs_t hp]; exact ho', rfl, rfl⟩ (by omega) (by repeat (first | exact Sub.nil rfl | exact Sub.marked rfl | refine Sub.cons rfl ?_)) (by repeat (first | exact List.Sublist.refl _ | exact List.Sublist.slnil | exact List.nil_sublist _ | exact List.sublist_append_left _ _ | refine List.Sublist.cons_cons _ ?_ | refine List.Sublist.append (List.Sublist.refl _) ?_ | refine List.Sublist.cons _ ?_))
  · obtain rfl : k = 20 := by omega
    (repeat (first | refine Jz ?_ | intro _))
    refine W.freezeOws ho (by repeat (first | exact pm_nil _ | exact pm_refl _ _ | exact pm_self _ | refine pm_cons ?_ | refine pm_app ?_)) fun S1 hle hr => ?_
    exact o_ret Try.results32 rfl (by repeat (first | exact List.Sublist.refl _ | exact List.Sublist.slnil | exact List.nil_sublist _ | exact List.sublist_append_left _ _ | refine List.Sublist.cons_cons _ ?_ | refine List.Sublist.append (List.Sublist.refl _) ?_ | refine List.Sublist.cons _ ?_)) ⟨rfl, hr⟩
end Go.Proofs.Ytmonkjbhoabhhaa
namespace Go.Proofs.Ytmonkjbhoabhhaa
open Go Go.X
set_option maxRecDepth 10000
set_option linter.unusedVariables false
attribute [local irreducible] Code.wpIn wpListIn Exit.then Exit.inBlock X.Out X.Back X.W X.Ev X.Con X.BinV X.Wh X.Wn X.Wq
theorem and_con (p q : Nat → Bool) (S : SH) : Con Try.prog 46 #[.agg (bits p).toArray, .agg (bits q).toArray] S [] (Pure S (.agg (bits fun i => p i && q i).toArray)) := by
  refine con_of (args := [.agg (bits p).toArray, .agg (bits q).toArray]) Try.func46 rfl Try.ntmps46 rfl fun w => ?_
  (repeat (first | refine Jz ?_ | intro _))
  rename_i b2 b3 b4
  refine c_loop (fun m S' L F => S' = S ∧ ∃ k : Nat, m = 20 - k ∧ k ≤ 20 ∧
      L = [(b4, .cells (bits fun _ => false).toArray 57 (0, 0)), (b3, .cells (bits q).toArray 57 (0, 0)), (b2, .cells (bits fun i => p i && (q i || decide (k ≤ i))).toArray 57 (0, 0))] ∧
      F = [(2, .pointer (some ⟨b2, 0, none⟩)), (3, .pointer (some ⟨b3, 0, none⟩)), (4, .pointer (some ⟨b4, 0, none⟩)), (6, .int .i64 k)])
      ⟨rfl, 0, rfl, by omega, rfl, rfl⟩ (by repeat (first | exact Sub.nil rfl | exact Sub.marked rfl | refine Sub.cons rfl ?_)) (by rw [show (fun i => p i && (q i || decide (0 ≤ i))) = p from by funext i; simp]; exact List.Sublist.refl _) ?_
  rintro m S' L F ⟨rfl, k, rfl, hk, rfl, rfl⟩
  by_cases hlt : k < 20
  · cases hp : p k
    all_goals cases hq : q k
    all_goals have hb := bits_at (fun i => p i && (q i || decide (k ≤ i))) k hlt
    all_goals have hc := bits_at q k hlt
    all_goals simp only [hp, hq, Nat.le_refl, decide_true, Bool.or_true, Bool.and_true, Bool.and_self] at hb hc
    all_goals
      (repeat (first | refine Jc ?_ | (apply s_load_own; (case hg => rfl); (case hd => rfl); (case hx => rfl); (case hm => (repeat (first | exact List.Mem.head _ | apply List.Mem.tail | apply List.mem_append_right))); (case hv => first | exact hb | exact hc)) | refine Jo ?_ | intro _))
      apply s_store
      (case hg => rfl); (case hx => rfl); (case hy => rfl); (case h1 => rfl); (case hL => (repeat (first | exact Upd.head | apply Upd.tail | apply Upd.app))); (case hu => exact hb)
      rw [bits_set]
      (repeat (first | refine Jz ?_ | intro _))
      refine q_back (m' := 20 - (k + 1)) ⟨rfl, k + 1, rfl, by omega, ?_, rfl⟩ (by omega) (by repeat (first | exact Sub.nil rfl | exact Sub.marked rfl | refine Sub.cons rfl ?_)) (List.Sublist.refl _)
      refine congrArg (fun l => [_, _, (b2, Obj.cells (List.toArray l) 57 (0, 0))]) (bits_congr fun i hi => ?_)
      by_cases hik : i = k
      · subst hik; simp [hp, hq]
      · simp [hik, show (k + 1 ≤ i) = (k ≤ i) from by apply propext; omega]
  · (repeat (first | refine Jz ?_ | intro _))
    refine o_ret_cell Try.results46 rfl (by repeat (first | exact List.Mem.head _ | refine List.Mem.tail _ ?_ | exact List.mem_append_right _ (List.Mem.head _))) rfl (by repeat (first | exact List.Sublist.refl _ | exact List.Sublist.slnil | exact List.nil_sublist _ | exact List.sublist_append_left _ _ | refine List.Sublist.cons_cons _ ?_ | refine List.Sublist.append (List.Sublist.refl _) ?_ | refine List.Sublist.cons _ ?_)) ⟨rfl, rfl, congrArg (fun l => Value.agg (List.toArray l)) (bits_congr fun i hi => ?_)⟩
    simp [show ¬ k ≤ i by omega]
/-- A result with an error code beside it. -/
def Two (φ : SH → Value → Prop) (e : Int) : SH → Blocks → Value → Prop := fun S' L' v => L' = [] ∧ ∃ u, v = .tuple #[u, .int .i64 e] ∧ φ S' u
def actives (ds : List Dep) (t : Int) : List Int := idxs (onAt ds t) ds.length
theorem idxs_more {p : Nat → Bool} {n m : Nat} (h : n ≤ m) (hp : ∀ i, n ≤ i → p i = false) : idxs p m = idxs p n := by
  induction m with
  | zero => simp [show n = 0 by omega]
  | succ m ih =>
    by_cases hm : n = m + 1
    · rw [hm]
    · rw [idxs_f (hp m (by omega)), ih (by omega)]
theorem onAt_none {ds : List Dep} {t : Int} {i : Nat} (h : ds.length ≤ i) : onAt ds t i = false := by simp [onAt, List.getElem?_eq_none h]
theorem onAt_some {ds : List Dep} {t : Int} {i : Nat} {d : Dep} (h : ds[i]? = some d) : onAt ds t i = on d t := by simp [onAt, h]
def validB (ds : List Dep) (ls : List Tri) : Bool := ds.all Dep.ok && ls.all Tri.ok && decide (ds.length ≤ 20) && decide (ls.length ≤ 60)
theorem validB_len {ds : List Dep} {ls : List Tri} (h : validB ds ls = true) : ds.length ≤ 20 ∧ ls.length ≤ 60 := by simp [validB] at h; omega
theorem valid_c {ds : List Dep} {ls : List Tri} {A B : Option Addr} {c e : Nat} {S : SH} {b : Bool} (h : validB ds ls = b) (hA : At S A ds) (hB : At S B ls) (hd : ds.length ≤ 1000000) (hl : ls.length ≤ 1000000) :
    Con Try.prog 14 #[.slice A ds.length c, .slice B ls.length e] S [] (Pure S (.bool b)) := h ▸ valid_con ds ls A B c e S hA hB hd hl
theorem Active_con (ds : List Dep) (t : Int) (A : Option Addr) (c : Nat) (S : SH) (hA : At S A ds) (hd : ds.length ≤ 1000000) (b : Bool) (h : validB ds [⟨t, false⟩] = b) :
    Con Try.prog 10 #[.slice A ds.length c, .int .i64 t] S [] (Two (fun S' u => Sr S' u (if b then actives ds t else [])) (if b then 0 else 290)) := by
  refine con_of (args := [.slice A ds.length c, .int .i64 t]) Try.func10 rfl Try.ntmps10 rfl fun w => ?_
  cases b
  · (repeat (first | refine Jz ?_ | intro _))
    refine W.freeze fun S1 hle hb => ?_
    (repeat (first | refine Jc ?_ | (apply z_call; rfl; rfl; rfl; exact valid_c (e := 1) (ls := [⟨t, false⟩]) h (hA.le hle) (fun _ => ⟨_, rfl, pts_block hb rfl⟩) hd (by simp); rintro _ _ _ - ⟨rfl, rfl, rfl⟩) | refine Jo ?_ | intro _))
    exact o_ret2 Try.results10 rfl rfl (by repeat (first | exact List.Sublist.refl _ | exact List.Sublist.slnil | exact List.nil_sublist _ | exact List.sublist_append_left _ _ | refine List.Sublist.cons_cons _ ?_ | refine List.Sublist.append (List.Sublist.refl _) ?_ | refine List.Sublist.cons _ ?_)) ⟨rfl, _, rfl, Sr.nil _⟩
  · (repeat (first | refine Jz ?_ | intro _))
    refine W.freeze fun S1 hle hb => ?_
    have hl := validB_len h
    (repeat (first | refine Jc ?_ | (apply z_call; rfl; rfl; rfl; exact valid_c (e := 1) (ls := [⟨t, false⟩]) h (hA.le hle) (fun _ => ⟨_, rfl, pts_block hb rfl⟩) hd (by simp); rintro _ _ _ - ⟨rfl, rfl, rfl⟩) | (apply z_call; rfl; rfl; rfl; exact active_con ds t A c _ (hA.le hle) hl.1; rintro _ _ _ - ⟨rfl, rfl, rfl⟩) | (apply z_call; rfl; rfl; rfl; exact list_con _ _; rintro S2 _ v hle2 ⟨rfl, hr⟩) | refine Jo ?_ | intro _))
    refine o_ret2 Try.results10 rfl rfl (by repeat (first | exact List.Sublist.refl _ | exact List.Sublist.slnil | exact List.nil_sublist _ | exact List.sublist_append_left _ _ | refine List.Sublist.cons_cons _ ?_ | refine List.Sublist.append (List.Sublist.refl _) ?_ | refine List.Sublist.cons _ ?_)) ⟨rfl, _, rfl, ?_⟩
    rw [idxs_more hl.1 (fun i hi => onAt_none hi)] at hr
    exact hr
end Go.Proofs.Ytmonkjbhoabhhaa
