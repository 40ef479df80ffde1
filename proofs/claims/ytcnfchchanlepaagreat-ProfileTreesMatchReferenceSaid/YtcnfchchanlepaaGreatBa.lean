/- Contracts of functions of this program, each proved by a walk through its code, and plain lemmas on what they compute; on no condition beyond those that each theorem states. -/
import Derived.Test.YtcnfchchanlepaaGreatPFacts
import Derived.Test.YtcnfchchanlepaaGreatXA
import Derived.Test.YtcnfchchanlepaaGreatXB
namespace Go.Proofs.YtcnfchchanlepaaGreat
open Go Go.X
set_option maxRecDepth 10000
set_option linter.unusedVariables false
attribute [local irreducible] Code.wpIn wpListIn Exit.then Exit.inBlock X.Out X.Back X.W X.Ev X.Con X.BinV X.Wh X.Wn X.Wq
def i64 (x : Int) : Prop := -9223372036854775808 ≤ x ∧ x ≤ 9223372036854775807
/-- Symbols, stacks, nodes and changes as they lie in memory. -/
structure Sym where
  version : Int
  from_ : Int
  to : Int
  name : Bs
structure Stk where
  version : Int
  frames : Sv
  weight : Int
structure Nd where
  parent : Int
  name : Bs
  own : Int
  total : Int
instance : Inhabited Sym := ⟨⟨0, 0, 0, []⟩⟩
instance : Inhabited Stk := ⟨⟨0, ⟨none, 0, 0⟩, 0⟩⟩
instance : Inhabited Nd := ⟨⟨0, [], 0, 0⟩⟩
instance : Cl Sym := ⟨4, fun x => [.int .i64 x.version, .int .i64 x.from_, .int .i64 x.to, strV x.name], fun _ => rfl, fun _ u hu => by simp at hu; rcases hu with rfl | rfl | rfl | rfl <;> rfl⟩
instance : Cl Stk := ⟨3, fun x => [.int .i64 x.version, .slice x.frames.a x.frames.m x.frames.c, .int .i64 x.weight], fun _ => rfl, fun _ u hu => by simp at hu; rcases hu with rfl | rfl | rfl <;> rfl⟩
instance : Cl Nd := ⟨4, fun x => [.int .i64 x.parent, strV x.name, .int .i64 x.own, .int .i64 x.total], fun _ => rfl, fun _ u hu => by simp at hu; rcases hu with rfl | rfl | rfl | rfl <;> rfl⟩
def inB (n a b : Int) : Bool := decide (a ≤ n ∧ n ≤ b)
theorem isIn_con (n a b : Int) (S : SH) : Con Tryz.prog 53 #[.int .i64 n, .int .i64 a, .int .i64 b] S [] (X.Pure S (.bool (inB n a b))) := by
  refine con_of (args := [.int .i64 n, .int .i64 a, .int .i64 b]) Tryz.func53 rfl Tryz.ntmps53 rfl fun w => ?_
  unfold inB
  by_cases h1 : a ≤ n
  · by_cases h2 : n ≤ b
    · (repeat (first | refine Jz ?_ | intro _))
      exact o_ret Tryz.results53 rfl (List.nil_sublist _) ⟨rfl, rfl, by rw [decide_eq_true ⟨h1, h2⟩]⟩
    · (repeat (first | refine Jz ?_ | intro _))
      exact o_ret Tryz.results53 rfl (List.nil_sublist _) ⟨rfl, rfl, by rw [decide_eq_false (fun h => h2 h.2)]⟩
  · (repeat (first | refine Jz ?_ | intro _))
    exact o_ret Tryz.results53 rfl (List.nil_sublist _) ⟨rfl, rfl, by rw [decide_eq_false (fun h => h1 h.1)]⟩
theorem isIn_t {n a b : Int} {r : Bool} (S : SH) (h : inB n a b = r) : Con Tryz.prog 53 #[.int .i64 n, .int .i64 a, .int .i64 b] S [] (X.Pure S (.bool r)) := h ▸ isIn_con n a b S
/-- The place of the first element for which something holds, -1 if there is none. -/
def idxI {α : Type} (p : α → Bool) (l : List α) : Int := match l.findIdx? p with | some i => (i : Int) | none => -1
theorem idxI_none {α : Type} {p : α → Bool} {l : List α} (h : ∀ x ∈ l, p x = false) : idxI p l = -1 := by
  unfold idxI
  rw [List.findIdx?_eq_none_iff.2 (fun x hx => h x hx)]
theorem idxI_some {α : Type} {p : α → Bool} {l : List α} {k : Nat} {x : α} (h : ∀ y ∈ l.take k, p y = false) (hx : l[k]? = some x) (hp : p x = true) : idxI p l = k := by
  unfold idxI
  have : l.findIdx? p = some k := by
    obtain ⟨hk, rfl⟩ := List.getElem?_eq_some_iff.1 hx
    rw [List.findIdx?_eq_some_iff_getElem]
    refine ⟨hk, hp, fun j hj => ?_⟩
    rw [h l[j] (List.mem_take_iff_getElem.2 ⟨j, by omega, rfl⟩)]
    decide
  rw [this]
theorem idxI_any {α : Type} {p : α → Bool} {l : List α} : l.any p = decide (0 ≤ idxI p l) := by
  unfold idxI
  cases h : l.findIdx? p with
  | none =>
    have h1 := List.findIdx?_eq_none_iff.1 h
    rw [List.any_eq_false.2 (fun x hx => by rw [h1 x hx]; decide)]; rfl
  | some i =>
    rw [List.findIdx?_eq_some_iff_getElem] at h
    obtain ⟨hi, hp, _⟩ := h
    rw [List.any_eq_true.2 ⟨_, List.getElem_mem hi, hp⟩, decide_eq_true (Int.natCast_nonneg i)]
def isOther (c : UInt8) : Bool := (decide (c.toNat < 97) || decide (122 < c.toNat)) && (decide (c.toNat < 48) || decide (57 < c.toNat))
theorem isOther_con (c : UInt8) (S : SH) : Con Tryz.prog 72 #[.int .u8 (c.toNat : Int)] S [] (X.Pure S (.bool (isOther c))) := by
  refine con_of (args := [.int .u8 (c.toNat : Int)]) Tryz.func72 rfl Tryz.ntmps72 rfl fun w => ?_
  unfold isOther
  by_cases h1 : c.toNat < 97 <;> by_cases h2 : 122 < c.toNat <;> by_cases h3 : c.toNat < 48 <;> by_cases h4 : 57 < c.toNat
  all_goals (repeat (first | refine Jz ?_ | intro _))
  all_goals exact o_ret Tryz.results72 rfl (List.nil_sublist _) ⟨rfl, rfl, by first | (exfalso; omega) | simp [h1, h2, h3, h4]⟩
end Go.Proofs.YtcnfchchanlepaaGreat
namespace Go.Proofs.YtcnfchchanlepaaGreat
open Go Go.X
set_option maxRecDepth 10000
set_option linter.unusedVariables false
attribute [local irreducible] Code.wpIn wpListIn Exit.then Exit.inBlock X.Out X.Back X.W X.Ev X.Con X.BinV X.Wh X.Wn X.Wq
theorem idxB_con {f : FuncId} [Fun Tryz.prog f] (caps : List Value) (p : UInt8 → Bool) (l : List UInt8) (A : Option Addr) (c : Nat) (S : SH) (hA : At S A l) (hl : l.length ≤ 1000000) (hc : ∀ x ∈ l, Con Tryz.prog f ([Value.int .u8 (x.toNat : Int)] ++ caps).toArray S [] (X.Pure S (.bool (p x)))) :
    Con Tryz.prog 90 #[.slice A l.length c, .func (.func f) #[] caps.toArray] S [] (X.Pure S (.int .i64 (idxI p l))) := by
  refine con_of (args := [.slice A l.length c, .func (.func f) #[] caps.toArray]) Tryz.func90 rfl Tryz.ntmps90 rfl fun w => ?_
  (repeat (first | refine Jz ?_ | intro _))
  refine c_loop (fun m S' L F => S' = S ∧ L = [] ∧ ∃ (k : Nat), m = l.length - k ∧ k ≤ l.length ∧ (∀ x ∈ l.take k, p x = false) ∧
      F = [(0, .slice A l.length c), (1, .func (.func f) #[] caps.toArray), (7, .int .i64 l.length), (8, .int .i64 k)]) ⟨rfl, rfl, 0, rfl, by omega, by simp, rfl⟩ sbF (List.nil_sublist _) ?_
  rintro m S' L F ⟨rfl, rfl, k, rfl, hk1, hi, rfl⟩
  by_cases hlt : k < l.length
  rotate_left
  · (repeat (first | refine Jz ?_ | intro _))
    rw [List.take_of_length_le (by omega)] at hi
    exact o_ret Tryz.results90 rfl (List.nil_sublist _) ⟨rfl, rfl, by rw [idxI_none hi]⟩
  obtain ⟨x, hx⟩ : ∃ x, l[k]? = some x := ⟨_, List.getElem?_eq_getElem hlt⟩
  have hcx := hc x (List.mem_of_getElem? hx)
  cases hlg : p x
  · rw [hlg] at hcx
    (repeat (first | refine Jc ?_ | (apply s_idx hA; (case hg => rfl); (case hd => rfl); (case hx => rfl); (case hi => rfl); (case hm => rfl); (case hu => exact hx); intro q (hq : Pts _ q [.int .u8 (x.toNat : Int)])) | (apply s_load1; (case hg => rfl); (case hd => rfl); (case hx => rfl); (case hv => exact hq)) | (apply s_callw (caps := caps); (case hg => rfl); (case hd => rfl); (case hx => rfl); (case i1 => infer_instance); (case ha => rfl); (case hc => exact hcx); (case hL => (repeat (first | exact pm_nil _ | exact pm_refl _ _ | exact pm_self _ | apply pm_cons | apply pm_app))); rintro _ _ _ - ⟨rfl, rfl, rfl⟩) | refine Jo ?_ | intro _))
    refine q_back (L' := []) (m' := l.length - (k + 1)) ⟨rfl, rfl, k + 1, rfl, by omega, ?_, rfl⟩ (by omega) sbF (List.nil_sublist _)
    intro y hy
    rw [List.take_add_one, hx] at hy
    rcases List.mem_append.1 hy with hy | hy
    · exact hi y hy
    · simp at hy; subst hy; exact hlg
  · rw [hlg] at hcx
    (repeat (first | refine Jc ?_ | (apply s_idx hA; (case hg => rfl); (case hd => rfl); (case hx => rfl); (case hi => rfl); (case hm => rfl); (case hu => exact hx); intro q (hq : Pts _ q [.int .u8 (x.toNat : Int)])) | (apply s_load1; (case hg => rfl); (case hd => rfl); (case hx => rfl); (case hv => exact hq)) | (apply s_callw (caps := caps); (case hg => rfl); (case hd => rfl); (case hx => rfl); (case i1 => infer_instance); (case ha => rfl); (case hc => exact hcx); (case hL => (repeat (first | exact pm_nil _ | exact pm_refl _ _ | exact pm_self _ | apply pm_cons | apply pm_app))); rintro _ _ _ - ⟨rfl, rfl, rfl⟩) | refine Jo ?_ | intro _))
    exact o_ret Tryz.results90 rfl (List.nil_sublist _) ⟨rfl, rfl, by rw [idxI_some hi hx hlg]⟩
theorem anyB_con {f : FuncId} [Fun Tryz.prog f] (caps : List Value) (p : UInt8 → Bool) (l : List UInt8) (A : Option Addr) (c : Nat) (S : SH) (hA : At S A l) (hl : l.length ≤ 1000000) (hc : ∀ x ∈ l, Con Tryz.prog f ([Value.int .u8 (x.toNat : Int)] ++ caps).toArray S [] (X.Pure S (.bool (p x)))) :
    Con Tryz.prog 73 #[.slice A l.length c, .func (.func f) #[] caps.toArray] S [] (X.Pure S (.bool (l.any p))) := by
  refine con_of (args := [.slice A l.length c, .func (.func f) #[] caps.toArray]) Tryz.func73 rfl Tryz.ntmps73 rfl fun w => ?_
  have hi := idxB_con caps p l A c S hA hl hc
  rw [idxI_any]
  by_cases h : 0 ≤ idxI p l
  all_goals (repeat (first | refine Jc ?_ | ((apply z_call; rfl; rfl; rfl; exact hi; rintro _ _ _ - ⟨rfl, rfl, rfl⟩)) | refine Jo ?_ | intro _))
  · exact o_ret Tryz.results73 rfl (List.nil_sublist _) ⟨rfl, rfl, by rw [decide_eq_true h]⟩
  · exact o_ret Tryz.results73 rfl (List.nil_sublist _) ⟨rfl, rfl, by rw [decide_eq_false h]⟩
theorem idxI_con {f : FuncId} [Fun Tryz.prog f] (caps : List Value) (p : Int → Bool) (l : List Int) (A : Option Addr) (c : Nat) (S : SH) (hA : At S A l) (hl : l.length ≤ 1000000) (hc : ∀ x ∈ l, Con Tryz.prog f ([Value.int .i64 x] ++ caps).toArray S [] (X.Pure S (.bool (p x)))) :
    Con Tryz.prog 74 #[.slice A l.length c, .func (.func f) #[] caps.toArray] S [] (X.Pure S (.int .i64 (idxI p l))) := by
  refine con_of (args := [.slice A l.length c, .func (.func f) #[] caps.toArray]) Tryz.func74 rfl Tryz.ntmps74 rfl fun w => ?_
  (repeat (first | refine Jz ?_ | intro _))
  refine c_loop (fun m S' L F => S' = S ∧ L = [] ∧ ∃ (k : Nat), m = l.length - k ∧ k ≤ l.length ∧ (∀ x ∈ l.take k, p x = false) ∧
      F = [(0, .slice A l.length c), (1, .func (.func f) #[] caps.toArray), (7, .int .i64 l.length), (8, .int .i64 k)]) ⟨rfl, rfl, 0, rfl, by omega, by simp, rfl⟩ sbF (List.nil_sublist _) ?_
  rintro m S' L F ⟨rfl, rfl, k, rfl, hk1, hi, rfl⟩
  by_cases hlt : k < l.length
  rotate_left
  · (repeat (first | refine Jz ?_ | intro _))
    rw [List.take_of_length_le (by omega)] at hi
    exact o_ret Tryz.results74 rfl (List.nil_sublist _) ⟨rfl, rfl, by rw [idxI_none hi]⟩
  obtain ⟨x, hx⟩ : ∃ x, l[k]? = some x := ⟨_, List.getElem?_eq_getElem hlt⟩
  have hcx := hc x (List.mem_of_getElem? hx)
  cases hlg : p x
  · rw [hlg] at hcx
    (repeat (first | refine Jc ?_ | (apply s_idx hA; (case hg => rfl); (case hd => rfl); (case hx => rfl); (case hi => rfl); (case hm => rfl); (case hu => exact hx); intro q (hq : Pts _ q [.int .i64 x])) | (apply s_load1; (case hg => rfl); (case hd => rfl); (case hx => rfl); (case hv => exact hq)) | (apply s_callw (caps := caps); (case hg => rfl); (case hd => rfl); (case hx => rfl); (case i1 => infer_instance); (case ha => rfl); (case hc => exact hcx); (case hL => (repeat (first | exact pm_nil _ | exact pm_refl _ _ | exact pm_self _ | apply pm_cons | apply pm_app))); rintro _ _ _ - ⟨rfl, rfl, rfl⟩) | refine Jo ?_ | intro _))
    refine q_back (L' := []) (m' := l.length - (k + 1)) ⟨rfl, rfl, k + 1, rfl, by omega, ?_, rfl⟩ (by omega) sbF (List.nil_sublist _)
    intro y hy
    rw [List.take_add_one, hx] at hy
    rcases List.mem_append.1 hy with hy | hy
    · exact hi y hy
    · simp at hy; subst hy; exact hlg
  · rw [hlg] at hcx
    (repeat (first | refine Jc ?_ | (apply s_idx hA; (case hg => rfl); (case hd => rfl); (case hx => rfl); (case hi => rfl); (case hm => rfl); (case hu => exact hx); intro q (hq : Pts _ q [.int .i64 x])) | (apply s_load1; (case hg => rfl); (case hd => rfl); (case hx => rfl); (case hv => exact hq)) | (apply s_callw (caps := caps); (case hg => rfl); (case hd => rfl); (case hx => rfl); (case i1 => infer_instance); (case ha => rfl); (case hc => exact hcx); (case hL => (repeat (first | exact pm_nil _ | exact pm_refl _ _ | exact pm_self _ | apply pm_cons | apply pm_app))); rintro _ _ _ - ⟨rfl, rfl, rfl⟩) | refine Jo ?_ | intro _))
    exact o_ret Tryz.results74 rfl (List.nil_sublist _) ⟨rfl, rfl, by rw [idxI_some hi hx hlg]⟩
theorem anyI_con {f : FuncId} [Fun Tryz.prog f] (caps : List Value) (p : Int → Bool) (l : List Int) (A : Option Addr) (c : Nat) (S : SH) (hA : At S A l) (hl : l.length ≤ 1000000) (hc : ∀ x ∈ l, Con Tryz.prog f ([Value.int .i64 x] ++ caps).toArray S [] (X.Pure S (.bool (p x)))) :
    Con Tryz.prog 56 #[.slice A l.length c, .func (.func f) #[] caps.toArray] S [] (X.Pure S (.bool (l.any p))) := by
  refine con_of (args := [.slice A l.length c, .func (.func f) #[] caps.toArray]) Tryz.func56 rfl Tryz.ntmps56 rfl fun w => ?_
  have hi := idxI_con caps p l A c S hA hl hc
  rw [idxI_any]
  by_cases h : 0 ≤ idxI p l
  all_goals (repeat (first | refine Jc ?_ | ((apply z_call; rfl; rfl; rfl; exact hi; rintro _ _ _ - ⟨rfl, rfl, rfl⟩)) | refine Jo ?_ | intro _))
  · exact o_ret Tryz.results56 rfl (List.nil_sublist _) ⟨rfl, rfl, by rw [decide_eq_true h]⟩
  · exact o_ret Tryz.results56 rfl (List.nil_sublist _) ⟨rfl, rfl, by rw [decide_eq_false h]⟩
theorem idxS_con {f : FuncId} [Fun Tryz.prog f] (caps : List Value) (p : Sym → Bool) (l : List Sym) (A : Option Addr) (c : Nat) (S : SH) (hA : At S A l) (hl : l.length ≤ 1000000) (hc : ∀ x ∈ l, Con Tryz.prog f ([Value.agg [.int .i64 x.version, .int .i64 x.from_, .int .i64 x.to, strV x.name].toArray] ++ caps).toArray S [] (X.Pure S (.bool (p x)))) :
    Con Tryz.prog 66 #[.slice A l.length c, .func (.func f) #[] caps.toArray] S [] (X.Pure S (.int .i64 (idxI p l))) := by
  refine con_of (args := [.slice A l.length c, .func (.func f) #[] caps.toArray]) Tryz.func66 rfl Tryz.ntmps66 rfl fun w => ?_
  (repeat (first | refine Jz ?_ | intro _))
  refine c_loop (fun m S' L F => S' = S ∧ L = [] ∧ ∃ (k : Nat), m = l.length - k ∧ k ≤ l.length ∧ (∀ x ∈ l.take k, p x = false) ∧
      F = [(0, .slice A l.length c), (1, .func (.func f) #[] caps.toArray), (7, .int .i64 l.length), (8, .int .i64 k)]) ⟨rfl, rfl, 0, rfl, by omega, by simp, rfl⟩ sbF (List.nil_sublist _) ?_
  rintro m S' L F ⟨rfl, rfl, k, rfl, hk1, hi, rfl⟩
  by_cases hlt : k < l.length
  rotate_left
  · (repeat (first | refine Jz ?_ | intro _))
    rw [List.take_of_length_le (by omega)] at hi
    exact o_ret Tryz.results66 rfl (List.nil_sublist _) ⟨rfl, rfl, by rw [idxI_none hi]⟩
  obtain ⟨x, hx⟩ : ∃ x, l[k]? = some x := ⟨_, List.getElem?_eq_getElem hlt⟩
  have hcx := hc x (List.mem_of_getElem? hx)
  cases hlg : p x
  · rw [hlg] at hcx
    (repeat (first | refine Jc ?_ | (apply s_idx hA; (case hg => rfl); (case hd => rfl); (case hx => rfl); (case hi => rfl); (case hm => rfl); (case hu => exact hx); intro q (hq : Pts _ q [.int .i64 x.version, .int .i64 x.from_, .int .i64 x.to, strV x.name])) | (apply s_load_ag; (case hg => rfl); (case hd => rfl); (case hx => rfl); (case hv => exact hq); (case hl => rfl)) | (apply s_callw (caps := caps); (case hg => rfl); (case hd => rfl); (case hx => rfl); (case i1 => infer_instance); (case ha => rfl); (case hc => exact hcx); (case hL => (repeat (first | exact pm_nil _ | exact pm_refl _ _ | exact pm_self _ | apply pm_cons | apply pm_app))); rintro _ _ _ - ⟨rfl, rfl, rfl⟩) | refine Jo ?_ | intro _))
    refine q_back (L' := []) (m' := l.length - (k + 1)) ⟨rfl, rfl, k + 1, rfl, by omega, ?_, rfl⟩ (by omega) sbF (List.nil_sublist _)
    intro y hy
    rw [List.take_add_one, hx] at hy
    rcases List.mem_append.1 hy with hy | hy
    · exact hi y hy
    · simp at hy; subst hy; exact hlg
  · rw [hlg] at hcx
    (repeat (first | refine Jc ?_ | (apply s_idx hA; (case hg => rfl); (case hd => rfl); (case hx => rfl); (case hi => rfl); (case hm => rfl); (case hu => exact hx); intro q (hq : Pts _ q [.int .i64 x.version, .int .i64 x.from_, .int .i64 x.to, strV x.name])) | (apply s_load_ag; (case hg => rfl); (case hd => rfl); (case hx => rfl); (case hv => exact hq); (case hl => rfl)) | (apply s_callw (caps := caps); (case hg => rfl); (case hd => rfl); (case hx => rfl); (case i1 => infer_instance); (case ha => rfl); (case hc => exact hcx); (case hL => (repeat (first | exact pm_nil _ | exact pm_refl _ _ | exact pm_self _ | apply pm_cons | apply pm_app))); rintro _ _ _ - ⟨rfl, rfl, rfl⟩) | refine Jo ?_ | intro _))
    exact o_ret Tryz.results66 rfl (List.nil_sublist _) ⟨rfl, rfl, by rw [idxI_some hi hx hlg]⟩
theorem pfowk_bytes {s : Bs} {b cap N : Nat} {tl : List Value} (h1 : s.length ≤ cap) (h2 : cap ≤ maxLen) (h3 : (cellsOf s ++ tl).length = cap) (hN : N = cap) :
    Owk (α := UInt8) 5 (.slice (some ⟨b, 0, none⟩) s.length cap) s [(b, .cells (cellsOf s ++ tl).toArray 5 (N, N + 1))] := by
  have e : Cl.size UInt8 = 1 := rfl
  refine .inr ⟨b, cap, N, _, rfl, rfl, by rw [e]; omega, h1, h2, by rw [e, List.size_toArray, h3]; omega, ?_⟩
  have hl : (cellsOf s).length = s.length * Cl.size UInt8 := cellsOf_length s
  rw [← hl]
  exact List.take_left
def nameB (s : Bs) : Bool := decide (1 ≤ s.length ∧ s.length ≤ 16) && !s.any isOther
theorem isName_con (s : Bs) (S : SH) : Con Tryz.prog 54 #[strV s] S [] (fun S' L' v => L' = [] ∧ v = .bool (nameB s)) := by
  refine con_of (args := [strV s]) Tryz.func54 rfl Tryz.ntmps54 rfl fun w => ?_
  unfold nameB
  by_cases h1 : 1 ≤ s.length
  · by_cases h2 : s.length ≤ 16
    · rw [decide_eq_true ⟨h1, h2⟩]
      (repeat (first | refine Jc ?_ | (apply s_evb; (case hg => rfl); (case hd => rfl); (case hn => rfl); (case he => (apply ev_len_b; rfl))) | (apply s_bytes; (case hg => rfl); (case hd => rfl); (case hx => rfl); (case hl => omega); intro bz tl cap N hc1 hc2 hc3 hN; refine W.freezeOwk (L1 := []) (pfowk_bytes (b := bz) hc1 hc2 hc3 hN) (List.Perm.refl _) fun S2 hle2 hs2 => ?_; obtain ⟨A2, c2, e2, hc2', hA2⟩ := hs2; injection e2 with e3 e4 e5; subst e3; subst e5) | (apply z_call; rfl; rfl; rfl; exact anyB_con (f := 72) [] isOther s _ _ _ hA2 (by omega) (fun x _ => isOther_con x _); rintro _ _ _ - ⟨rfl, rfl, rfl⟩) | refine Jo ?_ | intro _))
      exact o_ret Tryz.results54 rfl (List.nil_sublist _) ⟨rfl, rfl⟩
    · rw [decide_eq_false (fun h => h2 h.2)]
      (repeat (first | refine Jc ?_ | (apply s_evb; (case hg => rfl); (case hd => rfl); (case hn => rfl); (case he => (apply ev_len_b; rfl))) | refine Jo ?_ | intro _))
      exact o_ret Tryz.results54 rfl (List.nil_sublist _) ⟨rfl, rfl⟩
  · rw [decide_eq_false (fun h => h1 h.1)]
    (repeat (first | refine Jc ?_ | (apply s_evb; (case hg => rfl); (case hd => rfl); (case hn => rfl); (case he => (apply ev_len_b; rfl))) | refine Jo ?_ | intro _))
    exact o_ret Tryz.results54 rfl (List.nil_sublist _) ⟨rfl, rfl⟩
end Go.Proofs.YtcnfchchanlepaaGreat
namespace Go.Proofs.YtcnfchchanlepaaGreat
open Go Go.X
/-- Three ways to compare. -/
def cmpI (a b : Int) : Int := if a < b then -1 else if b < a then 1 else 0
def cmpS (a b : Bs) : Int := if a < b then -1 else if b < a then 1 else 0
def cmpP : List Bs → List Bs → Int
  | [], [] => 0
  | [], _ :: _ => -1
  | _ :: _, [] => 1
  | a :: p, b :: q => if cmpS a b = 0 then cmpP p q else cmpS a b
def toS (p : List Bs) : List Str := p.map Str.mk
theorem toS_len (p : List Bs) : (toS p).length = p.length := by simp [toS]
theorem toS_at {p : List Bs} {k : Nat} {x : Bs} (h : p[k]? = some x) : (toS p)[k]? = some ⟨x⟩ := by simp [toS, h]
theorem cmpP_step {p q : List Bs} {k : Nat} {x y : Bs} (hx : p[k]? = some x) (hy : q[k]? = some y) : cmpP (p.drop k) (q.drop k) = if cmpS x y = 0 then cmpP (p.drop (k + 1)) (q.drop (k + 1)) else cmpS x y := by
  obtain ⟨h1, rfl⟩ := List.getElem?_eq_some_iff.1 hx
  obtain ⟨h2, rfl⟩ := List.getElem?_eq_some_iff.1 hy
  rw [List.drop_eq_getElem_cons h1, List.drop_eq_getElem_cons h2, cmpP]
def orI : List Int → Int
  | [] => 0
  | x :: l => if x = 0 then orI l else x
set_option maxRecDepth 10000
set_option linter.unusedVariables false
attribute [local irreducible] Code.wpIn wpListIn Exit.then Exit.inBlock X.Out X.Back X.W X.Ev X.Con X.BinV X.Wh X.Wn X.Wq
theorem isNaNI_con (a : Int) (S : SH) : Con Tryz.prog 63 #[.int .i64 a] S [] (X.Pure S (.bool false)) := by
  refine con_of (args := [.int .i64 a]) Tryz.func63 rfl Tryz.ntmps63 rfl fun w => ?_
  (repeat (first | refine Jz ?_ | intro _))
  exact o_ret Tryz.results63 rfl (List.nil_sublist _) ⟨rfl, rfl, rfl⟩
theorem isNaNS_con (a : Bs) (S : SH) : Con Tryz.prog 85 #[strV a] S [] (X.Pure S (.bool false)) := by
  refine con_of (args := [strV a]) Tryz.func85 rfl Tryz.ntmps85 rfl fun w => ?_
  (repeat (first | refine Jc ?_ | (apply s_evb; (case hg => rfl); (case hd => rfl); (case hn => rfl); (case he => (apply ev_neq_bv (r := true); (case hx => rfl); (case hy => rfl); (case h => first | decide | assumption | (simp; done))))) | (apply s_evb; (case hg => rfl); (case hd => rfl); (case hn => rfl); (case he => (apply ev_neq_bv (r := false); (case hx => rfl); (case hy => rfl); (case h => first | decide | assumption | (simp; done))))) | refine Jo ?_ | intro _))
  exact o_ret Tryz.results85 rfl (List.nil_sublist _) ⟨rfl, rfl, rfl⟩
theorem cmpI_con (a b : Int) (S : SH) : Con Tryz.prog 43 #[.int .i64 a, .int .i64 b] S [] (X.Pure S (.int .i64 (cmpI a b))) := by
  refine con_of (args := [.int .i64 a, .int .i64 b]) Tryz.func43 rfl Tryz.ntmps43 rfl fun w => ?_
  unfold cmpI
  by_cases h1 : a < b
  · (repeat (first | refine Jc ?_ | (apply z_call; rfl; rfl; rfl; exact isNaNI_con a _; rintro _ _ _ - ⟨rfl, rfl, rfl⟩) | (apply z_call; rfl; rfl; rfl; exact isNaNI_con b _; rintro _ _ _ - ⟨rfl, rfl, rfl⟩) | refine Jo ?_ | intro _))
    exact o_ret Tryz.results43 rfl (List.nil_sublist _) ⟨rfl, rfl, by rw [if_pos h1]⟩
  · by_cases h2 : b < a
    · (repeat (first | refine Jc ?_ | (apply z_call; rfl; rfl; rfl; exact isNaNI_con a _; rintro _ _ _ - ⟨rfl, rfl, rfl⟩) | (apply z_call; rfl; rfl; rfl; exact isNaNI_con b _; rintro _ _ _ - ⟨rfl, rfl, rfl⟩) | refine Jo ?_ | intro _))
      exact o_ret Tryz.results43 rfl (List.nil_sublist _) ⟨rfl, rfl, by rw [if_neg h1, if_pos h2]⟩
    · (repeat (first | refine Jc ?_ | (apply z_call; rfl; rfl; rfl; exact isNaNI_con a _; rintro _ _ _ - ⟨rfl, rfl, rfl⟩) | (apply z_call; rfl; rfl; rfl; exact isNaNI_con b _; rintro _ _ _ - ⟨rfl, rfl, rfl⟩) | refine Jo ?_ | intro _))
      exact o_ret Tryz.results43 rfl (List.nil_sublist _) ⟨rfl, rfl, by rw [if_neg h1, if_neg h2]⟩
theorem cmpS_con (a b : Bs) (S : SH) : Con Tryz.prog 64 #[strV a, strV b] S [] (X.Pure S (.int .i64 (cmpS a b))) := by
  refine con_of (args := [strV a, strV b]) Tryz.func64 rfl Tryz.ntmps64 rfl fun w => ?_
  unfold cmpS
  by_cases h1 : a < b
  · (repeat (first | refine Jc ?_ | (apply z_call; rfl; rfl; rfl; exact isNaNS_con a _; rintro _ _ _ - ⟨rfl, rfl, rfl⟩) | (apply z_call; rfl; rfl; rfl; exact isNaNS_con b _; rintro _ _ _ - ⟨rfl, rfl, rfl⟩) | (apply s_evb; (case hg => rfl); (case hd => rfl); (case hn => rfl); (case he => ((apply ev_lss_bv (r := true); (case hx => rfl); (case hy => rfl); (case h => exact decide_eq_true h1))))) | refine Jo ?_ | intro _))
    exact o_ret Tryz.results64 rfl (List.nil_sublist _) ⟨rfl, rfl, by rw [if_pos h1]⟩
  · by_cases h2 : b < a
    · (repeat (first | refine Jc ?_ | (apply z_call; rfl; rfl; rfl; exact isNaNS_con a _; rintro _ _ _ - ⟨rfl, rfl, rfl⟩) | (apply z_call; rfl; rfl; rfl; exact isNaNS_con b _; rintro _ _ _ - ⟨rfl, rfl, rfl⟩) | (apply s_evb; (case hg => rfl); (case hd => rfl); (case hn => rfl); (case he => ((apply ev_lss_bv (r := false); (case hx => rfl); (case hy => rfl); (case h => exact decide_eq_false h1))))) | (apply s_evb; (case hg => rfl); (case hd => rfl); (case hn => rfl); (case he => ((apply ev_gtr_bv (r := true); (case hx => rfl); (case hy => rfl); (case h => exact decide_eq_true h2))))) | refine Jo ?_ | intro _))
      exact o_ret Tryz.results64 rfl (List.nil_sublist _) ⟨rfl, rfl, by rw [if_neg h1, if_pos h2]⟩
    · (repeat (first | refine Jc ?_ | (apply z_call; rfl; rfl; rfl; exact isNaNS_con a _; rintro _ _ _ - ⟨rfl, rfl, rfl⟩) | (apply z_call; rfl; rfl; rfl; exact isNaNS_con b _; rintro _ _ _ - ⟨rfl, rfl, rfl⟩) | (apply s_evb; (case hg => rfl); (case hd => rfl); (case hn => rfl); (case he => ((apply ev_lss_bv (r := false); (case hx => rfl); (case hy => rfl); (case h => exact decide_eq_false h1))))) | (apply s_evb; (case hg => rfl); (case hd => rfl); (case hn => rfl); (case he => ((apply ev_gtr_bv (r := false); (case hx => rfl); (case hy => rfl); (case h => exact decide_eq_false h2))))) | refine Jo ?_ | intro _))
      exact o_ret Tryz.results64 rfl (List.nil_sublist _) ⟨rfl, rfl, by rw [if_neg h1, if_neg h2]⟩
theorem or_con (l : List Int) (A : Option Addr) (c : Nat) (S : SH) (hA : At S A l) (hl : l.length ≤ 1000000) : Con Tryz.prog 42 #[.slice A l.length c] S [] (X.Pure S (.int .i64 (orI l))) := by
  refine con_of (args := [.slice A l.length c]) Tryz.func42 rfl Tryz.ntmps42 rfl fun w => ?_
  (repeat (first | refine Jz ?_ | intro _))
  refine c_loop (fun m S' L F => S' = S ∧ L = [] ∧ ∃ (k : Nat), m = l.length - k ∧ k ≤ l.length ∧ orI l = orI (l.drop k) ∧ F = [(0, .slice A l.length c), (3, .int .i64 0), (6, .slice A l.length c), (7, .int .i64 l.length), (8, .int .i64 k)]) ⟨rfl, rfl, 0, rfl, by omega, rfl, rfl⟩ sbF (List.nil_sublist _) ?_
  rintro m S' L F ⟨rfl, rfl, k, rfl, hk1, hi, rfl⟩
  by_cases hlt : k < l.length
  rotate_left
  · (repeat (first | refine Jz ?_ | intro _))
    exact o_ret Tryz.results42 rfl (List.nil_sublist _) ⟨rfl, rfl, by rw [hi, List.drop_eq_nil_of_le (by omega)]; rfl⟩
  obtain ⟨x, hx⟩ : ∃ x, l[k]? = some x := ⟨_, List.getElem?_eq_getElem hlt⟩
  have hd : orI (l.drop k) = if x = 0 then orI (l.drop (k + 1)) else x := by
    obtain ⟨h1, rfl⟩ := List.getElem?_eq_some_iff.1 hx
    rw [List.drop_eq_getElem_cons h1, orI]
  by_cases h0 : x = 0
  · (repeat (first | refine Jc ?_ | (apply s_idx hA; (case hg => rfl); (case hd => rfl); (case hx => rfl); (case hi => rfl); (case hm => rfl); (case hu => exact hx); intro q (hq : Pts _ q [.int .i64 x])) | (apply s_load1; (case hg => rfl); (case hd => rfl); (case hx => rfl); (case hv => exact hq)) | refine Jo ?_ | intro _))
    exact q_back (L' := []) (m' := l.length - (k + 1)) ⟨rfl, rfl, k + 1, rfl, by omega, by rw [hi, hd, if_pos h0], rfl⟩ (by omega) sbF (List.nil_sublist _)
  · (repeat (first | refine Jc ?_ | (apply s_idx hA; (case hg => rfl); (case hd => rfl); (case hx => rfl); (case hi => rfl); (case hm => rfl); (case hu => exact hx); intro q (hq : Pts _ q [.int .i64 x])) | (apply s_load1; (case hg => rfl); (case hd => rfl); (case hx => rfl); (case hv => exact hq)) | refine Jo ?_ | intro _))
    exact o_ret Tryz.results42 rfl (List.nil_sublist _) ⟨rfl, rfl, by rw [hi, hd, if_neg h0]⟩
theorem cmpP_con (p q : List Bs) (A B : Option Addr) (c d : Nat) (S : SH) (hA : At S A (toS p)) (hB : At S B (toS q)) (hp : p.length ≤ 1000000) (hq : q.length ≤ 1000000) : Con Tryz.prog 45 #[.slice A (toS p).length c, .slice B (toS q).length d] S [] (X.Pure S (.int .i64 (cmpP p q))) := by
  refine con_of (args := [.slice A (toS p).length c, .slice B (toS q).length d]) Tryz.func45 rfl Tryz.ntmps45 rfl fun w => ?_
  have lp := toS_len p
  have lq := toS_len q
  (repeat (first | refine Jz ?_ | intro _))
  refine c_loop (fun m S' L F => S' = S ∧ L = [] ∧ ∃ (k : Nat), m = p.length - k ∧ k ≤ p.length ∧ k ≤ q.length ∧ cmpP p q = cmpP (p.drop k) (q.drop k) ∧ F = [(0, .slice A (toS p).length c), (1, .slice B (toS q).length d), (9, .slice A (toS p).length c), (10, .int .i64 (toS p).length), (11, .int .i64 k)]) ⟨rfl, rfl, 0, rfl, by omega, by omega, rfl, rfl⟩ sbF (List.nil_sublist _) ?_
  rintro m S' L F ⟨rfl, rfl, k, rfl, hk1, hk2, hi, rfl⟩
  by_cases hlt : k < p.length
  rotate_left
  · have e1 : p.drop k = [] := List.drop_eq_nil_of_le (by omega)
    by_cases hq2 : p.length < q.length
    · obtain ⟨y, t, e2⟩ : ∃ y t, q.drop k = y :: t := ⟨_, _, List.drop_eq_getElem_cons (by omega)⟩
      (repeat (first | refine Jz ?_ | intro _))
      exact o_ret Tryz.results45 rfl (List.nil_sublist _) ⟨rfl, rfl, by rw [hi, e1, e2]; rfl⟩
    · have e2 : q.drop k = [] := List.drop_eq_nil_of_le (by omega)
      (repeat (first | refine Jz ?_ | intro _))
      exact o_ret Tryz.results45 rfl (List.nil_sublist _) ⟨rfl, rfl, by rw [hi, e1, e2]; rfl⟩
  obtain ⟨x, hx⟩ : ∃ x, p[k]? = some x := ⟨_, List.getElem?_eq_getElem hlt⟩
  by_cases hq2 : k < q.length
  rotate_left
  · have e2 : q.drop k = [] := List.drop_eq_nil_of_le (by omega)
    obtain ⟨y, t, e1⟩ : ∃ y t, p.drop k = y :: t := ⟨_, _, List.drop_eq_getElem_cons hlt⟩
    (repeat (first | refine Jc ?_ | (apply s_idx hA; (case hg => rfl); (case hd => rfl); (case hx => rfl); (case hi => rfl); (case hm => rfl); (case hu => exact (toS_at hx)); intro q1 (hq1 : Pts _ q1 [strV x])) | (apply s_load1; (case hg => rfl); (case hd => rfl); (case hx => rfl); (case hv => exact hq1)) | refine Jo ?_ | intro _))
    exact o_ret Tryz.results45 rfl (List.nil_sublist _) ⟨rfl, rfl, by rw [hi, e1, e2]; rfl⟩
  obtain ⟨y, hy⟩ : ∃ y, q[k]? = some y := ⟨_, List.getElem?_eq_getElem hq2⟩
  have hstep := cmpP_step hx hy
  have hcc := cmpS_con x y
  by_cases h0 : cmpS x y = 0
  · rw [if_pos h0] at hstep
    rw [h0] at hcc
    (repeat (first | refine Jc ?_ | (apply s_idx hA; (case hg => rfl); (case hd => rfl); (case hx => rfl); (case hi => rfl); (case hm => rfl); (case hu => exact (toS_at hx)); intro q1 (hq1 : Pts _ q1 [strV x])) | (apply s_load1; (case hg => rfl); (case hd => rfl); (case hx => rfl); (case hv => exact hq1)) | (apply s_idx hB; (case hg => rfl); (case hd => rfl); (case hx => rfl); (case hi => rfl); (case hm => rfl); (case hu => exact (toS_at hy)); intro q2 (hq2 : Pts _ q2 [strV y])) | (apply s_load1; (case hg => rfl); (case hd => rfl); (case hx => rfl); (case hv => exact hq2)) | (apply z_call; rfl; rfl; rfl; exact hcc _; rintro _ _ _ - ⟨rfl, rfl, rfl⟩) | refine Jo ?_ | intro _))
    exact q_back (L' := []) (m' := p.length - (k + 1)) ⟨rfl, rfl, k + 1, rfl, by omega, by omega, by rw [hi, hstep], rfl⟩ (by omega) sbF (List.nil_sublist _)
  · rw [if_neg h0] at hstep
    (repeat (first | refine Jc ?_ | (apply s_idx hA; (case hg => rfl); (case hd => rfl); (case hx => rfl); (case hi => rfl); (case hm => rfl); (case hu => exact (toS_at hx)); intro q1 (hq1 : Pts _ q1 [strV x])) | (apply s_load1; (case hg => rfl); (case hd => rfl); (case hx => rfl); (case hv => exact hq1)) | (apply s_idx hB; (case hg => rfl); (case hd => rfl); (case hx => rfl); (case hi => rfl); (case hm => rfl); (case hu => exact (toS_at hy)); intro q2 (hq2 : Pts _ q2 [strV y])) | (apply s_load1; (case hg => rfl); (case hd => rfl); (case hx => rfl); (case hv => exact hq2)) | (apply z_call; rfl; rfl; rfl; exact hcc _; rintro _ _ _ - ⟨rfl, rfl, rfl⟩) | refine Jo ?_ | intro _))
    exact o_ret Tryz.results45 rfl (List.nil_sublist _) ⟨rfl, rfl, by rw [hi, hstep]⟩
end Go.Proofs.YtcnfchchanlepaaGreat
namespace Go.Proofs.YtcnfchchanlepaaGreat
open Go Go.X
set_option maxRecDepth 10000
set_option linter.unusedVariables false
attribute [local irreducible] Code.wpIn wpListIn Exit.then Exit.inBlock X.Out X.Back X.W X.Ev X.Con X.BinV X.Wh X.Wn X.Wq
/-- A stack, its frames in place. -/
structure Sk where
  version : Int
  frames : List Int
  weight : Int
def skR (S : SH) (x : Stk) (y : Sk) : Prop := x.version = y.version ∧ x.weight = y.weight ∧ x.frames.m = y.frames.length ∧ y.frames.length ≤ x.frames.c ∧ At S x.frames.a y.frames
def SkL (S : SH) (xs : List Stk) (ys : List Sk) : Prop := xs.length = ys.length ∧ ∀ (i : Nat) (x : Stk) (y : Sk), xs[i]? = some x → ys[i]? = some y → skR S x y
theorem skR.le {S T : SH} (h : Le S T) {x : Stk} {y : Sk} (k : skR S x y) : skR T x y := ⟨k.1, k.2.1, k.2.2.1, k.2.2.2.1, k.2.2.2.2.le h⟩
theorem SkL.le {S T : SH} (h : Le S T) {xs : List Stk} {ys : List Sk} (k : SkL S xs ys) : SkL T xs ys := ⟨k.1, fun i x y h1 h2 => (k.2 i x y h1 h2).le h⟩
def isOut (n : Int) : Bool := !inB n 0 1000000
theorem isOut_con (n : Int) (S : SH) : Con Tryz.prog 65 #[.int .i64 n] S [] (X.Pure S (.bool (isOut n))) := by
  refine con_of (args := [.int .i64 n]) Tryz.func65 rfl Tryz.ntmps65 rfl fun w => ?_
  (repeat (first | refine Jc ?_ | (apply z_call; rfl; rfl; rfl; exact isIn_con n 0 1000000 _; rintro _ _ _ - ⟨rfl, rfl, rfl⟩) | refine Jo ?_ | intro _))
  exact o_ret Tryz.results65 rfl (List.nil_sublist _) ⟨rfl, rfl, rfl⟩
def skB (y : Sk) : Bool := inB y.version 0 9 && decide (y.frames.length ≤ 12) && inB y.weight 1 1000000 && !y.frames.any isOut
def sksB (ys : List Sk) : Bool := ys.all skB && decide (ys.length ≤ 100)
theorem areStacks_con (xs : List Stk) (ys : List Sk) (A : Option Addr) (c : Nat) (S : SH) (hA : At S A xs) (hl : xs.length ≤ 1000000) (hy : SkL S xs ys) :
    Con Tryz.prog 49 #[.slice A xs.length c] S [] (X.Pure S (.bool (sksB ys))) := by
  refine con_of (args := [.slice A xs.length c]) Tryz.func49 rfl Tryz.ntmps49 rfl fun w => ?_
  have hlen := hy.1
  (repeat (first | refine Jz ?_ | intro _))
  refine c_loop (fun m S' L F => S' = S ∧ L = [] ∧ ∃ (k : Nat), m = xs.length - k ∧ k ≤ xs.length ∧ (∀ y ∈ ys.take k, skB y = true) ∧ F = [(0, .slice A xs.length c), (3, .func (.func 65) #[] #[]), (6, .slice A xs.length c), (7, .int .i64 xs.length), (8, .int .i64 k)]) ⟨rfl, rfl, 0, rfl, by omega, by simp, rfl⟩ sbF (List.nil_sublist _) ?_
  rintro m S' L F ⟨rfl, rfl, k, rfl, hk1, hi, rfl⟩
  by_cases hlt : k < xs.length
  rotate_left
  · rw [List.take_of_length_le (by omega)] at hi
    have e : sksB ys = decide (xs.length ≤ 100) := by
      unfold sksB
      rw [List.all_eq_true.2 hi, hlen, Bool.true_and]
    rw [e]
    by_cases h100 : xs.length ≤ 100
    · (repeat (first | refine Jz ?_ | intro _))
      exact o_ret Tryz.results49 rfl (List.nil_sublist _) ⟨rfl, rfl, by rw [decide_eq_true h100]⟩
    · (repeat (first | refine Jz ?_ | intro _))
      exact o_ret Tryz.results49 rfl (List.nil_sublist _) ⟨rfl, rfl, by rw [decide_eq_false h100]⟩
  obtain ⟨x, hx⟩ : ∃ x, xs[k]? = some x := ⟨_, List.getElem?_eq_getElem hlt⟩
  obtain ⟨y, hyk⟩ : ∃ y, ys[k]? = some y := ⟨_, List.getElem?_eq_getElem (by omega)⟩
  obtain ⟨e1, e2, e3, e4, e5⟩ := hy.2 k x y hx hyk
  obtain ⟨xv, ⟨fa, fm, fc⟩, xw⟩ := x
  simp only at e1 e2 e3 e4 e5
  subst e1 e2 e3
  have hbad : skB y = false → sksB ys = false := fun h => by
    unfold sksB
    rw [Bool.and_eq_false_iff]
    exact .inl (List.all_eq_false.2 ⟨y, List.mem_of_getElem? hyk, by rw [h]; decide⟩)
  have hgo : skB y = true → ∀ z ∈ ys.take (k + 1), skB z = true := fun h z hz => by
    rw [List.take_add_one, hyk] at hz
    rcases List.mem_append.1 hz with hz | hz
    · exact hi z hz
    · simp at hz; subst hz; exact h
  unfold skB at hbad hgo
  cases h1 : inB y.version 0 9
  · rw [hbad (by rw [h1]; rfl)]
    (repeat (first | refine Jc ?_ | (apply s_idx hA; (case hg => rfl); (case hd => rfl); (case hx => rfl); (case hi => rfl); (case hm => rfl); (case hu => exact hx); intro q (hq : Pts _ q [.int .i64 y.version, .slice fa y.frames.length fc, .int .i64 y.weight])) | (apply s_load_ag; (case hg => rfl); (case hd => rfl); (case hx => rfl); (case hv => exact hq); (case hl => rfl)) | (apply z_call; rfl; rfl; rfl; exact isIn_t _ h1; rintro _ _ _ - ⟨rfl, rfl, rfl⟩) | refine Jo ?_ | intro _))
    exact o_ret Tryz.results49 rfl (List.nil_sublist _) ⟨rfl, rfl, rfl⟩
  by_cases h2 : y.frames.length ≤ 12
  rotate_left
  · rw [hbad (by rw [decide_eq_false h2]; simp)]
    (repeat (first | refine Jc ?_ | (apply s_idx hA; (case hg => rfl); (case hd => rfl); (case hx => rfl); (case hi => rfl); (case hm => rfl); (case hu => exact hx); intro q (hq : Pts _ q [.int .i64 y.version, .slice fa y.frames.length fc, .int .i64 y.weight])) | (apply s_load_ag; (case hg => rfl); (case hd => rfl); (case hx => rfl); (case hv => exact hq); (case hl => rfl)) | (apply z_call; rfl; rfl; rfl; exact isIn_t _ h1; rintro _ _ _ - ⟨rfl, rfl, rfl⟩) | refine Jo ?_ | intro _))
    exact o_ret Tryz.results49 rfl (List.nil_sublist _) ⟨rfl, rfl, rfl⟩
  cases h3 : inB y.weight 1 1000000
  · rw [hbad (by rw [h3]; simp)]
    (repeat (first | refine Jc ?_ | (apply s_idx hA; (case hg => rfl); (case hd => rfl); (case hx => rfl); (case hi => rfl); (case hm => rfl); (case hu => exact hx); intro q (hq : Pts _ q [.int .i64 y.version, .slice fa y.frames.length fc, .int .i64 y.weight])) | (apply s_load_ag; (case hg => rfl); (case hd => rfl); (case hx => rfl); (case hv => exact hq); (case hl => rfl)) | (apply z_call; rfl; rfl; rfl; exact isIn_t _ h1; rintro _ _ _ - ⟨rfl, rfl, rfl⟩) | (apply z_call; rfl; rfl; rfl; exact isIn_t _ h3; rintro _ _ _ - ⟨rfl, rfl, rfl⟩) | refine Jo ?_ | intro _))
    exact o_ret Tryz.results49 rfl (List.nil_sublist _) ⟨rfl, rfl, rfl⟩
  have hany := fun S (h : At S fa y.frames) => anyI_con (f := 65) [] isOut y.frames fa fc S h (by omega) (fun x _ => isOut_con x S)
  cases h4 : y.frames.any isOut
  · rw [h4] at hany
    (repeat (first | refine Jc ?_ | (apply s_idx hA; (case hg => rfl); (case hd => rfl); (case hx => rfl); (case hi => rfl); (case hm => rfl); (case hu => exact hx); intro q (hq : Pts _ q [.int .i64 y.version, .slice fa y.frames.length fc, .int .i64 y.weight])) | (apply s_load_ag; (case hg => rfl); (case hd => rfl); (case hx => rfl); (case hv => exact hq); (case hl => rfl)) | (apply z_call; rfl; rfl; rfl; exact isIn_t _ h1; rintro _ _ _ - ⟨rfl, rfl, rfl⟩) | (apply z_call; rfl; rfl; rfl; exact isIn_t _ h3; rintro _ _ _ - ⟨rfl, rfl, rfl⟩) | (apply z_call; rfl; rfl; rfl; exact hany _ e5; rintro _ _ _ - ⟨rfl, rfl, rfl⟩) | refine Jo ?_ | intro _))
    exact q_back (L' := []) (m' := xs.length - (k + 1)) ⟨rfl, rfl, k + 1, rfl, by omega, hgo (by rw [h1, h3, h4, decide_eq_true h2]; rfl), rfl⟩ (by omega) sbF (List.nil_sublist _)
  · rw [h4] at hany
    rw [hbad (by rw [h4]; simp)]
    (repeat (first | refine Jc ?_ | (apply s_idx hA; (case hg => rfl); (case hd => rfl); (case hx => rfl); (case hi => rfl); (case hm => rfl); (case hu => exact hx); intro q (hq : Pts _ q [.int .i64 y.version, .slice fa y.frames.length fc, .int .i64 y.weight])) | (apply s_load_ag; (case hg => rfl); (case hd => rfl); (case hx => rfl); (case hv => exact hq); (case hl => rfl)) | (apply z_call; rfl; rfl; rfl; exact isIn_t _ h1; rintro _ _ _ - ⟨rfl, rfl, rfl⟩) | (apply z_call; rfl; rfl; rfl; exact isIn_t _ h3; rintro _ _ _ - ⟨rfl, rfl, rfl⟩) | (apply z_call; rfl; rfl; rfl; exact hany _ e5; rintro _ _ _ - ⟨rfl, rfl, rfl⟩) | refine Jo ?_ | intro _))
    exact o_ret Tryz.results49 rfl (List.nil_sublist _) ⟨rfl, rfl, rfl⟩
/-- The symbol belongs to an address of a version. -/
def symB (v a : Int) (s : Sym) : Bool := decide (s.version = v) && decide (s.from_ ≤ a) && decide (a < s.to)
theorem sym_con (v a : Int) (x : Sym) (b1 b2 : Nat) (S : SH) (p1 : Pts S ⟨b1, 0, none⟩ [.int .i64 v]) (p2 : Pts S ⟨b2, 0, none⟩ [.int .i64 a]) :
    Con Tryz.prog 67 #[.agg [.int .i64 x.version, .int .i64 x.from_, .int .i64 x.to, strV x.name].toArray, .pointer (some ⟨b1, 0, none⟩), .pointer (some ⟨b2, 0, none⟩)] S [] (X.Pure S (.bool (symB v a x))) := by
  refine con_of (args := [.agg [.int .i64 x.version, .int .i64 x.from_, .int .i64 x.to, strV x.name].toArray, .pointer (some ⟨b1, 0, none⟩), .pointer (some ⟨b2, 0, none⟩)]) Tryz.func67 rfl Tryz.ntmps67 rfl fun w => ?_
  unfold symB
  by_cases h1 : x.version = v <;> by_cases h2 : x.from_ ≤ a <;> by_cases h3 : a < x.to
  all_goals (repeat (first | refine Jc ?_ | (apply s_load1; (case hg => rfl); (case hd => rfl); (case hx => rfl); (case hv => exact p1)) | (apply s_load1; (case hg => rfl); (case hd => rfl); (case hx => rfl); (case hv => exact p2)) | refine Jo ?_ | intro _))
  all_goals exact o_ret Tryz.results67 rfl (List.nil_sublist _) ⟨rfl, rfl, by simp [h1, h2, h3]⟩
def namedV (l : List Sym) (v a : Int) : Bs := match l.find? (symB v a) with | some s => s.name | none => [63]
theorem named_con (l : List Sym) (A : Option Addr) (c : Nat) (v a : Int) (S : SH) (hA : At S A l) (hl : l.length ≤ 1000000) :
    Con Tryz.prog 50 #[.slice A l.length c, .int .i64 v, .int .i64 a] S [] (fun S' L' r => L' = [] ∧ r = strV (namedV l v a)) := by
  refine con_of (args := [.slice A l.length c, .int .i64 v, .int .i64 a]) Tryz.func50 rfl Tryz.ntmps50 rfl fun w => ?_
  (repeat (first | refine Jz ?_ | intro _))
  rename_i b1 b2
  refine W.freeze fun S1 hle1 hb1 => W.freeze fun S2 hle2 hb2 => ?_
  have p2 : Pts S2 ⟨b2, 0, none⟩ [.int .i64 a] := (pts_block hb1 rfl : Pts S1 ⟨b2, 0, none⟩ [.int .i64 a]).le hle2
  have p1 : Pts S2 ⟨b1, 0, none⟩ [.int .i64 v] := pts_block hb2 rfl
  have hA2 := hA.le (hle1.trans hle2)
  have hc := idxS_con (f := 67) [.pointer (some ⟨b1, 0, none⟩), .pointer (some ⟨b2, 0, none⟩)] (symB v a) l A c S2 hA2 hl (fun x _ => sym_con v a x b1 b2 S2 p1 p2)
  cases hf : l.findIdx? (symB v a) with
  | none =>
    have h1 := List.findIdx?_eq_none_iff.1 hf
    have e1 : idxI (symB v a) l = -1 := idxI_none (fun x hx => h1 x hx)
    have e2 : namedV l v a = [63] := by
      unfold namedV
      rw [List.find?_eq_none.2 (fun x hx => by rw [h1 x hx]; decide)]
    rw [e1] at hc
    rw [e2]
    (repeat (first | refine Jc ?_ | (apply z_call; rfl; rfl; rfl; exact hc; rintro _ _ _ - ⟨rfl, rfl, rfl⟩) | refine Jo ?_ | intro _))
    exact o_ret Tryz.results50 rfl (List.nil_sublist _) ⟨rfl, rfl⟩
  | some i =>
    have h1 := hf
    rw [List.findIdx?_eq_some_iff_getElem] at h1
    obtain ⟨hi, hp, hj⟩ := h1
    have hx : l[i]? = some l[i] := List.getElem?_eq_getElem hi
    have e1 : idxI (symB v a) l = i := by unfold idxI; rw [hf]
    have e2 : namedV l v a = l[i].name := by
      unfold namedV
      have : l.find? (symB v a) = some l[i] := by
        rw [List.find?_eq_some_iff_getElem]
        exact ⟨hp, i, hi, rfl, fun j hjk => by simpa using hj j hjk⟩
      rw [this]
    rw [e1] at hc
    rw [e2]
    generalize l[i] = x at *
    (repeat (first | refine Jc ?_ | (apply z_call; rfl; rfl; rfl; exact hc; rintro _ _ _ - ⟨rfl, rfl, rfl⟩) | (apply s_idx hA2; (case hg => rfl); (case hd => rfl); (case hx => rfl); (case hi => rfl); (case hm => rfl); (case hu => exact hx); intro q (hq : Pts _ q [.int .i64 x.version, .int .i64 x.from_, .int .i64 x.to, strV x.name])) | (apply s_load_f; (case hg => rfl); (case hd => rfl); (case hx => rfl); (case h => exact hq); (case hv => rfl)) | refine Jo ?_ | intro _))
    exact o_ret Tryz.results50 rfl (List.nil_sublist _) ⟨rfl, rfl⟩
end Go.Proofs.YtcnfchchanlepaaGreat
namespace Go.Proofs.YtcnfchchanlepaaGreat
open Go Go.X
set_option maxRecDepth 10000
set_option linter.unusedVariables false
attribute [local irreducible] Code.wpIn wpListIn Exit.then Exit.inBlock X.Out X.Back X.W X.Ev X.Con X.BinV X.Wh X.Wn X.Wq
def symOk (s : Sym) : Prop := inB s.version 0 9 = true ∧ inB s.from_ 0 1000000 = true ∧ inB s.to (s.from_ + 1) 1000000 = true ∧ nameB s.name = true
def pairI (p s : Sym) : Int := orI [cmpI p.version s.version, cmpI p.to s.from_]
def SymsTo (l : List Sym) (k : Nat) : Prop := ∀ i s, i < k → l[i]? = some s → symOk s ∧ ∀ p, 0 < i → l[i - 1]? = some p → ¬ 0 < pairI p s
def SymsOk (l : List Sym) : Prop := SymsTo l l.length ∧ l.length ≤ 100
set_option maxHeartbeats 1600000 in
theorem areSymbols_con (l : List Sym) (A : Option Addr) (c : Nat) (S : SH) (hA : At S A l) (hl : l.length ≤ 1000000) :
    Con Tryz.prog 48 #[.slice A l.length c] S [] (fun S' L' r => L' = [] ∧ (r = .bool true ∧ SymsOk l ∨ r = .bool false ∧ ¬ SymsOk l)) := by
  refine con_of (args := [.slice A l.length c]) Tryz.func48 rfl Tryz.ntmps48 rfl fun w => ?_
  (repeat (first | refine Jz ?_ | intro _))
  refine c_loop (fun m S' L F => Le S S' ∧ L = [] ∧ ∃ (k : Nat), m = l.length - k ∧ k ≤ l.length ∧ SymsTo l k ∧ F = [(0, .slice A l.length c), (5, .slice A l.length c), (6, .int .i64 l.length), (7, .int .i64 k)]) ⟨Le.refl _, rfl, 0, rfl, by omega, fun i s h => by omega, rfl⟩ sbF (List.nil_sublist _) ?_
  rintro m S1 L F ⟨hle1, rfl, k, rfl, hk1, hi, rfl⟩
  have hA1 := hA.le hle1
  by_cases hlt : k < l.length
  rotate_left
  · obtain rfl : k = l.length := by omega
    by_cases h100 : l.length ≤ 100
    · (repeat (first | refine Jz ?_ | intro _))
      exact o_ret Tryz.results48 rfl (List.nil_sublist _) ⟨rfl, .inl ⟨rfl, hi, h100⟩⟩
    · (repeat (first | refine Jz ?_ | intro _))
      exact o_ret Tryz.results48 rfl (List.nil_sublist _) ⟨rfl, .inr ⟨rfl, fun h => h100 h.2⟩⟩
  obtain ⟨x, hx⟩ : ∃ x, l[k]? = some x := ⟨_, List.getElem?_eq_getElem hlt⟩
  have hbad : ¬ symOk x → ¬ SymsOk l := fun h hs => h (hs.1 k x hlt hx).1
  cases h1 : inB x.version 0 9
  · (repeat (first | refine Jc ?_ | (apply s_idx hA1; (case hg => rfl); (case hd => rfl); (case hx => rfl); (case hi => rfl); (case hm => rfl); (case hu => exact hx); intro q (hq : Pts _ q [.int .i64 x.version, .int .i64 x.from_, .int .i64 x.to, strV x.name])) | (apply s_load_ag; (case hg => rfl); (case hd => rfl); (case hx => rfl); (case hv => exact hq); (case hl => rfl)) | (apply z_call; rfl; rfl; rfl; exact isIn_t _ h1; rintro _ _ _ - ⟨rfl, rfl, rfl⟩) | refine Jo ?_ | intro _))
    exact o_ret Tryz.results48 rfl (List.nil_sublist _) ⟨rfl, .inr ⟨rfl, hbad fun h => by rw [h.1] at h1; cases h1⟩⟩
  cases h2 : inB x.from_ 0 1000000
  · (repeat (first | refine Jc ?_ | (apply s_idx hA1; (case hg => rfl); (case hd => rfl); (case hx => rfl); (case hi => rfl); (case hm => rfl); (case hu => exact hx); intro q (hq : Pts _ q [.int .i64 x.version, .int .i64 x.from_, .int .i64 x.to, strV x.name])) | (apply s_load_ag; (case hg => rfl); (case hd => rfl); (case hx => rfl); (case hv => exact hq); (case hl => rfl)) | (apply z_call; rfl; rfl; rfl; exact isIn_t _ h1; rintro _ _ _ - ⟨rfl, rfl, rfl⟩) | (apply z_call; rfl; rfl; rfl; exact isIn_t _ h2; rintro _ _ _ - ⟨rfl, rfl, rfl⟩) | refine Jo ?_ | intro _))
    exact o_ret Tryz.results48 rfl (List.nil_sublist _) ⟨rfl, .inr ⟨rfl, hbad fun h => by rw [h.2.1] at h2; cases h2⟩⟩
  have h2' := h2
  unfold inB at h2'
  simp only [decide_eq_true_eq] at h2'
  cases h3 : inB x.to (x.from_ + 1) 1000000
  · (repeat (first | refine Jc ?_ | (apply s_idx hA1; (case hg => rfl); (case hd => rfl); (case hx => rfl); (case hi => rfl); (case hm => rfl); (case hu => exact hx); intro q (hq : Pts _ q [.int .i64 x.version, .int .i64 x.from_, .int .i64 x.to, strV x.name])) | (apply s_load_ag; (case hg => rfl); (case hd => rfl); (case hx => rfl); (case hv => exact hq); (case hl => rfl)) | (apply z_call; rfl; rfl; rfl; exact isIn_t _ h1; rintro _ _ _ - ⟨rfl, rfl, rfl⟩) | (apply z_call; rfl; rfl; rfl; exact isIn_t _ h2; rintro _ _ _ - ⟨rfl, rfl, rfl⟩) | (apply z_call; rfl; rfl; rfl; exact isIn_t _ h3; rintro _ _ _ - ⟨rfl, rfl, rfl⟩) | refine Jo ?_ | intro _))
    exact o_ret Tryz.results48 rfl (List.nil_sublist _) ⟨rfl, .inr ⟨rfl, hbad fun h => by rw [h.2.2.1] at h3; cases h3⟩⟩
  have hnm := fun S => isName_con x.name S
  cases h4 : nameB x.name
  · rw [h4] at hnm
    (repeat (first | refine Jc ?_ | (apply s_idx hA1; (case hg => rfl); (case hd => rfl); (case hx => rfl); (case hi => rfl); (case hm => rfl); (case hu => exact hx); intro q (hq : Pts _ q [.int .i64 x.version, .int .i64 x.from_, .int .i64 x.to, strV x.name])) | (apply s_load_ag; (case hg => rfl); (case hd => rfl); (case hx => rfl); (case hv => exact hq); (case hl => rfl)) | (apply z_call; rfl; rfl; rfl; exact isIn_t _ h1; rintro _ _ _ - ⟨rfl, rfl, rfl⟩) | (apply z_call; rfl; rfl; rfl; exact isIn_t _ h2; rintro _ _ _ - ⟨rfl, rfl, rfl⟩) | (apply z_call; rfl; rfl; rfl; exact isIn_t _ h3; rintro _ _ _ - ⟨rfl, rfl, rfl⟩) | (apply z_call; rfl; rfl; rfl; exact hnm _; rintro S2 _ _ hle2 ⟨rfl, rfl⟩) | refine Jo ?_ | intro _))
    exact o_ret Tryz.results48 rfl (List.nil_sublist _) ⟨rfl, .inr ⟨rfl, hbad fun h => by rw [h.2.2.2] at h4; cases h4⟩⟩
  rw [h4] at hnm
  (repeat (first | refine Jc ?_ | (apply s_idx hA1; (case hg => rfl); (case hd => rfl); (case hx => rfl); (case hi => rfl); (case hm => rfl); (case hu => exact hx); intro q (hq : Pts _ q [.int .i64 x.version, .int .i64 x.from_, .int .i64 x.to, strV x.name])) | (apply s_load_ag; (case hg => rfl); (case hd => rfl); (case hx => rfl); (case hv => exact hq); (case hl => rfl)) | (apply z_call; rfl; rfl; rfl; exact isIn_t _ h1; rintro _ _ _ - ⟨rfl, rfl, rfl⟩) | (apply z_call; rfl; rfl; rfl; exact isIn_t _ h2; rintro _ _ _ - ⟨rfl, rfl, rfl⟩) | (apply z_call; rfl; rfl; rfl; exact isIn_t _ h3; rintro _ _ _ - ⟨rfl, rfl, rfl⟩) | (apply z_call; rfl; rfl; rfl; exact hnm _; rintro S2 _ _ hle2 ⟨rfl, rfl⟩) | refine Jo ?_ | intro _))
  rename_i b4
  have hA2 := hA1.le hle2
  rcases k with _ | k
  · ((apply c_held ([(b4, .cells [.int .i64 x.version, .int .i64 x.from_, .int .i64 x.to, strV x.name].toArray 46 (0, 0))]); (case hL => (exact sbT))); refine Jf 0 ?_; refine Jf 1 ?_; refine Jf 2 ?_; refine Jf 3 ?_; refine Jf 4 ?_; refine Jf 5 ?_; refine Jf 6 ?_; refine Jf 7 ?_; refine Jf 8 ?_; refine Jf 9 ?_; refine Jf 10 ?_; refine Jf 12 ?_; refine Jf 13 ?_; refine Jf 14 ?_; refine Jf 15 ?_; refine Jf 16 ?_; refine Jf 17 ?_; refine Jf 18 ?_; refine Jf 19 ?_; (apply h_one 11; (case hr => kernel_rfl)); (refine X.Jn ?_; try intro _); (apply h_one 20; (case hr => kernel_rfl)); (refine X.Jn ?_; try intro _); (apply h_one 21; (case hr => kernel_rfl)); (refine X.Jn ?_; try intro _); (apply h_one 22; (case hr => kernel_rfl)); (refine X.Jn ?_; try intro _); refine Jf 23 ?_; refine Jf 24 ?_; (apply h_end; (case hr => kernel_rfl)))
    (repeat (first | refine Jz ?_ | intro _))
    refine q_back (L' := []) (m' := l.length - 1) ⟨hle1.trans hle2, rfl, 1, rfl, by omega, fun i s hi' hs => ?_, rfl⟩ (by omega) sbF (List.nil_sublist _)
    obtain rfl : i = 0 := by omega
    obtain rfl := Option.some.inj (hx.symm.trans hs)
    exact ⟨⟨h1, h2, h3, h4⟩, fun p h => by omega⟩
  obtain ⟨y, hy⟩ : ∃ y, l[k]? = some y := ⟨_, List.getElem?_eq_getElem (by omega)⟩
  by_cases hp : 0 < pairI y x
  all_goals unfold pairI at hp
  all_goals ((apply c_held ([(b4, .cells [.int .i64 x.version, .int .i64 x.from_, .int .i64 x.to, strV x.name].toArray 46 (0, 0))]); (case hL => (exact sbT))); refine Jf 0 ?_; refine Jf 1 ?_; refine Jf 2 ?_; refine Jf 3 ?_; refine Jf 4 ?_; (apply h_first 5; (case hi => rfl); (case hr => kernel_rfl); (case hfr => kernel_rfl); (case hsel => kernel_rfl); (case hg => rfl); (case hd => rfl); (case he => (apply ev_binV; (case hx => rfl); (case hy => rfl); (case hb => (apply bv_pred; omega))))); (apply h_idx hA2 6; (case hi => rfl); (case hr => kernel_rfl); (case hfr => kernel_rfl); (case hsel => kernel_rfl); (case hg => rfl); (case hd => rfl); (case i1 => infer_instance); (case i2 => infer_instance); (case hx => rfl); (case hy => rfl); (case hm => rfl); (case hu => exact hy); intro q (hq : Pts _ q [.int .i64 y.version, .int .i64 y.from_, .int .i64 y.to, strV y.name])); refine Jf 7 ?_; (apply h_first 8; (case hi => rfl); (case hr => kernel_rfl); (case hfr => kernel_rfl); (case hsel => kernel_rfl); (case hg => rfl); (case hd => rfl); (case he => (apply ev_load_f; (case hx => rfl); (case h => exact hq); (case hv => rfl)))); refine Jf 9 ?_; refine Jf 10 ?_; refine Jf 12 ?_; refine Jf 13 ?_; (apply h_first 14; (case hi => rfl); (case hr => kernel_rfl); (case hfr => kernel_rfl); (case hsel => kernel_rfl); (case hg => rfl); (case hd => rfl); (case he => (apply ev_binV; (case hx => rfl); (case hy => rfl); (case hb => (apply bv_pred; omega))))); (apply h_idx hA2 15; (case hi => rfl); (case hr => kernel_rfl); (case hfr => kernel_rfl); (case hsel => kernel_rfl); (case hg => rfl); (case hd => rfl); (case i1 => infer_instance); (case i2 => infer_instance); (case hx => rfl); (case hy => rfl); (case hm => rfl); (case hu => exact hy); intro q (hq : Pts _ q [.int .i64 y.version, .int .i64 y.from_, .int .i64 y.to, strV y.name])); refine Jf 16 ?_; (apply h_first 17; (case hi => rfl); (case hr => kernel_rfl); (case hfr => kernel_rfl); (case hsel => kernel_rfl); (case hg => rfl); (case hd => rfl); (case he => (apply ev_load_f; (case hx => rfl); (case h => exact hq); (case hv => rfl)))); refine Jf 18 ?_; refine Jf 19 ?_; (apply h_one 11; (case hr => kernel_rfl)); (apply n_call; (case hi => rfl); (case i1 => infer_instance); (case hg => rfl); (case hd => rfl); (case ha => rfl); (case hc => exact cmpI_con y.version x.version _); (case hL => (repeat (first | exact pm_nil _ | exact pm_refl _ _ | exact pm_self _ | apply pm_cons | apply pm_app))); (case hsub => (intros; (exact sbT))); rintro _ _ _ - ⟨rfl, rfl, rfl⟩); (apply h_one 20; (case hr => kernel_rfl)); (apply n_call; (case hi => rfl); (case i1 => infer_instance); (case hg => rfl); (case hd => rfl); (case ha => rfl); (case hc => exact cmpI_con y.to x.from_ _); (case hL => (repeat (first | exact pm_nil _ | exact pm_refl _ _ | exact pm_self _ | apply pm_cons | apply pm_app))); (case hsub => (intros; (exact sbT))); rintro _ _ _ - ⟨rfl, rfl, rfl⟩); (apply h_one 21; (case hr => kernel_rfl)); (apply n_buildSlice; (case hi => rfl); (case hg => rfl); (case hd => rfl); (case i1 => infer_instance); (case i2 => infer_instance); (case i3 => infer_instance); (case hp => rfl); (case hq => rfl); (case hm => rfl); (case hv => rfl); (case hl => rfl); intro bl); refine Wh.freezeOws (L1 := [(b4, .cells [.int .i64 x.version, .int .i64 x.from_, .int .i64 x.to, strV x.name].toArray 46 (0, 0))]) (Ows.full (α := Int) (e := 3) (g := bl) (cs := ([Value.int .i64 (cmpI y.version x.version), Value.int .i64 (cmpI y.to x.from_)] : List Value).flatMap (fun x => x.cells.toList)) (l := [cmpI y.version x.version, cmpI y.to x.from_]) rfl (show 2 ≤ maxLen by decide)) (pmc (fun p => by (repeat (first | rw [List.countP_append] | rw [List.countP_cons] | rw [List.countP_nil])); (all_goals (first | rfl | omega)))) sbL fun S3 hle3 hs3 => ?_; obtain ⟨A3, c3, e3, hc3, hA3⟩ := hs3; injection e3 with e4 e5 e6; subst e4; subst e6; (apply h_one 22; (case hr => kernel_rfl)); (apply n_call; (case hi => rfl); (case i1 => infer_instance); (case hg => rfl); (case hd => rfl); (case ha => rfl); (case hc => exact or_con [cmpI y.version x.version, cmpI y.to x.from_] _ _ _ hA3 (show 2 ≤ 1000000 by decide)); (case hL => (repeat (first | exact pm_nil _ | exact pm_refl _ _ | exact pm_self _ | apply pm_cons | apply pm_app))); (case hsub => (intros; (exact sbT))); rintro _ _ _ - ⟨rfl, rfl, rfl⟩); refine Jf 23 ?_; refine Jf 24 ?_; (apply h_end; (case hr => kernel_rfl)))
  all_goals (repeat (first | refine Jz ?_ | intro _))
  · exact o_ret Tryz.results48 rfl (List.nil_sublist _) ⟨rfl, .inr ⟨rfl, fun h => (h.1 (k + 1) x hlt hx).2 y (by omega) hy hp⟩⟩
  · refine q_back (L' := []) (m' := l.length - (k + 1 + 1)) ⟨(hle1.trans hle2).trans hle3, rfl, k + 1 + 1, rfl, by omega, fun i s hi' hs => ?_, rfl⟩ (by omega) sbF (List.nil_sublist _)
    by_cases hik : i < k + 1
    · exact hi i s hik hs
    obtain rfl : i = k + 1 := by omega
    obtain rfl := Option.some.inj (hx.symm.trans hs)
    refine ⟨⟨h1, h2, h3, h4⟩, fun p _ hp' => ?_⟩
    obtain rfl := Option.some.inj (hy.symm.trans hp')
    exact hp
end Go.Proofs.YtcnfchchanlepaaGreat
