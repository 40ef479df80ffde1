/- The step calculus of these proofs: a state of a call (a frame as a list of slots, what is stable in memory, the blocks that the call owns) and one rule for each kind of code and operation; it holds for every program, on no condition beyond each rule's own premises. -/
import Derived.WalkKit
import Derived.TacticsIn
import Derived.Deep.Quiet
import Derived.OrdersIn
import Derived.Below
import Derived.RangeFuncLeaves
import Derived.Laws.Entries
import Derived.Laws.Cells
import Derived.Laws.Tables
import Derived.Laws.AppendOwn
import Derived.Maps.AppendAt
import Derived.Laws.MakeOwn
import Derived.Laws.CopyRow
import Derived.OwnWalk
import Derived.Laws.OwnMore
import Derived.ArgAppend
import Derived.Laws.AppendOwnNone
import Derived.Deep.RegionHeld3
import Derived.Lib.OwnBridge
import Derived.Lib.SortBridge
import Derived.Lib.SlicesCompact
import Derived.RangeFuncRecord
import Derived.ChangeKeysEq
import Derived.Maps.Keyed
import Derived.Carry
import Derived.ProofKit
import Derived.OpenShut
import Derived.ShutString
import Derived.ChangeOld
import Derived.Deep.Slices
import Derived.Laws.IdiomStrings
import Derived.Laws.IdiomCopy
import Derived.Laws.DeepStrings4
import Derived.Laws.Concat
namespace Go.X
open Go Go.RowKit

/-- Every function, any depth; in a round of a loop over a function, or not. -/
abbrev Fr (ro : Option Nat) : Fence := { fn := fun _ => True, depth := none, alive := false, round := ro }

/-- What is stable: blocks that nobody writes any more. -/
abbrev SH := Nat → Option Obj
def Le (S T : SH) : Prop := ∀ b o, S b = some o → T b = some o
theorem Le.refl (S : SH) : Le S S := fun _ _ h => h
theorem Le.trans {S T U : SH} (h : Le S T) (k : Le T U) : Le S U := fun b o e => k b o (h b o e)

abbrev Blocks := List (Nat × Obj)
abbrev Slots := List (Nat × Value)

structure Cx where
  w0 : World
  S0 : SH
  L0 : List Nat

structure St (cx : Cx) (S : SH) (L : Blocks) (w : World) : Prop where
  size : cx.w0.heap.size ≤ w.heap.size
  os : w.os = cx.w0.os
  tape : w.tape = cx.w0.tape
  output : w.output = cx.w0.output
  drawn : cx.w0.drawn ≤ w.drawn
  keep : ∀ b, b < cx.w0.heap.size → b ∉ cx.L0 → w.heap[b]? = cx.w0.heap[b]?
  stable : ∀ b o, S b = some o → w.heap[b]? = some o
  own : ∀ p ∈ L, w.heap[p.1]? = some p.2
  sep : ∀ p ∈ L, S p.1 = none
  nodup : (L.map (·.1)).Nodup
  new : ∀ p ∈ L, p.1 < cx.w0.heap.size → p.1 ∈ cx.L0
  grow : ∀ b, S b = cx.S0 b ∨ cx.w0.heap.size ≤ b ∨ b ∈ cx.L0
  le : Le cx.S0 S

/-- The contract of a call: it takes the blocks L, and gives back a value, blocks L', and more that is stable. -/
def Con (P : Program) (f : FuncId) (vs : Array Value) (S : SH) (L : Blocks) (R : SH → Blocks → Value → Prop) : Prop :=
  ∀ w, St ⟨w, S, L.map (·.1)⟩ S L w → Calls P f vs w fun e w' => ∃ v S' L', e = .returned v ∧ R S' L' v ∧ St ⟨w, S, L.map (·.1)⟩ S' L' w'

theorem Con.mono {P : Program} {f : FuncId} {vs : Array Value} {S : SH} {L : Blocks} {R R' : SH → Blocks → Value → Prop} (h : Con P f vs S L R)
    (hr : ∀ S' L' v, Le S S' → R S' L' v → R' S' L' v) : Con P f vs S L R' :=
  fun w hw => (h w hw).mono fun _ _ ⟨v, S', L', he, hR, hs⟩ => ⟨v, S', L', he, hr _ _ _ hs.le hR, hs⟩

theorem heap_lt {w : World} {b : Nat} {o : Obj} (h : w.heap[b]? = some o) : b < w.heap.size := by
  rcases Nat.lt_or_ge b w.heap.size with hlt | hge
  · exact hlt
  · rw [Array.getElem?_eq_none hge] at h; cases h

section
variable {cx : Cx} {S S' : SH} {L L' R : Blocks} {w w' : World}

theorem St.lt (h : St cx S L w) {p : Nat × Obj} (hp : p ∈ L) : p.1 < w.heap.size := heap_lt (h.own p hp)

theorem St.start (w : World) (S : SH) (L : Blocks) (hs : ∀ b o, S b = some o → w.heap[b]? = some o) (ho : ∀ p ∈ L, w.heap[p.1]? = some p.2) (hsep : ∀ p ∈ L, S p.1 = none) (hn : (L.map (·.1)).Nodup) :
    St ⟨w, S, L.map (·.1)⟩ S L w :=
  ⟨Nat.le_refl _, rfl, rfl, rfl, Nat.le_refl _, fun _ _ _ => rfl, hs, ho, hsep, hn, fun _ hp _ => List.mem_map_of_mem hp, fun _ => .inl rfl, Le.refl _⟩

/-- The part of the state that a callee sees. -/
theorem St.sub (h : St cx S (L ++ R) w) : St ⟨w, S, L.map (·.1)⟩ S L w :=
  St.start w S L h.stable (fun p hp => h.own p (List.mem_append_left _ hp)) (fun p hp => h.sep p (List.mem_append_left _ hp)) (by
    have := h.nodup; rw [List.map_append] at this; exact (List.nodup_append.1 this).1)

theorem St.back (h : St cx S (L ++ R) w) (k : St ⟨w, S, L.map (·.1)⟩ S' L' w') : St cx S' (L' ++ R) w' := by
  have hnd := h.nodup
  rw [List.map_append, List.nodup_append] at hnd
  have hdisj : ∀ p ∈ R, p.1 ∉ L.map (·.1) := fun p hp hin => hnd.2.2 _ hin _ (List.mem_map_of_mem hp) rfl
  have hRlt : ∀ p ∈ R, p.1 < w.heap.size := fun p hp => h.lt (List.mem_append_right _ hp)
  refine ⟨Nat.le_trans h.size k.size, k.os.trans h.os, k.tape.trans h.tape, k.output.trans h.output, Nat.le_trans h.drawn k.drawn, ?_, k.stable, ?_, ?_, ?_, ?_, ?_, h.le.trans k.le⟩
  · intro b hb hb0
    refine (k.keep b (Nat.lt_of_lt_of_le hb h.size) fun hin => ?_).trans (h.keep b hb hb0)
    obtain ⟨p, hp, rfl⟩ := List.mem_map.1 hin
    exact hb0 (h.new p (List.mem_append_left _ hp) hb)
  · intro p hp
    rcases List.mem_append.1 hp with hp | hp
    · exact k.own p hp
    · exact (k.keep p.1 (hRlt p hp) (hdisj p hp)).trans (h.own p (List.mem_append_right _ hp))
  · intro p hp
    rcases List.mem_append.1 hp with hp | hp
    · exact k.sep p hp
    · rcases k.grow p.1 with e | e | e
      · exact e.trans (h.sep p (List.mem_append_right _ hp))
      · exact absurd (hRlt p hp) (Nat.not_lt.2 e)
      · exact absurd e (hdisj p hp)
  · rw [List.map_append, List.nodup_append]
    refine ⟨k.nodup, hnd.2.1, ?_⟩
    intro x hx y hy hxy
    subst hxy
    obtain ⟨p, hp, rfl⟩ := List.mem_map.1 hx
    obtain ⟨q, hq, hqp⟩ := List.mem_map.1 hy
    have hlt : p.1 < w.heap.size := hqp ▸ hRlt q hq
    have := k.new p hp hlt
    exact hdisj q hq (hqp ▸ this)
  · intro p hp hlt
    rcases List.mem_append.1 hp with hp | hp
    · have := k.new p hp (Nat.lt_of_lt_of_le hlt h.size)
      obtain ⟨q, hq, hqp⟩ := List.mem_map.1 this
      exact hqp ▸ h.new q (List.mem_append_left _ hq) (hqp ▸ hlt)
    · exact h.new p (List.mem_append_right _ hp) hlt
  · intro b
    rcases k.grow b with e | e | e
    · rcases h.grow b with g | g
      · exact .inl (e.trans g)
      · exact .inr g
    · exact .inr (.inl (Nat.le_trans h.size e))
    · obtain ⟨q, hq, rfl⟩ := List.mem_map.1 e
      rcases Nat.lt_or_ge q.1 cx.w0.heap.size with hlt | hge
      · exact .inr (.inr (h.new q (List.mem_append_left _ hq) hlt))
      · exact .inr (.inl hge)

theorem St.weaken (h : St cx S L w) (hs : L'.Sublist L) : St cx S L' w :=
  { h with own := fun p hp => h.own p (hs.subset hp), sep := fun p hp => h.sep p (hs.subset hp), nodup := h.nodup.sublist (hs.map _), new := fun p hp => h.new p (hs.subset hp) }

theorem St.perm (h : St cx S L w) (hs : L.Perm L') : St cx S L' w :=
  { h with own := fun p hp => h.own p (hs.mem_iff.2 hp), sep := fun p hp => h.sep p (hs.mem_iff.2 hp), nodup := (hs.map _).nodup_iff.1 h.nodup, new := fun p hp => h.new p (hs.mem_iff.2 hp) }

theorem St.drew (h : St cx S L w) : St cx S L { w with drawn := w.drawn + 1 } := { h with drawn := Nat.le_trans h.drawn (Nat.le_succ _) }

theorem St.alloc (h : St cx S L w) (o : Obj) : St cx S ((w.heap.size, o) :: L) (w.alloc o) := by
  have hold : ∀ b o', w.heap[b]? = some o' → (w.alloc o).heap[b]? = some o' := fun b o' hb => (Below.heap_alloc w o b (heap_lt hb)).trans hb
  refine ⟨Nat.le_trans h.size (by simp), h.os, h.tape, h.output, h.drawn, fun b hb hb0 => (Below.heap_alloc w o b (Nat.lt_of_lt_of_le hb h.size)).trans (h.keep b hb hb0), fun b o' hb => hold _ _ (h.stable b o' hb), ?_, ?_, ?_, ?_, h.grow, h.le⟩
  · intro p hp
    rcases List.mem_cons.1 hp with rfl | hp
    · exact heap_alloc_new w o
    · exact hold _ _ (h.own p hp)
  · intro p hp
    rcases List.mem_cons.1 hp with rfl | hp
    · cases hs : S w.heap.size with
      | none => rfl
      | some o' => exact absurd (heap_lt (h.stable _ _ hs)) (Nat.lt_irrefl _)
    · exact h.sep p hp
  · rw [List.map_cons, List.nodup_cons]
    refine ⟨fun hin => ?_, h.nodup⟩
    obtain ⟨p, hp, he⟩ := List.mem_map.1 hin
    have := h.lt hp
    simp only at he
    omega
  · intro p hp hlt
    rcases List.mem_cons.1 hp with rfl | hp
    · exact absurd (Nat.lt_of_lt_of_le hlt h.size) (Nat.lt_irrefl _)
    · exact h.new p hp hlt

/-- The first block is written. -/
theorem St.set (h : St cx S L w) {i b : Nat} {o o' : Obj} (hi : L[i]? = some (b, o)) (hh : w'.heap.size = w.heap.size) (ho : w'.os = w.os) (ht : w'.tape = w.tape) (hou : w'.output = w.output)
    (hb : w'.heap[b]? = some o') (hk : ∀ c, c ≠ b → w'.heap[c]? = w.heap[c]?) (hdr : w.drawn ≤ w'.drawn := by exact Nat.le_refl _) : St cx S (L.set i (b, o')) w' := by
  have hmem : (b, o) ∈ L := List.mem_of_getElem? hi
  have hlt : i < L.length := (List.getElem?_eq_some_iff.1 hi).1
  have hmap : (L.set i (b, o')).map (·.1) = L.map (·.1) := by
    rw [List.map_set]
    refine List.ext_getElem? fun j => ?_
    rw [List.getElem?_set]
    split
    · rename_i hij; subst hij
      have e : L[i] = (b, o) := by rw [List.getElem?_eq_getElem hlt] at hi; exact Option.some.inj hi
      simp [hlt, e]
    · rfl
  have hfst : ∀ p ∈ L.set i (b, o'), p = (b, o') ∨ (p ∈ L ∧ p.1 ≠ b) := by
    intro p hp
    obtain ⟨j, hj, hpj⟩ := List.getElem_of_mem hp
    rw [List.getElem_set] at hpj
    split at hpj
    · exact .inl hpj.symm
    · rename_i hij
      have hjl : j < L.length := by simpa using hj
      refine .inr ⟨hpj ▸ List.getElem_mem _, fun e => hij ?_⟩
      have h1 : (L.map (·.1))[i]'(by simpa using hlt) = (L.map (·.1))[j]'(by simpa using hjl) := by
        have hib : L[i] = (b, o) := by
          have := List.getElem?_eq_getElem hlt; rw [this] at hi; exact Option.some.inj hi
        simp [hib, hpj, e]
      exact (List.getElem_inj h.nodup).1 h1
  have hne : ∀ c, S c ≠ none → c ≠ b := fun c hc e => hc (e ▸ h.sep _ hmem)
  refine ⟨hh ▸ h.size, ho.trans h.os, ht.trans h.tape, hou.trans h.output, Nat.le_trans h.drawn hdr, ?_, ?_, ?_, ?_, hmap ▸ h.nodup, ?_, h.grow, h.le⟩
  · intro c hc hc0
    refine (hk c fun e => ?_).trans (h.keep c hc hc0)
    exact hc0 (e ▸ h.new _ hmem (e ▸ hc))
  · intro c oc hc
    exact (hk c (hne c (by simp [hc]))).trans (h.stable c oc hc)
  · intro p hp
    rcases hfst p hp with rfl | ⟨hp, hn⟩
    · exact hb
    · exact (hk _ hn).trans (h.own p hp)
  · intro p hp
    rcases hfst p hp with rfl | ⟨hp, _⟩
    · exact h.sep (b, o) hmem
    · exact h.sep p hp
  · intro p hp hlt'
    rcases hfst p hp with rfl | ⟨hp, _⟩
    · exact h.new (b, o) hmem hlt'
    · exact h.new p hp hlt'

def SH.add (S : SH) (b : Nat) (o : Obj) : SH := fun c => if c = b then some o else S c
/-- An own block becomes stable. -/
theorem St.freeze {b : Nat} {o : Obj} (h : St cx S ((b, o) :: L) w) : St cx (SH.add S b o) L w ∧ Le S (SH.add S b o) := by
  have hmem : (b, o) ∈ (b, o) :: L := List.mem_cons_self
  have hsub : L.Sublist ((b, o) :: L) := List.sublist_cons_self _ _
  have hle : Le S (SH.add S b o) := fun c oc hc => by
    unfold SH.add; split
    · rename_i e; subst e; have := h.sep _ hmem; simp only at this; rw [this] at hc; cases hc
    · exact hc
  have hw := h.weaken hsub
  refine ⟨{ hw with stable := ?_, sep := ?_, grow := ?_, le := hw.le.trans hle }, hle⟩
  · intro c oc hc
    unfold SH.add at hc
    split at hc
    · rename_i e; subst e; injection hc with hc; subst hc; exact h.own _ hmem
    · exact h.stable c oc hc
  · intro p hp
    have hne : p.1 ≠ b := fun e => by
      have := h.nodup
      rw [List.map_cons, List.nodup_cons] at this
      exact this.1 (List.mem_map.2 ⟨p, hp, e⟩)
    unfold SH.add
    rw [if_neg hne]
    exact hw.sep p hp
  · intro c
    unfold SH.add
    split
    · rename_i e; subst e
      rcases Nat.lt_or_ge c cx.w0.heap.size with hlt | hge
      · exact .inr (.inr (h.new _ hmem hlt))
      · exact .inr (.inl hge)
    · exact h.grow c
end

/-! ### The frame -/
def get : Slots → Nat → Option Value
  | [], _ => none
  | (j, v) :: F, i => bif Nat.beq i j then some v else get F i

/-- Under this number a frame's list says which block gathers the deferred calls of the rounds of its loops over functions. -/
def kM : Nat := 1000000007
/-- A temporary's value. -/
def geT (F : Slots) (i : Nat) : Option Value := bif Nat.beq i kM then none else get F i
/-- The deferred calls. -/
def dfr (F : Slots) : List Deferred := match get F kM with | some (.map (some r)) => [⟨.collected r, #[]⟩] | some (.func (.func f) fix caps) => [⟨.fn (.func f) caps, fix⟩] | _ => []
structure Fm (n : Nat) (a : Act) (F : Slots) : Prop where
  size : a.tmps.size = n
  le : Nat.ble n kM = true
  defers : a.defers = dfr F
  slot : ∀ i v, geT F i = some v → a.tmps[i]? = some v

def evO (F : Slots) : Operand → Option Value
  | .tmp t => geT F t
  | .const v => some v
  | .global g => some (.pointer (some ⟨g, 0, none⟩))
  | .func f => some (.func (.func f) #[] #[])

theorem Fm.ev {n : Nat} {a : Act} {F : Slots} (h : Fm n a F) {x : Operand} {v : Value} (hx : evO F x = some v) : a.eval x = v := by
  cases x with
  | tmp t => simp only [evO] at hx; have := h.slot t v hx; simp [Act.eval, Array.getD_eq_getD_getElem?, this]
  | const c => simp only [evO, Option.some.injEq] at hx; exact hx
  | global g => simp only [evO, Option.some.injEq] at hx; exact hx
  | func f => simp only [evO, Option.some.injEq] at hx; exact hx

theorem Fm.put {n : Nat} {a : Act} {F : Slots} (h : Fm n a F) {d : Nat} (v : Value) (hd : Nat.blt d n = true) : Fm n (a.put (some d) v) ((d, v) :: F) := by
  have hd' : d < a.tmps.size := by rw [h.size]; exact Nat.le_of_ble_eq_true hd
  have hk : dfr ((d, v) :: F) = dfr F := by
    have h1 := Nat.le_of_ble_eq_true h.le
    have h2 : d < n := Nat.le_of_ble_eq_true hd
    have hb : Nat.beq kM d = false := by cases hx : Nat.beq kM d with | false => rfl | true => exact absurd (Nat.eq_of_beq_eq_true hx) (by omega)
    simp [dfr, get, hb]
  refine ⟨by simp [Act.put, h.size], h.le, by simp [Act.put, h.defers, hk], fun i u hu => ?_⟩
  simp only [Act.put]
  have hkm : Nat.beq i kM = false := by
    cases hx : Nat.beq i kM with
    | false => rfl
    | true => simp [geT, hx] at hu
  have hu' := hu
  simp only [geT, hkm, cond_false] at hu
  simp only [get] at hu
  by_cases hi : i = d
  · subst hi
    simp at hu
    subst hu
    simp [hd']
  · have hb : Nat.beq i d = false := by cases hx : Nat.beq i d with | false => rfl | true => exact absurd (Nat.eq_of_beq_eq_true hx) hi
    rw [hb] at hu
    simp only [cond_false] at hu
    rw [Array.getElem?_setIfInBounds_ne (fun e => hi e.symm)]
    exact h.slot i u (by simp only [geT, hkm, cond_false]; exact hu)

theorem Fm.none {n : Nat} {a : Act} {F : Slots} (h : Fm n a F) (v : Value) : Fm n (a.put none v) F := h

structure Sub (F' F : Slots) : Prop where
  val : ∀ i v, get F' i = some v → get F i = some v
  mark : get F' kM = get F kM
theorem Sub.refl (F : Slots) : Sub F F := ⟨fun _ _ h => h, rfl⟩
theorem Sub.nil {F : Slots} (h : get F kM = none) : Sub [] F := ⟨fun _ _ h => by simp [get] at h, by simp [get, h]⟩
theorem Sub.marked {F : Slots} {v : Value} (h : get F kM = some v) : Sub [(kM, v)] F := ⟨fun i u hj => by
  simp only [get] at hj
  cases hb : Nat.beq i kM with
  | false => rw [hb] at hj; simp at hj
  | true => rw [hb] at hj; simp only [cond_true, Option.some.injEq] at hj; subst hj; rw [Nat.eq_of_beq_eq_true hb]; exact h, by simp [get, h]⟩
theorem Sub.cons {F' F : Slots} {i : Nat} {v : Value} (h : get F i = some v) (k : Sub F' F) : Sub ((i, v) :: F') F := ⟨fun j u hj => by
  simp only [get] at hj
  cases hb : Nat.beq j i with
  | false => rw [hb] at hj; exact k.val j u hj
  | true => rw [hb] at hj; simp only [cond_true, Option.some.injEq] at hj; subst hj; rw [Nat.eq_of_beq_eq_true hb]; exact h, by
  simp only [get]
  cases hb : Nat.beq kM i with
  | false => exact k.mark
  | true => simp only [cond_true]; rw [Nat.eq_of_beq_eq_true hb]; exact h.symm⟩
theorem Fm.sub {n : Nat} {a : Act} {F F' : Slots} (h : Fm n a F) (hs : Sub F' F) : Fm n a F' := ⟨h.size, h.le, by rw [h.defers]; simp [dfr, hs.mark], fun i v hv => h.slot i v (by
  cases hb : Nat.beq i kM with
  | true => simp [geT, hb] at hv
  | false => simp only [geT, hb, cond_false] at hv ⊢; exact hs.val i v hv)⟩

def slotsOf : Nat → List Value → Slots
  | _, [] => []
  | i, v :: vs => (i, v) :: slotsOf (i + 1) vs

theorem get_slotsOf : ∀ (vs : List Value) (k i : Nat) (v : Value), get (slotsOf k vs) i = some v → k ≤ i ∧ vs[i - k]? = some v
  | [], k, i, v, h => by simp [slotsOf, get] at h
  | u :: vs, k, i, v, h => by
    simp only [slotsOf, get] at h
    cases hb : Nat.beq i k with
    | true =>
      rw [hb] at h
      simp only [cond_true, Option.some.injEq] at h
      have := Nat.eq_of_beq_eq_true hb
      subst this; subst h; simp
    | false =>
      rw [hb] at h
      simp only [cond_false] at h
      obtain ⟨h1, h2⟩ := get_slotsOf vs (k + 1) i v h
      refine ⟨by omega, ?_⟩
      rw [show i - k = (i - (k + 1)) + 1 from by omega, List.getElem?_cons_succ]
      exact h2

theorem Fm.start (args : List Value) (n : Nat) (hn : args.length ≤ n) (hk : Nat.ble n kM = true) :
    Fm n { tmps := args.toArray ++ Array.replicate (n - args.toArray.size) undef, defers := [] } (slotsOf 0 args) := by
  refine ⟨by simp; omega, hk, ?_, fun i v hv => ?_⟩
  · cases hg : get (slotsOf 0 args) kM with
    | none => simp [dfr, hg]
    | some v =>
      obtain ⟨_, h2⟩ := get_slotsOf args 0 kM v hg
      have h3 := (List.getElem?_eq_some_iff.1 h2).1
      have h4 := Nat.le_of_ble_eq_true hk
      omega
  have hv' : get (slotsOf 0 args) i = some v := by
    cases hb : Nat.beq i kM with
    | true => simp [geT, hb] at hv
    | false => simpa only [geT, hb, cond_false] using hv
  obtain ⟨_, h2⟩ := get_slotsOf args 0 i v hv'
  simp only [Nat.sub_zero] at h2
  have hlt := (List.getElem?_eq_some_iff.1 h2).1
  simp only
  rw [Array.getElem?_append_left (by simpa using hlt)]
  simpa using h2

/-! ### The judgement -/
def W (cx : Cx) (n : Nat) (S : SH) (L : Blocks) (F : Slots) (G : Act → World → Prop) : Prop := ∀ a w, Fm n a F → St cx S L w → G a w

/-- The operation yields this value and leaves the world alone. -/
def Ev (P : Program) (cx : Cx) (n : Nat) (S : SH) (L : Blocks) (F : Slots) (op : Op) (ty : TypeId) (v : Value) : Prop :=
  ∀ a w, Fm n a F → St cx S L w → ∀ o : Oper, o.op = op → o.type = ty → (execOp a.eval o).run P w = .ok (.value v) w

def notDefer : Op → Bool
  | .defer _ => false
  | _ => true

section
variable {P : Program} {cx : Cx} {n : Nat} {S : SH} {L : Blocks} {F : Slots} {ro : Option Nat} {ops : Array Oper} {Q : Exit → Act → World → Prop} {rest : List Oper}

theorem W.mono {G G' : Act → World → Prop} (h : W cx n S L F G) (hg : ∀ a w, G a w → G' a w) : W cx n S L F G' := fun a w hf hs => hg a w (h a w hf hs)
theorem W.weaken {G : Act → World → Prop} {F' : Slots} {L' : Blocks} (h : W cx n S L' F' G) (hF : Sub F' F) (hL : L'.Sublist L) : W cx n S L F G := fun a w hf hs => h a w (hf.sub hF) (hs.weaken hL)
theorem W.perm {G : Act → World → Prop} {L' : Blocks} (h : W cx n S L' F G) (hL : L.Perm L') : W cx n S L F G := fun a w hf hs => h a w hf (hs.perm hL)
/-- The first block is given up: it is stable from here on. -/
theorem W.freeze {G : Act → World → Prop} {b : Nat} {o : Obj} (h : ∀ S', Le S S' → S' b = some o → W cx n S' L F G) : W cx n S ((b, o) :: L) F G := fun a w hf hs =>
  h _ hs.freeze.2 (by simp [SH.add]) a w hf hs.freeze.1

theorem semAt_of {o : Oper} {ρ : Operand → Value} (h : notDefer o.op = true) : Oper.semAt ro ρ o = execOp ρ o :=
  Oper.semAt_eq _ _ _ fun c hc => by rw [hc] at h; cases h

/-- What the guard of an operation says. -/
def want (ops : Array Oper) (F : Slots) : Option (Nat × Bool) → Option Bool
  | none => some true
  | some (j, b) => match ((ops[j]?).bind (·.dst)).bind (geT F) with
    | some (.bool c) => some (c == b)
    | some _ => some false
    | none => none

theorem wanted_of {a : Act} (hf : Fm n a F) {o : Oper} {b : Bool} (h : want ops F o.guard = some b) : Region.wanted o (yielded ops a.tmps) = b := by
  unfold want at h
  unfold Region.wanted
  cases hg : o.guard with
  | none => rw [hg] at h; simpa using h
  | some p =>
    obtain ⟨j, c⟩ := p
    rw [hg] at h
    simp only at h ⊢
    cases hd : (ops[j]?).bind (·.dst) with
    | none => simp [hd] at h
    | some d =>
      simp only [hd, Option.bind_some] at h
      split at h
      · rename_i c' hc
        have := hf.slot _ _ hc
        simp only [yielded, hd, Option.bind_some, this]
        simpa using h
      · rename_i v hne hc
        have := hf.slot _ _ hc
        simp only [Option.some.injEq] at h
        subst h
        simp only [yielded, hd, Option.bind_some, this]
        cases v <;> first | rfl | exact (hne _ rfl).elim
      · cases h

theorem s_ev {d : Nat} {op : Op} {ty : TypeId} {pos : String} {af : Array Edge} {g : Option (Nat × Bool)} {v : Value} (he : Ev P cx n S L F op ty v) (hg : want ops F g = some true) (hn : notDefer op = true) (hd : Nat.blt d n = true)
    (k : W cx n S L ((d, v) :: F) (wpListIn (Fr ro) 0 P ops Q rest)) : W cx n S L F (wpListIn (Fr ro) 0 P ops Q (⟨some d, op, ty, pos, af, g⟩ :: rest)) := by
  intro a w hf hs
  simp only [wpListIn]
  rw [wanted_of (o := ⟨some d, op, ty, pos, af, g⟩) hf hg]
  simp only [if_true]
  refine ⟨fun _ _ => trivial, ?_⟩
  rw [semAt_of hn, he a w hf hs ⟨some d, op, ty, pos, af, g⟩ rfl rfl]
  exact k _ _ (hf.put v hd) hs

def putU (d : Option Nat) (F : Slots) : Slots := match d with | some d => (d, undef) :: F | none => F
theorem Fm.putU {a : Act} (hf : Fm n a F) {d : Option Nat} (hd : d.all (fun d => Nat.blt d n) = true) : Fm n (a.put d undef) (putU d F) := by
  cases d with
  | none => exact hf
  | some d => exact hf.put undef (by simpa using hd)
theorem s_skip {d : Option Nat} {op : Op} {ty : TypeId} {pos : String} {af : Array Edge} {g : Option (Nat × Bool)} (hg : want ops F g = some false)
    (hd : d.all (fun d => Nat.blt d n) = true) (k : W cx n S L (putU d F) (wpListIn (Fr ro) 0 P ops Q rest)) : W cx n S L F (wpListIn (Fr ro) 0 P ops Q (⟨d, op, ty, pos, af, g⟩ :: rest)) := by
  intro a w hf hs
  simp only [wpListIn]
  rw [wanted_of (o := ⟨d, op, ty, pos, af, g⟩) hf hg]
  simp only [Bool.false_eq_true, if_false]
  exact ⟨fun _ _ => trivial, k _ _ (hf.putU hd) hs⟩

/-- An operation that writes: the state behind it. -/
theorem s_wr {d : Option Nat} {op : Op} {ty : TypeId} {pos : String} {af : Array Edge} {g : Option (Nat × Bool)} {S' : SH} {L' : Blocks} {x : Next}
    (he : ∀ a w, Fm n a F → St cx S L w → ∃ w', (∀ o : Oper, o.op = op → o.type = ty → (execOp a.eval o).run P w = .ok x w') ∧ St cx S' L' w') (hx : x = .skip ∧ d = none ∨ ∃ v, x = .value v ∧ d = none)
    (hg : want ops F g = some true) (hn : notDefer op = true)
    (k : W cx n S' L' F (wpListIn (Fr ro) 0 P ops Q rest)) : W cx n S L F (wpListIn (Fr ro) 0 P ops Q (⟨d, op, ty, pos, af, g⟩ :: rest)) := by
  intro a w hf hs
  simp only [wpListIn]
  rw [wanted_of (o := ⟨d, op, ty, pos, af, g⟩) hf hg]
  simp only [if_true]
  refine ⟨fun _ _ => trivial, ?_⟩
  obtain ⟨w', hr, hs'⟩ := he a w hf hs
  rw [semAt_of hn, hr ⟨d, op, ty, pos, af, g⟩ rfl rfl]
  rcases hx with ⟨rfl, rfl⟩ | ⟨v, rfl, rfl⟩
  · exact k _ _ hf hs'
  · exact k _ _ hf hs'

/-- An operation that yields a value and turns the world: one goal, for whatever value and state it leaves. -/
def Do (P : Program) (cx : Cx) (n : Nat) (S : SH) (L : Blocks) (F : Slots) (op : Op) (ty : TypeId) (R : SH → Blocks → Value → Prop) : Prop :=
  ∀ a w, Fm n a F → St cx S L w → ∀ o : Oper, o.op = op → o.type = ty → ∃ v S' L' w', (execOp a.eval o).run P w = .ok (.value v) w' ∧ St cx S' L' w' ∧ R S' L' v


theorem s_end (k : W cx n S L F (Q .normal)) : W cx n S L F (wpListIn (Fr ro) 0 P ops Q []) := k

/-! ### Code -/
theorem c_region {id : Nat} {l : List Oper} (k : W cx n S L F (wpListIn (Fr ro) 0 P l.toArray Q l)) : W cx n S L F ((Code.region id l.toArray false).wpIn (Fr ro) 0 P Q) :=
  fun a w hf hs => wpIn_region_lit (k a w hf hs)
theorem c_seq {x y : Code} (k : W cx n S L F (x.wpIn (Fr ro) 0 P (Exit.then (y.wpIn (Fr ro) 0 P Q) Q))) : W cx n S L F ((Code.seq x y).wpIn (Fr ro) 0 P Q) :=
  fun a w hf hs => wpIn_seq (k a w hf hs)
theorem c_skip (k : W cx n S L F (Q .normal)) : W cx n S L F (Code.skip.wpIn (Fr ro) 0 P Q) := fun a w hf hs => wpIn_skip (k a w hf hs)
theorem c_exit {id : Nat} (k : W cx n S L F (Q (.exit id))) : W cx n S L F ((Code.exit id).wpIn (Fr ro) 0 P Q) := fun a w hf hs => wpIn_exit (k a w hf hs)
theorem c_ret (k : W cx n S L F (Q .ret)) : W cx n S L F (Code.ret.wpIn (Fr ro) 0 P Q) := fun a w hf hs => wpIn_ret (k a w hf hs)
theorem c_block {id : Nat} {c : Code} (k : W cx n S L F (c.wpIn (Fr ro) 0 P (Exit.inBlock id Q))) : W cx n S L F ((Code.block id c).wpIn (Fr ro) 0 P Q) := fun a w hf hs => wpIn_block (k a w hf hs)
theorem c_true {c : Operand} {x y : Code} (hc : evO F c = some (.bool true)) (k : W cx n S L F (x.wpIn (Fr ro) 0 P Q)) : W cx n S L F ((Code.cond c x y).wpIn (Fr ro) 0 P Q) :=
  fun a w hf hs => wpIn_cond_true (hf.ev hc) (k a w hf hs)
theorem c_false {c : Operand} {x y : Code} (hc : evO F c = some (.bool false)) (k : W cx n S L F (y.wpIn (Fr ro) 0 P Q)) : W cx n S L F ((Code.cond c x y).wpIn (Fr ro) 0 P Q) :=
  fun a w hf hs => wpIn_cond_false (hf.ev hc) (k a w hf hs)

theorem q_then {K : Act → World → Prop} (k : W cx n S L F K) : W cx n S L F (Exit.then K Q .normal) := k
theorem q_then_exit {K : Act → World → Prop} {id : Nat} (k : W cx n S L F (Q (.exit id))) : W cx n S L F (Exit.then K Q (.exit id)) := k
theorem q_then_ret {K : Act → World → Prop} (k : W cx n S L F (Q .ret)) : W cx n S L F (Exit.then K Q .ret) := k
theorem q_in (id : Nat) (k : W cx n S L F (Q .normal)) : W cx n S L F (Exit.inBlock id Q .normal) := k
theorem q_in_ret (id : Nat) (k : W cx n S L F (Q .ret)) : W cx n S L F (Exit.inBlock id Q .ret) := k
theorem q_in_exit {id id' : Nat} (h : Nat.beq id' id = true) (k : W cx n S L F (Q .normal)) : W cx n S L F (Exit.inBlock id Q (.exit id')) :=
  fun a w hf hs => by simp only [Exit.inBlock, Nat.eq_of_beq_eq_true h, if_true]; exact k a w hf hs
theorem q_in_pass {id id' : Nat} (h : Nat.beq id' id = false) (k : W cx n S L F (Q (.exit id'))) : W cx n S L F (Exit.inBlock id Q (.exit id')) :=
  fun a w hf hs => by
    have : id' ≠ id := fun e => by subst e; simp at h
    simp only [Exit.inBlock, this, if_false]; exact k a w hf hs

/-- A state as a datum: what a loop's invariant speaks of. -/
abbrev Inv := Nat → SH → Blocks → Slots → Prop
def Back (cx : Cx) (n : Nat) (I : Inv) (m : Nat) : Act → World → Prop := fun a w => ∃ m' S' L' F', m' < m ∧ I m' S' L' F' ∧ Fm n a F' ∧ St cx S' L' w

theorem exists_min {p : Nat → Prop} (h : ∃ m, p m) : ∃ m, p m ∧ ∀ k, p k → m ≤ k := by
  obtain ⟨m, hm⟩ := h
  induction m using Nat.strongRecOn with
  | _ m ih =>
    by_cases hk : ∃ k, k < m ∧ p k
    · obtain ⟨k, hlt, hk⟩ := hk; exact ih k hlt hk
    · exact ⟨m, hm, fun k hp => Nat.le_of_not_lt fun hlt => hk ⟨k, hlt, hp⟩⟩

theorem c_loop {c : Code} (I : Inv) {m : Nat} {L' : Blocks} {F' : Slots} (h0 : I m S L' F') (hF : Sub F' F) (hL : L'.Sublist L)
    (k : ∀ m S L F, I m S L F → W cx n S L F (c.wpIn (Fr ro) 0 P (Exit.then (Back cx n I m) Q))) : W cx n S L F ((Code.loop c).wpIn (Fr ro) 0 P Q) := by
  intro a w hf hs
  classical
  let J : Act → World → Prop := fun a w => ∃ m S L F, I m S L F ∧ Fm n a F ∧ St cx S L w
  let μ : Act → World → Nat := fun a w => if h : ∃ m, ∃ S L F, I m S L F ∧ Fm n a F ∧ St cx S L w then Classical.choose (exists_min h) else 0
  refine wpIn_loop J μ ⟨m, S, L', F', h0, hf.sub hF, hs.weaken hL⟩ ?_
  rintro a w ⟨m₁, hJ⟩
  have hex : ∃ m, ∃ S L F, I m S L F ∧ Fm n a F ∧ St cx S L w := ⟨m₁, hJ⟩
  obtain ⟨S', L', F', hI, hf', hs'⟩ := (Classical.choose_spec (exists_min hex)).1
  refine Go.wpIn_mono (k _ _ _ _ hI a w hf' hs') fun e a' w' hq => ?_
  cases e with
  | normal =>
    obtain ⟨m₂, S₂, L₂, F₂, hlt, hI₂, hf₂, hs₂⟩ := hq
    refine ⟨⟨m₂, S₂, L₂, F₂, hI₂, hf₂, hs₂⟩, ?_⟩
    have hex₂ : ∃ m, ∃ S L F, I m S L F ∧ Fm n a' F ∧ St cx S L w' := ⟨m₂, S₂, L₂, F₂, hI₂, hf₂, hs₂⟩
    simp only [μ, dif_pos hex, dif_pos hex₂]
    exact Nat.lt_of_le_of_lt ((Classical.choose_spec (exists_min hex₂)).2 m₂ ⟨S₂, L₂, F₂, hI₂, hf₂, hs₂⟩) hlt
  | _ => exact hq

theorem q_back {I : Inv} {m m' : Nat} {L' : Blocks} {F' : Slots} (hI : I m' S L' F') (hm : m' < m) (hF : Sub F' F) (hL : L'.Sublist L) : W cx n S L F (Back cx n I m) :=
  fun _ _ hf hs => ⟨m', S, L', F', hm, hI, hf.sub hF, hs.weaken hL⟩

/-- Two ways meet: what is known at the cut. -/
theorem c_cut {x y : Code} (J : SH → Blocks → Slots → Prop) (k1 : W cx n S L F (x.wpIn (Fr ro) 0 P (Exit.then (fun a w => ∃ S' L' F', J S' L' F' ∧ Fm n a F' ∧ St cx S' L' w) Q)))
    (k2 : ∀ S L F, J S L F → W cx n S L F (y.wpIn (Fr ro) 0 P Q)) : W cx n S L F ((Code.seq x y).wpIn (Fr ro) 0 P Q) := by
  intro a w hf hs
  refine wpIn_seq (Go.wpIn_mono (k1 a w hf hs) fun e a' w' hq => ?_)
  cases e with
  | normal => obtain ⟨S', L', F', hJ, hf', hs'⟩ := hq; exact k2 _ _ _ hJ _ _ hf' hs'
  | _ => exact hq
theorem q_cut {J : SH → Blocks → Slots → Prop} {L' : Blocks} {F' : Slots} (hJ : J S L' F') (hF : Sub F' F) (hL : L'.Sublist L) : W cx n S L F (fun a w => ∃ S' L' F', J S' L' F' ∧ Fm n a F' ∧ St cx S' L' w) :=
  fun _ _ hf hs => ⟨S, L', F', hJ, hf.sub hF, hs.weaken hL⟩
end

/-! ### A function's body -/
def Out (P : Program) (cx : Cx) (fn : Func) (R : SH → Blocks → Value → Prop) : Exit → Act → World → Prop :=
  bodyPostM (Fr none) 0 P fn fun e w' => ∃ v S' L', e = .returned v ∧ R S' L' v ∧ St cx S' L' w'

theorem con_of {P : Program} {f : FuncId} {fn : Func} {c : Code} {args : List Value} {S : SH} {L : Blocks} {R : SH → Blocks → Value → Prop} {n : Nat} (hf : P.funcs[f]? = some fn) (hb : fn.body = some c) (hn : fn.ntmps = n) (ha : (Nat.ble args.length n && Nat.ble n kM) = true)
    (k : ∀ w, W ⟨w, S, L.map (·.1)⟩ n S L (slotsOf 0 args) (c.wpIn (Fr none) 0 P (Out P ⟨w, S, L.map (·.1)⟩ fn R))) : Con P f args.toArray S L R := by
  intro w hs
  simp only [Bool.and_eq_true] at ha
  refine (callsIn_wide (n := 0)).1 (callsIn_of_wp_marks hf hb trivial ?_)
  have := k w _ w (Fm.start args n (by simpa using ha.1) ha.2) hs
  rw [← hn] at this
  exact this

section
variable {P : Program} {cx : Cx} {n : Nat} {S : SH} {L L' : Blocks} {F : Slots} {fn : Func} {R : SH → Blocks → Value → Prop}
theorem out_ret {v : Value} {e : Exit} (he : e = .ret ∨ e = .normal) (hk : get F kM = none) (hL : L'.Sublist L) (h : R S L' v) (hr : ∀ a w, Fm n a F → St cx S L w → (results fn a.tmps).run P w = .ok v w) : W cx n S L F (Out P cx fn R e) := fun a w hf hs => by
  have hd : a.defers = [] := by rw [hf.defers]; simp [dfr, hk]
  rcases he with rfl | rfl
  all_goals
    show LeavesInM _ _ _ _ _ _ a.defers _ _
    rw [hd]
    exact ⟨v, hr a w hf hs, _, S, L', rfl, h, hs.weaken hL⟩
/-- A function that holds a loop over a function: the block of the rounds' deferred calls is shut. -/
theorem out_retm {v : Value} {e : Exit} {r : Nat} {L1 : Blocks} (he : e = .ret ∨ e = .normal) (hk : get F kM = some (.map (some r))) (hp : L.Perm ((r, .deferred (some [])) :: L1)) (hL : L'.Sublist L1) (h : R S L' v)
    (hr : ∀ a w L2, Fm n a F → St cx S L2 w → (∀ p ∈ L1, p ∈ L2) → (results fn a.tmps).run P w = .ok v w) : W cx n S L F (Out P cx fn R e) := fun a w hf hs0 => by
  have hd : a.defers = [⟨.collected r, #[]⟩] := by rw [hf.defers]; simp [dfr, hk]
  have hs := hs0.perm hp
  have hb := hs.own _ List.mem_cons_self
  have hlt := heap_lt hb
  have hrun : (Instr.takeDeferred r).run P w = .ok [] ({ w with heap := w.heap.setIfInBounds r (.deferred none) }) := by
    simp [Instr.takeDeferred, getObj, setObj, Sem.run, hb]
  have hs' : St cx S ((r, .deferred none) :: L1) ({ w with heap := w.heap.setIfInBounds r (.deferred none) }) := by
    have := hs.set (i := 0) (b := r) (o := .deferred (some [])) (o' := .deferred none) (w' := { w with heap := w.heap.setIfInBounds r (.deferred none) }) rfl (by simp) rfl rfl rfl (by simp [hlt]) (fun c hc => by simp [Ne.symm hc])
    simpa using this
  have hfin : LeavesInM (Fr none) 0 P fn a.tmps (fun e w' => ∃ v S' L', e = .returned v ∧ R S' L' v ∧ St cx S' L' w') a.defers .returning w := by
    rw [hd]
    exact ⟨by simp, .inl ⟨r, _, rfl, hrun, v, hr a _ _ hf hs' (fun p hp => List.mem_cons_of_mem _ hp), _, S, L', rfl, h, hs'.weaken (hL.trans (List.sublist_cons_self _ _))⟩⟩
  rcases he with rfl | rfl
  all_goals exact hfin

theorem o_ret {t : Nat} {v : Value} (hr : fn.results = #[.tmp t]) (hv : geT F t = some v) (hL : L'.Sublist L) (h : R S L' v) (hk : get F kM = none := by rfl) :
    W cx n S L F (Out P cx fn R .ret) := out_ret (.inl rfl) hk hL h fun a w hf _ => by
  have := hf.slot _ _ hv
  rw [results_tmp hr]
  simp [Array.getD_eq_getD_getElem?, this]
theorem o_ret0 {e : Exit} (he : e = .ret ∨ e = .normal) (hr : fn.results = #[]) (hL : L'.Sublist L) (h : R S L' (.tuple #[])) (hk : get F kM = none := by rfl) :
    W cx n S L F (Out P cx fn R e) := out_ret he hk hL h fun a w hf _ => by
  simp [results, hr]
end
end Go.X
namespace Go.X
open Go Go.RowKit

/-! ### What is known of the types of a program -/
def aggD : TypeDesc → Bool
  | .struct _ | .array _ _ => true
  | _ => false
class Sc (P : Program) (t : TypeId) : Prop where
  size : (P.info? t).map (·.size) = some 1
  flat : ∃ d, P.underlying t = some d ∧ aggD d = false
class Ag (P : Program) (t : TypeId) (sz : outParam Nat) : Prop where
  size : (P.info? t).map (·.size) = some sz
  deep : ∃ d, P.underlying t = some d ∧ aggD d = true
class Sz (P : Program) (t : TypeId) (sz : outParam Nat) : Prop where
  size : (P.info? t).map (·.size) = some sz
class Zr (P : Program) (t : TypeId) (z : outParam Value) : Prop where
  zero : (P.info? t).bind (·.zero) = some z
class Zc (P : Program) (t : TypeId) (zc : outParam (List Value)) : Prop where
  zero : ∃ z, (P.info? t).bind (·.zero) = some z ∧ z.cells = zc.toArray
class By (P : Program) (t : TypeId) (b : outParam Nat) : Prop where
  bytes : (P.info? t).map (·.bytes) = some b
class Sli (P : Program) (t : TypeId) (e : outParam TypeId) : Prop where
  h : P.underlying t = some (.slice e)
class Arr (P : Program) (t : TypeId) (n : outParam Nat) (e : outParam TypeId) : Prop where
  h : P.underlying t = some (.array n e)
class Stc (P : Program) (t : TypeId) (fs : outParam (Array Field)) : Prop where
  h : P.underlying t = some (.struct fs)
/-- Field i of the struct t: where it lies, its type, and that it is not of size nought. -/
class Fi (P : Program) (t : TypeId) (i : Nat) (off : outParam Nat) (ft : outParam TypeId) : Prop where
  h : ∃ fs f, P.underlying t = some (.struct fs) ∧ fs[i]? = some f ∧ f.offset = off ∧ f.type = ft
  pos : ∃ s, (P.info? ft).map (·.size) = some s ∧ s ≠ 0
class Strg (P : Program) (t : TypeId) : Prop where
  h : P.underlying t = some .string
class Boo (P : Program) (t : TypeId) : Prop where
  h : P.underlying t = some .bool
class Ity (P : Program) (t : TypeId) (k : outParam IntKind) : Prop where
  h : P.underlying t = some (.int k)

section
variable {P : Program} {t : TypeId} {w : World}
theorem run_sizeOf {s : Nat} (h : (P.info? t).map (·.size) = some s) : (sizeOf t).run P w = .ok s w := by
  cases hi : P.info? t with
  | none => simp [hi] at h
  | some i => simp [hi] at h; simp [sizeOf, typeInfo, hi, h]
theorem run_zeroValue {z : Value} (h : (P.info? t).bind (·.zero) = some z) : (zeroValue t).run P w = .ok z w := by
  cases hi : P.info? t with
  | none => simp [hi] at h
  | some i => simp [hi] at h; simp [zeroValue, typeInfo, hi, h]
theorem run_isAgg {d : TypeDesc} {b : Bool} (h : P.underlying t = some d) (hb : aggD d = b) : (isAgg t).run P w = .ok b w := by
  subst hb
  simp only [isAgg, Sem.run_bind, run_underlying h, Result.andThen_ok]
  cases d <;> simp [aggD]
end

/-- The cell at an address of what is stable. -/
def cellS (S : SH) (a : Addr) : Option Value :=
  match S a.block with
  | some (.cells c _ _) => if a.spot.isSome then none else c[a.off]?
  | _ => none
theorem cellS_le {S T : SH} (h : Le S T) {a : Addr} {v : Value} (hc : cellS S a = some v) : cellS T a = some v := by
  unfold cellS at *
  cases hs : S a.block with
  | none => simp [hs] at hc
  | some o => rw [h _ _ hs]; rw [hs] at hc; exact hc
theorem St.cell {cx : Cx} {S : SH} {L : Blocks} {w : World} (h : St cx S L w) {a : Addr} {v : Value} (hc : cellS S a = some v) : w.cell? a = some v := by
  unfold cellS at hc
  cases hs : S a.block with
  | none => simp [hs] at hc
  | some o =>
    have := h.stable _ _ hs
    rw [hs] at hc
    unfold World.cell?
    rw [this]
    exact hc

/-- From this address on lie these cells. -/
def Pts (S : SH) (p : Addr) (cs : List Value) : Prop := ∀ j u, cs[j]? = some u → cellS S (p.add j) = some u
theorem Pts.le {S T : SH} (h : Le S T) {p : Addr} {cs : List Value} (k : Pts S p cs) : Pts T p cs := fun j u e => cellS_le h (k j u e)
theorem add_add (a : Addr) (i j : Nat) : (a.add i).add j = a.add (i + j) := by
  unfold Addr.add
  by_cases hi : i = 0 <;> by_cases hj : j = 0 <;> simp [hi, hj, Nat.add_assoc]
theorem Pts.drop {S : SH} {p : Addr} {cs : List Value} (k : Pts S p cs) (m : Nat) : Pts S (p.add m) (cs.drop m) := fun j u e => by
  rw [add_add]; exact k (m + j) u (by rw [← e, List.getElem?_drop])

theorem own_cell {cx : Cx} {S : SH} {L : Blocks} {w : World} (h : St cx S L w) {b : Nat} {cs : Array Value} {T : TypeId} {fz : Nat × Nat} (hm : (b, Obj.cells cs T fz) ∈ L) (i : Nat) : w.cell? ⟨b, i, none⟩ = cs[i]? := by
  have := h.own _ hm
  simp only at this
  simp [World.cell?, this]

/-- Block b of L turns from o to o'. -/
inductive Upd : Blocks → Nat → Obj → Obj → Blocks → Prop
  | head {b : Nat} {o o' : Obj} {L : Blocks} : Upd ((b, o) :: L) b o o' ((b, o') :: L)
  | tail {b : Nat} {o o' : Obj} {p : Nat × Obj} {L L' : Blocks} (h : Upd L b o o' L') : Upd (p :: L) b o o' (p :: L')
  | app {b : Nat} {o o' : Obj} {X L L' : Blocks} (h : Upd L b o o' L') : Upd (X ++ L) b o o' (X ++ L')
theorem Upd.at_ {L L' : Blocks} {b : Nat} {o o' : Obj} (h : Upd L b o o' L') : ∃ i, L[i]? = some (b, o) ∧ L' = L.set i (b, o') := by
  induction h with
  | head => exact ⟨0, rfl, rfl⟩
  | tail _ ih => obtain ⟨i, h1, h2⟩ := ih; exact ⟨i + 1, by simpa using h1, by simp [h2]⟩
  | @app b o o' X L L' _ ih =>
    obtain ⟨i, h1, h2⟩ := ih
    refine ⟨X.length + i, by rw [List.getElem?_append_right (by omega)]; simpa using h1, ?_⟩
    rw [List.set_append_right _ _ (by omega), h2]; simp
theorem Upd.mem {L L' : Blocks} {b : Nat} {o o' : Obj} (h : Upd L b o o' L') : (b, o) ∈ L := by
  obtain ⟨i, h1, _⟩ := h.at_; exact List.mem_of_getElem? h1

section
variable {P : Program} {cx : Cx} {n : Nat} {S : SH} {L : Blocks} {F : Slots} {ty : TypeId}

/-! ### Operations that yield a value and write nothing -/
theorem ev_move {x : Operand} {v : Value} (h : evO F x = some v) : Ev P cx n S L F (.move x) ty v := fun a w hf _ o ho _ => by simp [execOp, ho, hf.ev h]
theorem ev_assign {x : Operand} {v : Value} (h : evO F x = some v) : Ev P cx n S L F (.assign x) ty v := fun a w hf _ o ho _ => by simp [execOp, ho, hf.ev h]
theorem ev_pick_t {c x y : Operand} {v : Value} (hc : evO F c = some (.bool true)) (h : evO F x = some v) : Ev P cx n S L F (.pick c x y) ty v := fun a w hf _ o ho _ => by simp [execOp, ho, hf.ev h, hf.ev hc, asBool]
theorem ev_pick_f {c x y : Operand} {v : Value} (hc : evO F c = some (.bool false)) (h : evO F y = some v) : Ev P cx n S L F (.pick c x y) ty v := fun a w hf _ o ho _ => by simp [execOp, ho, hf.ev h, hf.ev hc, asBool]
theorem ev_nilCheck {x : Operand} {p : Addr} (h : evO F x = some (.pointer (some p))) : Ev P cx n S L F (.nilCheck x) ty (.pointer (some p)) := fun a w hf _ o ho _ => by simp [execOp, ho, hf.ev h]
theorem ev_extract {x : Operand} {i : Nat} {vs : Array Value} {v : Value} (h : evO F x = some (.tuple vs)) (hv : vs[i]? = some v) : Ev P cx n S L F (.extract x i) ty v := fun a w hf _ o ho _ => by
  simp [execOp, ho, hf.ev h, Instr.extract, hv]

theorem ev_bin {op : BinOp} {T T' : TypeId} {x y : Operand} {k : IntKind} {i j : Int} {v : Value} (hx : evO F x = some (.int k i)) (hy : evO F y = some (.int k j)) (hv : ∀ w, (binOp op T (.int k i) (.int k j)).run P w = .ok v w) :
    Ev P cx n S L F (.binOp op T x y T') ty v := fun a w hf _ o ho _ => by
  simp only [execOp, ho, hf.ev hx, hf.ev hy, eqGuard]
  simp [hv]
theorem ev_not {T : TypeId} {x : Operand} {b : Bool} (hx : evO F x = some (.bool b)) : Ev P cx n S L F (.unOp .not T x) ty (.bool (!b)) := fun a w hf _ o ho _ => by simp [execOp, ho, hf.ev hx, Op.unary]
theorem ev_neg {T : TypeId} {x : Operand} {i : Int} (hx : evO F x = some (.int .i64 i)) (h : -9223372036854775807 ≤ i ∧ i ≤ 9223372036854775807) : Ev P cx n S L F (.unOp .neg T x) ty (.int .i64 (-i)) := fun a w hf _ o ho _ => by
  simp [execOp, ho, hf.ev hx, Op.unary, Op.intArith, IntWalk.i64_in (-i) ⟨by omega, by omega⟩]
theorem run_eq_bool {T : TypeId} (hT : P.underlying T = some .bool) (p q : Bool) (w : World) : (Op.equal T (.bool p) (.bool q)).run P w = .ok (p == q) w := by
  have h : ∀ d : Nat, (Op.equalIn (d + 1) T (.bool p) (.bool q)).run P w = .ok (p == q) w := fun d => by simp [Op.equalIn, run_underlying hT]
  exact h 9999
theorem ev_eql_b {T T' : TypeId} [hT : Boo P T] {x y : Operand} {p q : Bool} (hx : evO F x = some (.bool p)) (hy : evO F y = some (.bool q)) : Ev P cx n S L F (.binOp .eql T x y T') ty (.bool (p == q)) := fun a w hf _ o ho _ => by
  simp [execOp, ho, hf.ev hx, hf.ev hy, eqGuard, binOp, run_eq_bool hT.h]
theorem ev_neq_b {T T' : TypeId} [hT : Boo P T] {x y : Operand} {p q : Bool} (hx : evO F x = some (.bool p)) (hy : evO F y = some (.bool q)) : Ev P cx n S L F (.binOp .neq T x y T') ty (.bool (!(p == q))) := fun a w hf _ o ho _ => by
  simp [execOp, ho, hf.ev hx, hf.ev hy, eqGuard, binOp, run_eq_bool hT.h]
theorem ev_len {x : Operand} {T e : TypeId} [hT : Sli P T e] {A : Option Addr} {m c : Nat} (hx : evO F x = some (.slice A m c)) : Ev P cx n S L F (.call ⟨.builtin .len, #[x], #[T]⟩) ty (.int .i64 m) := fun a w hf _ o ho _ => by
  simp [execOp, ho, resolve, invoke, builtin, hf.ev hx, Builtin.len_, run_underlying hT.h, goInt]
theorem ev_len_s {x : Operand} {T : TypeId} [hT : Strg P T] {s : ByteArray} (hx : evO F x = some (.string s)) : Ev P cx n S L F (.call ⟨.builtin .len, #[x], #[T]⟩) ty (.int .i64 s.size) := fun a w hf _ o ho _ => by
  simp [execOp, ho, resolve, invoke, builtin, hf.ev hx, Builtin.len_, run_underlying hT.h, goInt]
theorem ev_min {x y : Operand} {Ts : Array TypeId} {k : IntKind} {i j : Int} (hx : evO F x = some (.int k i)) (hy : evO F y = some (.int k j)) : Ev P cx n S L F (.call ⟨.builtin .min, #[x, y], Ts⟩) ty (.int k (if j < i then j else i)) := fun a w hf _ o ho _ => by
  simp [execOp, ho, resolve, invoke, builtin, hf.ev hx, hf.ev hy, Builtin.min_, Builtin.min2]

theorem ev_fieldAddr {T : TypeId} {x : Operand} {i off : Nat} {ft : TypeId} [hT : Fi P T i off ft] {p : Addr} (hx : evO F x = some (.pointer (some p))) : Ev P cx n S L F (.fieldAddr T x i) ty (.pointer (some (p.add off))) := fun a w hf _ o ho _ => by
  obtain ⟨fs, f, h1, h2, h3, h4⟩ := hT.h
  obtain ⟨s, h5, h6⟩ := hT.pos
  subst h3; subst h4
  simp [execOp, ho, hf.ev hx, Instr.fieldAt, run_underlying h1, h2, Instr.sureAddr, fieldPlace, run_sizeOf h5, h6]

theorem ev_field {T : TypeId} {x : Operand} {i off : Nat} {ft : TypeId} [hT : Fi P T i off ft] [hF : Sc P ft] {cs : Array Value} {v : Value} (hx : evO F x = some (.agg cs)) (hv : cs[off]? = some v) : Ev P cx n S L F (.field T x i) ty v := fun a w hf _ o ho _ => by
  obtain ⟨fs, f, h1, h2, h3, h4⟩ := hT.h
  obtain ⟨d, h5, h6⟩ := hF.flat
  subst h3; subst h4
  simp [execOp, ho, hf.ev hx, Instr.field, run_underlying h1, h2, asAgg, part, run_isAgg h5 h6, hv]

theorem ev_indexAddr {T e : TypeId} [hT : Sli P T e] {sz : Nat} [hE : Sz P e sz] {x i : Operand} {p : Addr} {m c k : Nat} {kd : IntKind} (hx : evO F x = some (.slice (some p) m c)) (hi : evO F i = some (.int kd k)) (hk : k < m) :
    Ev P cx n S L F (.indexAddr T x i) ty (.pointer (some (p.add (k * sz)))) := fun a w hf _ o ho _ => by
  simp [execOp, ho, hf.ev hx, hf.ev hi, Instr.indexAt, asIntOf, run_underlying hT.h, run_sizeOf hE.size, hk]
theorem ev_indexAddr_a {T e : TypeId} {N : Nat} [hT : Arr P T N e] {sz : Nat} [hE : Sz P e sz] {x i : Operand} {p : Addr} {k : Nat} {kd : IntKind} (hx : evO F x = some (.pointer (some p))) (hi : evO F i = some (.int kd k)) (hk : k < N) :
    Ev P cx n S L F (.indexAddr T x i) ty (.pointer (some (p.add (k * sz)))) := fun a w hf _ o ho _ => by
  simp [execOp, ho, hf.ev hx, hf.ev hi, Instr.indexAt, asIntOf, run_underlying hT.h, run_sizeOf hE.size, hk, Instr.sureAddr]

theorem run_loadVar_sc {T : TypeId} [hT : Sc P T] {p : Addr} {v : Value} {w : World} (h : w.cell? p = some v) : (loadVar T p).run P w = .ok v w := by
  obtain ⟨d, h5, h6⟩ := hT.flat
  simp [loadVar, run_isAgg h5 h6, h]
theorem run_loadVar_ag {T : TypeId} {sz : Nat} [hT : Ag P T sz] {p : Addr} {cs : List Value} {w : World} (hl : cs.length = sz) (h : ∀ j u, cs[j]? = some u → w.cell? (p.add j) = some u) : (loadVar T p).run P w = .ok (.agg cs.toArray) w := by
  obtain ⟨d, h5, h6⟩ := hT.deep
  subst hl
  simp [loadVar, run_isAgg h5 h6, run_sizeOf hT.size, run_loadCells_list w p cs h]

theorem ev_load {T : TypeId} [Sc P T] {x : Operand} {p : Addr} {v : Value} (hx : evO F x = some (.pointer (some p))) (h : cellS S p = some v) : Ev P cx n S L F (.load T x) ty v := fun a w hf hs o ho _ => by
  simp [execOp, ho, hf.ev hx, Instr.loadAt, Instr.sureAddr, run_loadVar_sc (hs.cell h)]
theorem ev_load_ag {T : TypeId} {sz : Nat} [Ag P T sz] {x : Operand} {p : Addr} {cs : List Value} (hx : evO F x = some (.pointer (some p))) (h : Pts S p cs) (hl : cs.length = sz) : Ev P cx n S L F (.load T x) ty (.agg cs.toArray) := fun a w hf hs o ho _ => by
  simp [execOp, ho, hf.ev hx, Instr.loadAt, Instr.sureAddr, run_loadVar_ag hl (fun j u hj => hs.cell (h j u hj))]
theorem ev_load_own {T : TypeId} [Sc P T] {x : Operand} {b i : Nat} {cs : List Value} {T' : TypeId} {fz : Nat × Nat} {v : Value} (hx : evO F x = some (.pointer (some ⟨b, i, none⟩))) (hm : (b, Obj.cells cs.toArray T' fz) ∈ L) (h : cs[i]? = some v) : Ev P cx n S L F (.load T x) ty v := fun a w hf hs o ho _ => by
  simp [execOp, ho, hf.ev hx, Instr.loadAt, Instr.sureAddr, run_loadVar_sc ((own_cell hs hm i).trans (by simpa using h))]
theorem ev_load_own_ag {T : TypeId} {sz : Nat} [Ag P T sz] {x : Operand} {b : Nat} {cs : List Value} {T' : TypeId} {fz : Nat × Nat} (hx : evO F x = some (.pointer (some ⟨b, 0, none⟩))) (hm : (b, Obj.cells cs.toArray T' fz) ∈ L) (hl : cs.length = sz) :
    Ev P cx n S L F (.load T x) ty (.agg cs.toArray) := fun a w hf hs o ho _ => by
  simp [execOp, ho, hf.ev hx, Instr.loadAt, Instr.sureAddr, run_loadVar_ag hl (fun j u hj => by
    have e : (⟨b, 0, none⟩ : Addr).add j = ⟨b, j, none⟩ := by unfold Addr.add; split <;> simp_all
    rw [e, own_cell hs hm j]; simpa using hj)]
end
end Go.X
namespace Go.X
open Go Go.RowKit

/-- A function that has a body. -/
class Fun (P : Program) (f : FuncId) : Prop where
  h : ∀ args w, (callFunc f args).run P w = .ok (.enter f args) w
/-- A struct or array literal: where its parts go, and its zero cells. -/
class Bd (P : Program) (t : TypeId) (place : outParam (Nat → Option (Nat × Nat))) (zc : outParam (Array Value)) : Prop where
  h : ∀ (parts : Array (Nat × Value)) (cells : Array Value) (w : World), Instr.fill place zc parts.toList = some cells → (Instr.build t parts).run P w = .ok (.agg cells) w
theorem run_mapM {P : Program} {w : World} {α β : Type} (f : α → Sem β) (q : α → Option β) (hq : ∀ a b, q a = some b → (f a).run P w = .ok b w) : ∀ (l : List α) (r : List β), l.map q = r.map some → (l.mapM f).run P w = .ok r w
  | [], r, h => by
    cases r with
    | nil => simp
    | cons _ _ => simp at h
  | a :: l, r, h => by
    cases r with
    | nil => simp at h
    | cons b r =>
      simp only [List.map_cons, List.cons.injEq] at h
      simp [List.mapM_cons, hq a b h.1, run_mapM f q hq l r h.2]
theorem bd_struct {P : Program} {t : TypeId} {fs : Array Field} {z : Value} {pl : List (Nat × Nat)} (hu : P.underlying t = some (.struct fs)) (hz : (P.info? t).bind (·.zero) = some z)
    (hp : fs.toList.map (fun fd => (P.info? fd.type).map fun i => (fd.offset, i.size)) = pl.map some) : Bd P t (fun i : Nat => pl[i]?) z.cells :=
  ⟨fun parts cells w h => by
    have hm := run_mapM (P := P) (w := w) (fun f : Field => do pure (f.offset, ← sizeOf f.type)) (fun fd => (P.info? fd.type).map fun i => (fd.offset, i.size)) (fun fd b hb => by
      cases hi : P.info? fd.type with
      | none => simp [hi] at hb
      | some i => simp [hi] at hb; subst hb; simp [sizeOf, typeInfo, hi]) fs.toList pl hp
    have e : (fun i : Nat => pl.toArray[i]?) = fun i : Nat => pl[i]? := by funext i; simp
    have hm' : (fs.mapM (fun f : Field => do pure (f.offset, ← sizeOf f.type))).run P w = .ok pl.toArray w := by
      rw [Array.mapM_eq_mapM_toList]; simp only [bind_pure_comp] at hm ⊢; rw [Sem.run_map, hm]; rfl
    simp only [Instr.build, Sem.run_bind, run_zeroValue hz, Result.andThen_ok, run_underlying hu, hm', e, h, Sem.run_pure]⟩
theorem bd_array {P : Program} {t e : TypeId} {m sz : Nat} {z : Value} (hu : P.underlying t = some (.array m e)) (hz : (P.info? t).bind (·.zero) = some z) (hs : (P.info? e).map (·.size) = some sz) : Bd P t (fun i => some (i * sz, sz)) z.cells :=
  ⟨fun parts cells w h => by
    simp only [Instr.build, Sem.run_bind, run_zeroValue hz, Result.andThen_ok, run_underlying hu, run_sizeOf hs, h, Sem.run_pure]⟩

def evArgs (F : Slots) : List Operand → Option (List Value)
  | [] => some []
  | x :: xs => match evO F x, evArgs F xs with
    | some v, some vs => some (v :: vs)
    | _, _ => none
theorem evArgs_map {n : Nat} {a : Act} {F : Slots} (hf : Fm n a F) : ∀ (xs : List Operand) (vs : List Value), evArgs F xs = some vs → xs.map a.eval = vs
  | [], vs, h => by simp [evArgs] at h; simp [h]
  | x :: xs, vs, h => by
    simp only [evArgs] at h
    split at h
    · rename_i v vs' h1 h2
      simp only [Option.some.injEq] at h
      subst h
      rw [List.map_cons, hf.ev h1, evArgs_map hf xs _ h2]
    · cases h
def evParts (F : Slots) : List (Nat × Operand) → Option (List (Nat × Value))
  | [] => some []
  | (i, x) :: xs => match evO F x, evParts F xs with
    | some v, some vs => some ((i, v) :: vs)
    | _, _ => none
theorem evParts_map {n : Nat} {a : Act} {F : Slots} (hf : Fm n a F) : ∀ (xs : List (Nat × Operand)) (vs : List (Nat × Value)), evParts F xs = some vs → xs.map (fun p => (p.1, a.eval p.2)) = vs
  | [], vs, h => by simp [evParts] at h; simp [h]
  | (i, x) :: xs, vs, h => by
    simp only [evParts] at h
    split at h
    · rename_i v vs' h1 h2
      simp only [Option.some.injEq] at h
      subst h
      rw [List.map_cons, hf.ev h1, evParts_map hf xs _ h2]
    · cases h

theorem pm_refl (X Y : Blocks) : (X ++ Y).Perm (X ++ Y) := List.Perm.refl _
theorem pm_nil (Y : Blocks) : Y.Perm ([] ++ Y) := List.Perm.refl _
theorem pm_self (X : Blocks) : X.Perm (X ++ []) := by simp
theorem pm_cons {X Z Y : Blocks} {p : Nat × Obj} (h : X.Perm (Z ++ Y)) : (p :: X).Perm (Z ++ (p :: Y)) := (h.cons p).trans List.perm_middle.symm
theorem pm_app {X Z Y V : Blocks} (h : X.Perm (Z ++ Y)) : (V ++ X).Perm (Z ++ (V ++ Y)) :=
  (h.append_left V).trans (by rw [← List.append_assoc, ← List.append_assoc]; exact List.perm_append_comm.append_right _)

section
variable {P : Program} {cx : Cx} {n : Nat} {S : SH} {L : Blocks} {F : Slots} {ro : Option Nat} {ops : Array Oper} {Q : Exit → Act → World → Prop} {rest : List Oper} {d : Nat} {ty : TypeId} {pos : String} {af : Array Edge} {g : Option (Nat × Bool)}

theorem s_val {op : Op} (hg : want ops F g = some true) (hn : notDefer op = true) (hd : Nat.blt d n = true)
    (he : ∀ a w, Fm n a F → St cx S L w → ∀ o : Oper, o.op = op → o.type = ty → ∃ S' L' v w', (execOp a.eval o).run P w = .ok (.value v) w' ∧ St cx S' L' w' ∧ W cx n S' L' ((d, v) :: F) (wpListIn (Fr ro) 0 P ops Q rest)) :
    W cx n S L F (wpListIn (Fr ro) 0 P ops Q (⟨some d, op, ty, pos, af, g⟩ :: rest)) := by
  intro a w hf hs
  simp only [wpListIn]
  rw [wanted_of (o := ⟨some d, op, ty, pos, af, g⟩) hf hg]
  simp only [if_true]
  refine ⟨fun _ _ => trivial, ?_⟩
  obtain ⟨S', L', v, w', hr, hs', hk⟩ := he a w hf hs ⟨some d, op, ty, pos, af, g⟩ rfl rfl
  rw [semAt_of hn, hr]
  exact hk _ _ (hf.put v hd) hs'

theorem s_alloc {T : TypeId} {zc : List Value} [hz : Zc P T zc] (hg : want ops F g = some true) (hd : Nat.blt d n = true)
    (k : ∀ b, W cx n S ((b, .cells zc.toArray T (0, 0)) :: L) ((d, .pointer (some ⟨b, 0, none⟩)) :: F) (wpListIn (Fr ro) 0 P ops Q rest)) :
    W cx n S L F (wpListIn (Fr ro) 0 P ops Q (⟨some d, .alloc T, ty, pos, af, g⟩ :: rest)) :=
  s_val hg rfl hd fun a w _ hs o ho _ => by
    obtain ⟨z, hz1, hz2⟩ := hz.zero
    exact ⟨_, _, _, _, by simp [execOp, ho, Instr.alloc, run_zeroValue hz1, newVar, newRow, hz2], hs.alloc _, k _⟩

theorem s_box {T : TypeId} {x : Operand} {v : Value} (hg : want ops F g = some true) (hd : Nat.blt d n = true) (hx : evO F x = some v) (hc : v.oneCell' = true)
    (k : ∀ b, W cx n S ((b, .cells [v].toArray T (0, 0)) :: L) ((d, .pointer (some ⟨b, 0, none⟩)) :: F) (wpListIn (Fr ro) 0 P ops Q rest)) :
    W cx n S L F (wpListIn (Fr ro) 0 P ops Q (⟨some d, .box T x, ty, pos, af, g⟩ :: rest)) :=
  s_val hg rfl hd fun a w hf hs o ho _ => ⟨_, _, _, _, by
    have e : v.cells = [v].toArray := by cases v <;> first | rfl | simp [Value.oneCell'] at hc
    simp [execOp, ho, Instr.box, newVar, newRow, hf.ev hx, e], hs.alloc _, k _⟩
theorem s_box_ag {T : TypeId} {x : Operand} {cs : List Value} (hg : want ops F g = some true) (hd : Nat.blt d n = true) (hx : evO F x = some (.agg cs.toArray))
    (k : ∀ b, W cx n S ((b, .cells cs.toArray T (0, 0)) :: L) ((d, .pointer (some ⟨b, 0, none⟩)) :: F) (wpListIn (Fr ro) 0 P ops Q rest)) :
    W cx n S L F (wpListIn (Fr ro) 0 P ops Q (⟨some d, .box T x, ty, pos, af, g⟩ :: rest)) :=
  s_val hg rfl hd fun a w hf hs o ho _ => ⟨_, _, _, _, by simp [execOp, ho, Instr.box, newVar, newRow, hf.ev hx, Value.cells], hs.alloc _, k _⟩

theorem ev_build {T : TypeId} {parts : Array (Nat × Operand)} {place : Nat → Option (Nat × Nat)} {zc : Array Value} [hb : Bd P T place zc] {vs : List (Nat × Value)} {cells : Array Value} (hp : evParts F parts.toList = some vs) (hc : Instr.fill place zc vs = some cells) :
    Ev P cx n S L F (.build T parts) ty (.agg cells) := fun a w hf _ o ho _ => by
  have h := evParts_map hf _ _ hp
  have e : (parts.map fun (i, x) => (i, a.eval x)).toList = vs := by rw [← h]; simp
  simp only [execOp, ho, Sem.run_bind, hb.h _ cells w (e ▸ hc), Result.andThen_ok, Sem.run_pure]

/-! ### A row of values -/
def seqFrom (i : Nat) : List Value → List (Nat × Value)
  | [] => []
  | v :: vs => (i, v) :: seqFrom (i + 1) vs

theorem zip_fold (off : Nat) : ∀ (vs : List Value) (k : Nat) (done rest : List Value), done.length = off + k → vs.length ≤ rest.length →
    (vs.zipIdx k).foldl (fun (cs : Array Value) (p : Value × Nat) => cs.setIfInBounds (off + p.2) p.1) (done ++ rest).toArray = (done ++ vs ++ rest.drop vs.length).toArray
  | [], k, done, rest, _, _ => by simp
  | v :: vs, k, done, rest, hd, hl => by
    cases rest with
    | nil => simp at hl
    | cons r rest =>
      have hl' : vs.length ≤ rest.length := by simpa using hl
      have h1 := zip_fold off vs (k + 1) (done ++ [v]) rest (by simp; omega) hl'
      simp only [List.zipIdx_cons, List.foldl_cons]
      rw [show ((done ++ r :: rest).toArray.setIfInBounds (off + k) v) = ((done ++ [v]) ++ rest).toArray by
        simp only [List.setIfInBounds_toArray, ← hd]
        congr 1
        rw [List.set_append_right _ _ (Nat.le_refl _)]
        simp]
      rw [h1]
      simp

theorem fill_seq (size : Nat) : ∀ (vs : List Value) (i : Nat) (done rest : List Value), (∀ v ∈ vs, v.cells.size = size) → done.length = i * size → rest.length = vs.length * size →
    Instr.fill (fun i => some (i * size, size)) (done ++ rest).toArray (seqFrom i vs) = some (done ++ vs.flatMap (·.cells.toList)).toArray
  | [], i, done, rest, _, _, hr => by
    have : rest = [] := List.eq_nil_of_length_eq_zero (by simpa using hr)
    simp [seqFrom, Instr.fill, this]
  | v :: vs, i, done, rest, hv, hd, hr => by
    have h0 := hv v List.mem_cons_self
    have hr' : rest.length = vs.length * size + size := by rw [hr, List.length_cons, Nat.succ_mul]
    have hz := zip_fold (i * size) v.cells.toList 0 done rest (by simpa using hd) (by rw [Array.length_toList, h0, hr']; omega)
    simp only [seqFrom, Instr.fill]
    rw [if_neg (by rw [h0]; simp only [List.size_toArray, List.length_append, hd, hr']; have := Nat.zero_le (vs.length * size); simp)]
    have e : (v.cells.zipIdx.foldl (fun (cs : Array Value) (p : Value × Nat) => cs.setIfInBounds (i * size + p.2) p.1) (done ++ rest).toArray) = (done ++ v.cells.toList ++ rest.drop v.cells.toList.length).toArray := by
      rw [← hz, ← Array.foldl_toList, Array.toList_zipIdx]
    rw [show (v.cells.zipIdx.foldl (fun cs (c, j) => cs.setIfInBounds (i * size + j) c) (done ++ rest).toArray) = _ from e]
    rw [fill_seq size vs (i + 1) (done ++ v.cells.toList) (rest.drop v.cells.toList.length) (fun u hu => hv u (List.mem_cons_of_mem _ hu)) (by simp [hd, h0, Nat.succ_mul]) (by simp [hr', h0])]
    simp

theorem run_buildSlice {T e : TypeId} {sz : Nat} {z : Value} (hT : P.underlying T = some (.slice e)) (hs : (P.info? e).map (·.size) = some sz) (hz : (P.info? e).bind (·.zero) = some z) (vs : List Value) (hv : ∀ v ∈ vs, v.cells.size = sz) (hl : vs.length * sz ≤ 16777216) (w : World) :
    (Instr.buildSlice T vs.length (seqFrom 0 vs).toArray).run P w = .ok (.slice (some ⟨w.heap.size, 0, none⟩) vs.length vs.length) (w.alloc (.cells (vs.flatMap (·.cells.toList)).toArray e)) := by
  simp only [Instr.buildSlice, Sem.run_bind, run_underlying hT, Result.andThen_ok, run_sizeOf hs]
  rw [if_neg (by omega)]
  have key : ∀ zc : Array Value, Instr.fill (fun i => some (i * sz, sz)) ((Array.range (vs.length * sz)).map (zc[· % zc.size]!)) (seqFrom 0 vs).toArray.toList = some (vs.flatMap (·.cells.toList)).toArray := by
    intro zc
    have := fill_seq sz vs 0 [] (((Array.range (vs.length * sz)).map (zc[· % zc.size]!)).toList) hv (by simp) (by simp)
    simp only [List.nil_append, Array.toArray_toList] at this
    exact this
  by_cases h0 : vs.length * sz = 0
  · simp only [h0, if_true, Sem.run_pure, Sem.run_bind, Result.andThen_ok]
    have k := key #[]
    rw [h0] at k
    rw [k]
    simp [newRow]
  · simp only [h0, if_false, Sem.run_bind, run_zeroValue hz, Result.andThen_ok, Sem.run_pure]
    rw [key]
    simp [newRow]

def seqVals (i : Nat) : List (Nat × Value) → Option (List Value)
  | [] => some []
  | (j, v) :: r => bif Nat.beq i j then (match seqVals (i + 1) r with | some vs => some (v :: vs) | none => none) else none
theorem seqVals_eq : ∀ (r : List (Nat × Value)) (i : Nat) (vs : List Value), seqVals i r = some vs → r = seqFrom i vs
  | [], i, vs, h => by simp [seqVals] at h; subst h; rfl
  | (j, v) :: r, i, vs, h => by
    simp only [seqVals] at h
    cases hb : Nat.beq i j with
    | false => rw [hb] at h; cases h
    | true =>
      rw [hb] at h
      simp only [cond_true] at h
      split at h
      · rename_i vs' h'
        simp only [Option.some.injEq] at h
        subst h
        rw [seqVals_eq r (i + 1) _ h', ← Nat.eq_of_beq_eq_true hb]; rfl
      · cases h

/-- A slice literal whose elements are all given: a row of the call's own. -/
theorem s_buildSlice {T e : TypeId} [hT : Sli P T e] {sz : Nat} [hs : Sz P e sz] {z : Value} [hz : Zr P e z] {m : Nat} {parts : Array (Nat × Operand)} {pv : List (Nat × Value)} {vs : List Value} (hg : want ops F g = some true) (hd : Nat.blt d n = true)
    (hp : evParts F parts.toList = some pv) (hq : seqVals 0 pv = some vs) (hm : Nat.beq vs.length m = true) (hv : vs.all (fun v => Nat.beq v.cells.size sz) = true) (hl : Nat.ble (m * sz) 16777216 = true)
    (k : ∀ b, W cx n S ((b, .cells (vs.flatMap (·.cells.toList)).toArray e (0, 0)) :: L) ((d, .slice (some ⟨b, 0, none⟩) m m) :: F) (wpListIn (Fr ro) 0 P ops Q rest)) :
    W cx n S L F (wpListIn (Fr ro) 0 P ops Q (⟨some d, .buildSlice T m parts, ty, pos, af, g⟩ :: rest)) :=
  s_val hg rfl hd fun a w hf hst o ho _ => by
    have h := evParts_map hf _ _ hp
    have hm' : vs.length = m := Nat.eq_of_beq_eq_true hm
    have e' : (parts.map fun (i, x) => (i, a.eval x)) = (seqFrom 0 vs).toArray := by
      apply Array.ext'
      rw [← seqVals_eq _ _ _ hq, ← h]; simp
    have hr := run_buildSlice (P := P) hT.h hs.size hz.zero vs (fun v hvm => Nat.eq_of_beq_eq_true (List.all_eq_true.1 hv v hvm)) (by rw [hm']; exact Nat.le_of_ble_eq_true hl) w
    rw [hm'] at hr
    refine ⟨_, _, _, _, ?_, hst.alloc _, k _⟩
    simp only [execOp, ho, e', Sem.run_bind, hr, Result.andThen_ok, Sem.run_pure]

/-! ### Stores -/
theorem run_storeVar_sc {T : TypeId} [hT : Sc P T] {p : Addr} {v : Value} {w : World} (h1 : v.oneCell' = true) (hv : v.cells.size = 1) {u : Value} (h : w.cell? p = some u) (hfz : w.frozen? p = false) : (storeVar T p v).run P w = .ok () (w.setCell p v) := by
  have e : v.cells.toList = [v] := by
    cases v <;> first | rfl | simp [Value.oneCell'] at h1
  have e0 : p.add 0 = p := by simp [Addr.add]
  simp [storeVar, run_sizeOf hT.size, hv, e, storeCells, e0, run_store, h1, h, hfz]

theorem s_store {T : TypeId} [hT : Sc P T] {x y : Operand} {b i : Nat} {cs : List Value} {T' : TypeId} {v u : Value} {L' : Blocks} (hg : want ops F g = some true) (hx : evO F x = some (.pointer (some ⟨b, i, none⟩))) (hy : evO F y = some v) (h1 : v.oneCell' = true)
    (hL : Upd L b (.cells cs.toArray T' (0, 0)) (.cells (cs.set i v).toArray T' (0, 0)) L') (hu : cs[i]? = some u) (k : W cx n S L' F (wpListIn (Fr ro) 0 P ops Q rest)) :
    W cx n S L F (wpListIn (Fr ro) 0 P ops Q (⟨none, .store T x y, ty, pos, af, g⟩ :: rest)) := by
  refine s_wr (x := .skip) (S' := S) (L' := L') (fun a w hf hs => ?_) (.inl ⟨rfl, rfl⟩) hg rfl k
  obtain ⟨j, hj, rfl⟩ := hL.at_
  have hb := hs.own _ (List.mem_of_getElem? hj)
  simp only at hb
  have hcell : w.cell? ⟨b, i, none⟩ = some u := by rw [own_cell hs (List.mem_of_getElem? hj)]; simpa using hu
  have hfz : w.frozen? ⟨b, i, none⟩ = false := by simp [World.frozen?, hb]
  have hvs : v.cells.size = 1 := by cases v <;> first | rfl | simp [Value.oneCell'] at h1
  refine ⟨w.setCell ⟨b, i, none⟩ v, fun o ho _ => ?_, hs.set hj (by simp [World.setCell]) rfl rfl rfl ?_ ?_⟩
  · simp [execOp, ho, hf.ev hx, hf.ev hy, Instr.storeAt, Instr.sureAddr, run_storeVar_sc h1 hvs hcell hfz]
  · simp [World.setCell, Array.getElem?_modify, hb]
  · intro c hc
    exact Below.heap_setCell w ⟨b, i, none⟩ v c hc

theorem s_store_ag {T : TypeId} {sz : Nat} [hT : Ag P T sz] {x y : Operand} {b : Nat} {cs vs : List Value} {T' : TypeId} {L' : Blocks} (hg : want ops F g = some true) (hx : evO F x = some (.pointer (some ⟨b, 0, none⟩))) (hy : evO F y = some (.agg vs.toArray)) (h1 : vs.all (·.oneCell') = true) (hv : vs.length = sz)
    (hL : Upd L b (.cells cs.toArray T' (0, 0)) (.cells vs.toArray T' (0, 0)) L') (hu : cs.length = sz) (k : W cx n S L' F (wpListIn (Fr ro) 0 P ops Q rest)) :
    W cx n S L F (wpListIn (Fr ro) 0 P ops Q (⟨none, .store T x y, ty, pos, af, g⟩ :: rest)) := by
  refine s_wr (x := .skip) (S' := S) (L' := L') (fun a w hf hs => ?_) (.inl ⟨rfl, rfl⟩) hg rfl k
  obtain ⟨j, hj, rfl⟩ := hL.at_
  have hb := hs.own _ (List.mem_of_getElem? hj)
  simp only at hb
  have hr := run_storeVar_row (P := P) w b T' T cs.toArray vs.toArray hb (by rw [hT.size]; simp [hv]) (by simp [hu, hv]) (by simpa using h1)
  refine ⟨w.setRow b vs.toArray, fun o ho _ => ?_, hs.set hj (by simp [World.setRow]) rfl rfl rfl ?_ ?_⟩
  · simp [execOp, ho, hf.ev hx, hf.ev hy, Instr.storeAt, Instr.sureAddr, hr]
  · simp [World.setRow, Array.getElem?_modify, hb]
  · intro c hc
    simp [World.setRow, Array.getElem?_modify, Ne.symm hc]

/-! ### Calls -/
theorem s_call {f : FuncId} [hfun : Fun P f] {args : Array Operand} {ts : Array TypeId} {vs : List Value} {L1 L2 : Blocks} {R : SH → Blocks → Value → Prop} (hg : want ops F g = some true) (hd : Nat.blt d n = true) (ha : evArgs F args.toList = some vs) (hL : L.Perm (L1 ++ L2))
    (hc : Con P f vs.toArray S L1 R) (k : ∀ S' L1' v, Le S S' → R S' L1' v → W cx n S' (L1' ++ L2) ((d, v) :: F) (wpListIn (Fr ro) 0 P ops Q rest)) :
    W cx n S L F (wpListIn (Fr ro) 0 P ops Q (⟨some d, .call ⟨.value (.func f), args, ts⟩, ty, pos, af, g⟩ :: rest)) := by
  intro a w hf hs0
  have hs := hs0.perm hL
  simp only [wpListIn]
  rw [wanted_of (o := ⟨some d, .call ⟨.value (.func f), args, ts⟩, ty, pos, af, g⟩) hf hg]
  simp only [if_true]
  refine ⟨fun _ _ => trivial, ?_⟩
  have hargs : args.map a.eval = vs.toArray := by
    apply Array.ext'; simp [← evArgs_map hf _ _ ha]
  rw [semAt_of rfl]
  have hrun : (execOp a.eval ⟨some d, .call ⟨.value (.func f), args, ts⟩, ty, pos, af, g⟩).run P w = .ok (.enter f vs.toArray) w := by
    simp [execOp, resolve, Act.eval, Deferred.ofValue, invoke, hfun.h, hargs]
  rw [hrun, Oper.uponIn_enter]
  refine ⟨by simp, ?_⟩
  have hcall := hc w hs.sub
  have hin : CallsIn (Fr ro) (0 - 1) P f vs.toArray w (fun e w' => ∃ v S' L', e = .returned v ∧ R S' L' v ∧ St ⟨w, S, L1.map (·.1)⟩ S' L' w') :=
    (callsIn_wide (n := 0)).2 hcall
  refine hin.mono ?_
  rintro e w' ⟨v, S', L', rfl, hR, hs'⟩
  exact k S' L' v hs'.le hR _ _ (hf.put v hd) (hs.back hs')
end
end Go.X
namespace Go.X
open Go Go.RowKit

/-- Data that lie in memory as a fixed number of plain cells. -/
class Cl (α : Type) where
  size : Nat
  cells : α → List Value
  len : ∀ x, (cells x).length = size
  one : ∀ x, ∀ u ∈ cells x, u.oneCell' = true

instance : Cl Int := ⟨1, fun n => [.int .i64 n], fun _ => rfl, fun _ u hu => by simp at hu; subst hu; rfl⟩
instance : Cl Bool := ⟨1, fun b => [.bool b], fun _ => rfl, fun _ u hu => by simp at hu; subst hu; rfl⟩

def cellsOf {α : Type} [Cl α] (l : List α) : List Value := l.flatMap Cl.cells
theorem cellsOf_length {α : Type} [Cl α] (l : List α) : (cellsOf l).length = l.length * Cl.size α := by
  induction l with
  | nil => simp [cellsOf]
  | cons x l ih => simp only [cellsOf, List.flatMap_cons, List.length_append, Cl.len, List.length_cons, Nat.succ_mul] at *; omega
theorem cellsOf_append {α : Type} [Cl α] (l m : List α) : cellsOf (l ++ m) = cellsOf l ++ cellsOf m := by simp [cellsOf]
theorem cellsOf_cons {α : Type} [Cl α] (x : α) (l : List α) : cellsOf (x :: l) = Cl.cells x ++ cellsOf l := by simp [cellsOf]
theorem cellsOf_one {α : Type} [Cl α] (l : List α) : ∀ u ∈ cellsOf l, u.oneCell' = true := by
  intro u hu
  simp only [cellsOf, List.mem_flatMap] at hu
  obtain ⟨x, _, hx⟩ := hu
  exact Cl.one x u hx
theorem cellsOf_at {α : Type} [Cl α] : ∀ (l : List α) (i : Nat) (x : α), l[i]? = some x → ∀ j u, (Cl.cells x)[j]? = some u → (cellsOf l)[i * Cl.size α + j]? = some u
  | [], i, x, h, _, _, _ => by simp at h
  | y :: l, 0, x, h, j, u, hj => by
    simp at h; subst h
    rw [cellsOf_cons, Nat.zero_mul, Nat.zero_add, List.getElem?_append_left (List.getElem?_eq_some_iff.1 hj).1]
    exact hj
  | y :: l, i + 1, x, h, j, u, hj => by
    simp at h
    have := cellsOf_at l i x h j u hj
    rw [cellsOf_cons, List.getElem?_append_right (by rw [Cl.len, Nat.succ_mul]; omega), Cl.len]
    rw [show (i + 1) * Cl.size α + j - Cl.size α = i * Cl.size α + j by rw [Nat.succ_mul]; omega]
    exact this
theorem cellsOf_drop {α : Type} [Cl α] : ∀ (l : List α) (i : Nat), (cellsOf l).drop (i * Cl.size α) = cellsOf (l.drop i)
  | l, 0 => by simp
  | [], i + 1 => by simp [cellsOf]
  | y :: l, i + 1 => by
    rw [cellsOf_cons, List.drop_succ_cons, ← cellsOf_drop l i, List.drop_append, Cl.len, Nat.succ_mul]
    rw [List.drop_eq_nil_of_le (by rw [Cl.len]; omega)]
    simp
theorem cellsOf_take {α : Type} [Cl α] : ∀ (l : List α) (i : Nat), (cellsOf l).take (i * Cl.size α) = cellsOf (l.take i)
  | l, 0 => by simp [cellsOf]
  | [], i + 1 => by simp [cellsOf]
  | y :: l, i + 1 => by
    rw [cellsOf_cons, List.take_succ_cons, cellsOf_cons, ← cellsOf_take l i, List.take_append, Cl.len, Nat.succ_mul]
    rw [List.take_of_length_le (by rw [Cl.len]; omega)]
    congr 2; omega

/-- What the address of a slice of these data says. -/
def At {α : Type} [Cl α] (S : SH) (A : Option Addr) (l : List α) : Prop := 0 < l.length → ∃ p, A = some p ∧ Pts S p (cellsOf l)
/-- A stable slice that reads as this list. -/
def Sr {α : Type} [Cl α] (S : SH) (v : Value) (l : List α) : Prop := ∃ A c, v = .slice A l.length c ∧ l.length ≤ c ∧ At S A l

section
variable {α : Type} [Cl α] {S T : SH} {A : Option Addr} {l : List α} {v : Value}
theorem At.le (h : Le S T) (k : At S A l) : At T A l := fun h0 => let ⟨p, e, hp⟩ := k h0; ⟨p, e, hp.le h⟩
theorem Sr.le (h : Le S T) (k : Sr S v l) : Sr T v l := let ⟨A, c, e, hc, ha⟩ := k; ⟨A, c, e, hc, ha.le h⟩
theorem At.nil (S : SH) (A : Option Addr) : At (α := α) S A [] := fun h => by simp at h
theorem Sr.nil (S : SH) : Sr (α := α) S (.slice none 0 0) [] := ⟨none, 0, rfl, Nat.le_refl _, At.nil _ _⟩
theorem At.elem (k : At S A l) {i : Nat} {x : α} (hx : l[i]? = some x) : ∃ p, A = some p ∧ Pts S (p.add (i * Cl.size α)) (Cl.cells x) := by
  have hlt := (List.getElem?_eq_some_iff.1 hx).1
  obtain ⟨p, e, hp⟩ := k (by omega)
  refine ⟨p, e, fun j u hj => ?_⟩
  rw [add_add]
  exact hp _ u (cellsOf_at l i x hx j u hj)
theorem Pts.at_ {p : Addr} {cs : List Value} (k : Pts S p cs) {j : Nat} {u : Value} (h : cs[j]? = some u) : cellS S (p.add j) = some u := k j u h
/-- A cut of a stable slice, as the model makes it. -/
theorem At.cut (k : At S A l) {i m c : Nat} (hc : l.length ≤ c) (hm : m ≤ l.length) (hi : i ≤ m) : At S (if c = i then A else A.map (·.add (i * Cl.size α))) ((l.take m).drop i) := fun h0 => by
  have hlen : ((l.take m).drop i).length = m - i := by simp; omega
  rw [hlen] at h0
  obtain ⟨p, rfl, hp⟩ := k (by omega)
  rw [if_neg (by omega)]
  refine ⟨p.add (i * Cl.size α), rfl, ?_⟩
  intro j u hj
  rw [add_add]
  refine hp _ u ?_
  rw [← cellsOf_drop, ← cellsOf_take, List.getElem?_drop, List.getElem?_take] at hj
  split at hj
  · exact hj
  · cases hj
end

/-- Block b holds these data, from its head on. -/
theorem pts_block {S : SH} {b : Nat} {cs : Array Value} {T : TypeId} {fz : Nat × Nat} (h : S b = some (.cells cs T fz)) {l : List Value} (hl : cs.toList.take l.length = l) : Pts S ⟨b, 0, none⟩ l := by
  intro j u hj
  have e : (⟨b, 0, none⟩ : Addr).add j = ⟨b, j, none⟩ := by unfold Addr.add; split <;> simp_all
  have hlt := (List.getElem?_eq_some_iff.1 hj).1
  rw [e]
  simp only [cellS, h]
  rw [← hl, List.getElem?_take, if_pos hlt] at hj
  simpa using hj

section
variable {P : Program} {cx : Cx} {n : Nat} {S : SH} {L : Blocks} {F : Slots} {ro : Option Nat} {ops : Array Oper} {Q : Exit → Act → World → Prop} {rest : List Oper} {d : Nat} {ty : TypeId} {pos : String} {af : Array Edge} {g : Option (Nat × Bool)}

/-- xs[i], the address, of a stable slice. -/
theorem s_idx {α : Type} [Cl α] {T e : TypeId} [Sli P T e] [Sz P e (Cl.size α)] {x i : Operand} {A : Option Addr} {m c k : Nat} {kd : IntKind} {l : List α} {u : α} (hl : At S A l) (hg : want ops F g = some true) (hd : Nat.blt d n = true) (hx : evO F x = some (.slice A m c)) (hi : evO F i = some (.int kd k)) (hm : m = l.length) (hu : l[k]? = some u)
    (k : ∀ p, Pts S p (Cl.cells u) → W cx n S L ((d, .pointer (some p)) :: F) (wpListIn (Fr ro) 0 P ops Q rest)) :
    W cx n S L F (wpListIn (Fr ro) 0 P ops Q (⟨some d, .indexAddr T x i, ty, pos, af, g⟩ :: rest)) := by
  obtain ⟨p, rfl, hp⟩ := hl.elem hu
  exact s_ev (ev_indexAddr hx hi (by rw [hm]; exact (List.getElem?_eq_some_iff.1 hu).1)) hg rfl hd (k _ hp)

theorem o_ret2 {fn : Func} {R : SH → Blocks → Value → Prop} {t1 t2 : Nat} {v1 v2 : Value} {L' : Blocks} (hr : fn.results = #[.tmp t1, .tmp t2]) (h1 : geT F t1 = some v1) (h2 : geT F t2 = some v2) (hL : L'.Sublist L) (h : R S L' (.tuple #[v1, v2])) (hk : get F kM = none := by rfl) :
    W cx n S L F (Out P cx fn R .ret) := out_ret (.inl rfl) hk hL h fun a w hf _ => by
  have e1 := hf.slot _ _ h1
  have e2 := hf.slot _ _ h2
  rw [results_tmp2 hr]
  simp [Array.getD_eq_getD_getElem?, e1, e2]
theorem o_ret2m {fn : Func} {R : SH → Blocks → Value → Prop} {t1 t2 r : Nat} {v1 v2 : Value} {L' L1 : Blocks} (hr : fn.results = #[.tmp t1, .tmp t2]) (h1 : geT F t1 = some v1) (h2 : geT F t2 = some v2) (hk : get F kM = some (.map (some r))) (hp : L.Perm ((r, .deferred (some [])) :: L1)) (hL : L'.Sublist L1) (h : R S L' (.tuple #[v1, v2])) :
    W cx n S L F (Out P cx fn R .ret) := out_retm (.inl rfl) hk hp hL h fun a w _ hf _ _ => by
  have e1 := hf.slot _ _ h1
  have e2 := hf.slot _ _ h2
  rw [results_tmp2 hr]
  simp [Array.getD_eq_getD_getElem?, e1, e2]
/-- The result lies in a block of the call's own (a struct, an array; a named result whose address is taken). -/
theorem o_ret_cell {fn : Func} {R : SH → Blocks → Value → Prop} {t b : Nat} {T sz : Nat} [Ag P T sz] {cs : List Value} {T' : TypeId} {fz : Nat × Nat} {L' : Blocks} (hr : fn.results = #[.cell t T]) (h1 : geT F t = some (.pointer (some ⟨b, 0, none⟩))) (hm : (b, Obj.cells cs.toArray T' fz) ∈ L) (hl : cs.length = sz) (hL : L'.Sublist L) (h : R S L' (.agg cs.toArray)) (hk : get F kM = none := by rfl) :
    W cx n S L F (Out P cx fn R .ret) := out_ret (.inl rfl) hk hL h fun a w hf hs => by
  have e1 := hf.slot _ _ h1
  have hrun : (results fn a.tmps).run P w = .ok (.agg cs.toArray) w := by
    simp [results, hr, Array.getD_eq_getD_getElem?, e1, asAddr, run_loadVar_ag hl (fun j u hj => by
      have e : (⟨b, 0, none⟩ : Addr).add j = ⟨b, j, none⟩ := by unfold Addr.add; split <;> simp_all
      rw [e, own_cell hs hm j]; simpa using hj)]
  exact hrun
end
end Go.X
namespace Go.X
/-- The call yields this value, and nothing else is to be said. -/
def Pure (S : SH) (v : Value) : SH → Blocks → Value → Prop := fun S' L' v' => S = S' ∧ L' = [] ∧ v' = v
theorem pure_mk (S : SH) (v : Value) : Pure S v S [] v := ⟨rfl, rfl, rfl⟩
theorem Con.eq {P : Program} {f : FuncId} {vs : Array Value} {S : SH} {L : Blocks} {v v' : Value} (h : Con P f vs S L (Pure S v)) (e : v = v') : Con P f vs S L (Pure S v') := e ▸ h
end Go.X
namespace Go.X
open Go Go.RowKit

/-- What an operation on two integers yields. -/
def BinV (P : Program) (op : BinOp) (k : IntKind) (i j : Int) (v : Value) : Prop := ∀ T w, (binOp op T (.int k i) (.int k j)).run P w = .ok v w
section
variable {P : Program} {k : IntKind} {i j : Int}
theorem bv_add (h : -9223372036854775808 ≤ i + j ∧ i + j ≤ 9223372036854775807) : BinV P .add .i64 i j (.int .i64 (i + j)) := fun T w => by simp [binOp, Op.intArith, IntWalk.i64_in _ h]
theorem bv_sub (h : -9223372036854775808 ≤ i - j ∧ i - j ≤ 9223372036854775807) : BinV P .sub .i64 i j (.int .i64 (i - j)) := fun T w => by simp [binOp, Op.intArith, IntWalk.i64_in _ h]
theorem bv_mul (h : -9223372036854775808 ≤ i * j ∧ i * j ≤ 9223372036854775807) : BinV P .mul .i64 i j (.int .i64 (i * j)) := fun T w => by simp [binOp, Op.intArith, IntWalk.i64_in _ h]
theorem bv_quo (h0 : 0 ≤ i ∧ 0 < j ∧ i ≤ 9223372036854775807) : BinV P .quo .i64 i j (.int .i64 (i / j)) := fun T w => by
  obtain ⟨h0, h, hi⟩ := h0
  have h1 : i.tdiv j = i / j := Int.tdiv_eq_ediv_of_nonneg h0
  have h2 : 0 ≤ i / j := Int.ediv_nonneg h0 (by omega)
  have h3 : i / j ≤ i := Int.ediv_le_self _ h0
  simp [binOp, Op.intDiv, show j ≠ 0 by omega, h1, IntWalk.i64_in (i / j) ⟨by omega, by omega⟩]
theorem bv_rem (h0 : 0 ≤ i ∧ 0 < j) : BinV P .rem .i64 i j (.int .i64 (i % j)) := fun T w => by
  have h1 : i.tmod j = i % j := Int.tmod_eq_emod_of_nonneg h0.1
  simp [binOp, Op.intDiv, show j ≠ 0 by omega, h1]
theorem bv_eql : BinV P .eql k i j (.bool (i == j)) := fun T w => by simp [binOp, Op.intCmp]
theorem bv_neq : BinV P .neq k i j (.bool (i != j)) := fun T w => by simp [binOp, Op.intCmp]
theorem bv_lss : BinV P .lss k i j (.bool (decide (i < j))) := fun T w => by simp [binOp, Op.intCmp]
theorem bv_leq : BinV P .leq k i j (.bool (decide (i ≤ j))) := fun T w => by simp [binOp, Op.intCmp]
theorem bv_gtr : BinV P .gtr k i j (.bool (decide (j < i))) := fun T w => by simp [binOp, Op.intCmp]
theorem bv_geq : BinV P .geq k i j (.bool (decide (j ≤ i))) := fun T w => by simp [binOp, Op.intCmp]
theorem bv_eql_t (h : i = j) : BinV P .eql k i j (.bool true) := fun T w => by simp [binOp, Op.intCmp, h]
theorem bv_eql_f (h : i ≠ j) : BinV P .eql k i j (.bool false) := fun T w => by simp [binOp, Op.intCmp, h]
theorem bv_neq_t (h : i ≠ j) : BinV P .neq k i j (.bool true) := fun T w => by simp [binOp, Op.intCmp, h]
theorem bv_neq_f (h : i = j) : BinV P .neq k i j (.bool false) := fun T w => by simp [binOp, Op.intCmp, h]
theorem bv_lss_t (h : i < j) : BinV P .lss k i j (.bool true) := fun T w => by simp [binOp, Op.intCmp, h]
theorem bv_lss_f (h : j ≤ i) : BinV P .lss k i j (.bool false) := fun T w => by simp [binOp, Op.intCmp, h]
theorem bv_leq_t (h : i ≤ j) : BinV P .leq k i j (.bool true) := fun T w => by simp [binOp, Op.intCmp, h]
theorem bv_leq_f (h : j < i) : BinV P .leq k i j (.bool false) := fun T w => by simp [binOp, Op.intCmp, h]
theorem bv_gtr_t (h : j < i) : BinV P .gtr k i j (.bool true) := fun T w => by simp [binOp, Op.intCmp, h]
theorem bv_gtr_f (h : i ≤ j) : BinV P .gtr k i j (.bool false) := fun T w => by simp [binOp, Op.intCmp, h]
theorem bv_geq_t (h : j ≤ i) : BinV P .geq k i j (.bool true) := fun T w => by simp [binOp, Op.intCmp, h]
theorem bv_geq_f (h : i < j) : BinV P .geq k i j (.bool false) := fun T w => by simp [binOp, Op.intCmp, h]
end

section
variable {P : Program} {cx : Cx} {n : Nat} {S : SH} {L : Blocks} {F : Slots} {ro : Option Nat} {ops : Array Oper} {Q : Exit → Act → World → Prop} {rest : List Oper} {d : Nat} {ty : TypeId} {pos : String} {af : Array Edge} {g : Option (Nat × Bool)}

theorem s_move {x : Operand} {v : Value} (hg : want ops F g = some true) (hd : Nat.blt d n = true) (hx : evO F x = some v) (k : W cx n S L ((d, v) :: F) (wpListIn (Fr ro) 0 P ops Q rest)) :
    W cx n S L F (wpListIn (Fr ro) 0 P ops Q (⟨some d, .move x, ty, pos, af, g⟩ :: rest)) := s_ev (ev_move hx) hg rfl hd k
theorem s_assign {x : Operand} {v : Value} (hg : want ops F g = some true) (hd : Nat.blt d n = true) (hx : evO F x = some v) (k : W cx n S L ((d, v) :: F) (wpListIn (Fr ro) 0 P ops Q rest)) :
    W cx n S L F (wpListIn (Fr ro) 0 P ops Q (⟨some d, .assign x, ty, pos, af, g⟩ :: rest)) := s_ev (ev_assign hx) hg rfl hd k
theorem s_nil {x : Operand} {p : Addr} (hg : want ops F g = some true) (hd : Nat.blt d n = true) (hx : evO F x = some (.pointer (some p))) (k : W cx n S L ((d, .pointer (some p)) :: F) (wpListIn (Fr ro) 0 P ops Q rest)) :
    W cx n S L F (wpListIn (Fr ro) 0 P ops Q (⟨some d, .nilCheck x, ty, pos, af, g⟩ :: rest)) := s_ev (ev_nilCheck hx) hg rfl hd k
def pickV (b : Bool) (u v : Option Value) : Option Value := match b with | true => u | false => v
theorem s_pick {c x y : Operand} {b : Bool} {v : Value} (hg : want ops F g = some true) (hd : Nat.blt d n = true) (hc : evO F c = some (.bool b)) (hx : pickV b (evO F x) (evO F y) = some v) (k : W cx n S L ((d, v) :: F) (wpListIn (Fr ro) 0 P ops Q rest)) :
    W cx n S L F (wpListIn (Fr ro) 0 P ops Q (⟨some d, .pick c x y, ty, pos, af, g⟩ :: rest)) := by
  cases b
  · exact s_ev (ev_pick_f hc hx) hg rfl hd k
  · exact s_ev (ev_pick_t hc hx) hg rfl hd k
theorem s_extract {x : Operand} {i : Nat} {vs : List Value} {v : Value} (hg : want ops F g = some true) (hd : Nat.blt d n = true) (hx : evO F x = some (.tuple vs.toArray)) (hv : vs[i]? = some v) (k : W cx n S L ((d, v) :: F) (wpListIn (Fr ro) 0 P ops Q rest)) :
    W cx n S L F (wpListIn (Fr ro) 0 P ops Q (⟨some d, .extract x i, ty, pos, af, g⟩ :: rest)) := s_ev (ev_extract hx (by simpa using hv)) hg rfl hd k
theorem s_bin {op : BinOp} {T T' : TypeId} {x y : Operand} {kd : IntKind} {i j : Int} {v : Value} (hg : want ops F g = some true) (hd : Nat.blt d n = true) (hx : evO F x = some (.int kd i)) (hy : evO F y = some (.int kd j)) (hb : BinV P op kd i j v) (k : W cx n S L ((d, v) :: F) (wpListIn (Fr ro) 0 P ops Q rest)) :
    W cx n S L F (wpListIn (Fr ro) 0 P ops Q (⟨some d, .binOp op T x y T', ty, pos, af, g⟩ :: rest)) := s_ev (ev_bin hx hy (hb T)) hg rfl hd k
theorem s_not {T : TypeId} {x : Operand} {b : Bool} (hg : want ops F g = some true) (hd : Nat.blt d n = true) (hx : evO F x = some (.bool b)) (k : W cx n S L ((d, .bool (!b)) :: F) (wpListIn (Fr ro) 0 P ops Q rest)) :
    W cx n S L F (wpListIn (Fr ro) 0 P ops Q (⟨some d, .unOp .not T x, ty, pos, af, g⟩ :: rest)) := s_ev (ev_not hx) hg rfl hd k
theorem s_neg {T : TypeId} {x : Operand} {i : Int} (hg : want ops F g = some true) (hd : Nat.blt d n = true) (hx : evO F x = some (.int .i64 i)) (hb : -9223372036854775807 ≤ i ∧ i ≤ 9223372036854775807) (k : W cx n S L ((d, .int .i64 (-i)) :: F) (wpListIn (Fr ro) 0 P ops Q rest)) :
    W cx n S L F (wpListIn (Fr ro) 0 P ops Q (⟨some d, .unOp .neg T x, ty, pos, af, g⟩ :: rest)) := s_ev (ev_neg hx hb) hg rfl hd k
theorem s_eql_b {T T' : TypeId} [Boo P T] {x y : Operand} {p q : Bool} (hg : want ops F g = some true) (hd : Nat.blt d n = true) (hx : evO F x = some (.bool p)) (hy : evO F y = some (.bool q)) (k : W cx n S L ((d, .bool (p == q)) :: F) (wpListIn (Fr ro) 0 P ops Q rest)) :
    W cx n S L F (wpListIn (Fr ro) 0 P ops Q (⟨some d, .binOp .eql T x y T', ty, pos, af, g⟩ :: rest)) := s_ev (ev_eql_b hx hy) hg rfl hd k
theorem s_neq_b {T T' : TypeId} [Boo P T] {x y : Operand} {p q : Bool} (hg : want ops F g = some true) (hd : Nat.blt d n = true) (hx : evO F x = some (.bool p)) (hy : evO F y = some (.bool q)) (k : W cx n S L ((d, .bool (!(p == q))) :: F) (wpListIn (Fr ro) 0 P ops Q rest)) :
    W cx n S L F (wpListIn (Fr ro) 0 P ops Q (⟨some d, .binOp .neq T x y T', ty, pos, af, g⟩ :: rest)) := s_ev (ev_neq_b hx hy) hg rfl hd k
theorem s_len {x : Operand} {T e : TypeId} [Sli P T e] {A : Option Addr} {m c : Nat} (hg : want ops F g = some true) (hd : Nat.blt d n = true) (hx : evO F x = some (.slice A m c)) (k : W cx n S L ((d, .int .i64 m) :: F) (wpListIn (Fr ro) 0 P ops Q rest)) :
    W cx n S L F (wpListIn (Fr ro) 0 P ops Q (⟨some d, .call ⟨.builtin .len, #[x], #[T]⟩, ty, pos, af, g⟩ :: rest)) := s_ev (ev_len hx) hg rfl hd k
theorem s_len_s {x : Operand} {T : TypeId} [Strg P T] {s : ByteArray} (hg : want ops F g = some true) (hd : Nat.blt d n = true) (hx : evO F x = some (.string s)) (k : W cx n S L ((d, .int .i64 s.size) :: F) (wpListIn (Fr ro) 0 P ops Q rest)) :
    W cx n S L F (wpListIn (Fr ro) 0 P ops Q (⟨some d, .call ⟨.builtin .len, #[x], #[T]⟩, ty, pos, af, g⟩ :: rest)) := s_ev (ev_len_s hx) hg rfl hd k
theorem s_min {x y : Operand} {Ts : Array TypeId} {kd : IntKind} {i j : Int} (hg : want ops F g = some true) (hd : Nat.blt d n = true) (hx : evO F x = some (.int kd i)) (hy : evO F y = some (.int kd j)) (k : W cx n S L ((d, .int kd (if j < i then j else i)) :: F) (wpListIn (Fr ro) 0 P ops Q rest)) :
    W cx n S L F (wpListIn (Fr ro) 0 P ops Q (⟨some d, .call ⟨.builtin .min, #[x, y], Ts⟩, ty, pos, af, g⟩ :: rest)) := s_ev (ev_min hx hy) hg rfl hd k
theorem ev_max {x y : Operand} {Ts : Array TypeId} {k : IntKind} {i j : Int} (hx : evO F x = some (.int k i)) (hy : evO F y = some (.int k j)) : Ev P cx n S L F (.call ⟨.builtin .max, #[x, y], Ts⟩) ty (.int k (max i j)) := fun a w hf _ o ho _ => by
  have : (if i < j then j else i) = max i j := by rw [Int.max_def]; split <;> split <;> omega
  simp [execOp, ho, resolve, invoke, builtin, hf.ev hx, hf.ev hy, Builtin.max_, Builtin.max2, this]
theorem s_max {x y : Operand} {Ts : Array TypeId} {kd : IntKind} {i j : Int} (hg : want ops F g = some true) (hd : Nat.blt d n = true) (hx : evO F x = some (.int kd i)) (hy : evO F y = some (.int kd j)) (k : W cx n S L ((d, .int kd (max i j)) :: F) (wpListIn (Fr ro) 0 P ops Q rest)) :
    W cx n S L F (wpListIn (Fr ro) 0 P ops Q (⟨some d, .call ⟨.builtin .max, #[x, y], Ts⟩, ty, pos, af, g⟩ :: rest)) := s_ev (ev_max hx hy) hg rfl hd k
theorem s_fieldAddr {T : TypeId} {x : Operand} {i off : Nat} {ft : TypeId} [Fi P T i off ft] {b o : Nat} (hg : want ops F g = some true) (hd : Nat.blt d n = true) (hx : evO F x = some (.pointer (some ⟨b, o, none⟩))) (k : W cx n S L ((d, .pointer (some ⟨b, o + off, none⟩)) :: F) (wpListIn (Fr ro) 0 P ops Q rest)) :
    W cx n S L F (wpListIn (Fr ro) 0 P ops Q (⟨some d, .fieldAddr T x i, ty, pos, af, g⟩ :: rest)) := s_ev (ev_fieldAddr hx) hg rfl hd (by
      have e : (⟨b, o, none⟩ : Addr).add off = ⟨b, o + off, none⟩ := by unfold Addr.add; split <;> simp_all
      rw [e]; exact k)
theorem s_fieldAddr_p {T : TypeId} {x : Operand} {i off : Nat} {ft : TypeId} [Fi P T i off ft] {p : Addr} (hg : want ops F g = some true) (hd : Nat.blt d n = true) (hx : evO F x = some (.pointer (some p))) (k : W cx n S L ((d, .pointer (some (p.add off))) :: F) (wpListIn (Fr ro) 0 P ops Q rest)) :
    W cx n S L F (wpListIn (Fr ro) 0 P ops Q (⟨some d, .fieldAddr T x i, ty, pos, af, g⟩ :: rest)) := s_ev (ev_fieldAddr hx) hg rfl hd k
theorem s_field {T : TypeId} {x : Operand} {i off : Nat} {ft : TypeId} [Fi P T i off ft] [Sc P ft] {cs : List Value} {v : Value} (hg : want ops F g = some true) (hd : Nat.blt d n = true) (hx : evO F x = some (.agg cs.toArray)) (hv : cs[off]? = some v) (k : W cx n S L ((d, v) :: F) (wpListIn (Fr ro) 0 P ops Q rest)) :
    W cx n S L F (wpListIn (Fr ro) 0 P ops Q (⟨some d, .field T x i, ty, pos, af, g⟩ :: rest)) := s_ev (ev_field hx (by simpa using hv)) hg rfl hd k
theorem s_load_own {T : TypeId} [Sc P T] {x : Operand} {b i : Nat} {cs : List Value} {T' : TypeId} {fz : Nat × Nat} {v : Value} (hg : want ops F g = some true) (hd : Nat.blt d n = true) (hx : evO F x = some (.pointer (some ⟨b, i, none⟩))) (hm : (b, Obj.cells cs.toArray T' fz) ∈ L) (hv : cs[i]? = some v) (k : W cx n S L ((d, v) :: F) (wpListIn (Fr ro) 0 P ops Q rest)) :
    W cx n S L F (wpListIn (Fr ro) 0 P ops Q (⟨some d, .load T x, ty, pos, af, g⟩ :: rest)) := s_ev (ev_load_own hx hm hv) hg rfl hd k
theorem s_load_own_ag {T : TypeId} {sz : Nat} [Ag P T sz] {x : Operand} {b : Nat} {cs : List Value} {T' : TypeId} {fz : Nat × Nat} (hg : want ops F g = some true) (hd : Nat.blt d n = true) (hx : evO F x = some (.pointer (some ⟨b, 0, none⟩))) (hm : (b, Obj.cells cs.toArray T' fz) ∈ L) (hv : cs.length = sz) (k : W cx n S L ((d, .agg cs.toArray) :: F) (wpListIn (Fr ro) 0 P ops Q rest)) :
    W cx n S L F (wpListIn (Fr ro) 0 P ops Q (⟨some d, .load T x, ty, pos, af, g⟩ :: rest)) := s_ev (ev_load_own_ag hx hm hv) hg rfl hd k
theorem s_load {T : TypeId} [Sc P T] {x : Operand} {p : Addr} {v : Value} (hg : want ops F g = some true) (hd : Nat.blt d n = true) (hx : evO F x = some (.pointer (some p))) (hv : cellS S p = some v) (k : W cx n S L ((d, v) :: F) (wpListIn (Fr ro) 0 P ops Q rest)) :
    W cx n S L F (wpListIn (Fr ro) 0 P ops Q (⟨some d, .load T x, ty, pos, af, g⟩ :: rest)) := s_ev (ev_load hx hv) hg rfl hd k
/-- One cell, where a stable element of one cell lies. -/
theorem s_load1 {T : TypeId} [Sc P T] {x : Operand} {p : Addr} {v : Value} (hg : want ops F g = some true) (hd : Nat.blt d n = true) (hx : evO F x = some (.pointer (some p))) (hv : Pts S p [v]) (k : W cx n S L ((d, v) :: F) (wpListIn (Fr ro) 0 P ops Q rest)) :
    W cx n S L F (wpListIn (Fr ro) 0 P ops Q (⟨some d, .load T x, ty, pos, af, g⟩ :: rest)) := s_load hg hd hx (by have := hv 0 v rfl; simpa [Addr.add] using this) k
theorem s_load_ag {T : TypeId} {sz : Nat} [Ag P T sz] {x : Operand} {p : Addr} {cs : List Value} (hg : want ops F g = some true) (hd : Nat.blt d n = true) (hx : evO F x = some (.pointer (some p))) (hv : Pts S p cs) (hl : cs.length = sz) (k : W cx n S L ((d, .agg cs.toArray) :: F) (wpListIn (Fr ro) 0 P ops Q rest)) :
    W cx n S L F (wpListIn (Fr ro) 0 P ops Q (⟨some d, .load T x, ty, pos, af, g⟩ :: rest)) := s_ev (ev_load_ag hx hv hl) hg rfl hd k
theorem s_build {T : TypeId} {parts : Array (Nat × Operand)} {place : Nat → Option (Nat × Nat)} {zc : Array Value} [Bd P T place zc] {vs : List (Nat × Value)} {cells : Array Value} (hg : want ops F g = some true) (hd : Nat.blt d n = true) (hx : evParts F parts.toList = some vs) (hv : Instr.fill place zc vs = some cells) (k : W cx n S L ((d, .agg cells) :: F) (wpListIn (Fr ro) 0 P ops Q rest)) :
    W cx n S L F (wpListIn (Fr ro) 0 P ops Q (⟨some d, .build T parts, ty, pos, af, g⟩ :: rest)) := s_ev (ev_build hx hv) hg rfl hd k
/-- arr[i], the address, of an array in a block of the call's own, its elements of one cell. -/
theorem s_idxa1 {T e : TypeId} {N : Nat} [hT : Arr P T N e] [hE : Sz P e 1] {x i : Operand} {b j : Nat} {kd : IntKind} (hg : want ops F g = some true) (hd : Nat.blt d n = true) (hx : evO F x = some (.pointer (some ⟨b, 0, none⟩))) (hi : evO F i = some (.int kd j)) (hk : j < N) (k : W cx n S L ((d, .pointer (some ⟨b, j, none⟩)) :: F) (wpListIn (Fr ro) 0 P ops Q rest)) :
    W cx n S L F (wpListIn (Fr ro) 0 P ops Q (⟨some d, .indexAddr T x i, ty, pos, af, g⟩ :: rest)) := s_ev (ev_indexAddr_a hx hi hk) hg rfl hd (by
      have e : (⟨b, 0, none⟩ : Addr).add (j * 1) = ⟨b, j, none⟩ := by unfold Addr.add; split <;> simp_all
      rw [e]; exact k)
theorem s_skip' {d : Nat} {op : Op} {g : Nat × Bool} (hg : want ops F (some g) = some false) (hd : Nat.blt d n = true)
    (k : W cx n S L ((d, undef) :: F) (wpListIn (Fr ro) 0 P ops Q rest)) : W cx n S L F (wpListIn (Fr ro) 0 P ops Q (⟨some d, op, ty, pos, af, some g⟩ :: rest)) := s_skip hg (by simpa using hd) k
end
end Go.X
namespace Go.X
open Go Go.RowKit

/-- A slice value that is the call's own: nil, or at the head of a block of its own, which is 'ob'. -/
def Ows {α : Type} [Cl α] (e : TypeId) (v : Value) (l : List α) (ob : Blocks) : Prop :=
  (v = .slice none 0 0 ∧ l = [] ∧ ob = []) ∨
  ∃ g cap cur, v = .slice (some ⟨g, 0, none⟩) l.length cap ∧ ob = [(g, .cells cur e (0, 0))] ∧ l.length ≤ cap ∧ cap ≤ maxLen ∧ cur.size = cap * Cl.size α ∧ cur.toList.take (l.length * Cl.size α) = cellsOf l

section
variable {α : Type} [Cl α] {e : TypeId} {v : Value} {l : List α} {ob : Blocks}
theorem Ows.nil (e : TypeId) : Ows (α := α) e (.slice none 0 0) [] [] := .inl ⟨rfl, rfl, rfl⟩
theorem Ows.form (h : Ows e v l ob) : ∃ A c, v = .slice A l.length c := by
  rcases h with ⟨rfl, rfl, _⟩ | ⟨g, cap, cur, rfl, _⟩
  · exact ⟨none, 0, rfl⟩
  · exact ⟨_, _, rfl⟩
/-- A row of the call's own, all of it in use (a slice literal, a make). -/
theorem Ows.full {g : Nat} {cs : List Value} (h : cs = cellsOf l) (hl : l.length ≤ maxLen) : Ows e (.slice (some ⟨g, 0, none⟩) l.length l.length) l [(g, .cells cs.toArray e (0, 0))] :=
  .inr ⟨g, l.length, cs.toArray, rfl, rfl, Nat.le_refl _, hl, by simp [h, cellsOf_length], by
    subst h
    exact List.take_of_length_le (by simp [cellsOf_length])⟩
theorem Ows.row {cx : Cx} {S : SH} {L : Blocks} {w : World} (h : Ows e v l ob) (hs : St cx S (ob ++ L) w) : w.ownsRow 0 e (Cl.size α) v l.length (cellsOf l) := by
  refine ⟨cellsOf_length l, ?_⟩
  rcases h with ⟨rfl, rfl, _⟩ | ⟨g, cap, cur, rfl, rfl, h1, h2, h3, h4⟩
  · exact .inl ⟨rfl, rfl⟩
  · exact .inr ⟨g, cap, cur, rfl, Nat.zero_le _, hs.own _ (List.mem_append_left _ List.mem_cons_self), h1, h2, h3, h4⟩
end

theorem viewStore_drawn {P : Program} {w w' : World} {x : List Addr} {a k : Addr} {u : TypeId} {v : Value} {t : Bool} (h : w.viewStore P a u k v t = .ok (w', x)) : w'.drawn = w.drawn := by
  unfold World.viewStore at h
  simp only [bind, Except.bind] at h
  repeat' split at h
  all_goals first | (cases h; done) | (simp only [pure, Except.pure, Except.ok.injEq, Prod.mk.injEq] at h; rw [← h.1]) | skip
theorem ask_drawn {α : Type} : ∀ (m : Ask α) (w : World), w.drawn ≤ (w.ask m).2.drawn
  | .done _, w => Nat.le_refl _
  | .ask what range k, w => by
    simp only [World.ask]
    split
    · exact ask_drawn (k 0) w
    · exact Nat.le_trans (Nat.le_succ _) (ask_drawn _ { w with drawn := w.drawn + 1 })
theorem run_drawn {α : Type} {P : Program} : ∀ (m : Sem α) (w : World) {v : α} {w' : World}, m.run P w = .ok v w' → w.drawn ≤ w'.drawn
  | .pure a, w, v, w', h => by simp only [Sem.run, Result.ok.injEq] at h; rw [h.2]; exact Nat.le_refl _
  | .load m a k, w, v, w', h => by
    simp only [Sem.run] at h
    split at h
    · exact run_drawn _ w h
    · split at h
      · exact run_drawn _ w h
      · cases h
  | .store m a u k, w, v, w', h => by
    have key : ∀ (w1 : World) (x : List Addr), w.farStore P a u (m == Mode.atomic) = .ok (w1, x) → w1.drawn = w.drawn := by
      intro w1 x hx
      unfold World.farStore at hx
      split at hx
      · split at hx
        · rename_i r hr
          cases hx
          exact viewStore_drawn hr
        · cases hx
      · cases hx
    have step : ∀ u', u' = u → (match w.cell? a with
      | some _ => if w.frozen? a then (Result.halt (.unsupported (.unsafePointer "a write to bytes that a string shares")) w : Result α) else k.run P (w.setCell a u')
      | none => match w.farStore P a u' (m == Mode.atomic) with
        | .ok (w, _) => k.run P w
        | .error h => .halt h w) = .ok v w' → w.drawn ≤ w'.drawn := by
      intro u' hu h9
      subst hu
      clear h
      split at h9
      · split at h9
        · cases h9
        · exact run_drawn k (w.setCell a u') h9
      · split at h9
        · rename_i w1 x hx
          rw [← key _ _ hx]
          exact run_drawn k _ h9
        · cases h9
    cases u with
    | agg c => simp [Sem.run] at h
    | tuple c => simp [Sem.run] at h
    | _ => (refine step _ rfl ?_; rw [Sem.run] at h; exact h; all_goals simp)
  | .new o k, w, v, w', h => run_drawn (k _) { w with heap := w.heap.push o } (by simpa only [Sem.run] using h)
  | .shape r k, w, v, w', h => run_drawn (k _) w (by simpa only [Sem.run] using h)
  | .freeze a m k, w, v, w', h => by
    have := run_drawn k (w.freeze a m) (by simpa only [Sem.run] using h)
    have e : (w.freeze a m).drawn = w.drawn := by unfold World.freeze; split <;> rfl
    rwa [e] at this
  | .frozen a k, w, v, w', h => run_drawn (k _) w (by simpa only [Sem.run] using h)
  | .getObj r k, w, v, w', h => by
    simp only [Sem.run] at h
    split at h
    · cases h
    · exact run_drawn _ w h
    · cases h
  | .setObj r o k, w, v, w', h => by
    simp only [Sem.run] at h
    split at h
    · cases h
    · exact run_drawn k { w with heap := w.heap.setIfInBounds r o } h
    · cases h
  | .choose q k, w, v, w', h => by
    simp only [Sem.run] at h
    split at h
    · exact run_drawn _ w h
    · exact Nat.le_trans (Nat.le_succ _) (run_drawn _ { w with drawn := w.drawn + 1 } h)
  | .sys c k, w, v, w', h => by
    have := run_drawn (k (w.sys c).1) (w.sys c).2 (by simpa only [Sem.run] using h)
    refine Nat.le_trans ?_ this
    unfold World.sys
    have := ask_drawn (Kernel.perform c w.os) w
    split
    · exact Nat.le_refl _
    · rename_i e; rw [e] at this; exact this
  | .program k, w, v, w', h => run_drawn (k _) w (by simpa only [Sem.run] using h)
  | .mark _ k, w, v, w', h => run_drawn k w (by simpa only [Sem.run] using h)
  | .halt _, w, v, w', h => by simp [Sem.run] at h

theorem St.grown {cx : Cx} {S : SH} {ob ob' L : Blocks} {w w' : World} {row : Option Nat} (h : St cx S (ob ++ L) w) (hdr : w.drawn ≤ w'.drawn) (hg : w.grownBy w' row) (hrow : ∀ r, row = some r → ∃ o, (r, o) ∈ ob)
    (ho : ∀ p ∈ ob', w'.heap[p.1]? = some p.2 ∧ (row = some p.1 ∨ w.heap.size ≤ p.1)) (hn : (ob'.map (·.1)).Nodup) : St cx S (ob' ++ L) w' := by
  have hnd := h.nodup
  rw [List.map_append, List.nodup_append] at hnd
  have hin : ∀ r, row = some r → r ∈ ob.map (·.1) := fun r hr => let ⟨o, ho⟩ := hrow r hr; List.mem_map.2 ⟨(r, o), ho, rfl⟩
  have hkeep : ∀ b, b < w.heap.size → b ∉ ob.map (·.1) → w'.heap[b]? = w.heap[b]? := fun b hb hb0 => hg.block b hb (fun e => hb0 (hin b e.symm))
  have hL : ∀ p ∈ L, p.1 < w.heap.size ∧ p.1 ∉ ob.map (·.1) := fun p hp => ⟨h.lt (List.mem_append_right _ hp), fun hi => hnd.2.2 _ hi _ (List.mem_map_of_mem hp) rfl⟩
  have hob : ∀ p ∈ ob', p.1 ∈ ob.map (·.1) ∨ w.heap.size ≤ p.1 := fun p hp => (ho p hp).2.imp (hin _) id
  refine ⟨Nat.le_trans h.size hg.size, hg.os.trans h.os, hg.tape.trans h.tape, hg.output.trans h.output, Nat.le_trans h.drawn hdr, ?_, ?_, ?_, ?_, ?_, ?_, h.grow, h.le⟩
  · intro b hb hb0
    refine (hkeep b (Nat.lt_of_lt_of_le hb h.size) fun hi => ?_).trans (h.keep b hb hb0)
    obtain ⟨p, hp, rfl⟩ := List.mem_map.1 hi
    exact hb0 (h.new p (List.mem_append_left _ hp) hb)
  · intro b o hb
    have hb1 := h.stable b o hb
    refine (hkeep b (heap_lt hb1) fun hi => ?_).trans hb1
    obtain ⟨p, hp, rfl⟩ := List.mem_map.1 hi
    rw [h.sep p (List.mem_append_left _ hp)] at hb; cases hb
  · intro p hp
    rcases List.mem_append.1 hp with hp | hp
    · exact (ho p hp).1
    · exact (hkeep _ (hL p hp).1 (hL p hp).2).trans (h.own p (List.mem_append_right _ hp))
  · intro p hp
    rcases List.mem_append.1 hp with hp | hp
    · rcases hob p hp with hi | hi
      · obtain ⟨q, hq, he⟩ := List.mem_map.1 hi
        rw [← he]; exact h.sep q (List.mem_append_left _ hq)
      · cases hs : S p.1 with
        | none => rfl
        | some o => exact absurd (heap_lt (h.stable _ _ hs)) (Nat.not_lt.2 hi)
    · exact h.sep p (List.mem_append_right _ hp)
  · rw [List.map_append, List.nodup_append]
    refine ⟨hn, hnd.2.1, fun x hx y hy hxy => ?_⟩
    subst hxy
    obtain ⟨p, hp, rfl⟩ := List.mem_map.1 hx
    obtain ⟨q, hq, hqp⟩ := List.mem_map.1 hy
    rcases hob p hp with hi | hi
    · exact (hL q hq).2 (hqp ▸ hi)
    · have := (hL q hq).1; rw [hqp] at this; omega
  · intro p hp hlt
    rcases List.mem_append.1 hp with hp | hp
    · rcases hob p hp with hi | hi
      · obtain ⟨q, hq, he⟩ := List.mem_map.1 hi
        rw [← he] at hlt ⊢; exact h.new q (List.mem_append_left _ hq) hlt
      · have := h.size; omega
    · exact h.new p (List.mem_append_right _ hp) hlt

section
variable {α : Type} [Cl α] {P : Program} {cx : Cx} {n : Nat} {S : SH} {L : Blocks} {F : Slots} {ro : Option Nat} {ops : Array Oper} {Q : Exit → Act → World → Prop} {rest : List Oper} {d : Nat} {ty : TypeId} {pos : String} {af : Array Edge} {g : Option (Nat × Bool)}

/-- Cells that can be read here: of a stable slice, or of a block of the call's own. -/
def Src (cx : Cx) (S : SH) (L : Blocks) (p : Addr) (cs : List Value) : Prop := ∀ w, St cx S L w → ∀ j u, cs[j]? = some u → w.cell? (p.add j) = some u
theorem Src.own {b : Nat} {cs : List Value} {T : TypeId} {fz : Nat × Nat} (hm : (b, Obj.cells cs.toArray T fz) ∈ L) : Src cx S L ⟨b, 0, none⟩ cs := fun w hs j u hj => by
  have e : (⟨b, 0, none⟩ : Addr).add j = ⟨b, j, none⟩ := by unfold Addr.add; split <;> simp_all
  rw [e, own_cell hs hm]; simpa using hj
theorem Src.stable {p : Addr} {cs : List Value} (h : Pts S p cs) : Src cx S L p cs := fun _ hs j u hj => hs.cell (h j u hj)

theorem ows_of_row {e : TypeId} {v : Value} {l : List α} {w : World} (h : w.ownsRow 0 e (Cl.size α) v l.length (cellsOf l)) :
    ∃ ob, Ows e v l ob ∧ (∀ p ∈ ob, w.heap[p.1]? = some p.2 ∧ v.ownBlock = some p.1) ∧ (ob.map (·.1)).Nodup := by
  rcases h.2 with ⟨rfl, h0⟩ | ⟨g, cap, cur, rfl, _, h1, h2, h3, h4, h5⟩
  · exact ⟨[], .inl ⟨rfl, List.eq_nil_of_length_eq_zero h0, rfl⟩, by simp, by simp⟩
  · exact ⟨[(g, .cells cur e (0, 0))], .inr ⟨g, cap, cur, rfl, rfl, h2, h3, h4, h5⟩, by simp [Value.ownBlock, h1], by simp⟩

theorem run_append {T e : TypeId} {sz by_ : Nat} {z : Value} (hT : P.underlying T = some (.slice e)) (hsz : (P.info? e).map (·.size) = some sz) (hz : (P.info? e).bind (·.zero) = some z) (hby : (P.info? e).map (·.bytes) = some by_)
    (hzs : z.cells.size = sz) (h0 : 0 < sz) {v : Value} {l ms : List α} (hα : Cl.size α = sz) {w : World} (hown : w.ownsRow 0 e (Cl.size α) v l.length (cellsOf l)) {p : Addr} {c : Nat} (hc : ∀ j u, (cellsOf ms)[j]? = some u → w.cell? (p.add j) = some u)
    (hb : (l.length + ms.length) * by_ ≤ 140737488355328) (h63 : l.length + ms.length ≤ maxLen) :
    ∃ v' w', (Builtin.append_ #[T, T] ty #[v, .slice (some p) ms.length c]).run P w = .ok v' w' ∧ w'.ownsRow 0 e (Cl.size α) v' (l ++ ms).length (cellsOf (l ++ ms)) ∧ w.grownBy w' v.ownBlock ∧ (v'.ownBlock = v.ownBlock ∨ v'.ownBlock = some w.heap.size) := by
  cases hi : P.info? e with
  | none => simp [hi] at hsz
  | some i =>
    simp [hi] at hsz hz hby
    subst hα
    obtain ⟨v', w', h1, h2, h3, _, h5⟩ := run_append_own_at (P := P) w 0 T ty e i z (Cl.size α) by_ hT hi hz hsz hby hzs h0 v l.length (cellsOf l) hown p ms.length c (cellsOf ms) (by rw [cellsOf_length]) hc (cellsOf_one ms) h63 hb (Nat.zero_le _)
    refine ⟨v', w', h1, ?_, h3, h5⟩
    rw [cellsOf_append, List.length_append]; exact h2

/-- append onto a slice of the call's own; the source lies in memory. -/
theorem s_append {T e : TypeId} [hT : Sli P T e] {by_ : Nat} {z : Value} [hsz : Sz P e (Cl.size α)] [hz : Zr P e z] [hby : By P e by_] {x y : Operand} {v : Value} {l ms : List α} {ob L1 : Blocks} {p : Addr} {m c : Nat} (hg : want ops F g = some true) (hd : Nat.blt d n = true)
    (hx : evO F x = some v) (ho : Ows e v l ob) (hL : L.Perm (ob ++ L1)) (hy : evO F y = some (.slice (some p) m c)) (hm : m = ms.length) (hs : Src cx S L p (cellsOf ms)) (hzs : Nat.beq z.cells.size (Cl.size α) = true) (h0 : 0 < Cl.size α) (hb : (l.length + ms.length) * by_ ≤ 140737488355328) (h63 : l.length + ms.length ≤ 1000000000000)
    (k : ∀ v' ob', Ows e v' (l ++ ms) ob' → W cx n S (ob' ++ L1) ((d, v') :: F) (wpListIn (Fr ro) 0 P ops Q rest)) :
    W cx n S L F (wpListIn (Fr ro) 0 P ops Q (⟨some d, .call ⟨.builtin .append, #[x, y], #[T, T]⟩, ty, pos, af, g⟩ :: rest)) :=
  s_val hg rfl hd fun a w hf hst o hop hty => by
    subst hm
    have hst' := hst.perm hL
    obtain ⟨v', w', h1, h2, h3, h4⟩ := run_append (ty := ty) hT.h hsz.size hz.zero hby.bytes (Nat.eq_of_beq_eq_true hzs) h0 rfl (ho.row hst') (c := c) (hs w hst) hb (by simp only [maxLen]; omega)
    obtain ⟨ob', ho', hob', hn⟩ := ows_of_row h2
    refine ⟨S, ob' ++ L1, v', w', by simp [execOp, hop, resolve, invoke, builtin, hf.ev hx, hf.ev hy, hty, h1], ?_, k _ _ ho'⟩
    refine hst'.grown (run_drawn _ _ h1) h3 ?_ ?_ hn
    · intro r hr
      rcases ho with ⟨rfl, _, _⟩ | ⟨g', cap, cur, rfl, rfl, _⟩
      · simp [Value.ownBlock] at hr
      · simp only [Value.ownBlock, Option.some.injEq] at hr; subst hr; exact ⟨_, List.mem_cons_self⟩
    · intro q hq
      obtain ⟨e1, e2⟩ := hob' q hq
      refine ⟨e1, ?_⟩
      rcases h4 with h4 | h4
      · exact .inl (h4 ▸ e2)
      · rw [h4] at e2; simp at e2; exact .inr (by omega)

/-- append of a stable slice, whatever it is. -/
theorem s_append_st {T e : TypeId} [hT : Sli P T e] {by_ : Nat} {z : Value} [hsz : Sz P e (Cl.size α)] [hz : Zr P e z] [hby : By P e by_] {x y : Operand} {v : Value} {l ms : List α} {ob L1 : Blocks} {A : Option Addr} {m c : Nat} (hA : At S A ms) (hg : want ops F g = some true) (hd : Nat.blt d n = true)
    (hx : evO F x = some v) (ho : Ows e v l ob) (hL : L.Perm (ob ++ L1)) (hy : evO F y = some (.slice A m c)) (hm : m = ms.length) (hzs : Nat.beq z.cells.size (Cl.size α) = true) (h0 : 0 < Cl.size α) (hb : (l.length + ms.length) * by_ ≤ 140737488355328) (h63 : l.length + ms.length ≤ 1000000000000)
    (k : ∀ v' ob', Ows e v' (l ++ ms) ob' → W cx n S (ob' ++ L1) ((d, v') :: F) (wpListIn (Fr ro) 0 P ops Q rest)) :
    W cx n S L F (wpListIn (Fr ro) 0 P ops Q (⟨some d, .call ⟨.builtin .append, #[x, y], #[T, T]⟩, ty, pos, af, g⟩ :: rest)) := by
  rcases Nat.eq_zero_or_pos ms.length with hz0 | hp
  · have hms : ms = [] := List.eq_nil_of_length_eq_zero hz0
    subst hms
    cases A with
    | some p => exact s_append hg hd hx ho hL hy hm (fun w _ j u hj => by simp [cellsOf] at hj) hzs h0 hb h63 k
    | none =>
      refine s_val hg rfl hd fun a w hf hst o hop hty => ⟨S, ob ++ L1, v, w, ?_, hst.perm hL, by have := k v ob (by simpa using ho); exact this⟩
      have hm0 : m = 0 := by simpa using hm
      subst hm0
      cases hi : P.info? e with
      | none => have := hsz.size; simp [hi] at this
      | some i =>
        rcases ho with ⟨rfl, rfl, rfl⟩ | ⟨g', cap, cur, rfl, rfl, h1, _⟩
        · simp [execOp, hop, resolve, invoke, builtin, hf.ev hx, hf.ev hy, Builtin.append_, run_underlying hT.h, sizeOf, typeInfo, hi, Builtin.lenOf, Builtin.firstCells]
        · simp [execOp, hop, resolve, invoke, builtin, hf.ev hx, hf.ev hy, Builtin.append_, run_underlying hT.h, sizeOf, typeInfo, hi, Builtin.lenOf, Builtin.firstCells, h1, storeCells]
  · obtain ⟨p, rfl, hpts⟩ := hA hp
    exact s_append hg hd hx ho hL hy hm (Src.stable hpts) hzs h0 hb h63 k

/-- A slice of the call's own becomes stable. -/
theorem W.freezeOws {G : Act → World → Prop} {e : TypeId} {v : Value} {l : List α} {ob L1 : Blocks} (ho : Ows e v l ob) (hL : L.Perm (ob ++ L1)) (k : ∀ S', Le S S' → Sr S' v l → W cx n S' L1 F G) : W cx n S L F G := by
  refine W.perm ?_ hL
  rcases ho with ⟨rfl, rfl, rfl⟩ | ⟨g', cap, cur, rfl, rfl, h1, h2, h3, h4⟩
  · exact k S (Le.refl _) (Sr.nil _)
  · refine W.freeze fun S' hle hb => k S' hle ⟨_, _, rfl, h1, fun _ => ⟨_, rfl, pts_block hb ?_⟩⟩
    rw [cellsOf_length]; exact h4

/-- All that the call owns, and what is stable: as a callee that writes nothing of it may read it. -/
def lend (S : SH) : Blocks → SH
  | [] => S
  | p :: L => SH.add (lend S L) p.1 p.2
theorem Ows.sr {e : TypeId} {v : Value} {l : List α} {ob : Blocks} {S1 : SH} (ho : Ows e v l ob) (hm : ∀ p ∈ ob, S1 p.1 = some p.2) : Sr S1 v l := by
  rcases ho with ⟨rfl, rfl, rfl⟩ | ⟨g', cap, cur, rfl, rfl, h1, h2, h3, h4⟩
  · exact Sr.nil _
  · refine ⟨_, _, rfl, h1, fun _ => ⟨_, rfl, pts_block (hm _ List.mem_cons_self) ?_⟩⟩
    rw [cellsOf_length]; exact h4


theorem run_slice {T e : TypeId} {sz : Nat} (hT : P.underlying T = some (.slice e)) (hs : (P.info? e).map (·.size) = some sz) (A : Option Addr) (len cap i m : Nat) (lo hi : Option Value) (hlo : lo = none ∧ i = 0 ∨ ∃ kd, lo = some (.int kd i)) (hhi : hi = none ∧ m = len ∨ ∃ kd, hi = some (.int kd m)) (hm : m ≤ cap) (him : i ≤ m) (w : World) :
    (Instr.slice T (.slice A len cap) lo hi none).run P w = .ok (.slice (if cap = i then A else A.map (·.add (i * sz))) (m - i) (cap - i)) w := by
  have h1 : (Instr.sliceBounds true len cap lo hi none).run P w = .ok (i, m, cap) w := by
    rcases hlo with ⟨rfl, rfl⟩ | ⟨kd, rfl⟩ <;> rcases hhi with ⟨rfl, rfl⟩ | ⟨kd', rfl⟩ <;> simp [Instr.sliceBounds, Instr.sliceBound, asIntOf, hm, him]
  simp [Instr.slice, run_underlying hT, h1, run_sizeOf hs]

theorem s_slice_hi {T e : TypeId} [hT : Sli P T e] [hE : Sz P e (Cl.size α)] {x y : Operand} {A : Option Addr} {m c j : Nat} {kd : IntKind} {l : List α} (hA : At S A l) (hg : want ops F g = some true) (hd : Nat.blt d n = true) (hx : evO F x = some (.slice A m c)) (hy : evO F y = some (.int kd j)) (hm : m = l.length) (hmc : m ≤ c) (hj : j ≤ l.length)
    (k : ∀ A', At S A' (l.take j) → W cx n S L ((d, .slice A' (l.take j).length c) :: F) (wpListIn (Fr ro) 0 P ops Q rest)) :
    W cx n S L F (wpListIn (Fr ro) 0 P ops Q (⟨some d, .slice T x none (some y) none, ty, pos, af, g⟩ :: rest)) := by
  subst hm
  refine s_ev (v := .slice (if c = 0 then A else A.map (·.add (0 * Cl.size α))) (j - 0) (c - 0)) (fun a w hf hs o ho _ => ?_) hg rfl hd ?_
  · simp only [execOp, ho, hf.ev hx, hf.ev hy, Instr.sliceAt, Sem.run_bind, run_underlying hT.h, Result.andThen_ok, Option.map_some, Option.map_none]
    rw [run_slice hT.h hE.size A l.length c 0 j none (some (.int kd j)) (.inl ⟨rfl, rfl⟩) (.inr ⟨kd, rfl⟩) (by omega) (by omega)]
    simp
  · have := k _ (by have := hA.cut (i := 0) (m := j) (c := c) hmc hj (by omega); simpa using this)
    have e : (l.take j).length = j := by simp; omega
    rw [e] at this
    simpa using this
theorem s_slice_lo {T e : TypeId} [hT : Sli P T e] [hE : Sz P e (Cl.size α)] {x y : Operand} {A : Option Addr} {m c i : Nat} {kd : IntKind} {l : List α} (hA : At S A l) (hg : want ops F g = some true) (hd : Nat.blt d n = true) (hx : evO F x = some (.slice A m c)) (hy : evO F y = some (.int kd i)) (hm : m = l.length) (hmc : m ≤ c) (hj : i ≤ l.length)
    (k : ∀ A', At S A' (l.drop i) → W cx n S L ((d, .slice A' (l.drop i).length (c - i)) :: F) (wpListIn (Fr ro) 0 P ops Q rest)) :
    W cx n S L F (wpListIn (Fr ro) 0 P ops Q (⟨some d, .slice T x (some y) none none, ty, pos, af, g⟩ :: rest)) := by
  subst hm
  refine s_ev (v := .slice (if c = i then A else A.map (·.add (i * Cl.size α))) (l.length - i) (c - i)) (fun a w hf hs o ho _ => ?_) hg rfl hd ?_
  · simp only [execOp, ho, hf.ev hx, hf.ev hy, Instr.sliceAt, Sem.run_bind, run_underlying hT.h, Result.andThen_ok, Option.map_some, Option.map_none]
    rw [run_slice hT.h hE.size A l.length c i l.length (some (.int kd i)) none (.inr ⟨kd, rfl⟩) (.inl ⟨rfl, rfl⟩) (by omega) (by omega)]
    simp
  · have := k _ (by have := hA.cut (i := i) (m := l.length) (c := c) hmc (Nat.le_refl _) hj; simpa using this)
    rw [List.length_drop] at this
    exact this

theorem made_one (z : Value) (m : Nat) : madeCells #[z] m = (List.replicate m z).toArray := by
  apply Array.ext'
  apply List.ext_getElem?
  intro i
  simp [madeCells, List.getElem?_replicate, Nat.mod_one]
  by_cases h : i < m <;> simp [h]
/-- make([]T, n), the elements of one cell. -/
theorem s_make1 {T e : TypeId} [hT : Sli P T e] [hE : Sz P e 1] {by_ : Nat} [hby : By P e by_] {z : Value} [hz : Zr P e z] {x y : Operand} {m : Nat} (hg : want ops F g = some true) (hd : Nat.blt d n = true) (hx : evO F x = some (.int .i64 m)) (hy : evO F y = some (.int .i64 m)) (hzc : z.cells = #[z]) (hb : by_ * m ≤ 281474976710656) (h63 : m ≤ 1000000000000)
    (k : ∀ b, W cx n S ((b, .cells (List.replicate m z).toArray e (0, 0)) :: L) ((d, .slice (some ⟨b, 0, none⟩) m m) :: F) (wpListIn (Fr ro) 0 P ops Q rest)) :
    W cx n S L F (wpListIn (Fr ro) 0 P ops Q (⟨some d, .makeSlice T x y, ty, pos, af, g⟩ :: rest)) :=
  s_val hg rfl hd fun a w hf hst o ho _ => by
    cases hi : P.info? e with
    | none => have := hE.size; simp [hi] at this
    | some i =>
      have h1 := hE.size; have h2 := hby.bytes; have h3 := hz.zero
      simp [hi] at h1 h2 h3
      have hbb : (i.bytes : Int) * (m : Int) ≤ 281474976710656 := by
        rw [h2]
        have h4 : ((by_ * m : Nat) : Int) ≤ 281474976710656 := by omega
        rwa [Int.natCast_mul] at h4
      have hr := run_make (P := P) (w := w) T e i z hT.h hi h3 .i64 .i64 m m (by omega) (by omega) hbb (by omega)
      simp only [Int.toNat_natCast, h1, Nat.mul_one, hzc, made_one] at hr
      exact ⟨_, _, _, _, by simp [execOp, ho, hf.ev hx, hf.ev hy, hr], hst.alloc _, k _⟩
/-- xs[i], the address, of a row of the call's own, its elements of one cell. -/
theorem s_idxo1 {T e : TypeId} [hT : Sli P T e] [hE : Sz P e 1] {x i : Operand} {b j m c : Nat} {kd : IntKind} (hg : want ops F g = some true) (hd : Nat.blt d n = true) (hx : evO F x = some (.slice (some ⟨b, 0, none⟩) m c)) (hi : evO F i = some (.int kd j)) (hk : j < m) (k : W cx n S L ((d, .pointer (some ⟨b, j, none⟩)) :: F) (wpListIn (Fr ro) 0 P ops Q rest)) :
    W cx n S L F (wpListIn (Fr ro) 0 P ops Q (⟨some d, .indexAddr T x i, ty, pos, af, g⟩ :: rest)) := s_ev (ev_indexAddr hx hi hk) hg rfl hd (by
      have e : (⟨b, 0, none⟩ : Addr).add (j * 1) = ⟨b, j, none⟩ := by unfold Addr.add; split <;> simp_all
      rw [e]; exact k)
/-- A row of ints, by a function. -/
def ints (f : Nat → Int) (m : Nat) : List Value := (List.range m).map fun i => .int .i64 (f i)
end
end Go.X
namespace Go.X
open Go Go.RowKit

class Mx (P : Program) : Prop where
  h : P.follows .mixedOrders = true

section
variable {P : Program} {ops : Array Oper} {md : Region.Mode} {C : World → Prop} {ro : Option Nat}
theorem wpIn_of_quiet {o : Oper} {a : Act} {K : Act → Prop} {K' : Act → World → Prop} {Q' : Exit → Act → World → Prop} {w : World} (hw : C w) (h : ∀ a w', C w' → K a → K' a w') (hh : o.quiet P a C K) : o.wpIn (Fr ro) 0 P a w K' Q' := by
  obtain ⟨v, h1, h2⟩ := hh
  have h3 := h1 w hw
  unfold Oper.quietAt at h3
  unfold Oper.wpIn
  refine ⟨fun _ _ => trivial, ?_⟩
  by_cases hd : notDefer o.op = true
  · rw [semAt_of hd]
    generalize (execOp a.eval o).run P w = r at *
    cases r with
    | ok n w' =>
      cases n <;> simp only [Oper.quietUpon] at h3 <;> simp only [Oper.uponIn]
      case value u => obtain ⟨e1, e2⟩ := h3; rw [e1, e2]; exact h _ _ hw h2
      case skip => obtain ⟨e1, e2⟩ := h3; rw [e1, ← e2]; exact h _ _ hw h2
      case enter f args =>
        obtain ⟨e1, hc⟩ := h3
        rw [e1]
        refine ⟨by simp, ?_⟩
        have hin : CallsIn (Fr ro) (0 - 1) P f args w _ := (callsIn_wide (n := 0)).2 hc
        exact hin.mono fun e w'' ⟨he, hw''⟩ => by subst he; exact h _ _ hw'' h2
    | halt x w' => simp only [Oper.quietUpon] at h3
  · exfalso
    cases ho : o.op <;> simp [notDefer, ho] at hd
    rename_i c
    simp only [execOp, ho, Sem.run_bind] at h3
    cases hr : (resolve a.eval c o.type).run P w <;> rw [hr] at h3 <;> simp [Result.andThen, Oper.quietUpon] at h3

theorem wpOpIn_of_qOp {i : Nat} {a : Act} {K : Act → Prop} {K' : Act → World → Prop} {Q' : Exit → Act → World → Prop} {w : World} (hC : C w) (h : ∀ a w', C w' → K a → K' a w') (hh : qOp P ops C i K a) : wpOpIn (Fr ro) 0 P ops Q' i K' a w := by
  unfold qOp at hh
  unfold wpOpIn
  split
  · rename_i ho; simp only [ho] at hh; exact h _ _ hC hh
  · rename_i o ho
    simp only [ho] at hh
    split
    · rename_i hw; simp only [hw, if_true] at hh; exact wpIn_of_quiet hC h hh
    · rename_i hw; simp only [hw] at hh; exact ⟨fun _ _ => trivial, h _ _ hC hh⟩

theorem wpAnyIn_of_quiet {Q : Act → Prop} {Q' : Exit → Act → World → Prop} (hQ : ∀ a w, C w → Q a → Q' .normal a w) : ∀ (fuel : Nat) (listed : Array Bool) (a : Act) (w : World), C w →
    wpAnyQ P md ops C Q fuel listed a → wpAnyIn (Fr ro) 0 P md ops Q' fuel listed a w
  | 0, _, _, _, hw, h => ⟨h.1, hQ _ _ hw h.2⟩
  | fuel + 1, _, _, _, hw, h => ⟨fun h0 => hQ _ _ hw (h.1 h0), fun i hi => wpOpIn_of_qOp hw (fun a' w' hw' => wpAnyIn_of_quiet hQ fuel _ a' w' hw') (h.2 i hi)⟩
end

def Wq (n : Nat) (F : Slots) (G : Act → Prop) : Prop := ∀ a, Fm n a F → G a

section
variable {P : Program} {cx : Cx} {n : Nat} {S : SH} {L : Blocks} {F : Slots} {ro : Option Nat} {ops : Array Oper} {Q : Exit → Act → World → Prop} {rest : List Oper} {d : Nat} {ty : TypeId} {pos : String} {af : Array Edge} {g : Option (Nat × Bool)} {G : Act → Prop}

/-- A statement whose order is open, and whose operations turn nothing. -/
theorem c_draw [hm : Mx P] {id : Nat} {l : List Oper} (hB : Region.lexB .any l.toArray = true) (k : Wq n F (wpQuiet P l.toArray (St cx S L) (fun a' => ∀ w', St cx S L w' → Q .normal a' w') l)) :
    W cx n S L F ((Code.region id l.toArray true).wpIn (Fr ro) 0 P Q) := by
  intro a w hf hs
  simp only [Region.lexB, Bool.and_eq_true] at hB
  refine wpIn_region_any hm.h (wpAnyIn_of_quiet (C := St cx S L) (Q := fun a' => ∀ w', St cx S L w' → Q .normal a' w') (fun _ w' hw' h => h w' hw') _ _ _ _ hs.drew ?_)
  have := wpAnyQ_lex (C := St cx S L) (md := .any) hB.1 l 0 (Array.replicate l.toArray.size false) a (by simp) (by simpa using hB.2) (k a hf)
  simpa using this

theorem q_done (k : W cx n S L F (Q .normal)) : Wq n F (wpQuiet P ops (St cx S L) (fun a' => ∀ w', St cx S L w' → Q .normal a' w') []) := fun a hf w' hw' => k a w' hf hw'

theorem q_ev {op : Op} {v : Value} (hg : want ops F g = some true) (hd : Nat.blt d n = true) (he : Ev P cx n S L F op ty v)
    (k : Wq n ((d, v) :: F) (wpQuiet P ops (St cx S L) G rest)) : Wq n F (wpQuiet P ops (St cx S L) G (⟨some d, op, ty, pos, af, g⟩ :: rest)) := by
  intro a hf
  simp only [wpQuiet]
  rw [wanted_of (o := ⟨some d, op, ty, pos, af, g⟩) hf hg]
  simp only [if_true]
  refine ⟨v, fun w hw => ?_, k _ (hf.put v hd)⟩
  unfold Oper.quietAt
  rw [he a w hf hw ⟨some d, op, ty, pos, af, g⟩ rfl rfl]
  exact ⟨rfl, rfl⟩

theorem q_skip {d : Nat} {op : Op} {g : Nat × Bool} (hg : want ops F (some g) = some false) (hd : Nat.blt d n = true)
    (k : Wq n ((d, undef) :: F) (wpQuiet P ops (St cx S L) G rest)) : Wq n F (wpQuiet P ops (St cx S L) G (⟨some d, op, ty, pos, af, some g⟩ :: rest)) := by
  intro a hf
  simp only [wpQuiet]
  rw [wanted_of (o := ⟨some d, op, ty, pos, af, some g⟩) hf hg]
  simp only [Bool.false_eq_true, if_false]
  exact k _ (hf.put undef hd)


theorem q_idx {α : Type} [Cl α] {T e : TypeId} [Sli P T e] [Sz P e (Cl.size α)] {x i : Operand} {A : Option Addr} {m c k : Nat} {kd : IntKind} {l : List α} {u : α} (hl : At S A l) (hg : want ops F g = some true) (hd : Nat.blt d n = true) (hx : evO F x = some (.slice A m c)) (hi : evO F i = some (.int kd k)) (hm : m = l.length) (hu : l[k]? = some u)
    (k : ∀ p, Pts S p (Cl.cells u) → Wq n ((d, .pointer (some p)) :: F) (wpQuiet P ops (St cx S L) G rest)) :
    Wq n F (wpQuiet P ops (St cx S L) G (⟨some d, .indexAddr T x i, ty, pos, af, g⟩ :: rest)) := by
  obtain ⟨p, rfl, hp⟩ := hl.elem hu
  exact q_ev hg hd (ev_indexAddr hx hi (by rw [hm]; exact (List.getElem?_eq_some_iff.1 hu).1)) (k _ hp)

theorem ev_load1 {T : TypeId} [Sc P T] {x : Operand} {p : Addr} {v : Value} (hx : evO F x = some (.pointer (some p))) (h : Pts S p [v]) : Ev P cx n S L F (.load T x) ty v := ev_load hx (by have := h 0 v rfl; simpa [Addr.add] using this)
theorem ev_load_f {T : TypeId} [Sc P T] {x : Operand} {p : Addr} {cs : List Value} {j : Nat} {v : Value} (hx : evO F x = some (.pointer (some (p.add j)))) (h : Pts S p cs) (hv : cs[j]? = some v) : Ev P cx n S L F (.load T x) ty v := ev_load hx (h j v hv)
theorem s_load_f {T : TypeId} [Sc P T] {x : Operand} {p : Addr} {cs : List Value} {j : Nat} {v : Value} (hg : want ops F g = some true) (hd : Nat.blt d n = true) (hx : evO F x = some (.pointer (some (p.add j)))) (h : Pts S p cs) (hv : cs[j]? = some v) (k : W cx n S L ((d, v) :: F) (wpListIn (Fr ro) 0 P ops Q rest)) :
    W cx n S L F (wpListIn (Fr ro) 0 P ops Q (⟨some d, .load T x, ty, pos, af, g⟩ :: rest)) := s_ev (ev_load_f hx h hv) hg rfl hd k
theorem ev_binV {op : BinOp} {T T' : TypeId} {x y : Operand} {kd : IntKind} {i j : Int} {v : Value} (hx : evO F x = some (.int kd i)) (hy : evO F y = some (.int kd j)) (hb : BinV P op kd i j v) : Ev P cx n S L F (.binOp op T x y T') ty v := ev_bin hx hy (hb T)
theorem ev_pick {c x y : Operand} {b : Bool} {v : Value} (hc : evO F c = some (.bool b)) (hx : pickV b (evO F x) (evO F y) = some v) : Ev P cx n S L F (.pick c x y) ty v := by
  cases b
  · exact ev_pick_f hc hx
  · exact ev_pick_t hc hx
theorem ev_extract' {x : Operand} {i : Nat} {vs : List Value} {v : Value} (hx : evO F x = some (.tuple vs.toArray)) (hv : vs[i]? = some v) : Ev P cx n S L F (.extract x i) ty v := ev_extract hx (by simpa using hv)
theorem ev_field' {T : TypeId} {x : Operand} {i off : Nat} {ft : TypeId} [Fi P T i off ft] [Sc P ft] {cs : List Value} {v : Value} (hx : evO F x = some (.agg cs.toArray)) (hv : cs[off]? = some v) : Ev P cx n S L F (.field T x i) ty v := ev_field hx (by simpa using hv)
theorem ev_fieldAddr' {T : TypeId} {x : Operand} {i off : Nat} {ft : TypeId} [Fi P T i off ft] {b o : Nat} (hx : evO F x = some (.pointer (some ⟨b, o, none⟩))) : Ev P cx n S L F (.fieldAddr T x i) ty (.pointer (some ⟨b, o + off, none⟩)) := by
  have e : (⟨b, o, none⟩ : Addr).add off = ⟨b, o + off, none⟩ := by unfold Addr.add; split <;> simp_all
  rw [← e]; exact ev_fieldAddr hx
end
end Go.X
namespace Go.X
open Go Go.RowKit

/-- Q, but at a panic it may not hang on the temporaries. -/
def SP (Q : Exit → Act → World → Prop) : Exit → Act → World → Prop
  | .panic c, a, w => ∀ t : Array Value, t.size = a.tmps.size → Q (.panic c) { a with tmps := t } w
  | e, a, w => Q e a w
theorem SP.put {Q : Exit → Act → World → Prop} {c : List PanicEntry} {a : Act} {d : Option Nat} {v : Value} {w : World} (h : SP Q (.panic c) (a.put d v) w) : SP Q (.panic c) a w := fun t ht => by
  cases d with
  | none => exact h t ht
  | some d => exact h t (by simp [Act.put, ht])
theorem SP.imp {Q : Exit → Act → World → Prop} : ∀ (e : Exit) (a : Act) (w : World), SP Q e a w → Q e a w := fun e a w h => by
  cases e <;> first | exact h | exact h _ rfl
theorem sp_region {P : Program} {id : Nat} {ops : Array Oper} {b : Bool} {Q : Exit → Act → World → Prop} {a : Act} {w : World} (h : (Code.region id ops b).wp P (SP Q) a w) : (Code.region id ops b).wp P Q a w :=
  Code.wp_mono SP.imp h

/-- The state seen through less: fewer own blocks, less that is stable. -/
theorem St.less {cx : Cx} {S S0 : SH} {L L0 : Blocks} {w : World} (h : St cx S L w) (hS : Le S0 S) (h0 : Le cx.S0 S0) (hL : L0.Sublist L) : St cx S0 L0 w := by
  have hw := h.weaken hL
  refine { hw with stable := fun b o hb => h.stable b o (hS b o hb), sep := fun p hp => ?_, grow := fun b => ?_, le := h0 }
  · cases hs : S0 p.1 with
    | none => rfl
    | some o => rw [← hS _ _ hs]; exact hw.sep p hp
  · rcases h.grow b with e | e
    · left
      cases hs : S0 b with
      | none =>
        cases hc : cx.S0 b with
        | none => rfl
        | some o => rw [h0 _ _ hc] at hs; cases hs
      | some o => rw [← e, hS _ _ hs]
    · exact .inr e

section
variable {P : Program} {cx : Cx} {n : Nat} {S S0 : SH} {L L0 : Blocks} {F : Slots} {ops : Array Oper} {Q : Exit → Act → World → Prop} {d : Nat} {ty : TypeId} {pos : String} {af : Array Edge} {g : Option (Nat × Bool)} {fuel : Nat} {listed : Array Bool}

/-- Whatever order is picked from here on; S0, L0 stay as they are. -/
def Wh (P : Program) (cx : Cx) (n : Nat) (S0 : SH) (L0 : Blocks) (ops : Array Oper) (Q : Exit → Act → World → Prop) (fuel : Nat) (listed : Array Bool) (S : SH) (L : Blocks) (F : Slots) : Prop :=
  Le S0 S → Le cx.S0 S0 → L0.Sublist L → ∀ a w, Fm n a F → St cx S L w → wpAnyH P .any ops (SP Q) (St cx S0 L0) fuel listed a w
/-- Operation i comes up next. -/
def Wn (P : Program) (cx : Cx) (n : Nat) (S0 : SH) (L0 : Blocks) (ops : Array Oper) (Q : Exit → Act → World → Prop) (fuel : Nat) (listed : Array Bool) (i : Nat) (S : SH) (L : Blocks) (F : Slots) : Prop :=
  Le S0 S → Le cx.S0 S0 → L0.Sublist L → ∀ a w, Fm n a F → St cx S L w → wpOp P ops (SP Q) i (fun a' w' => St cx S0 L0 w' ∧ wpAnyH P .any ops (SP Q) (St cx S0 L0) fuel (listed.setIfInBounds i true) a' w') a w

theorem c_held [hm : Mx P] {id : Nat} {l : List Oper} (L0 : Blocks) (hL : L0.Sublist L) (k : Wh P cx n S L0 l.toArray Q l.length (List.replicate l.length false).toArray S L F) :
    W cx n S L F ((Code.region id l.toArray true).wpIn (Fr none) 0 P Q) := by
  intro a w hf hs
  refine (wpIn_wide (n := 0)).2 (sp_region (wp_region_any hm.h (wpAny_of_held (S := St cx S L0) _ _ _ _ ?_)))
  have := k (Le.refl _) hs.le hL a _ hf hs.drew
  rw [List.size_toArray, show Array.replicate l.length false = (List.replicate l.length false).toArray from by simp]
  exact this

theorem h_end (hr : Region.ready .any ops listed = []) (k : W cx n S L F (Q .normal)) : Wh P cx n S0 L0 ops Q fuel listed S L F := by
  intro _ _ _ a w hf hs
  cases fuel with
  | zero => exact ⟨hr, k a w hf hs⟩
  | succ fuel => exact ⟨fun _ => k a w hf hs, fun i hi => by rw [hr] at hi; cases hi⟩

theorem h_first (i : Nat) {op : Op} {v : Value} (hi : ops[i]? = some ⟨some d, op, ty, pos, af, g⟩) (hr : (Region.ready .any ops listed).contains i = true) (hfr : Region.free .any ops listed i = true) (hsel : Region.noSelect ops = true)
    (hg : want ops F g = some true) (hd : Nat.blt d n = true) (he : Ev P cx n S0 L0 F op ty v) (k : Wh P cx n S0 L0 ops Q fuel (listed.setIfInBounds i true) S L ((d, v) :: F)) : Wh P cx n S0 L0 ops Q (fuel + 1) listed S L F := by
  intro h1 h2 h3 a w hf hs
  refine wpAnyH_first hi (Region.noSelect_spec hsel) (fun _ _ _ h => SP.put h) fuel listed a w (Region.free_spec hi hfr) (by simpa using hr) (.inl ⟨wanted_of (o := ⟨some d, op, ty, pos, af, g⟩) hf hg, fun w' hw' => he a w' hf hw' _ rfl rfl⟩) (hs.less h1 h2 h3) ?_
  exact k h1 h2 h3 _ w (hf.put v hd) hs

theorem h_one (i : Nat) (hr : Region.ready .any ops listed = [i]) (k : Wn P cx n S0 L0 ops Q fuel listed i S L F) : Wh P cx n S0 L0 ops Q (fuel + 1) listed S L F := by
  intro h1 h2 h3 a w hf hs
  refine ⟨fun h => (by rw [hr] at h; cases h), fun j hj => ?_⟩
  rw [hr] at hj
  simp only [List.mem_singleton] at hj
  subst hj
  exact k h1 h2 h3 a w hf hs
theorem h_two (i j : Nat) (hr : Region.ready .any ops listed = [i, j]) (k1 : Wn P cx n S0 L0 ops Q fuel listed i S L F) (k2 : Wn P cx n S0 L0 ops Q fuel listed j S L F) : Wh P cx n S0 L0 ops Q (fuel + 1) listed S L F := by
  intro h1 h2 h3 a w hf hs
  refine ⟨fun h => (by rw [hr] at h; cases h), fun m hm => ?_⟩
  rw [hr] at hm
  simp only [List.mem_cons, List.not_mem_nil, or_false] at hm
  rcases hm with rfl | rfl
  · exact k1 h1 h2 h3 a w hf hs
  · exact k2 h1 h2 h3 a w hf hs
theorem h_skip (i : Nat) {op : Op} {d : Nat} {g : Nat × Bool} (hi : ops[i]? = some ⟨some d, op, ty, pos, af, some g⟩) (hr : (Region.ready .any ops listed).contains i = true) (hfr : Region.free .any ops listed i = true) (hsel : Region.noSelect ops = true)
    (hg : want ops F (some g) = some false) (hd : Nat.blt d n = true) (k : Wh P cx n S0 L0 ops Q fuel (listed.setIfInBounds i true) S L ((d, undef) :: F)) : Wh P cx n S0 L0 ops Q (fuel + 1) listed S L F := by
  intro h1 h2 h3 a w hf hs
  exact wpAnyH_first (v := undef) hi (Region.noSelect_spec hsel) (fun _ _ _ h => SP.put h) fuel listed a w (Region.free_spec hi hfr) (by simpa using hr) (.inr ⟨wanted_of (o := ⟨some d, op, ty, pos, af, some g⟩) hf hg, rfl⟩) (hs.less h1 h2 h3) (k h1 h2 h3 _ w (hf.put undef hd) hs)

theorem wpOp_at {i : Nat} {o : Oper} {K : Act → World → Prop} {a : Act} {w : World} (hi : ops[i]? = some o) (hw : Region.wanted o (yielded ops a.tmps) = true) (h : o.upon P a K (SP Q) ((execOp a.eval o).run P w)) : wpOp P ops (SP Q) i K a w := by
  unfold wpOp
  simp only [hi, hw, if_true]
  exact .inl h

/-- It yields a value and turns the world. -/
theorem n_val {i : Nat} {op : Op} (hi : ops[i]? = some ⟨some d, op, ty, pos, af, g⟩) (hg : want ops F g = some true) (hd : Nat.blt d n = true)
    (he : ∀ a w, Fm n a F → St cx S L w → ∀ o : Oper, o.op = op → o.type = ty → ∃ S' L' v w', (execOp a.eval o).run P w = .ok (.value v) w' ∧ St cx S' L' w' ∧ Le S S' ∧ (L0.Sublist L → L0.Sublist L') ∧ Wh P cx n S0 L0 ops Q fuel (listed.setIfInBounds i true) S' L' ((d, v) :: F)) :
    Wn P cx n S0 L0 ops Q fuel listed i S L F := by
  intro h1 h2 h3 a w hf hs
  obtain ⟨S', L', v, w', hr, hs', hle, hsub, hk⟩ := he a w hf hs ⟨some d, op, ty, pos, af, g⟩ rfl rfl
  refine wpOp_at hi (wanted_of (o := ⟨some d, op, ty, pos, af, g⟩) hf hg) ?_
  rw [hr]
  exact ⟨hs'.less (h1.trans hle) h2 (hsub h3), hk (h1.trans hle) h2 (hsub h3) _ _ (hf.put v hd) hs'⟩

theorem n_alloc {i : Nat} {T : TypeId} {zc : List Value} (hi : ops[i]? = some ⟨some d, .alloc T, ty, pos, af, g⟩) (i1 : Zc P T zc) (hg : want ops F g = some true) (hd : Nat.blt d n = true)
    (k : ∀ b, Wh P cx n S0 L0 ops Q fuel (listed.setIfInBounds i true) S ((b, .cells zc.toArray T (0, 0)) :: L) ((d, .pointer (some ⟨b, 0, none⟩)) :: F)) : Wn P cx n S0 L0 ops Q fuel listed i S L F :=
  n_val hi hg hd fun a w _ hs o ho _ => by
    obtain ⟨z, hz1, hz2⟩ := i1.zero
    exact ⟨_, _, _, _, by simp [execOp, ho, Instr.alloc, run_zeroValue hz1, newVar, newRow, hz2], hs.alloc _, Le.refl _, fun h => h.cons _, k _⟩

theorem n_buildSlice {i : Nat} {T e : TypeId} {sz : Nat} {z : Value} {m : Nat} {parts : Array (Nat × Operand)} {pv : List (Nat × Value)} {vs : List Value} (hi : ops[i]? = some ⟨some d, .buildSlice T m parts, ty, pos, af, g⟩) (i1 : Sli P T e) (i2 : Sz P e sz) (i3 : Zr P e z) (hg : want ops F g = some true) (hd : Nat.blt d n = true)
    (hp : evParts F parts.toList = some pv) (hq : seqVals 0 pv = some vs) (hm : Nat.beq vs.length m = true) (hv : vs.all (fun v => Nat.beq v.cells.size sz) = true) (hl : Nat.ble (m * sz) 16777216 = true)
    (k : ∀ b, Wh P cx n S0 L0 ops Q fuel (listed.setIfInBounds i true) S ((b, .cells (vs.flatMap (·.cells.toList)).toArray e (0, 0)) :: L) ((d, .slice (some ⟨b, 0, none⟩) m m) :: F)) : Wn P cx n S0 L0 ops Q fuel listed i S L F :=
  n_val hi hg hd fun a w hf hst o ho _ => by
    have h := evParts_map hf _ _ hp
    have hm' : vs.length = m := Nat.eq_of_beq_eq_true hm
    have e' : (parts.map fun (i, x) => (i, a.eval x)) = (seqFrom 0 vs).toArray := by
      apply Array.ext'
      rw [← seqVals_eq _ _ _ hq, ← h]; simp
    have hr := run_buildSlice (P := P) i1.h i2.size i3.zero vs (fun v hvm => Nat.eq_of_beq_eq_true (List.all_eq_true.1 hv v hvm)) (by rw [hm']; exact Nat.le_of_ble_eq_true hl) w
    rw [hm'] at hr
    refine ⟨_, _, _, _, ?_, hst.alloc _, Le.refl _, fun h => h.cons _, k _⟩
    simp only [execOp, ho, e', Sem.run_bind, hr, Result.andThen_ok, Sem.run_pure]

theorem n_call {i : Nat} {f : FuncId} {args : Array Operand} {ts : Array TypeId} {vs : List Value} {L1 L2 : Blocks} {R : SH → Blocks → Value → Prop} (hi : ops[i]? = some ⟨some d, .call ⟨.value (.func f), args, ts⟩, ty, pos, af, g⟩) (i1 : Fun P f) (hg : want ops F g = some true) (hd : Nat.blt d n = true) (ha : evArgs F args.toList = some vs) (hL : L.Perm (L1 ++ L2))
    (hc : Con P f vs.toArray S L1 R) (hsub : ∀ L1', L0.Sublist L → L0.Sublist (L1' ++ L2)) (k : ∀ S' L1' v, Le S S' → R S' L1' v → Wh P cx n S0 L0 ops Q fuel (listed.setIfInBounds i true) S' (L1' ++ L2) ((d, v) :: F)) : Wn P cx n S0 L0 ops Q fuel listed i S L F := by
  intro h1 h2 h3 a w hf hs0
  have hs := hs0.perm hL
  have hargs : args.map a.eval = vs.toArray := by
    apply Array.ext'; simp [← evArgs_map hf _ _ ha]
  have hrun : (execOp a.eval ⟨some d, .call ⟨.value (.func f), args, ts⟩, ty, pos, af, g⟩).run P w = .ok (.enter f vs.toArray) w := by
    simp [execOp, resolve, Act.eval, Deferred.ofValue, invoke, i1.h, hargs]
  refine wpOp_at hi (wanted_of (o := ⟨some d, .call ⟨.value (.func f), args, ts⟩, ty, pos, af, g⟩) hf hg) ?_
  rw [hrun, Oper.upon_enter]
  refine (hc w hs.sub).mono ?_
  rintro e w' ⟨v, S', L', rfl, hR, hs'⟩
  have hb := hs.back hs'
  exact ⟨hb.less (h1.trans hs'.le) h2 (hsub _ h3), k S' L' v hs'.le hR (h1.trans hs'.le) h2 (hsub _ h3) _ _ (hf.put v hd) hb⟩

theorem n_store_ag {i : Nat} {T : TypeId} {sz : Nat} {x y : Operand} {b : Nat} {cs vs : List Value} {T' : TypeId} {L' : Blocks} (hi : ops[i]? = some ⟨none, .store T x y, ty, pos, af, g⟩) (i1 : Ag P T sz) (hg : want ops F g = some true) (hx : evO F x = some (.pointer (some ⟨b, 0, none⟩))) (hy : evO F y = some (.agg vs.toArray)) (h1 : vs.all (·.oneCell') = true) (hv : vs.length = sz)
    (hL : Upd L b (.cells cs.toArray T' (0, 0)) (.cells vs.toArray T' (0, 0)) L') (hu : cs.length = sz) (hsub : L0.Sublist L → L0.Sublist L') (k : Wh P cx n S0 L0 ops Q fuel (listed.setIfInBounds i true) S L' F) : Wn P cx n S0 L0 ops Q fuel listed i S L F := by
  intro q1 q2 q3 a w hf hs
  obtain ⟨j, hj, rfl⟩ := hL.at_
  have hb := hs.own _ (List.mem_of_getElem? hj)
  simp only at hb
  have hr := run_storeVar_row (P := P) w b T' T cs.toArray vs.toArray hb (by rw [i1.size]; simp [hv]) (by simp [hu, hv]) (by simpa using h1)
  have hs' : St cx S (L.set j (b, .cells vs.toArray T' (0, 0))) (w.setRow b vs.toArray) := hs.set hj (by simp [World.setRow]) rfl rfl rfl (by simp [World.setRow, Array.getElem?_modify, hb]) (fun c hc => by simp [World.setRow, Array.getElem?_modify, Ne.symm hc])
  refine wpOp_at hi (wanted_of (o := ⟨none, .store T x y, ty, pos, af, g⟩) hf hg) ?_
  rw [show (execOp a.eval ⟨none, .store T x y, ty, pos, af, g⟩).run P w = .ok .skip (w.setRow b vs.toArray) by simp [execOp, hf.ev hx, hf.ev hy, Instr.storeAt, Instr.sureAddr, hr]]
  exact ⟨hs'.less q1 q2 (hsub q3), k q1 q2 (hsub q3) _ _ hf hs'⟩
theorem n_store {i : Nat} {T : TypeId} {x y : Operand} {b o : Nat} {cs : List Value} {T' : TypeId} {v u : Value} {L' : Blocks} (hi : ops[i]? = some ⟨none, .store T x y, ty, pos, af, g⟩) (i1 : Sc P T) (hg : want ops F g = some true) (hx : evO F x = some (.pointer (some ⟨b, o, none⟩))) (hy : evO F y = some v) (h1 : v.oneCell' = true)
    (hL : Upd L b (.cells cs.toArray T' (0, 0)) (.cells (cs.set o v).toArray T' (0, 0)) L') (hu : cs[o]? = some u) (hsub : L0.Sublist L → L0.Sublist L') (k : Wh P cx n S0 L0 ops Q fuel (listed.setIfInBounds i true) S L' F) : Wn P cx n S0 L0 ops Q fuel listed i S L F := by
  intro q1 q2 q3 a w hf hs
  obtain ⟨j, hj, rfl⟩ := hL.at_
  have hb := hs.own _ (List.mem_of_getElem? hj)
  simp only at hb
  have hcell : w.cell? ⟨b, o, none⟩ = some u := by rw [own_cell hs (List.mem_of_getElem? hj)]; simpa using hu
  have hfz : w.frozen? ⟨b, o, none⟩ = false := by simp [World.frozen?, hb]
  have hvs : v.cells.size = 1 := by cases v <;> first | rfl | simp [Value.oneCell'] at h1
  have hs' : St cx S (L.set j (b, .cells (cs.set o v).toArray T' (0, 0))) (w.setCell ⟨b, o, none⟩ v) := hs.set hj (by simp [World.setCell]) rfl rfl rfl (by simp [World.setCell, Array.getElem?_modify, hb]) (fun c hc => Below.heap_setCell w ⟨b, o, none⟩ v c hc)
  refine wpOp_at hi (wanted_of (o := ⟨none, .store T x y, ty, pos, af, g⟩) hf hg) ?_
  rw [show (execOp a.eval ⟨none, .store T x y, ty, pos, af, g⟩).run P w = .ok .skip (w.setCell ⟨b, o, none⟩ v) by simp [execOp, hf.ev hx, hf.ev hy, Instr.storeAt, Instr.sureAddr, run_storeVar_sc h1 hvs hcell hfz]]
  exact ⟨hs'.less q1 q2 (hsub q3), k q1 q2 (hsub q3) _ _ hf hs'⟩
end
end Go.X
namespace Go.X
open Go Go.RowKit Go.Sort

theorem grownBy_sorted {α : Type} [Inhabited α] (enc : α → Value) (w : World) (g n : Nat) (d : Array α) (os : Array Obj) : w.grownBy (grow (putRow enc (Sort.ahead w n) g 0 d) os) (some g) := by
  refine ⟨rfl, rfl, rfl, by simp [grow, putRow, mapBlock, Sort.ahead], fun k hk hne => ?_⟩
  have hk' : k < (putRow enc (Sort.ahead w n) g 0 d).heap.size := by simpa [putRow, mapBlock, Sort.ahead] using hk
  rw [heap_grow_old _ _ hk']
  simp [putRow, mapBlock, Sort.ahead, Array.getElem?_modify, show g ≠ k from fun e => hne (by rw [e])]
theorem ownsRow_grow {w : World} {os : Array Obj} {base : Nat} {e : TypeId} {size : Nat} {v : Value} {n : Nat} {xs : List Value} (h : w.ownsRow base e size v n xs) : (grow w os).ownsRow base e size v n xs := by
  refine ⟨h.1, h.2.imp id ?_⟩
  rintro ⟨g, cap, cur, e1, e2, e3, e4⟩
  exact ⟨g, cap, cur, e1, e2, (heap_grow_old w os (heap_lt e3)).trans e3, e4⟩

section
variable {P : Program} {f : FuncId} {e : TypeId} {v : Value} {l : List Int} {ob : Blocks} {S : SH}

end
end Go.X
namespace Go.X
open Go Go.RowKit

section
variable {P : Program} {cx : Cx} {n : Nat} {S S0 : SH} {L L0 : Blocks} {F : Slots} {ops : Array Oper} {Q : Exit → Act → World → Prop} {d : Nat} {ty : TypeId} {pos : String} {af : Array Edge} {g : Option (Nat × Bool)} {fuel : Nat} {listed : Array Bool}

theorem h_three (i j m : Nat) (hr : Region.ready .any ops listed = [i, j, m]) (k1 : Wn P cx n S0 L0 ops Q fuel listed i S L F) (k2 : Wn P cx n S0 L0 ops Q fuel listed j S L F) (k3 : Wn P cx n S0 L0 ops Q fuel listed m S L F) : Wh P cx n S0 L0 ops Q (fuel + 1) listed S L F := by
  intro h1 h2 h3 a w hf hs
  refine ⟨fun h => (by rw [hr] at h; cases h), fun q hq => ?_⟩
  rw [hr] at hq
  simp only [List.mem_cons, List.not_mem_nil, or_false] at hq
  rcases hq with rfl | rfl | rfl
  · exact k1 h1 h2 h3 a w hf hs
  · exact k2 h1 h2 h3 a w hf hs
  · exact k3 h1 h2 h3 a w hf hs

/-- It yields a value and leaves the world alone. -/
theorem n_ev {i : Nat} {op : Op} {v : Value} (hi : ops[i]? = some ⟨some d, op, ty, pos, af, g⟩) (hg : want ops F g = some true) (hd : Nat.blt d n = true) (he : Ev P cx n S L F op ty v)
    (k : Wh P cx n S0 L0 ops Q fuel (listed.setIfInBounds i true) S L ((d, v) :: F)) : Wn P cx n S0 L0 ops Q fuel listed i S L F :=
  n_val hi hg hd fun a w hf hs o ho ht => ⟨S, L, v, w, he a w hf hs o ho ht, hs, Le.refl _, id, k⟩
theorem n_skip {i : Nat} {op : Op} {gd : Nat × Bool} (hi : ops[i]? = some ⟨some d, op, ty, pos, af, some gd⟩) (hg : want ops F (some gd) = some false) (hd : Nat.blt d n = true)
    (k : Wh P cx n S0 L0 ops Q fuel (listed.setIfInBounds i true) S L ((d, undef) :: F)) : Wn P cx n S0 L0 ops Q fuel listed i S L F := by
  intro h1 h2 h3 a w hf hs
  unfold wpOp
  simp only [hi]
  rw [wanted_of (o := ⟨some d, op, ty, pos, af, some gd⟩) hf hg]
  simp only [Bool.false_eq_true, if_false]
  exact ⟨hs.less h1 h2 h3, k h1 h2 h3 _ _ (hf.put undef hd) hs⟩

theorem h_idx {α : Type} [Cl α] {T e : TypeId} {x ix : Operand} {A : Option Addr} {m c j : Nat} {kd : IntKind} {l : List α} {u : α} (hl : At S0 A l) (i : Nat) (hi : ops[i]? = some ⟨some d, .indexAddr T x ix, ty, pos, af, g⟩) (i1 : Sli P T e) (i2 : Sz P e (Cl.size α)) (hr : (Region.ready .any ops listed).contains i = true) (hfr : Region.free .any ops listed i = true) (hsel : Region.noSelect ops = true)
    (hg : want ops F g = some true) (hd : Nat.blt d n = true) (hx : evO F x = some (.slice A m c)) (hy : evO F ix = some (.int kd j)) (hm : m = l.length) (hu : l[j]? = some u)
    (k : ∀ p, Pts S0 p (Cl.cells u) → Wh P cx n S0 L0 ops Q fuel (listed.setIfInBounds i true) S L ((d, .pointer (some p)) :: F)) : Wh P cx n S0 L0 ops Q (fuel + 1) listed S L F := by
  obtain ⟨p, rfl, hp⟩ := hl.elem hu
  exact h_first i hi hr hfr hsel hg hd (ev_indexAddr hx hy (by rw [hm]; exact (List.getElem?_eq_some_iff.1 hu).1)) (k _ hp)

theorem n_append {α : Type} [Cl α] {i : Nat} {T e : TypeId} {by_ : Nat} {z : Value} {x y : Operand} {v : Value} {l ms : List α} {ob L1 : Blocks} {p : Addr} {m c : Nat} (hi : ops[i]? = some ⟨some d, .call ⟨.builtin .append, #[x, y], #[T, T]⟩, ty, pos, af, g⟩) (hT : Sli P T e) (hsz : Sz P e (Cl.size α)) (hz : Zr P e z) (hby : By P e by_) (hg : want ops F g = some true) (hd : Nat.blt d n = true)
    (hx : evO F x = some v) (ho : Ows e v l ob) (hL : L.Perm (ob ++ L1)) (hy : evO F y = some (.slice (some p) m c)) (hm : m = ms.length) (hs : Src cx S L p (cellsOf ms)) (hzs : Nat.beq z.cells.size (Cl.size α) = true) (h0 : 0 < Cl.size α) (hb : (l.length + ms.length) * by_ ≤ 140737488355328) (h63 : l.length + ms.length ≤ 1000000000000)
    (hsub : ∀ ob', L0.Sublist L → L0.Sublist (ob' ++ L1))
    (k : ∀ v' ob', Ows e v' (l ++ ms) ob' → Wh P cx n S0 L0 ops Q fuel (listed.setIfInBounds i true) S (ob' ++ L1) ((d, v') :: F)) : Wn P cx n S0 L0 ops Q fuel listed i S L F :=
  n_val hi hg hd fun a w hf hst o hop hty => by
    subst hm
    have hst' := hst.perm hL
    obtain ⟨v', w', h1, h2, h3, h4⟩ := run_append (ty := ty) hT.h hsz.size hz.zero hby.bytes (Nat.eq_of_beq_eq_true hzs) h0 rfl (ho.row hst') (c := c) (hs w hst) hb (by simp only [maxLen]; omega)
    obtain ⟨ob', ho', hob', hn⟩ := ows_of_row h2
    refine ⟨S, ob' ++ L1, v', w', by simp [execOp, hop, resolve, invoke, builtin, hf.ev hx, hf.ev hy, hty, h1], ?_, Le.refl _, hsub ob', k _ _ ho'⟩
    refine hst'.grown (run_drawn _ _ h1) h3 ?_ ?_ hn
    · intro r hr
      rcases ho with ⟨rfl, _, _⟩ | ⟨g', cap, cur, rfl, rfl, _⟩
      · simp [Value.ownBlock] at hr
      · simp only [Value.ownBlock, Option.some.injEq] at hr; subst hr; exact ⟨_, List.mem_cons_self⟩
    · intro q hq
      obtain ⟨e1, e2⟩ := hob' q hq
      refine ⟨e1, ?_⟩
      rcases h4 with h4 | h4
      · exact .inl (h4 ▸ e2)
      · rw [h4] at e2; simp at e2; exact .inr (by omega)
theorem n_box {i : Nat} {T : TypeId} {x : Operand} {v : Value} (hi : ops[i]? = some ⟨some d, .box T x, ty, pos, af, g⟩) (hg : want ops F g = some true) (hd : Nat.blt d n = true) (hx : evO F x = some v) (hc : v.oneCell' = true)
    (k : ∀ b, Wh P cx n S0 L0 ops Q fuel (listed.setIfInBounds i true) S ((b, .cells [v].toArray T (0, 0)) :: L) ((d, .pointer (some ⟨b, 0, none⟩)) :: F)) : Wn P cx n S0 L0 ops Q fuel listed i S L F :=
  n_val hi hg hd fun a w hf hs o ho _ => ⟨_, _, _, _, by
    have e : v.cells = [v].toArray := by cases v <;> first | rfl | simp [Value.oneCell'] at hc
    simp [execOp, ho, Instr.box, newVar, newRow, hf.ev hx, e], hs.alloc _, Le.refl _, fun h => h.cons _, k _⟩
theorem n_box_ag {i : Nat} {T : TypeId} {x : Operand} {cs : List Value} (hi : ops[i]? = some ⟨some d, .box T x, ty, pos, af, g⟩) (hg : want ops F g = some true) (hd : Nat.blt d n = true) (hx : evO F x = some (.agg cs.toArray))
    (k : ∀ b, Wh P cx n S0 L0 ops Q fuel (listed.setIfInBounds i true) S ((b, .cells cs.toArray T (0, 0)) :: L) ((d, .pointer (some ⟨b, 0, none⟩)) :: F)) : Wn P cx n S0 L0 ops Q fuel listed i S L F :=
  n_val hi hg hd fun a w hf hs o ho _ => ⟨_, _, _, _, by simp [execOp, ho, Instr.box, newVar, newRow, hf.ev hx, Value.cells], hs.alloc _, Le.refl _, fun h => h.cons _, k _⟩
end

/-! ### A fixed place in an array -/
section
variable {P : Program} {cx : Cx} {n : Nat} {S : SH} {L : Blocks} {F : Slots} {ro : Option Nat} {ops : Array Oper} {Q : Exit → Act → World → Prop} {rest : List Oper} {d : Nat} {ty : TypeId} {pos : String} {af : Array Edge} {g : Option (Nat × Bool)}
theorem ev_idxc {T e : TypeId} {N : Nat} [hT : Arr P T N e] [hE : Sz P e 1] {x i : Operand} {p : Addr} {j : Nat} {kd : IntKind} (hx : evO F x = some (.pointer (some p))) (hi : evO F i = some (.int kd j)) (hk : j < N) : Ev P cx n S L F (.indexAddr T x i) ty (.pointer (some (p.add j))) := by
  have := ev_indexAddr_a (P := P) (cx := cx) (n := n) (S := S) (L := L) (T := T) (ty := ty) hx hi hk
  rwa [Nat.mul_one] at this
theorem s_idxc {T e : TypeId} {N : Nat} [hT : Arr P T N e] [hE : Sz P e 1] {x i : Operand} {p : Addr} {j : Nat} {kd : IntKind} (hg : want ops F g = some true) (hd : Nat.blt d n = true) (hx : evO F x = some (.pointer (some p))) (hi : evO F i = some (.int kd j)) (hk : j < N) (k : W cx n S L ((d, .pointer (some (p.add j))) :: F) (wpListIn (Fr ro) 0 P ops Q rest)) :
    W cx n S L F (wpListIn (Fr ro) 0 P ops Q (⟨some d, .indexAddr T x i, ty, pos, af, g⟩ :: rest)) := s_ev (ev_idxc hx hi hk) hg rfl hd k
/-- The ways meet behind x. -/
theorem c_meet {x : Code} {K : Act → World → Prop} (J : SH → Blocks → Slots → Prop) (k1 : W cx n S L F (x.wpIn (Fr ro) 0 P (Exit.then (fun a w => ∃ S' L' F', J S' L' F' ∧ Fm n a F' ∧ St cx S' L' w) Q)))
    (k2 : ∀ S L F, J S L F → W cx n S L F K) : W cx n S L F (x.wpIn (Fr ro) 0 P (Exit.then K Q)) := by
  intro a w hf hs
  refine Go.wpIn_mono (k1 a w hf hs) fun e a' w' hq => ?_
  cases e with
  | normal => obtain ⟨S', L', F', hJ, hf', hs'⟩ := hq; exact k2 _ _ _ hJ _ _ hf' hs'
  | _ => exact hq
theorem bv_tdiv {i j : Int} (h : 0 < j ∧ -9223372036854775808 ≤ i ∧ i ≤ 9223372036854775807) : BinV P .quo .i64 i j (.int .i64 (i.tdiv j)) := fun T w => by
  have hb : -9223372036854775808 ≤ i.tdiv j ∧ i.tdiv j ≤ 9223372036854775807 := by
    rcases Int.le_total 0 i with h0 | h0
    · rw [Int.tdiv_eq_ediv_of_nonneg h0]
      have h2 : 0 ≤ i / j := Int.ediv_nonneg h0 (by omega)
      have h3 : i / j ≤ i := Int.ediv_le_self _ h0
      omega
    · have h1 : i.tdiv j = -((-i) / j) := by rw [← Int.tdiv_eq_ediv_of_nonneg (by omega), Int.neg_tdiv, Int.neg_neg]
      have h2 : 0 ≤ (-i) / j := Int.ediv_nonneg (by omega) (by omega)
      have h3 : (-i) / j ≤ -i := Int.ediv_le_self _ (by omega)
      omega
  simp [binOp, Op.intDiv, show j ≠ 0 by omega, IntWalk.i64_in _ hb]
end
end Go.X
namespace Go.X
open Go Go.RowKit

/-- The record of a loop over a function. -/
def rec0 (fn : FuncId) (tmps : Array Value) (ps : Array Tmp) (assign body : Code) (r : Nat) (st : LoopState) (pd : Option Code) : Obj := .loop { state := st, pending := pd, fn, tmps, params := ps, assign, body, defers := r }

section
variable {P : Program} {cx : Cx} {n : Nat} {S : SH} {L : Blocks} {F : Slots} {ro : Option Nat} {ops : Array Oper} {Q : Exit → Act → World → Prop} {rest : List Oper} {d : Nat} {ty : TypeId} {pos : String} {af : Array Edge} {g : Option (Nat × Bool)}

theorem s_makeFunc {fn : Fn} {fs cs : Array Operand} {v1 v2 : List Value} (hg : want ops F g = some true) (hd : Nat.blt d n = true) (h1 : evArgs F fs.toList = some v1) (h2 : evArgs F cs.toList = some v2)
    (k : W cx n S L ((d, .func fn v1.toArray v2.toArray) :: F) (wpListIn (Fr ro) 0 P ops Q rest)) :
    W cx n S L F (wpListIn (Fr ro) 0 P ops Q (⟨some d, .makeFunc fn fs cs, ty, pos, af, g⟩ :: rest)) :=
  s_ev (fun a w hf hs o ho _ => by
    have e1 : fs.map a.eval = v1.toArray := by apply Array.ext'; simp [← evArgs_map hf _ _ h1]
    have e2 : cs.map a.eval = v2.toArray := by apply Array.ext'; simp [← evArgs_map hf _ _ h2]
    simp [execOp, ho, Instr.makeFunc, e1, e2]) hg rfl hd k

theorem St.put {w : World} (h : St cx S L w) {i b : Nat} {o o' : Obj} (hi : L[i]? = some (b, o)) : St cx S (L.set i (b, o')) (w.putObj b o') := by
  have hb := h.own _ (List.mem_of_getElem? hi)
  exact h.set hi (by simp) rfl rfl rfl (World.putObj_heap_same (heap_lt hb)) (fun c hc => World.putObj_heap_other hc)

/-- What a round does: from the blocks L to L', some more being stable. -/
def Rd (P : Program) (l : Nat) (fn : FuncId) (tmps : Array Value) (assign body : Code) (S : SH) (L : Blocks) (S' : SH) (L' : Blocks) (b : Bool) : Prop :=
  Le S S' ∧ ∀ w, St ⟨w, S, L.map (·.1)⟩ S L w → RoundIn (Fr none) 0 P l fn tmps assign body w fun e w' => e = .returned (.bool b) ∧ St ⟨w, S, L.map (·.1)⟩ S' L' w'


theorem c_rangeFunc {gx : Operand} {f : FuncId} [hfun : Fun P f] {caps : List Value} {ps : Array Tmp} {assign body : Code} (hk : get F kM = none) (hgx : evO F gx = some (.func (.func f) #[] caps.toArray))
    (h : ∀ r l fn tmps, (Fm n { tmps := tmps, defers := [] } F) → ∃ L1 L2 R, ((l, rec0 fn tmps ps assign body r .ready none) :: (r, .deferred (some [])) :: L).Perm (L1 ++ L2) ∧
      Con P f (Value.func (.yield l) #[] #[] :: caps).toArray S L1 R ∧
      ∀ S' L1' v, Le S S' → R S' L1' v → ∃ st pd L3, (L1' ++ L2).Perm ((l, rec0 fn tmps ps assign body r st pd) :: L3) ∧ st ≠ .busy ∧
        W cx n S' L3 ((kM, .map (some r)) :: F) (match pd with | none => Q .normal | some c => c.wpIn (Fr none) 0 P Q)) :
    W cx n S L F ((Code.rangeFunc gx ps assign body).wpIn (Fr none) 0 P Q) := by
  intro a w hf hs
  have hd0 : a.defers = [] := by rw [hf.defers]; simp [dfr, hk]
  refine wpIn_rangeFunc fun fn _ => ?_
  have hfm : Fm n { tmps := a.tmps, defers := [] } F := ⟨hf.size, hf.le, by simp [dfr, hk], hf.slot⟩
  have hs1 := hs.alloc (.deferred (some []))
  have hs2 := hs1.alloc (rec0 fn a.tmps ps assign body w.heap.size .ready none)
  have hsz : (w.alloc (.deferred (some []))).heap.size = w.heap.size + 1 := by simp
  rw [hsz] at hs2
  obtain ⟨L1, L2, R, hp, hc, hk2⟩ := h w.heap.size (w.heap.size + 1) fn a.tmps hfm
  let w2 : World := (w.alloc (.deferred (some []))).alloc (rec0 fn a.tmps ps assign body w.heap.size .ready none)
  refine ⟨w.heap.size + 1, [{ target := .collected w.heap.size, args := #[] }], w2, ⟨.fn (.func f) caps.toArray, #[.func (.yield (w.heap.size + 1)) #[] #[]]⟩, w2, f, (Value.func (.yield (w.heap.size + 1)) #[] #[] :: caps).toArray, w2, run_enterLoop_outer fn a.tmps ps assign body, ?_, fun _ _ => trivial, ?_, by simp, ?_⟩
  · have hq := hf.ev hgx
    simp [resolve, hq, Deferred.ofValue]
    rfl
  · simp [invoke, hfun.h]
  · have hs3 := hs2.perm hp
    refine ((callsIn_wide (n := 0)).2 (hc _ hs3.sub)).mono ?_
    rintro e w' ⟨v, S', L1', rfl, hR, hs'⟩
    obtain ⟨st, pd, L3, hp3, hst, hW⟩ := hk2 S' L1' v hs'.le hR
    have hb := (hs3.back hs').perm hp3
    have hrec := hb.own _ List.mem_cons_self
    refine ⟨pd, _, run_endLoop hrec hst, ?_⟩
    have hfin := (hb.put (i := 0) (o' := rec0 fn a.tmps ps assign body w.heap.size .exhausted pd) rfl).weaken (L' := L3) (by simp)
    have hfm' : Fm n { a with defers := [{ target := .collected w.heap.size, args := #[] }] ++ a.defers } ((kM, .map (some w.heap.size)) :: F) :=
      ⟨hf.size, hf.le, by simp [dfr, get, hd0], fun i v hv => by
        refine hf.slot i v ?_
        cases hb : Nat.beq i kM with
        | true => simp [geT, hb] at hv
        | false => simpa [geT, get, hb] using hv⟩
    have := hW _ _ hfm' hfin
    cases pd with
    | none => exact this
    | some c => exact this

theorem W.trim {G : Act → World → Prop} {F' : Slots} {L' : Blocks} (hF : Sub F' F) (hL : L'.Sublist L) (k : W cx n S L' F' G) : W cx n S L F G := fun a w hf hs => k a w (hf.sub hF) (hs.weaken hL)

theorem r_begin {l r : Nat} {fn : FuncId} {tmps : Array Value} {ps : Array Tmp} {assign body c : Code} {L1 : Blocks} {pd : Option Code} {K : Exit → Act → World → Prop} (k : W cx n S ((l, rec0 fn tmps ps assign body r .busy pd) :: L1) F (c.wpIn (Fr (some l)) 0 P K)) :
    W cx n S ((l, rec0 fn tmps ps assign body r .ready pd) :: L1) F (fun a w₁ => ∃ w₂, (Instr.beginRound l).run P w₁ = .ok () w₂ ∧ c.wpIn (Fr (some l)) 0 P K a w₂) := by
  intro a w hf hs
  have hrec := hs.own _ List.mem_cons_self
  exact ⟨_, run_beginRound hrec rfl, k _ _ hf (hs.put (i := 0) (o' := rec0 fn tmps ps assign body r .busy pd) rfl)⟩
theorem r_end {l r : Nat} {fn : FuncId} {tmps : Array Value} {ps : Array Tmp} {assign body : Code} {L1 L' : Blocks} {pd : Option Code} {R : Ending → World → Prop} {st : LoopState} (hL : L'.Sublist L1)
    (k : ∀ w', St cx S ((l, rec0 fn tmps ps assign body r .ready none) :: L') w' → R (.returned (.bool true)) w') :
    W cx n S ((l, rec0 fn tmps ps assign body r st pd) :: L1) F (roundPost P l R .normal) := by
  intro a w hf hs
  have hrec := hs.own _ List.mem_cons_self
  refine ⟨_, _, run_endRound none hrec, ?_⟩
  have := hs.put (i := 0) (o' := rec0 fn tmps ps assign body r .ready none) rfl
  exact k _ (St.weaken (L := (l, rec0 fn tmps ps assign body r .ready none) :: L1) this (hL.cons_cons _))
end
end Go.X
namespace Go.X
open Go Go.RowKit
class Ng (P : Program) (t : TypeId) : Prop where
  h : P.eqGuardType P.depth t = false
section
variable {P : Program} {cx : Cx} {n : Nat} {S : SH} {L : Blocks} {F : Slots} {ty : TypeId}
variable {ro : Option Nat} {ops : Array Oper} {Q : Exit → Act → World → Prop} {rest : List Oper} {d : Nat} {pos : String} {af : Array Edge} {g : Option (Nat × Bool)}
end
end Go.X
namespace Go.X
open Go Go.RowKit

class Mpt (P : Program) (t : TypeId) (k e : outParam TypeId) : Prop where
  h : P.underlying t = some (.map k e)
class Kyd (P : Program) (k : TypeId) : Prop where
  h : Maps.Keyed P k

/-- This block is a map with these entries, each key once. -/
def OwM (P : Program) (k : TypeId) (ent : List (Value × Value)) (o : Obj) : Prop := ∃ es clock, o = .map es clock ∧ es.toList.map (fun e => (e.key, e.val)) = ent ∧ (∀ e ∈ es.toList, ∃ l, keyOf P k e.key = some l) ∧ (ent.map (·.1)).Nodup
section
variable {P : Program} {cx : Cx} {n : Nat} {S : SH} {L : Blocks} {F : Slots} {ro : Option Nat} {ops : Array Oper} {Q : Exit → Act → World → Prop} {rest : List Oper} {d : Nat} {ty : TypeId} {pos : String} {af : Array Edge} {g : Option (Nat × Bool)}
theorem OwM.nil (k : TypeId) : OwM P k [] (.map #[] 0) := ⟨#[], 0, rfl, rfl, by simp, by simp⟩
theorem s_makeMap {T : TypeId} (hg : want ops F g = some true) (hd : Nat.blt d n = true) (k : ∀ b, W cx n S ((b, .map #[] 0) :: L) ((d, .map (some b)) :: F) (wpListIn (Fr ro) 0 P ops Q rest)) :
    W cx n S L F (wpListIn (Fr ro) 0 P ops Q (⟨some d, .makeMap T none, ty, pos, af, g⟩ :: rest)) :=
  s_val hg rfl hd fun a w _ hs o ho _ => ⟨_, _, _, _, by simp [execOp, ho, run_makeMap], hs.alloc _, k _⟩
end
end Go.X
namespace Go.X
open Go Go.RowKit

/-- A slice, as a cell. -/
structure SV where
  A : Option Addr
  n : Nat
  c : Nat
def SV.v (s : SV) : Value := .slice s.A s.n s.c
instance : Cl SV := ⟨1, fun s => [s.v], fun _ => rfl, fun _ u hu => by simp at hu; subst hu; rfl⟩

section
variable {α : Type} [Cl α] {e : TypeId} {v : Value} {l : List α} {ob : Blocks}
theorem Ows.open (h : Ows e v l ob) (h0 : 0 < l.length) : ∃ g cap cs, v = .slice (some ⟨g, 0, none⟩) l.length cap ∧ ob = [(g, .cells (List.toArray cs) e (0, 0))] ∧ l.length ≤ cap ∧ cap ≤ maxLen ∧ cs.length = cap * Cl.size α ∧ cs.take (l.length * Cl.size α) = cellsOf l := by
  rcases h with ⟨rfl, rfl, _⟩ | ⟨g, cap, cur, rfl, rfl, h1, h2, h3, h4⟩
  · simp at h0
  · exact ⟨g, cap, cur.toList, rfl, by simp, h1, h2, by simpa using h3, h4⟩
end

/-- The rows of a slice of slices, each the call's own. -/
def OwR (e : TypeId) (vs : List SV) (rows : List (List Int)) (obs : List Blocks) : Prop :=
  vs.length = rows.length ∧ obs.length = rows.length ∧ ∀ (i : Nat) (s : SV) (r : List Int) (ob : Blocks), vs[i]? = some s → rows[i]? = some r → obs[i]? = some ob → Ows e s.v r ob
theorem OwR.nil (e : TypeId) : OwR e [] [] [] := ⟨rfl, rfl, fun i s r ob h => by simp at h⟩
theorem OwR.snoc {e : TypeId} {vs : List SV} {rows : List (List Int)} {obs : List Blocks} (h : OwR e vs rows obs) {s : SV} {r : List Int} {ob : Blocks} (ho : Ows e s.v r ob) : OwR e (vs ++ [s]) (rows ++ [r]) (obs ++ [ob]) := by
  obtain ⟨h1, h2, h3⟩ := h
  refine ⟨by simp [h1], by simp [h2], fun i s' r' ob' a b c => ?_⟩
  rcases Nat.lt_or_ge i rows.length with hlt | hge
  · rw [List.getElem?_append_left (by omega)] at a b c
    exact h3 i s' r' ob' a b c
  · rw [List.getElem?_append_right (by omega)] at a b c
    have hi : i - rows.length = 0 := by
      rcases Nat.eq_zero_or_pos (i - rows.length) with h0 | h0
      · exact h0
      · rw [List.getElem?_eq_none (by simp; omega)] at b; cases b
    rw [show i - vs.length = 0 by omega] at a
    rw [hi] at b
    rw [show i - obs.length = 0 by omega] at c
    simp at a b c
    subst a b c
    exact ho
theorem OwR.set {e : TypeId} {vs : List SV} {rows : List (List Int)} {obs : List Blocks} (h : OwR e vs rows obs) {s : SV} {r : List Int} {ob : Blocks} (ho : Ows e s.v r ob) (k : Nat) : OwR e (vs.set k s) (rows.set k r) (obs.set k ob) := by
  obtain ⟨h1, h2, h3⟩ := h
  refine ⟨by simp [h1], by simp [h2], fun i s' r' ob' a b c => ?_⟩
  rw [List.getElem?_set] at a b c
  by_cases hik : k = i
  · subst hik
    simp only [if_true] at a b c
    split at a
    · split at b
      · split at c
        · simp at a b c; subst a b c; exact ho
        · cases c
      · cases b
    · cases a
  · rw [if_neg hik] at a b c
    exact h3 i s' r' ob' a b c
/-- A stable slice of stable slices. -/
def Srs (S : SH) (v : Value) (rows : List (List Int)) : Prop := ∃ vs : List SV, Sr S v vs ∧ vs.length = rows.length ∧ ∀ (i : Nat) (s : SV) (r : List Int), vs[i]? = some s → rows[i]? = some r → Sr S s.v r
theorem Srs.nil (S : SH) : Srs S (.slice none 0 0) [] := ⟨[], Sr.nil _, rfl, fun i s r h => by simp at h⟩
theorem Srs.le {S T : SH} {v : Value} {rows : List (List Int)} (h : Le S T) (k : Srs S v rows) : Srs T v rows := by
  obtain ⟨vs, h1, h2, h3⟩ := k
  exact ⟨vs, h1.le h, h2, fun i s r a b => (h3 i s r a b).le h⟩
theorem W.freezeRows {cx : Cx} {n : Nat} {F : Slots} {G : Act → World → Prop} {e : TypeId} : ∀ {vs : List SV} {rows : List (List Int)} {obs : List Blocks} {S : SH} {L L1 : Blocks}, OwR e vs rows obs → L.Perm (obs.flatten ++ L1) → (∀ S', Le S S' → (∀ (i : Nat) (s : SV) (r : List Int), vs[i]? = some s → rows[i]? = some r → Sr S' s.v r) → W cx n S' L1 F G) → W cx n S L F G
  | [], rows, obs, S, L, L1, h, hL, k => by
    obtain ⟨h1, h2, _⟩ := h
    have : obs = [] := List.eq_nil_of_length_eq_zero (by simp at h1; omega)
    subst this
    exact W.perm (k S (Le.refl _) fun i s r a => by simp at a) (by simpa using hL)
  | s :: vs, rows, obs, S, L, L1, h, hL, k => by
    obtain ⟨h1, h2, h3⟩ := h
    cases rows with
    | nil => simp at h1
    | cons r rows =>
      cases obs with
      | nil => simp at h2
      | cons ob obs =>
        refine W.freezeOws (h3 0 s r ob rfl rfl rfl) (L1 := obs.flatten ++ L1) (by simpa using hL) fun S1 hle hr => ?_
        refine W.freezeRows (vs := vs) (rows := rows) (obs := obs) ⟨by simpa using h1, by simpa using h2, fun i s' r' ob' a b c => h3 (i + 1) s' r' ob' a b c⟩ (List.Perm.refl _) fun S2 hle2 hr2 => ?_
        refine k S2 (hle.trans hle2) fun i s' r' a b => ?_
        cases i with
        | zero => simp at a b; subst a b; exact hr.le hle2
        | succ i => exact hr2 i s' r' a b
end Go.X
namespace Go.X
open Go Go.RowKit
section
variable {P : Program} {cx : Cx} {n : Nat} {S : SH} {L : Blocks} {F : Slots} {ro : Option Nat} {Q : Exit → Act → World → Prop}
variable {ops : Array Oper} {rest : List Oper} {d : Nat} {ty : TypeId} {pos : String} {af : Array Edge} {g : Option (Nat × Bool)}
theorem ev_idxo1 {T e : TypeId} [hT : Sli P T e] [hE : Sz P e 1] {x i : Operand} {b j m c : Nat} {kd : IntKind} (hx : evO F x = some (.slice (some ⟨b, 0, none⟩) m c)) (hi : evO F i = some (.int kd j)) (hk : j < m) : Ev P cx n S L F (.indexAddr T x i) ty (.pointer (some ⟨b, j, none⟩)) := by
  have := ev_indexAddr (P := P) (cx := cx) (n := n) (S := S) (L := L) (T := T) (ty := ty) hx hi hk
  have e : (⟨b, 0, none⟩ : Addr).add (j * 1) = ⟨b, j, none⟩ := by unfold Addr.add; split <;> simp_all
  rwa [e] at this
theorem bv_pred {i : Nat} (h : 1 ≤ i ∧ i ≤ 9223372036854775807) : BinV P .sub .i64 (i : Int) 1 (.int .i64 ((i - 1 : Nat) : Int)) := fun T w => by
  have e : ((i - 1 : Nat) : Int) = (i : Int) - 1 := by omega
  rw [e]
  exact bv_sub (P := P) (by omega) T w
end
end Go.X
namespace Go.X
open Go Go.RowKit
set_option linter.unusedVariables false
structure Hd (q : Prop) : Prop where
  out : q
theorem Jo {p q : Prop} (k : q) (h : Hd q → p := by (intro k; (first | apply c_seq | apply q_then | apply c_block | apply q_in | apply c_ret | apply c_exit | apply q_then_exit | apply q_then_ret | apply q_in_ret | (apply q_in_exit; (case h => rfl)) | (apply q_in_pass; (case h => rfl)) | apply c_skip | (apply c_true; (case hc => rfl)) | (apply c_false; (case hc => rfl)) | apply c_region | apply s_end | (apply s_move; (case hg => rfl); (case hd => rfl); (case hx => rfl)) | (apply s_assign; (case hg => rfl); (case hd => rfl); (case hx => rfl)) | (apply s_bin; (case hg => rfl); (case hd => rfl); (case hx => rfl); (case hy => rfl); (case hb => first | (apply bv_lss_t; omega) | (apply bv_lss_f; omega) | exact bv_lss | (apply bv_leq_t; omega) | (apply bv_leq_f; omega) | exact bv_leq | (apply bv_gtr_t; omega) | (apply bv_gtr_f; omega) | exact bv_gtr | (apply bv_geq_t; omega) | (apply bv_geq_f; omega) | exact bv_geq | (apply bv_eql_t; omega) | (apply bv_eql_f; omega) | exact bv_eql | (apply bv_neq_t; omega) | (apply bv_neq_f; omega) | exact bv_neq | (apply bv_add; omega) | (apply bv_sub; omega) | (apply bv_quo; omega) | (apply bv_rem; omega) | (apply bv_mul; omega) | (apply bv_tdiv; omega))) | (apply s_fieldAddr; (case hg => rfl); (case hd => rfl); (case hx => rfl)) | (apply s_load_own; (case hg => rfl); (case hd => rfl); (case hx => rfl); (case hm => (repeat (first | exact List.Mem.head _ | apply List.Mem.tail | apply List.mem_append_right))); (case hv => rfl)) | (apply s_pick; (case hg => rfl); (case hd => rfl); (case hc => rfl); (case hx => rfl)) | (apply s_not; (case hg => rfl); (case hd => rfl); (case hx => rfl)) | (apply s_len; (case hg => rfl); (case hd => rfl); (case hx => rfl)) | (apply s_extract; (case hg => rfl); (case hd => rfl); (case hx => rfl); (case hv => rfl)) | (apply s_store; (case hg => rfl); (case hx => rfl); (case hy => rfl); (case h1 => rfl); (case hL => (repeat (first | exact Upd.head | apply Upd.tail | apply Upd.app))); (case hu => rfl)) | (apply s_alloc; (case hg => rfl); (case hd => rfl)) | (apply s_store_ag; (case hg => rfl); (case hx => rfl); (case hy => rfl); (case h1 => rfl); (case hv => rfl); (case hL => (repeat (first | exact Upd.head | apply Upd.tail | apply Upd.app))); (case hu => rfl)) | (apply s_skip'; (case hg => rfl); (case hd => rfl)) | (apply s_field; (case hg => rfl); (case hd => rfl); (case hx => rfl); (case hv => rfl)) | (apply s_build; (case hg => rfl); (case hd => rfl); (case hx => rfl); (case hv => rfl)) | (apply s_buildSlice; (case hg => rfl); (case hd => rfl); (case hp => rfl); (case hq => rfl); (case hm => rfl); (case hv => rfl); (case hl => rfl)) | (apply s_box_ag; (case hg => rfl); (case hd => rfl); (case hx => rfl)) | (apply s_box; (case hg => rfl); (case hd => rfl); (case hx => rfl); (case hc => rfl)) | (apply s_load_own_ag; (case hg => rfl); (case hd => rfl); (case hx => rfl); (case hm => (repeat (first | exact List.Mem.head _ | apply List.Mem.tail | apply List.mem_append_right))); (case hv => rfl)) | (apply s_len_s; (case hg => rfl); (case hd => rfl); (case hx => rfl)) | (apply s_min; (case hg => rfl); (case hd => rfl); (case hx => rfl); (case hy => rfl)) | (apply s_max; (case hg => rfl); (case hd => rfl); (case hx => rfl); (case hy => rfl)) | (apply s_nil; (case hg => rfl); (case hd => rfl); (case hx => rfl)) | (apply s_neg; (case hg => rfl); (case hd => rfl); (case hx => rfl); (case hb => omega)) | (apply s_eql_b; (case hg => rfl); (case hd => rfl); (case hx => rfl); (case hy => rfl)) | (apply s_neq_b; (case hg => rfl); (case hd => rfl); (case hx => rfl); (case hy => rfl)) | (apply s_fieldAddr_p; (case hg => rfl); (case hd => rfl); (case hx => rfl)) | (apply s_idxa1; (case hg => rfl); (case hd => rfl); (case hx => rfl); (case hi => rfl); (case hk => omega)) | (apply s_makeFunc; (case hg => rfl); (case hd => rfl); (case h1 => rfl); (case h2 => rfl)) | (apply s_idxc; (case hg => rfl); (case hd => rfl); (case hx => rfl); (case hi => rfl); (case hk => decide)) | (apply s_idxo1; (case hg => rfl); (case hd => rfl); (case hx => rfl); (case hi => rfl); (case hk => omega)) | (apply s_make1; (case hg => rfl); (case hd => rfl); (case hx => rfl); (case hy => rfl); (case hzc => rfl); (case hb => omega); (case h63 => omega))); exact k.out)) : p := h ⟨k⟩
theorem Jz {p q : Prop} (k : q) (h : Hd q → p := by (intro k; (first | apply c_seq | apply q_then | apply c_block | apply q_in | apply c_ret | apply c_exit | apply q_then_exit | apply q_then_ret | apply q_in_ret | (apply q_in_exit; (case h => rfl)) | (apply q_in_pass; (case h => rfl)) | apply c_skip | (apply c_true; (case hc => rfl)) | (apply c_false; (case hc => rfl)) | apply c_region | apply s_end | (apply s_move; (case hg => rfl); (case hd => rfl); (case hx => rfl)) | (apply s_assign; (case hg => rfl); (case hd => rfl); (case hx => rfl)) | (apply s_bin; (case hg => rfl); (case hd => rfl); (case hx => rfl); (case hy => rfl); (case hb => first | (apply bv_lss_t; omega) | (apply bv_lss_f; omega) | exact bv_lss | (apply bv_leq_t; omega) | (apply bv_leq_f; omega) | exact bv_leq | (apply bv_gtr_t; omega) | (apply bv_gtr_f; omega) | exact bv_gtr | (apply bv_geq_t; omega) | (apply bv_geq_f; omega) | exact bv_geq | (apply bv_eql_t; omega) | (apply bv_eql_f; omega) | exact bv_eql | (apply bv_neq_t; omega) | (apply bv_neq_f; omega) | exact bv_neq | (apply bv_add; omega) | (apply bv_sub; omega) | (apply bv_quo; omega) | (apply bv_rem; omega) | (apply bv_mul; omega) | (apply bv_tdiv; omega))) | (apply s_fieldAddr; (case hg => rfl); (case hd => rfl); (case hx => rfl)) | (apply s_load_own; (case hg => rfl); (case hd => rfl); (case hx => rfl); (case hm => (repeat (first | exact List.Mem.head _ | apply List.Mem.tail | apply List.mem_append_right))); (case hv => rfl)) | (apply s_pick; (case hg => rfl); (case hd => rfl); (case hc => rfl); (case hx => rfl)) | (apply s_not; (case hg => rfl); (case hd => rfl); (case hx => rfl)) | (apply s_len; (case hg => rfl); (case hd => rfl); (case hx => rfl)) | (apply s_extract; (case hg => rfl); (case hd => rfl); (case hx => rfl); (case hv => rfl)) | (apply s_store; (case hg => rfl); (case hx => rfl); (case hy => rfl); (case h1 => rfl); (case hL => (repeat (first | exact Upd.head | apply Upd.tail | apply Upd.app))); (case hu => rfl)) | (apply s_alloc; (case hg => rfl); (case hd => rfl)) | (apply s_store_ag; (case hg => rfl); (case hx => rfl); (case hy => rfl); (case h1 => rfl); (case hv => rfl); (case hL => (repeat (first | exact Upd.head | apply Upd.tail | apply Upd.app))); (case hu => rfl)) | (apply s_skip'; (case hg => rfl); (case hd => rfl)) | (apply s_field; (case hg => rfl); (case hd => rfl); (case hx => rfl); (case hv => rfl)) | (apply s_build; (case hg => rfl); (case hd => rfl); (case hx => rfl); (case hv => rfl)) | (apply s_buildSlice; (case hg => rfl); (case hd => rfl); (case hp => rfl); (case hq => rfl); (case hm => rfl); (case hv => rfl); (case hl => rfl)) | (apply s_box_ag; (case hg => rfl); (case hd => rfl); (case hx => rfl)) | (apply s_box; (case hg => rfl); (case hd => rfl); (case hx => rfl); (case hc => rfl)) | (apply s_load_own_ag; (case hg => rfl); (case hd => rfl); (case hx => rfl); (case hm => (repeat (first | exact List.Mem.head _ | apply List.Mem.tail | apply List.mem_append_right))); (case hv => rfl)) | (apply s_len_s; (case hg => rfl); (case hd => rfl); (case hx => rfl)) | (apply s_min; (case hg => rfl); (case hd => rfl); (case hx => rfl); (case hy => rfl)) | (apply s_max; (case hg => rfl); (case hd => rfl); (case hx => rfl); (case hy => rfl)) | (apply s_nil; (case hg => rfl); (case hd => rfl); (case hx => rfl)) | (apply s_neg; (case hg => rfl); (case hd => rfl); (case hx => rfl); (case hb => omega)) | (apply s_eql_b; (case hg => rfl); (case hd => rfl); (case hx => rfl); (case hy => rfl)) | (apply s_neq_b; (case hg => rfl); (case hd => rfl); (case hx => rfl); (case hy => rfl)) | (apply s_fieldAddr_p; (case hg => rfl); (case hd => rfl); (case hx => rfl)) | (apply s_idxa1; (case hg => rfl); (case hd => rfl); (case hx => rfl); (case hi => rfl); (case hk => omega)) | (apply s_makeFunc; (case hg => rfl); (case hd => rfl); (case h1 => rfl); (case h2 => rfl)) | (apply s_idxc; (case hg => rfl); (case hd => rfl); (case hx => rfl); (case hi => rfl); (case hk => decide)) | (apply s_idxo1; (case hg => rfl); (case hd => rfl); (case hx => rfl); (case hi => rfl); (case hk => omega)) | (apply s_make1; (case hg => rfl); (case hd => rfl); (case hx => rfl); (case hy => rfl); (case hzc => rfl); (case hb => omega); (case h63 => omega))); (repeat (first | apply c_seq | apply q_then | apply c_block | apply q_in | apply c_ret | apply c_exit | apply q_then_exit | apply q_then_ret | apply q_in_ret | (apply q_in_exit; (case h => rfl)) | (apply q_in_pass; (case h => rfl)) | apply c_skip | (apply c_true; (case hc => rfl)) | (apply c_false; (case hc => rfl)) | apply c_region | apply s_end | (apply s_move; (case hg => rfl); (case hd => rfl); (case hx => rfl)) | (apply s_assign; (case hg => rfl); (case hd => rfl); (case hx => rfl)) | (apply s_bin; (case hg => rfl); (case hd => rfl); (case hx => rfl); (case hy => rfl); (case hb => first | (apply bv_lss_t; omega) | (apply bv_lss_f; omega) | exact bv_lss | (apply bv_leq_t; omega) | (apply bv_leq_f; omega) | exact bv_leq | (apply bv_gtr_t; omega) | (apply bv_gtr_f; omega) | exact bv_gtr | (apply bv_geq_t; omega) | (apply bv_geq_f; omega) | exact bv_geq | (apply bv_eql_t; omega) | (apply bv_eql_f; omega) | exact bv_eql | (apply bv_neq_t; omega) | (apply bv_neq_f; omega) | exact bv_neq | (apply bv_add; omega) | (apply bv_sub; omega) | (apply bv_quo; omega) | (apply bv_rem; omega) | (apply bv_mul; omega) | (apply bv_tdiv; omega))) | (apply s_fieldAddr; (case hg => rfl); (case hd => rfl); (case hx => rfl)) | (apply s_load_own; (case hg => rfl); (case hd => rfl); (case hx => rfl); (case hm => (repeat (first | exact List.Mem.head _ | apply List.Mem.tail | apply List.mem_append_right))); (case hv => rfl)) | (apply s_pick; (case hg => rfl); (case hd => rfl); (case hc => rfl); (case hx => rfl)) | (apply s_not; (case hg => rfl); (case hd => rfl); (case hx => rfl)) | (apply s_len; (case hg => rfl); (case hd => rfl); (case hx => rfl)) | (apply s_extract; (case hg => rfl); (case hd => rfl); (case hx => rfl); (case hv => rfl)) | (apply s_store; (case hg => rfl); (case hx => rfl); (case hy => rfl); (case h1 => rfl); (case hL => (repeat (first | exact Upd.head | apply Upd.tail | apply Upd.app))); (case hu => rfl)) | (apply s_alloc; (case hg => rfl); (case hd => rfl)) | (apply s_store_ag; (case hg => rfl); (case hx => rfl); (case hy => rfl); (case h1 => rfl); (case hv => rfl); (case hL => (repeat (first | exact Upd.head | apply Upd.tail | apply Upd.app))); (case hu => rfl)) | (apply s_skip'; (case hg => rfl); (case hd => rfl)) | (apply s_field; (case hg => rfl); (case hd => rfl); (case hx => rfl); (case hv => rfl)) | (apply s_build; (case hg => rfl); (case hd => rfl); (case hx => rfl); (case hv => rfl)) | (apply s_buildSlice; (case hg => rfl); (case hd => rfl); (case hp => rfl); (case hq => rfl); (case hm => rfl); (case hv => rfl); (case hl => rfl)) | (apply s_box_ag; (case hg => rfl); (case hd => rfl); (case hx => rfl)) | (apply s_box; (case hg => rfl); (case hd => rfl); (case hx => rfl); (case hc => rfl)) | (apply s_load_own_ag; (case hg => rfl); (case hd => rfl); (case hx => rfl); (case hm => (repeat (first | exact List.Mem.head _ | apply List.Mem.tail | apply List.mem_append_right))); (case hv => rfl)) | (apply s_len_s; (case hg => rfl); (case hd => rfl); (case hx => rfl)) | (apply s_min; (case hg => rfl); (case hd => rfl); (case hx => rfl); (case hy => rfl)) | (apply s_max; (case hg => rfl); (case hd => rfl); (case hx => rfl); (case hy => rfl)) | (apply s_nil; (case hg => rfl); (case hd => rfl); (case hx => rfl)) | (apply s_neg; (case hg => rfl); (case hd => rfl); (case hx => rfl); (case hb => omega)) | (apply s_eql_b; (case hg => rfl); (case hd => rfl); (case hx => rfl); (case hy => rfl)) | (apply s_neq_b; (case hg => rfl); (case hd => rfl); (case hx => rfl); (case hy => rfl)) | (apply s_fieldAddr_p; (case hg => rfl); (case hd => rfl); (case hx => rfl)) | (apply s_idxa1; (case hg => rfl); (case hd => rfl); (case hx => rfl); (case hi => rfl); (case hk => omega)) | (apply s_makeFunc; (case hg => rfl); (case hd => rfl); (case h1 => rfl); (case h2 => rfl)) | (apply s_idxc; (case hg => rfl); (case hd => rfl); (case hx => rfl); (case hi => rfl); (case hk => decide)) | (apply s_idxo1; (case hg => rfl); (case hd => rfl); (case hx => rfl); (case hi => rfl); (case hk => omega)) | (apply s_make1; (case hg => rfl); (case hd => rfl); (case hx => rfl); (case hy => rfl); (case hzc => rfl); (case hb => omega); (case h63 => omega)))); exact k.out)) : p := h ⟨k⟩
theorem Jc {p q : Prop} (k : q) (h : Hd q → p := by (intro k; (first | apply c_seq | apply q_then | apply c_block | apply q_in | apply c_ret | apply c_exit | apply q_then_exit | apply q_then_ret | apply q_in_ret | (apply q_in_exit; (case h => rfl)) | (apply q_in_pass; (case h => rfl)) | apply c_skip | (apply c_true; (case hc => rfl)) | (apply c_false; (case hc => rfl)) | apply c_region | apply s_end | (apply s_move; (case hg => rfl); (case hd => rfl); (case hx => rfl)) | (apply s_assign; (case hg => rfl); (case hd => rfl); (case hx => rfl))); (repeat (first | apply c_seq | apply q_then | apply c_block | apply q_in | apply c_ret | apply c_exit | apply q_then_exit | apply q_then_ret | apply q_in_ret | (apply q_in_exit; (case h => rfl)) | (apply q_in_pass; (case h => rfl)) | apply c_skip | (apply c_true; (case hc => rfl)) | (apply c_false; (case hc => rfl)) | apply c_region | apply s_end | (apply s_move; (case hg => rfl); (case hd => rfl); (case hx => rfl)) | (apply s_assign; (case hg => rfl); (case hd => rfl); (case hx => rfl)))); exact k.out)) : p := h ⟨k⟩
theorem Jd {p q : Prop} (k : q) (h : Hd q → p := by (intro k; (first | (apply c_draw; (case hB => kernel_rfl)) | (apply q_skip; (case hg => rfl); (case hd => rfl)) | (apply q_ev; (case hg => rfl); (case hd => rfl); (case he => first | (apply ev_move; rfl) | (apply ev_assign; rfl) | (apply ev_binV; (case hx => rfl); (case hy => rfl); (case hb => first | (apply bv_lss_t; omega) | (apply bv_lss_f; omega) | exact bv_lss | (apply bv_leq_t; omega) | (apply bv_leq_f; omega) | exact bv_leq | (apply bv_gtr_t; omega) | (apply bv_gtr_f; omega) | exact bv_gtr | (apply bv_geq_t; omega) | (apply bv_geq_f; omega) | exact bv_geq | (apply bv_eql_t; omega) | (apply bv_eql_f; omega) | exact bv_eql | (apply bv_neq_t; omega) | (apply bv_neq_f; omega) | exact bv_neq | (apply bv_add; omega) | (apply bv_sub; omega) | (apply bv_quo; omega) | (apply bv_rem; omega) | (apply bv_mul; omega) | (apply bv_tdiv; omega))) | (apply ev_fieldAddr'; rfl) | (apply ev_load_own; (case hx => rfl); (case hm => (repeat (first | exact List.Mem.head _ | apply List.Mem.tail | apply List.mem_append_right))); (case h => rfl)) | (apply ev_pick; (case hc => rfl); (case hx => rfl)) | (apply ev_not; rfl) | (apply ev_len; rfl) | (apply ev_extract'; (case hx => rfl); (case hv => rfl)) | (apply ev_field'; (case hx => rfl); (case hv => rfl)) | (apply ev_len_s; rfl) | (apply ev_min; (case hx => rfl); (case hy => rfl)) | (apply ev_max; (case hx => rfl); (case hy => rfl)) | (apply ev_nilCheck; rfl) | (apply ev_eql_b; (case hx => rfl); (case hy => rfl)) | (apply ev_neq_b; (case hx => rfl); (case hy => rfl)) | (apply ev_build; (case hp => rfl); (case hc => rfl)) | (apply ev_load_own_ag; (case hx => rfl); (case hm => (repeat (first | exact List.Mem.head _ | apply List.Mem.tail | apply List.mem_append_right))); (case hl => rfl)) | (apply ev_fieldAddr; rfl) | (apply ev_idxc; (case hx => rfl); (case hi => rfl); (case hk => decide)))) | apply q_done); exact k.out)) : p := h ⟨k⟩
structure Hdi (i : Nat) (q : Prop) : Prop where
  out : q
section
variable {P : Program} {cx : Cx} {n : Nat} {S S0 : SH} {L L0 : Blocks} {F : Slots} {ro : Option Nat} {ops : Array Oper} {Q : Exit → Act → World → Prop} {rest : List Oper} {d : Nat} {ty : TypeId} {pos : String} {af : Array Edge} {g : Option (Nat × Bool)} {fuel : Nat} {listed : Array Bool}
theorem h_first' {i : Nat} {q : Prop} (t : Hdi i q) {op : Op} {v : Value} (hi : ops[i]? = some ⟨some d, op, ty, pos, af, g⟩) (hr : (Region.ready .any ops listed).contains i = true) (hfr : Region.free .any ops listed i = true) (hsel : Region.noSelect ops = true)
    (hg : want ops F g = some true) (hd : Nat.blt d n = true) (he : Ev P cx n S0 L0 F op ty v) (k : Wh P cx n S0 L0 ops Q fuel (listed.setIfInBounds i true) S L ((d, v) :: F)) : Wh P cx n S0 L0 ops Q (fuel + 1) listed S L F := h_first i hi hr hfr hsel hg hd he k
theorem h_skip' {i : Nat} {q : Prop} (t : Hdi i q) {op : Op} {d : Nat} {g : Nat × Bool} (hi : ops[i]? = some ⟨some d, op, ty, pos, af, some g⟩) (hr : (Region.ready .any ops listed).contains i = true) (hfr : Region.free .any ops listed i = true) (hsel : Region.noSelect ops = true)
    (hg : want ops F (some g) = some false) (hd : Nat.blt d n = true) (k : Wh P cx n S0 L0 ops Q fuel (listed.setIfInBounds i true) S L ((d, undef) :: F)) : Wh P cx n S0 L0 ops Q (fuel + 1) listed S L F := h_skip i hi hr hfr hsel hg hd k
/-- A call of a function that takes no block. -/
theorem z_call {f : FuncId} [hfun : Fun P f] {args : Array Operand} {ts : Array TypeId} {vs : List Value} {R : SH → Blocks → Value → Prop} (hg : want ops F g = some true) (hd : Nat.blt d n = true) (ha : evArgs F args.toList = some vs) (hc : Con P f vs.toArray S [] R)
    (k : ∀ S' L1' v, Le S S' → R S' L1' v → W cx n S' (L1' ++ L) ((d, v) :: F) (wpListIn (Fr ro) 0 P ops Q rest)) :
    W cx n S L F (wpListIn (Fr ro) 0 P ops Q (⟨some d, .call ⟨.value (.func f), args, ts⟩, ty, pos, af, g⟩ :: rest)) :=
  s_call hg hd ha (pm_nil L) hc k
end
theorem Jf {p q : Prop} (i : Nat) (k : q) (h : Hdi i q → p := by (intro k; (first | (apply h_first' k; (case hi => rfl); (case hr => kernel_rfl); (case hfr => kernel_rfl); (case hsel => kernel_rfl); (case hg => rfl); (case hd => rfl); (case he => first | (apply ev_move; rfl) | (apply ev_assign; rfl) | (apply ev_binV; (case hx => rfl); (case hy => rfl); (case hb => first | (apply bv_lss_t; omega) | (apply bv_lss_f; omega) | exact bv_lss | (apply bv_leq_t; omega) | (apply bv_leq_f; omega) | exact bv_leq | (apply bv_gtr_t; omega) | (apply bv_gtr_f; omega) | exact bv_gtr | (apply bv_geq_t; omega) | (apply bv_geq_f; omega) | exact bv_geq | (apply bv_eql_t; omega) | (apply bv_eql_f; omega) | exact bv_eql | (apply bv_neq_t; omega) | (apply bv_neq_f; omega) | exact bv_neq | (apply bv_add; omega) | (apply bv_sub; omega) | (apply bv_quo; omega) | (apply bv_rem; omega) | (apply bv_mul; omega) | (apply bv_tdiv; omega))) | (apply ev_fieldAddr'; rfl) | (apply ev_load_own; (case hx => rfl); (case hm => (repeat (first | exact List.Mem.head _ | apply List.Mem.tail | apply List.mem_append_right))); (case h => rfl)) | (apply ev_pick; (case hc => rfl); (case hx => rfl)) | (apply ev_not; rfl) | (apply ev_len; rfl) | (apply ev_extract'; (case hx => rfl); (case hv => rfl)) | (apply ev_field'; (case hx => rfl); (case hv => rfl)) | (apply ev_len_s; rfl) | (apply ev_min; (case hx => rfl); (case hy => rfl)) | (apply ev_max; (case hx => rfl); (case hy => rfl)) | (apply ev_nilCheck; rfl) | (apply ev_eql_b; (case hx => rfl); (case hy => rfl)) | (apply ev_neq_b; (case hx => rfl); (case hy => rfl)) | (apply ev_build; (case hp => rfl); (case hc => rfl)) | (apply ev_load_own_ag; (case hx => rfl); (case hm => (repeat (first | exact List.Mem.head _ | apply List.Mem.tail | apply List.mem_append_right))); (case hl => rfl)) | (apply ev_fieldAddr; rfl) | (apply ev_idxc; (case hx => rfl); (case hi => rfl); (case hk => decide)))) | (apply h_skip' k; (case hi => rfl); (case hr => kernel_rfl); (case hfr => kernel_rfl); (case hsel => kernel_rfl); (case hg => rfl); (case hd => rfl))); exact k.out)) : p := h ⟨k⟩
theorem Jn {p q : Prop} (k : q) (h : Hd q → p := by (intro k; (first | (apply n_skip; (case hi => rfl); (case hg => rfl); (case hd => rfl)) | (apply n_alloc; (case hi => rfl); (case hg => rfl); (case hd => rfl); (case i1 => infer_instance)) | (apply n_store_ag; (case hi => rfl); (case i1 => infer_instance); (case hg => rfl); (case hx => rfl); (case hy => rfl); (case h1 => rfl); (case hv => rfl); (case hL => (repeat (first | exact Upd.head | apply Upd.tail | apply Upd.app))); (case hu => rfl); (case hsub => (intro _; (repeat (first | exact List.Sublist.refl _ | exact List.Sublist.slnil | exact List.nil_sublist _ | exact List.sublist_append_left _ _ | apply List.Sublist.cons_cons | (apply List.Sublist.append; exact List.Sublist.refl _) | apply List.Sublist.cons))))) | (apply n_store; (case hi => rfl); (case i1 => infer_instance); (case hg => rfl); (case hx => rfl); (case hy => rfl); (case h1 => rfl); (case hL => (repeat (first | exact Upd.head | apply Upd.tail | apply Upd.app))); (case hu => rfl); (case hsub => (intro _; (repeat (first | exact List.Sublist.refl _ | exact List.Sublist.slnil | exact List.nil_sublist _ | exact List.sublist_append_left _ _ | apply List.Sublist.cons_cons | (apply List.Sublist.append; exact List.Sublist.refl _) | apply List.Sublist.cons))))) | (apply n_buildSlice; (case hi => rfl); (case hg => rfl); (case hd => rfl); (case i1 => infer_instance); (case i2 => infer_instance); (case i3 => infer_instance); (case hp => rfl); (case hq => rfl); (case hm => rfl); (case hv => rfl); (case hl => rfl)) | (apply n_box_ag; (case hi => rfl); (case hg => rfl); (case hd => rfl); (case hx => rfl)) | (apply n_box; (case hi => rfl); (case hg => rfl); (case hd => rfl); (case hx => rfl); (case hc => rfl)) | (apply n_ev; (case hi => rfl); (case hg => rfl); (case hd => rfl); (case he => first | (apply ev_move; rfl) | (apply ev_assign; rfl) | (apply ev_binV; (case hx => rfl); (case hy => rfl); (case hb => first | (apply bv_lss_t; omega) | (apply bv_lss_f; omega) | exact bv_lss | (apply bv_leq_t; omega) | (apply bv_leq_f; omega) | exact bv_leq | (apply bv_gtr_t; omega) | (apply bv_gtr_f; omega) | exact bv_gtr | (apply bv_geq_t; omega) | (apply bv_geq_f; omega) | exact bv_geq | (apply bv_eql_t; omega) | (apply bv_eql_f; omega) | exact bv_eql | (apply bv_neq_t; omega) | (apply bv_neq_f; omega) | exact bv_neq | (apply bv_add; omega) | (apply bv_sub; omega) | (apply bv_quo; omega) | (apply bv_rem; omega) | (apply bv_mul; omega) | (apply bv_tdiv; omega))) | (apply ev_fieldAddr'; rfl) | (apply ev_load_own; (case hx => rfl); (case hm => (repeat (first | exact List.Mem.head _ | apply List.Mem.tail | apply List.mem_append_right))); (case h => rfl)) | (apply ev_pick; (case hc => rfl); (case hx => rfl)) | (apply ev_not; rfl) | (apply ev_len; rfl) | (apply ev_extract'; (case hx => rfl); (case hv => rfl)) | (apply ev_field'; (case hx => rfl); (case hv => rfl)) | (apply ev_len_s; rfl) | (apply ev_min; (case hx => rfl); (case hy => rfl)) | (apply ev_max; (case hx => rfl); (case hy => rfl)) | (apply ev_nilCheck; rfl) | (apply ev_eql_b; (case hx => rfl); (case hy => rfl)) | (apply ev_neq_b; (case hx => rfl); (case hy => rfl)) | (apply ev_build; (case hp => rfl); (case hc => rfl)) | (apply ev_load_own_ag; (case hx => rfl); (case hm => (repeat (first | exact List.Mem.head _ | apply List.Mem.tail | apply List.mem_append_right))); (case hl => rfl)) | (apply ev_fieldAddr; rfl) | (apply ev_idxc; (case hx => rfl); (case hi => rfl); (case hk => decide))))); exact k.out)) : p := h ⟨k⟩
end Go.X
namespace Go.X
open Go Go.RowKit
section
variable {P : Program} {cx : Cx} {n : Nat} {S : SH} {L : Blocks} {F : Slots} {ro : Option Nat} {ops : Array Oper} {Q : Exit → Act → World → Prop} {rest : List Oper} {d : Nat} {ty : TypeId} {pos : String} {af : Array Edge} {g : Option (Nat × Bool)}
def RdR (P : Program) (l : Nat) (fn : FuncId) (tmps : Array Value) (assign body : Code) (S : SH) (L : Blocks) (R : SH → Blocks → Prop) (b : Bool) : Prop :=
  ∀ w, St ⟨w, S, L.map (·.1)⟩ S L w → RoundIn (Fr none) 0 P l fn tmps assign body w fun e w' => e = .returned (.bool b) ∧ ∃ S' L', R S' L' ∧ St ⟨w, S, L.map (·.1)⟩ S' L' w'
theorem s_yieldR {x : Operand} {args : Array Operand} {ts : Array TypeId} {vs : List Value} {l r : Nat} {fn : FuncId} {tmps : Array Value} {ps : Array Tmp} {assign body : Code} {L1 L2 : Blocks} {R : SH → Blocks → Prop} {b : Bool} (hg : want ops F g = some true) (hd : Nat.blt d n = true) (hx : evO F x = some (.func (.yield l) #[] #[])) (ha : evArgs F args.toList = some vs) (hL : L.Perm (L1 ++ L2))
    (hm : (l, rec0 fn tmps ps assign body r .ready none) ∈ L1) (hp : vs.length = ps.size) (hc : RdR P l fn ((ps.zip vs.toArray).foldl (fun t (p : Tmp × Value) => t.setIfInBounds p.1 p.2) tmps) assign body S L1 R b) (k : ∀ S' L1', R S' L1' → W cx n S' (L1' ++ L2) ((d, .bool b) :: F) (wpListIn (Fr none) 0 P ops Q rest)) :
    W cx n S L F (wpListIn (Fr none) 0 P ops Q (⟨some d, .call ⟨.value x, args, ts⟩, ty, pos, af, g⟩ :: rest)) := by
  intro a w hf hs0
  have hs := hs0.perm hL
  simp only [wpListIn]
  rw [wanted_of (o := ⟨some d, .call ⟨.value x, args, ts⟩, ty, pos, af, g⟩) hf hg]
  simp only [if_true]
  refine ⟨fun _ _ => trivial, ?_⟩
  have hargs : args.map a.eval = vs.toArray := by
    apply Array.ext'; simp [← evArgs_map hf _ _ ha]
  rw [semAt_of rfl]
  have hb := hs.own _ (List.mem_append_left _ hm)
  have hrun : (execOp a.eval ⟨some d, .call ⟨.value x, args, ts⟩, ty, pos, af, g⟩).run P w = .ok (.round l fn ((ps.zip vs.toArray).foldl (fun t (p : Tmp × Value) => t.setIfInBounds p.1 p.2) tmps) assign body) w := by
    have hy := run_yield (P := P) (w := w) (l := l) (args := vs.toArray) hb (by simpa using hp)
    simp [execOp, resolve, hf.ev hx, Deferred.ofValue, invoke, hargs, hy]
  rw [hrun, Oper.uponIn_round]
  refine ⟨by simp, ?_⟩
  refine (hc w hs.sub).mono ?_
  rintro e w' ⟨rfl, S', L', hR, hs'⟩
  exact k S' L' hR _ _ (hf.put _ hd) (hs.back hs')
theorem rd_ofR {l r : Nat} {fn : FuncId} {tmps : Array Value} {ps : Array Tmp} {assign body : Code} {tm0 : Array Value} {R : SH → Blocks → Prop} {b : Bool} {L1 : Blocks} (hfm : Fm n { tmps := tmps, defers := [] } F)
    (k : ∀ w, W ⟨w, S, l :: L1.map (·.1)⟩ n S ((l, rec0 fn tm0 ps assign body r .ready none) :: L1) F (assign.wpIn (Fr (some l)) 0 P (Exit.then (fun a w₁ => ∃ w₂, (Instr.beginRound l).run P w₁ = .ok () w₂ ∧
      body.wpIn (Fr (some l)) 0 P (roundPost P l fun e w' => e = .returned (.bool b) ∧ ∃ S' L', R S' L' ∧ St ⟨w, S, l :: L1.map (·.1)⟩ S' L' w') a w₂) (fun _ _ _ => False)))) :
    RdR P l fn tmps assign body S ((l, rec0 fn tm0 ps assign body r .ready none) :: L1) R b := by
  refine fun w hs => roundIn_of_wpIn trivial ?_
  exact k w _ w hfm hs
theorem o_ret1m {fn : Func} {R : SH → Blocks → Value → Prop} {t r : Nat} {v : Value} {L' L1 : Blocks} (hr : fn.results = #[.tmp t]) (hv : geT F t = some v) (hk : get F kM = some (.map (some r))) (hp : L.Perm ((r, .deferred (some [])) :: L1)) (hL : L'.Sublist L1) (h : R S L' v) :
    W cx n S L F (Out P cx fn R .ret) := out_retm (.inl rfl) hk hp hL h fun a w _ hf _ _ => by
  have := hf.slot _ _ hv
  rw [results_tmp hr]
  simp [Array.getD_eq_getD_getElem?, this]
end
end Go.X
namespace Go.X
open Go Go.RowKit
section
variable {α : Type} [Cl α] {P : Program} {cx : Cx} {n : Nat} {S S0 : SH} {L L0 : Blocks} {F : Slots} {ro : Option Nat} {ops : Array Oper} {Q : Exit → Act → World → Prop} {rest : List Oper} {d : Nat} {ty : TypeId} {pos : String} {af : Array Edge} {g : Option (Nat × Bool)} {fuel : Nat} {listed : Array Bool} {G : Act → Prop}
theorem ev_slice_lo {T e : TypeId} [hT : Sli P T e] [hE : Sz P e (Cl.size α)] {x y : Operand} {A : Option Addr} {m c i : Nat} {kd : IntKind} {l : List α} (hA : At S A l) (hx : evO F x = some (.slice A m c)) (hy : evO F y = some (.int kd i)) (hm : m = l.length) (hmc : m ≤ c) (hj : i ≤ l.length) :
    ∃ A', At S A' (l.drop i) ∧ ∀ L, Ev P cx n S L F (.slice T x (some y) none none) ty (.slice A' (l.drop i).length (c - i)) := by
  subst hm
  refine ⟨if c = i then A else A.map (·.add (i * Cl.size α)), by have := hA.cut (i := i) (m := l.length) (c := c) hmc (Nat.le_refl _) hj; simpa using this, fun L a w hf hs o ho _ => ?_⟩
  simp only [execOp, ho, hf.ev hx, hf.ev hy, Instr.sliceAt, Sem.run_bind, run_underlying hT.h, Result.andThen_ok, Option.map_some, Option.map_none]
  rw [run_slice hT.h hE.size A l.length c i l.length (some (.int kd i)) none (.inr ⟨kd, rfl⟩) (.inl ⟨rfl, rfl⟩) (by omega) (by omega)]
  simp
theorem h_slice_lo {T e : TypeId} {x y : Operand} {A : Option Addr} {m c j : Nat} {kd : IntKind} {l : List α} (hA : At S0 A l) (i : Nat) (hi : ops[i]? = some ⟨some d, .slice T x (some y) none none, ty, pos, af, g⟩) (i1 : Sli P T e) (i2 : Sz P e (Cl.size α)) (hr : (Region.ready .any ops listed).contains i = true) (hfr : Region.free .any ops listed i = true) (hsel : Region.noSelect ops = true)
    (hg : want ops F g = some true) (hd : Nat.blt d n = true) (hx : evO F x = some (.slice A m c)) (hy : evO F y = some (.int kd j)) (hm : m = l.length) (hmc : m ≤ c) (hj : j ≤ l.length)
    (k : ∀ A', At S0 A' (l.drop j) → Wh P cx n S0 L0 ops Q fuel (listed.setIfInBounds i true) S L ((d, .slice A' (l.drop j).length (c - j)) :: F)) : Wh P cx n S0 L0 ops Q (fuel + 1) listed S L F := by
  obtain ⟨A', hA', he⟩ := ev_slice_lo (P := P) (cx := cx) (n := n) (ty := ty) (T := T) hA hx hy hm hmc hj
  exact h_first i hi hr hfr hsel hg hd (he L0) (k A' hA')
/-- append of a stable slice, whatever it is. -/
theorem n_append_st {i : Nat} {T e : TypeId} {by_ : Nat} {z : Value} {x y : Operand} {v : Value} {l ms : List α} {ob L1 : Blocks} {A : Option Addr} {m c : Nat} (hA : At S A ms) (hi : ops[i]? = some ⟨some d, .call ⟨.builtin .append, #[x, y], #[T, T]⟩, ty, pos, af, g⟩) (hT : Sli P T e) (hsz : Sz P e (Cl.size α)) (hz : Zr P e z) (hby : By P e by_) (hg : want ops F g = some true) (hd : Nat.blt d n = true)
    (hx : evO F x = some v) (ho : Ows e v l ob) (hL : L.Perm (ob ++ L1)) (hy : evO F y = some (.slice A m c)) (hm : m = ms.length) (hzs : Nat.beq z.cells.size (Cl.size α) = true) (h0 : 0 < Cl.size α) (hb : (l.length + ms.length) * by_ ≤ 140737488355328) (h63 : l.length + ms.length ≤ 1000000000000)
    (hsub : ∀ ob', L0.Sublist L → L0.Sublist (ob' ++ L1))
    (k : ∀ v' ob', Ows e v' (l ++ ms) ob' → Wh P cx n S0 L0 ops Q fuel (listed.setIfInBounds i true) S (ob' ++ L1) ((d, v') :: F)) : Wn P cx n S0 L0 ops Q fuel listed i S L F := by
  rcases Nat.eq_zero_or_pos ms.length with hz0 | hp
  · have hms : ms = [] := List.eq_nil_of_length_eq_zero hz0
    subst hms
    cases A with
    | some p => exact n_append hi hT hsz hz hby hg hd hx ho hL hy hm (fun w _ j u hj => by simp [cellsOf] at hj) hzs h0 hb h63 hsub k
    | none =>
      refine n_val hi hg hd fun a w hf hst o hop hty => ⟨S, ob ++ L1, v, w, ?_, hst.perm hL, Le.refl _, hsub ob, by have := k v ob (by simpa using ho); exact this⟩
      have hm0 : m = 0 := by simpa using hm
      subst hm0
      cases hi' : P.info? e with
      | none => have := hsz.size; simp [hi'] at this
      | some i' =>
        rcases ho with ⟨rfl, rfl, rfl⟩ | ⟨g', cap, cur, rfl, rfl, h1, _⟩
        · simp [execOp, hop, resolve, invoke, builtin, hf.ev hx, hf.ev hy, Builtin.append_, run_underlying hT.h, sizeOf, typeInfo, hi', Builtin.lenOf, Builtin.firstCells]
        · simp [execOp, hop, resolve, invoke, builtin, hf.ev hx, hf.ev hy, Builtin.append_, run_underlying hT.h, sizeOf, typeInfo, hi', Builtin.lenOf, Builtin.firstCells, h1, storeCells]
  · obtain ⟨p, rfl, hpts⟩ := hA hp
    exact n_append hi hT hsz hz hby hg hd hx ho hL hy hm (Src.stable hpts) hzs h0 hb h63 hsub k
end
section
variable {P : Program} {cx : Cx} {n : Nat} {S S0 : SH} {L L0 : Blocks} {F : Slots} {ops : Array Oper} {Q : Exit → Act → World → Prop} {d : Nat} {ty : TypeId} {pos : String} {af : Array Edge} {g : Option (Nat × Bool)} {fuel : Nat} {listed : Array Bool}
/-- An own block becomes stable, in the middle of a region. -/
theorem Wh.freeze {b : Nat} {o : Obj} (hsub : L0.Sublist L) (h : ∀ S', Le S S' → S' b = some o → Wh P cx n S0 L0 ops Q fuel listed S' L F) : Wh P cx n S0 L0 ops Q fuel listed S ((b, o) :: L) F := by
  intro h1 h2 h3 a w hf hs
  exact h _ hs.freeze.2 (by simp [SH.add]) (h1.trans hs.freeze.2) h2 hsub a w hf hs.freeze.1
theorem Wh.freezeOws {α : Type} [Cl α] {e : TypeId} {v : Value} {l : List α} {ob L1 : Blocks} (ho : Ows e v l ob) (hL : L.Perm (ob ++ L1)) (hsub : L0.Sublist L1) (k : ∀ S', Le S S' → Sr S' v l → Wh P cx n S0 L0 ops Q fuel listed S' L1 F) : Wh P cx n S0 L0 ops Q fuel listed S L F := by
  rcases ho with ⟨rfl, rfl, rfl⟩ | ⟨g', cap, cur, rfl, rfl, h1, h2, h3, h4⟩
  · intro q1 q2 q3 a w hf hs
    exact k S (Le.refl _) (Sr.nil _) q1 q2 hsub a w hf (hs.perm hL)
  · have key : Wh P cx n S0 L0 ops Q fuel listed S ([(g', Obj.cells cur e (0, 0))] ++ L1) F := by
      refine Wh.freeze hsub fun S' hle hb => k S' hle ⟨_, _, rfl, h1, fun _ => ⟨_, rfl, pts_block hb ?_⟩⟩
      rw [cellsOf_length]; exact h4
    intro q1 q2 q3 a w hf hs
    exact key q1 q2 (hsub.trans (List.sublist_append_right _ _)) a w hf (hs.perm hL)
end
end Go.X
namespace Go.X
open Go Go.RowKit
section
variable {P : Program} {cx : Cx} {n : Nat} {S S0 : SH} {L L0 : Blocks} {F : Slots} {ro : Option Nat} {ops : Array Oper} {Q : Exit → Act → World → Prop} {rest : List Oper} {d : Nat} {ty : TypeId} {pos : String} {af : Array Edge} {g : Option (Nat × Bool)}
theorem ev_minn {x y : Operand} {Ts : Array TypeId} {k : IntKind} {i j : Nat} (hx : evO F x = some (.int k i)) (hy : evO F y = some (.int k j)) : Ev P cx n S L F (.call ⟨.builtin .min, #[x, y], Ts⟩) ty (.int k ((min i j : Nat) : Int)) := by
  have h := ev_min (P := P) (cx := cx) (n := n) (S := S) (L := L) (Ts := Ts) (ty := ty) hx hy
  have e : (if (j : Int) < i then (j : Int) else i) = ((min i j : Nat) : Int) := by rw [Nat.min_def]; split <;> split <;> omega
  rwa [e] at h
theorem s_minn {x y : Operand} {Ts : Array TypeId} {kd : IntKind} {i j : Nat} (hg : want ops F g = some true) (hd : Nat.blt d n = true) (hx : evO F x = some (.int kd i)) (hy : evO F y = some (.int kd j)) (k : W cx n S L ((d, .int kd ((min i j : Nat) : Int)) :: F) (wpListIn (Fr ro) 0 P ops Q rest)) :
    W cx n S L F (wpListIn (Fr ro) 0 P ops Q (⟨some d, .call ⟨.builtin .min, #[x, y], Ts⟩, ty, pos, af, g⟩ :: rest)) := s_ev (ev_minn hx hy) hg rfl hd k
end
end Go.X
namespace Go.X
open Go Go.RowKit Go.WideShapes

/-- All of memory, as what is stable. -/
def allOf (w : World) : SH := fun b => w.heap[b]?
theorem St.all (w : World) : St ⟨w, allOf w, ([] : Blocks).map (·.1)⟩ (allOf w) [] w :=
  St.start w (allOf w) [] (fun _ _ h => h) (by simp) (by simp) (by simp)
theorem St.below {w w' : World} {S S' : SH} {L' : Blocks} (h : St ⟨w, S, []⟩ S' L' w') : Below w.heap.size w w' :=
  ⟨h.os, h.tape, h.output, h.size, fun k hk => h.keep k hk (by simp)⟩
/-- A law, out of its contract. -/
theorem calls_of_con {P : Program} {f : FuncId} {vs : Array Value} {w : World} {v : Value} {R : SH → Blocks → Value → Prop} (h : Con P f vs (allOf w) [] R) (hv : ∀ S' L' u, R S' L' u → u = v) :
    Calls P f vs w fun e w' => e = .returned v ∧ Below w.heap.size w w' :=
  (h w (St.all w)).mono fun _ _ ⟨u, S', L', he, hR, hs⟩ => ⟨by rw [he, hv _ _ _ hR], hs.below⟩

def I64 (n : Int) : Prop := -9223372036854775808 ≤ n ∧ n ≤ 9223372036854775807
theorem i64_wf {n : Int} (h : (Lit.int .i64 n).wf = true) : I64 n := by
  have e1 : IntKind.min .i64 = -9223372036854775808 := by decide
  have e2 : IntKind.max .i64 = 9223372036854775807 := by decide
  simp [Lit.wf, e1, e2] at h
  exact h

/-- Whatever reads as a datum of type t has the cells of an x that is so. -/
def Rdb {α : Type} [Cl α] (P : Program) (t : TypeId) (ok : SH → α → Prop) : Prop :=
  ∀ (H : Type) (enc : TypeId × Value → H) (w : World) (fuel : Nat) (cs : List Value) (x : DataW H × List MemPlace), DataW.trod enc P w 0 (fun _ => true) true fuel t cs = some x → ∃ a : α, cs = Cl.cells a ∧ ok (allOf w) a
theorem rdb_int {P : Program} {t : TypeId} (ht : P.underlying t = some (.int .i64)) : Rdb (α := Int) P t (fun _ n => I64 n) := fun _ _ _ _ _ _ h => by
  obtain ⟨n, rfl, _, hw⟩ := DataW.trod_int ht h
  exact ⟨n, rfl, i64_wf hw⟩
theorem cell_all {w : World} {a : Addr} {v : Value} (h : w.cell? a = some v) : cellS (allOf w) a = some v := by
  unfold World.cell? at h
  unfold cellS allOf
  exact h
theorem cells_all {w : World} {a : Addr} {n : Nat} {cs : List Value} (h : w.cells? 0 a n = some cs) : cs.length = n ∧ ∀ j u, cs[j]? = some u → cellS (allOf w) (a.add j) = some u := by
  obtain ⟨_, hl, hc⟩ := World.cells?_some h
  refine ⟨hl, fun j u hj => cell_all ?_⟩
  have hlt : j < cs.length := (List.getElem?_eq_some_iff.1 hj).1
  rw [hc j (by omega), hj]

theorem list_of {α : Type} [Inhabited α] {m : Nat} {p : Nat → α → Prop} (h : ∀ i, i < m → ∃ x, p i x) : ∃ l : List α, l.length = m ∧ ∀ i x, l[i]? = some x → p i x := by
  obtain ⟨f, hf⟩ := Deep.choose_lt h
  refine ⟨(List.range m).map f, by simp, fun i x hx => ?_⟩
  simp only [List.getElem?_map, Option.map_eq_some_iff] at hx
  obtain ⟨j, hj, rfl⟩ := hx
  have hlt : i < m := by have := (List.getElem?_eq_some_iff.1 hj).1; simpa using this
  rw [List.getElem?_range hlt] at hj
  injection hj with hj
  subst hj
  exact hf _ hlt
theorem cellsOf_get {α : Type} [Cl α] : ∀ (l : List α) (j : Nat) (u : Value), (cellsOf l)[j]? = some u → ∃ i x k, l[i]? = some x ∧ (Cl.cells x)[k]? = some u ∧ j = i * Cl.size α + k
  | [], j, u, h => by simp [cellsOf] at h
  | y :: l, j, u, h => by
    rw [cellsOf_cons] at h
    rcases Nat.lt_or_ge j (Cl.cells y).length with hlt | hge
    · rw [List.getElem?_append_left hlt] at h
      exact ⟨0, y, j, rfl, h, by simp⟩
    · rw [List.getElem?_append_right hge] at h
      obtain ⟨i, x, k, h1, h2, h3⟩ := cellsOf_get l _ u h
      rw [Cl.len] at h3 hge
      exact ⟨i + 1, x, k, by simpa using h1, h2, by rw [Nat.succ_mul]; omega⟩
/-- A slice, opened. -/
theorem open_sl {α : Type} [Cl α] [Inhabited α] {P : Program} {t e : TypeId} {ok : SH → α → Prop} (ht : P.underlying t = some (.slice e)) (hc : P.cellsOf e = Cl.size α) (hr : Rdb P e ok) {H : Type} {enc : TypeId × Value → H} {w : World} {v : Value} {d : DataW H} {ps : List MemPlace} {A : Option Addr} {n c : Nat} (hv : v = .slice A n c)
    (h : DataW.Trod enc P w 0 (fun _ => true) true t v d ps) : ∃ l : List α, n = l.length ∧ l.length ≤ c ∧ At (allOf w) A l ∧ (∀ x ∈ l, ok (allOf w) x) := by
  subst hv
  obtain ⟨fuel, hf⟩ := h
  rcases Deep.open_slice ht hf with ⟨h1, _⟩ | ⟨a, len, cap, m, k, D, Pl, h1, _, hl, hm, hmm, _, hel⟩
  · simp only [Value.cells] at h1
    injection h1 with h1
    injection h1 with e1 e2 e3
    subst e1 e2 e3
    exact ⟨[], rfl, by simp, At.nil _ _, by simp⟩
  · simp only [Value.cells] at h1
    injection h1 with h1
    injection h1 with e1 e2 e3
    subst e1 e2 e3
    simp only [if_true] at hmm
    subst hmm
    rw [hc] at hel
    have key : ∀ i, i < n → ∃ x : α, (∀ j u, (Cl.cells x)[j]? = some u → cellS (allOf w) ((a.add (i * Cl.size α)).add j) = some u) ∧ ok (allOf w) x := by
      intro i hi
      obtain ⟨cs', h2, h3⟩ := hel i (by omega)
      obtain ⟨x, rfl, hx⟩ := hr H enc w _ _ _ h3
      exact ⟨x, (cells_all h2).2, hx⟩
    obtain ⟨l, hll, hlp⟩ := list_of key
    refine ⟨l, hll.symm, by omega, fun _ => ⟨a, rfl, fun j u hj => ?_⟩, fun x hx => ?_⟩
    · obtain ⟨i, x, k, g1, g2, rfl⟩ := cellsOf_get l j u hj
      have := (hlp i x g1).1 k u g2
      rwa [add_add] at this
    · obtain ⟨i, hi⟩ := List.getElem?_of_mem hx
      exact (hlp i x hi).2
theorem parts_struct {P : Program} {t : TypeId} {fs : Array Field} (ht : P.underlying t = some (.struct fs)) {H : Type} {enc : TypeId × Value → H} {w : World} {fuel : Nat} {cs : List Value} {x : DataW H × List MemPlace} (h : DataW.trod enc P w 0 (fun _ => true) true fuel t cs = some x) :
    cs.length = P.cellsOf t ∧ ∃ n, ∀ (i : Nat) (f : Field), fs[i]? = some f → ∃ y, DataW.trod enc P w 0 (fun _ => true) true n f.type ((cs.drop f.offset).take (P.cellsOf f.type)) = some y := by
  obtain ⟨xs, n, _, _, hl, hn, hp⟩ := DataW.trod_struct ht h
  refine ⟨hl, n, fun i f hf => ?_⟩
  have hlt : i < xs.length := by rw [hn]; exact (Array.getElem?_eq_some_iff.1 hf).1
  exact ⟨xs[i], by rw [hp i f hf, List.getElem?_eq_getElem hlt]⟩
theorem parts_array {P : Program} {t e : TypeId} {m : Nat} (ht : P.underlying t = some (.array m e)) {H : Type} {enc : TypeId × Value → H} {w : World} {fuel : Nat} {cs : List Value} {x : DataW H × List MemPlace} (h : DataW.trod enc P w 0 (fun _ => true) true fuel t cs = some x) :
    cs.length = P.cellsOf t ∧ ∃ n, ∀ (i : Nat), i < m → ∃ y, DataW.trod enc P w 0 (fun _ => true) true n e ((cs.drop (i * P.cellsOf e)).take (P.cellsOf e)) = some y := by
  obtain ⟨xs, n, _, _, hl, hn, hp⟩ := DataW.trod_array ht h
  refine ⟨hl, n, fun i hi => ?_⟩
  exact ⟨xs[i], by rw [hp i hi, List.getElem?_eq_getElem (by omega)]⟩
theorem Rdb.use {α : Type} [Cl α] {P : Program} {t : TypeId} {ok : SH → α → Prop} (hr : Rdb P t ok) {H : Type} {enc : TypeId × Value → H} {w : World} {fuel : Nat} {cs : List Value} (h : ∃ y, DataW.trod enc P w 0 (fun _ => true) true fuel t cs = some y) : ∃ a : α, cs = Cl.cells a ∧ ok (allOf w) a := by
  obtain ⟨y, h⟩ := h
  exact hr _ _ _ _ _ _ h
theorem cellsOf_sz {P : Program} {t : TypeId} {s : Nat} (h : (P.info? t).map (·.size) = some s) : P.cellsOf t = s := by
  cases hi : P.info? t with
  | none => simp [hi] at h
  | some i => simp [hi] at h; simp [Program.cellsOf, hi, h]
theorem part_f {P : Program} {t : TypeId} (i : Nat) {off ft sz : Nat} [hf : Fi P t i off ft] [hs : Sz P ft sz] {H : Type} {enc : TypeId × Value → H} {w : World} {fuel : Nat} {cs : List Value} {x : DataW H × List MemPlace} (h : DataW.trod enc P w 0 (fun _ => true) true fuel t cs = some x) :
    ∃ n y, DataW.trod enc P w 0 (fun _ => true) true n ft ((cs.drop off).take sz) = some y := by
  obtain ⟨fs, f, h1, h2, rfl, rfl⟩ := hf.h
  obtain ⟨_, n, hp⟩ := parts_struct h1 h
  obtain ⟨y, hy⟩ := hp i f h2
  rw [cellsOf_sz hs.size] at hy
  exact ⟨n, y, hy⟩
theorem part_a {P : Program} {t : TypeId} (i : Nat) {m e sz : Nat} [ha : Arr P t m e] [hs : Sz P e sz] {H : Type} {enc : TypeId × Value → H} {w : World} {fuel : Nat} {cs : List Value} {x : DataW H × List MemPlace} (h : DataW.trod enc P w 0 (fun _ => true) true fuel t cs = some x) (hi : i < m) :
    ∃ n y, DataW.trod enc P w 0 (fun _ => true) true n e ((cs.drop (i * sz)).take sz) = some y := by
  obtain ⟨_, n, hp⟩ := parts_array ha.h h
  obtain ⟨y, hy⟩ := hp i hi
  rw [cellsOf_sz hs.size] at hy
  exact ⟨n, y, hy⟩
theorem Rdb.at_ {α : Type} [Cl α] {P : Program} {t : TypeId} {ok : SH → α → Prop} (hr : Rdb P t ok) {H : Type} {enc : TypeId × Value → H} {w : World} {cs : List Value} (h : ∃ n y, DataW.trod enc P w 0 (fun _ => true) true n t cs = some y) : ∃ a : α, cs = Cl.cells a ∧ ok (allOf w) a := by
  obtain ⟨n, y, h⟩ := h
  exact hr _ _ _ _ _ _ h
theorem len_s {P : Program} {t : TypeId} {sz : Nat} (hs : (P.info? t).map (·.size) = some sz) {fs : Array Field} (ht : P.underlying t = some (.struct fs)) {H : Type} {enc : TypeId × Value → H} {w : World} {fuel : Nat} {cs : List Value} {x : DataW H × List MemPlace} (h : DataW.trod enc P w 0 (fun _ => true) true fuel t cs = some x) : cs.length = sz := by
  rw [(parts_struct ht h).1, cellsOf_sz hs]
theorem len_a {P : Program} {t m e : TypeId} {sz : Nat} (hs : (P.info? t).map (·.size) = some sz) (ht : P.underlying t = some (.array m e)) {H : Type} {enc : TypeId × Value → H} {w : World} {fuel : Nat} {cs : List Value} {x : DataW H × List MemPlace} (h : DataW.trod enc P w 0 (fun _ => true) true fuel t cs = some x) : cs.length = sz := by
  rw [(parts_array ht h).1, cellsOf_sz hs]
end Go.X
namespace Go.X
open Go Go.RowKit
abbrev Bs := List UInt8
abbrev strV (l : Bs) : Value := .string ⟨l.toArray⟩
structure Str where
  b : Bs
instance : Inhabited Str := ⟨⟨[]⟩⟩
instance : Cl UInt8 := ⟨1, fun c => [.int .u8 (c.toNat : Int)], fun _ => rfl, fun _ u hu => by simp at hu; subst hu; rfl⟩
instance : Cl Str := ⟨1, fun s => [strV s.b], fun _ => rfl, fun _ u hu => by simp at hu; subst hu; rfl⟩
theorem cellsOf_u8 (l : Bs) : cellsOf l = l.map fun c => Value.int .u8 (c.toNat : Int) := by
  induction l with
  | nil => rfl
  | cons x l ih => rw [cellsOf_cons, ih]; rfl
theorem rdb_str {P : Program} {t : TypeId} (ht : P.underlying t = some .string) : Rdb (α := Str) P t (fun _ s => s.b.length ≤ maxLen) := fun _ _ _ _ _ _ h => by
  obtain ⟨s, rfl, _, hw⟩ := DataW.trod_string ht h
  refine ⟨⟨s.data.toList⟩, by simp [Cl.cells], ?_⟩
  show s.data.toList.length ≤ maxLen
  rw [Array.length_toList]
  exact hw
section
variable {P : Program} {cx : Cx} {n : Nat} {S S0 : SH} {L L0 : Blocks} {F : Slots} {ro : Option Nat} {ops : Array Oper} {Q : Exit → Act → World → Prop} {rest : List Oper} {d : Nat} {ty : TypeId} {pos : String} {af : Array Edge} {g : Option (Nat × Bool)}
theorem ev_len_b {x : Operand} {T : TypeId} [Strg P T] {l : Bs} (hx : evO F x = some (strV l)) : Ev P cx n S L F (.call ⟨.builtin .len, #[x], #[T]⟩) ty (.int .i64 l.length) := by
  have h := ev_len_s (P := P) (cx := cx) (n := n) (S := S) (L := L) (T := T) (ty := ty) hx
  exact h
theorem ev_index_b {T : TypeId} [hT : Strg P T] {x i : Operand} {l : Bs} {k : Nat} {kd : IntKind} {c : UInt8} (hx : evO F x = some (strV l)) (hi : evO F i = some (.int kd k)) (hu : l[k]? = some c) : Ev P cx n S L F (.index T x i) ty (.int .u8 (c.toNat : Int)) := fun a w hf _ o ho _ => by
  have hlt := (List.getElem?_eq_some_iff.1 hu).1
  have he : (⟨l.toArray⟩ : ByteArray)[k]? = some c := by
    have hs : k < (⟨l.toArray⟩ : ByteArray).size := by simpa [ByteArray.size] using hlt
    rw [getElem?_pos (⟨l.toArray⟩ : ByteArray) k hs]
    have := (List.getElem?_eq_some_iff.1 hu).2
    rw [← this]
    rfl
  simp [execOp, ho, hf.ev hx, hf.ev hi, Instr.index, asIntOf, run_underlying hT.h, he]
theorem ev_strop {op : BinOp} {T T' : TypeId} {x y : Operand} {a b : Bs} {v : Value} (hx : evO F x = some (strV a)) (hy : evO F y = some (strV b)) (hv : ∀ w, (binOp op T (strV a) (strV b)).run P w = .ok v w) : Ev P cx n S L F (.binOp op T x y T') ty v := fun ac w hf _ o ho _ => by
  simp only [execOp, ho, hf.ev hx, hf.ev hy, eqGuard]
  simp [hv]
theorem ev_eql_bs {T T' : TypeId} {x y : Operand} {a b : Bs} (hx : evO F x = some (strV a)) (hy : evO F y = some (strV b)) : Ev P cx n S L F (.binOp .eql T x y T') ty (.bool (a == b)) := ev_strop hx hy fun w => by simp [binOp, Op.stringOp]
theorem ev_neq_bs {T T' : TypeId} {x y : Operand} {a b : Bs} (hx : evO F x = some (strV a)) (hy : evO F y = some (strV b)) : Ev P cx n S L F (.binOp .neq T x y T') ty (.bool (a != b)) := ev_strop hx hy fun w => by simp [binOp, Op.stringOp, bne]
end
end Go.X
namespace Go.X
open Go Go.RowKit
/-- A list, with these values from place o on. -/
def lset {α : Type} (cs : List α) (o : Nat) (vs : List α) : List α := cs.take o ++ vs ++ cs.drop (o + vs.length)
theorem lset_nil {α : Type} (cs : List α) (o : Nat) : lset cs o [] = cs := by simp [lset]
theorem lset_cons {α : Type} (cs : List α) (o : Nat) (v : α) (vs : List α) (h : o < cs.length) : lset (cs.set o v) (o + 1) vs = lset cs o (v :: vs) := by
  have h1 : (cs.set o v).take (o + 1) = cs.take o ++ [v] := by
    rw [List.take_succ_eq_append_getElem (by simpa using h), List.take_set_of_le (Nat.le_refl _)]
    simp
  simp only [lset, h1, List.length_cons]
  rw [List.drop_set_of_lt (by omega)]
  simp [Nat.add_assoc, Nat.add_comm 1]
theorem lset_length {α : Type} (cs : List α) (o : Nat) (vs : List α) (h : o + vs.length ≤ cs.length) : (lset cs o vs).length = cs.length := by simp [lset]; omega

theorem setCells_keeps (b : Nat) : ∀ (vs : List Value) (o : Nat) (w : World), (w.setCells b o vs).heap.size = w.heap.size ∧ (w.setCells b o vs).os = w.os ∧ (w.setCells b o vs).tape = w.tape ∧ (w.setCells b o vs).output = w.output ∧ (w.setCells b o vs).drawn = w.drawn ∧ ∀ c, c ≠ b → (w.setCells b o vs).heap[c]? = w.heap[c]?
  | [], o, w => ⟨rfl, rfl, rfl, rfl, rfl, fun _ _ => rfl⟩
  | v :: r, o, w => by
    obtain ⟨h1, h2, h3, h4, h6, h5⟩ := setCells_keeps b r (o + 1) (w.setCell ⟨b, o, none⟩ v)
    refine ⟨h1.trans (by simp [World.setCell]), h2, h3, h4, h6, fun c hc => (h5 c hc).trans ?_⟩
    exact Below.heap_setCell w ⟨b, o, none⟩ v c hc
theorem setCells_block {b : Nat} {T : TypeId} {fz : Nat × Nat} : ∀ (vs : List Value) (o : Nat) (cs : List Value) (w : World), w.heap[b]? = some (.cells cs.toArray T fz) → o + vs.length ≤ cs.length → (w.setCells b o vs).heap[b]? = some (.cells (lset cs o vs).toArray T fz)
  | [], o, cs, w, h, _ => by rw [lset_nil]; exact h
  | v :: r, o, cs, w, h, hl => by
    simp only [List.length_cons] at hl
    rw [← lset_cons cs o v r (by omega)]
    refine setCells_block r (o + 1) (cs.set o v) (w.setCell ⟨b, o, none⟩ v) ?_ (by simp; omega)
    simp [World.setCell, Array.getElem?_modify, h]
section
variable {P : Program} {cx : Cx} {n : Nat} {S S0 : SH} {L L0 : Blocks} {F : Slots} {ro : Option Nat} {ops : Array Oper} {Q : Exit → Act → World → Prop} {rest : List Oper} {d : Nat} {ty : TypeId} {pos : String} {af : Array Edge} {g : Option (Nat × Bool)}
theorem St.setCells {w : World} (h : St cx S L w) {i b : Nat} {cs : List Value} {T : TypeId} {fz : Nat × Nat} (hi : L[i]? = some (b, .cells cs.toArray T fz)) {o : Nat} {vs : List Value} (hl : o + vs.length ≤ cs.length) : St cx S (L.set i (b, .cells (lset cs o vs).toArray T fz)) (w.setCells b o vs) := by
  obtain ⟨h1, h2, h3, h4, h6, h5⟩ := setCells_keeps b vs o w
  have hb := h.own _ (List.mem_of_getElem? hi)
  exact h.set hi h1 h2 h3 h4 (setCells_block vs o cs w hb hl) h5 (Nat.le_of_eq h6.symm)
theorem own_frozen {w : World} (h : St cx S L w) {b : Nat} {cs : Array Value} {T : TypeId} (hm : (b, Obj.cells cs T (0, 0)) ∈ L) (i : Nat) : w.frozen? ⟨b, i, none⟩ = false := by
  have := h.own _ hm
  simp only at this
  simp [World.frozen?, this]
end
end Go.X
namespace Go.X
open Go Go.RowKit
class Ptr (P : Program) (t : TypeId) : Prop where
  h : P.underlying t = some (.pointer (P.pointee t))
section
variable {P : Program} {cx : Cx} {n : Nat} {S S0 : SH} {L L0 : Blocks} {F : Slots} {ro : Option Nat} {ops : Array Oper} {Q : Exit → Act → World → Prop} {rest : List Oper} {d : Nat} {ty : TypeId} {pos : String} {af : Array Edge} {g : Option (Nat × Bool)}
theorem s_evb {op : Op} {v : Value} (hg : want ops F g = some true) (hd : Nat.blt d n = true) (hn : notDefer op = true) (he : Ev P cx n S L F op ty v) (k : W cx n S L ((d, v) :: F) (wpListIn (Fr ro) 0 P ops Q rest)) :
    W cx n S L F (wpListIn (Fr ro) 0 P ops Q (⟨some d, op, ty, pos, af, g⟩ :: rest)) := s_ev he hg hn hd k
theorem bv_addn {i j : Nat} (h : i + j ≤ 9223372036854775807) : BinV P .add .i64 (i : Int) (j : Int) (.int .i64 ((i + j : Nat) : Int)) := fun T w => by
  have e : ((i + j : Nat) : Int) = (i : Int) + (j : Int) := by omega
  rw [e]
  exact bv_add (P := P) (by omega) T w
theorem ev_eql_bv {T T' : TypeId} {x y : Operand} {a b : Bs} {r : Bool} (hx : evO F x = some (strV a)) (hy : evO F y = some (strV b)) (h : (a == b) = r) : Ev P cx n S L F (.binOp .eql T x y T') ty (.bool r) := h ▸ ev_eql_bs hx hy
theorem ev_neq_bv {T T' : TypeId} {x y : Operand} {a b : Bs} {r : Bool} (hx : evO F x = some (strV a)) (hy : evO F y = some (strV b)) (h : (a != b) = r) : Ev P cx n S L F (.binOp .neq T x y T') ty (.bool r) := h ▸ ev_neq_bs hx hy
/-- A call of a function value. -/
theorem s_callv {f : FuncId} [hfun : Fun P f] {x : Operand} {args : Array Operand} {ts : Array TypeId} {vs caps : List Value} {L1 L2 : Blocks} {R : SH → Blocks → Value → Prop} (hg : want ops F g = some true) (hd : Nat.blt d n = true) (hx : evO F x = some (.func (.func f) #[] caps.toArray)) (ha : evArgs F args.toList = some vs) (hL : L.Perm (L1 ++ L2))
    (hc : Con P f (vs ++ caps).toArray S L1 R) (k : ∀ S' L1' v, Le S S' → R S' L1' v → W cx n S' (L1' ++ L2) ((d, v) :: F) (wpListIn (Fr ro) 0 P ops Q rest)) :
    W cx n S L F (wpListIn (Fr ro) 0 P ops Q (⟨some d, .call ⟨.value x, args, ts⟩, ty, pos, af, g⟩ :: rest)) := by
  intro a w hf hs0
  have hs := hs0.perm hL
  simp only [wpListIn]
  rw [wanted_of (o := ⟨some d, .call ⟨.value x, args, ts⟩, ty, pos, af, g⟩) hf hg]
  simp only [if_true]
  refine ⟨fun _ _ => trivial, ?_⟩
  have hargs : args.map a.eval = vs.toArray := by
    apply Array.ext'; simp [← evArgs_map hf _ _ ha]
  rw [semAt_of rfl]
  have hrun : (execOp a.eval ⟨some d, .call ⟨.value x, args, ts⟩, ty, pos, af, g⟩).run P w = .ok (.enter f (vs ++ caps).toArray) w := by
    simp [execOp, resolve, hf.ev hx, Deferred.ofValue, invoke, hfun.h, hargs]
  rw [hrun, Oper.uponIn_enter]
  refine ⟨by simp, ?_⟩
  have hcall := hc w hs.sub
  have hin : CallsIn (Fr ro) (0 - 1) P f (vs ++ caps).toArray w (fun e w' => ∃ v S' L', e = .returned v ∧ R S' L' v ∧ St ⟨w, S, L1.map (·.1)⟩ S' L' w') :=
    (callsIn_wide (n := 0)).2 hcall
  refine hin.mono ?_
  rintro e w' ⟨v, S', L', rfl, hR, hs'⟩
  exact k S' L' v hs'.le hR _ _ (hf.put v hd) (hs.back hs')
variable {fuel : Nat} {listed : Array Bool}
end
end Go.X
namespace Go.X
open Go Go.RowKit
section
variable {P : Program} {cx : Cx} {n : Nat} {S : SH} {L : Blocks} {F : Slots} {ty : TypeId}
theorem Src.pre {p : Addr} {cs tl : List Value} (h : Src cx S L p (cs ++ tl)) : Src cx S L p cs := fun w hs j u hj => h w hs j u (by
  rw [List.getElem?_append_left (List.getElem?_eq_some_iff.1 hj).1]; exact hj)
theorem ev_idxo {T e : TypeId} {sz : Nat} [hT : Sli P T e] [hE : Sz P e sz] {x i : Operand} {b j m c : Nat} {kd : IntKind} (hx : evO F x = some (.slice (some ⟨b, 0, none⟩) m c)) (hi : evO F i = some (.int kd j)) (hk : j < m) : Ev P cx n S L F (.indexAddr T x i) ty (.pointer (some ⟨b, j * sz, none⟩)) := by
  have := ev_indexAddr (P := P) (cx := cx) (n := n) (S := S) (L := L) (ty := ty) (T := T) hx hi hk
  have e : (⟨b, 0, none⟩ : Addr).add (j * sz) = ⟨b, j * sz, none⟩ := by unfold Addr.add; split <;> simp_all
  rwa [e] at this
/-- A slice of the call's own that has elements: its row, what is behind them. -/
theorem Ows.rowed {α : Type} [Cl α] {e : TypeId} {v : Value} {l : List α} {ob : Blocks} (h : Ows e v l ob) (hl : 0 < l.length) : ∃ g cap tl, v = .slice (some ⟨g, 0, none⟩) l.length cap ∧ ob = [(g, .cells (cellsOf l ++ tl).toArray e (0, 0))] ∧ l.length ≤ cap ∧ cap ≤ maxLen ∧ (cellsOf l ++ tl).length = cap * Cl.size α := by
  rcases h with ⟨_, rfl, _⟩ | ⟨g, cap, cur, rfl, rfl, h1, h2, h3, h4⟩
  · simp at hl
  · refine ⟨g, cap, cur.toList.drop (l.length * Cl.size α), rfl, ?_, h1, h2, ?_⟩
    · rw [← h4, List.take_append_drop]
    · rw [← h4, List.take_append_drop]; simpa using h3
theorem Ows.of_row {α : Type} [Cl α] {e : TypeId} {l : List α} {g cap m : Nat} {tl : List Value} (hm : m = l.length) (h1 : m ≤ cap) (h2 : cap ≤ maxLen) (h3 : (cellsOf l ++ tl).length = cap * Cl.size α) : Ows e (.slice (some ⟨g, 0, none⟩) m cap) l [(g, .cells (cellsOf l ++ tl).toArray e (0, 0))] := by
  subst hm
  exact .inr ⟨g, cap, _, rfl, rfl, h1, h2, by simpa using h3, by
    simp only
    rw [List.take_append_of_le_length (by rw [cellsOf_length]; exact Nat.le_refl _), List.take_of_length_le (by rw [cellsOf_length]; exact Nat.le_refl _)]⟩
end
end Go.X
namespace Go.X
open Go Go.RowKit
structure Sv where
  a : Option Addr
  m : Nat
  c : Nat
instance : Inhabited Sv := ⟨⟨none, 0, 0⟩⟩
instance : Cl Sv := ⟨1, fun x => [.slice x.a x.m x.c], fun _ => rfl, fun _ u hu => by simp at hu; subst hu; rfl⟩
theorem rdb_slice {β : Type} [Cl β] [Inhabited β] {P : Program} {t e : TypeId} {ok : SH → β → Prop} (ht : P.underlying t = some (.slice e)) (hc : P.cellsOf e = Cl.size β) (hr : Rdb P e ok) :
    Rdb (α := Sv) P t (fun S x => ∃ l : List β, x.m = l.length ∧ l.length ≤ x.c ∧ At S x.a l ∧ ∀ y ∈ l, ok S y) := fun H enc w fuel cs x h => by
  have h0 := h
  rcases Deep.open_slice ht h0 with ⟨h1, _⟩ | ⟨a, len, cap, m, k, D, Pl, h1, _⟩
  · subst h1
    exact ⟨⟨none, 0, 0⟩, rfl, [], rfl, Nat.le_refl _, At.nil _ _, by simp⟩
  · subst h1
    obtain ⟨l, h2, h3, h4, h5⟩ := open_sl (v := .slice (some a) len cap) (A := some a) (n := len) (c := cap) ht hc hr rfl ⟨fuel, h⟩
    exact ⟨⟨some a, len, cap⟩, rfl, l, h2, h3, h4, h5⟩
end Go.X
namespace Go.X
open Go Go.RowKit
theorem Wh.perm {P : Program} {cx : Cx} {n : Nat} {S S0 : SH} {L L' : Blocks} {F : Slots} {ops : Array Oper} {Q : Exit → Act → World → Prop} {fuel : Nat} {listed : Array Bool} (hp : L.Perm L') (k : Wh P cx n S0 [] ops Q fuel listed S L' F) : Wh P cx n S0 [] ops Q fuel listed S L F := fun h1 h2 _ a w hf hs => k h1 h2 (List.nil_sublist _) a w hf (hs.perm hp)
end Go.X
namespace Go.X
open Go Go.RowKit
/-- What an int64 holds. -/
def w64 (x : Int) : Int := IntKind.i64.wrap x
section
variable {P : Program} {i j : Int}
end
section
variable {P : Program} {cx : Cx} {n : Nat} {S : SH} {L : Blocks} {F : Slots} {ty : TypeId}
/-- arr[:], an array of the call's own, one cell an element. -/
theorem ev_slice_arr {A e : TypeId} {N : Nat} [hA : Arr P A N e] {sz : Nat} [hE : Sz P e sz] {x : Operand} {b : Nat} (hx : evO F x = some (.pointer (some ⟨b, 0, none⟩))) : Ev P cx n S L F (.slice A x none none none) ty (.slice (some ⟨b, 0, none⟩) N N) := fun a w hf _ o ho _ => by
  have e1 : (⟨b, 0, none⟩ : Addr).add 0 = ⟨b, 0, none⟩ := by unfold Addr.add; split <;> simp_all
  simp [execOp, ho, hf.ev hx, Instr.sliceAt, Instr.sureAddr, run_underlying hA.h, Instr.sliceBounds, run_sizeOf hE.size, e1]
end
end Go.X
namespace Go.X
open Go Go.RowKit
section
variable {α : Type} [Cl α] {P : Program} {cx : Cx} {n : Nat} {S S0 : SH} {L L0 : Blocks} {F : Slots} {ro : Option Nat} {ops : Array Oper} {Q : Exit → Act → World → Prop} {rest : List Oper} {d : Nat} {ty : TypeId} {pos : String} {af : Array Edge} {g : Option (Nat × Bool)} {fuel : Nat} {listed : Array Bool}

theorem n_callv {i : Nat} {f : FuncId} {x : Operand} {args : Array Operand} {ts : Array TypeId} {vs caps : List Value} {L1 L2 : Blocks} {R : SH → Blocks → Value → Prop} (hi : ops[i]? = some ⟨some d, .call ⟨.value x, args, ts⟩, ty, pos, af, g⟩) (i1 : Fun P f) (hg : want ops F g = some true) (hd : Nat.blt d n = true) (hx : evO F x = some (.func (.func f) #[] caps.toArray)) (ha : evArgs F args.toList = some vs) (hL : L.Perm (L1 ++ L2))
    (hc : Con P f (vs ++ caps).toArray S L1 R) (hsub : ∀ L1', L0.Sublist L → L0.Sublist (L1' ++ L2)) (k : ∀ S' L1' v, Le S S' → R S' L1' v → Wh P cx n S0 L0 ops Q fuel (listed.setIfInBounds i true) S' (L1' ++ L2) ((d, v) :: F)) : Wn P cx n S0 L0 ops Q fuel listed i S L F := by
  intro h1 h2 h3 a w hf hs0
  have hs := hs0.perm hL
  have hargs : args.map a.eval = vs.toArray := by
    apply Array.ext'; simp [← evArgs_map hf _ _ ha]
  have hrun : (execOp a.eval ⟨some d, .call ⟨.value x, args, ts⟩, ty, pos, af, g⟩).run P w = .ok (.enter f (vs ++ caps).toArray) w := by
    simp [execOp, resolve, hf.ev hx, Deferred.ofValue, invoke, i1.h, hargs]
  refine wpOp_at hi (wanted_of (o := ⟨some d, .call ⟨.value x, args, ts⟩, ty, pos, af, g⟩) hf hg) ?_
  rw [hrun, Oper.upon_enter]
  refine (hc w hs.sub).mono ?_
  rintro e w' ⟨v, S', L', rfl, hR, hs'⟩
  have hb := hs.back hs'
  exact ⟨hb.less (h1.trans hs'.le) h2 (hsub _ h3), k S' L' v hs'.le hR (h1.trans hs'.le) h2 (hsub _ h3) _ _ (hf.put v hd) hb⟩
end
/-! ### Maps whose keys are arrays of four ints -/
def keyV (k : List Int) : Value := .agg (k.map (Value.int .i64)).toArray
/-- An array of N ints (a key). -/
class Ka (P : Program) (t : TypeId) : Prop where
  ex : ∃ e, P.underlying t = some (.array 4 e) ∧ P.underlying e = some (.int .i64) ∧ (P.info? e).map (·.size) = some 1
section
variable {P : Program} {kt : TypeId}
end
abbrev Ents := List (List Int × Value)
def mapE : Nat → Ents → List MapEntry
  | _, [] => []
  | b, (k, v) :: r => ⟨keyV k, v, b⟩ :: mapE (b + 1) r
/-- A map that was never thinned: its entries, in the order in which they came. -/
def mapO (ent : Ents) : Obj := .map (mapE 0 ent).toArray ent.length
def lookK (k : List Int) : Ents → Option Value
  | [] => none
  | (k', v) :: r => if k = k' then some v else lookK k r
def upsK (k : List Int) (v : Value) : Ents → Ents
  | [] => [(k, v)]
  | (k', v') :: r => if k = k' then (k, v) :: r else (k', v') :: upsK k v r
def posK (k : List Int) : Ents → Option Nat
  | [] => none
  | (k', _) :: r => if k = k' then some 0 else (posK k r).map (· + 1)
def Keys4 (ent : Ents) : Prop := ∀ p ∈ ent, p.1.length = 4
section
variable {P : Program} {kt : TypeId}
end
section
variable {P : Program} {cx : Cx} {n : Nat} {S S0 : SH} {L L0 : Blocks} {F : Slots} {ro : Option Nat} {ops : Array Oper} {Q : Exit → Act → World → Prop} {rest : List Oper} {d : Nat} {ty : TypeId} {pos : String} {af : Array Edge} {g : Option (Nat × Bool)} {fuel : Nat} {listed : Array Bool}
/-! ranges over such maps -/
def iterO (b n : Nat) (seen : List Nat) : Obj := .mapIter (some b) n seen.toArray n
end
section
variable {P : Program}
def leftE (ent : Ents) (seen : List Nat) : List MapEntry := (mapE 0 ent).filter fun e => !seen.contains e.born
end
section
variable {P : Program} {cx : Cx} {n : Nat} {S : SH} {L : Blocks} {F : Slots} {ro : Option Nat} {ops : Array Oper} {Q : Exit → Act → World → Prop} {rest : List Oper} {d : Nat} {ty : TypeId} {pos : String} {af : Array Edge} {g : Option (Nat × Bool)}
end
end Go.X
namespace Go.X
open Go Go.RowKit
set_option linter.unusedSectionVars false
/-- A kind of keys: how a key is held. -/
class KC (κ : Type) where
  kv : κ → Value
  ok : κ → Prop
abbrev GE (κ : Type) := List (κ × Value)
section
variable {κ : Type} [DecidableEq κ] [KC κ]
def mapG : Nat → GE κ → List MapEntry
  | _, [] => []
  | b, (k, v) :: r => ⟨KC.kv k, v, b⟩ :: mapG (b + 1) r
/-- A map that was never thinned: its entries, in the order in which they came. -/
def mapGO (ent : GE κ) : Obj := .map (mapG 0 ent).toArray ent.length
def lookG (k : κ) : GE κ → Option Value
  | [] => none
  | (k', v) :: r => if k = k' then some v else lookG k r
def upsG (k : κ) (v : Value) : GE κ → GE κ
  | [] => [(k, v)]
  | (k', v') :: r => if k = k' then (k, v) :: r else (k', v') :: upsG k v r
def posG (k : κ) : GE κ → Option Nat
  | [] => none
  | (k', _) :: r => if k = k' then some 0 else (posG k r).map (· + 1)
theorem mapG_length : ∀ (b : Nat) (ent : GE κ), (mapG b ent).length = ent.length
  | _, [] => rfl
  | b, (k, v) :: r => by simp [mapG, mapG_length (b + 1) r]
theorem mapG_at : ∀ (b : Nat) (ent : GE κ) (i : Nat), (mapG b ent)[i]? = ent[i]?.map fun p => ⟨KC.kv p.1, p.2, b + i⟩
  | _, [], i => by simp [mapG]
  | b, (k, v) :: r, 0 => by simp [mapG]
  | b, (k, v) :: r, i + 1 => by
    simp only [mapG, List.getElem?_cons_succ, mapG_at (b + 1) r i]
    congr 1; funext p; congr 1; omega
theorem mapG_app : ∀ (b : Nat) (ent : GE κ) (k : κ) (v : Value), mapG b (ent ++ [(k, v)]) = mapG b ent ++ [⟨KC.kv k, v, b + ent.length⟩]
  | _, [], k, v => by simp [mapG]
  | b, (k', v') :: r, k, v => by
    simp only [List.cons_append, mapG, mapG_app (b + 1) r k v, List.length_cons]
    rw [show b + (r.length + 1) = b + 1 + r.length by omega]
theorem lookG_pos : ∀ (k : κ) (ent : GE κ), (posG k ent = none ∧ lookG k ent = none ∧ ∀ v, upsG k v ent = ent ++ [(k, v)]) ∨ ∃ j v0, posG k ent = some j ∧ lookG k ent = some v0 ∧ ent[j]? = some (k, v0) ∧ ∀ v, upsG k v ent = ent.set j (k, v)
  | k, [] => .inl ⟨rfl, rfl, fun _ => rfl⟩
  | k, (k', v') :: r => by
    by_cases h : k = k'
    · subst h
      exact .inr ⟨0, v', by simp [posG], by simp [lookG], rfl, fun v => by simp [upsG]⟩
    · rcases lookG_pos k r with ⟨h1, h2, h3⟩ | ⟨j, v0, h1, h2, h3, h4⟩
      · exact .inl ⟨by simp [posG, h, h1], by simp [lookG, h, h2], fun v => by simp [upsG, h, h3]⟩
      · exact .inr ⟨j + 1, v0, by simp [posG, h, h1], by simp [lookG, h, h2], by simpa using h3, fun v => by simp [upsG, h, h4]⟩
theorem mapG_set : ∀ (b : Nat) (ent : GE κ) (j : Nat) (k : κ) (v v0 : Value), ent[j]? = some (k, v0) → (mapG b ent).set j ⟨KC.kv k, v, b + j⟩ = mapG b (ent.set j (k, v))
  | _, [], j, k, v, v0, h => by simp at h
  | b, (k', v') :: r, 0, k, v, v0, h => by simp [mapG]
  | b, (k', v') :: r, j + 1, k, v, v0, h => by
    simp only [mapG, List.set_cons_succ]
    rw [← mapG_set (b + 1) r j k v v0 (by simpa using h)]
    congr 3; omega
end
/-- The map's key type is of this kind. -/
class Kmp (P : Program) (kt : TypeId) (κ : Type) [DecidableEq κ] [KC κ] : Prop where
  check : ∀ (k : κ) (em : Bool) (w : World), KC.ok k → (Instr.checkKey em 10000 kt (KC.kv k)).run P w = .ok () w
  find : ∀ (k : κ) (ent : GE κ) (b : Nat) (w : World), KC.ok k → (∀ p ∈ ent, KC.ok p.1) → (Instr.findKey kt (KC.kv k) (mapG b ent)).run P w = .ok (match posG k ent with | none => none | some j => (lookG k ent).map fun v => (j, v)) w
  stays : ∀ (k : κ) (w : World), (Instr.keyThatStays (KC.kv k) (KC.kv k)).run P w = .ok (KC.kv k) w
section
variable {P : Program} {kt : TypeId} {κ : Type} [DecidableEq κ] [KC κ]
theorem run_mapUpdateG [hk : Kmp P kt κ] {T e : TypeId} (hT : P.underlying T = some (.map kt e)) {k : κ} (hl : KC.ok k) {v : Value} {w : World} {b : Nat} {ent : GE κ} (hE : (∀ p ∈ ent, KC.ok p.1)) (hb : w.heap[b]? = some (mapGO ent)) :
    (Instr.mapUpdate T (.map (some b)) (KC.kv k) v).run P w = .ok () { w with heap := w.heap.setIfInBounds b (mapGO (upsG k v ent)) } := by
  have hf := hk.find k ent 0 w hl hE
  unfold mapGO at hb
  rcases lookG_pos k ent with ⟨h1, h2, h3⟩ | ⟨j, v0, h1, h2, h3, h4⟩
  · rw [h1] at hf
    have e1 : mapGO (upsG k v ent) = .map ((mapG 0 ent).toArray.push ⟨KC.kv k, v, ent.length⟩) (ent.length + 1) := by
      rw [h3 v]; unfold mapGO
      rw [mapG_app]; simp
    rw [e1]
    simp [Instr.mapUpdate, run_underlying hT, MapKept.run_getObj_map hb, hk.check _ _ _ hl, hf, Result.andThen, MapKept.run_setObj_map _ hb]
  · rw [h1, h2] at hf
    have hj : j < ent.length := (List.getElem?_eq_some_iff.1 h3).1
    have e1 : mapGO (upsG k v ent) = .map ((mapG 0 ent).toArray.modify j fun x => { x with key := KC.kv k, val := v }) ent.length := by
      rw [h4 v]; unfold mapGO
      rw [← mapG_set 0 ent j k v v0 h3, List.length_set]
      congr 1
      apply Array.ext'
      simp only [Array.toList_modify]
      refine List.ext_getElem? fun i => ?_
      rw [List.getElem?_set, List.getElem?_modify]
      have hlen := mapG_length 0 ent
      by_cases hij : j = i
      · subst hij
        have hat : (mapG 0 ent)[j]? = some ⟨KC.kv k, v0, 0 + j⟩ := by rw [mapG_at, h3]; rfl
        have hj2 : j < (mapG 0 ent).length := by rw [hlen]; exact hj
        rw [if_pos hj2, hat]; simp
      · simp [hij]
    have e2 : ((mapG 0 ent).toArray[j]?.map (·.key)).getD (KC.kv k) = KC.kv k := by simp [mapG_at, h3]
    rw [e1]
    simp only [Instr.mapUpdate, Sem.run_bind, run_underlying hT, Result.andThen_ok, MapKept.run_getObj_map hb, hk.check _ _ _ hl, hf, Option.map_some, e2, hk.stays, MapKept.run_setObj_map _ hb]
theorem run_lookupG [hk : Kmp P kt κ] {T e : TypeId} (hT : P.underlying T = some (.map kt e)) {z : Value} [hz : Zr P e z] {k : κ} (hl : KC.ok k) {w : World} {b : Nat} {ent : GE κ} (hE : (∀ p ∈ ent, KC.ok p.1)) (hb : w.heap[b]? = some (mapGO ent)) :
    (Instr.lookup T (.map (some b)) (KC.kv k) false).run P w = .ok ((lookG k ent).getD z) w := by
  have hf := hk.find k ent 0 w hl hE
  unfold mapGO at hb
  rcases lookG_pos k ent with ⟨h1, h2, h3⟩ | ⟨j, v0, h1, h2, h3, h4⟩
  · rw [h1] at hf
    simp [Instr.lookup, run_underlying hT, MapKept.run_getObj_map hb, hk.check _ _ _ hl, hf, Result.andThen, run_zeroValue hz.zero, h2]
  · rw [h1, h2] at hf
    simp [Instr.lookup, run_underlying hT, MapKept.run_getObj_map hb, hk.check _ _ _ hl, hf, Result.andThen, h2]
end
section
variable {κ : Type} [DecidableEq κ] [KC κ] {P : Program} {cx : Cx} {n : Nat} {S S0 : SH} {L L0 : Blocks} {F : Slots} {ro : Option Nat} {ops : Array Oper} {Q : Exit → Act → World → Prop} {rest : List Oper} {d : Nat} {ty : TypeId} {pos : String} {af : Array Edge} {g : Option (Nat × Bool)} {fuel : Nat} {listed : Array Bool}
theorem ev_lookupG {T k e : TypeId} [hT : Mpt P T k e] [hK : Kmp P k κ] {z : Value} [hz : Zr P e z] {x y : Operand} {b : Nat} {ent : GE κ} {key : κ} (hx : evO F x = some (.map (some b))) (hy : evO F y = some (KC.kv key)) (hm : (b, mapGO ent) ∈ L) (hE : (∀ p ∈ ent, KC.ok p.1)) (hl : KC.ok key) :
    Ev P cx n S L F (.lookup T x y false) ty ((lookG key ent).getD z) := fun a w hf hs op hop _ => by
  have hb := hs.own _ hm
  simp [execOp, hop, hf.ev hx, hf.ev hy, run_lookupG hT.h hl hE hb]
theorem n_mapUpdateG {i : Nat} {T k e : TypeId} {x y z : Operand} {b : Nat} {ent : GE κ} {key : κ} {v : Value} {L' : Blocks} (hi : ops[i]? = some ⟨none, .mapUpdate T x y z, ty, pos, af, g⟩) (i1 : Mpt P T k e) (i2 : Kmp P k κ) (hg : want ops F g = some true) (hx : evO F x = some (.map (some b))) (hy : evO F y = some (KC.kv key)) (hz : evO F z = some v) (hE : (∀ p ∈ ent, KC.ok p.1)) (hl : KC.ok key)
    (hL : Upd L b (mapGO ent) (mapGO (upsG key v ent)) L') (hsub : L0.Sublist L → L0.Sublist L') (k : Wh P cx n S0 L0 ops Q fuel (listed.setIfInBounds i true) S L' F) : Wn P cx n S0 L0 ops Q fuel listed i S L F := by
  intro q1 q2 q3 a w hf hs
  obtain ⟨j, hj, rfl⟩ := hL.at_
  have hb := hs.own _ (List.mem_of_getElem? hj)
  simp only at hb
  have hlt := heap_lt hb
  have hs' : St cx S (L.set j (b, mapGO (upsG key v ent))) { w with heap := w.heap.setIfInBounds b (mapGO (upsG key v ent)) } := hs.set hj (by simp) rfl rfl rfl (by simp [hlt]) (fun c hc => by simp [Ne.symm hc])
  refine wpOp_at hi (wanted_of (o := ⟨none, .mapUpdate T x y z, ty, pos, af, g⟩) hf hg) ?_
  have hrun : (execOp a.eval ⟨none, .mapUpdate T x y z, ty, pos, af, g⟩).run P w = .ok .skip { w with heap := w.heap.setIfInBounds b (mapGO (upsG key v ent)) } := by
    simp [execOp, hf.ev hx, hf.ev hy, hf.ev hz, run_mapUpdateG i1.h hl hE hb]
  rw [hrun]
  exact ⟨hs'.less q1 q2 (hsub q3), k q1 q2 (hsub q3) _ _ hf hs'⟩
/-! ranges over such maps -/
def iterGO (b n : Nat) (seen : List Nat) : Obj := .mapIter (some b) n seen.toArray n
theorem s_rangeG {T k e : TypeId} [hT : Mpt P T k e] {x : Operand} {b : Nat} {ent : GE κ} (hg : want ops F g = some true) (hd : Nat.blt d n = true) (hx : evO F x = some (.map (some b))) (hm : (b, mapGO ent) ∈ L)
    (k : ∀ r, W cx n S ((r, iterGO b ent.length []) :: L) ((d, .pointer (some ⟨r, 0, none⟩)) :: F) (wpListIn (Fr ro) 0 P ops Q rest)) :
    W cx n S L F (wpListIn (Fr ro) 0 P ops Q (⟨some d, .range T x, ty, pos, af, g⟩ :: rest)) :=
  s_val hg rfl hd fun a w hf hs op hop _ => by
    have hb := hs.own _ hm
    unfold mapGO at hb
    refine ⟨S, _, _, _, ?_, hs.alloc (iterGO b ent.length []), k _⟩
    simp [execOp, hop, hf.ev hx, Instr.range, run_underlying hT.h, MapKept.run_getObj_map hb, iterGO]
end
section
variable {P : Program} {κ : Type} [DecidableEq κ] [KC κ]
theorem run_getObj_iterG {w : World} {r : Nat} {m : Option Nat} {a c : Nat} {sn : Array Nat} (hb : w.heap[r]? = some (.mapIter m a sn c)) : (getObj r).run P w = .ok (.mapIter m a sn c) w := by simp [getObj, Sem.run, hb]
theorem run_setObj_iterG {w : World} {r : Nat} {m : Option Nat} {a c : Nat} {sn : Array Nat} (o : Obj) (hb : w.heap[r]? = some (.mapIter m a sn c)) : (setObj r o).run P w = .ok () { w with heap := w.heap.setIfInBounds r o } := by simp [setObj, Sem.run, hb]
def leftG (ent : GE κ) (seen : List Nat) : List MapEntry := (mapG 0 ent).filter fun e => !seen.contains e.born
theorem mapG_born {ent : GE κ} {e : MapEntry} (h : e ∈ mapG 0 ent) : ∃ p, ent[e.born]? = some p ∧ e.key = KC.kv p.1 ∧ e.val = p.2 := by
  obtain ⟨i, hi⟩ := List.mem_iff_getElem?.1 h
  rw [mapG_at] at hi
  cases hp : ent[i]? with
  | none => rw [hp] at hi; cases hi
  | some p =>
    rw [hp] at hi
    simp only [Option.map_some, Option.some.injEq] at hi
    subst hi
    exact ⟨p, by simpa using hp, rfl, rfl⟩
theorem mapG_lt {ent : GE κ} {e : MapEntry} (h : e ∈ mapG 0 ent) : e.born < ent.length := by
  obtain ⟨p, hp, _⟩ := mapG_born h
  exact (List.getElem?_eq_some_iff.1 hp).1
theorem run_nextG {w : World} {r b : Nat} {ent : GE κ} {seen : List Nat} {ty : TypeId} (hr : w.heap[r]? = some (iterGO b ent.length seen)) (hb : w.heap[b]? = some (mapGO ent)) :
    (leftG ent seen = [] ∧ (Instr.next (.pointer (some ⟨r, 0, none⟩)) false ty).run P w = .ok (.tuple #[.bool false]) w) ∨
    ∃ e ∈ leftG ent seen, ∃ w1, (w1 = w ∨ w1 = w.drew) ∧ (Instr.next (.pointer (some ⟨r, 0, none⟩)) false ty).run P w = .ok (.tuple #[.bool true, e.key, e.val]) { w1 with heap := w1.heap.setIfInBounds r (iterGO b ent.length (seen ++ [e.born])) } := by
  unfold iterGO at hr
  unfold mapGO at hb
  have hold : (leftG ent seen).filter (fun e => decide (e.born < ent.length)) = leftG ent seen := List.filter_eq_self.2 fun e he => by
    have := mapG_lt (List.mem_filter.1 he).1
    simpa using this
  have hnew : (leftG ent seen).filter (fun e => decide (e.born ≥ ent.length)) = [] := List.filter_eq_nil_iff.2 fun e he => by
    have := mapG_lt (List.mem_filter.1 he).1
    simp; omega
  have hcond : (!(seen.toArray).isEmpty && !((mapG 0 ent).toArray).isEmpty && (mapG 0 ent).toArray.all (fun e => decide (e.born ≥ ent.length))) = false := by
    cases ent with
    | nil => simp [mapG]
    | cons p t => obtain ⟨k, v⟩ := p; simp [mapG]
  have hget := run_getObj_iterG (P := P) hr
  have hget2 := MapKept.run_getObj_map (P := P) hb
  have hleft : (mapG 0 ent).toArray.filter (fun e => !seen.toArray.contains e.born) = (leftG ent seen).toArray := by simp [leftG]
  have ho : (leftG ent seen).toArray.filter (fun e => decide (e.born < ent.length)) = (leftG ent seen).toArray := by simp [hold]
  have hn : (leftG ent seen).toArray.filter (fun e => decide (e.born ≥ ent.length)) = #[] := by simpa using hnew
  have hrun : (Instr.next (.pointer (some ⟨r, 0, none⟩)) false ty).run P w = ((choose (.mapNext ((if (leftG ent seen).toArray.isEmpty then #[none] else #[]) ++ (leftG ent seen).toArray.map some).size)).run P w).andThen fun i w1 =>
      (match ((if (leftG ent seen).toArray.isEmpty then #[none] else #[]) ++ (leftG ent seen).toArray.map some)[i]? with
        | some (some e) => (do setObj r (.mapIter (some b) ent.length (seen.toArray.push e.born) ent.length); pure (.tuple #[.bool true, e.key, e.val]) : Sem Value)
        | some none => pure (.tuple #[.bool false])
        | none => stuck "Next: no such candidate").run P w1 := by
    unfold Instr.next
    simp only [Sem.run_bind, hget, Result.andThen_ok, hget2, hcond, Bool.false_eq_true, if_false, hleft, ho, hn, Array.append_empty]
    rfl
  rw [hrun]
  clear hrun hget hget2 hleft ho hn hcond hold hnew hb
  cases hle : leftG ent seen with
  | nil => exact .inl ⟨rfl, by simp [Question.forced]⟩
  | cons e0 l =>
    refine .inr ?_
    have hsz : ((if (e0 :: l).toArray.isEmpty then #[none] else #[]) ++ (e0 :: l).toArray.map some) = ((e0 :: l).map some).toArray := by simp
    rw [hsz]
    have key : ∀ (i : Nat) (w1 : World), i < (e0 :: l).length → (w1 = w ∨ w1 = w.drew) → ∃ e ∈ e0 :: l, ∃ w2, (w2 = w ∨ w2 = w.drew) ∧
        (match ((e0 :: l).map some).toArray[i]? with
        | some (some e) => (do setObj r (.mapIter (some b) ent.length (seen.toArray.push e.born) ent.length); pure (.tuple #[.bool true, e.key, e.val]) : Sem Value)
        | some none => pure (.tuple #[.bool false])
        | none => stuck "Next: no such candidate").run P w1 = .ok (.tuple #[.bool true, e.key, e.val]) { w2 with heap := w2.heap.setIfInBounds r (iterGO b ent.length (seen ++ [e.born])) } := by
      intro i w1 hi hw1
      have hh : w1.heap[r]? = some (.mapIter (some b) ent.length seen.toArray ent.length) := by rcases hw1 with rfl | rfl <;> exact hr
      refine ⟨(e0 :: l)[i], List.getElem_mem hi, w1, hw1, ?_⟩
      have hat : ((e0 :: l).map some).toArray[i]? = some (some (e0 :: l)[i]) := by
        rw [List.getElem?_toArray, List.getElem?_map, List.getElem?_eq_getElem hi]; rfl
      rw [hat]
      simp only [Sem.run_bind, run_setObj_iterG _ hh, Result.andThen_ok, iterGO]
      simp
    rw [run_choose_drew]
    split
    · exact key 0 w (by simp) (.inl rfl)
    · refine key _ w.drew ?_ (.inr rfl)
      simp only [Question.cut, List.size_toArray, List.length_map]
      exact Nat.mod_lt _ (by simp)
theorem leftG_nil {ent : GE κ} {seen : List Nat} (h : leftG ent seen = []) : ∀ i, i < ent.length → i ∈ seen := fun i hi => by
  have h1 := List.filter_eq_nil_iff.1 h
  have h2 : (mapG 0 ent)[i]? = some ⟨KC.kv ent[i].1, ent[i].2, 0 + i⟩ := by rw [mapG_at, List.getElem?_eq_getElem hi]; rfl
  have h3 := h1 _ (List.mem_of_getElem? h2)
  simpa using h3
theorem leftG_at {ent : GE κ} {seen : List Nat} {e : MapEntry} (h : e ∈ leftG ent seen) : e.born ∉ seen ∧ ∃ p, ent[e.born]? = some p ∧ e.key = KC.kv p.1 ∧ e.val = p.2 := by
  obtain ⟨h1, h2⟩ := List.mem_filter.1 h
  exact ⟨by simpa using h2, mapG_born h1⟩
theorem run_entryG {w : World} {r b i : Nat} {ent : GE κ} {seen : List Nat} {k : κ} {v : Value} (hr : w.heap[r]? = some (iterGO b ent.length (seen ++ [i]))) (hb : w.heap[b]? = some (mapGO ent)) (hi : ent[i]? = some (k, v)) :
    (Instr.entry (.pointer (some ⟨r, 0, none⟩))).run P w = .ok (.tuple #[KC.kv k, v]) w := by
  unfold iterGO at hr
  unfold mapGO at hb
  have hfind : (mapG 0 ent).find? (fun e => e.born == i) = some ⟨KC.kv k, v, i⟩ := by
    have hil : i < (mapG 0 ent).length := by rw [mapG_length]; exact (List.getElem?_eq_some_iff.1 hi).1
    have hat : (mapG 0 ent)[i]? = some ⟨KC.kv k, v, i⟩ := by rw [mapG_at, hi]; simp
    rw [List.find?_eq_some_iff_getElem]
    refine ⟨by simp, i, hil, ?_, fun j hj => ?_⟩
    · rw [List.getElem?_eq_getElem hil] at hat; exact Option.some.inj hat
    · have hjl : j < (mapG 0 ent).length := by omega
      have hj2 : (mapG 0 ent)[j]? = some (mapG 0 ent)[j] := List.getElem?_eq_getElem hjl
      rw [mapG_at] at hj2
      cases hp : ent[j]? with
      | none => rw [hp] at hj2; cases hj2
      | some p =>
        rw [hp] at hj2
        simp only [Option.map_some, Option.some.injEq] at hj2
        rw [← hj2]
        simp; omega
  have hback : (seen ++ [i]).toArray.back? = some i := by simp
  simp only [Instr.entry, Sem.run_bind, run_getObj_iterG hr, Result.andThen_ok, hback, MapKept.run_getObj_map hb]
  simp [hfind]
end
section
variable {κ : Type} [DecidableEq κ] [KC κ] {P : Program} {cx : Cx} {n : Nat} {S : SH} {L : Blocks} {F : Slots} {ro : Option Nat} {ops : Array Oper} {Q : Exit → Act → World → Prop} {rest : List Oper} {d : Nat} {ty : TypeId} {pos : String} {af : Array Edge} {g : Option (Nat × Bool)}
theorem s_nextG {x : Operand} {r b : Nat} {ent : GE κ} {seen : List Nat} {L' : Nat → Blocks} (hg : want ops F g = some true) (hd : Nat.blt d n = true) (hx : evO F x = some (.pointer (some ⟨r, 0, none⟩))) (hm : (b, mapGO ent) ∈ L) (hL : ∀ i, Upd L r (iterGO b ent.length seen) (iterGO b ent.length (seen ++ [i])) (L' i))
    (k1 : (∀ i, i < ent.length → i ∈ seen) → W cx n S L ((d, .tuple [Value.bool false].toArray) :: F) (wpListIn (Fr ro) 0 P ops Q rest))
    (k2 : ∀ i k v, i ∉ seen → ent[i]? = some (k, v) → W cx n S (L' i) ((d, .tuple [Value.bool true, KC.kv k, v].toArray) :: F) (wpListIn (Fr ro) 0 P ops Q rest)) :
    W cx n S L F (wpListIn (Fr ro) 0 P ops Q (⟨some d, .next x false, ty, pos, af, g⟩ :: rest)) :=
  s_val hg rfl hd fun a w hf hs op hop hty => by
    have hb := hs.own _ hm
    obtain ⟨j, hj, hL1⟩ := (hL 0).at_
    have hr := hs.own _ (List.mem_of_getElem? hj)
    simp only at hb hr
    rcases run_nextG (P := P) (ty := ty) hr hb with ⟨h1, h2⟩ | ⟨e, he, w1, hw1, h2⟩
    · exact ⟨S, L, _, w, by simp [execOp, hop, hf.ev hx, hty, h2], hs, k1 (leftG_nil h1)⟩
    · obtain ⟨q1, p, q2, q3, q4⟩ := leftG_at he
      obtain ⟨j2, hj2, hL2⟩ := (hL e.born).at_
      have hs1 : St cx S L w1 := hw1.elim (fun e => e ▸ hs) (fun e => e ▸ hs.drew)
      have hr1 : w1.heap[r]? = some (iterGO b ent.length seen) := hs1.own _ (List.mem_of_getElem? hj2)
      have hlt := heap_lt hr1
      refine ⟨S, L' e.born, .tuple #[.bool true, e.key, e.val], { w1 with heap := w1.heap.setIfInBounds r (iterGO b ent.length (seen ++ [e.born])) }, by simp only [execOp, hop, hf.ev hx, hty, Sem.run_bind, h2, Result.andThen_ok, Sem.run_pure], ?_, ?_⟩
      · rw [hL2]
        exact hs1.set hj2 (by simp) rfl rfl rfl (by simp [hlt]) (fun c hc => by simp [Ne.symm hc])
      · rw [q3, q4]; exact k2 e.born p.1 p.2 q1 q2
theorem ev_entryG {x : Operand} {r b i : Nat} {ent : GE κ} {seen : List Nat} {k : κ} {v : Value} (hx : evO F x = some (.pointer (some ⟨r, 0, none⟩))) (hm : (b, mapGO ent) ∈ L) (hr : (r, iterGO b ent.length (seen ++ [i])) ∈ L) (hi : ent[i]? = some (k, v)) :
    Ev P cx n S L F (.entry x) ty (.tuple [KC.kv k, v].toArray) := fun a w hf hs op hop _ => by
  simp [execOp, hop, hf.ev hx, run_entryG (hs.own _ hr) (hs.own _ hm) hi]
end
section
variable {P : Program} {kt : TypeId} {κ : Type} [DecidableEq κ] [KC κ]
end
section
variable {κ : Type} [DecidableEq κ] [KC κ] {P : Program} {cx : Cx} {n : Nat} {S : SH} {L : Blocks} {F : Slots} {ty : TypeId}
end
/-! ### Keys that are strings -/
instance : DecidableEq Str := fun a b => match a, b with | ⟨x⟩, ⟨y⟩ => if h : x = y then isTrue (by rw [h]) else isFalse (fun e => h (by injection e))
instance : KC Str := ⟨fun s => strV s.b, fun _ => True⟩
theorem str_beq (a b : Bs) : ((⟨a.toArray⟩ : ByteArray) == ⟨b.toArray⟩) = (a == b) := by
  have h : ((⟨a.toArray⟩ : ByteArray) == ⟨b.toArray⟩) = (a.toArray == b.toArray) := rfl
  rw [h]; simp
section
variable {P : Program} {kt : TypeId}
theorem findNow_str (k : Str) : ∀ (ent : GE Str) (b i : Nat), Instr.findNow .string (strV k.b) (mapG b ent) i = some (match posG k ent with | none => none | some j => (lookG k ent).map fun v => (i + j, v))
  | [], b, i => rfl
  | (k', v) :: r, b, i => by
    have ih := findNow_str k r (b + 1) (i + 1)
    simp only [mapG, Instr.findNow]
    have e : Instr.sameNow .string (strV k.b) (KC.kv k') = some (decide (k = k')) := by
      show some ((⟨k.b.toArray⟩ : ByteArray) == ⟨k'.b.toArray⟩) = _
      rw [str_beq]
      obtain ⟨x⟩ := k
      obtain ⟨y⟩ := k'
      by_cases h : x = y
      · subst h; simp
      · simp [h]
    rw [e]
    by_cases h : k = k'
    · subst h; simp [posG, lookG]
    · simp only [decide_eq_false h, posG, lookG, if_neg h, ih]
      cases hp : posG k r with
      | none => simp
      | some j => simp only [Option.map_some]; cases lookG k r <;> simp [Nat.add_assoc, Nat.add_comm 1 j]
instance kmp_str [hs : Strg P kt] : Kmp P kt Str where
  check := fun k em w _ => by
    unfold Instr.checkKey
    simp [run_underlying hs.h, KC.kv]
  find := fun k ent b w _ _ => by
    have h := findNow_str k ent b 0
    simp only [Nat.zero_add] at h
    simp only [Instr.findKey, Sem.run_bind, run_underlying hs.h, Result.andThen_ok]
    rw [show Instr.findNow .string (KC.kv k) (mapG b ent) 0 = _ from h]
    rfl
  stays := fun k w => by
    have h : Instr.sameBits 10000 (KC.kv k) (KC.kv k) = true := by
      show ((⟨k.b.toArray⟩ : ByteArray) == ⟨k.b.toArray⟩) = true
      rw [str_beq]; simp
    unfold Instr.keyThatStays
    rw [h]; rfl
end
end Go.X
namespace Go.X
open Go Go.RowKit
set_option linter.unusedSectionVars false
section
variable {κ : Type} [DecidableEq κ] [KC κ]
theorem upsG_ups (k : κ) (u v : Value) : ∀ ent : GE κ, upsG k v (upsG k u ent) = upsG k v ent
  | [] => by simp [upsG]
  | (k', v') :: r => by
    by_cases h : k = k'
    · simp [upsG, h]
    · simp [upsG, h, upsG_ups k u v r]
theorem posG_app (k : κ) (v : Value) : ∀ ent : GE κ, posG k ent = none → posG k (ent ++ [(k, v)]) = some ent.length
  | [], _ => by simp [posG]
  | (k', v') :: r, h => by
    by_cases hkk : k = k'
    · subst hkk; simp [posG] at h
    · simp only [posG, if_neg hkk, Option.map_eq_none_iff] at h
      simp only [List.cons_append, posG, if_neg hkk, posG_app k v r h, Option.map_some, List.length_cons]
theorem mapG_find (i : Nat) : ∀ (ent : GE κ) (c : Nat), (mapG c ent).findIdx? (fun e => (e.born : Int) == ((c + i : Nat) : Int)) = if i < ent.length then some i else none := by
  intro ent
  induction ent generalizing i with
  | nil => intro c; simp [mapG]
  | cons p r ih =>
    intro c
    obtain ⟨k, v⟩ := p
    cases i with
    | zero => simp [mapG, List.findIdx?_cons]
    | succ i =>
      have e := ih i (c + 1)
      rw [show c + 1 + i = c + (i + 1) by omega] at e
      have hne : ¬ (c = c + (i + 1)) := by omega
      simp only [mapG, List.findIdx?_cons, e, List.length_cons, Nat.add_lt_add_iff_right]
      have hb : (((c : Nat) : Int) == ((c + (i + 1) : Nat) : Int)) = false := by
        rw [beq_eq_false_iff_ne]; intro h; exact hne (by exact_mod_cast h)
      rw [hb]
      split <;> simp_all
end
section
variable {P : Program} {kt : TypeId} {κ : Type} [DecidableEq κ] [KC κ]
theorem run_mapEntryG [hk : Kmp P kt κ] {T e : TypeId} (hT : P.underlying T = some (.map kt e)) {z : Value} [hz : Zr P e z] {k : κ} (hl : KC.ok k) {w : World} {b : Nat} {ent : GE κ} (hE : (∀ p ∈ ent, KC.ok p.1)) (hb : w.heap[b]? = some (mapGO ent)) :
    ∃ j, posG k (upsG k ((lookG k ent).getD z) ent) = some j ∧ (Instr.mapEntry T (.map (some b)) (KC.kv k)).run P w = .ok (.tuple #[(lookG k ent).getD z, .int .i64 (j : Nat)]) { w with heap := w.heap.setIfInBounds b (mapGO (upsG k ((lookG k ent).getD z) ent)) } := by
  have hf := hk.find k ent 0 w hl hE
  unfold mapGO at hb
  rcases lookG_pos k ent with ⟨h1, h2, h3⟩ | ⟨j, v0, h1, h2, h3, h4⟩
  · rw [h1] at hf
    refine ⟨ent.length, ?_, ?_⟩
    · rw [h3]; exact posG_app k _ ent h1
    have e1 : mapGO (upsG k z ent) = .map ((mapG 0 ent).toArray.push ⟨KC.kv k, z, ent.length⟩) (ent.length + 1) := by
      rw [h3 z]; unfold mapGO
      rw [mapG_app]; simp
    rw [h2]
    simp only [Option.getD_none]
    rw [e1]
    simp [Instr.mapEntry, run_underlying hT, MapKept.run_getObj_map hb, hk.check _ _ _ hl, hf, Result.andThen, MapKept.run_setObj_map _ hb, run_zeroValue hz.zero, goInt]
  · rw [h1, h2] at hf
    have hj : j < ent.length := (List.getElem?_eq_some_iff.1 h3).1
    have e0 : upsG k v0 ent = ent := by
      rw [h4]
      obtain ⟨hj1, hj2⟩ := List.getElem?_eq_some_iff.1 h3
      rw [← hj2]; exact List.set_getElem_self hj1
    refine ⟨j, by rw [h2, Option.getD_some, e0]; exact h1, ?_⟩
    rw [h2]
    simp only [Option.getD_some]
    have e1 : mapGO (upsG k v0 ent) = .map ((mapG 0 ent).toArray.modify j fun x => { x with key := KC.kv k }) ent.length := by
      rw [e0]; unfold mapGO
      congr 1
      apply Array.ext'
      simp only [Array.toList_modify]
      refine List.ext_getElem? fun i => ?_
      rw [List.getElem?_modify]
      by_cases hij : j = i
      · subst hij
        have hat : (mapG 0 ent)[j]? = some ⟨KC.kv k, v0, 0 + j⟩ := by rw [mapG_at, h3]; rfl
        rw [hat]; simp
      · simp [hij]
    have e2 : ((mapG 0 ent).toArray[j]?.map (·.key)).getD (KC.kv k) = KC.kv k := by simp [mapG_at, h3]
    have e3 : ((mapG 0 ent).toArray[j]?.map (fun x => (x.born : Int))).getD 0 = (j : Int) := by simp [mapG_at, h3]
    rw [e1]
    simp only [Instr.mapEntry, Sem.run_bind, run_underlying hT, Result.andThen_ok, MapKept.run_getObj_map hb, hk.check _ _ _ hl, hf, Option.map_some, e2, e3, hk.stays, MapKept.run_setObj_map _ hb, goInt]
    rfl
theorem run_entryStoreG {T : TypeId} {k : κ} {w : World} {b j : Nat} {ent : GE κ} {v : Value} (hp : posG k ent = some j) (hb : w.heap[b]? = some (mapGO ent)) :
    (Instr.entryStore T (.map (some b)) (.int .i64 (j : Nat)) v).run P w = .ok () { w with heap := w.heap.setIfInBounds b (mapGO (upsG k v ent)) } := by
  unfold mapGO at hb
  rcases lookG_pos k ent with ⟨h1, h2, h3⟩ | ⟨j', v0, h1, h2, h3, h4⟩
  · rw [h1] at hp; cases hp
  · rw [h1] at hp
    obtain rfl : j' = j := Option.some.inj hp
    have hj : j' < ent.length := (List.getElem?_eq_some_iff.1 h3).1
    have hfi : (mapG 0 ent).toArray.findIdx? (fun e => (e.born : Int) == ((j' : Nat) : Int)) = some j' := by
      have := mapG_find (κ := κ) j' ent 0
      rw [Nat.zero_add, if_pos hj] at this
      simpa using this
    have e1 : mapGO (upsG k v ent) = .map ((mapG 0 ent).toArray.modify j' fun x => { x with val := v }) ent.length := by
      rw [h4 v]; unfold mapGO
      rw [← mapG_set 0 ent j' k v v0 h3, List.length_set]
      congr 1
      apply Array.ext'
      simp only [Array.toList_modify]
      refine List.ext_getElem? fun i => ?_
      rw [List.getElem?_set, List.getElem?_modify]
      have hlen := mapG_length 0 ent
      by_cases hij : j' = i
      · subst hij
        have hat : (mapG 0 ent)[j']? = some ⟨KC.kv k, v0, 0 + j'⟩ := by rw [mapG_at, h3]; rfl
        have hj2 : j' < (mapG 0 ent).length := by rw [hlen]; exact hj
        rw [if_pos rfl, if_pos hj2, hat]; simp
      · simp [hij]
    rw [e1]
    simp only [Instr.entryStore, Sem.run_bind, Result.andThen_ok, MapKept.run_getObj_map hb, asInt, asIntOf, Sem.run_pure, hfi, MapKept.run_setObj_map _ hb]
end
section
variable {κ : Type} [DecidableEq κ] [KC κ] {P : Program} {cx : Cx} {n : Nat} {S S0 : SH} {L L0 : Blocks} {F : Slots} {ro : Option Nat} {ops : Array Oper} {Q : Exit → Act → World → Prop} {rest : List Oper} {d : Nat} {ty : TypeId} {pos : String} {af : Array Edge} {g : Option (Nat × Bool)} {fuel : Nat} {listed : Array Bool}
theorem s_mapEntryG {T k e : TypeId} [i1 : Mpt P T k e] [i2 : Kmp P k κ] {z : Value} [hz : Zr P e z] {x y : Operand} {b : Nat} {ent : GE κ} {key : κ} {L' : Blocks} (hg : want ops F g = some true) (hd : Nat.blt d n = true) (hx : evO F x = some (.map (some b))) (hy : evO F y = some (KC.kv key)) (hE : (∀ p ∈ ent, KC.ok p.1)) (hl : KC.ok key)
    (hL : Upd L b (mapGO ent) (mapGO (upsG key ((lookG key ent).getD z) ent)) L')
    (k : ∀ j, posG key (upsG key ((lookG key ent).getD z) ent) = some j → W cx n S L' ((d, .tuple [(lookG key ent).getD z, .int .i64 (j : Nat)].toArray) :: F) (wpListIn (Fr ro) 0 P ops Q rest)) :
    W cx n S L F (wpListIn (Fr ro) 0 P ops Q (⟨some d, .mapEntry T x y, ty, pos, af, g⟩ :: rest)) :=
  s_val hg rfl hd fun a w hf hs op hop _ => by
    obtain ⟨i, hi, rfl⟩ := hL.at_
    have hb := hs.own _ (List.mem_of_getElem? hi)
    simp only at hb
    have hlt := heap_lt hb
    obtain ⟨j, hj, hr⟩ := run_mapEntryG (z := z) i1.h hl hE hb
    refine ⟨S, _, _, { w with heap := w.heap.setIfInBounds b (mapGO (upsG key ((lookG key ent).getD z) ent)) }, ?_, hs.set hi (by simp) rfl rfl rfl (by simp [hlt]) (fun c hc => by simp [Ne.symm hc]), k j hj⟩
    simp [execOp, hop, hf.ev hx, hf.ev hy, hr]
theorem s_entryStoreG {T : TypeId} {x y z : Operand} {b j : Nat} {ent : GE κ} {key : κ} {v : Value} {L' : Blocks} (hp : posG key ent = some j) (hg : want ops F g = some true) (hx : evO F x = some (.map (some b))) (hy : evO F y = some (.int .i64 (j : Nat))) (hz : evO F z = some v)
    (hL : Upd L b (mapGO ent) (mapGO (upsG key v ent)) L') (k : W cx n S L' F (wpListIn (Fr ro) 0 P ops Q rest)) :
    W cx n S L F (wpListIn (Fr ro) 0 P ops Q (⟨none, .entryStore T x y z, ty, pos, af, g⟩ :: rest)) := by
  refine s_wr (x := .skip) (S' := S) (L' := L') (fun a w hf hs => ?_) (.inl ⟨rfl, rfl⟩) hg rfl k
  obtain ⟨i, hi, rfl⟩ := hL.at_
  have hb := hs.own _ (List.mem_of_getElem? hi)
  simp only at hb
  have hlt := heap_lt hb
  refine ⟨{ w with heap := w.heap.setIfInBounds b (mapGO (upsG key v ent)) }, fun op hop _ => ?_, hs.set hi (by simp) rfl rfl rfl (by simp [hlt]) (fun c hc => by simp [Ne.symm hc])⟩
  simp [execOp, hop, hf.ev hx, hf.ev hy, hf.ev hz, run_entryStoreG (P := P) (T := T) hp hb]
theorem n_mapEntryG {i : Nat} {T k e : TypeId} {z : Value} {x y : Operand} {b : Nat} {ent : GE κ} {key : κ} {L' : Blocks} (hi : ops[i]? = some ⟨some d, .mapEntry T x y, ty, pos, af, g⟩) (i1 : Mpt P T k e) (i2 : Kmp P k κ) (hz : Zr P e z) (hg : want ops F g = some true) (hd : Nat.blt d n = true) (hx : evO F x = some (.map (some b))) (hy : evO F y = some (KC.kv key)) (hE : (∀ p ∈ ent, KC.ok p.1)) (hl : KC.ok key)
    (hL : Upd L b (mapGO ent) (mapGO (upsG key ((lookG key ent).getD z) ent)) L') (hsub : L0.Sublist L → L0.Sublist L')
    (k : ∀ j, posG key (upsG key ((lookG key ent).getD z) ent) = some j → Wh P cx n S0 L0 ops Q fuel (listed.setIfInBounds i true) S L' ((d, .tuple [(lookG key ent).getD z, .int .i64 (j : Nat)].toArray) :: F)) : Wn P cx n S0 L0 ops Q fuel listed i S L F := by
  intro q1 q2 q3 a w hf hs
  obtain ⟨i', hi', rfl⟩ := hL.at_
  have hb := hs.own _ (List.mem_of_getElem? hi')
  simp only at hb
  have hlt := heap_lt hb
  obtain ⟨j, hj, hr⟩ := run_mapEntryG (z := z) i1.h hl hE hb
  have hs' : St cx S (L.set i' (b, mapGO (upsG key ((lookG key ent).getD z) ent))) { w with heap := w.heap.setIfInBounds b (mapGO (upsG key ((lookG key ent).getD z) ent)) } := hs.set hi' (by simp) rfl rfl rfl (by simp [hlt]) (fun c hc => by simp [Ne.symm hc])
  refine wpOp_at hi (wanted_of (o := ⟨some d, .mapEntry T x y, ty, pos, af, g⟩) hf hg) ?_
  have hrun : (execOp a.eval ⟨some d, .mapEntry T x y, ty, pos, af, g⟩).run P w = .ok (.value (.tuple #[(lookG key ent).getD z, .int .i64 (j : Nat)])) { w with heap := w.heap.setIfInBounds b (mapGO (upsG key ((lookG key ent).getD z) ent)) } := by
    simp [execOp, hf.ev hx, hf.ev hy, hr]
  rw [hrun]
  exact ⟨hs'.less q1 q2 (hsub q3), k j hj q1 q2 (hsub q3) _ _ (hf.put _ hd) hs'⟩
theorem n_entryStoreG {i : Nat} {T : TypeId} {x y z : Operand} {b j : Nat} {ent : GE κ} {key : κ} {v : Value} {L' : Blocks} (hp : posG key ent = some j) (hi : ops[i]? = some ⟨none, .entryStore T x y z, ty, pos, af, g⟩) (hg : want ops F g = some true) (hx : evO F x = some (.map (some b))) (hy : evO F y = some (.int .i64 (j : Nat))) (hz : evO F z = some v)
    (hL : Upd L b (mapGO ent) (mapGO (upsG key v ent)) L') (hsub : L0.Sublist L → L0.Sublist L') (k : Wh P cx n S0 L0 ops Q fuel (listed.setIfInBounds i true) S L' F) : Wn P cx n S0 L0 ops Q fuel listed i S L F := by
  intro q1 q2 q3 a w hf hs
  obtain ⟨i', hi', rfl⟩ := hL.at_
  have hb := hs.own _ (List.mem_of_getElem? hi')
  simp only at hb
  have hlt := heap_lt hb
  have hs' : St cx S (L.set i' (b, mapGO (upsG key v ent))) { w with heap := w.heap.setIfInBounds b (mapGO (upsG key v ent)) } := hs.set hi' (by simp) rfl rfl rfl (by simp [hlt]) (fun c hc => by simp [Ne.symm hc])
  refine wpOp_at hi (wanted_of (o := ⟨none, .entryStore T x y z, ty, pos, af, g⟩) hf hg) ?_
  have hrun : (execOp a.eval ⟨none, .entryStore T x y z, ty, pos, af, g⟩).run P w = .ok .skip { w with heap := w.heap.setIfInBounds b (mapGO (upsG key v ent)) } := by
    simp [execOp, hf.ev hx, hf.ev hy, hf.ev hz, run_entryStoreG (P := P) (T := T) hp hb]
  rw [hrun]
  exact ⟨hs'.less q1 q2 (hsub q3), k q1 q2 (hsub q3) _ _ hf hs'⟩
end
/-! ### Keys that are arrays of twelve strings -/
structure Pth where
  l : List Bs
instance : DecidableEq Pth := fun a b => match a, b with | ⟨x⟩, ⟨y⟩ => if h : x = y then isTrue (by rw [h]) else isFalse (fun e => h (by injection e))
instance : KC Pth := ⟨fun p => .agg (p.l.map strV).toArray, fun p => p.l.length = 12⟩
class Kas (P : Program) (t : TypeId) : Prop where
  ex : ∃ e, P.underlying t = some (.array 12 e) ∧ P.underlying e = some .string ∧ (P.info? e).map (·.size) = some 1
section
variable {P : Program} {kt : TypeId}
theorem run_part_str {e : TypeId} (he : P.underlying e = some .string) {k : List Bs} {i : Nat} {x : Bs} (hx : k[i]? = some x) (w : World) : (part e (k.map strV).toArray (i * 1)).run P w = .ok (strV x) w := by
  have h1 : (isAgg e).run P w = .ok false w := run_isAgg he rfl
  simp [part, h1, hx]
theorem run_eqItems_strs {e : TypeId} (he : P.underlying e = some .string) (d : Nat) (w : World) (a b : List Bs) : ∀ (is : List Nat), (∀ i ∈ is, i < a.length ∧ i < b.length) →
    (Op.eqItems (d + 1) e 1 (a.map strV).toArray (b.map strV).toArray is).run P w = .ok (is.all fun i => a[i]? == b[i]?) w
  | [], _ => by simp [Op.eqItems]
  | i :: is, h => by
    obtain ⟨h1, h2⟩ := h i List.mem_cons_self
    have ih := run_eqItems_strs he d w a b is (fun j hj => h j (List.mem_cons_of_mem _ hj))
    have p1 := run_part_str he (List.getElem?_eq_getElem h1) w
    have p2 := run_part_str he (List.getElem?_eq_getElem h2) w
    have p3 : (Op.equalIn (d + 1) e (strV a[i]) (strV b[i])).run P w = .ok (a[i] == b[i]) w := by
      have : (Op.equalIn (d + 1) e (strV a[i]) (strV b[i])).run P w = .ok ((⟨a[i].toArray⟩ : ByteArray) == ⟨b[i].toArray⟩) w := by simp [Op.equalIn, run_underlying he]
      rw [this, str_beq]
    have p4 : (a[i]? == b[i]?) = (a[i] == b[i]) := by rw [List.getElem?_eq_getElem h1, List.getElem?_eq_getElem h2]; simp
    simp only [Op.eqItems, Sem.run_bind, p1, p2, p3, Result.andThen_ok, List.all_cons, p4]
    cases hfg : a[i] == b[i]
    · simp
    · simp [ih]
theorem pths_eq {a b : List Bs} (ha : a.length = 12) (hb : b.length = 12) : ((List.range 12).all fun i => a[i]? == b[i]?) = decide (a = b) := by
  by_cases h : a = b
  · subst h; simp
  · rw [decide_eq_false h, List.all_eq_false]
    by_cases hall : ∀ i, i < 12 → a[i]? = b[i]?
    · exact absurd (List.ext_getElem? fun i => by
        rcases Nat.lt_or_ge i 12 with hi | hi
        · exact hall i hi
        · rw [List.getElem?_eq_none (by omega), List.getElem?_eq_none (by omega)]) h
    · obtain ⟨i, hi⟩ := Classical.not_forall.1 hall
      obtain ⟨h1, h2⟩ := Classical.not_imp.1 hi
      exact ⟨i, List.mem_range.2 h1, by simpa using h2⟩
theorem run_pth_eq [hk : Kas P kt] {a b : List Bs} (ha : a.length = 12) (hb : b.length = 12) (w : World) : (Op.equal kt (.agg (a.map strV).toArray) (.agg (b.map strV).toArray)).run P w = .ok (decide (a = b)) w := by
  obtain ⟨e, h1, h2, h3⟩ := hk.ex
  cases hi : P.info? e with
  | none => simp [hi] at h3
  | some i =>
    simp [hi] at h3
    have hc : P.cellsOf e = 1 := by simp [Program.cellsOf, hi, h3]
    have hr := run_equalIn_array (P := P) (w := w) 9999 (a.map strV).toArray (b.map strV).toArray h1 hi
    rw [hc, run_eqItems_strs h2 9998 w a b (List.range 12) (fun i hi => by have := List.mem_range.1 hi; omega), pths_eq ha hb] at hr
    exact hr
theorem run_checkPth [hk : Kas P kt] {a : List Bs} (ha : a.length = 12) (em : Bool) (w : World) : (Instr.checkKey em 10000 kt (.agg (a.map strV).toArray)).run P w = .ok () w := by
  obtain ⟨e, h1, h2, h3⟩ := hk.ex
  match a, ha with
  | [a0, a1, a2, a3, a4, a5, a6, a7, a8, a9, a10, a11], _ =>
    have p : ∀ i x, [a0, a1, a2, a3, a4, a5, a6, a7, a8, a9, a10, a11][i]? = some x → (part e ([a0, a1, a2, a3, a4, a5, a6, a7, a8, a9, a10, a11].map strV).toArray i).run P w = .ok (strV x) w := fun i x h => by have := run_part_str h2 h w; rwa [Nat.mul_one] at this
    have q : ∀ (d : Nat) x, (Instr.checkKey em (d + 1) e (strV x)).run P w = .ok () w := fun d x => by unfold Instr.checkKey; simp [run_underlying h2]
    have key : ∀ d : Nat, (Instr.checkKey em (d + 2) kt (.agg ([a0, a1, a2, a3, a4, a5, a6, a7, a8, a9, a10, a11].map strV).toArray)).run P w = .ok () w := fun d => by
      have p0 := p 0 a0 rfl
      have p1 := p 1 a1 rfl
      have p2 := p 2 a2 rfl
      have p3 := p 3 a3 rfl
      have p4 := p 4 a4 rfl
      have p5 := p 5 a5 rfl
      have p6 := p 6 a6 rfl
      have p7 := p 7 a7 rfl
      have p8 := p 8 a8 rfl
      have p9 := p 9 a9 rfl
      have p10 := p 10 a10 rfl
      have p11 := p 11 a11 rfl
      unfold Instr.checkKey
      simp [run_underlying h1, run_sizeOf h3, List.range'] at *
      simp [p0, p1, p2, p3, p4, p5, p6, p7, p8, p9, p10, p11, q, Result.andThen]
    exact key 9998
theorem run_findPth [hk : Kas P kt] {k : Pth} (hl : k.l.length = 12) (w : World) : ∀ (b i : Nat) (ent : GE Pth), (∀ p ∈ ent, KC.ok p.1) →
    (Instr.findAsking kt (KC.kv k) (mapG b ent) i).run P w = .ok (match posG k ent with | none => none | some j => (lookG k ent).map fun v => (i + j, v)) w
  | b, i, [], _ => by simp [mapG, Instr.findAsking, posG]
  | b, i, (k', v) :: r, h => by
    have h4 : k'.l.length = 12 := h _ List.mem_cons_self
    have ih := run_findPth hl w (b + 1) (i + 1) r (fun p hp => h p (List.mem_cons_of_mem _ hp))
    have he : (Op.equal kt (KC.kv k) (KC.kv k')).run P w = .ok (decide (k.l = k'.l)) w := run_pth_eq hl h4 w
    simp only [mapG, Instr.findAsking, Sem.run_bind, he, Result.andThen_ok]
    by_cases hkk : k = k'
    · subst hkk; simp [posG, lookG]
    · have hb : k.l ≠ k'.l := fun e => hkk (by cases k; cases k'; simp at e; rw [e])
      simp only [decide_eq_false hb, Bool.false_eq_true, if_false, ih, posG, lookG, if_neg hkk]
      cases hp : posG k r with
      | none => simp
      | some j => simp only [Option.map_some]; cases lookG k r <;> simp [Nat.add_assoc, Nat.add_comm 1 j]
theorem sameBits_strs : ∀ (k : List Bs) (d : Nat), Instr.sameBits (d + 2) (.agg (k.map strV).toArray) (.agg (k.map strV).toArray) = true := fun k d => by
  have h : ∀ l : List Value, (∀ v ∈ l, ∃ x : Bs, v = strV x) → ((l.zip l).all fun (x, y) => Instr.sameBits (d + 1) x y) = true := by
    intro l
    induction l with
    | nil => intro _; rfl
    | cons v r ih =>
      intro hv
      obtain ⟨x, rfl⟩ := hv v List.mem_cons_self
      simp only [List.zip_cons_cons, List.all_cons, ih (fun u hu => hv u (List.mem_cons_of_mem _ hu)), Bool.and_true]
      show ((⟨x.toArray⟩ : ByteArray) == ⟨x.toArray⟩) = true
      rw [str_beq]; simp
  have h2 := h (k.map strV) (fun v hv => by obtain ⟨x, _, rfl⟩ := List.mem_map.1 hv; exact ⟨x, rfl⟩)
  unfold Instr.sameBits
  simpa using h2
instance kmp_pth [hk : Kas P kt] : Kmp P kt Pth where
  check := fun k em w hl => run_checkPth hl em w
  find := fun k ent b w hl h => by
    obtain ⟨e, h1, h2, h3⟩ := hk.ex
    have ha := run_findPth (P := P) (kt := kt) hl w b 0 ent h
    simp only [Nat.zero_add] at ha
    cases ent with
    | nil => simp [Instr.findKey, run_underlying h1, mapG, Instr.findNow, posG]
    | cons p r =>
      obtain ⟨k', v⟩ := p
      simp only [Instr.findKey, Sem.run_bind, run_underlying h1, Result.andThen_ok]
      have hn : Instr.findNow (.array 12 e) (KC.kv k) (mapG b ((k', v) :: r)) 0 = none := by
        simp [mapG, Instr.findNow, Instr.sameNow, KC.kv]
      rw [hn]; exact ha
  stays := fun k w => by
    have h : Instr.sameBits 10000 (KC.kv k) (KC.kv k) = true := sameBits_strs k.l 9998
    unfold Instr.keyThatStays
    rw [h]; rfl
end
end Go.X
namespace Go.X
open Go Go.RowKit
section
variable {P : Program} {cx : Cx} {n : Nat} {S : SH} {L : Blocks} {F : Slots} {ty : TypeId}
end
end Go.X
namespace Go.X
open Go Go.RowKit
section
variable {P : Program} {m n : Nat}
end
section
variable {P : Program} {cx : Cx} {n : Nat} {S : SH} {L : Blocks} {F : Slots} {ty : TypeId}
end
end Go.X
namespace Go.X
open Go Go.RowKit
section
variable {P : Program} {cx : Cx} {n : Nat} {S : SH} {L : Blocks} {F : Slots} {ty : TypeId}
end
section
variable {P : Program} {cx : Cx} {n : Nat} {S : SH} {L : Blocks} {F : Slots} {ro : Option Nat} {ops : Array Oper} {Q : Exit → Act → World → Prop} {rest : List Oper} {d : Nat} {ty : TypeId} {pos : String} {af : Array Edge} {g : Option (Nat × Bool)}
theorem s_callw {f : FuncId} {x : Operand} {args : Array Operand} {ts : Array TypeId} {vs caps : List Value} {L1 L2 : Blocks} {R : SH → Blocks → Value → Prop} (hg : want ops F g = some true) (hd : Nat.blt d n = true) (hx : evO F x = some (.func (.func f) #[] caps.toArray)) (i1 : Fun P f) (ha : evArgs F args.toList = some vs) (hL : L.Perm (L1 ++ L2))
    (hc : Con P f (vs ++ caps).toArray S L1 R) (k : ∀ S' L1' v, Le S S' → R S' L1' v → W cx n S' (L1' ++ L2) ((d, v) :: F) (wpListIn (Fr ro) 0 P ops Q rest)) :
    W cx n S L F (wpListIn (Fr ro) 0 P ops Q (⟨some d, .call ⟨.value x, args, ts⟩, ty, pos, af, g⟩ :: rest)) := s_callv (hfun := i1) hg hd hx ha hL hc k
end
section
variable {P : Program} {cx : Cx} {n : Nat} {S S0 : SH} {L L0 : Blocks} {F : Slots} {ops : Array Oper} {Q : Exit → Act → World → Prop} {fuel : Nat} {listed : Array Bool}
end
/-! A struct literal whose parts are one cell each. -/
def setAll : List Value → List (Nat × Value) → List Value
  | cs, [] => cs
  | cs, (i, v) :: r => setAll (cs.set i v) r
def fitOne (place : Nat → Option (Nat × Nat)) (m : Nat) (p : Nat × Value) : Bool := p.2.oneCell' && (match place p.1 with | some (a, b) => Nat.beq a p.1 && Nat.beq b 1 | none => false) && Nat.blt p.1 m
theorem one_cells {v : Value} (h : v.oneCell' = true) : v.cells = #[v] := by cases v <;> first | rfl | simp [Value.oneCell'] at h
theorem fill_ones {place : Nat → Option (Nat × Nat)} : ∀ (pv : List (Nat × Value)) (cs : List Value), pv.all (fitOne place cs.length) = true → Instr.fill place cs.toArray pv = some (setAll cs pv).toArray
  | [], cs, _ => rfl
  | (i, v) :: r, cs, h => by
    simp only [List.all_cons, Bool.and_eq_true] at h
    obtain ⟨h1, h2⟩ := h
    unfold fitOne at h1
    simp only [Bool.and_eq_true] at h1
    obtain ⟨⟨q1, q2⟩, q3⟩ := h1
    cases hpl : place i with
    | none => rw [hpl] at q2; cases q2
    | some ab =>
      obtain ⟨a, b⟩ := ab
      rw [hpl] at q2
      simp only [Bool.and_eq_true] at q2
      obtain rfl := Nat.eq_of_beq_eq_true q2.1
      obtain rfl := Nat.eq_of_beq_eq_true q2.2
      have q4 : a < cs.length := by have := Nat.le_of_ble_eq_true q3; omega
      have hc := one_cells q1
      have ih := fill_ones r (cs.set a v) (by rw [List.length_set]; exact h2)
      simp only [Instr.fill, hpl, hc]
      rw [if_neg (by simp; omega)]
      simpa [setAll, Array.zipIdx] using ih
section
variable {P : Program} {cx : Cx} {n : Nat} {S : SH} {L : Blocks} {F : Slots} {ty : TypeId}
theorem ev_buildS {T : TypeId} {parts : Array (Nat × Operand)} {place : Nat → Option (Nat × Nat)} {zc : Array Value} [hb : Bd P T place zc] {pv : List (Nat × Value)} {zl cs : List Value} (hp : evParts F parts.toList = some pv) (hz : zc = zl.toArray) (h1 : pv.all (fitOne place zl.length) = true) (hr : setAll zl pv = cs) :
    Ev P cx n S L F (.build T parts) ty (.agg cs.toArray) := fun a w hf _ o ho _ => by
  subst hz hr
  have h := evParts_map hf _ _ hp
  have e : (parts.map fun (i, x) => (i, a.eval x)).toList = pv := by rw [← h]; simp
  have hfl := fill_ones pv zl h1
  rw [← e] at hfl
  have hrun := hb.h _ _ w hfl
  rw [e] at hrun
  simp only [execOp, ho, Sem.run_bind, hrun, Result.andThen_ok, Sem.run_pure]
end
section
variable {P : Program} {cx : Cx} {n : Nat} {S : SH} {L : Blocks} {F : Slots} {ty : TypeId}
/-- s == nil, of a slice. -/
theorem ev_eql_nilsl {T T' e : TypeId} [hT : Sli P T e] {x y : Operand} {A : Option Addr} {m c : Nat} (hx : evO F x = some (.slice A m c)) (hy : evO F y = some (.slice none 0 0)) : Ev P cx n S L F (.binOp .eql T x y T') ty (.bool A.isNone) := fun a w hf _ o ho _ => by
  have he : (Op.equal T (.slice A m c) (.slice none 0 0)).run P w = .ok A.isNone w := by
    have : (Op.equalIn (9999 + 1) T (.slice A m c) (.slice none 0 0)).run P w = .ok A.isNone w := by
      unfold Op.equalIn
      simp only [Sem.run_bind, run_underlying hT.h, Result.andThen_ok]
      cases A <;> simp
    exact this
  simp [execOp, ho, hf.ev hx, hf.ev hy, eqGuard, binOp, he]
end
section
variable {P : Program} {cx : Cx} {n : Nat} {S : SH} {L : Blocks} {F : Slots}
/-- The results: one in a block of the call's own, and one or two in slots. -/
theorem o_ret_c2 {fn : Func} {R : SH → Blocks → Value → Prop} {t b t2 : Nat} {v2 : Value} {T sz : Nat} [Ag P T sz] {cs : List Value} {T' : TypeId} {fz : Nat × Nat} {L' : Blocks} (hr : fn.results = #[.cell t T, .tmp t2]) (h1 : geT F t = some (.pointer (some ⟨b, 0, none⟩))) (h2 : geT F t2 = some v2) (hm : (b, Obj.cells cs.toArray T' fz) ∈ L) (hl : cs.length = sz) (hL : L'.Sublist L) (h : R S L' (.tuple #[.agg cs.toArray, v2])) (hk : get F kM = none := by rfl) :
    W cx n S L F (Out P cx fn R .ret) := out_ret (.inl rfl) hk hL h fun a w hf hs => by
  have e1 := hf.slot _ _ h1
  have e2 := hf.slot _ _ h2
  have hrun : (results fn a.tmps).run P w = .ok (.tuple #[.agg cs.toArray, v2]) w := by
    simp [results, hr, Array.getD_eq_getD_getElem?, e1, e2, asAddr, run_loadVar_ag hl (fun j u hj => by
      have e : (⟨b, 0, none⟩ : Addr).add j = ⟨b, j, none⟩ := by unfold Addr.add; split <;> simp_all
      rw [e, own_cell hs hm j]; simpa using hj)]
  exact hrun
end
section
variable {P : Program} {cx : Cx} {n : Nat} {S : SH} {L : Blocks} {F : Slots} {ty : TypeId}
end
end Go.X
namespace Go.X
open Go Go.RowKit
section
variable {P : Program} {md : Region.Mode} {ops : Array Oper} {Q : Exit → Act → World → Prop} {S : World → Prop} {s0 : Nat}
/-- Whatever order is picked, S holding behind each operation, until s0 alone may come up. -/
def gate (P : Program) (md : Region.Mode) (ops : Array Oper) (Q : Exit → Act → World → Prop) (S : World → Prop) (s0 : Nat) : Nat → Array Bool → Act → World → Prop
  | 0, listed, a, w => wpAny P md ops Q 0 listed a w
  | fuel + 1, listed, a, w => (Region.ready md ops listed = [s0] ∧ wpAny P md ops Q (fuel + 1) listed a w) ∨
    (Region.ready md ops listed ≠ [] ∧ ∀ i ∈ Region.ready md ops listed, wpOp P ops Q i (fun a' w' => S w' ∧ gate P md ops Q S s0 fuel (listed.setIfInBounds i true) a' w') a w)
def needStep (md : Region.Mode) (ops : Array Oper) (acc : List Nat) (j : Nat) : List Nat :=
  if acc.contains j then (match ops[j]? with | some o => ((o.after.toList.filter fun e => Region.binds md e && !acc.contains e.on).map (·.on)) ++ acc | none => acc) else acc
/-- What s0 waits for, s0 among it: found in one way down. -/
def needs (md : Region.Mode) (ops : Array Oper) (s0 : Nat) : List Nat := (List.range (s0 + 1)).reverse.foldl (needStep md ops) [s0]
/-- What has come up waited for nothing that has not. -/
def Closed (md : Region.Mode) (ops : Array Oper) (listed : Array Bool) : Prop := ∀ j o, ops[j]? = some o → listed.getD j false = true → ∀ e ∈ o.after, Region.binds md e = true → listed.getD e.on false = true
def closedB (md : Region.Mode) (ops : Array Oper) (listed : Array Bool) : Bool := (List.range ops.size).all fun j => match ops[j]? with | some o => !(listed.getD j false) || o.after.all (fun e => !(Region.binds md e) || listed.getD e.on false) | none => true
theorem Closed.more {listed : Array Bool} (h : Closed md ops listed) {j : Nat} (hj : j ∈ Region.ready md ops listed) : Closed md ops (listed.setIfInBounds j true) := by
  intro m o ho hm e he hb
  obtain ⟨_, o', ho', hall⟩ := mem_ready.1 hj
  refine getD_set_true ?_
  rcases Nat.decEq j m with hne | rfl
  · rw [getD_set_ne false hne] at hm
    exact h m o ho hm e he hb
  · cases ho.symm.trans ho'
    exact hall e he hb
/-- s0 waits for i. -/
def waitsB (md : Region.Mode) (ops : Array Oper) (s0 i : Nat) : Bool := (needs md ops s0).contains i && !(i == s0)
/-- What has not come up, and does not wait for oi, has nothing to do with it. -/
def Lone (md : Region.Mode) (ops : Array Oper) (i : Nat) (oi : Oper) (listed : Array Bool) : Prop :=
  ∀ j oj, ops[j]? = some oj → j ≠ i → listed.getD j true = false → (∀ e ∈ oj.after, Region.binds md e = true → e.on ≠ i) → oi.apart ops oj = true
theorem Lone.more {i : Nat} {oi : Oper} {listed : Array Bool} (h : Lone md ops i oi listed) {j : Nat} (hj : listed.getD j true = false) : Lone md ops i oi (listed.setIfInBounds j true) := by
  intro m om q1 q2 q3
  refine h m om q1 q2 ?_
  rcases Nat.decEq j m with hjm | rfl
  · exact (getD_set_ne true hjm).symm.trans q3
  · exact hj
end
section
variable {P : Program} {cx : Cx} {n : Nat} {S S0 : SH} {L L0 : Blocks} {F : Slots} {ops : Array Oper} {Q : Exit → Act → World → Prop} {d s0 : Nat} {ty : TypeId} {pos : String} {af : Array Edge} {g : Option (Nat × Bool)} {fuel : Nat} {listed : Array Bool}
def Gh (P : Program) (cx : Cx) (n : Nat) (S0 : SH) (L0 : Blocks) (ops : Array Oper) (Q : Exit → Act → World → Prop) (s0 fuel : Nat) (listed : Array Bool) (S : SH) (L : Blocks) (F : Slots) : Prop :=
  Le S0 S → Le cx.S0 S0 → L0.Sublist L → ∀ a w, Fm n a F → St cx S L w → gate P .any ops (SP Q) (St cx S0 L0) s0 fuel listed a w
def Gn (P : Program) (cx : Cx) (n : Nat) (S0 : SH) (L0 : Blocks) (ops : Array Oper) (Q : Exit → Act → World → Prop) (s0 fuel : Nat) (listed : Array Bool) (i : Nat) (S : SH) (L : Blocks) (F : Slots) : Prop :=
  Le S0 S → Le cx.S0 S0 → L0.Sublist L → ∀ a w, Fm n a F → St cx S L w → wpOp P ops (SP Q) i (fun a' w' => St cx S0 L0 w' ∧ gate P .any ops (SP Q) (St cx S0 L0) s0 fuel (listed.setIfInBounds i true) a' w') a w
end
end Go.X
namespace Go.X
open Go
theorem sbT {α : Type} {l m : List α} (h : l.Sublist m := by (repeat (first | exact List.Sublist.refl _ | exact List.Sublist.slnil | exact List.nil_sublist _ | exact List.sublist_append_left _ _ | apply List.Sublist.cons_cons | (apply List.Sublist.append; exact List.Sublist.refl _) | apply List.Sublist.cons | refine List.Sublist.trans ?_ (List.sublist_append_right _ _)))) : l.Sublist m := h
theorem sbL {α : Type} {l m : List α} (h : l.Sublist m := by repeat (first | exact List.Sublist.refl _ | exact List.Sublist.slnil | exact List.nil_sublist _ | exact List.sublist_append_left _ _ | refine List.Sublist.cons_cons _ ?_ | refine List.Sublist.append (List.Sublist.refl _) ?_ | refine List.Sublist.cons _ ?_ | refine List.Sublist.trans ?_ (List.sublist_append_right _ _))) : l.Sublist m := h
theorem sbF {F G : Slots} (h : Sub F G := by repeat (first | exact Sub.nil rfl | exact Sub.marked rfl | refine Sub.cons rfl ?_)) : Sub F G := h
theorem pmT {L M : Blocks} (h : L.Perm M := by (repeat (first | exact pm_nil _ | exact pm_refl _ _ | exact pm_self _ | apply pm_cons | apply pm_app))) : L.Perm M := h
theorem evT {P : Program} {cx : Cx} {n : Nat} {S : SH} {L : Blocks} {F : Slots} {op : Op} {ty : TypeId} {v : Value} (h : Ev P cx n S L F op ty v := by first | (apply ev_move; rfl) | (apply ev_assign; rfl) | (apply ev_binV; (case hx => rfl); (case hy => rfl); (case hb => first | (apply bv_lss_t; omega) | (apply bv_lss_f; omega) | exact bv_lss | (apply bv_leq_t; omega) | (apply bv_leq_f; omega) | exact bv_leq | (apply bv_gtr_t; omega) | (apply bv_gtr_f; omega) | exact bv_gtr | (apply bv_geq_t; omega) | (apply bv_geq_f; omega) | exact bv_geq | (apply bv_eql_t; omega) | (apply bv_eql_f; omega) | exact bv_eql | (apply bv_neq_t; omega) | (apply bv_neq_f; omega) | exact bv_neq | (apply bv_add; omega) | (apply bv_sub; omega) | (apply bv_quo; omega) | (apply bv_rem; omega) | (apply bv_mul; omega) | (apply bv_tdiv; omega))) | (apply ev_fieldAddr'; rfl) | (apply ev_load_own; (case hx => rfl); (case hm => (repeat (first | exact List.Mem.head _ | apply List.Mem.tail | apply List.mem_append_right))); (case h => rfl)) | (apply ev_pick; (case hc => rfl); (case hx => rfl)) | (apply ev_not; rfl) | (apply ev_len; rfl) | (apply ev_extract'; (case hx => rfl); (case hv => rfl)) | (apply ev_field'; (case hx => rfl); (case hv => rfl)) | (apply ev_len_s; rfl) | (apply ev_min; (case hx => rfl); (case hy => rfl)) | (apply ev_max; (case hx => rfl); (case hy => rfl)) | (apply ev_nilCheck; rfl) | (apply ev_eql_b; (case hx => rfl); (case hy => rfl)) | (apply ev_neq_b; (case hx => rfl); (case hy => rfl)) | (apply ev_build; (case hp => rfl); (case hc => rfl)) | (apply ev_load_own_ag; (case hx => rfl); (case hm => (repeat (first | exact List.Mem.head _ | apply List.Mem.tail | apply List.mem_append_right))); (case hl => rfl)) | (apply ev_fieldAddr; rfl) | (apply ev_idxc; (case hx => rfl); (case hi => rfl); (case hk => decide))) : Ev P cx n S L F op ty v := h
end Go.X

