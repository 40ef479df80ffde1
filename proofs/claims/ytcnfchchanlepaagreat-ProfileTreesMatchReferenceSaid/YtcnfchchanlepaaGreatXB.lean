/- The step calculus of these proofs: a state of a call (a frame as a list of slots, what is stable in memory, the blocks that the call owns) and one rule for each kind of code and operation; it holds for every program, on no condition beyond each rule's own premises. -/
import Derived.Test.YtcnfchchanlepaaGreatXA
import Derived.Deep.AppendSrc
import Derived.Lib.ConvBytes
import Derived.Lib.AppendStr
import Derived.Lib.Builder
import Derived.Lib.UnsafeStr
import Derived.Lib.MakeNoZero
import Derived.Laws.Externs
import Derived.Deep.MidRow
import Derived.RecoverIn
import Derived.Sort.Walk0
import Derived.Sort.EncStr
import Derived.Laws.StructEq
import Derived.Shelf.SlSortCmp.WholeK
namespace Go.X
open Go Go.RowKit
theorem zeroCells_size (z : Array Value) (k : Nat) : (Builtin.zeroCells z k).size = k * z.size := by simp [Builtin.zeroCells]
theorem grownCap_bd (w : World) (need old : Nat) (e : TypeId) (h : need ≤ 1000000000000) : need ≤ grownCap w need old e ∧ grownCap w need old e ≤ maxLen := by
  unfold grownCap Question.cut
  have h1 : (w.tape w.drawn (.appendCap need old e)) % (2 ^ 63 - need) < 2 ^ 63 - need := Nat.mod_lt _ (by omega)
  simp only [maxLen]
  omega
section
variable {α : Type} [Cl α] {P : Program} {cx : Cx} {n : Nat} {S S0 : SH} {L L0 : Blocks} {F : Slots} {ops : Array Oper} {Q : Exit → Act → World → Prop} {d : Nat} {ty : TypeId} {pos : String} {af : Array Edge} {g : Option (Nat × Bool)} {fuel : Nat} {listed : Array Bool}
theorem run_grow {T e : TypeId} {by_ : Nat} {z : Value} (hT : P.underlying T = some (.slice e)) (hsz : (P.info? e).map (·.size) = some (Cl.size α)) (hz : (P.info? e).bind (·.zero) = some z) (hby : (P.info? e).map (·.bytes) = some by_) (hzs : z.cells.size = Cl.size α)
    {A : Option Addr} {ls ms : List α} {cp c2 : Nat} {p2 : Addr} {w : World} (hold : 0 < ls.length → ∃ p, A = some p ∧ ∀ j u, (cellsOf ls)[j]? = some u → w.cell? (p.add j) = some u) (hsrc : ∀ j u, (cellsOf ms)[j]? = some u → w.cell? (p2.add j) = some u)
    (hg : cp < ls.length + ms.length) (hfit : Builtin.nextslicecap (ls.length + ms.length) cp * by_ ≤ 281474976710656) (h63 : ls.length + ms.length ≤ 1000000000000) :
    ∃ v' w', (Builtin.append_ #[T, T] ty #[.slice A ls.length cp, .slice (some p2) ms.length c2]).run P w = .ok v' w' ∧ w'.ownsRow 0 e (Cl.size α) v' (ls ++ ms).length (cellsOf (ls ++ ms)) ∧ w.grownBy w' none ∧ v'.ownBlock = some w.heap.size := by
  cases hi : P.info? e with
  | none => simp [hi] at hsz
  | some i =>
    simp [hi] at hsz hz hby
    have hfc : (Builtin.firstCells i.size ls.length (.slice A ls.length cp)).run P w.drew = .ok (cellsOf ls).toArray w.drew := by
      rcases Nat.eq_zero_or_pos ls.length with h0 | h0
      · have hl0 : ls = [] := List.eq_nil_of_length_eq_zero h0
        subst hl0
        cases A with
        | none => exact run_firstCells_none w.drew i.size 0 0 cp
        | some p => exact run_firstCells_some w.drew i.size 0 p 0 cp [] (by simp) (by simp)
      · obtain ⟨p, rfl, hp⟩ := hold h0
        exact run_firstCells_some w.drew i.size ls.length p ls.length cp (cellsOf ls) (by rw [cellsOf_length, hsz]) (by simpa using hp)
    have hs : Go.Src P i.size T (.slice (some p2) ms.length c2) ms.length (cellsOf ms) w := Go.Src.ofSlice w hT p2 ms.length c2 (cellsOf ms) (by rw [cellsOf_length, hsz]) hsrc (cellsOf_one ms)
    have hr := run_append_grow_src (P := P) w T T ty e i z hT hi hz A ls.length cp (cellsOf ls) hfc _ ms.length (cellsOf ms) hs hg (by omega) (by rw [hby]; exact hfit)
    obtain ⟨c1, c3⟩ := grownCap_bd w (ls.length + ms.length) cp e h63
    refine ⟨_, _, hr, ?_, ?_, rfl⟩
    · rw [cellsOf_append, List.length_append]
      refine ⟨by rw [List.length_append, cellsOf_length, cellsOf_length, Nat.add_mul], .inr ⟨w.heap.size, _, _, rfl, Nat.zero_le _, heap_alloc_new w.drew _, c1, c3, ?_, ?_⟩⟩
      · rw [Array.size_append, List.size_toArray, List.length_append, cellsOf_length, cellsOf_length, zeroCells_size, hzs, ← Nat.add_mul, ← Nat.add_mul]
        congr 1; omega
      · rw [Array.toList_append, List.toList_toArray, List.take_append_of_le_length (by rw [List.length_append, cellsOf_length, cellsOf_length, Nat.add_mul]; exact Nat.le_refl _), List.take_of_length_le (by rw [List.length_append, cellsOf_length, cellsOf_length, Nat.add_mul]; exact Nat.le_refl _)]
    · exact ⟨rfl, rfl, rfl, by simp, fun k hk _ => Below.heap_alloc w.drew _ k hk⟩
/-- append onto a stable slice without room, of a slice of the call's own: in a drawn region. -/
theorem n_append_grow {i : Nat} {T e : TypeId} {by_ : Nat} {z : Value} {x y : Operand} {v2 : Value} {ls ms : List α} {ob L1 : Blocks} {A : Option Addr} {m cp : Nat} (hA : At S A ls) (hi : ops[i]? = some ⟨some d, .call ⟨.builtin .append, #[x, y], #[T, T]⟩, ty, pos, af, g⟩) (hT : Sli P T e) (hsz : Sz P e (Cl.size α)) (hz : Zr P e z) (hby : By P e by_) (hg : want ops F g = some true) (hd : Nat.blt d n = true)
    (hx : evO F x = some (.slice A m cp)) (hm : m = ls.length) (hy : evO F y = some v2) (ho : Ows e v2 ms ob) (hp : 0 < ms.length) (hL : L.Perm (ob ++ L1)) (hcp : cp < ls.length + ms.length) (hzs : Nat.beq z.cells.size (Cl.size α) = true) (hfit : Builtin.nextslicecap (ls.length + ms.length) cp * by_ ≤ 281474976710656) (h63 : ls.length + ms.length ≤ 1000000000000)
    (hsub : ∀ ob', L0.Sublist L → L0.Sublist (ob' ++ L))
    (k : ∀ v' ob', Ows e v' (ls ++ ms) ob' → Wh P cx n S0 L0 ops Q fuel (listed.setIfInBounds i true) S (ob' ++ L) ((d, v') :: F)) : Wn P cx n S0 L0 ops Q fuel listed i S L F :=
  n_val hi hg hd fun a w hf hst o hop hty => by
    subst hm
    have hst' := hst.perm hL
    obtain ⟨gb, cap, cs, rfl, rfl, q1, q2, q3, q4⟩ := ho.open hp
    have hm2 : (gb, Obj.cells (List.toArray cs) e (0, 0)) ∈ L := hL.mem_iff.2 (List.mem_append_left _ List.mem_cons_self)
    have hsrc : ∀ j u, (cellsOf ms)[j]? = some u → w.cell? ((⟨gb, 0, none⟩ : Addr).add j) = some u := fun j u hj => by
      have e1 : (⟨gb, 0, none⟩ : Addr).add j = ⟨gb, j, none⟩ := by unfold Addr.add; split <;> simp_all
      rw [e1, own_cell hst hm2]
      have hjl := (List.getElem?_eq_some_iff.1 hj).1
      rw [← q4, List.getElem?_take_of_lt (by rw [cellsOf_length] at hjl; exact hjl)] at hj
      simpa using hj
    have hold : 0 < ls.length → ∃ p, A = some p ∧ ∀ j u, (cellsOf ls)[j]? = some u → w.cell? (p.add j) = some u := fun h0 => by
      obtain ⟨p, e1, hpt⟩ := hA h0
      exact ⟨p, e1, fun j u hj => hst.cell (hpt j u hj)⟩
    obtain ⟨v', w', h1, h2, h3, h4⟩ := run_grow (ty := ty) (c2 := cap) hT.h hsz.size hz.zero hby.bytes (Nat.eq_of_beq_eq_true hzs) hold hsrc hcp hfit h63
    obtain ⟨ob', ho', hob', hn⟩ := ows_of_row h2
    refine ⟨S, ob' ++ L, v', w', by simp [execOp, hop, resolve, invoke, builtin, hf.ev hx, hf.ev hy, hty, h1], ?_, Le.refl _, hsub ob', k _ _ ho'⟩
    have hst0 : St cx S ([] ++ L) w := hst
    refine hst0.grown (run_drawn _ _ h1) h3 (fun r hr => by cases hr) ?_ hn
    intro q hq
    obtain ⟨e1, e2⟩ := hob' q hq
    refine ⟨e1, .inr ?_⟩
    rw [h4] at e2
    simp only [Option.some.injEq] at e2
    omega
end
section
variable {α : Type} [Cl α] {P : Program} {cx : Cx} {n : Nat} {S : SH} {L : Blocks} {F : Slots} {ty : TypeId}
/-- s[:j:j]. -/
theorem ev_slice_33 {T e : TypeId} {sz : Nat} [hT : Sli P T e] [hE : Sz P e sz] {x y z : Operand} {A : Option Addr} {m c j : Nat} {kd kd2 : IntKind} (hx : evO F x = some (.slice A m c)) (hy : evO F y = some (.int kd j)) (hz : evO F z = some (.int kd2 j)) (hj : j ≤ c) : Ev P cx n S L F (.slice T x none (some y) (some z)) ty (.slice A j j) := fun a w hf _ o ho _ => by
  have e1 : ∀ p : Addr, p.add 0 = p := fun p => by obtain ⟨b, o, s⟩ := p; unfold Addr.add; split <;> simp_all
  have hb : (Instr.sliceBounds true m c none (some (.int kd j)) (some (.int kd2 j))).run P w = .ok (0, j, j) w := by
    simp [Instr.sliceBounds, Instr.sliceBound, asIntOf, hj]
  cases A with
  | none => simp [execOp, ho, hf.ev hx, hf.ev hy, hf.ev hz, Instr.sliceAt, Instr.slice, run_underlying hT.h, hb, run_sizeOf hE.size]
  | some p => simp [execOp, ho, hf.ev hx, hf.ev hy, hf.ev hz, Instr.sliceAt, Instr.slice, run_underlying hT.h, hb, run_sizeOf hE.size, e1]
end
end Go.X
namespace Go.X
open Go Go.RowKit
section
variable {P : Program} {cx : Cx} {n : Nat} {S : SH} {L : Blocks} {F : Slots} {ro : Option Nat} {ops : Array Oper} {Q : Exit → Act → World → Prop} {rest : List Oper} {d : Nat} {ty : TypeId} {pos : String} {af : Array Edge} {g : Option (Nat × Bool)}
theorem bytesCells_eq (w : World) (e : TypeId) (l : Bs) : Lib.bytesCells w e ⟨l.toArray⟩ = (cellsOf l ++ List.replicate (grownCap w l.length 0 e - l.length) (Value.int .u8 0)).toArray := by
  unfold Lib.bytesCells
  apply Array.ext'
  rw [cellsOf_u8]
  simp [ByteArray.size]
theorem s_bytes {T T2 e : TypeId} [h1 : Strg P T] [h2 : Sli P T2 e] [h3 : Ity P e .u8] {x : Operand} {l : Bs} (hg : want ops F g = some true) (hd : Nat.blt d n = true) (hx : evO F x = some (strV l)) (hl : l.length ≤ 1000000000000)
    (k : ∀ b tl cap N, l.length ≤ cap → cap ≤ maxLen → (cellsOf l ++ tl).length = cap → N = cap → W cx n S ((b, .cells (cellsOf l ++ tl).toArray e (N, N + 1)) :: L) ((d, .slice (some ⟨b, 0, none⟩) l.length cap) :: F) (wpListIn (Fr ro) 0 P ops Q rest)) :
    W cx n S L F (wpListIn (Fr ro) 0 P ops Q (⟨some d, .convert T T2 x, ty, pos, af, g⟩ :: rest)) :=
  s_val hg rfl hd fun a w hf hst o ho _ => by
    have hr := Lib.run_convert_string_bytes (P := P) w T T2 e ⟨l.toArray⟩ h1.h h2.h h3.h
    obtain ⟨c1, c3⟩ := grownCap_bd w l.length 0 e hl
    have hlen : (cellsOf l ++ List.replicate (grownCap w l.length 0 e - l.length) (Value.int .u8 0)).length = grownCap w l.length 0 e := by
      rw [List.length_append, cellsOf_length, List.length_replicate]
      show l.length * 1 + _ = _
      omega
    have hnew := Lib.bytesWorld_at_new w e ⟨l.toArray⟩
    have hsz2 : (cellsOf l ++ List.replicate (grownCap w l.length 0 e - l.length) (Value.int .u8 0)).toArray.size = grownCap w l.length 0 e := by rw [List.size_toArray, hlen]
    rw [bytesCells_eq, hsz2] at hnew
    have hsz : (⟨l.toArray⟩ : ByteArray).size = l.length := by simp [ByteArray.size]
    rw [hsz] at hr
    have hst0 : St cx S ([] ++ L) w := hst
    have hst1 : St cx S ([(w.heap.size, .cells (cellsOf l ++ List.replicate (grownCap w l.length 0 e - l.length) (Value.int .u8 0)).toArray e (grownCap w l.length 0 e, grownCap w l.length 0 e + 1))] ++ L) (Lib.bytesWorld w e ⟨l.toArray⟩) := by
      refine hst0.grown (row := none) (ob' := [(w.heap.size, .cells (cellsOf l ++ List.replicate (grownCap w l.length 0 e - l.length) (Value.int .u8 0)).toArray e (grownCap w l.length 0 e, grownCap w l.length 0 e + 1))]) (run_drawn _ _ hr) ⟨rfl, rfl, rfl, by rw [Lib.bytesWorld_size]; omega, fun b hb _ => Lib.bytesWorld_at_old w e _ b hb⟩ (fun r hr => by cases hr) (fun p hp => ?_) (by simp)
      rw [List.mem_singleton.1 hp]
      exact ⟨hnew, .inr (Nat.le_refl _)⟩
    exact ⟨S, _, .slice (some ⟨w.heap.size, 0, none⟩) l.length (grownCap w l.length 0 e), Lib.bytesWorld w e ⟨l.toArray⟩, by simp [execOp, ho, hf.ev hx, strV, hr], hst1, k w.heap.size _ (grownCap w l.length 0 e) (grownCap w l.length 0 e) c1 c3 hlen rfl⟩
theorem ev_slice_hi0 {T e : TypeId} {sz : Nat} [hT : Sli P T e] [hE : Sz P e sz] {x y : Operand} {b m c j : Nat} {kd : IntKind} (hx : evO F x = some (.slice (some ⟨b, 0, none⟩) m c)) (hy : evO F y = some (.int kd j)) (hj : j ≤ c) : Ev P cx n S L F (.slice T x none (some y) none) ty (.slice (some ⟨b, 0, none⟩) j c) := fun a w hf hs o ho _ => by
  have e0 : (⟨b, 0, none⟩ : Addr).add 0 = ⟨b, 0, none⟩ := by unfold Addr.add; split <;> simp_all
  simp only [execOp, ho, hf.ev hx, hf.ev hy, Instr.sliceAt, Sem.run_bind, run_underlying hT.h, Result.andThen_ok, Option.map_some, Option.map_none]
  rw [run_slice hT.h hE.size (some ⟨b, 0, none⟩) m c 0 j none (some (.int kd j)) (.inl ⟨rfl, rfl⟩) (.inr ⟨kd, rfl⟩) (by omega) (by omega)]
  simp [e0]
end
end Go.X
namespace Go.X
open Go Go.RowKit
/-- A slice of the call's own, as 'Ows' has it, or at the head of a row with a mark behind its end. -/
def Owk {α : Type} [Cl α] (e : TypeId) (v : Value) (l : List α) (ob : Blocks) : Prop :=
  Ows e v l ob ∨ ∃ (g cap N : Nat) (cur : Array Value), v = .slice (some ⟨g, 0, none⟩) l.length cap ∧ ob = [(g, .cells cur e (N, N + 1))] ∧ cap * Cl.size α ≤ N ∧ l.length ≤ cap ∧ cap ≤ maxLen ∧ cur.size = cap * Cl.size α ∧ cur.toList.take (l.length * Cl.size α) = cellsOf l
section
variable {P : Program} {cx : Cx} {n : Nat} {S : SH} {L : Blocks} {F : Slots} {ro : Option Nat} {ops : Array Oper} {Q : Exit → Act → World → Prop} {rest : List Oper} {d : Nat} {ty : TypeId} {pos : String} {af : Array Edge} {g : Option (Nat × Bool)} {α : Type} [Cl α]
theorem Ows.k {e : TypeId} {v : Value} {l : List α} {ob : Blocks} (h : Ows e v l ob) : Owk e v l ob := .inl h
theorem Owk.form {e : TypeId} {v : Value} {l : List α} {ob : Blocks} (h : Owk e v l ob) : ∃ A c, v = .slice A l.length c := by
  rcases h with h | ⟨g, cap, N, cur, rfl, _⟩
  · exact h.form
  · exact ⟨_, _, rfl⟩
theorem W.freezeOwk {G : Act → World → Prop} {e : TypeId} {v : Value} {l : List α} {ob L1 : Blocks} (ho : Owk e v l ob) (hL : L.Perm (ob ++ L1)) (k : ∀ S', Le S S' → Sr S' v l → W cx n S' L1 F G) : W cx n S L F G := by
  rcases ho with ho | ⟨gb, cap, N, cur, rfl, rfl, hN, h1, h2, h3, h4⟩
  · exact W.freezeOws ho hL k
  refine W.perm (W.freeze fun S' hle hb => k S' hle ⟨_, _, rfl, h1, fun _ => ⟨_, rfl, pts_block hb ?_⟩⟩) hL
  rw [cellsOf_length]; exact h4
end
end Go.X
namespace Go.X
open Go Go.RowKit
instance : Cl UInt32 := ⟨1, fun x => [.int .u32 (x.toNat : Int)], fun _ => rfl, fun _ u hu => by simp at hu; subst hu; rfl⟩
section
variable {P : Program} {x y : UInt32}
end
/-- x >> c and x << c of Go, c < 32. -/
def shr (c : Nat) (x : UInt32) : UInt32 := UInt32.ofNat (x.toNat / 2 ^ c)
def shl (c : Nat) (x : UInt32) : UInt32 := UInt32.ofNat (x.toNat * 2 ^ c)
section
variable {P : Program} {cx : Cx} {n : Nat} {S : SH} {L : Blocks} {F : Slots} {ty : TypeId}
end
end Go.X
namespace Go.X
open Go Go.RowKit
set_option linter.unusedVariables false
section
variable {P : Program} {cx : Cx} {n : Nat} {S S0 : SH} {L L0 : Blocks} {F : Slots} {ro : Option Nat} {ops : Array Oper} {Q : Exit → Act → World → Prop} {rest : List Oper} {d s0 : Nat} {ty : TypeId} {pos : String} {af : Array Edge} {g : Option (Nat × Bool)} {fuel : Nat} {listed : Array Bool}
theorem add_own (b j : Nat) : (⟨b, 0, none⟩ : Addr).add j = ⟨b, j, none⟩ := by unfold Addr.add; split <;> simp_all
theorem ev_idxa1 {T e : TypeId} {N : Nat} [hT : Arr P T N e] [hE : Sz P e 1] {x i : Operand} {b j : Nat} {kd : IntKind} (hx : evO F x = some (.pointer (some ⟨b, 0, none⟩))) (hi : evO F i = some (.int kd j)) (hk : j < N) : Ev P cx n S L F (.indexAddr T x i) ty (.pointer (some ⟨b, j, none⟩)) := by
  have := ev_idxc (P := P) (cx := cx) (n := n) (S := S) (L := L) (F := F) (ty := ty) (T := T) (e := e) (N := N) hx hi hk
  rw [add_own] at this; exact this
theorem Gh.freeze {b : Nat} {o : Obj} (hsub : L0.Sublist L) (h : ∀ S', Le S S' → S' b = some o → Gh P cx n S0 L0 ops Q s0 fuel listed S' L F) : Gh P cx n S0 L0 ops Q s0 fuel listed S ((b, o) :: L) F := by
  intro h1 h2 h3 a w hf hs
  exact h _ hs.freeze.2 (by simp [SH.add]) (h1.trans hs.freeze.2) h2 hsub a w hf hs.freeze.1
theorem ev_slice_arr_hi {A e : TypeId} {N : Nat} [hA : Arr P A N e] [hE : Sz P e 1] {x y : Operand} {b m : Nat} {kd : IntKind} (hx : evO F x = some (.pointer (some ⟨b, 0, none⟩))) (hy : evO F y = some (.int kd m)) (hm : m ≤ N) : Ev P cx n S L F (.slice A x none (some y) none) ty (.slice (some ⟨b, 0, none⟩) m N) := fun a w hf _ o ho _ => by
  have e1 : (⟨b, 0, none⟩ : Addr).add 0 = ⟨b, 0, none⟩ := add_own b 0
  simp [execOp, ho, hf.ev hx, hf.ev hy, Instr.sliceAt, Instr.sureAddr, run_underlying hA.h, Instr.sliceBounds, Instr.sliceBound, asIntOf, run_sizeOf hE.size, hm, e1]
theorem Ev.eq {op : Op} {v v' : Value} (h : Ev P cx n S L F op ty v) (e : v = v') : Ev P cx n S L F op ty v' := e ▸ h
end
end Go.X
namespace Go.X
open Go Go.RowKit
set_option linter.unusedVariables false
/-- A function without a body, by the model's own entry. -/
class Ext (P : Program) (f : FuncId) (e : outParam (Array Value → Sem Value)) : Prop where
  h : ∀ args w, (callFunc f args).run P w = ((e args).run P w).andThen fun v w' => .ok (.value v) w'
section
variable {P : Program} {cx : Cx} {n : Nat} {S S0 : SH} {L L0 : Blocks} {F : Slots} {ro : Option Nat} {ops : Array Oper} {Q : Exit → Act → World → Prop} {rest : List Oper} {d s0 : Nat} {ty : TypeId} {pos : String} {af : Array Edge} {g : Option (Nat × Bool)} {fuel : Nat} {listed : Array Bool}
end
end Go.X
namespace Go.X
open Go Go.RowKit
/-- A function value: its function, what comes ahead of the arguments, what is captured. -/
structure Fv where
  f : FuncId
  fix : List Value
  caps : List Value
def Fv.val (x : Fv) : Value := .func (.func x.f) x.fix.toArray x.caps.toArray
instance : Cl Fv := ⟨1, fun x => [x.val], fun _ => rfl, fun _ u hu => by simp at hu; subst hu; rfl⟩
section
variable {P : Program} {cx : Cx} {n : Nat} {S S0 : SH} {L L0 : Blocks} {F : Slots} {ro : Option Nat} {ops : Array Oper} {Q : Exit → Act → World → Prop} {rest : List Oper} {d : Nat} {ty : TypeId} {pos : String} {af : Array Edge} {g : Option (Nat × Bool)}
variable {fuel : Nat} {listed : Array Bool}
end
end Go.X
namespace Go.X
open Go Go.RowKit
def putAll : List Value → Nat → List Value → List Value
  | cs, _, [] => cs
  | cs, o, v :: r => putAll (cs.set o v) (o + 1) r
section
variable {P : Program} {cx : Cx} {n : Nat} {S S0 : SH} {L L0 : Blocks} {F : Slots} {ro : Option Nat} {ops : Array Oper} {Q : Exit → Act → World → Prop} {rest : List Oper} {d : Nat} {ty : TypeId} {pos : String} {af : Array Edge} {g : Option (Nat × Bool)}
/-- A contract beside further blocks. -/
theorem Con.frame {f : FuncId} {vs : Array Value} {L1 L2 L' : Blocks} {R : SH → Blocks → Value → Prop} (h : Con P f vs S L1 R) (hL : L'.Perm (L1 ++ L2)) : Con P f vs S L' (fun S' L' v => ∃ L1', L' = L1' ++ L2 ∧ R S' L1' v) := fun w hw =>
  (h w (hw.perm hL).sub).mono fun _ _ ⟨v, S', L1', he, hR, hs⟩ => ⟨v, S', _, he, ⟨L1', rfl, hR⟩, (hw.perm hL).back hs⟩
/-- What is left may stand in another order. -/
theorem Con.out {f : FuncId} {vs : Array Value} {R R' : SH → Blocks → Value → Prop} (h : Con P f vs S L R) (hr : ∀ S' L1 v, R S' L1 v → ∃ L2, L1.Perm L2 ∧ R' S' L2 v) : Con P f vs S L R' := fun w hw =>
  (h w hw).mono fun _ _ ⟨v, S', L1, he, hR, hs⟩ => by
    obtain ⟨L2, hp, hR2⟩ := hr _ _ _ hR
    exact ⟨v, S', L2, he, hR2, hs.perm hp⟩
end
end Go.X
namespace Go.X
open Go Go.RowKit
section
variable {P : Program} {cx : Cx} {n : Nat} {S : SH} {L L' : Blocks} {F : Slots} {ops : Array Oper} {Q : Exit → Act → World → Prop} {rest : List Oper} {ty : TypeId} {pos : String} {af : Array Edge} {g : Option (Nat × Bool)}
/-- The contract of a deferred closure, its frame below returning: it leaves the world as it is, but for draws. -/
def ConD (P : Program) (f : FuncId) (args : Array Value) (S : SH) (L : Blocks) (R : SH → Blocks → Prop) : Prop :=
  ∀ cx w, St cx S L w → CallsDIn (Fr none) 0 P f args .returning w fun e u' w' => (∃ v, e = .returned v) ∧ settle u' = .returning ∧ ∃ S' L', R S' L' ∧ St cx S' L' w'
end
end Go.X
namespace Go.X
open Go Go.RowKit
/-- The contract of a call that panics. -/
def ConX (P : Program) (f : FuncId) (vs : Array Value) (S : SH) (L : Blocks) (R : SH → Blocks → List PanicEntry → Prop) : Prop :=
  ∀ w, St ⟨w, S, L.map (·.1)⟩ S L w → Calls P f vs w fun e w' => ∃ c S' L', e = .panicked c ∧ R S' L' c ∧ St ⟨w, S, L.map (·.1)⟩ S' L' w'
def OutX (P : Program) (cx : Cx) (fn : Func) (R : SH → Blocks → List PanicEntry → Prop) : Exit → Act → World → Prop :=
  bodyPostM (Fr none) 0 P fn fun e w' => ∃ c S' L', e = .panicked c ∧ R S' L' c ∧ St cx S' L' w'
section
variable {P : Program} {cx : Cx} {n : Nat} {S S0 : SH} {L L0 L' : Blocks} {F : Slots} {ro : Option Nat} {ops : Array Oper} {Q : Exit → Act → World → Prop} {rest : List Oper} {d : Nat} {ty : TypeId} {pos : String} {af : Array Edge} {g : Option (Nat × Bool)} {fn : Func}
variable {fuel : Nat} {listed : Array Bool}
/-- The contract of a deferred closure that recovers. -/
def ConR (P : Program) (f : FuncId) (args : Array Value) (c : List PanicEntry) (S : SH) (L : Blocks) (R : SH → Blocks → Prop) : Prop :=
  ∀ cx w, St cx S L w → CallsDIn (Fr none) 0 P f args (.panicking c) w fun e u' w' => (∃ v, e = .returned v) ∧ settle u' = .returning ∧ ∃ S' L', R S' L' ∧ St cx S' L' w'
end
section
variable {P : Program} {cx : Cx} {n : Nat} {S : SH} {L L' : Blocks} {F : Slots} {ro : Option Nat} {ops : Array Oper} {d : Nat} {ty : TypeId} {pos : String} {af : Array Edge} {g : Option (Nat × Bool)} {fn : Func}
/-! The body of a deferred closure, as far as it calls recover. -/
def WS (cx : Cx) (n : Nat) (S : SH) (L : Blocks) (F : Slots) (cs : List Frame) (G : Act → List Frame → World → Prop) : Prop := ∀ a w, Fm n a F → St cx S L w → G a cs w
variable {cs cs' : List Frame} {Q : Exit → Act → List Frame → World → Prop} {rest : List Nat}
end
end Go.X
namespace Go.X
open Go Go.RowKit
section
variable {P : Program} {cx : Cx} {n : Nat} {S : SH} {L : Blocks} {F : Slots} {ro : Option Nat} {ops : Array Oper} {Q : Exit → Act → World → Prop} {rest : List Oper} {ty : TypeId} {pos : String} {af : Array Edge} {g : Option (Nat × Bool)}
end
end Go.X
namespace Go.X
theorem pmc {X Y : Blocks} (h : ∀ p : Nat × Obj → Bool, X.countP p = Y.countP p) : X.Perm Y := by
  classical
  rw [List.perm_iff_count]
  intro a
  exact h (· == a)
end Go.X
namespace Go.X
open Go Go.RowKit
section
variable {α : Type} [Cl α] {P : Program} {cx : Cx} {n : Nat} {S : SH} {L : Blocks} {F : Slots} {ro : Option Nat} {ops : Array Oper} {Q : Exit → Act → World → Prop} {rest : List Oper} {d : Nat} {ty : TypeId} {pos : String} {af : Array Edge} {g : Option (Nat × Bool)}
end
end Go.X
namespace Go.X
open Go Go.RowKit
theorem ba_list (a : Bs) : ByteArray.toList ⟨a.toArray⟩ = a := by simp
section
variable {P : Program} {cx : Cx} {n : Nat} {S : SH} {L : Blocks} {F : Slots} {ty : TypeId}
theorem ev_lss_bv {T T' : TypeId} {x y : Operand} {a b : Bs} {r : Bool} (hx : evO F x = some (strV a)) (hy : evO F y = some (strV b)) (h : decide (a < b) = r) : Ev P cx n S L F (.binOp .lss T x y T') ty (.bool r) := ev_strop hx hy fun w => by
  rw [Go.binOp_string_lss, ba_list, ba_list, Go.Proofs.bytesLess_eq, h]; rfl
theorem lt_tri (a b : Bs) : a < b ∨ a = b ∨ b < a := by
  rcases Decidable.em (a < b) with h | h
  · exact .inl h
  · rcases Decidable.em (b < a) with h2 | h2
    · exact .inr (.inr h2)
    · exact .inr (.inl (List.le_antisymm (List.not_lt.1 h2) (List.not_lt.1 h)))
theorem ev_gtr_bv {T T' : TypeId} {x y : Operand} {a b : Bs} {r : Bool} (hx : evO F x = some (strV a)) (hy : evO F y = some (strV b)) (h : decide (b < a) = r) : Ev P cx n S L F (.binOp .gtr T x y T') ty (.bool r) := ev_strop hx hy fun w => by
  have e : binOp .gtr T (strV a) (strV b) = pure (.bool !(Op.bytesLess a b || a == b)) := by
    simp [binOp, Op.stringOp]
  rw [e, Go.Proofs.bytesLess_eq]
  have e2 : (!(decide (a < b) || a == b)) = r := by
    rw [← h]
    rcases lt_tri a b with h1 | h1 | h1
    · rw [decide_eq_true h1, decide_eq_false (List.lt_asymm h1)]; rfl
    · subst h1; rw [decide_eq_false (List.lt_irrefl a)]; simp
    · rw [decide_eq_false (List.lt_asymm h1), decide_eq_true h1]
      have : (a == b) = false := by
        rw [beq_eq_false_iff_ne]; intro h; subst h; exact List.lt_irrefl a h1
      rw [this]; rfl
  rw [e2]; rfl
end
end Go.X
namespace Go.X
open Go Go.RowKit Go.Sort Go.Proofs
theorem cells_str (l : List Str) : cellsOf l = (l.map Str.b).map encStr := by
  induction l with
  | nil => rfl
  | cons x l ih => rw [cellsOf_cons, ih]; rfl
def sortS (l : List Str) : List Str := ((l.map Str.b).mergeSort fun x y => decide (x ≤ y)).map Str.mk
section
variable {P : Program} {f : FuncId} {e : TypeId} {v : Value} {l : List Str} {ob : Blocks} {S : SH}
theorem sortS_con (hs : ∀ (blk off cap : Nat) (ss : List (List UInt8)) (w : World), Holds encStr w blk off ss.toArray → blk < w.heap.size → ss.length < 4611686018427387904 →
      Calls P f #[.slice (some ⟨blk, off, none⟩) ss.length cap] w fun e w' => e = .returned (.tuple #[]) ∧ ∃ n os, w' = grow (putRow encStr (Sort.ahead w n) blk off (ss.mergeSort fun x y => decide (x ≤ y)).toArray) os)
    (h0 : ∀ (p : Option Addr) (cap : Nat) (w : World), Calls P f #[.slice p 0 cap] w fun e w' => e = .returned (.tuple #[]) ∧ w' = w) (ho : Ows e v l ob) (hl : l.length < 4611686018427387904) :
    Con P f #[v] S ob (fun _ L' r => r = .tuple #[] ∧ Ows e v (sortS l) L') := by
  intro w hst
  have hst0 : St ⟨w, S, ob.map (·.1)⟩ S (ob ++ []) w := by simpa using hst
  have hrow := ho.row hst0
  rw [cells_str] at hrow
  have hlm : (l.map Str.b).length = l.length := by simp
  by_cases hv : v = .slice none 0 0
  · subst hv
    rcases ho with ⟨_, rfl, rfl⟩ | ⟨g, cap, cur, e1, _⟩
    · refine (h0 none 0 w).mono ?_
      rintro e' w' ⟨rfl, rfl⟩
      exact ⟨_, S, [], rfl, ⟨rfl, by simpa [sortS] using Ows.nil e⟩, hst⟩
    · cases e1
  · rw [← hlm] at hrow
    obtain ⟨g, cap, rfl, _, hlt, hc1, hc2, _, hH⟩ := Lib.holds_of_ownsRow (e := e) (base := 0) (w := w) hrow hv
    refine (hs g 0 cap (l.map Str.b) w hH hlt (by rw [hlm]; exact hl)).mono ?_
    rintro e' w' ⟨rfl, n, os, rfl⟩
    have e5 : ((l.map Str.b).mergeSort fun x y => decide (x ≤ y)) = (sortS l).map Str.b := by simp [sortS, Function.comp_def]
    rw [e5]
    have h2 := Lib.ownsRow_putRow (q := n) (k := (l.map Str.b).length) (ys := (sortS l).map Str.b) hrow (by simp [sortS]) (Nat.le_refl _)
    have h3 := ownsRow_grow (os := os) h2
    rw [List.take_of_length_le (by simp [sortS]), ← cells_str] at h3
    have hlen : (sortS l).length = (l.map Str.b).length := by simp [sortS]
    obtain ⟨ob', ho', hob', hn⟩ := ows_of_row (α := Str) (l := sortS l) (by rw [hlen]; exact h3)
    refine ⟨_, S, ob', rfl, ⟨rfl, ho'⟩, ?_⟩
    have := hst0.grown (ob' := ob') (Nat.le_add_right _ _) (grownBy_sorted encStr w g n ((sortS l).map Str.b).toArray os) ?_ ?_ hn
    · simpa using this
    · intro r hr
      simp only [Option.some.injEq] at hr; subst hr
      rcases ho with ⟨e1, _⟩ | ⟨g', cap', cur, e1, rfl, _⟩
      · cases e1
      · injection e1 with e1; injection e1 with e1; injection e1 with e1; subst e1; exact ⟨_, List.mem_cons_self⟩
    · intro p hp
      obtain ⟨a1, a2⟩ := hob' p hp
      exact ⟨a1, .inl a2⟩
end
end Go.X
namespace Go.X
open Go Go.RowKit
set_option linter.unusedSectionVars false
section
variable {κ : Type} [DecidableEq κ] [KC κ]
def iE (es : List (κ × Int)) : GE κ := es.map fun x => (x.1, Value.int .i64 x.2)
def wI (k : κ) (es : List (κ × Int)) : Int := (es.map fun x => if x.1 = k then x.2 else 0).sum
def upsI (k : κ) (v : Int) : List (κ × Int) → List (κ × Int)
  | [] => [(k, v)]
  | (k', v') :: r => if k = k' then (k, v) :: r else (k', v') :: upsI k v r
structure WE (es : List (κ × Int)) : Prop where
  nodup : (es.map (·.1)).Nodup
  ok : ∀ x ∈ es, KC.ok x.1
theorem WE.nil : WE ([] : List (κ × Int)) := ⟨List.nodup_nil, fun _ h => by cases h⟩
theorem iE_len (es : List (κ × Int)) : (iE es).length = es.length := by simp [iE]
theorem iE_ok {es : List (κ × Int)} (h : WE es) : ∀ p ∈ iE es, KC.ok p.1 := fun p hp => by
  obtain ⟨x, hx, rfl⟩ := List.mem_map.1 hp
  exact h.ok x hx
theorem iE_at {es : List (κ × Int)} {i : Nat} {k : κ} {v : Value} (h : (iE es)[i]? = some (k, v)) : ∃ n, es[i]? = some (k, n) ∧ v = .int .i64 n := by
  simp only [iE, List.getElem?_map] at h
  cases hx : es[i]? with
  | none => rw [hx] at h; cases h
  | some x =>
    obtain ⟨k', n⟩ := x
    rw [hx] at h
    simp only [Option.map_some, Option.some.injEq, Prod.mk.injEq] at h
    obtain ⟨rfl, rfl⟩ := h
    exact ⟨n, rfl, rfl⟩
theorem iE_ups (k : κ) (v : Int) : ∀ es : List (κ × Int), upsG k (.int .i64 v) (iE es) = iE (upsI k v es)
  | [] => rfl
  | (k', v') :: r => by
    have ih := iE_ups k v r
    by_cases h : k = k'
    · simp [iE, upsG, upsI, h]
    · simp only [iE, List.map_cons, upsG, upsI, if_neg h] at ih ⊢
      rw [ih]
theorem wI_nil (k : κ) : wI k [] = 0 := rfl
theorem wI_cons (k : κ) (x : κ × Int) (es : List (κ × Int)) : wI k (x :: es) = (if x.1 = k then x.2 else 0) + wI k es := by simp [wI]
theorem wI_app (k : κ) (a b : List (κ × Int)) : wI k (a ++ b) = wI k a + wI k b := by simp [wI]
theorem sum_perm {a b : List Int} (h : a.Perm b) : a.sum = b.sum := by
  induction h with
  | nil => rfl
  | cons x _ ih => simp [ih]
  | swap x y l => simp only [List.sum_cons]; omega
  | trans _ _ h1 h2 => exact h1.trans h2
theorem wI_perm {a b : List (κ × Int)} (h : a.Perm b) (k : κ) : wI k a = wI k b := sum_perm (h.map _)
theorem wI_none {k : κ} : ∀ {es : List (κ × Int)}, k ∉ es.map (·.1) → wI k es = 0
  | [], _ => rfl
  | (k', v) :: r, h => by
    simp only [List.map_cons, List.mem_cons, not_or] at h
    rw [wI_cons, if_neg (fun e => h.1 e.symm), wI_none h.2]; rfl
theorem wI_mem {k : κ} {v : Int} : ∀ {es : List (κ × Int)}, (es.map (·.1)).Nodup → (k, v) ∈ es → wI k es = v
  | [], _, h => by cases h
  | (k', v') :: r, hn, h => by
    simp only [List.map_cons, List.nodup_cons] at hn
    rw [wI_cons]
    rcases List.mem_cons.1 h with e | h
    · injection e with e1 e2
      subst e1; subst e2
      rw [if_pos rfl, wI_none hn.1]; exact Int.add_zero _
    · have hne : k' ≠ k := fun e => hn.1 (e ▸ List.mem_map_of_mem h)
      rw [if_neg hne, wI_mem hn.2 h]; exact Int.zero_add _
theorem look_iE (k : κ) : ∀ {es : List (κ × Int)}, (es.map (·.1)).Nodup → (lookG k (iE es)).getD (.int .i64 0) = .int .i64 (wI k es)
  | [], _ => rfl
  | (k', v) :: r, hn => by
    simp only [List.map_cons, List.nodup_cons] at hn
    rw [wI_cons]
    by_cases h : k = k'
    · subst h
      rw [if_pos rfl, wI_none hn.1]
      simp [iE, lookG]
    · have ih := look_iE k hn.2
      simp only [iE, List.map_cons, lookG, if_neg h] at ih ⊢
      rw [ih, if_neg (fun e => h e.symm), Int.zero_add]
theorem ups_keys (k : κ) (v : Int) : ∀ es : List (κ × Int), (upsI k v es).map (·.1) = if k ∈ es.map (·.1) then es.map (·.1) else es.map (·.1) ++ [k]
  | [] => by simp [upsI]
  | (k', v') :: r => by
    by_cases h : k = k'
    · subst h; simp [upsI]
    · rw [upsI, if_neg h, List.map_cons, ups_keys k v r]
      simp only [List.map_cons, List.mem_cons, h, false_or]
      split <;> simp
theorem WE.ups {es : List (κ × Int)} (h : WE es) {k : κ} (hk : KC.ok k) (v : Int) : WE (upsI k v es) := by
  refine ⟨?_, fun x hx => ?_⟩
  · rw [ups_keys]
    split
    · exact h.nodup
    · rename_i hm
      rw [List.nodup_append]
      exact ⟨h.nodup, by simp, fun a ha b hb e => hm (by simp at hb; subst hb; subst e; exact ha)⟩
  · have : x.1 ∈ (upsI k v es).map (·.1) := List.mem_map_of_mem hx
    rw [ups_keys] at this
    have hes : ∀ y ∈ es.map (·.1), KC.ok y := fun y hy => by obtain ⟨z, hz, rfl⟩ := List.mem_map.1 hy; exact h.ok z hz
    split at this
    · exact hes _ this
    · rcases List.mem_append.1 this with h1 | h1
      · exact hes _ h1
      · simp at h1; rw [h1]; exact hk
theorem wI_ups (j k : κ) (v : Int) : ∀ {es : List (κ × Int)}, (es.map (·.1)).Nodup → wI j (upsI k v es) = if j = k then v else wI j es
  | [], _ => by
    rw [upsI, wI_cons, wI_nil]
    by_cases h : j = k
    · subst h; simp
    · rw [if_neg (fun e => h e.symm), if_neg h]; rfl
  | (k', v') :: r, hn => by
    simp only [List.map_cons, List.nodup_cons] at hn
    by_cases h : k = k'
    · subst h
      rw [upsI, if_pos rfl, wI_cons, wI_cons]
      by_cases hj : j = k
      · subst hj; rw [if_pos rfl, if_pos rfl, wI_none hn.1]; exact Int.add_zero _
      · rw [if_neg (fun e => hj e.symm), if_neg hj, if_neg (fun e => hj e.symm)]
    · rw [upsI, if_neg h, wI_cons, wI_cons, wI_ups j k v hn.2]
      by_cases hj : j = k
      · subst hj
        rw [if_pos rfl, if_pos rfl, if_neg (fun e => h e.symm)]; exact Int.zero_add _
      · rw [if_neg hj, if_neg hj]
theorem upsI_ups (k : κ) (u v : Int) : ∀ es : List (κ × Int), upsI k v (upsI k u es) = upsI k v es
  | [] => by simp [upsI]
  | (k', v') :: r => by
    by_cases h : k = k'
    · simp [upsI, h]
    · simp [upsI, h, upsI_ups k u v r]
theorem ups_len (k : κ) (v : Int) : ∀ es : List (κ × Int), (upsI k v es).length ≤ es.length + 1
  | [] => by simp [upsI]
  | (k', v') :: r => by
    by_cases h : k = k'
    · simp [upsI, h]
    · simp only [upsI, if_neg h, List.length_cons]; have := ups_len k v r; omega
/-- What a range over a map has met. -/
def selE {α : Type} (es : List α) (seen : List Nat) : List α := seen.filterMap fun i => es[i]?
theorem selE_snoc {α : Type} {es : List α} {seen : List Nat} {i : Nat} {x : α} (h : es[i]? = some x) : selE es (seen ++ [i]) = selE es seen ++ [x] := by simp [selE, h]
theorem selE_range {α : Type} : ∀ es : List α, (List.range es.length).filterMap (fun i => es[i]?) = es
  | [] => rfl
  | x :: r => by
    rw [List.length_cons, List.range_succ_eq_map, List.filterMap_cons]
    simp only [List.getElem?_cons_zero, List.filterMap_map, Function.comp_def, List.getElem?_cons_succ]
    rw [selE_range r]
theorem selE_len {α : Type} {es : List α} : ∀ {seen : List Nat}, (∀ i ∈ seen, i < es.length) → (selE es seen).length = seen.length
  | [], _ => rfl
  | i :: r, h => by
    have hi := h i List.mem_cons_self
    have ih := selE_len (es := es) (seen := r) (fun j hj => h j (List.mem_cons_of_mem _ hj))
    unfold selE at ih ⊢
    rw [List.filterMap_cons, List.getElem?_eq_getElem hi]
    simp only [List.length_cons, ih]
theorem nodup_lt : ∀ (n : Nat) (l : List Nat), l.Nodup → (∀ i ∈ l, i < n) → l.length ≤ n
  | 0, l, _, h => by
    cases l with
    | nil => exact Nat.le_refl _
    | cons a t => exact absurd (h a List.mem_cons_self) (Nat.not_lt_zero _)
  | n + 1, l, hn, h => by
    have h1 := nodup_lt n (l.erase n) (hn.erase n) fun i hi => by
      have h2 := h i (List.mem_of_mem_erase hi)
      have h3 : i ≠ n := fun e => (hn.not_mem_erase) (e ▸ hi)
      omega
    by_cases hm : n ∈ l
    · have := List.length_erase_of_mem hm; omega
    · rw [List.erase_of_not_mem hm] at h1; omega
theorem selE_none {κ : Type} {fs : List (κ × Int)} {seen : List Nat} {i : Nat} {k : κ} {v : Int} (hn : (fs.map (·.1)).Nodup) (h : fs[i]? = some (k, v)) (hi : i ∉ seen) : k ∉ (selE fs seen).map (·.1) := fun hm => by
  obtain ⟨⟨k', v'⟩, hx, e⟩ := List.mem_map.1 hm
  simp only at e; subst e
  obtain ⟨j, hj, hat⟩ := List.mem_filterMap.1 hx
  obtain ⟨h1, h2⟩ := List.getElem?_eq_some_iff.1 h
  obtain ⟨h3, h4⟩ := List.getElem?_eq_some_iff.1 hat
  have : i = j := (List.getElem_inj (i := i) (j := j) (h₀ := by simpa using h1) (h₁ := by simpa using h3) hn).1 (by simp [h2, h4])
  exact hi (this ▸ hj)
theorem selE_all {α : Type} {es : List α} {seen : List Nat} (hn : seen.Nodup) (hl : ∀ i ∈ seen, i < es.length) (hc : ∀ i, i < es.length → i ∈ seen) : (selE es seen).Perm es := by
  have hp : seen.Perm (List.range es.length) := (List.perm_ext_iff_of_nodup hn List.nodup_range).2 fun i => ⟨fun h => List.mem_range.2 (hl i h), fun h => hc i (List.mem_range.1 h)⟩
  have := hp.filterMap (fun i => es[i]?)
  rw [selE_range] at this
  exact this
end
section
variable {κ : Type} [DecidableEq κ] [KC κ] {P : Program} {cx : Cx} {n : Nat} {S S0 : SH} {L L0 : Blocks} {F : Slots} {ro : Option Nat} {ops : Array Oper} {Q : Exit → Act → World → Prop} {rest : List Oper} {d : Nat} {ty : TypeId} {pos : String} {af : Array Edge} {g : Option (Nat × Bool)} {fuel : Nat} {listed : Array Bool}
theorem ev_lookI {T k e : TypeId} [hT : Mpt P T k e] [hK : Kmp P k κ] [hz : Zr P e (.int .i64 0)] {x y : Operand} {b : Nat} {es : List (κ × Int)} {key : κ} {v : Int} (hE : WE es) (hl : KC.ok key) (hv : wI key es = v) (hx : evO F x = some (.map (some b))) (hy : evO F y = some (KC.kv key)) (hm : (b, mapGO (iE es)) ∈ L) :
    Ev P cx n S L F (.lookup T x y false) ty (.int .i64 v) := by
  have h := ev_lookupG (P := P) (cx := cx) (n := n) (S := S) (F := F) (ty := ty) (z := .int .i64 0) (T := T) hx hy hm (iE_ok hE) hl
  rw [look_iE key hE.nodup, hv] at h
  exact h
theorem n_mapEntryI {i : Nat} {T k e : TypeId} {x y : Operand} {b : Nat} {es : List (κ × Int)} {key : κ} {v : Int} {L' : Blocks} (hE : WE es) (hl : KC.ok key) (hv : wI key es = v) (hi : ops[i]? = some ⟨some d, .mapEntry T x y, ty, pos, af, g⟩) (i1 : Mpt P T k e) (i2 : Kmp P k κ) (hz : Zr P e (.int .i64 0)) (hg : want ops F g = some true) (hd : Nat.blt d n = true) (hx : evO F x = some (.map (some b))) (hy : evO F y = some (KC.kv key))
    (hL : Upd L b (mapGO (iE es)) (mapGO (iE (upsI key v es))) L') (hsub : L0.Sublist L → L0.Sublist L')
    (k : ∀ j, posG key (iE (upsI key v es)) = some j → Wh P cx n S0 L0 ops Q fuel (listed.setIfInBounds i true) S L' ((d, .tuple [.int .i64 v, .int .i64 (j : Nat)].toArray) :: F)) : Wn P cx n S0 L0 ops Q fuel listed i S L F := by
  have e := look_iE key hE.nodup
  rw [hv] at e
  refine n_mapEntryG (z := .int .i64 0) (L' := L') hi i1 i2 hz hg hd hx hy (iE_ok hE) hl ?_ hsub ?_
  · rw [e, iE_ups]; exact hL
  · intro j hj
    rw [e, iE_ups] at hj
    rw [e]
    exact k j hj
theorem n_entryStoreI {i : Nat} {T : TypeId} {x y z : Operand} {b j : Nat} {es : List (κ × Int)} {key : κ} {u v : Int} {L' : Blocks} (hp : posG key (iE (upsI key u es)) = some j) (hi : ops[i]? = some ⟨none, .entryStore T x y z, ty, pos, af, g⟩) (hg : want ops F g = some true) (hx : evO F x = some (.map (some b))) (hy : evO F y = some (.int .i64 (j : Nat))) (hz : evO F z = some (.int .i64 v))
    (hL : Upd L b (mapGO (iE (upsI key u es))) (mapGO (iE (upsI key v es))) L') (hsub : L0.Sublist L → L0.Sublist L') (k : Wh P cx n S0 L0 ops Q fuel (listed.setIfInBounds i true) S L' F) : Wn P cx n S0 L0 ops Q fuel listed i S L F := by
  refine n_entryStoreG hp hi hg hx hy hz ?_ hsub k
  rw [iE_ups, upsI_ups]; exact hL
theorem ev_lookupS {T k e : TypeId} [hT : Mpt P T k e] [hK : Kmp P k κ] {z : Value} [hz : Zr P e z] {x y : Operand} {b : Nat} {ent : GE κ} {key : κ} (hE : (∀ p ∈ ent, KC.ok p.1)) (hl : KC.ok key) (hm : S b = some (mapGO ent)) (hx : evO F x = some (.map (some b))) (hy : evO F y = some (KC.kv key)) :
    Ev P cx n S L F (.lookup T x y false) ty ((lookG key ent).getD z) := fun a w hf hs op hop _ => by
  have hb := hs.stable _ _ hm
  simp [execOp, hop, hf.ev hx, hf.ev hy, run_lookupG hT.h hl hE hb]
theorem ev_lookIS {T k e : TypeId} [hT : Mpt P T k e] [hK : Kmp P k κ] [hz : Zr P e (.int .i64 0)] {x y : Operand} {b : Nat} {es : List (κ × Int)} {key : κ} {v : Int} (hE : WE es) (hl : KC.ok key) (hv : wI key es = v) (hm : S b = some (mapGO (iE es))) (hx : evO F x = some (.map (some b))) (hy : evO F y = some (KC.kv key)) :
    Ev P cx n S L F (.lookup T x y false) ty (.int .i64 v) := by
  have h := ev_lookupS (P := P) (cx := cx) (n := n) (L := L) (F := F) (ty := ty) (z := .int .i64 0) (T := T) (iE_ok hE) hl hm hx hy
  rw [look_iE key hE.nodup, hv] at h
  exact h
theorem ev_lookSv {T k e : TypeId} [hT : Mpt P T k e] [hK : Kmp P k κ] {z v : Value} [hz : Zr P e z] {x y : Operand} {b : Nat} {ent : GE κ} {key : κ} (hE : (∀ p ∈ ent, KC.ok p.1)) (hl : KC.ok key) (hv : (lookG key ent).getD z = v) (hm : S b = some (mapGO ent)) (hx : evO F x = some (.map (some b))) (hy : evO F y = some (KC.kv key)) :
    Ev P cx n S L F (.lookup T x y false) ty v := hv ▸ ev_lookupS (z := z) hE hl hm hx hy
theorem ev_lookOv {T k e : TypeId} [hT : Mpt P T k e] [hK : Kmp P k κ] {z v : Value} [hz : Zr P e z] {x y : Operand} {b : Nat} {ent : GE κ} {key : κ} (hE : (∀ p ∈ ent, KC.ok p.1)) (hl : KC.ok key) (hv : (lookG key ent).getD z = v) (hx : evO F x = some (.map (some b))) (hy : evO F y = some (KC.kv key)) (hm : (b, mapGO ent) ∈ L) :
    Ev P cx n S L F (.lookup T x y false) ty v := hv ▸ ev_lookupG (z := z) hx hy hm hE hl
theorem strs_one (l : List Bs) : (l.map strV).all (·.oneCell') = true := by
  rw [List.all_eq_true]
  intro v hv
  obtain ⟨x, _, rfl⟩ := List.mem_map.1 hv
  rfl
end
end Go.X
namespace Go.X
open Go Go.RowKit
set_option linter.unusedVariables false
/-- A block that the call itself has made. -/
def New (cx : Cx) (b : Nat) : Prop := cx.S0 b = none ∧ (cx.w0.heap.size ≤ b ∨ b ∈ cx.L0)
section
variable {cx : Cx} {n : Nat} {S : SH} {L : Blocks} {F : Slots} {α : Type} [Cl α]
theorem St.newOf {b : Nat} {o : Obj} {w : World} (h : St cx S ((b, o) :: L) w) : New cx b := by
  refine ⟨?_, ?_⟩
  · cases h0 : cx.S0 b with
    | none => rfl
    | some o' =>
      have h1 := h.le b o' h0
      have h2 := h.sep _ List.mem_cons_self
      simp only at h2
      rw [h2] at h1; cases h1
  · by_cases hb : b < cx.w0.heap.size
    · exact .inr (h.new _ List.mem_cons_self hb)
    · exact .inl (by omega)
theorem W.freezeN {G : Act → World → Prop} {b : Nat} {o : Obj} (h : ∀ S', Le S S' → S' b = some o → New cx b → W cx n S' L F G) : W cx n S ((b, o) :: L) F G := fun a w hf hs =>
  h _ hs.freeze.2 (by simp [SH.add]) hs.newOf a w hf hs.freeze.1
theorem St.thaw {b : Nat} {o : Obj} {w : World} (h : St cx S L w) (hb : S b = some o) (hn : New cx b) : St cx (fun c => if c = b then none else S c) ((b, o) :: L) w := by
  refine ⟨h.size, h.os, h.tape, h.output, h.drawn, h.keep, fun c o' hc => ?_, fun p hp => ?_, fun p hp => ?_, ?_, fun p hp => ?_, fun c => ?_, fun c o' hc => ?_⟩
  · by_cases e : c = b
    · simp [e] at hc
    · simp only [if_neg e] at hc; exact h.stable c o' hc
  · rcases List.mem_cons.1 hp with rfl | hp
    · exact h.stable _ _ hb
    · exact h.own p hp
  · rcases List.mem_cons.1 hp with rfl | hp
    · simp
    · show (if p.1 = b then none else S p.1) = none
      split
      · rfl
      · exact h.sep p hp
  · simp only [List.map_cons, List.nodup_cons]
    refine ⟨fun hm => ?_, h.nodup⟩
    obtain ⟨p, hp, e⟩ := List.mem_map.1 hm
    have := h.sep p hp
    rw [e, hb] at this; cases this
  · rcases List.mem_cons.1 hp with rfl | hp
    · intro hlt
      rcases hn.2 with h1 | h1
      · simp only at hlt; omega
      · exact h1
    · exact h.new p hp
  · by_cases e : c = b
    · subst e; exact .inr hn.2
    · simp only [if_neg e]; exact h.grow c
  · by_cases e : c = b
    · subst e; rw [hn.1] at hc; cases hc
    · simp only [if_neg e]; exact h.le c o' hc
theorem W.thaw {G : Act → World → Prop} {b : Nat} {o : Obj} (hb : S b = some o) (hn : New cx b) (k : ∀ S', W cx n S' ((b, o) :: L) F G) : W cx n S L F G := fun a w hf hs => k _ a w hf (hs.thaw hb hn)
/-- A row of the call's own that was laid still. -/
def Fz (cx : Cx) (S : SH) (e : TypeId) (v : Value) (l : List α) : Prop := ∃ ob, Ows e v l ob ∧ ∀ p ∈ ob, S p.1 = some p.2 ∧ New cx p.1
theorem Fz.nil (e : TypeId) : Fz (α := α) cx S e (.slice none 0 0) [] := ⟨[], Ows.nil e, fun p hp => absurd hp List.not_mem_nil⟩
theorem Fz.le {T : SH} {e : TypeId} {v : Value} {l : List α} (h : Fz cx S e v l) (k : Le S T) : Fz cx T e v l := by
  obtain ⟨ob, h1, h2⟩ := h
  exact ⟨ob, h1, fun p hp => ⟨k _ _ (h2 p hp).1, (h2 p hp).2⟩⟩
theorem Fz.sr {e : TypeId} {v : Value} {l : List α} (h : Fz cx S e v l) : Sr S v l := by
  obtain ⟨ob, h1, h2⟩ := h
  exact h1.sr fun p hp => (h2 p hp).1
end
end Go.X
namespace Go.X
open Go Go.RowKit
set_option linter.unusedVariables false
def Fzb (cx : Cx) (S : SH) (ob : Blocks) : Prop := ∀ p ∈ ob, S p.1 = some p.2 ∧ New cx p.1
section
variable {cx : Cx} {n : Nat} {S : SH} {L : Blocks} {F : Slots} {α : Type} [Cl α]
theorem Fzb.le {T : SH} {ob : Blocks} (h : Fzb cx S ob) (k : Le S T) : Fzb cx T ob := fun p hp => ⟨k _ _ (h p hp).1, (h p hp).2⟩
theorem W.freezeB {G : Act → World → Prop} {e : TypeId} {v : Value} {l : List α} {ob L1 : Blocks} (ho : Ows e v l ob) (hL : L.Perm (ob ++ L1)) (k : ∀ S', Le S S' → Sr S' v l → Fzb cx S' ob → W cx n S' L1 F G) : W cx n S L F G := by
  refine W.perm ?_ hL
  have ho2 := ho
  rcases ho with ⟨rfl, rfl, rfl⟩ | ⟨g', cap, cur, rfl, rfl, h1, h2, h3, h4⟩
  · exact k S (Le.refl _) (Fz.nil (cx := cx) e).sr (fun p hp => absurd hp List.not_mem_nil)
  · refine W.freezeN fun S' hle hb hn => ?_
    have hz : Fzb cx S' [(g', .cells cur e (0, 0))] := fun p hp => by
      rw [List.mem_singleton.1 hp]
      exact ⟨hb, hn⟩
    exact k S' hle (Fz.sr (cx := cx) ⟨_, ho2, hz⟩) hz
theorem W.thawB {G : Act → World → Prop} {e : TypeId} {v : Value} {l : List α} {ob : Blocks} (ho : Ows e v l ob) (h : Fzb cx S ob) (k : ∀ S', W cx n S' (ob ++ L) F G) : W cx n S L F G := by
  rcases ho with ⟨rfl, rfl, rfl⟩ | ⟨g', cap, cur, rfl, rfl, h1, h2, h3, h4⟩
  · exact k S
  · obtain ⟨h5, h6⟩ := h _ List.mem_cons_self
    exact W.thaw h5 h6 fun S' => k S'
end
end Go.X
namespace Go.X
open Go Go.RowKit
set_option linter.unusedSectionVars false
class Nd4 (P : Program) (t : TypeId) : Prop where
  ex : ∃ f0 f1 f2 f3 : Field, P.underlying t = some (.struct #[f0, f1, f2, f3]) ∧ P.stoodInHeld t = false ∧ (f0.name ≠ "_" ∧ f1.name ≠ "_" ∧ f2.name ≠ "_" ∧ f3.name ≠ "_") ∧ (f0.offset = 0 ∧ f1.offset = 1 ∧ f2.offset = 2 ∧ f3.offset = 3) ∧
    P.underlying f0.type = some (.int .i64) ∧ P.underlying f1.type = some .string ∧ P.underlying f2.type = some (.int .i64) ∧ P.underlying f3.type = some (.int .i64)
section
variable {P : Program} {cx : Cx} {n : Nat} {S : SH} {L : Blocks} {F : Slots} {ty : TypeId}
def eq4 (p : Int) (s : Bs) (o u : Int) (p' : Int) (s' : Bs) (o' u' : Int) : Bool := p == p' && (s == s' && (o == o' && u == u'))
theorem run_eq4 {t : TypeId} [ht : Nd4 P t] (p : Int) (s : Bs) (o u p' : Int) (s' : Bs) (o' u' : Int) (w : World) :
    (Op.equal t (.agg [.int .i64 p, strV s, .int .i64 o, .int .i64 u].toArray) (.agg [.int .i64 p', strV s', .int .i64 o', .int .i64 u'].toArray)).run P w = .ok (eq4 p s o u p' s' o' u') w := by
  obtain ⟨f0, f1, f2, f3, h1, h2, ⟨n0, n1, n2, n3⟩, ⟨o0, o1, o2, o3⟩, t0, t1, t2, t3⟩ := ht.ex
  have hfs : P.fieldsOf t = #[f0, f1, f2, f3] := by simp [Program.fieldsOf, h1]
  have h3 : (P.fieldsOf t).toList = [f0, f1, f2, f3] := by rw [hfs]
  have h1' : P.underlying t = some (.struct (P.fieldsOf t)) := by rw [hfs]; exact h1
  have hr := run_equalIn_struct (P := P) (w := w) 9999 t [.int .i64 p, strV s, .int .i64 o, .int .i64 u].toArray [.int .i64 p', strV s', .int .i64 o', .int .i64 u'].toArray h1' h2
  have hop : ∀ a b, Op.equal t a b = Op.equalIn (9999 + 1) t a b := fun _ _ => rfl
  rw [hop, hr, h3]
  have pl : ∀ e, P.underlying e = some (.int .i64) ∨ P.underlying e = some .string → P.plainKey e = true := fun e h => by
    unfold Program.plainKey
    rcases h with h | h <;> rw [h]
  have a0 := fun xs v h => run_part_plain (P := P) w (pl _ (.inl t0)) (xs := xs) (off := 0) (v := v) h
  have a1 := fun xs v h => run_part_plain (P := P) w (pl _ (.inr t1)) (xs := xs) (off := 1) (v := v) h
  have a2 := fun xs v h => run_part_plain (P := P) w (pl _ (.inl t2)) (xs := xs) (off := 2) (v := v) h
  have a3 := fun xs v h => run_part_plain (P := P) w (pl _ (.inl t3)) (xs := xs) (off := 3) (v := v) h
  have e0 := run_equalIn_int (P := P) (w := w) 9998 f0.type .i64 .i64 p p' t0
  have e2 := run_equalIn_int (P := P) (w := w) 9998 f2.type .i64 .i64 o o' t2
  have e3 := run_equalIn_int (P := P) (w := w) 9998 f3.type .i64 .i64 u u' t3
  have e1 : (Op.equalIn (9998 + 1) f1.type (strV s) (strV s')).run P w = .ok (s == s') w := by
    have h := run_equalIn_string (P := P) (w := w) 9998 f1.type ⟨s.toArray⟩ ⟨s'.toArray⟩ t1
    rw [ba_list, ba_list] at h
    exact h
  unfold eq4
  simp only [Op.eqFields, n0, n1, n2, n3, ne_eq, not_false_eq_true, if_true, Sem.run_bind, o0, o1, o2, o3]
  rw [a0 _ (.int .i64 p) rfl, Result.andThen_ok, a0 _ (.int .i64 p') rfl, Result.andThen_ok, e0, Result.andThen_ok]
  cases (p == p')
  · simp
  simp only [Bool.not_true, Bool.false_eq_true, if_false, Sem.run_bind]
  rw [a1 _ (strV s) rfl, Result.andThen_ok, a1 _ (strV s') rfl, Result.andThen_ok, e1, Result.andThen_ok]
  cases (s == s')
  · simp
  simp only [Bool.not_true, Bool.false_eq_true, if_false, Sem.run_bind]
  rw [a2 _ (.int .i64 o) rfl, Result.andThen_ok, a2 _ (.int .i64 o') rfl, Result.andThen_ok, e2, Result.andThen_ok]
  cases (o == o')
  · simp
  simp only [Bool.not_true, Bool.false_eq_true, if_false, Sem.run_bind]
  rw [a3 _ (.int .i64 u) rfl, Result.andThen_ok, a3 _ (.int .i64 u') rfl, Result.andThen_ok, e3, Result.andThen_ok]
  cases (u == u') <;> simp
theorem ev_neq4 {T T' : TypeId} [ht : Nd4 P T] [hg : Ng P T] {x y : Operand} {p : Int} {s : Bs} {o u p' : Int} {s' : Bs} {o' u' : Int} {r : Bool} (hx : evO F x = some (.agg [.int .i64 p, strV s, .int .i64 o, .int .i64 u].toArray)) (hy : evO F y = some (.agg [.int .i64 p', strV s', .int .i64 o', .int .i64 u'].toArray)) (hr : (!eq4 p s o u p' s' o' u') = r) :
    Ev P cx n S L F (.binOp .neq T x y T') ty (.bool r) := fun a w hf _ op hop _ => by
  simp [execOp, hop, hf.ev hx, hf.ev hy, eqGuard, hg.h, binOp, run_eq4, ← hr]
theorem ev_eql4 {T T' : TypeId} [ht : Nd4 P T] [hg : Ng P T] {x y : Operand} {p : Int} {s : Bs} {o u p' : Int} {s' : Bs} {o' u' : Int} {r : Bool} (hx : evO F x = some (.agg [.int .i64 p, strV s, .int .i64 o, .int .i64 u].toArray)) (hy : evO F y = some (.agg [.int .i64 p', strV s', .int .i64 o', .int .i64 u'].toArray)) (hr : eq4 p s o u p' s' o' u' = r) :
    Ev P cx n S L F (.binOp .eql T x y T') ty (.bool r) := fun a w hf _ op hop _ => by
  simp [execOp, hop, hf.ev hx, hf.ev hy, eqGuard, hg.h, binOp, run_eq4, ← hr]
theorem ev_eqlP {T T' : TypeId} [ht : Kas P T] [hg : Ng P T] {x y : Operand} {p q : List Bs} {r : Bool} (hx : evO F x = some (.agg (p.map strV).toArray)) (hy : evO F y = some (.agg (q.map strV).toArray)) (hp : p.length = 12) (hq : q.length = 12) (hr : decide (p = q) = r) :
    Ev P cx n S L F (.binOp .eql T x y T') ty (.bool r) := fun a w hf _ op hop _ => by
  simp [execOp, hop, hf.ev hx, hf.ev hy, eqGuard, hg.h, binOp, run_pth_eq hp hq, ← hr]
theorem ev_load_own_mid {T : TypeId} {sz : Nat} [Ag P T sz] {x : Operand} {b o : Nat} {cs vs : List Value} {T' : TypeId} {fz : Nat × Nat} (hx : evO F x = some (.pointer (some ⟨b, o, none⟩))) (hm : (b, Obj.cells cs.toArray T' fz) ∈ L) (hl : vs.length = sz) (hv : ∀ j u, vs[j]? = some u → cs[o + j]? = some u) :
    Ev P cx n S L F (.load T x) ty (.agg vs.toArray) := fun a w hf hs op hop _ => by
  simp [execOp, hop, hf.ev hx, Instr.loadAt, Instr.sureAddr, run_loadVar_ag hl (fun j u hj => by
    have e : (⟨b, o, none⟩ : Addr).add j = ⟨b, o + j, none⟩ := by unfold Addr.add; split <;> simp_all
    rw [e, own_cell hs hm (o + j)]; simpa using hv j u hj)]
end
end Go.X
namespace Go.X
open Go Go.RowKit Go.Sort Go.Proofs Go.Shelf Go.Lib
theorem St.behind {cx : Cx} {S : SH} {L : Blocks} {w : World} (h : St cx S L w) (os : Array Obj) : St cx S L (Sort.grow w os) := by
  have hold : ∀ b o, w.heap[b]? = some o → (Sort.grow w os).heap[b]? = some o := fun b o hb => (heap_grow_old w os (heap_lt hb)).trans hb
  exact { h with
    size := Nat.le_trans h.size (by simp [Sort.grow])
    keep := fun b hb hb0 => (heap_grow_old w os (Nat.lt_of_lt_of_le hb h.size)).trans (h.keep b hb hb0)
    stable := fun b o hb => hold _ _ (h.stable b o hb)
    own := fun p hp => hold _ _ (h.own p hp) }
theorem St.drewN {cx : Cx} {S : SH} {L : Blocks} {w : World} (h : St cx S L w) (q : Nat) : St cx S L (w.drewN q) := { h with drawn := Nat.le_trans h.drawn (Nat.le_add_right _ _) }
/-- A call that turns nothing of what was: draws, and blocks behind. -/
theorem grown_of {W w' : World} {S S' : SH} {L' : Blocks} (h : St ⟨W, S, []⟩ S' L' w') : ∃ q os', w' = grow (W.drewN q) os' := by
  refine ⟨w'.drawn - W.drawn, w'.heap.extract W.heap.size w'.heap.size, ?_⟩
  have h1 := h.size
  have h2 := h.drawn
  have h3 := h.os
  have h4 := h.tape
  have h5 := h.output
  have h6 : w'.heap = W.heap ++ w'.heap.extract W.heap.size w'.heap.size := by
    apply Array.ext_getElem?
    intro i
    simp only at h1
    by_cases hi : i < W.heap.size
    · rw [Array.getElem?_append_left hi]; exact h.keep i hi (by simp)
    · rw [Array.getElem?_append_right (by omega), Array.getElem?_extract]
      split
      · congr 1; omega
      · rw [Array.getElem?_eq_none (by omega)]
  simp only at h2 h3 h4 h5
  cases w'
  simp only [grow, World.drewN] at *
  simp only [World.mk.injEq]
  exact ⟨h6, h4, by omega, h3, h5⟩
section
variable {α : Type} [Cl α] [Inhabited α] {P : Program}
theorem flatK_cells (l : List α) : flatK (Cl.cells (α := α)) (Cl.size α) l.toArray = (cellsOf l).toArray := by
  apply Array.ext_getElem?
  intro t
  have hsz : (flatK (Cl.cells (α := α)) (Cl.size α) l.toArray).size = l.length * Cl.size α := by simp
  by_cases ht : t < l.length * Cl.size α
  · have h0 : 0 < Cl.size α := by
      rcases Nat.eq_zero_or_pos (Cl.size α) with h | h
      · rw [h] at ht; omega
      · exact h
    have hi : t / Cl.size α < l.length := Nat.div_lt_of_lt_mul (by rw [Nat.mul_comm]; exact ht)
    have hm : t % Cl.size α < Cl.size α := Nat.mod_lt _ h0
    have h1 := get_flatK (Cl.cells (α := α)) (Cl.size α) l.toArray t (by simpa using ht)
    rw [getElem!_pos _ t (by rw [hsz]; exact ht)] at h1
    rw [Array.getElem?_eq_getElem (by rw [hsz]; exact ht), h1]
    have hlen : (Cl.cells l[t / Cl.size α]).length = Cl.size α := Cl.len _
    have e1 : l.toArray[t / Cl.size α]! = l[t / Cl.size α] := by simp [hi]
    rw [e1, getElem!_pos _ _ (by rw [hlen]; exact hm), List.getElem?_toArray]
    have := cellsOf_at l (t / Cl.size α) l[t / Cl.size α] (List.getElem?_eq_getElem hi) (t % Cl.size α) _ (List.getElem?_eq_getElem (by rw [hlen]; exact hm))
    rw [← this]
    congr 1
    rw [Nat.mul_comm]; exact Nat.div_add_mod t _
  · rw [Array.getElem?_eq_none (by rw [hsz]; omega), Array.getElem?_eq_none (by rw [List.size_toArray, cellsOf_length]; omega)]
variable {f g : FuncId} {cf : α → α → Int} {e : TypeId} {v : Value} {l : List α} {ob : Blocks} {S : SH}
end
end Go.X
namespace Go.X
open Go Go.RowKit Go.Sort Go.Proofs Go.Shelf Go.Lib
theorem sortWorldK_other {α : Type} [Inhabited α] (enc : α → List Value) (k : Nat) (w : World) (blk off m : Nat) (dk : Array α) (os : Array Obj) {b : Nat} (hb : b < w.heap.size) (hne : b ≠ blk) : (sortWorldK enc k w blk off m dk os).heap[b]? = w.heap[b]? := by
  unfold sortWorldK
  rw [heap_grow_old _ os (by unfold putRowK; rw [Go.Sort.size_putRow]; exact hb)]
  unfold putRowK putRow mapBlock
  simp only [Array.getElem?_modify]
  rw [if_neg (fun e => hne e.symm)]
  rfl
section
variable {α : Type} [Cl α] [Inhabited α] {P : Program}
theorem cmpLays_ofS {g : FuncId} {cf : α → α → Int} {S : SH} (hc : ∀ (x y : α), Con P g #[.agg (Cl.cells x).toArray, .agg (Cl.cells y).toArray] S [] (fun _ _ r => r = .int .i64 (cf x y))) (blk off size : Nat) (w : World) (hs : ∀ b o, S b = some o → w.heap[b]? = some o) (hn : S blk = none) :
    CmpLays P g #[] (Cl.cells (α := α)) (Cl.size α) cf blk off size w := by
  intro m os dk hsz x y
  have h := hc x y (sortWorldK Cl.cells (Cl.size α) w blk off m dk os) (St.start _ _ [] (fun b o hb => by
    have h1 := hs b o hb
    rw [sortWorldK_other _ _ _ _ _ _ _ _ (heap_lt h1) (fun e => by rw [e, hn] at hb; cases hb)]
    exact h1) (by simp) (by simp) (by simp))
  rw [Array.append_empty]
  refine Calls.mono h ?_
  rintro e w' ⟨v, S', L', rfl, rfl, hst⟩
  exact ⟨rfl, grown_of hst⟩
variable {f g : FuncId} {cf : α → α → Int} {e : TypeId} {v : Value} {l : List α} {ob : Blocks} {S : SH}
/-- slices.SortFunc at a slice of the call's own: a permutation, sorted. -/
theorem sortF_conS (hs : ∀ (blk cap : Nat) (d : Array α) (w : World), CmpLays P g #[] (Cl.cells (α := α)) (Cl.size α) cf blk 0 d.size w → HoldsK (Cl.cells (α := α)) (Cl.size α) w blk 0 d → blk < w.heap.size → d.size < 4611686018427387904 →
      Calls P f #[.slice (some ⟨blk, 0, none⟩) d.size cap, .func (.func g) #[] #[]] w fun e w' => e = .returned (.tuple #[]) ∧ ∃ d' n os, PermIn 0 d.size d d' ∧ SortedIn (ltOf cf) 0 d.size d' ∧ w' = sortWorldK (Cl.cells (α := α)) (Cl.size α) w blk 0 n d' os)
    (h0 : ∀ (p : Option Addr) (cap : Nat) (fv : Value) (w : World), Calls P f #[.slice p 0 cap, fv] w fun e w' => e = .returned (.tuple #[]) ∧ w' = w)
    (hc : ∀ (x y : α), Con P g #[.agg (Cl.cells x).toArray, .agg (Cl.cells y).toArray] S [] (fun _ _ r => r = .int .i64 (cf x y))) (ho : Ows e v l ob) (hl : l.length < 4611686018427387904) :
    Con P f #[v, .func (.func g) #[] #[]] S ob (fun S' L' r => S' = S ∧ r = .tuple #[] ∧ ∃ l', l'.Perm l ∧ l'.Pairwise (fun x y => ¬ cf y x < 0) ∧ Ows e v l' L') := by
  intro w hst
  rcases ho with ⟨rfl, rfl, rfl⟩ | ⟨b, cap, cs, rfl, rfl, h1, h2, h3, h4⟩
  · refine (h0 none 0 _ w).mono ?_
    rintro e' w' ⟨rfl, rfl⟩
    exact ⟨_, S, [], rfl, ⟨rfl, rfl, [], List.Perm.refl _, List.Pairwise.nil, Ows.nil e⟩, hst⟩
  · obtain ⟨cs⟩ := cs
    have hk : (cellsOf l).length = l.length * Cl.size α := cellsOf_length l
    have hcl : (cellsOf l).length ≤ cs.length := by
      simp only [List.size_toArray] at h3
      rw [hk, h3]; exact Nat.mul_le_mul_right _ h1
    have hb : w.heap[b]? = some (.cells cs.toArray e (0, 0)) := hst.own _ List.mem_cons_self
    have hm : (b, Obj.cells cs.toArray e (0, 0)) ∈ [(b, Obj.cells cs.toArray e (0, 0))] := List.mem_cons_self
    have hF : Holds id w b 0 (cellsOf l).toArray := fun j hj => by
      have hj' : j < (cellsOf l).length := by simpa using hj
      rw [Nat.zero_add]
      refine ⟨?_, own_frozen hst hm j⟩
      rw [own_cell hst hm]
      have e1 : cs[j]? = (cellsOf l)[j]? := by
        rw [← h4, hk.symm, List.getElem?_take_of_lt hj']
      simp only [id, List.getElem?_toArray, e1]
      have e2 : (cellsOf l).toArray[j]! = (cellsOf l)[j] := by simp [hj']
      rw [List.getElem?_eq_getElem hj', e2]
    have hH : HoldsK (Cl.cells (α := α)) (Cl.size α) w b 0 l.toArray := by unfold HoldsK; rw [flatK_cells]; exact hF
    have hcall := hs b cap l.toArray w (cmpLays_ofS hc b 0 _ w (fun b o h => hst.stable b o h) (hst.sep _ hm)) hH (heap_lt hb) (by simpa using hl)
    refine Calls.mono (by simpa using hcall) ?_
    rintro e' w' ⟨rfl, d', q1, q2, n, os, rfl⟩
    obtain ⟨l'⟩ := d'
    obtain ⟨p1, _, p3⟩ := q1
    simp only [List.size_toArray] at p1
    have hperm : l'.Perm l := by
      have e1 : (l'.toArray.extract 0 l.length).toList = l' := by simp [← p1]
      have e2 : (l.toArray.extract 0 l.length).toList = l := by simp
      rw [e1, e2] at p3; exact p3
    have hk' : (cellsOf l').length = (cellsOf l).length := by rw [cellsOf_length, cellsOf_length, p1]
    have hw : sortWorldK (Cl.cells (α := α)) (Cl.size α) w b 0 n l'.toArray os = Sort.grow ((w.drewN n).setCells b 0 (cellsOf l')) os := by
      have := sorted_world id w b 0 n (cellsOf l).toArray (cellsOf l') os hF (by simp [hk'])
      rw [List.map_id] at this
      unfold sortWorldK putRowK
      rw [flatK_cells]; exact this
    rw [hw]
    have hst2 : St ⟨w, S, [(b, Obj.cells cs.toArray e (0, 0))].map (·.1)⟩ S [(b, Obj.cells cs.toArray e (0, 0))] (w.drewN n) := St.drewN (by simpa using hst) n
    have hst3 := (hst2.setCells (i := 0) rfl (o := 0) (vs := cellsOf l') (by omega)).behind os
    refine ⟨_, S, _, rfl, ⟨rfl, rfl, l', hperm, ?_, ?_⟩, hst3⟩
    · rw [List.pairwise_iff_getElem]
      intro i j hi hj hij
      have := q2 i j (Nat.zero_le _) hij (by simpa [← p1] using hj)
      simp only [ltOf, decide_eq_false_iff_not] at this
      simpa [hi, hj] using this
    · rw [← p1]
      refine .inr ⟨b, cap, (lset cs 0 (cellsOf l')).toArray, rfl, rfl, by omega, h2, ?_, ?_⟩
      · simp only [List.size_toArray] at h3 ⊢
        rw [lset_length _ _ _ (by omega)]; exact h3
      · rw [← cellsOf_length]
        simp [lset]
end
end Go.X
namespace Go.X
open Go Go.RowKit
section
variable {P : Program} {ops : Array Oper} {Q : Exit → Act → World → Prop} {ro : Option Nat}
theorem wpOpIn_of {i : Nat} {K : Act → World → Prop} {a : Act} {w : World} (hQ : ∀ a w, ¬ Q .outgrown a w) (hdef : ∀ (i : Nat) (o : Oper), ops[i]? = some o → notDefer o.op = true) (h : wpOp P ops Q i K a w) : wpOpIn (Fr ro) 0 P ops Q i K a w := by
  have hL : ¬ LetsOut Q := fun ⟨a, w, h⟩ => hQ a w h
  unfold wpOp at h
  unfold wpOpIn
  cases ho : ops[i]? with
  | none => rw [ho] at h; exact h
  | some o =>
    rw [ho] at h
    simp only at h ⊢
    split
    · rename_i hw
      rw [if_pos hw] at h
      have h := h.resolve_right fun h => hL h.2
      refine ⟨fun _ _ => trivial, ?_⟩
      have hs : o.semAt (Fr ro).round a.eval = execOp a.eval o := semAt_of (hdef i o ho)
      rw [hs]
      unfold Oper.wp at h
      generalize (execOp a.eval o).run P w = r at h
      cases r with
      | ok x w' =>
        cases x <;> simp only [Oper.upon] at h <;> simp only [Oper.uponIn] <;>
          first
            | exact h
            | exact ⟨by simp, (callsIn_wide (n := 0)).2 h⟩
            | exact ⟨by simp, fun c cs _ => let ⟨v, w2, r, s⟩ := h c cs; ⟨v, w2, r, stepsIn_wide.2 s⟩⟩
            | exact h.elim
      | halt x w' => cases x <;> simp only [Oper.upon] at h <;> simp only [Oper.uponIn] <;> exact h
    · rename_i hw
      rw [if_neg hw] at h
      exact ⟨fun _ _ => trivial, h⟩
theorem wpAnyIn_of (hQ : ∀ a w, ¬ Q .outgrown a w) (hdef : ∀ (i : Nat) (o : Oper), ops[i]? = some o → notDefer o.op = true) : ∀ (fuel : Nat) (listed : Array Bool) (a : Act) (w : World), wpAny P .any ops Q fuel listed a w → wpAnyIn (Fr ro) 0 P .any ops Q fuel listed a w
  | 0, _, _, _, h => h
  | fuel + 1, _, _, _, h => ⟨h.1, fun i hi => wpOpIn_mono (fun a' w' h' => wpAnyIn_of hQ hdef fuel _ a' w' h') (wpOpIn_of hQ hdef (h.2 i hi))⟩
variable {cx : Cx} {n : Nat} {S : SH} {L : Blocks} {F : Slots}
theorem c_heldR [hm : Mx P] {id : Nat} {l : List Oper} (L0 : Blocks) (hL : L0.Sublist L) (hdef : l.all (fun o => notDefer o.op) = true) (hQ : ∀ a w, ¬ Q .outgrown a w) (k : Wh P cx n S L0 l.toArray Q l.length (List.replicate l.length false).toArray S L F) :
    W cx n S L F ((Code.region id l.toArray true).wpIn (Fr ro) 0 P Q) := by
  intro a w hf hs
  have hd : ∀ (i : Nat) (o : Oper), l.toArray[i]? = some o → notDefer o.op = true := fun i o ho => by
    rw [List.getElem?_toArray] at ho
    exact List.all_eq_true.1 hdef o (List.mem_of_getElem? ho)
  have hQ' : ∀ a w, ¬ SP Q .outgrown a w := fun a w h => hQ a w h
  refine Go.wpIn_mono (wpIn_region_any hm.h (wpAnyIn_of hQ' hd _ _ _ _ (wpAny_of_held (S := St cx S L0) _ _ _ _ ?_))) SP.imp
  have := k (Le.refl _) hs.le hL a _ hf hs.drew
  rw [List.size_toArray, show Array.replicate l.length false = (List.replicate l.length false).toArray from by simp]
  exact this
end
end Go.X
