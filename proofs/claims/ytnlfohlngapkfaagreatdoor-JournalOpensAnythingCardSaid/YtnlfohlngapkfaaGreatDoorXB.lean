/- The step calculus of these proofs: a state of a call (a frame as a list of slots, what is stable in memory, the blocks that the call owns) and one rule for each kind of code and operation; it holds for every program, on no condition beyond each rule's own premises. -/
import Derived.Test.YtnlfohlngapkfaaGreatDoorXA
import Derived.Lib.AppendStr
import Derived.Lib.Builder
import Derived.Lib.UnsafeStr
import Derived.Lib.MakeNoZero
import Derived.Laws.Externs
import Derived.Deep.MidRow
import Derived.RecoverIn
namespace Go.X
open Go Go.RowKit
instance : Cl UInt32 := ⟨1, fun x => [.int .u32 (x.toNat : Int)], fun _ => rfl, fun _ u hu => by simp at hu; subst hu; rfl⟩
theorem wrap_u32 (x : Int) : IntKind.u32.wrap x = x % 4294967296 := by simp [IntKind.wrap, IntKind.bits, IntKind.signed]
section
variable {P : Program} {x y : UInt32}
theorem bv_add32 : BinV P .add .u32 (x.toNat : Int) (y.toNat : Int) (.int .u32 ((x + y).toNat : Int)) := fun T w => by
  simp only [binOp, Op.intArith, ne_eq, not_true_eq_false, if_false]
  rw [wrap_u32, UInt32.toNat_add, ← Int.natCast_add]
  rfl
theorem bits32 {f : BitVec 32 → BitVec 32 → BitVec 32} {z : UInt32} (h : (f x.toBitVec y.toBitVec).toNat = z.toNat) : (f (BitVec.ofInt 32 (x.toNat : Int)) (BitVec.ofInt 32 (y.toNat : Int))).toNat = z.toNat := by
  have e : ∀ u : UInt32, BitVec.ofInt 32 (u.toNat : Int) = u.toBitVec := fun u => by
    rw [ofInt_nat]
    apply BitVec.eq_of_toNat_eq
    rw [BitVec.toNat_ofNat]
    have := u.toNat_lt
    exact Nat.mod_eq_of_lt (by simpa using this)
  rw [e, e, h]
theorem wrap_nat32 (z : UInt32) : IntKind.u32.wrap (z.toNat : Int) = (z.toNat : Int) := by
  rw [wrap_u32]; have := z.toNat_lt; omega
theorem bv_xor32 : BinV P .xor .u32 (x.toNat : Int) (y.toNat : Int) (.int .u32 ((x ^^^ y).toNat : Int)) := fun T w => by
  have h : (BitVec.ofInt IntKind.u32.bits (x.toNat : Int) ^^^ BitVec.ofInt IntKind.u32.bits (y.toNat : Int)).toNat = (x ^^^ y).toNat := bits32 (f := (· ^^^ ·)) rfl
  simp only [binOp, Op.intBits, h, ne_eq, not_true_eq_false, if_false, wrap_nat32]
  rfl
theorem bv_and32 : BinV P .and .u32 (x.toNat : Int) (y.toNat : Int) (.int .u32 ((x &&& y).toNat : Int)) := fun T w => by
  have h : (BitVec.ofInt IntKind.u32.bits (x.toNat : Int) &&& BitVec.ofInt IntKind.u32.bits (y.toNat : Int)).toNat = (x &&& y).toNat := bits32 (f := (· &&& ·)) rfl
  simp only [binOp, Op.intBits, h, ne_eq, not_true_eq_false, if_false, wrap_nat32]
  rfl
theorem bv_or32 : BinV P .or .u32 (x.toNat : Int) (y.toNat : Int) (.int .u32 ((x ||| y).toNat : Int)) := fun T w => by
  have h : (BitVec.ofInt IntKind.u32.bits (x.toNat : Int) ||| BitVec.ofInt IntKind.u32.bits (y.toNat : Int)).toNat = (x ||| y).toNat := bits32 (f := (· ||| ·)) rfl
  simp only [binOp, Op.intBits, h, ne_eq, not_true_eq_false, if_false, wrap_nat32]
  rfl
end
/-- x >> c and x << c of Go, c < 32. -/
def shr (c : Nat) (x : UInt32) : UInt32 := UInt32.ofNat (x.toNat / 2 ^ c)
def shl (c : Nat) (x : UInt32) : UInt32 := UInt32.ofNat (x.toNat * 2 ^ c)
section
variable {P : Program} {cx : Cx} {n : Nat} {S : SH} {L : Blocks} {F : Slots} {ty : TypeId}
theorem ev_shr32 {T T' : TypeId} {a b : Operand} {k2 : IntKind} {x : UInt32} {c : Nat} (hx : evO F a = some (.int .u32 (x.toNat : Int))) (hy : evO F b = some (.int k2 c)) (hc : c ≤ 32) : Ev P cx n S L F (.binOp .shr T a b T') ty (.int .u32 ((shr c x).toNat : Int)) :=
  ev_shr hx hy hc (by
    have h1 : x.toNat / 2 ^ c ≤ x.toNat := Nat.div_le_self _ _
    have h2 := x.toNat_lt
    rw [shr, UInt32.toNat_ofNat', Nat.mod_eq_of_lt (by omega)]
    simp)
theorem ev_shl32 {T T' : TypeId} {a b : Operand} {k2 : IntKind} {x : UInt32} {c : Nat} (hx : evO F a = some (.int .u32 (x.toNat : Int))) (hy : evO F b = some (.int k2 c)) (hc : c ≤ 32) : Ev P cx n S L F (.binOp .shl T a b T') ty (.int .u32 ((shl c x).toNat : Int)) := ev_bin2 hx hy fun w => by
  have e : IntKind.u32.bits = 32 := rfl
  have h5 : ((x.toNat : Int) * 2 ^ c) = ((x.toNat * 2 ^ c : Nat) : Int) := by simp
  simp only [binOp, Op.shift, Int.toNat_natCast, e, Nat.min_eq_left hc]
  rw [if_neg (by omega), h5, wrap_u32, shl, UInt32.toNat_ofNat']
  rfl
theorem ev_not32 {T : TypeId} {a : Operand} {x : UInt32} (hx : evO F a = some (.int .u32 (x.toNat : Int))) : Ev P cx n S L F (.unOp .xor T a) ty (.int .u32 ((~~~x).toNat : Int)) := fun a w hf _ o ho _ => by
  have e0 : (4294967295 : UInt32) ^^^ x = ~~~x := by
    apply UInt32.toBitVec_inj.1
    rw [UInt32.toBitVec_xor, UInt32.toBitVec_not]
    exact BitVec.allOnes_xor
  have h := bv_xor32 (P := P) (x := 4294967295) (y := x) 0 w
  simp only [binOp, ne_eq, not_true_eq_false, if_false] at h
  have h2 : (Op.unary .xor (.int .u32 (x.toNat : Int))).run P w = .ok (.int .u32 ((~~~x).toNat : Int)) w := by
    rw [← e0]; exact h
  simp only [execOp, ho, hf.ev hx, Sem.run_bind, h2, Result.andThen_ok, Sem.run_pure]
theorem ev_conv32 {T T2 : TypeId} [h1 : Ity P T .u8] [h2 : Ity P T2 .u32] {a : Operand} {c : UInt8} (hx : evO F a = some (.int .u8 (c.toNat : Int))) : Ev P cx n S L F (.convert T T2 a) ty (.int .u32 (c.toUInt32.toNat : Int)) :=
  ev_convw hx (by rw [wrap_u32]; have := c.toNat_lt; simp; omega)
theorem ev_conv8 {T T2 : TypeId} [h1 : Ity P T .u32] [h2 : Ity P T2 .u8] {a : Operand} {x : UInt32} (hx : evO F a = some (.int .u32 (x.toNat : Int))) : Ev P cx n S L F (.convert T T2 a) ty (.int .u8 (x.toUInt8.toNat : Int)) :=
  ev_convw hx (by rw [wrap_u8]; simp)
end
end Go.X
namespace Go.X
open Go Go.RowKit
set_option linter.unusedVariables false
section
variable {P : Program} {cx : Cx} {n : Nat} {S S0 : SH} {L L0 : Blocks} {F : Slots} {ro : Option Nat} {ops : Array Oper} {Q : Exit → Act → World → Prop} {rest : List Oper} {d s0 : Nat} {ty : TypeId} {pos : String} {af : Array Edge} {g : Option (Nat × Bool)} {fuel : Nat} {listed : Array Bool}
theorem add_own (b j : Nat) : (⟨b, 0, none⟩ : Addr).add j = ⟨b, j, none⟩ := by unfold Addr.add; split <;> simp_all
theorem ev_idxa1 {T e : TypeId} {N : Nat} [hT : Arr P T N e] [hE : Sz P e 1] {x i : Operand} {b j : Nat} {kd : IntKind} (hx : evO F x = some (.pointer (some ⟨b, 0, none⟩))) (hi : evO F i = some (.int kd j)) (hk : j < N) : Ev P cx n S L F (.indexAddr T x i) ty (.pointer (some ⟨b, j, none⟩)) := by
  have := ev_idxc (P := P) (cx := cx) (n := n) (S := S) (L := L) (F := F) (ty := ty) (T := T) (e := e) (N := N) hx hi hk
  rw [add_own] at this; exact this
/-- It yields a value and turns the world. -/
theorem g_val {i : Nat} {op : Op} (hi : ops[i]? = some ⟨some d, op, ty, pos, af, g⟩) (hg : want ops F g = some true) (hd : Nat.blt d n = true)
    (he : ∀ a w, Fm n a F → St cx S L w → ∀ o : Oper, o.op = op → o.type = ty → ∃ S' L' v w', (execOp a.eval o).run P w = .ok (.value v) w' ∧ St cx S' L' w' ∧ Le S S' ∧ (L0.Sublist L → L0.Sublist L') ∧ Gh P cx n S0 L0 ops Q s0 fuel (listed.setIfInBounds i true) S' L' ((d, v) :: F)) :
    Gn P cx n S0 L0 ops Q s0 fuel listed i S L F := by
  intro h1 h2 h3 a w hf hs
  obtain ⟨S', L', v, w', hr, hs', hle, hsub, hk⟩ := he a w hf hs ⟨some d, op, ty, pos, af, g⟩ rfl rfl
  refine wpOp_at hi (wanted_of (o := ⟨some d, op, ty, pos, af, g⟩) hf hg) ?_
  rw [hr]
  exact ⟨hs'.less (h1.trans hle) h2 (hsub h3), hk (h1.trans hle) h2 (hsub h3) _ _ (hf.put v hd) hs'⟩
theorem g_buildSlice {i : Nat} {T e : TypeId} {sz : Nat} {z : Value} {m : Nat} {parts : Array (Nat × Operand)} {pv : List (Nat × Value)} {vs : List Value} (hi : ops[i]? = some ⟨some d, .buildSlice T m parts, ty, pos, af, g⟩) (i1 : Sli P T e) (i2 : Sz P e sz) (i3 : Zr P e z) (hg : want ops F g = some true) (hd : Nat.blt d n = true)
    (hp : evParts F parts.toList = some pv) (hq : seqVals 0 pv = some vs) (hm : Nat.beq vs.length m = true) (hv : vs.all (fun v => Nat.beq v.cells.size sz) = true) (hl : Nat.ble (m * sz) 16777216 = true)
    (k : ∀ b, Gh P cx n S0 L0 ops Q s0 fuel (listed.setIfInBounds i true) S ((b, .cells (vs.flatMap (·.cells.toList)).toArray e (0, 0)) :: L) ((d, .slice (some ⟨b, 0, none⟩) m m) :: F)) : Gn P cx n S0 L0 ops Q s0 fuel listed i S L F :=
  g_val hi hg hd fun a w hf hst o ho _ => by
    have h := evParts_map hf _ _ hp
    have hm' : vs.length = m := Nat.eq_of_beq_eq_true hm
    have e' : (parts.map fun (i, x) => (i, a.eval x)) = (seqFrom 0 vs).toArray := by
      apply Array.ext'
      rw [← seqVals_eq _ _ _ hq, ← h]; simp
    have hr := run_buildSlice (P := P) i1.h i2.size i3.zero vs (fun v hvm => Nat.eq_of_beq_eq_true (List.all_eq_true.1 hv v hvm)) (by rw [hm']; exact Nat.le_of_ble_eq_true hl) w
    rw [hm'] at hr
    refine ⟨_, _, _, _, ?_, hst.alloc _, Le.refl _, fun h => h.cons _, k _⟩
    simp only [execOp, ho, e', Sem.run_bind, hr, Result.andThen_ok, Sem.run_pure]
theorem g_callf {i : Nat} {f : FuncId} {args : Array Operand} {ts : Array TypeId} {vs : List Value} {L1 L2 : Blocks} {R : SH → Blocks → Value → Prop} (hi : ops[i]? = some ⟨some d, .call ⟨.value (.func f), args, ts⟩, ty, pos, af, g⟩) (i1 : Fun P f) (hg : want ops F g = some true) (hd : Nat.blt d n = true) (ha : evArgs F args.toList = some vs) (hL : L.Perm (L1 ++ L2))
    (hc : Con P f vs.toArray S L1 R) (hsub : ∀ L1', L0.Sublist L → L0.Sublist (L1' ++ L2)) (k : ∀ S' L1' v, Le S S' → R S' L1' v → Gh P cx n S0 L0 ops Q s0 fuel (listed.setIfInBounds i true) S' (L1' ++ L2) ((d, v) :: F)) : Gn P cx n S0 L0 ops Q s0 fuel listed i S L F := by
  intro h1 h2 h3 a w hf hs0
  have hs := hs0.perm hL
  have hargs : args.map a.eval = vs.toArray := by
    apply Array.ext'; simp [← evArgs_map hf _ _ ha]
  have hrun : (execOp a.eval ⟨some d, .call ⟨.value (.func f), args, ts⟩, ty, pos, af, g⟩).run P w = .ok (.enter f vs.toArray) w := by
    simp [execOp, resolve, Act.eval, Deferred.ofValue, invoke, i1.h, hargs]
  refine wpOp_at hi (wanted_of (o := ⟨some d, .call ⟨.value (.func f), args, ts⟩, ty, pos, af, g⟩) hf hg) ?_
  rw [hrun, Oper.upon_enter]
  refine (hc w hs.sub).mono ?_
  rintro e w' ⟨v, S', L', rfl, hR, hs'⟩
  have hb := hs.back hs'
  exact ⟨hb.less (h1.trans hs'.le) h2 (hsub _ h3), k S' L' v hs'.le hR (h1.trans hs'.le) h2 (hsub _ h3) _ _ (hf.put v hd) hb⟩
theorem Gh.freeze {b : Nat} {o : Obj} (hsub : L0.Sublist L) (h : ∀ S', Le S S' → S' b = some o → Gh P cx n S0 L0 ops Q s0 fuel listed S' L F) : Gh P cx n S0 L0 ops Q s0 fuel listed S ((b, o) :: L) F := by
  intro h1 h2 h3 a w hf hs
  exact h _ hs.freeze.2 (by simp [SH.add]) (h1.trans hs.freeze.2) h2 hsub a w hf hs.freeze.1
/-- A copy between two parts of one block of the call's own. -/
theorem n_copy_in {i : Nat} {T T2 e : TypeId} {x y : Operand} {b o1 o2 m1 m2 c1 c2 : Nat} {cs vs : List Value} {T' : TypeId} {L' : Blocks} (hi : ops[i]? = some ⟨some d, .call ⟨.builtin .copy, #[x, y], #[T, T2]⟩, ty, pos, af, g⟩) (i1 : Sli P T e) (i2 : Sz P e 1) (hg : want ops F g = some true) (hd : Nat.blt d n = true)
    (hx : evO F x = some (.slice (some ⟨b, o1, none⟩) m1 c1)) (hy : evO F y = some (.slice (some ⟨b, o2, none⟩) m2 c2)) (hm : vs.length = min m2 m1) (hv : vs = (cs.drop o2).take (min m2 m1)) (h1 : ∀ v ∈ cs, v.oneCell' = true) (hl : o1 + vs.length ≤ cs.length)
    (hL : Upd L b (.cells cs.toArray T' (0, 0)) (.cells (lset cs o1 vs).toArray T' (0, 0)) L') (hsub : L0.Sublist L → L0.Sublist L')
    (k : Wh P cx n S0 L0 ops Q fuel (listed.setIfInBounds i true) S L' ((d, .int .i64 (min m2 m1 : Nat)) :: F)) : Wn P cx n S0 L0 ops Q fuel listed i S L F :=
  n_val hi hg hd fun a w hf hst o ho hty => by
    obtain ⟨j, hj, rfl⟩ := hL.at_
    have hmem := List.mem_of_getElem? hj
    have hb := hst.own _ hmem
    have h1' : ∀ v ∈ vs, v.oneCell' = true := fun v hvm => h1 v (by rw [hv] at hvm; exact List.mem_of_mem_drop (List.mem_of_mem_take hvm))
    have hsrc : ∀ q u, vs[q]? = some u → w.cell? ((⟨b, o2, none⟩ : Addr).add q) = some u := fun q u hu => by
      have hadd : (⟨b, o2, none⟩ : Addr).add q = ⟨b, o2 + q, none⟩ := by unfold Addr.add; split <;> simp_all
      rw [hadd, own_cell hst hmem]
      have hq : q < min m2 m1 := by rw [← hm]; exact (List.getElem?_eq_some_iff.1 hu).1
      rw [hv, List.getElem?_take, if_pos hq, List.getElem?_drop] at hu
      simpa using hu
    have hr := run_copy_row (P := P) (ty := ty) w T T2 e b o1 m1 c1 ⟨b, o2, none⟩ m2 c2 cs.toArray T' vs i1.h i2.size hb hm hsrc (by simpa using hl) h1'
    refine ⟨S, _, .int .i64 (min m2 m1 : Nat), w.setRow b (lset cs o1 vs).toArray, ?_, hst.set hj (by simp [World.setRow]) rfl rfl rfl (setRow_heap w b _ _ _ _ hb) (fun q hq => setRow_other w b q _ hq), Le.refl _, hsub, ?_⟩
    · simp only [execOp, ho, resolve, invoke, builtin, List.map_toArray, List.map_cons, List.map_nil, hf.ev hx, hf.ev hy, hty, Sem.run_bind, Sem.run_pure, Result.andThen_ok]
      have e3 : (cs.toArray.toList.take o1 ++ vs ++ cs.toArray.toList.drop (o1 + vs.length)).toArray = (lset cs o1 vs).toArray := by simp [lset]
      rw [e3] at hr
      rw [hr, hm]; rfl
    · exact k
/-- arr[j:] and arr[:m] of an array of the call's own, one cell an element. -/
theorem ev_slice_arr_lo {A e : TypeId} {N : Nat} [hA : Arr P A N e] [hE : Sz P e 1] {x y : Operand} {b j m : Nat} {kd : IntKind} (hx : evO F x = some (.pointer (some ⟨b, 0, none⟩))) (hy : evO F y = some (.int kd j)) (hj : j < N) (hm : N - j = m) : Ev P cx n S L F (.slice A x (some y) none none) ty (.slice (some ⟨b, j, none⟩) m m) := fun a w hf _ o ho _ => by
  have h2 : j ≤ N := by omega
  have h3 : N ≠ j := by omega
  subst hm
  simp [execOp, ho, hf.ev hx, hf.ev hy, Instr.sliceAt, Instr.sureAddr, run_underlying hA.h, Instr.sliceBounds, Instr.sliceBound, asIntOf, run_sizeOf hE.size, h2, h3, add_own]
theorem ev_slice_arr_hi {A e : TypeId} {N : Nat} [hA : Arr P A N e] [hE : Sz P e 1] {x y : Operand} {b m : Nat} {kd : IntKind} (hx : evO F x = some (.pointer (some ⟨b, 0, none⟩))) (hy : evO F y = some (.int kd m)) (hm : m ≤ N) : Ev P cx n S L F (.slice A x none (some y) none) ty (.slice (some ⟨b, 0, none⟩) m N) := fun a w hf _ o ho _ => by
  have e1 : (⟨b, 0, none⟩ : Addr).add 0 = ⟨b, 0, none⟩ := add_own b 0
  simp [execOp, ho, hf.ev hx, hf.ev hy, Instr.sliceAt, Instr.sureAddr, run_underlying hA.h, Instr.sliceBounds, Instr.sliceBound, asIntOf, run_sizeOf hE.size, hm, e1]
theorem Ev.eq {op : Op} {v v' : Value} (h : Ev P cx n S L F op ty v) (e : v = v') : Ev P cx n S L F op ty v' := e ▸ h
/-- s[i:j:k] of a stable slice. -/
theorem s_slice_3 {α : Type} [Cl α] {T e : TypeId} [hT : Sli P T e] [hE : Sz P e (Cl.size α)] {x y z u : Operand} {A : Option Addr} {m c i j k q q2 : Nat} {kd kd2 kd3 : IntKind} {l : List α} (hA : At S A l) (hg : want ops F g = some true) (hd : Nat.blt d n = true) (hx : evO F x = some (.slice A m c)) (hy : evO F y = some (.int kd i)) (hz : evO F z = some (.int kd2 j)) (hu : evO F u = some (.int kd3 k))
    (hij : i ≤ j) (hjk : j ≤ k) (hkc : k ≤ c) (hjl : j ≤ l.length) (hq : j - i = q) (hq2 : k - i = q2)
    (kk : ∀ A', At S A' ((l.take j).drop i) → W cx n S L ((d, .slice A' q q2) :: F) (wpListIn (Fr ro) 0 P ops Q rest)) :
    W cx n S L F (wpListIn (Fr ro) 0 P ops Q (⟨some d, .slice T x (some y) (some z) (some u), ty, pos, af, g⟩ :: rest)) := by
  subst hq hq2
  have hcut : At S (if k = i then A else A.map (·.add (i * Cl.size α))) ((l.take j).drop i) := fun h0 => by
    have hlen : ((l.take j).drop i).length = j - i := by simp; omega
    rw [hlen] at h0
    rw [if_neg (by omega)]
    have := hA.cut (i := i) (m := j) (Nat.le_refl _) hjl hij
    rw [if_neg (by omega)] at this
    exact this (by omega)
  refine s_ev (fun a w hf _ o ho _ => ?_) hg rfl hd (kk _ hcut)
  have hb : (Instr.sliceBounds true m c (some (.int kd i)) (some (.int kd2 j)) (some (.int kd3 k))).run P w = .ok (i, j, k) w := by
    simp [Instr.sliceBounds, Instr.sliceBound, asIntOf, hij, hjk, hkc]
  simp [execOp, ho, hf.ev hx, hf.ev hy, hf.ev hz, hf.ev hu, Instr.sliceAt, Instr.slice, run_underlying hT.h, hb, run_sizeOf hE.size]
end
end Go.X
namespace Go.X
open Go Go.RowKit
set_option linter.unusedVariables false
theorem strCells_eq (l : Bs) : Lib.strCells ⟨l.toArray⟩ = cellsOf l := by
  rw [cellsOf_u8]; simp [Lib.strCells]
/-- A function without a body, by the model's own entry. -/
class Ext (P : Program) (f : FuncId) (e : outParam (Array Value → Sem Value)) : Prop where
  h : ∀ args w, (callFunc f args).run P w = ((e args).run P w).andThen fun v w' => .ok (.value v) w'
section
variable {P : Program} {cx : Cx} {n : Nat} {S S0 : SH} {L L0 : Blocks} {F : Slots} {ro : Option Nat} {ops : Array Oper} {Q : Exit → Act → World → Prop} {rest : List Oper} {d s0 : Nat} {ty : TypeId} {pos : String} {af : Array Edge} {g : Option (Nat × Bool)} {fuel : Nat} {listed : Array Bool}
theorem own_shape {w : World} (h : St cx S L w) {b : Nat} {cs : Array Value} {T : TypeId} {fz : Nat × Nat} (hm : (b, Obj.cells cs T fz) ∈ L) : w.shape? b = some (T, cs.size) := by
  have := h.own _ hm
  simp only at this
  simp [World.shape?, this]
theorem ev_to_unsafe {src dst t T' : TypeId} {sz : Nat} {x : Operand} {b : Nat} {cs : List Value} {fz : Nat × Nat} (hs : P.underlying src = some (.pointer t)) (hd : P.underlying dst = some .unsafePointer) (ht : (P.info? t).map (·.size) = some sz) (hz : sz ≠ 0) (hx : evO F x = some (.pointer (some ⟨b, 0, none⟩))) (hm : (b, Obj.cells cs.toArray T' fz) ∈ L) (h0 : 0 < cs.length) :
    Ev P cx n S L F (.convert src dst x) ty (.pointer (some ⟨b, 0, none⟩)) := fun a w hf hst o ho _ => by
  obtain ⟨j, hj, hjs⟩ := Option.map_eq_some_iff.1 ht
  have hr := Lib.run_to_unsafe (P := P) w ⟨b, 0, none⟩ hs hd hj (by rw [hjs]; exact hz) (own_shape hst hm) (by simpa using h0)
  simp [execOp, ho, hf.ev hx, hr]
theorem ev_from_unsafe {src dst u T' : TypeId} {sz : Nat} {x : Operand} {b : Nat} {cs : List Value} {fz : Nat × Nat} (hs : P.underlying src = some .unsafePointer) (hd : P.underlying dst = some (.pointer u)) (hu : (P.info? u).map (·.size) = some sz) (hx : evO F x = some (.pointer (some ⟨b, 0, none⟩))) (hm : (b, Obj.cells cs.toArray T' fz) ∈ L) (hl : liesAt P P.depth T' (cs.toArray.size / P.cellsOf T') 0 u 1 = true) :
    Ev P cx n S L F (.convert src dst x) ty (.pointer (some ⟨b, 0, none⟩)) := fun a w hf hst o ho _ => by
  obtain ⟨j, hj, hjs⟩ := Option.map_eq_some_iff.1 hu
  have hr := Lib.run_from_unsafe (P := P) w ⟨b, 0, none⟩ hs hd hj (own_shape hst hm) hl
  simp [execOp, ho, hf.ev hx, hr]
theorem ev_noEscape {f : FuncId} (h : Ext P f Extern.AbiNoEscape.same) {x : Operand} {ts : Array TypeId} {v : Value} (hx : evO F x = some v) : Ev P cx n S L F (.call ⟨.value (.func f), #[x], ts⟩) ty v := fun a w hf _ o ho _ => by
  have hr := h.h #[v] w
  rw [Lib.run_noEscape] at hr
  have hr2 : (callFunc f #[v]).run P w = .ok (.value v) w := hr
  have hfn : a.eval (.func f) = .func (.func f) #[] #[] := rfl
  simp [execOp, ho, resolve, hfn, Deferred.ofValue, invoke, hf.ev hx, hr2]
/-- append of a string onto a slice of the call's own. -/
theorem s_append_s {T U e : TypeId} [hT : Sli P T e] [hU : Strg P U] [hsz : Sz P e 1] [hz : Zr P e (.int .u8 0)] [hby : By P e 1] {x y : Operand} {v : Value} {l s : Bs} {ob L1 : Blocks} (hg : want ops F g = some true) (hd : Nat.blt d n = true)
    (hx : evO F x = some v) (ho : Ows e v l ob) (hL : L.Perm (ob ++ L1)) (hy : evO F y = some (strV s)) (hb : l.length + s.length ≤ 1000000000000)
    (k : ∀ v' ob', Ows e v' (l ++ s) ob' → W cx n S (ob' ++ L1) ((d, v') :: F) (wpListIn (Fr ro) 0 P ops Q rest)) :
    W cx n S L F (wpListIn (Fr ro) 0 P ops Q (⟨some d, .call ⟨.builtin .append, #[x, y], #[T, U]⟩, ty, pos, af, g⟩ :: rest)) := by
  refine s_val hg rfl hd fun a w hf hst o hop hty => ?_
  have hst' := hst.perm hL
  obtain ⟨z0, hz1⟩ : ∃ i, P.info? e = some i := by
    cases hi : P.info? e with
    | none => have := hsz.size; simp [hi] at this
    | some i => exact ⟨i, rfl⟩
  have hsize : z0.size = 1 := by have := hsz.size; simpa [hz1] using this
  have hzero : z0.zero = some (.int .u8 0) := by have := hz.zero; simpa [hz1] using this
  have hbyt : z0.bytes = 1 := by have := hby.bytes; simpa [hz1] using this
  have hss : (⟨s.toArray⟩ : ByteArray).size = s.length := by simp [ByteArray.size]
  have hcl : ∀ m : Bs, (cellsOf m).length = m.length := fun m => by rw [cellsOf_length]; exact Nat.mul_one _
  have hrun : ∀ {v' : Value} {w' : World}, (Builtin.append_ #[T, U] ty #[v, .string ⟨s.toArray⟩]).run P w = .ok v' w' → (execOp a.eval o).run P w = .ok (.value v') w' := fun h => by
    simp [execOp, hop, resolve, invoke, builtin, hf.ev hx, hf.ev hy, strV, hty, h]
  have hone : Cl.size UInt8 = 1 := rfl
  rcases ho with ⟨rfl, rfl, rfl⟩ | ⟨gb, cap, cur, rfl, rfl, h1, h2, h3, h4⟩
  · by_cases hs0 : s.length = 0
    · have hs00 : s = [] := List.eq_nil_of_length_eq_zero hs0
      subst hs00
      have hf0 := Lib.run_firstCells_string (P := P) w 1 ⟨([] : Bs).toArray⟩
      have hr : (Builtin.append_ #[T, U] ty #[.slice none 0 0, .string ⟨([] : Bs).toArray⟩]).run P w = .ok (.slice none 0 0) w := by
        have hz5 : (⟨([] : Bs).toArray⟩ : ByteArray).size = 0 := rfl
        rw [hz5] at hf0
        simp [Builtin.append_, run_underlying hT.h, run_underlying hU.h, sizeOf, typeInfo, hz1, hsize, Builtin.lenOf, hz5, hf0]
      exact ⟨S, _, _, _, hrun hr, hst', k _ [] (Ows.nil e)⟩
    · have hr := run_append_nil_string (P := P) w T U ty e z0 (.int .u8 0) hT.h hU.h hz1 hzero ⟨s.toArray⟩ (by rw [hss]; omega) (by rw [hss]; omega) (by rw [hss, hbyt]; omega)
      rw [hss] at hr
      have hge := grownCap_ge w s.length 0 e
      have hcm : grownCap w s.length 0 e ≤ maxLen := grownCap_le_maxLen w _ 0 e (by simp only [maxLen]; omega)
      have hst3 := hst'.drew.alloc (.cells (((⟨s.toArray⟩ : ByteArray).data.map fun b => Value.int .u8 b.toNat) ++ Builtin.zeroCells (Value.int .u8 0).cells (grownCap w s.length 0 e - s.length)) e (0, 0))
      refine ⟨S, _, _, _, hrun hr, hst3, ?_⟩
      refine k _ [(w.heap.size, .cells (((⟨s.toArray⟩ : ByteArray).data.map fun b => Value.int .u8 b.toNat) ++ Builtin.zeroCells (Value.int .u8 0).cells (grownCap w s.length 0 e - s.length)) e (0, 0))] (.inr ⟨_, _, _, by simp, rfl, by simp; exact hge, hcm, ?_, ?_⟩)
      · have hz5 : (Value.int .u8 0).cells.size = 1 := rfl
        simp only [Array.size_append, Array.size_map, List.size_toArray, size_zeroCells, hz5, hone]
        omega
      · have e1 : (((⟨s.toArray⟩ : ByteArray).data.map fun b => Value.int .u8 b.toNat)).toList = cellsOf s := by rw [cellsOf_u8]; simp
        rw [Array.toList_append, e1, List.nil_append, hone, Nat.mul_one, ← hcl s]
        exact List.take_left
  · have hown : w.heap[gb]? = some (.cells cur e (0, 0)) := hst'.own _ (List.mem_append_left _ List.mem_cons_self)
    rw [hone, Nat.mul_one] at h3 h4
    by_cases hroom : l.length + s.length ≤ cap
    · have hr := Lib.run_append_room_string (P := P) w T U ty e z0 hT.h hU.h hz1 hsize gb l.length cap cur hown ⟨s.toArray⟩ (by rw [hss]; exact hroom) (by rw [hss]; omega)
      rw [hss, strCells_eq] at hr
      refine ⟨S, _, _, _, hrun hr, hst'.set (i := 0) rfl (by simp [World.setRow]) rfl rfl rfl (setRow_heap w gb cur _ e _ hown) (fun q hq => setRow_other w gb q _ hq), ?_⟩
      have := k (.slice (some ⟨gb, 0, none⟩) (l ++ s).length cap) [(gb, .cells (cur.toList.take l.length ++ cellsOf s ++ cur.toList.drop (l.length + s.length)).toArray e (0, 0))] (.inr ⟨gb, cap, _, rfl, rfl, by rw [List.length_append]; exact hroom, h2, ?_, ?_⟩)
      · rw [List.length_append] at this; exact this
      · simp only [List.size_toArray, List.length_append, List.length_take, List.length_drop, Array.length_toList, hcl, hone]
        omega
      · rw [h4, hone, Nat.mul_one, ← cellsOf_append, ← hcl (l ++ s)]
        exact List.take_left
    · have holds : ∀ j u, (cellsOf l)[j]? = some u → w.cell? ((⟨gb, 0, none⟩ : Addr).add j) = some u := by
        intro j u hu
        rw [add_own, cell_of_row w gb j cur e _ hown]
        rw [← h4, List.getElem?_take] at hu
        split at hu
        · simpa using hu
        · cases hu
      have hr := Lib.run_append_grow_string (P := P) w T U ty e z0 (.int .u8 0) hT.h hU.h hz1 hzero ⟨gb, 0, none⟩ l.length cap (cellsOf l) (by rw [hsize, hcl, Nat.mul_one]) holds ⟨s.toArray⟩ (by rw [hss]; omega) (by rw [hss]; omega) (by rw [hss, hbyt]; exact growslice_fits (by omega) (by omega))
      rw [hss, strCells_eq] at hr
      have hge := grownCap_ge w (l.length + s.length) cap e
      have hcm : grownCap w (l.length + s.length) cap e ≤ maxLen := grownCap_le_maxLen w _ cap e (by simp only [maxLen]; omega)
      have hst2 : St cx S L1 w := hst'.weaken (List.sublist_append_right _ _)
      have hst3 := hst2.drew.alloc (.cells ((cellsOf l).toArray ++ (cellsOf s).toArray ++ Builtin.zeroCells (Value.int .u8 0).cells (grownCap w (l.length + s.length) cap e - (l.length + s.length))) e (0, 0))
      refine ⟨S, _, _, _, hrun hr, hst3, ?_⟩
      have := k (.slice (some ⟨w.heap.size, 0, none⟩) (l ++ s).length (grownCap w (l.length + s.length) cap e)) [(w.heap.size, .cells ((cellsOf l).toArray ++ (cellsOf s).toArray ++ Builtin.zeroCells (Value.int .u8 0).cells (grownCap w (l.length + s.length) cap e - (l.length + s.length))) e (0, 0))] (.inr ⟨_, _, _, rfl, rfl, by rw [List.length_append]; exact hge, hcm, ?_, ?_⟩)
      · rw [List.length_append] at this; exact this
      · have hz5 : (Value.int .u8 0).cells.size = 1 := rfl
        simp only [Array.size_append, List.size_toArray, size_zeroCells, hz5, hcl, hone]
        omega
      · simp only [Array.toList_append, List.append_assoc]
        rw [← List.append_assoc, ← cellsOf_append, hone, Nat.mul_one, ← hcl (l ++ s)]
        exact List.take_left
/-- As it comes up in a drawn region. -/
theorem n_mkNoZero {i : Nat} {f : FuncId} {ps : Array TypeId} {T e : TypeId} (h : Ext P f (Extern.BytealgMakeNoZero.makeNoZero ps #[T])) [hT : Sli P T e] {x : Operand} {ts : Array TypeId} {m : Nat} (hi : ops[i]? = some ⟨some d, .call ⟨.value (.func f), #[x], ts⟩, ty, pos, af, g⟩) (hg : want ops F g = some true) (hd : Nat.blt d n = true) (hx : evO F x = some (.int .i64 m)) (hm : m ≤ 1000000000000)
    (k : ∀ b (cs : Array Value), m ≤ cs.size → cs.size ≤ maxLen → Wh P cx n S0 L0 ops Q fuel (listed.setIfInBounds i true) S ((b, .cells cs e (0, 0)) :: L) ((d, .slice (some ⟨b, 0, none⟩) m cs.size) :: F)) : Wn P cx n S0 L0 ops Q fuel listed i S L F :=
  n_val hi hg hd fun a w hf hst o ho _ => by
    obtain ⟨cs, hr, h1, h2⟩ := Lib.run_makeNoZero (P := P) w ps T e hT.h m (by omega)
    have hfn : a.eval (.func f) = .func (.func f) #[] #[] := rfl
    have hc := h.h #[.int .i64 m] w
    rw [hr] at hc
    have hc2 : (callFunc f #[.int .i64 m]).run P w = .ok (.value (.slice (some ⟨w.heap.size, 0, none⟩) m cs.size)) (w.drew.drew.alloc (.cells cs e)) := hc
    exact ⟨S, _, _, _, by simp [execOp, ho, resolve, hfn, Deferred.ofValue, invoke, hf.ev hx, hc2]; rfl, hst.drew.drew.alloc _, Le.refl _, fun h => h.cons _, k _ cs h1 (h2 (by simp only [maxLen]; omega))⟩
theorem ev_sliceData {x : Operand} {Ts : Array TypeId} {p : Addr} {m c : Nat} (hx : evO F x = some (.slice (some p) m c)) (hc : c ≠ 0) : Ev P cx n S L F (.call ⟨.builtin .unsafeSliceData, #[x], Ts⟩) ty (.pointer (some p)) := fun a w hf _ o ho _ => by
  have hr := Lib.run_unsafeSliceData_row (P := P) w Ts o.type p m c hc
  simp [execOp, ho, resolve, invoke, builtin, hf.ev hx, hr]
theorem freeze_heap (w : World) (g m : Nat) {cs : Array Value} {T : TypeId} {fz : Nat × Nat} (h : w.heap[g]? = some (.cells cs T fz)) : (w.freeze ⟨g, 0, none⟩ m).heap.size = w.heap.size ∧ (∃ o, (w.freeze ⟨g, 0, none⟩ m).heap[g]? = some o) ∧ (∀ c, c ≠ g → (w.freeze ⟨g, 0, none⟩ m).heap[c]? = w.heap[c]?) ∧ (w.freeze ⟨g, 0, none⟩ m).os = w.os ∧ (w.freeze ⟨g, 0, none⟩ m).tape = w.tape ∧ (w.freeze ⟨g, 0, none⟩ m).output = w.output ∧ (w.freeze ⟨g, 0, none⟩ m).drawn = w.drawn := by
  have hs : (w.freeze ⟨g, 0, none⟩ m).heap.size = w.heap.size := by
    unfold World.freeze; split
    · rfl
    · simp
  refine ⟨hs, ⟨_, Array.getElem?_eq_getElem (by rw [hs]; exact heap_lt h)⟩, fun c hc => ?_, ?_⟩
  · unfold World.freeze; split
    · rfl
    · simp [Array.getElem?_modify, Ne.symm hc]
  · unfold World.freeze; split <;> exact ⟨rfl, rfl, rfl, rfl⟩
/-- unsafe.String over the head of a row of the call's own: the row is not the call's own any more. -/
theorem n_unsafeString {i : Nat} {pt it e : TypeId} {x y : Operand} {gb : Nat} {cur : Array Value} {l : Bs} {L1 : Blocks} (hi : ops[i]? = some ⟨some d, .call ⟨.builtin .unsafeString, #[x, y], #[pt, it]⟩, ty, pos, af, g⟩) (hp : P.underlying pt = some (.pointer e)) (hc1 : P.cellsOf e = 1) (hg : want ops F g = some true) (hd : Nat.blt d n = true)
    (hx : evO F x = some (.pointer (some ⟨gb, 0, none⟩))) (hy : evO F y = some (.int .i64 l.length)) (hL : L.Perm ((gb, .cells cur e (0, 0)) :: L1)) (h0 : l ≠ []) (hcap : l.length ≤ cur.size) (h63 : l.length ≤ 9223372036854775807) (ht : cur.toList.take l.length = cellsOf l) (hsub : L0.Sublist L1)
    (k : Wh P cx n S0 L0 ops Q fuel (listed.setIfInBounds i true) S L1 ((d, strV l) :: F)) : Wn P cx n S0 L0 ops Q fuel listed i S L F :=
  n_val hi hg hd fun a w hf hst o ho hty => by
    have hst' := hst.perm hL
    have hown := hst'.own _ List.mem_cons_self
    simp only at hown
    have hcell : ∀ j x, l[j]? = some x → w.cell? ((⟨gb, 0, none⟩ : Addr).add j) = some (.int .u8 x.toNat) := fun j x hj => by
      rw [add_own, cell_of_row w gb j cur e _ hown]
      have h1 : (cellsOf l)[j]? = some (.int .u8 x.toNat) := by rw [cellsOf_u8, List.getElem?_map, hj]; rfl
      rw [← ht, List.getElem?_take] at h1
      split at h1
      · simpa using h1
      · cases h1
    have hr := Lib.run_unsafeString_row (P := P) w pt it o.type e hp hc1 gb cur.size (own_shape hst' List.mem_cons_self) l h0 hcap h63 hcell
    obtain ⟨f1, ⟨o', f2⟩, f3, f4, f5, f6, f7⟩ := freeze_heap w gb l.length hown
    have hst2 := (hst'.set (i := 0) (o' := o') rfl f1 f4 f5 f6 f2 f3 (Nat.le_of_eq f7.symm)).weaken (L' := L1) (by simp)
    exact ⟨S, L1, _, _, by simp [execOp, ho, resolve, invoke, builtin, hf.ev hx, hf.ev hy, hr], hst2, Le.refl _, fun _ => hsub, k⟩
theorem ev_neq_pp {T T' te : TypeId} {sz : Nat} {x y : Operand} {p : Addr} (hT : P.underlying T = some (.pointer te)) (hz : (P.info? te).map (·.size) = some sz) (hx : evO F x = some (.pointer (some p))) (hy : evO F y = some (.pointer (some p))) : Ev P cx n S L F (.binOp .neq T x y T') ty (.bool false) := fun a w hf _ o ho _ => by
  obtain ⟨j, hj, _⟩ := Option.map_eq_some_iff.1 hz
  simp [execOp, ho, hf.ev hx, hf.ev hy, eqGuard, Lib.run_neq_ptr_same (P := P) w p hT hj]
theorem ev_cap {x : Operand} {T e : TypeId} [hT : Sli P T e] {A : Option Addr} {m c : Nat} (hx : evO F x = some (.slice A m c)) : Ev P cx n S L F (.call ⟨.builtin .cap, #[x], #[T]⟩) ty (.int .i64 c) := fun a w hf _ o ho _ => by
  simp [execOp, ho, resolve, invoke, builtin, hf.ev hx, Builtin.cap_, run_underlying hT.h, goInt]
end
end Go.X
namespace Go.X
set_option linter.unusedVariables false
theorem at_lt' {α : Type} {l : List α} {i : Nat} (h : i < l.length) : ∃ x, l[i]? = some x := ⟨l[i], List.getElem?_eq_getElem h⟩
def rot (c : Nat) (x : UInt32) : UInt32 := shl (32 - c) x ||| shr c x
def mix (l : List Nat) (x : UInt32) : UInt32 := l.foldl (fun o c => o ^^^ rot c x) 0
def at0 {α : Type} [Inhabited α] (l : List α) (i : Nat) : α := l.getD i default
def be4 (b : Bs) (i : Nat) : UInt32 := shl 24 (at0 b i).toUInt32 ||| shl 16 (at0 b (i + 1)).toUInt32 ||| shl 8 (at0 b (i + 2)).toUInt32 ||| (at0 b (i + 3)).toUInt32
def w16 (b : Bs) (i : Nat) : List UInt32 := (List.range i).map fun k => be4 b (4 * k)
def wNext (w : List UInt32) : UInt32 :=
  at0 w (w.length - 16) + (mix [7, 18] (at0 w (w.length - 15)) ^^^ shr 3 (at0 w (w.length - 15))) + at0 w (w.length - 7) + (mix [17, 19] (at0 w (w.length - 2)) ^^^ shr 10 (at0 w (w.length - 2)))
def wExt (w : List UInt32) : Nat → List UInt32
  | 0 => w
  | k + 1 => wExt w k ++ [wNext (wExt w k)]
def sched (b : Bs) : List UInt32 := wExt (w16 b 16) 48
theorem w16_len (b : Bs) (i : Nat) : (w16 b i).length = i := by simp [w16]
theorem wExt_len (w : List UInt32) : ∀ k, (wExt w k).length = w.length + k
  | 0 => rfl
  | k + 1 => by simp [wExt, wExt_len w k, Nat.add_assoc]
theorem sched_len (b : Bs) : (sched b).length = 64 := by rw [sched, wExt_len, w16_len]
theorem w16_succ (b : Bs) (i : Nat) : w16 b (i + 1) = w16 b i ++ [be4 b (4 * i)] := by simp [w16, List.range_succ]
theorem at0_eq {α : Type} [Inhabited α] {l : List α} {i : Nat} {x : α} (h : l[i]? = some x) : at0 l i = x := by simp [at0, List.getD_eq_getElem?_getD, h]
theorem at0_get {α : Type} [Inhabited α] {l : List α} {i : Nat} (h : i < l.length) : l[i]? = some (at0 l i) := by simp [at0, List.getD_eq_getElem?_getD, h]
/-- The eight words. -/
structure W8 where
  (a b c d e f g h : UInt32)
def W8.list (v : W8) : List UInt32 := [v.a, v.b, v.c, v.d, v.e, v.f, v.g, v.h]
def W8.step (v : W8) (k w : UInt32) : W8 :=
  let t := v.h + mix [6, 11, 25] v.e + ((v.e &&& v.f) ^^^ (~~~v.e &&& v.g)) + k + w
  let u := mix [2, 13, 22] v.a + (((v.a &&& v.b) ^^^ (v.a &&& v.c)) ^^^ (v.b &&& v.c))
  ⟨t + u, v.a, v.b, v.c, v.d + t, v.e, v.f, v.g⟩
def W8.steps (K w : List UInt32) (v : W8) : Nat → W8
  | 0 => v
  | i + 1 => (W8.steps K w v i).step (at0 K i) (at0 w i)
def W8.add (v u : W8) : W8 := ⟨v.a + u.a, v.b + u.b, v.c + u.c, v.d + u.d, v.e + u.e, v.f + u.f, v.g + u.g, v.h + u.h⟩
def W8.block (K : List UInt32) (h : W8) (b : Bs) : W8 := h.add (W8.steps K (sched b) h 64)
def W8.blocks (K : List UInt32) (h : W8) (b : Bs) : Nat → W8
  | 0 => h
  | i + 1 => (W8.blocks K h b i).block K ((b.drop (64 * i)).take 64)
def word4 (x : UInt32) : Bs := [(shr 24 x).toUInt8, (shr 16 x).toUInt8, (shr 8 x).toUInt8, x.toUInt8]
def W8.bytes (v : W8) : Bs := v.list.flatMap word4
def W8.init : W8 := ⟨1779033703, 3144134277, 1013904242, 2773480762, 1359893119, 2600822924, 528734635, 1541459225⟩
/-- How many zero bytes follow a string of so many bytes and the byte 128. -/
def zeros (m : Nat) : Nat := (119 - m % 64) % 64
def len8 (m : Nat) : Bs := [56, 48, 40, 32, 24, 16, 8, 0].map fun c => UInt8.ofNat (8 * m / 2 ^ c)
def padded (s : Bs) : Bs := s ++ [128] ++ List.replicate (zeros s.length) 0 ++ len8 s.length
def sumK (K : List UInt32) (s : Bs) : Bs := (W8.blocks K W8.init (padded s) ((padded s).length / 64)).bytes
theorem W8.bytes_len (v : W8) : v.bytes.length = 32 := rfl
theorem sumK_len (K : List UInt32) (s : Bs) : (sumK K s).length = 32 := rfl
theorem padded_len (s : Bs) : ∃ k, (padded s).length = 64 * k ∧ 64 * k ≤ s.length + 73 := by
  have h : (padded s).length = s.length + 1 + (119 - s.length % 64) % 64 + 8 := by simp [padded, zeros, len8]; omega
  exact ⟨(padded s).length / 64, by omega, by omega⟩
end Go.X
namespace Go.X
open Go Go.RowKit
/-- A slice of the call's own, as 'Ows' has it, or at the head of a row with a mark behind its end. -/
def Owk {α : Type} [Cl α] (e : TypeId) (v : Value) (l : List α) (ob : Blocks) : Prop :=
  Ows e v l ob ∨ ∃ (g cap N : Nat) (cur : Array Value), v = .slice (some ⟨g, 0, none⟩) l.length cap ∧ ob = [(g, .cells cur e (N, N + 1))] ∧ cap * Cl.size α ≤ N ∧ l.length ≤ cap ∧ cap ≤ maxLen ∧ cur.size = cap * Cl.size α ∧ cur.toList.take (l.length * Cl.size α) = cellsOf l
theorem storeCells_mk {P : Program} (g o : Nat) (t : TypeId) (N : Nat) : ∀ (vs : List Value) (i : Nat) (cur : Array Value) (w : World), w.heap[g]? = some (.cells cur t (N, N + 1)) → o + i + vs.length ≤ N → o + i + vs.length ≤ cur.size → (∀ v ∈ vs, v.oneCell' = true) →
    (storeCells ⟨g, o, none⟩ vs i).run P w = .ok () (w.setRow g (cur.toList.take (o + i) ++ vs ++ cur.toList.drop (o + i + vs.length)).toArray)
  | [], i, cur, w, hg, _, _, _ => by
    simp only [storeCells, List.append_nil, List.length_nil, Nat.add_zero, List.take_append_drop, Array.toArray_toList]
    rw [setRow_self w g cur t _ hg]
    rfl
  | v :: rest, i, cur, w, hg, hN, hl, h1 => by
    simp only [List.length_cons] at hN hl
    have hadd : (⟨g, o, none⟩ : Addr).add i = ⟨g, o + i, none⟩ := by unfold Addr.add; split <;> simp_all
    have hi : o + i < cur.size := by omega
    have hcell : w.cell? ⟨g, o + i, none⟩ = some cur[o + i] := by simp [World.cell?, hg, hi]
    have hfro : w.frozen? ⟨g, o + i, none⟩ = false := by simp [World.frozen?, hg]; omega
    have hst : (store ((⟨g, o, none⟩ : Addr).add i) v).run P w = .ok () (w.setRow g (cur.setIfInBounds (o + i) v)) := by
      rw [hadd, run_store P w _ v _ (h1 v List.mem_cons_self), hcell]
      simp [hfro, setCell_eq_setRow w g (o + i) cur t _ v hg]
    have ih := storeCells_mk (P := P) g o t N rest (i + 1) (cur.setIfInBounds (o + i) v) (w.setRow g (cur.setIfInBounds (o + i) v)) (setRow_heap w g cur _ t _ hg) (by omega) (by simp; omega) (fun x hx => h1 x (List.mem_cons_of_mem _ hx))
    simp only [storeCells, Sem.run_bind, hst, Result.andThen_ok, ih, setRow_setRow]
    congr 3
    have e := list_seg_step cur.toList (o + i) v rest (by simp; omega)
    simpa [Array.toList_setIfInBounds, Nat.add_assoc] using e
section
variable {P : Program} {cx : Cx} {n : Nat} {S : SH} {L : Blocks} {F : Slots} {ro : Option Nat} {ops : Array Oper} {Q : Exit → Act → World → Prop} {rest : List Oper} {d : Nat} {ty : TypeId} {pos : String} {af : Array Edge} {g : Option (Nat × Bool)} {α : Type} [Cl α]
theorem Ows.k {e : TypeId} {v : Value} {l : List α} {ob : Blocks} (h : Ows e v l ob) : Owk e v l ob := .inl h
theorem Owk.form {e : TypeId} {v : Value} {l : List α} {ob : Blocks} (h : Owk e v l ob) : ∃ A c, v = .slice A l.length c := by
  rcases h with h | ⟨g, cap, N, cur, rfl, _⟩
  · exact h.form
  · exact ⟨_, _, rfl⟩
theorem s_append_k {T e : TypeId} [hT : Sli P T e] {by_ : Nat} {z : Value} [hsz : Sz P e (Cl.size α)] [hz : Zr P e z] [hby : By P e by_] {x y : Operand} {v : Value} {l ms : List α} {ob L1 : Blocks} {p : Addr} {m c : Nat} (hg : want ops F g = some true) (hd : Nat.blt d n = true)
    (hx : evO F x = some v) (ho : Owk e v l ob) (hL : L.Perm (ob ++ L1)) (hy : evO F y = some (.slice (some p) m c)) (hm : m = ms.length) (hs : Src cx S L p (cellsOf ms)) (hzs : Nat.beq z.cells.size (Cl.size α) = true) (h0 : 0 < Cl.size α) (hb : (l.length + ms.length) * by_ ≤ 140737488355328) (h63 : l.length + ms.length ≤ 1000000000000)
    (k : ∀ v' ob', Owk e v' (l ++ ms) ob' → W cx n S (ob' ++ L1) ((d, v') :: F) (wpListIn (Fr ro) 0 P ops Q rest)) :
    W cx n S L F (wpListIn (Fr ro) 0 P ops Q (⟨some d, .call ⟨.builtin .append, #[x, y], #[T, T]⟩, ty, pos, af, g⟩ :: rest)) := by
  rcases ho with ho | ⟨gb, cap, N, cur, rfl, rfl, hN, h1, h2, h3, h4⟩
  · exact s_append hg hd hx ho hL hy hm hs hzs h0 hb h63 fun v' ob' h => k v' ob' (.inl h)
  refine s_val hg rfl hd fun a w hf hst o hop hty => ?_
  subst hm
  have hst' := hst.perm hL
  have hown : w.heap[gb]? = some (.cells cur e (N, N + 1)) := hst'.own _ (List.mem_append_left _ List.mem_cons_self)
  obtain ⟨z0, hz1⟩ : ∃ i, P.info? e = some i := by
    cases hi : P.info? e with
    | none => have := hsz.size; simp [hi] at this
    | some i => exact ⟨i, rfl⟩
  have hsize : z0.size = Cl.size α := by have := hsz.size; simpa [hz1] using this
  have hzero : z0.zero = some z := by have := hz.zero; simpa [hz1] using this
  have hbyt : z0.bytes = by_ := by have := hby.bytes; simpa [hz1] using this
  have hnl : (cellsOf ms).length = ms.length * z0.size := by rw [cellsOf_length, hsize]
  have hfc := run_firstCells_some (P := P) w z0.size ms.length p ms.length c (cellsOf ms) hnl (hs w hst)
  have hrun : ∀ {v' : Value} {w' : World}, (Builtin.append_ #[T, T] ty #[.slice (some ⟨gb, 0, none⟩) l.length cap, .slice (some p) ms.length c]).run P w = .ok v' w' → (execOp a.eval o).run P w = .ok (.value v') w' := fun h => by
    simp [execOp, hop, resolve, invoke, builtin, hf.ev hx, hf.ev hy, hty, h]
  by_cases hroom : l.length + ms.length ≤ cap
  · have hfit : l.length * z0.size + (cellsOf ms).length ≤ cur.size := by rw [hnl, h3, hsize, ← Nat.add_mul]; exact Nat.mul_le_mul_right _ hroom
    have hcs := storeCells_mk (P := P) gb (l.length * z0.size) e N (cellsOf ms) 0 cur w hown (by rw [h3] at hfit; simp only [Nat.add_zero]; omega) (by simpa using hfit) (cellsOf_one ms)
    simp only [Nat.add_zero] at hcs
    have hr : (Builtin.append_ #[T, T] ty #[.slice (some ⟨gb, 0, none⟩) l.length cap, .slice (some p) ms.length c]).run P w = .ok (.slice (some ⟨gb, 0, none⟩) (l.length + ms.length) cap) (w.setRow gb (cur.toList.take (l.length * z0.size) ++ cellsOf ms ++ cur.toList.drop (l.length * z0.size + (cellsOf ms).length)).toArray) := by
      simp [Builtin.append_, run_underlying hT.h, sizeOf, typeInfo, hz1, Builtin.lenOf, hroom, hfc, Addr.add_lit, hcs]
    refine ⟨S, _, _, _, hrun hr, hst'.set (i := 0) rfl (by simp [World.setRow]) rfl rfl rfl (setRow_heap w gb cur _ e _ hown) (fun q hq => setRow_other w gb q _ hq), ?_⟩
    have := k (.slice (some ⟨gb, 0, none⟩) (l ++ ms).length cap) [(gb, .cells (cur.toList.take (l.length * z0.size) ++ cellsOf ms ++ cur.toList.drop (l.length * z0.size + (cellsOf ms).length)).toArray e (N, N + 1))] (.inr ⟨gb, cap, N, _, rfl, rfl, hN, by rw [List.length_append]; omega, h2, ?_, ?_⟩)
    · rw [List.length_append] at this; exact this
    · simp only [List.size_toArray, List.length_append, List.length_take, List.length_drop, Array.length_toList]
      rw [← h3]; omega
    · rw [hsize, h4, ← cellsOf_append, ← cellsOf_length]
      exact List.take_left
  · have holds : ∀ j u, (cellsOf l)[j]? = some u → w.cell? ((⟨gb, 0, none⟩ : Addr).add j) = some u := by
      intro j u hu
      have hadd : (⟨gb, 0, none⟩ : Addr).add j = ⟨gb, j, none⟩ := by unfold Addr.add; split <;> simp_all
      rw [hadd, cell_of_row w gb j cur e _ hown]
      rw [← h4, List.getElem?_take] at hu
      split at hu
      · simpa using hu
      · cases hu
    have hr := run_append_grow (P := P) w T ty e z0 z hT.h hz1 hzero ⟨gb, 0, none⟩ l.length cap (cellsOf l) (by rw [cellsOf_length, hsize]) holds p ms.length c (cellsOf ms) hnl (hs w hst) (by omega) (by omega) (growslice_fits (by omega) (by rw [hbyt]; exact hb))
    have hge := grownCap_ge w (l.length + ms.length) cap e
    have hcm : grownCap w (l.length + ms.length) cap e ≤ maxLen := grownCap_le_maxLen w _ cap e (by simp only [maxLen]; omega)
    have hst2 : St cx S L1 w := hst'.weaken (List.sublist_append_right _ _)
    have hst3 := hst2.drew.alloc (.cells ((cellsOf l).toArray ++ (cellsOf ms).toArray ++ Builtin.zeroCells z.cells (grownCap w (l.length + ms.length) cap e - (l.length + ms.length))) e (0, 0))
    refine ⟨S, _, _, _, hrun hr, hst3, ?_⟩
    have := k (.slice (some ⟨w.heap.size, 0, none⟩) (l ++ ms).length (grownCap w (l.length + ms.length) cap e)) [(w.heap.size, .cells ((cellsOf l).toArray ++ (cellsOf ms).toArray ++ Builtin.zeroCells z.cells (grownCap w (l.length + ms.length) cap e - (l.length + ms.length))) e (0, 0))] (.inl (.inr ⟨_, _, _, rfl, rfl, by rw [List.length_append]; exact hge, hcm, ?_, ?_⟩))
    · rw [List.length_append] at this; exact this
    · have hz5 := Nat.eq_of_beq_eq_true hzs
      simp only [Array.size_append, List.size_toArray, size_zeroCells, hz5, cellsOf_length, ← Nat.add_mul]
      congr 1; omega
    · simp only [Array.toList_append, List.append_assoc]
      rw [← List.append_assoc, ← cellsOf_append, ← cellsOf_length]
      exact List.take_left
theorem W.freezeOwk {G : Act → World → Prop} {e : TypeId} {v : Value} {l : List α} {ob L1 : Blocks} (ho : Owk e v l ob) (hL : L.Perm (ob ++ L1)) (k : ∀ S', Le S S' → Sr S' v l → W cx n S' L1 F G) : W cx n S L F G := by
  rcases ho with ho | ⟨gb, cap, N, cur, rfl, rfl, hN, h1, h2, h3, h4⟩
  · exact W.freezeOws ho hL k
  refine W.perm (W.freeze fun S' hle hb => k S' hle ⟨_, _, rfl, h1, fun _ => ⟨_, rfl, pts_block hb ?_⟩⟩) hL
  rw [cellsOf_length]; exact h4
end
end Go.X
namespace Go.X
open Go Go.RowKit
/-- A function value: its function, what comes ahead of the arguments, what is captured. -/
structure Fv where
  f : FuncId
  fix : List Value
  caps : List Value
def Fv.val (x : Fv) : Value := .func (.func x.f) x.fix.toArray x.caps.toArray
instance : Cl Fv := ⟨1, fun x => [x.val], fun _ => rfl, fun _ u hu => by simp at hu; subst hu; rfl⟩
section
variable {P : Program} {cx : Cx} {n : Nat} {S S0 : SH} {L L0 : Blocks} {F : Slots} {ro : Option Nat} {ops : Array Oper} {Q : Exit → Act → World → Prop} {rest : List Oper} {d : Nat} {ty : TypeId} {pos : String} {af : Array Edge} {g : Option (Nat × Bool)}
/-- A call of a function value, its receiver bound. -/
theorem s_callf {z : Fv} (i1 : Fun P z.f) {x : Operand} {args : Array Operand} {ts : Array TypeId} {vs : List Value} {L1 L2 : Blocks} {R : SH → Blocks → Value → Prop} (hg : want ops F g = some true) (hd : Nat.blt d n = true) (hx : evO F x = some z.val) (ha : evArgs F args.toList = some vs) (hL : L.Perm (L1 ++ L2))
    (hc : Con P z.f (z.fix ++ (vs ++ z.caps)).toArray S L1 R) (k : ∀ S' L1' v, Le S S' → R S' L1' v → W cx n S' (L1' ++ L2) ((d, v) :: F) (wpListIn (Fr ro) 0 P ops Q rest)) :
    W cx n S L F (wpListIn (Fr ro) 0 P ops Q (⟨some d, .call ⟨.value x, args, ts⟩, ty, pos, af, g⟩ :: rest)) := by
  intro a w hf hs0
  have hs := hs0.perm hL
  simp only [wpListIn]
  rw [wanted_of (o := ⟨some d, .call ⟨.value x, args, ts⟩, ty, pos, af, g⟩) hf hg]
  simp only [if_true]
  refine ⟨fun _ _ => trivial, ?_⟩
  have hargs : args.map a.eval = vs.toArray := by
    apply Array.ext'; simp [← evArgs_map hf _ _ ha]
  rw [semAt_of rfl]
  have hrun : (execOp a.eval ⟨some d, .call ⟨.value x, args, ts⟩, ty, pos, af, g⟩).run P w = .ok (.enter z.f (z.fix ++ (vs ++ z.caps)).toArray) w := by
    simp [execOp, resolve, hf.ev hx, Fv.val, Deferred.ofValue, invoke, i1.h, hargs, List.append_assoc]
  rw [hrun, Oper.uponIn_enter]
  refine ⟨by simp, ?_⟩
  have hcall := hc w hs.sub
  have hin : CallsIn (Fr ro) (0 - 1) P z.f (z.fix ++ (vs ++ z.caps)).toArray w (fun e w' => ∃ v S' L', e = .returned v ∧ R S' L' v ∧ St ⟨w, S, L1.map (·.1)⟩ S' L' w') :=
    (callsIn_wide (n := 0)).2 hcall
  refine hin.mono ?_
  rintro e w' ⟨v, S', L', rfl, hR, hs'⟩
  exact k S' L' v hs'.le hR _ _ (hf.put v hd) (hs.back hs')
variable {fuel : Nat} {listed : Array Bool}
/-- Inside a held region: a block becomes stable. -/
theorem h_freeze {b : Nat} {o : Obj} (hsub : L0.Sublist L) (h : ∀ S', Le S S' → S' b = some o → Wh P cx n S0 L0 ops Q fuel listed S' L F) : Wh P cx n S0 L0 ops Q fuel listed S ((b, o) :: L) F := fun h1 h2 _ a w hf hs =>
  h _ hs.freeze.2 (by simp [SH.add]) (h1.trans hs.freeze.2) h2 hsub a w hf hs.freeze.1
/-- A call inside a held region that works on kept blocks, too. -/
theorem n_callR {i : Nat} {f : FuncId} {args : Array Operand} {ts : Array TypeId} {vs : List Value} {L1 L2 : Blocks} {R : SH → Blocks → Value → Prop} (hi : ops[i]? = some ⟨some d, .call ⟨.value (.func f), args, ts⟩, ty, pos, af, g⟩) (i1 : Fun P f) (hg : want ops F g = some true) (hd : Nat.blt d n = true) (ha : evArgs F args.toList = some vs) (hL : L.Perm (L1 ++ L2))
    (hc : Con P f vs.toArray S L1 R) (hsub : ∀ S' L1' v, R S' L1' v → L0.Sublist (L1' ++ L2)) (k : ∀ S' L1' v, Le S S' → R S' L1' v → Wh P cx n S0 L0 ops Q fuel (listed.setIfInBounds i true) S' (L1' ++ L2) ((d, v) :: F)) : Wn P cx n S0 L0 ops Q fuel listed i S L F := by
  intro h1 h2 h3 a w hf hs0
  have hs := hs0.perm hL
  have hargs : args.map a.eval = vs.toArray := by
    apply Array.ext'; simp [← evArgs_map hf _ _ ha]
  have hrun : (execOp a.eval ⟨some d, .call ⟨.value (.func f), args, ts⟩, ty, pos, af, g⟩).run P w = .ok (.enter f vs.toArray) w := by
    simp [execOp, resolve, Act.eval, Deferred.ofValue, invoke, i1.h, hargs]
  refine wpOp_at hi (wanted_of (o := ⟨some d, .call ⟨.value (.func f), args, ts⟩, ty, pos, af, g⟩) hf hg) ?_
  rw [hrun, Oper.upon_enter]
  refine (hc w hs.sub).mono ?_
  rintro e w' ⟨v, S', L', rfl, hR, hs'⟩
  have hb := hs.back hs'
  exact ⟨hb.less (h1.trans hs'.le) h2 (hsub _ _ _ hR), k S' L' v hs'.le hR (h1.trans hs'.le) h2 (hsub _ _ _ hR) _ _ (hf.put v hd) hb⟩
end
end Go.X
namespace Go.X
open Go Go.RowKit
def putAll : List Value → Nat → List Value → List Value
  | cs, _, [] => cs
  | cs, o, v :: r => putAll (cs.set o v) (o + 1) r
section
variable {P : Program} {cx : Cx} {n : Nat} {S S0 : SH} {L L0 : Blocks} {F : Slots} {ro : Option Nat} {ops : Array Oper} {Q : Exit → Act → World → Prop} {rest : List Oper} {d : Nat} {ty : TypeId} {pos : String} {af : Array Edge} {g : Option (Nat × Bool)}
theorem st_setCells {j b : Nat} {T' : TypeId} : ∀ (vs : List Value) (o : Nat) (cs : List Value) (w : World) (L : Blocks), St cx S L w → L[j]? = some (b, .cells cs.toArray T' (0, 0)) → St cx S (L.set j (b, .cells (putAll cs o vs).toArray T' (0, 0))) (w.setCells b o vs)
  | [], o, cs, w, L, h, hj => by
    have e : L.set j (b, .cells cs.toArray T' (0, 0)) = L := by
      obtain ⟨h1, h2⟩ := List.getElem?_eq_some_iff.1 hj
      rw [← h2]; exact List.set_getElem_self h1
    show St cx S (L.set j (b, .cells cs.toArray T' (0, 0))) w
    rw [e]; exact h
  | v :: r, o, cs, w, L, h, hj => by
    have hb := h.own _ (List.mem_of_getElem? hj)
    simp only at hb
    have h2 : St cx S (L.set j (b, .cells (cs.set o v).toArray T' (0, 0))) (w.setCell ⟨b, o, none⟩ v) := by
      refine h.set hj (by simp [World.setCell]) rfl rfl rfl ?_ ?_
      · simp [World.setCell, Array.getElem?_modify, hb]
      · intro c hc
        exact Below.heap_setCell w ⟨b, o, none⟩ v c hc
    have h3 := st_setCells r (o + 1) (cs.set o v) _ _ h2 (by rw [List.getElem?_set_self (List.getElem?_eq_some_iff.1 hj).1])
    rw [List.set_set] at h3
    exact h3
/-- A struct is stored into a part of a block. -/
theorem s_store_mid {T : TypeId} {sz : Nat} [hT : Ag P T sz] {x y : Operand} {b o : Nat} {cs vs : List Value} {T' : TypeId} {L' : Blocks} (hg : want ops F g = some true) (hx : evO F x = some (.pointer (some ⟨b, o, none⟩))) (hy : evO F y = some (.agg vs.toArray)) (h1 : vs.all (·.oneCell') = true) (hv : vs.length = sz)
    (hL : Upd L b (.cells cs.toArray T' (0, 0)) (.cells (putAll cs o vs).toArray T' (0, 0)) L') (hu : o + vs.length ≤ cs.length) (k : W cx n S L' F (wpListIn (Fr ro) 0 P ops Q rest)) :
    W cx n S L F (wpListIn (Fr ro) 0 P ops Q (⟨none, .store T x y, ty, pos, af, g⟩ :: rest)) := by
  refine s_wr (x := .skip) (S' := S) (L' := L') (fun a w hf hs => ?_) (.inl ⟨rfl, rfl⟩) hg rfl k
  obtain ⟨j, hj, rfl⟩ := hL.at_
  have hb := hs.own _ (List.mem_of_getElem? hj)
  simp only at hb
  have hr := run_storeAt_mid (P := P) w b o T vs.toArray (fun i hi => ⟨by
    rw [own_cell hs (List.mem_of_getElem? hj)]
    have : o + i < cs.length := by have := hi; simp at this; omega
    simp [this], by simp [World.frozen?, hb]⟩) (by rw [hT.size]; simp [hv]) (by simpa using h1)
  refine ⟨w.setCells b o vs, fun oo ho _ => ?_, st_setCells vs o cs w _ hs hj⟩
  simp [execOp, ho, hf.ev hx, hf.ev hy, hr]
theorem ev_sliceData0 {x : Operand} {Ts : Array TypeId} {m c : Nat} (hx : evO F x = some (.slice none m c)) : Ev P cx n S L F (.call ⟨.builtin .unsafeSliceData, #[x], Ts⟩) ty (.pointer none) := fun a w hf _ o ho _ => by
  have hr := Lib.run_unsafeSliceData_nil (P := P) w Ts o.type m c
  simp [execOp, ho, resolve, invoke, builtin, hf.ev hx, hr]
theorem ev_unsafeString0 {x y : Operand} {pt it : TypeId} {p : Option Addr} (hx : evO F x = some (.pointer p)) (hy : evO F y = some (.int .i64 0)) : Ev P cx n S L F (.call ⟨.builtin .unsafeString, #[x, y], #[pt, it]⟩) ty (strV []) := fun a w hf _ o ho _ => by
  have hr := Lib.run_unsafeString_none (P := P) w pt it o.type p
  simp [execOp, ho, resolve, invoke, builtin, hf.ev hx, hf.ev hy, hr]
  rfl
theorem ev_makeFunc {fn : Fn} {fs cs : Array Operand} {v1 v2 : List Value} (h1 : evArgs F fs.toList = some v1) (h2 : evArgs F cs.toList = some v2) : Ev P cx n S L F (.makeFunc fn fs cs) ty (.func fn v1.toArray v2.toArray) := fun a w hf hs o ho _ => by
  have e1 : fs.map a.eval = v1.toArray := by apply Array.ext'; simp [← evArgs_map hf _ _ h1]
  have e2 : cs.map a.eval = v2.toArray := by apply Array.ext'; simp [← evArgs_map hf _ _ h2]
  simp [execOp, ho, Instr.makeFunc, e1, e2]
/-- A contract beside further blocks. -/
theorem Con.frame {f : FuncId} {vs : Array Value} {L1 L2 L' : Blocks} {R : SH → Blocks → Value → Prop} (h : Con P f vs S L1 R) (hL : L'.Perm (L1 ++ L2)) : Con P f vs S L' (fun S' L' v => ∃ L1', L' = L1' ++ L2 ∧ R S' L1' v) := fun w hw =>
  (h w (hw.perm hL).sub).mono fun _ _ ⟨v, S', L1', he, hR, hs⟩ => ⟨v, S', _, he, ⟨L1', rfl, hR⟩, (hw.perm hL).back hs⟩
/-- What is left may stand in another order. -/
theorem Con.out {f : FuncId} {vs : Array Value} {R R' : SH → Blocks → Value → Prop} (h : Con P f vs S L R) (hr : ∀ S' L1 v, R S' L1 v → ∃ L2, L1.Perm L2 ∧ R' S' L2 v) : Con P f vs S L R' := fun w hw =>
  (h w hw).mono fun _ _ ⟨v, S', L1, he, hR, hs⟩ => by
    obtain ⟨L2, hp, hR2⟩ := hr _ _ _ hR
    exact ⟨v, S', L2, he, hR2, hs.perm hp⟩
end
end Go.X
namespace Go.X
open Go Go.RowKit
section
variable {P : Program} {cx : Cx} {n : Nat} {S : SH} {L L' : Blocks} {F : Slots} {ops : Array Oper} {Q : Exit → Act → World → Prop} {rest : List Oper} {ty : TypeId} {pos : String} {af : Array Edge} {g : Option (Nat × Bool)}
/-- defer of a closure, the first of its frame. -/
theorem s_defer {f : FuncId} {fix caps : List Value} {x : Operand} {ts : Array TypeId} (hk : get F kM = none) (hg : want ops F g = some true) (hx : evO F x = some (.func (.func f) fix.toArray caps.toArray))
    (k : W cx n S L ((kM, .func (.func f) fix.toArray caps.toArray) :: F) (wpListIn (Fr none) 0 P ops Q rest)) :
    W cx n S L F (wpListIn (Fr none) 0 P ops Q (⟨none, .defer ⟨.value x, #[], ts⟩, ty, pos, af, g⟩ :: rest)) := by
  intro a w hf hs
  have hd0 : a.defers = [] := by rw [hf.defers]; simp [dfr, hk]
  simp only [wpListIn]
  rw [wanted_of (o := ⟨none, .defer ⟨.value x, #[], ts⟩, ty, pos, af, g⟩) hf hg]
  simp only [if_true]
  refine ⟨fun _ _ => trivial, ?_⟩
  have hrun : (Oper.semAt (Fr none).round a.eval ⟨none, .defer ⟨.value x, #[], ts⟩, ty, pos, af, g⟩).run P w = .ok (.defer ⟨.fn (.func f) caps.toArray, fix.toArray⟩) w := by
    have hr : (Fr none).round = none := rfl
    rw [hr]
    simp [Oper.semAt, execOp, resolve, hf.ev hx, Deferred.ofValue]
  rw [hrun, Oper.uponIn_defer]
  refine k _ w ⟨hf.size, hf.le, ?_, fun i v hv => ?_⟩ hs
  · simp [Act.put, dfr, get, hd0]
  · have hv' : geT F i = some v := by
      unfold geT at hv ⊢
      cases hb : Nat.beq i kM with
      | true => simp [hb] at hv
      | false => simp only [hb, cond_false] at hv ⊢; simpa [get, hb] using hv
    exact hf.slot i v hv'
/-- The contract of a deferred closure, its frame below returning: it leaves the world as it is, but for draws. -/
def ConD (P : Program) (f : FuncId) (args : Array Value) (S : SH) (L : Blocks) (R : SH → Blocks → Prop) : Prop :=
  ∀ cx w, St cx S L w → CallsDIn (Fr none) 0 P f args .returning w fun e u' w' => (∃ v, e = .returned v) ∧ settle u' = .returning ∧ ∃ S' L', R S' L' ∧ St cx S' L' w'
theorem out_retd {fn : Func} {R : SH → Blocks → Value → Prop} {R1 : SH → Blocks → Prop} {f : FuncId} {fix caps : List Value} {e : Exit} (i1 : Fun P f) (he : e = .ret ∨ e = .normal) (hk : get F kM = some (.func (.func f) fix.toArray caps.toArray))
    (hc : ConD P f (fix ++ caps).toArray S L R1)
    (hr : ∀ S' L1, R1 S' L1 → ∃ v L', L'.Sublist L1 ∧ R S' L' v ∧ ∀ a w, Fm n a F → St cx S' L1 w → (results fn a.tmps).run P w = .ok v w) : W cx n S L F (Out P cx fn R e) := fun a w hf hs => by
  have hd : a.defers = [⟨.fn (.func f) caps.toArray, fix.toArray⟩] := by rw [hf.defers]; simp [dfr, hk]
  have hfin : LeavesInM (Fr none) 0 P fn a.tmps (fun e w' => ∃ v S' L', e = .returned v ∧ R S' L' v ∧ St cx S' L' w') a.defers .returning w := by
    rw [hd]
    refine ⟨by simp, .inr ⟨fun h => by simp at h, .func f, caps.toArray, f, (fix ++ caps).toArray, rfl, by simp [invoke, i1.h], fun _ _ => trivial, ?_⟩⟩
    refine (hc cx w hs).mono ?_
    rintro e u' w' ⟨⟨v, rfl⟩, hu, S', L1, hR, hs'⟩
    obtain ⟨v2, L2, hsub, hR2, hres⟩ := hr S' L1 hR
    show LeavesInM _ _ _ _ _ _ [] _ _
    rw [hu]
    exact ⟨v2, hres a w' hf hs', v2, S', L2, rfl, hR2, hs'.weaken hsub⟩
  rcases he with rfl | rfl
  all_goals exact hfin
/-- A contract of the kit that tells the world behind the call. -/
theorem con_of_kit {f : FuncId} {args : Array Value} {v : Value} (h : ∀ w, Calls P f args w fun e w' => e = .returned v ∧ (w' = w ∨ w' = w.drew)) : Con P f args S [] (Pure S v) := fun w hw =>
  (h w).mono fun _ _ ⟨he, hw'⟩ => ⟨v, S, [], he, ⟨rfl, rfl, rfl⟩, by
    rcases hw' with rfl | rfl
    · exact hw
    · exact hw.drew⟩
end
end Go.X
namespace Go.X
open Go Go.RowKit
/-- The contract of a call that panics. -/
def ConX (P : Program) (f : FuncId) (vs : Array Value) (S : SH) (L : Blocks) (R : SH → Blocks → List PanicEntry → Prop) : Prop :=
  ∀ w, St ⟨w, S, L.map (·.1)⟩ S L w → Calls P f vs w fun e w' => ∃ c S' L', e = .panicked c ∧ R S' L' c ∧ St ⟨w, S, L.map (·.1)⟩ S' L' w'
def OutX (P : Program) (cx : Cx) (fn : Func) (R : SH → Blocks → List PanicEntry → Prop) : Exit → Act → World → Prop :=
  bodyPostM (Fr none) 0 P fn fun e w' => ∃ c S' L', e = .panicked c ∧ R S' L' c ∧ St cx S' L' w'
theorem conX_of {P : Program} {f : FuncId} {fn : Func} {c : Code} {args : List Value} {S : SH} {L : Blocks} {R : SH → Blocks → List PanicEntry → Prop} {n : Nat} (hf : P.funcs[f]? = some fn) (hb : fn.body = some c) (hn : fn.ntmps = n) (ha : (Nat.ble args.length n && Nat.ble n kM) = true)
    (k : ∀ w, W ⟨w, S, L.map (·.1)⟩ n S L (slotsOf 0 args) (c.wpIn (Fr none) 0 P (OutX P ⟨w, S, L.map (·.1)⟩ fn R))) : ConX P f args.toArray S L R := by
  intro w hs
  simp only [Bool.and_eq_true] at ha
  refine (callsIn_wide (n := 0)).1 (callsIn_of_wp_marks hf hb trivial ?_)
  have := k w _ w (Fm.start args n (by simpa using ha.1) ha.2) hs
  rw [← hn] at this
  exact this
section
variable {P : Program} {cx : Cx} {n : Nat} {S S0 : SH} {L L0 L' : Blocks} {F : Slots} {ro : Option Nat} {ops : Array Oper} {Q : Exit → Act → World → Prop} {rest : List Oper} {d : Nat} {ty : TypeId} {pos : String} {af : Array Edge} {g : Option (Nat × Bool)} {fn : Func}
theorem q_then_panic {K : Act → World → Prop} {c : List PanicEntry} (k : W cx n S L F (Q (.panic c))) : W cx n S L F (Exit.then K Q (.panic c)) := k
theorem q_in_panic {id : Nat} {c : List PanicEntry} (k : W cx n S L F (Q (.panic c))) : W cx n S L F (Exit.inBlock id Q (.panic c)) := k
theorem o_panic {R : SH → Blocks → List PanicEntry → Prop} {c : List PanicEntry} (hL : L'.Sublist L) (h : R S L' c) (hk : get F kM = none := by rfl) : W cx n S L F (OutX P cx fn R (.panic c)) := fun a w hf hs => by
  have hd : a.defers = [] := by rw [hf.defers]; simp [dfr, hk]
  show LeavesInM _ _ _ _ _ _ a.defers _ _
  rw [hd]
  exact ⟨c, S, L', rfl, h, hs.weaken hL⟩
theorem s_callX {f : FuncId} [i1 : Fun P f] {args : Array Operand} {ts : Array TypeId} {vs : List Value} {L1 L2 : Blocks} {R : SH → Blocks → List PanicEntry → Prop} {d : Option Nat} (hg : want ops F g = some true) (ha : evArgs F args.toList = some vs) (hc : ConX P f vs.toArray S L1 R) (hL : L.Perm (L1 ++ L2))
    (k : ∀ S' L1' c, Le S S' → R S' L1' c → W cx n S' (L1' ++ L2) F (Q (.panic c))) :
    W cx n S L F (wpListIn (Fr ro) 0 P ops Q (⟨d, .call ⟨.value (.func f), args, ts⟩, ty, pos, af, g⟩ :: rest)) := by
  intro a w hf hs0
  have hs := hs0.perm hL
  simp only [wpListIn]
  rw [wanted_of (o := ⟨d, .call ⟨.value (.func f), args, ts⟩, ty, pos, af, g⟩) hf hg]
  simp only [if_true]
  refine ⟨fun _ _ => trivial, ?_⟩
  have hargs : args.map a.eval = vs.toArray := by
    apply Array.ext'; simp [← evArgs_map hf _ _ ha]
  rw [semAt_of rfl]
  have hrun : (execOp a.eval ⟨d, .call ⟨.value (.func f), args, ts⟩, ty, pos, af, g⟩).run P w = .ok (.enter f vs.toArray) w := by
    simp [execOp, resolve, Act.eval, Deferred.ofValue, invoke, i1.h, hargs]
  rw [hrun, Oper.uponIn_enter]
  refine ⟨by simp, ?_⟩
  have hcall := hc w hs.sub
  have hin : CallsIn (Fr ro) (0 - 1) P f vs.toArray w (fun e w' => ∃ c S' L', e = .panicked c ∧ R S' L' c ∧ St ⟨w, S, L1.map (·.1)⟩ S' L' w') :=
    (callsIn_wide (n := 0)).2 hcall
  refine hin.mono ?_
  rintro e w' ⟨c, S', L', rfl, hR, hs'⟩
  exact k S' L' c hs'.le hR _ _ hf (hs.back hs')
variable {fuel : Nat} {listed : Array Bool}
theorem n_callX {i : Nat} {f : FuncId} {args : Array Operand} {ts : Array TypeId} {vs : List Value} {L1 L2 : Blocks} {R : SH → Blocks → List PanicEntry → Prop} {d : Option Nat} (hi : ops[i]? = some ⟨d, .call ⟨.value (.func f), args, ts⟩, ty, pos, af, g⟩) (i1 : Fun P f) (hg : want ops F g = some true) (hk : get F kM = none) (ha : evArgs F args.toList = some vs) (hL : L.Perm (L1 ++ L2))
    (hc : ConX P f vs.toArray S L1 R) (k : ∀ S' L1' c, Le S S' → R S' L1' c → W cx n S' (L1' ++ L2) [] (Q (.panic c))) : Wn P cx n S0 L0 ops Q fuel listed i S L F := by
  intro h1 h2 h3 a w hf hs0
  have hs := hs0.perm hL
  have hargs : args.map a.eval = vs.toArray := by
    apply Array.ext'; simp [← evArgs_map hf _ _ ha]
  have hrun : (execOp a.eval ⟨d, .call ⟨.value (.func f), args, ts⟩, ty, pos, af, g⟩).run P w = .ok (.enter f vs.toArray) w := by
    simp [execOp, resolve, Act.eval, Deferred.ofValue, invoke, i1.h, hargs]
  refine wpOp_at hi (wanted_of (o := ⟨d, .call ⟨.value (.func f), args, ts⟩, ty, pos, af, g⟩) hf hg) ?_
  rw [hrun, Oper.upon_enter]
  refine (hc w hs.sub).mono ?_
  rintro e w' ⟨c, S', L', rfl, hR, hs'⟩
  have hb := hs.back hs'
  intro t ht
  refine k S' L' c hs'.le hR _ _ ⟨ht.trans hf.size, hf.le, ?_, fun i v hv => ?_⟩ hb
  · show a.defers = dfr []
    rw [hf.defers]; simp [dfr, hk, get]
  · simp [geT, get] at hv
/-- The contract of a deferred closure that recovers. -/
def ConR (P : Program) (f : FuncId) (args : Array Value) (c : List PanicEntry) (S : SH) (L : Blocks) (R : SH → Blocks → Prop) : Prop :=
  ∀ cx w, St cx S L w → CallsDIn (Fr none) 0 P f args (.panicking c) w fun e u' w' => (∃ v, e = .returned v) ∧ settle u' = .returning ∧ ∃ S' L', R S' L' ∧ St cx S' L' w'
theorem out_panicd {R : SH → Blocks → Value → Prop} {R1 : SH → Blocks → Prop} {f : FuncId} {fix caps : List Value} {c : List PanicEntry} (i1 : Fun P f) (hk : get F kM = some (.func (.func f) fix.toArray caps.toArray))
    (hc : ConR P f (fix ++ caps).toArray c S L R1)
    (hr : ∀ S' L1, R1 S' L1 → ∃ v L', L'.Sublist L1 ∧ R S' L' v ∧ ∀ a w, Fm n a F → St cx S' L1 w → (results fn a.tmps).run P w = .ok v w) : W cx n S L F (Out P cx fn R (.panic c)) := fun a w hf hs => by
  have hd : a.defers = [⟨.fn (.func f) caps.toArray, fix.toArray⟩] := by rw [hf.defers]; simp [dfr, hk]
  show LeavesInM (Fr none) 0 P fn a.tmps (fun e w' => ∃ v S' L', e = .returned v ∧ R S' L' v ∧ St cx S' L' w') a.defers (.panicking c) w
  rw [hd]
  refine ⟨by simp, .inr ⟨fun h => by simp at h, .func f, caps.toArray, f, (fix ++ caps).toArray, rfl, by simp [invoke, i1.h], fun _ _ => trivial, ?_⟩⟩
  refine (hc cx w hs).mono ?_
  rintro e u' w' ⟨⟨v, rfl⟩, hu, S', L1, hR, hs'⟩
  obtain ⟨v2, L2, hsub, hR2, hres⟩ := hr S' L1 hR
  show LeavesInM _ _ _ _ _ _ [] _ _
  rw [hu]
  exact ⟨v2, hres a w' hf hs', v2, S', L2, rfl, hR2, hs'.weaken hsub⟩
end
section
variable {P : Program} {cx : Cx} {n : Nat} {S : SH} {L L' : Blocks} {F : Slots} {ro : Option Nat} {ops : Array Oper} {d : Nat} {ty : TypeId} {pos : String} {af : Array Edge} {g : Option (Nat × Bool)} {fn : Func}
theorem run_equalIn_ifp {t u e : TypeId} {m : Array (String × TypeId)} {p : Addr} (k : Nat) (w : World) (h1 : P.underlying t = some (.interface m)) (h2 : P.underlying u = some (.pointer e)) (h3 : (P.info? e).map (·.size) = some 1) (h4 : (P.info? u).map (·.comparable) = some true) : (Op.equalIn (k + 1 + 1) t (.iface u (.pointer (some p))) (.iface u (.pointer (some p)))).run P w = .ok true w := by
  obtain ⟨i, hi, hc⟩ := Option.map_eq_some_iff.1 h4
  simp [Op.equalIn, run_underlying h1, run_underlying h2, run_sizeOf h3, sameAddr, typeInfo, hi, hc]
/-- Two interface values that hold the same pointer are equal. -/
theorem ev_eql_ifp {T T' t e : TypeId} {m : Array (String × TypeId)} {p : Addr} {x y : Operand} (h1 : P.underlying T = some (.interface m)) (h2 : P.underlying t = some (.pointer e)) (h3 : (P.info? e).map (·.size) = some 1) (h4 : (P.info? t).map (·.comparable) = some true) (hx : evO F x = some (.iface t (.pointer (some p)))) (hy : evO F y = some (.iface t (.pointer (some p)))) : Ev P cx n S L F (.binOp .eql T x y T') ty (.bool true) := fun a w hf _ o ho _ => by
  have h : (Op.equal T (.iface t (.pointer (some p))) (.iface t (.pointer (some p)))).run P w = .ok true w := run_equalIn_ifp 9998 w h1 h2 h3 h4
  simp only [execOp, ho, hf.ev hx, hf.ev hy, eqGuard]
  simp [binOp, go_sem, h]
theorem ev_eql_ifnil {T T' t : TypeId} {x y : Operand} {u r : Value} (hx : evO F x = some (.iface t u)) (hy : evO F y = some .nilIface) (hv : ∀ w, (binOp .eql T (.iface t u) .nilIface).run P w = .ok r w) : Ev P cx n S L F (.binOp .eql T x y T') ty r := fun a w hf _ o ho _ => by
  simp only [execOp, ho, hf.ev hx, hf.ev hy, eqGuard]
  simp [hv]
theorem ev_typeAssert {x : Operand} {T T' : TypeId} {c : Bool} {u v : Value} (hx : evO F x = some u) (hv : ∀ w, (Instr.typeAssert u T T' c).run P w = .ok v w) : Ev P cx n S L F (.typeAssert x T T' c) ty v := fun a w hf _ o ho _ => by
  simp only [execOp, ho, hf.ev hx]
  simp [hv]
/-- A call of a function of the model's own that yields a value. -/
theorem ev_ext {f : FuncId} {x : Operand} {ts : Array TypeId} {u v : Value} (hx : evO F x = some u) (h : ∀ w, (callFunc f #[u]).run P w = .ok (.value v) w) : Ev P cx n S L F (.call ⟨.value (.func f), #[x], ts⟩) ty v := fun a w hf _ o ho _ => by
  have hfn : a.eval (.func f) = .func (.func f) #[] #[] := rfl
  simp [execOp, ho, resolve, hfn, Deferred.ofValue, invoke, hf.ev hx, h]
theorem ev_method {x : Operand} {nm : String} {u v : Value} (hx : evO F x = some u) (h : ∀ w, (invoke (.fn (.method nm) #[]) #[u]).run P w = .ok (.value v) w) : Ev P cx n S L F (.call ⟨.invoke x nm, #[], #[]⟩) ty v := fun a w hf _ o ho hty => by
  simp [execOp, ho, resolve, hf.ev hx, h]
/-! The body of a deferred closure, as far as it calls recover. -/
def WS (cx : Cx) (n : Nat) (S : SH) (L : Blocks) (F : Slots) (cs : List Frame) (G : Act → List Frame → World → Prop) : Prop := ∀ a w, Fm n a F → St cx S L w → G a cs w
variable {cs cs' : List Frame} {Q : Exit → Act → List Frame → World → Prop} {rest : List Nat}
theorem ws_seq {x y : Code} (k : WS cx n S L F cs (x.wpSIn (Fr none) 0 P (Exit.thenS (y.wpSIn (Fr none) 0 P Q) Q))) : WS cx n S L F cs ((Code.seq x y).wpSIn (Fr none) 0 P Q) := fun a w hf hs => wpSIn_seq (k a w hf hs)
theorem ws_region {id : Nat} (k : WS cx n S L F cs (wpOpsSIn (Fr none) 0 P ops Q (List.range ops.size))) : WS cx n S L F cs ((Code.region id ops false).wpSIn (Fr none) 0 P Q) := fun a w hf hs => wpSIn_region (k a w hf hs)
theorem ws_to {c : Code} (k : W cx n S L F (c.wpIn (Fr none) 0 P (fun e a' w' => Q e a' cs w'))) : WS cx n S L F cs (c.wpSIn (Fr none) 0 P Q) := fun a w hf hs => wpSIn_of_wpIn rfl (k a w hf hs)
theorem ws_end (k : WS cx n S L F cs (Q .normal)) : WS cx n S L F cs (wpOpsSIn (Fr none) 0 P ops Q []) := k
theorem ws_then {K : Act → List Frame → World → Prop} (k : WS cx n S L F cs K) : WS cx n S L F cs (Exit.thenS K Q .normal) := k
theorem ws_ev {i : Nat} {op : Op} {v : Value} (hi : ops[i]? = some ⟨some d, op, ty, pos, af, g⟩) (hg : want ops F g = some true) (hd : Nat.blt d n = true) (he : Ev P cx n S L F op ty v) (k : WS cx n S L ((d, v) :: F) cs (wpOpsSIn (Fr none) 0 P ops Q rest)) : WS cx n S L F cs (wpOpsSIn (Fr none) 0 P ops Q (i :: rest)) := by
  intro a w hf hs
  simp only [wpOpsSIn, hi]
  refine ⟨fun _ _ => trivial, ?_⟩
  rw [wanted_of (o := ⟨some d, op, ty, pos, af, g⟩) hf hg]
  simp only [if_true]
  rw [he a w hf hs ⟨some d, op, ty, pos, af, g⟩ rfl rfl]
  exact k _ _ (hf.put v hd) hs
theorem ws_recover {i : Nat} {v : Value} (hi : ops[i]? = some ⟨some d, .call ⟨.builtin .recover, #[], #[]⟩, ty, pos, af, g⟩) (hg : want ops F g = some true) (hd : Nat.blt d n = true) (hr : recoverD cs = some (v, cs')) (k : WS cx n S L ((d, v) :: F) cs' (wpOpsSIn (Fr none) 0 P ops Q rest)) : WS cx n S L F cs (wpOpsSIn (Fr none) 0 P ops Q (i :: rest)) := by
  intro a w hf hs
  simp only [wpOpsSIn, hi]
  refine ⟨fun _ _ => trivial, ?_⟩
  rw [wanted_of (o := ⟨some d, .call ⟨.builtin .recover, #[], #[]⟩, ty, pos, af, g⟩) hf hg]
  simp only [if_true]
  have hrun : (execOp a.eval ⟨some d, .call ⟨.builtin .recover, #[], #[]⟩, ty, pos, af, g⟩).run P w = .ok .recover w := by simp [go_sem]
  rw [hrun]
  simp only [hr]
  exact k _ _ (hf.put v hd) hs
theorem ws_ret {c₀ : Frame} {cs0 : List Frame} {u' : FrameMode} {R : Ending → FrameMode → World → Prop} {e : Exit} (he : e = .ret ∨ e = .normal) (hk : get F kM = none) (hres : fn.results = #[]) (hR : ∀ w, St cx S L w → R (.returned (.tuple #[])) u' w) :
    W cx n S L F (fun a w => bodyPostS P fn c₀ cs0 R e a ({ c₀ with mode := u' } :: cs0) w) := fun a w hf hs => by
  have hd : a.defers = [] := by rw [hf.defers]; simp [dfr, hk]
  rcases he with rfl | rfl
  all_goals exact ⟨hd, u', rfl, .tuple #[], by simp [results, hres], hR w hs⟩
theorem conR_of {f : FuncId} {c : Code} {args : List Value} {v : Value} {R : SH → Blocks → Prop} (hf : P.funcs[f]? = some fn) (hb : fn.body = some c) (hn : fn.ntmps = n) (ha : (Nat.ble args.length n && Nat.ble n kM) = true)
    (k : ∀ (cx : Cx) (c₀ : Frame) (cs : List Frame), recoverD (c₀ :: cs) = some (v, { c₀ with mode := .panicking [{ v, recovered := true }] } :: cs) →
      WS cx n S L (slotsOf 0 args) (c₀ :: cs) (c.wpSIn (Fr none) 0 P (bodyPostS P fn c₀ cs fun e u' w' => (∃ v, e = .returned v) ∧ settle u' = .returning ∧ ∃ S' L', R S' L' ∧ St cx S' L' w'))) :
    ConR P f args.toArray [{ v, recovered := false }] S L R := by
  intro cx w hs
  simp only [Bool.and_eq_true] at ha
  refine callsDIn_of_wpSIn hf hb trivial fun c₀ cs hu => ?_
  have := k cx c₀ cs (by simp [recoverD, hu]) _ w (Fm.start args n (by simpa using ha.1) ha.2) hs
  rw [← hn] at this
  exact this
end
end Go.X
namespace Go.X
open Go Go.RowKit
section
variable {P : Program} {cx : Cx} {n : Nat} {S : SH} {L : Blocks} {F : Slots} {ro : Option Nat} {ops : Array Oper} {Q : Exit → Act → World → Prop} {rest : List Oper} {ty : TypeId} {pos : String} {af : Array Edge} {g : Option (Nat × Bool)}
theorem s_panic {x : Operand} {t : TypeId} {v : Value} {d : Option Nat} (hg : want ops F g = some true) (hx : evO F x = some (.iface t v)) (k : W cx n S L F (Q (.panic [{ v := .iface t v, recovered := false }]))) :
    W cx n S L F (wpListIn (Fr ro) 0 P ops Q (⟨d, .panic x, ty, pos, af, g⟩ :: rest)) := by
  intro a w hf hs
  simp only [wpListIn]
  rw [wanted_of (o := ⟨d, .panic x, ty, pos, af, g⟩) hf hg]
  simp only [if_true]
  refine ⟨fun _ _ => trivial, ?_⟩
  rw [semAt_of rfl]
  have hrun : (execOp a.eval ⟨d, .panic x, ty, pos, af, g⟩).run P w = .halt (.panic (.iface t v)) w := by
    simp only [execOp, hf.ev hx]
    simp [Instr.panic, goPanic]
  rw [hrun]
  exact k _ _ hf hs
end
end Go.X
namespace Go.X
theorem pmc {X Y : Blocks} (h : ∀ p : Nat × Obj → Bool, X.countP p = Y.countP p) : X.Perm Y := by
  classical
  rw [List.perm_iff_count]
  intro a
  exact h (· == a)
end Go.X
namespace Go.X
open Go Go.RowKit
section
variable {α : Type} [Cl α] {P : Program} {cx : Cx} {n : Nat} {S : SH} {L : Blocks} {F : Slots} {ro : Option Nat} {ops : Array Oper} {Q : Exit → Act → World → Prop} {rest : List Oper} {d : Nat} {ty : TypeId} {pos : String} {af : Array Edge} {g : Option (Nat × Bool)}
/-- xs[i:j] of a stable slice. -/
theorem s_slice_lh {T e : TypeId} [hT : Sli P T e] [hE : Sz P e (Cl.size α)] {x y z : Operand} {A : Option Addr} {m c i j q : Nat} {kd kd' : IntKind} {l : List α} (hA : At S A l) (hg : want ops F g = some true) (hd : Nat.blt d n = true) (hx : evO F x = some (.slice A m c)) (hy : evO F y = some (.int kd i)) (hz : evO F z = some (.int kd' j)) (hm : m = l.length) (hmc : m ≤ c) (hij : i ≤ j) (hj : j ≤ l.length) (hq : q = j - i)
    (k : ∀ A', At S A' ((l.drop i).take q) → W cx n S L ((d, .slice A' q (c - i)) :: F) (wpListIn (Fr ro) 0 P ops Q rest)) :
    W cx n S L F (wpListIn (Fr ro) 0 P ops Q (⟨some d, .slice T x (some y) (some z) none, ty, pos, af, g⟩ :: rest)) := by
  subst hm hq
  refine s_ev (v := .slice (if c = i then A else A.map (·.add (i * Cl.size α))) (j - i) (c - i)) (fun a w hf hs o ho _ => ?_) hg rfl hd ?_
  · simp only [execOp, ho, hf.ev hx, hf.ev hy, hf.ev hz, Instr.sliceAt, Sem.run_bind, run_underlying hT.h, Result.andThen_ok, Option.map_some, Option.map_none]
    rw [run_slice hT.h hE.size A l.length c i j (some (.int kd i)) (some (.int kd' j)) (.inr ⟨kd, rfl⟩) (.inr ⟨kd', rfl⟩) (by omega) hij]
    simp
  · have := k _ (by have := hA.cut (i := i) (m := j) (c := c) hmc hj hij; rw [List.drop_take] at this; exact this)
    exact this
end
end Go.X
namespace Go.X
def shaK : List UInt32 := [1116352408, 1899447441, 3049323471, 3921009573, 961987163, 1508970993, 2453635748, 2870763221, 3624381080, 310598401, 607225278, 1426881987, 1925078388, 2162078206, 2614888103, 3248222580, 3835390401, 4022224774, 264347078, 604807628, 770255983, 1249150122, 1555081692, 1996064986, 2554220882, 2821834349, 2952996808, 3210313671, 3336571891, 3584528711, 113926993, 338241895, 666307205, 773529912, 1294757372, 1396182291, 1695183700, 1986661051, 2177026350, 2456956037, 2730485921, 2820302411, 3259730800, 3345764771, 3516065817, 3600352804, 4094571909, 275423344, 430227734, 506948616, 659060556, 883997877, 958139571, 1322822218, 1537002063, 1747873779, 1955562222, 2024104815, 2227730452, 2361852424, 2428436474, 2756734187, 3204031479, 3329325298]
theorem shaK_len : shaK.length = 64 := by decide
end Go.X
