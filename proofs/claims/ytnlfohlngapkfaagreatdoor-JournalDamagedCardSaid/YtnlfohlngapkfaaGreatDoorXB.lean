/- The step calculus of these proofs: a state of a call (a frame as a list of slots, what is stable in memory, the blocks that the call owns) and one rule for each kind of code and operation; it holds for every program, on no condition beyond each rule's own premises. -/
import Derived.Test.YtnlfohlngapkfaaGreatDoorXA
import Derived.Deep.AppendSrc
import Derived.Lib.ConvBytes
import Derived.Lib.AppendStr
import Derived.Lib.Builder
import Derived.Lib.UnsafeStr
import Derived.Lib.MakeNoZero
import Derived.Laws.Externs
import Derived.Deep.MidRow
import Derived.RecoverIn
namespace Go.X
open Go Go.RowKit
class Ptr (P : Program) (t : TypeId) : Prop where
  h : P.underlying t = some (.pointer (P.pointee t))
section
variable {P : Program} {cx : Cx} {n : Nat} {S S0 : SH} {L L0 : Blocks} {F : Slots} {ro : Option Nat} {ops : Array Oper} {Q : Exit → Act → World → Prop} {rest : List Oper} {d : Nat} {ty : TypeId} {pos : String} {af : Array Edge} {g : Option (Nat × Bool)}
theorem s_evb {op : Op} {v : Value} (hg : want ops F g = some true) (hd : Nat.blt d n = true) (hn : notDefer op = true) (he : Ev P cx n S L F op ty v) (k : W cx n S L ((d, v) :: F) (wpListIn (Fr ro) 0 P ops Q rest)) :
    W cx n S L F (wpListIn (Fr ro) 0 P ops Q (⟨some d, op, ty, pos, af, g⟩ :: rest)) := s_ev he hg hn hd k
theorem ev_eql_p {T T' : TypeId} [hT : Ptr P T] {x y : Operand} {p : Option Addr} (hx : evO F x = some (.pointer p)) (hy : evO F y = some (.pointer none)) : Ev P cx n S L F (.binOp .eql T x y T') ty (.bool p.isNone) := fun a w hf _ o ho _ => by
  simp [execOp, ho, hf.ev hx, hf.ev hy, eqGuard, run_eql_pointer_nil w T p hT.h]
theorem ev_neq_p {T T' : TypeId} [hT : Ptr P T] {x y : Operand} {p : Option Addr} (hx : evO F x = some (.pointer p)) (hy : evO F y = some (.pointer none)) : Ev P cx n S L F (.binOp .neq T x y T') ty (.bool (!p.isNone)) := fun a w hf _ o ho _ => by
  simp [execOp, ho, hf.ev hx, hf.ev hy, eqGuard, run_neq_pointer_nil w T p hT.h]
theorem own_bytes {w : World} (h : St cx S L w) {b o m : Nat} {B : Bs} {T : TypeId} {fz : Nat × Nat} (hm : (b, Obj.cells (cellsOf B).toArray T fz) ∈ L) (j : Nat) (c : UInt8) (hj : ((B.drop o).take m)[j]? = some c) : w.cell? ((⟨b, o, none⟩ : Addr).add j) = some (.int .u8 (c.toNat : Int)) := by
  have e : (⟨b, o, none⟩ : Addr).add j = ⟨b, o + j, none⟩ := by unfold Addr.add; split <;> simp_all
  rw [e, own_cell h hm, cellsOf_u8]
  rw [List.getElem?_take] at hj
  split at hj
  · rw [List.getElem?_drop] at hj; simp [hj]
  · cases hj
/-- string(b[..]) of a row of the call's own. -/
theorem ev_str_own {T T2 e : TypeId} [hT : Sli P T e] [he : Ity P e .u8] [h2 : Strg P T2] {x : Operand} {b o m c : Nat} {B : Bs} {T' : TypeId} {fz : Nat × Nat} (hx : evO F x = some (.slice (some ⟨b, o, none⟩) m c)) (hm : (b, Obj.cells (cellsOf B).toArray T' fz) ∈ L) (hk : o + m ≤ B.length) : Ev P cx n S L F (.convert T T2 x) ty (strV ((B.drop o).take m)) := fun a w hf hs op ho _ => by
  have hl : ((B.drop o).take m).length = m := by simp; omega
  have hr := run_convert_bytes_back (P := P) w T T2 e ⟨b, o, none⟩ c ((B.drop o).take m) hT.h he.h h2.h (fun j hj => own_bytes hs hm j _ (List.getElem?_eq_getElem hj))
  rw [hl] at hr
  simp [execOp, ho, hf.ev hx, hr, strV]
/-- b[i:] of a row of the call's own, its elements of one cell. -/
theorem ev_sub_lo {T e : TypeId} [hT : Sli P T e] [hE : Sz P e 1] {x y : Operand} {b m c i : Nat} {kd : IntKind} (hx : evO F x = some (.slice (some ⟨b, 0, none⟩) m c)) (hy : evO F y = some (.int kd i)) (hmc : m ≤ c) (hi : i ≤ m) :
    Ev P cx n S L F (.slice T x (some y) none none) ty (.slice (some ⟨b, if c = i then 0 else i, none⟩) (m - i) (c - i)) := fun a w hf hs o ho _ => by
  have hr := run_slice (P := P) hT.h hE.size (some ⟨b, 0, none⟩) m c i m (some (.int kd i)) none (.inr ⟨kd, rfl⟩) (.inl ⟨rfl, rfl⟩) hmc hi w
  have e1 : (⟨b, 0, none⟩ : Addr).add (i * 1) = ⟨b, i, none⟩ := by unfold Addr.add; split <;> simp_all
  simp [execOp, ho, hf.ev hx, hf.ev hy, Instr.sliceAt, run_underlying hT.h, hr]
  split
  · rfl
  · simpa using e1
/-- x[:i], the address staying. -/
theorem ev_sub_hi {T e : TypeId} {sz : Nat} [hT : Sli P T e] [hE : Sz P e sz] {x y : Operand} {A : Option Addr} {m c i : Nat} {kd : IntKind} (hx : evO F x = some (.slice A m c)) (hy : evO F y = some (.int kd i)) (hmc : i ≤ c) :
    Ev P cx n S L F (.slice T x none (some y) none) ty (.slice A i c) := fun a w hf hs o ho _ => by
  have hr := run_slice (P := P) hT.h hE.size A m c 0 i none (some (.int kd i)) (.inl ⟨rfl, rfl⟩) (.inr ⟨kd, rfl⟩) hmc (Nat.zero_le _) w
  have e1 : A.map (fun p => p.add 0) = A := by cases A with | none => rfl | some p => obtain ⟨b, j, r⟩ := p; simp [Addr.add]
  simp [execOp, ho, hf.ev hx, hf.ev hy, Instr.sliceAt, run_underlying hT.h, hr]
  intro _
  exact e1
theorem bv_addn {i j : Nat} (h : i + j ≤ 9223372036854775807) : BinV P .add .i64 (i : Int) (j : Int) (.int .i64 ((i + j : Nat) : Int)) := fun T w => by
  have e : ((i + j : Nat) : Int) = (i : Int) + (j : Int) := by omega
  rw [e]
  exact bv_add (P := P) (by omega) T w
theorem bv_subn {i j : Nat} (h : j ≤ i ∧ i ≤ 9223372036854775807) : BinV P .sub .i64 (i : Int) (j : Int) (.int .i64 ((i - j : Nat) : Int)) := fun T w => by
  have e : ((i - j : Nat) : Int) = (i : Int) - (j : Int) := by omega
  rw [e]
  exact bv_sub (P := P) (by omega) T w
theorem ev_eql_bv {T T' : TypeId} {x y : Operand} {a b : Bs} {r : Bool} (hx : evO F x = some (strV a)) (hy : evO F y = some (strV b)) (h : (a == b) = r) : Ev P cx n S L F (.binOp .eql T x y T') ty (.bool r) := h ▸ ev_eql_bs hx hy
theorem ev_neq_bv {T T' : TypeId} {x y : Operand} {a b : Bs} {r : Bool} (hx : evO F x = some (strV a)) (hy : evO F y = some (strV b)) (h : (a != b) = r) : Ev P cx n S L F (.binOp .neq T x y T') ty (.bool r) := h ▸ ev_neq_bs hx hy
/-- A call of a function value. -/
theorem s_callv {f : FuncId} [hfun : Fun P f] {x : Operand} {args : Array Operand} {ts : Array TypeId} {vs caps : List Value} {L1 L2 : Blocks} {R : SH → Blocks → Value → Prop} (hg : want ops F g = some true) (hd : Nat.blt d n = true) (hx : evO F x = some (.func (.func f) #[] caps.toArray)) (ha : evArgs F args.toList = some vs) (hL : L.Perm (L1 ++ L2))
    (hc : Con P f (vs ++ caps).toArray S L1 R) (k : ∀ S' L1' v, Le S S' → R S' L1' v → W cx n S' (L1' ++ L2) ((d, v) :: F) (wpListIn (Fr ro) 0 P ops Q rest)) :
    W cx n S L F (wpListIn (Fr ro) 0 P ops Q (⟨some d, .call ⟨.value x, args, ts⟩, ty, pos, af, g⟩ :: rest)) := by
  intro a w hf hs0
  have hs := hs0.perm hL
  simp only [wpListIn]
  rw [wanted_of (o := ⟨some d, .call ⟨.value x, args, ts⟩, ty, pos, af, g⟩) hf hg]
  simp only [if_true]
  refine ⟨fun _ _ => trivial, ?_⟩
  have hargs : args.map a.eval = vs.toArray := by
    apply Array.ext'; simp [← evArgs_map hf _ _ ha]
  rw [semAt_of rfl]
  have hrun : (execOp a.eval ⟨some d, .call ⟨.value x, args, ts⟩, ty, pos, af, g⟩).run P w = .ok (.enter f (vs ++ caps).toArray) w := by
    simp [execOp, resolve, hf.ev hx, Deferred.ofValue, invoke, hfun.h, hargs]
  rw [hrun, Oper.uponIn_enter]
  refine ⟨by simp, ?_⟩
  have hcall := hc w hs.sub
  have hin : CallsIn (Fr ro) (0 - 1) P f (vs ++ caps).toArray w (fun e w' => ∃ v S' L', e = .returned v ∧ R S' L' v ∧ St ⟨w, S, L1.map (·.1)⟩ S' L' w') :=
    (callsIn_wide (n := 0)).2 hcall
  refine hin.mono ?_
  rintro e w' ⟨v, S', L', rfl, hR, hs'⟩
  exact k S' L' v hs'.le hR _ _ (hf.put v hd) (hs.back hs')
/-- xs[i], the address, of a slice of the call's own: what lies there. -/
theorem s_idxq {α : Type} [Cl α] {T e : TypeId} [Sli P T e] [Sz P e (Cl.size α)] {x i : Operand} {v : Value} {l : List α} {ob L1 : Blocks} {k : Nat} {kd : IntKind} {u : α} (ho : Ows e v l ob) (hL : L.Perm (ob ++ L1)) (hg : want ops F g = some true) (hd : Nat.blt d n = true) (hx : evO F x = some v) (hi : evO F i = some (.int kd k)) (hu : l[k]? = some u)
    (h : ∀ p, Src cx S L p (Cl.cells u) → W cx n S L ((d, .pointer (some p)) :: F) (wpListIn (Fr ro) 0 P ops Q rest)) :
    W cx n S L F (wpListIn (Fr ro) 0 P ops Q (⟨some d, .indexAddr T x i, ty, pos, af, g⟩ :: rest)) := by
  have hlt := (List.getElem?_eq_some_iff.1 hu).1
  rcases ho with ⟨rfl, rfl, _⟩ | ⟨gb, cap, cur, rfl, rfl, h1, h2, h3, h4⟩
  · simp at hlt
  · refine s_ev (ev_indexAddr hx hi hlt) hg rfl hd (h _ ?_)
    intro w hs j c hj
    have hs' := hs.perm hL
    have e1 : ((⟨gb, 0, none⟩ : Addr).add (k * Cl.size α)).add j = ⟨gb, k * Cl.size α + j, none⟩ := by
      rw [add_add]; unfold Addr.add; split <;> simp_all
    rw [e1]
    have hm : (gb, Obj.cells cur.toList.toArray e (0, 0)) ∈ ([(gb, Obj.cells cur e (0, 0))] ++ L1 : Blocks) := by simp
    rw [own_cell hs' hm]
    have hc := cellsOf_at l k u hu j c hj
    rw [← h4, List.getElem?_take] at hc
    split at hc
    · simpa using hc
    · cases hc
theorem ev_load_src {T : TypeId} [Sc P T] {x : Operand} {p : Addr} {cs : List Value} {u : Value} {j : Nat} (hx : evO F x = some (.pointer (some (p.add j)))) (h : Src cx S L p cs) (hu : cs[j]? = some u) : Ev P cx n S L F (.load T x) ty u := fun a w hf hs o ho _ => by
  simp [execOp, ho, hf.ev hx, Instr.loadAt, Instr.sureAddr, run_loadVar_sc (h w hs j u hu)]
theorem ev_load_src1 {T : TypeId} [Sc P T] {x : Operand} {p : Addr} {u : Value} (hx : evO F x = some (.pointer (some p))) (h : Src cx S L p [u]) : Ev P cx n S L F (.load T x) ty u := fun a w hf hs o ho _ => by
  have h2 : w.cell? p = some u := by simpa [Addr.add] using h w hs 0 u rfl
  simp [execOp, ho, hf.ev hx, Instr.loadAt, Instr.sureAddr, run_loadVar_sc h2]
theorem ev_load_src_ag {T : TypeId} {sz : Nat} [Ag P T sz] {x : Operand} {p : Addr} {cs : List Value} (hx : evO F x = some (.pointer (some p))) (h : Src cx S L p cs) (hl : cs.length = sz) : Ev P cx n S L F (.load T x) ty (.agg cs.toArray) := fun a w hf hs o ho _ => by
  simp [execOp, ho, hf.ev hx, Instr.loadAt, Instr.sureAddr, run_loadVar_ag hl (h w hs)]
/-- A copy of a whole row of bytes into another one of the same length, both the call's own. -/
theorem s_copy_o {T T2 e : TypeId} [hT : Sli P T e] [hE : Sz P e 1] {x y : Operand} {g1 g2 m c c2 : Nat} {B1 B2 : Bs} {T1 T3 : TypeId} {fz : Nat × Nat} {L' : Blocks} (hg : want ops F g = some true) (hd : Nat.blt d n = true) (hx : evO F x = some (.slice (some ⟨g1, 0, none⟩) m c)) (hy : evO F y = some (.slice (some ⟨g2, 0, none⟩) m c2)) (hm2 : (g2, Obj.cells (cellsOf B2).toArray T3 fz) ∈ L) (h1 : B1.length = m) (h2 : B2.length = m)
    (hL : Upd L g1 (.cells (cellsOf B1).toArray T1 (0, 0)) (.cells (cellsOf B2).toArray T1 (0, 0)) L') (k : W cx n S L' ((d, .int .i64 m) :: F) (wpListIn (Fr ro) 0 P ops Q rest)) :
    W cx n S L F (wpListIn (Fr ro) 0 P ops Q (⟨some d, .call ⟨.builtin .copy, #[x, y], #[T, T2]⟩, ty, pos, af, g⟩ :: rest)) :=
  s_val hg rfl hd fun a w hf hs op hop hty => by
    obtain ⟨j, hj, rfl⟩ := hL.at_
    have l1 : (cellsOf B1).length = m := by rw [cellsOf_length, h1]; exact Nat.mul_one _
    have l2 : (cellsOf B2).length = m := by rw [cellsOf_length, h2]; exact Nat.mul_one _
    have e1 : lset (cellsOf B1) 0 (cellsOf B2) = cellsOf B2 := by
      simp only [lset, List.take_zero, List.nil_append, l2]
      rw [List.drop_of_length_le (by omega), List.append_nil]
    have hst := hs.setCells hj (o := 0) (vs := cellsOf B2) (by omega)
    rw [e1] at hst
    have hb := List.mem_of_getElem? hj
    have hr := run_copy_cells (P := P) w T T2 ty e g1 0 m c ⟨g2, 0, none⟩ m c2 (cellsOf B2) hT.h hE.size (by rw [l2]; show m = min m m; omega)
      (fun i v hi => by
        have e2 : (⟨g2, 0, none⟩ : Addr).add i = ⟨g2, i, none⟩ := by unfold Addr.add; split <;> simp_all
        rw [e2, own_cell hs hm2]; simpa using hi)
      (fun i hi => by rw [own_cell hs hb]; simp; omega) (fun i hi => own_frozen hs hb _) (cellsOf_one _)
    rw [l2] at hr
    refine ⟨S, _, _, _, ?_, hst, k⟩
    simp [execOp, hop, resolve, invoke, builtin, hf.ev hx, hf.ev hy, hty, hr, goInt]
theorem run_storeCells_z {w : World} (h : St cx S L w) {b : Nat} {cs : List Value} {T : TypeId} (hm : (b, Obj.cells cs.toArray T (0, 0)) ∈ L) {o : Nat} {vs : List Value} (hl : o + vs.length ≤ cs.length) (h1 : ∀ v ∈ vs, v.oneCell' = true) : (storeCells ⟨b, o, none⟩ vs).run P w = .ok () (w.setCells b o vs) := run_storeCells_own h hm hl h1
theorem zeros_size (z : Array Value) (m : Nat) : (Builtin.zeroCells z m).size = m * z.size := by simp [Builtin.zeroCells]
theorem zeros_one (z : Array Value) (m : Nat) (h : ∀ v ∈ z, v.oneCell' = true) : ∀ v ∈ (Builtin.zeroCells z m).toList, v.oneCell' = true := by
  intro v hv
  simp only [Builtin.zeroCells, Array.toList_map, List.mem_map] at hv
  obtain ⟨i, hi, rfl⟩ := hv
  have hi' : i < m * z.size := by simpa using hi
  have hz : 0 < z.size := by rcases Nat.eq_zero_or_pos z.size with h0 | h0; · simp [h0] at hi'
                             · exact h0
  have : i % z.size < z.size := Nat.mod_lt _ hz
  rw [getElem!_pos z _ this]
  exact h _ (Array.getElem_mem this)
/-- clear of a part of a row of the call's own: what lies there after is not told. -/
theorem s_clear {T e : TypeId} {sz : Nat} {z : Value} [hT : Sli P T e] [Sz P e sz] [hZ : Zr P e z] {x : Operand} {b o m c : Nat} {cs : List Value} {T1 : TypeId} {L1 : Blocks} (hg : want ops F g = some true) (hz1 : z.cells.toList.all (·.oneCell') = true) (hzs : z.cells.size = sz) (hx : evO F x = some (.slice (some ⟨b, o, none⟩) m c)) (hl : o + m * sz ≤ cs.length)
    (hL : L.Perm ([(b, .cells cs.toArray T1 (0, 0))] ++ L1)) (k : ∀ vs : List Value, vs.length = m * sz → W cx n S ((b, .cells (lset cs o vs).toArray T1 (0, 0)) :: L1) F (wpListIn (Fr ro) 0 P ops Q rest)) :
    W cx n S L F (wpListIn (Fr ro) 0 P ops Q (⟨none, .call ⟨.builtin .clear, #[x], #[T]⟩, ty, pos, af, g⟩ :: rest)) := by
  intro a w hf hs0
  have hs := hs0.perm hL
  have hv := zeros_size z.cells m
  have h1 := zeros_one z.cells m fun v hv => List.all_eq_true.1 hz1 v (by simpa using hv)
  have hr := run_storeCells_own (P := P) hs (List.mem_append_left _ List.mem_cons_self) (o := o) (vs := (Builtin.zeroCells z.cells m).toList) (by simp [hv, hzs]; omega) h1
  have hst := hs.setCells (i := 0) rfl (o := o) (vs := (Builtin.zeroCells z.cells m).toList) (by simp [hv, hzs]; omega)
  simp only [wpListIn]
  rw [wanted_of (o := ⟨none, .call ⟨.builtin .clear, #[x], #[T]⟩, ty, pos, af, g⟩) hf hg]
  simp only [if_true]
  refine ⟨fun _ _ => trivial, ?_⟩
  rw [semAt_of rfl]
  by_cases hm0 : m = 0
  · subst hm0
    have hrun : (execOp a.eval ⟨none, .call ⟨.builtin .clear, #[x], #[T]⟩, ty, pos, af, g⟩).run P w = .ok (.value (.tuple #[])) w := by
      simp [execOp, resolve, invoke, builtin, hf.ev hx, Builtin.clear_, run_underlying hT.h]
    rw [hrun]
    have := k [] (by simp)
    rw [lset_nil] at this
    exact this _ _ hf hs
  · have hrun : (execOp a.eval ⟨none, .call ⟨.builtin .clear, #[x], #[T]⟩, ty, pos, af, g⟩).run P w = .ok (.value (.tuple #[])) (w.setCells b o (Builtin.zeroCells z.cells m).toList) := by
      simp [execOp, resolve, invoke, builtin, hf.ev hx, Builtin.clear_, run_underlying hT.h, run_zeroValue hZ.zero, hr, hm0]
    rw [hrun]
    exact k (Builtin.zeroCells z.cells m).toList (by simp [hv, hzs]) _ _ hf hst
theorem s_clear_nil {T e : TypeId} [hT : Sli P T e] {x : Operand} (hg : want ops F g = some true) (hx : evO F x = some (.slice none 0 0)) (k : W cx n S L F (wpListIn (Fr ro) 0 P ops Q rest)) :
    W cx n S L F (wpListIn (Fr ro) 0 P ops Q (⟨none, .call ⟨.builtin .clear, #[x], #[T]⟩, ty, pos, af, g⟩ :: rest)) := by
  intro a w hf hs
  simp only [wpListIn]
  rw [wanted_of (o := ⟨none, .call ⟨.builtin .clear, #[x], #[T]⟩, ty, pos, af, g⟩) hf hg]
  simp only [if_true]
  refine ⟨fun _ _ => trivial, ?_⟩
  rw [semAt_of rfl]
  have hrun : (execOp a.eval ⟨none, .call ⟨.builtin .clear, #[x], #[T]⟩, ty, pos, af, g⟩).run P w = .ok (.value (.tuple #[])) w := by
    simp [execOp, resolve, invoke, builtin, hf.ev hx, Builtin.clear_, run_underlying hT.h]
  rw [hrun]
  exact k _ _ hf hs
variable {fuel : Nat} {listed : Array Bool}
theorem n_make1 {i : Nat} {T e : TypeId} {by_ : Nat} {z : Value} {x y : Operand} {m : Nat} (hi : ops[i]? = some ⟨some d, .makeSlice T x y, ty, pos, af, g⟩) (i1 : Sli P T e) (i2 : Sz P e 1) (i3 : By P e by_) (i4 : Zr P e z) (hg : want ops F g = some true) (hd : Nat.blt d n = true) (hx : evO F x = some (.int .i64 m)) (hy : evO F y = some (.int .i64 m)) (hzc : z.cells = #[z]) (hb : by_ * m ≤ 281474976710656) (h63 : m ≤ 1000000000000)
    (k : ∀ b, Wh P cx n S0 L0 ops Q fuel (listed.setIfInBounds i true) S ((b, .cells (List.replicate m z).toArray e (0, 0)) :: L) ((d, .slice (some ⟨b, 0, none⟩) m m) :: F)) : Wn P cx n S0 L0 ops Q fuel listed i S L F :=
  n_val hi hg hd fun a w hf hst o ho _ => by
    cases hi : P.info? e with
    | none => have := i2.size; simp [hi] at this
    | some i =>
      have h1 := i2.size; have h2 := i3.bytes; have h3 := i4.zero
      simp [hi] at h1 h2 h3
      have hbb : (i.bytes : Int) * (m : Int) ≤ 281474976710656 := by
        rw [h2]
        have h4 : ((by_ * m : Nat) : Int) ≤ 281474976710656 := by omega
        rwa [Int.natCast_mul] at h4
      have hr := run_make (P := P) (w := w) T e i z i1.h hi h3 .i64 .i64 m m (by omega) (by omega) hbb (by omega)
      simp only [Int.toNat_natCast, h1, Nat.mul_one, hzc, made_one] at hr
      exact ⟨_, _, _, _, by simp [execOp, ho, hf.ev hx, hf.ev hy, hr], hst.alloc _, Le.refl _, fun h => h.cons _, k _⟩
/-- A copy out of a string, in a drawn region. -/
theorem n_copy_s {i : Nat} {T T2 e : TypeId} {x y : Operand} {gb o m c : Nat} {B s : Bs} {T' : TypeId} {L' : Blocks} (hi : ops[i]? = some ⟨some d, .call ⟨.builtin .copy, #[x, y], #[T, T2]⟩, ty, pos, af, g⟩) (i1 : Sli P T e) (i2 : Sz P e 1) (hg : want ops F g = some true) (hd : Nat.blt d n = true) (hx : evO F x = some (.slice (some ⟨gb, o, none⟩) m c)) (hy : evO F y = some (strV s)) (hm : o + m ≤ B.length)
    (hL : Upd L gb (.cells (cellsOf B).toArray T' (0, 0)) (.cells (cellsOf (lset B o (s.take m))).toArray T' (0, 0)) L') (hsub : L0.Sublist L → L0.Sublist L') (k : Wh P cx n S0 L0 ops Q fuel (listed.setIfInBounds i true) S L' ((d, .int .i64 (min s.length m : Nat)) :: F)) : Wn P cx n S0 L0 ops Q fuel listed i S L F :=
  n_val hi hg hd fun a w hf hs op hop hty => by
    obtain ⟨j, hj, rfl⟩ := hL.at_
    have hlen : (s.take m).length = min s.length m := by simp [Nat.min_comm]
    have hcl : (cellsOf (s.take m)).length = min s.length m := by rw [cellsOf_length, hlen]; exact Nat.mul_one _
    have hbl : (cellsOf B).length = B.length := by rw [cellsOf_length]; exact Nat.mul_one _
    have hr := run_storeCells_own (P := P) hs (List.mem_of_getElem? hj) (o := o) (vs := cellsOf (s.take m)) (by omega) (cellsOf_one _)
    have e1 : lset (cellsOf B) o (cellsOf (s.take m)) = cellsOf (lset B o (s.take m)) := by rw [cellsOf_u8, cellsOf_u8, cellsOf_u8, lset_map]
    have hst := hs.setCells hj (o := o) (vs := cellsOf (s.take m)) (by omega)
    rw [e1] at hst
    refine ⟨S, _, _, _, ?_, hst, Le.refl _, hsub, k⟩
    have hrun := run_copy_str (ty := ty) (T2 := T2) i1.h i2.size (c := c) hr
    simp [execOp, hop, resolve, invoke, builtin, hf.ev hx, hf.ev hy, hty, hrun]
end
end Go.X
namespace Go.X
open Go Go.RowKit
section
variable {P : Program} {cx : Cx} {n : Nat} {S : SH} {L : Blocks} {F : Slots} {ty : TypeId}
theorem Src.pre {p : Addr} {cs tl : List Value} (h : Src cx S L p (cs ++ tl)) : Src cx S L p cs := fun w hs j u hj => h w hs j u (by
  rw [List.getElem?_append_left (List.getElem?_eq_some_iff.1 hj).1]; exact hj)
theorem ev_idxo {T e : TypeId} {sz : Nat} [hT : Sli P T e] [hE : Sz P e sz] {x i : Operand} {b j m c : Nat} {kd : IntKind} (hx : evO F x = some (.slice (some ⟨b, 0, none⟩) m c)) (hi : evO F i = some (.int kd j)) (hk : j < m) : Ev P cx n S L F (.indexAddr T x i) ty (.pointer (some ⟨b, j * sz, none⟩)) := by
  have := ev_indexAddr (P := P) (cx := cx) (n := n) (S := S) (L := L) (ty := ty) (T := T) hx hi hk
  have e : (⟨b, 0, none⟩ : Addr).add (j * sz) = ⟨b, j * sz, none⟩ := by unfold Addr.add; split <;> simp_all
  rwa [e] at this
/-- A slice of the call's own that has elements: its row, what is behind them. -/
theorem Ows.rowed {α : Type} [Cl α] {e : TypeId} {v : Value} {l : List α} {ob : Blocks} (h : Ows e v l ob) (hl : 0 < l.length) : ∃ g cap tl, v = .slice (some ⟨g, 0, none⟩) l.length cap ∧ ob = [(g, .cells (cellsOf l ++ tl).toArray e (0, 0))] ∧ l.length ≤ cap ∧ cap ≤ maxLen ∧ (cellsOf l ++ tl).length = cap * Cl.size α := by
  rcases h with ⟨_, rfl, _⟩ | ⟨g, cap, cur, rfl, rfl, h1, h2, h3, h4⟩
  · simp at hl
  · refine ⟨g, cap, cur.toList.drop (l.length * Cl.size α), rfl, ?_, h1, h2, ?_⟩
    · rw [← h4, List.take_append_drop]
    · rw [← h4, List.take_append_drop]; simpa using h3
theorem Ows.of_row {α : Type} [Cl α] {e : TypeId} {l : List α} {g cap m : Nat} {tl : List Value} (hm : m = l.length) (h1 : m ≤ cap) (h2 : cap ≤ maxLen) (h3 : (cellsOf l ++ tl).length = cap * Cl.size α) : Ows e (.slice (some ⟨g, 0, none⟩) m cap) l [(g, .cells (cellsOf l ++ tl).toArray e (0, 0))] := by
  subst hm
  exact .inr ⟨g, cap, _, rfl, rfl, h1, h2, by simpa using h3, by
    simp only
    rw [List.take_append_of_le_length (by rw [cellsOf_length]; exact Nat.le_refl _), List.take_of_length_le (by rw [cellsOf_length]; exact Nat.le_refl _)]⟩
theorem bytes_tset (B : Bs) (tl : List Value) (i : Nat) (c : UInt8) (h : i < B.length) : (cellsOf B ++ tl).set i (.int .u8 (c.toNat : Int)) = cellsOf (B.set i c) ++ tl := by
  rw [cellsOf_u8, cellsOf_u8, List.set_append_left _ _ (by simpa using h), List.map_set]
theorem bytes_tat (B : Bs) (tl : List Value) (i : Nat) (h : i < B.length) : (cellsOf B ++ tl)[i]? = some (.int .u8 ((B[i]).toNat : Int)) := by
  rw [cellsOf_u8, List.getElem?_append_left (by simpa using h), List.getElem?_map, List.getElem?_eq_getElem h]; rfl
theorem ev_str_row {T T2 e : TypeId} [hT : Sli P T e] [he : Ity P e .u8] [h2 : Strg P T2] {x : Operand} {b o m c : Nat} {B : Bs} {tl : List Value} {T' : TypeId} {fz : Nat × Nat} (hx : evO F x = some (.slice (some ⟨b, o, none⟩) m c)) (hm : (b, Obj.cells (cellsOf B ++ tl).toArray T' fz) ∈ L) (hk : o + m ≤ B.length) : Ev P cx n S L F (.convert T T2 x) ty (strV ((B.drop o).take m)) := fun a w hf hs op ho _ => by
  have hl : ((B.drop o).take m).length = m := by simp; omega
  have hc : ∀ (j : Nat) (hj : j < ((B.drop o).take m).length), w.cell? ((⟨b, o, none⟩ : Addr).add j) = some (.int .u8 (((B.drop o).take m)[j].toNat : Int)) := fun j hj => by
    have e : (⟨b, o, none⟩ : Addr).add j = ⟨b, o + j, none⟩ := by unfold Addr.add; split <;> simp_all
    have h3 := bytes_tat B tl (o + j) (by omega)
    rw [e, own_cell hs hm]
    simpa using h3
  have hr := run_convert_bytes_back (P := P) w T T2 e ⟨b, o, none⟩ c ((B.drop o).take m) hT.h he.h h2.h hc
  rw [hl] at hr
  simp [execOp, ho, hf.ev hx, hr, strV]
theorem ev_sub_both {T e : TypeId} [hT : Sli P T e] [hE : Sz P e 1] {x y z : Operand} {b m c i j : Nat} {kd kd2 : IntKind} (hx : evO F x = some (.slice (some ⟨b, 0, none⟩) m c)) (hy : evO F y = some (.int kd i)) (hz : evO F z = some (.int kd2 j)) (hmc : j ≤ c) (hi : i ≤ j) :
    Ev P cx n S L F (.slice T x (some y) (some z) none) ty (.slice (some ⟨b, if c = i then 0 else i, none⟩) (j - i) (c - i)) := fun a w hf hs o ho _ => by
  have hr := run_slice (P := P) hT.h hE.size (some ⟨b, 0, none⟩) m c i j (some (.int kd i)) (some (.int kd2 j)) (.inr ⟨kd, rfl⟩) (.inr ⟨kd2, rfl⟩) hmc hi w
  have e1 : (⟨b, 0, none⟩ : Addr).add (i * 1) = ⟨b, i, none⟩ := by unfold Addr.add; split <;> simp_all
  simp [execOp, ho, hf.ev hx, hf.ev hy, hf.ev hz, Instr.sliceAt, run_underlying hT.h, hr]
  split
  · rfl
  · simpa using e1
end
end Go.X
namespace Go.X
open Go Go.RowKit
structure Sv where
  a : Option Addr
  m : Nat
  c : Nat
instance : Inhabited Sv := ⟨⟨none, 0, 0⟩⟩
instance : Cl Sv := ⟨1, fun x => [.slice x.a x.m x.c], fun _ => rfl, fun _ u hu => by simp at hu; subst hu; rfl⟩
theorem rdb_slice {β : Type} [Cl β] [Inhabited β] {P : Program} {t e : TypeId} {ok : SH → β → Prop} (ht : P.underlying t = some (.slice e)) (hc : P.cellsOf e = Cl.size β) (hr : Rdb P e ok) :
    Rdb (α := Sv) P t (fun S x => ∃ l : List β, x.m = l.length ∧ l.length ≤ x.c ∧ At S x.a l ∧ ∀ y ∈ l, ok S y) := fun H enc w fuel cs x h => by
  have h0 := h
  rcases Deep.open_slice ht h0 with ⟨h1, _⟩ | ⟨a, len, cap, m, k, D, Pl, h1, _⟩
  · subst h1
    exact ⟨⟨none, 0, 0⟩, rfl, [], rfl, Nat.le_refl _, At.nil _ _, by simp⟩
  · subst h1
    obtain ⟨l, h2, h3, h4, h5⟩ := open_sl (v := .slice (some a) len cap) (A := some a) (n := len) (c := cap) ht hc hr rfl ⟨fuel, h⟩
    exact ⟨⟨some a, len, cap⟩, rfl, l, h2, h3, h4, h5⟩
theorem open_slm {α : Type} [Cl α] [Inhabited α] {P : Program} {t e : TypeId} {ok : SH → α → Prop} (ht : P.underlying t = some (.slice e)) (hc : P.cellsOf e = Cl.size α) (hr : Rdb P e ok) {H : Type} {enc : TypeId × Value → H} {w : World} {v : Value} {d : DataW H} {ps : List MemPlace} {A : Option Addr} {n c : Nat} (hv : v = .slice A n c)
    (h : DataW.Trod enc P w 0 (fun _ => true) true t v d ps) : ∃ l : List α, n = l.length ∧ l.length ≤ c ∧ c ≤ maxLen ∧ At (allOf w) A l ∧ (∀ x ∈ l, ok (allOf w) x) := by
  obtain ⟨l, h1, h2, h3, h4⟩ := open_sl ht hc hr hv h
  refine ⟨l, h1, h2, ?_, h3, h4⟩
  subst hv
  obtain ⟨fuel, hf⟩ := h
  rcases Deep.open_slice ht hf with ⟨g1, _⟩ | ⟨a, len, cap, m, k, D, Pl, g1, _, hl, hm, _⟩
  · simp only [Value.cells] at g1
    injection g1 with g1
    injection g1 with e1 e2 e3
    subst e3; exact Nat.zero_le _
  · simp only [Value.cells] at g1
    injection g1 with g1
    injection g1 with e1 e2 e3
    subst e3; exact hm
end Go.X
namespace Go.X
open Go Go.RowKit
theorem Wh.perm {P : Program} {cx : Cx} {n : Nat} {S S0 : SH} {L L' : Blocks} {F : Slots} {ops : Array Oper} {Q : Exit → Act → World → Prop} {fuel : Nat} {listed : Array Bool} (hp : L.Perm L') (k : Wh P cx n S0 [] ops Q fuel listed S L' F) : Wh P cx n S0 [] ops Q fuel listed S L F := fun h1 h2 _ a w hf hs => k h1 h2 (List.nil_sublist _) a w hf (hs.perm hp)
end Go.X
namespace Go.X
open Go Go.RowKit
/-- What an int64 holds. -/
def w64 (x : Int) : Int := IntKind.i64.wrap x
theorem w64_spec (x : Int) : (∃ q : Int, w64 x = x + 18446744073709551616 * q) ∧ -9223372036854775808 ≤ w64 x ∧ w64 x ≤ 9223372036854775807 := by
  have e : w64 x = if x % 18446744073709551616 ≥ 9223372036854775808 then x % 18446744073709551616 - 18446744073709551616 else x % 18446744073709551616 := by
    simp [w64, IntKind.wrap, IntKind.signed, IntKind.bits]
  have h0 := Int.emod_nonneg x (show (18446744073709551616 : Int) ≠ 0 by omega)
  have h1 := Int.emod_lt_of_pos x (show (0 : Int) < 18446744073709551616 by omega)
  have h2 := Int.mul_ediv_add_emod x 18446744073709551616
  rw [e]
  split
  · exact ⟨⟨-(x / 18446744073709551616) - 1, by omega⟩, by omega, by omega⟩
  · exact ⟨⟨-(x / 18446744073709551616), by omega⟩, by omega, by omega⟩
theorem w64_in {x : Int} (h : -9223372036854775808 ≤ x ∧ x ≤ 9223372036854775807) : w64 x = x := by
  obtain ⟨⟨q, h1⟩, h2, h3⟩ := w64_spec x; omega
theorem w64_of {x y q : Int} (h : y = x + 18446744073709551616 * q) : w64 y = w64 x := by
  obtain ⟨⟨q1, h1⟩, h2, h3⟩ := w64_spec x
  obtain ⟨⟨q2, h4⟩, h5, h6⟩ := w64_spec y
  omega
theorem w64_add_l (x y : Int) : w64 (w64 x + y) = w64 (x + y) := by
  obtain ⟨⟨q1, h1⟩, _⟩ := w64_spec x
  exact w64_of (q := q1) (by omega)
theorem w64_add_r (x y : Int) : w64 (x + w64 y) = w64 (x + y) := by
  obtain ⟨⟨q1, h1⟩, _⟩ := w64_spec y
  exact w64_of (q := q1) (by omega)
theorem w64_sub_l (x y : Int) : w64 (w64 x - y) = w64 (x - y) := by
  obtain ⟨⟨q1, h1⟩, _⟩ := w64_spec x
  exact w64_of (q := q1) (by omega)
section
variable {P : Program} {i j : Int}
theorem bv_addw : BinV P .add .i64 i j (.int .i64 (w64 (i + j))) := fun T w => by simp [binOp, Op.intArith, w64]
theorem bv_subw : BinV P .sub .i64 i j (.int .i64 (w64 (i - j))) := fun T w => by simp [binOp, Op.intArith, w64]
theorem bv_mulw : BinV P .mul .i64 i j (.int .i64 (w64 (i * j))) := fun T w => by simp [binOp, Op.intArith, w64]
theorem bv_shl1 {n : Nat} (h : n ≤ 62) : BinV P .shl .i64 1 (n : Int) (.int .i64 ((2 ^ n : Nat) : Int)) := fun T w => by
  have h1 : (2 : Nat) ^ n ≤ 2 ^ 62 := Nat.pow_le_pow_right (by decide) h
  have h2 : min n 64 = n := Nat.min_eq_left (by omega)
  have h3 : w64 ((2 ^ n : Nat) : Int) = ((2 ^ n : Nat) : Int) := w64_in (by have : (2 : Nat) ^ 62 = 4611686018427387904 := rfl; have h6 : (0 : Int) ≤ ((2 ^ n : Nat) : Int) := Int.natCast_nonneg _; omega)
  have h4 : IntKind.i64.bits = 64 := rfl
  have h5 : ((1 : Int) * 2 ^ n) = ((2 ^ n : Nat) : Int) := by simp
  simp only [binOp, Op.shift, Int.toNat_natCast, h4, h2]
  rw [if_neg (by omega), h5, show IntKind.i64.wrap ((2 ^ n : Nat) : Int) = _ from h3]
  rfl
end
section
variable {P : Program} {cx : Cx} {n : Nat} {S : SH} {L : Blocks} {F : Slots} {ty : TypeId}
theorem ev_conv_u64 {T T2 : TypeId} [h1 : Ity P T .i64] [h2 : Ity P T2 .u64] {x : Operand} {m : Nat} (hx : evO F x = some (.int .i64 m)) (hm : m ≤ 9223372036854775807) : Ev P cx n S L F (.convert T T2 x) ty (.int .u64 m) := fun a w hf _ o ho _ => by
  have hw : IntKind.u64.wrap (m : Int) = (m : Int) := by
    simp [IntKind.wrap, IntKind.bits, IntKind.signed]; omega
  simp [execOp, ho, hf.ev hx, convert, run_underlying h1.h, run_underlying h2.h, Conv.intToInt, hw]
/-- arr[:], an array of the call's own, one cell an element. -/
theorem ev_slice_arr {A e : TypeId} {N : Nat} [hA : Arr P A N e] {sz : Nat} [hE : Sz P e sz] {x : Operand} {b : Nat} (hx : evO F x = some (.pointer (some ⟨b, 0, none⟩))) : Ev P cx n S L F (.slice A x none none none) ty (.slice (some ⟨b, 0, none⟩) N N) := fun a w hf _ o ho _ => by
  have e1 : (⟨b, 0, none⟩ : Addr).add 0 = ⟨b, 0, none⟩ := by unfold Addr.add; split <;> simp_all
  simp [execOp, ho, hf.ev hx, Instr.sliceAt, Instr.sureAddr, run_underlying hA.h, Instr.sliceBounds, run_sizeOf hE.size, e1]
end
/-- A call that turns nothing, as a contract. -/
theorem con_of_calls {P : Program} {f : FuncId} {vs : Array Value} {S : SH} {v : Value} (h : ∀ w, Calls P f vs w fun e w' => e = .returned v ∧ w' = w) : Con P f vs S [] (Pure S v) := fun w hw =>
  (h w).mono fun _ _ ⟨he, hw'⟩ => ⟨v, S, [], he, ⟨rfl, rfl, rfl⟩, hw' ▸ hw⟩
end Go.X
namespace Go.X
open Go Go.RowKit
section
variable {P : Program} {cx : Cx} {n : Nat} {S : SH} {L : Blocks} {F : Slots} {ty : TypeId}
theorem ev_conv_u8 {T T2 : TypeId} {kd : IntKind} [h1 : Ity P T kd] [h2 : Ity P T2 .u8] {x : Operand} {i : Int} {c : UInt8} (hx : evO F x = some (.int kd i)) (hc : i = (c.toNat : Int)) : Ev P cx n S L F (.convert T T2 x) ty (.int .u8 (c.toNat : Int)) := fun a w hf _ o ho _ => by
  have hlt := c.toNat_lt
  have hw : IntKind.u8.wrap i = (c.toNat : Int) := by
    rw [hc]
    simp [IntKind.wrap, IntKind.bits, IntKind.signed]
    omega
  simp [execOp, ho, hf.ev hx, convert, run_underlying h1.h, run_underlying h2.h, Conv.intToInt, hw]
end
end Go.X
namespace Go.X
open Go Go.RowKit
section
variable {P : Program} {m n : Nat}
theorem wrap_u64 (x : Int) : IntKind.u64.wrap x = x % 18446744073709551616 := by simp [IntKind.wrap, IntKind.bits, IntKind.signed]
theorem wrap_u64_in {x : Int} (h : 0 ≤ x ∧ x < 18446744073709551616) : IntKind.u64.wrap x = x := by rw [wrap_u64]; omega
theorem wrap_u8 (x : Int) : IntKind.u8.wrap x = x % 256 := by simp [IntKind.wrap, IntKind.bits, IntKind.signed]
theorem ofInt_nat (b m : Nat) : BitVec.ofInt b (m : Int) = BitVec.ofNat b m := BitVec.ofInt_natCast b m
theorem bv_and64 (hm : m < 18446744073709551616) (hn : n < 18446744073709551616) : BinV P .and .u64 (m : Int) (n : Int) (.int .u64 ((m &&& n : Nat) : Int)) := fun T w => by
  have h1 : m &&& n ≤ m := Nat.and_le_left
  have h0 : (BitVec.ofInt 64 (m : Int) &&& BitVec.ofInt 64 (n : Int)).toNat = m &&& n := by
    rw [ofInt_nat, ofInt_nat, BitVec.toNat_and, BitVec.toNat_ofNat, BitVec.toNat_ofNat, Nat.mod_eq_of_lt hm, Nat.mod_eq_of_lt hn]
  have h : (BitVec.ofInt IntKind.u64.bits (m : Int) &&& BitVec.ofInt IntKind.u64.bits (n : Int)).toNat = (m &&& n) := h0
  simp only [binOp, Op.intBits, h, ne_eq, not_true_eq_false, if_false]
  rw [wrap_u64_in (by omega)]
  rfl
theorem bv_or64 (hm : m < 18446744073709551616) (hn : n < 18446744073709551616) : BinV P .or .u64 (m : Int) (n : Int) (.int .u64 ((m ||| n : Nat) : Int)) := fun T w => by
  have h1 : m ||| n < 2 ^ 64 := Nat.or_lt_two_pow (by simpa using hm) (by simpa using hn)
  have h0 : (BitVec.ofInt 64 (m : Int) ||| BitVec.ofInt 64 (n : Int)).toNat = m ||| n := by
    rw [ofInt_nat, ofInt_nat, BitVec.toNat_or, BitVec.toNat_ofNat, BitVec.toNat_ofNat, Nat.mod_eq_of_lt hm, Nat.mod_eq_of_lt hn]
  have h : (BitVec.ofInt IntKind.u64.bits (m : Int) ||| BitVec.ofInt IntKind.u64.bits (n : Int)).toNat = (m ||| n) := h0
  simp only [binOp, Op.intBits, h, ne_eq, not_true_eq_false, if_false]
  rw [wrap_u64_in (by omega)]
  rfl
theorem bv_xor64 (hm : m < 18446744073709551616) (hn : n < 18446744073709551616) : BinV P .xor .u64 (m : Int) (n : Int) (.int .u64 ((m ^^^ n : Nat) : Int)) := fun T w => by
  have h1 : m ^^^ n < 2 ^ 64 := Nat.xor_lt_two_pow (by simpa using hm) (by simpa using hn)
  have h0 : (BitVec.ofInt 64 (m : Int) ^^^ BitVec.ofInt 64 (n : Int)).toNat = m ^^^ n := by
    rw [ofInt_nat, ofInt_nat, BitVec.toNat_xor, BitVec.toNat_ofNat, BitVec.toNat_ofNat, Nat.mod_eq_of_lt hm, Nat.mod_eq_of_lt hn]
  have h : (BitVec.ofInt IntKind.u64.bits (m : Int) ^^^ BitVec.ofInt IntKind.u64.bits (n : Int)).toNat = (m ^^^ n) := h0
  simp only [binOp, Op.intBits, h, ne_eq, not_true_eq_false, if_false]
  rw [wrap_u64_in (by omega)]
  rfl
theorem bv_or8 (hm : m < 256) (hn : n < 256) : BinV P .or .u8 (m : Int) (n : Int) (.int .u8 ((m ||| n : Nat) : Int)) := fun T w => by
  have h1 : m ||| n < 2 ^ 8 := Nat.or_lt_two_pow (by simpa using hm) (by simpa using hn)
  have h0 : (BitVec.ofInt 8 (m : Int) ||| BitVec.ofInt 8 (n : Int)).toNat = m ||| n := by
    rw [ofInt_nat, ofInt_nat, BitVec.toNat_or, BitVec.toNat_ofNat, BitVec.toNat_ofNat, Nat.mod_eq_of_lt hm, Nat.mod_eq_of_lt hn]
  have h : (BitVec.ofInt IntKind.u8.bits (m : Int) ||| BitVec.ofInt IntKind.u8.bits (n : Int)).toNat = (m ||| n) := h0
  simp only [binOp, Op.intBits, h, ne_eq, not_true_eq_false, if_false]
  rw [wrap_u8, Int.emod_eq_of_lt (by omega) (by omega)]
  rfl
theorem bv_and8 (hm : m < 256) (hn : n < 256) : BinV P .and .u8 (m : Int) (n : Int) (.int .u8 ((m &&& n : Nat) : Int)) := fun T w => by
  have h1 : m &&& n ≤ m := Nat.and_le_left
  have h0 : (BitVec.ofInt 8 (m : Int) &&& BitVec.ofInt 8 (n : Int)).toNat = m &&& n := by
    rw [ofInt_nat, ofInt_nat, BitVec.toNat_and, BitVec.toNat_ofNat, BitVec.toNat_ofNat, Nat.mod_eq_of_lt hm, Nat.mod_eq_of_lt hn]
  have h : (BitVec.ofInt IntKind.u8.bits (m : Int) &&& BitVec.ofInt IntKind.u8.bits (n : Int)).toNat = (m &&& n) := h0
  simp only [binOp, Op.intBits, h, ne_eq, not_true_eq_false, if_false]
  rw [wrap_u8, Int.emod_eq_of_lt (by omega) (by omega)]
  rfl
theorem bv_addu64 (h : m + n < 18446744073709551616) : BinV P .add .u64 (m : Int) (n : Int) (.int .u64 ((m + n : Nat) : Int)) := fun T w => by
  simp only [binOp, Op.intArith, ne_eq, not_true_eq_false, if_false]; rw [wrap_u64_in (by omega)]; simp
theorem bv_mulu64 (h : m * n < 18446744073709551616) : BinV P .mul .u64 (m : Int) (n : Int) (.int .u64 ((m * n : Nat) : Int)) := fun T w => by
  simp only [binOp, Op.intArith, ne_eq, not_true_eq_false, if_false]; rw [wrap_u64_in ⟨Int.mul_nonneg (Int.natCast_nonneg _) (Int.natCast_nonneg _), by rw [← Int.natCast_mul]; omega⟩]; simp
theorem bv_subu64 (h : n ≤ m) (hm : m < 18446744073709551616) : BinV P .sub .u64 (m : Int) (n : Int) (.int .u64 ((m - n : Nat) : Int)) := fun T w => by
  simp only [binOp, Op.intArith, ne_eq, not_true_eq_false, if_false]; rw [wrap_u64_in (by omega), show (m : Int) - n = ((m - n : Nat) : Int) by omega]; simp
theorem bv_quo64 {k : IntKind} (h : 0 < n) (hw : k.wrap ((m / n : Nat) : Int) = ((m / n : Nat) : Int)) : BinV P .quo k (m : Int) (n : Int) (.int k ((m / n : Nat) : Int)) := fun T w => by
  have h1 : (m : Int).tdiv n = ((m / n : Nat) : Int) := by rw [Int.tdiv_eq_ediv_of_nonneg (by omega)]; simp
  simp only [binOp, Op.intDiv, ne_eq, not_true_eq_false, if_false]
  rw [if_neg (by omega), h1, hw]
  rfl
theorem bv_rem64 {k : IntKind} (h : 0 < n) : BinV P .rem k (m : Int) (n : Int) (.int k ((m % n : Nat) : Int)) := fun T w => by
  have h1 : (m : Int).tmod n = ((m % n : Nat) : Int) := by rw [Int.tmod_eq_emod_of_nonneg (by omega)]; simp
  simp only [binOp, Op.intDiv, ne_eq, not_true_eq_false, if_false]
  rw [if_neg (by omega), h1]
  rfl
/-- x ^ 0 and x ^ -1. -/
theorem bv_xor_0 {i : Int} (h : 0 ≤ i ∧ i ≤ 9223372036854775807) : BinV P .xor .i64 i 0 (.int .i64 i) := fun T w => by
  obtain ⟨m, rfl⟩ : ∃ m : Nat, i = m := ⟨i.toNat, by omega⟩
  have h0 : (BitVec.ofInt 64 (m : Int) ^^^ BitVec.ofInt 64 0).toNat = m := by
    rw [ofInt_nat, show BitVec.ofInt 64 0 = 0#64 from rfl, BitVec.xor_zero, BitVec.toNat_ofNat, Nat.mod_eq_of_lt (by omega)]
  have h : (BitVec.ofInt IntKind.i64.bits (m : Int) ^^^ BitVec.ofInt IntKind.i64.bits 0).toNat = m := h0
  simp only [binOp, Op.intBits, h, ne_eq, not_true_eq_false, if_false]
  rw [show IntKind.i64.wrap (m : Int) = (m : Int) from w64_in (by omega)]
  rfl
theorem bv_xor_m1 {i : Int} (h : 0 ≤ i ∧ i ≤ 9223372036854775807) : BinV P .xor .i64 i (-1) (.int .i64 (-1 - i)) := fun T w => by
  obtain ⟨m, rfl⟩ : ∃ m : Nat, i = m := ⟨i.toNat, by omega⟩
  have h0 : (BitVec.ofInt 64 (m : Int) ^^^ BitVec.ofInt 64 (-1)).toNat = 18446744073709551615 - m := by
    rw [ofInt_nat, show BitVec.ofInt 64 (-1) = BitVec.allOnes 64 from by decide, BitVec.xor_allOnes, BitVec.toNat_not, BitVec.toNat_ofNat, Nat.mod_eq_of_lt (by omega)]
  have h : (BitVec.ofInt IntKind.i64.bits (m : Int) ^^^ BitVec.ofInt IntKind.i64.bits (-1)).toNat = (18446744073709551615 - m) := h0
  simp only [binOp, Op.intBits, h, ne_eq, not_true_eq_false, if_false]
  rw [show IntKind.i64.wrap ((18446744073709551615 - m : Nat) : Int) = -1 - (m : Int) from ?_]
  · rfl
  · have h3 := w64_of (x := -1 - (m : Int)) (y := ((18446744073709551615 - m : Nat) : Int)) (q := 1) (by omega)
    have h4 := w64_in (x := -1 - (m : Int)) (by omega)
    exact h3.trans h4
theorem xor_ones (h : m ≤ 18446744073709551615) : m ^^^ 18446744073709551615 = 18446744073709551615 - m := by
  have e : (BitVec.ofNat 64 m ^^^ BitVec.allOnes 64).toNat = 18446744073709551615 - m := by
    rw [BitVec.xor_allOnes, BitVec.toNat_not, BitVec.toNat_ofNat, Nat.mod_eq_of_lt (by omega)]
  rw [BitVec.toNat_xor, BitVec.toNat_ofNat, Nat.mod_eq_of_lt (by omega)] at e
  exact e
end
section
variable {P : Program} {cx : Cx} {n : Nat} {S : SH} {L : Blocks} {F : Slots} {ty : TypeId}
theorem ev_bin2 {op : BinOp} {T T' : TypeId} {x y : Operand} {k k2 : IntKind} {i j : Int} {v : Value} (hx : evO F x = some (.int k i)) (hy : evO F y = some (.int k2 j)) (hv : ∀ w, (binOp op T (.int k i) (.int k2 j)).run P w = .ok v w) :
    Ev P cx n S L F (.binOp op T x y T') ty v := fun a w hf _ o ho _ => by
  simp only [execOp, ho, hf.ev hx, hf.ev hy, eqGuard]
  simp [hv]
/-- x << c, where nothing falls out. -/
theorem ev_shl64 {T T' : TypeId} {x y : Operand} {k2 : IntKind} {m c : Nat} (hx : evO F x = some (.int .u64 m)) (hy : evO F y = some (.int k2 c)) (hc : c ≤ 64) (h : m * 2 ^ c < 18446744073709551616) : Ev P cx n S L F (.binOp .shl T x y T') ty (.int .u64 ((m * 2 ^ c : Nat) : Int)) := ev_bin2 hx hy fun w => by
  have e : IntKind.u64.bits = 64 := rfl
  have h5 : ((m : Int) * 2 ^ c) = ((m * 2 ^ c : Nat) : Int) := by simp
  simp only [binOp, Op.shift, Int.toNat_natCast, e, Nat.min_eq_left hc]
  rw [if_neg (by omega), h5, wrap_u64_in (by omega)]
  rfl
theorem ev_shlw {T T' : TypeId} {x y : Operand} {k2 : IntKind} {m c r : Nat} (hx : evO F x = some (.int .u64 m)) (hy : evO F y = some (.int k2 c)) (hc : c ≤ 64) (hr : (m * 2 ^ c) % 18446744073709551616 = r) : Ev P cx n S L F (.binOp .shl T x y T') ty (.int .u64 (r : Int)) := ev_bin2 hx hy fun w => by
  have e : IntKind.u64.bits = 64 := rfl
  have h5 : ((m : Int) * 2 ^ c) = ((m * 2 ^ c : Nat) : Int) := by simp
  simp only [binOp, Op.shift, Int.toNat_natCast, e, Nat.min_eq_left hc]
  rw [if_neg (by omega), h5, wrap_u64, show ((m * 2 ^ c : Nat) : Int) % 18446744073709551616 = (r : Int) by omega]
  rfl
theorem ev_shr {T T' : TypeId} {x y : Operand} {k k2 : IntKind} {i r : Int} {c : Nat} (hx : evO F x = some (.int k i)) (hy : evO F y = some (.int k2 c)) (hc : c ≤ k.bits) (hr : i / 2 ^ c = r) : Ev P cx n S L F (.binOp .shr T x y T') ty (.int k r) := ev_bin2 hx hy fun w => by
  have h5 : i.fdiv (2 ^ c) = r := by rw [← hr, Int.fdiv_eq_ediv_of_nonneg _ (Int.le_of_lt (Int.pow_pos (by decide)))]
  simp only [binOp, Op.shift, Int.toNat_natCast, Nat.min_eq_left hc]
  rw [if_neg (by omega), h5]
  rfl
theorem ev_convw {T T2 : TypeId} {k k2 : IntKind} [h1 : Ity P T k] [h2 : Ity P T2 k2] {x : Operand} {i j : Int} (hx : evO F x = some (.int k i)) (hw : k2.wrap i = j) : Ev P cx n S L F (.convert T T2 x) ty (.int k2 j) := fun a w hf _ o ho _ => by
  simp [execOp, ho, hf.ev hx, convert, run_underlying h1.h, run_underlying h2.h, Conv.intToInt, hw]
theorem ev_neq_bs' {T T' : TypeId} {x y : Operand} {a b : Bs} {r : Bool} (hx : evO F x = some (strV a)) (hy : evO F y = some (strV b)) (h : (a != b) = r) : Ev P cx n S L F (.binOp .neq T x y T') ty (.bool r) := h ▸ ev_neq_bs hx hy
theorem ev_eql_bs' {T T' : TypeId} {x y : Operand} {a b : Bs} {r : Bool} (hx : evO F x = some (strV a)) (hy : evO F y = some (strV b)) (h : (a == b) = r) : Ev P cx n S L F (.binOp .eql T x y T') ty (.bool r) := h ▸ ev_eql_bs hx hy
end
end Go.X
namespace Go.X
/-- The groups of a number. -/
def enc (z : Nat) : Bs := if z < 128 then [UInt8.ofNat z] else UInt8.ofNat (z % 128 + 128) :: enc (z / 128)
termination_by z
decreasing_by omega
theorem enc_lt {z : Nat} (h : z < 128) : enc z = [UInt8.ofNat z] := by rw [enc, if_pos h]
theorem enc_ge {z : Nat} (h : 128 ≤ z) : enc z = UInt8.ofNat (z % 128 + 128) :: enc (z / 128) := by rw [enc, if_neg (by omega)]
theorem u8_nat {m : Nat} (h : m < 256) : (UInt8.ofNat m).toNat = m := by simp [Nat.mod_eq_of_lt h]
theorem enc_pos (z : Nat) : 0 < (enc z).length := by
  rw [enc]; split <;> simp
theorem enc_len : ∀ (k z : Nat), z < 128 ^ (k + 1) → (enc z).length ≤ k + 1
  | 0, z, h => by rw [enc_lt (by simpa using h)]; simp
  | k + 1, z, h => by
    rw [enc]
    split
    · simp
    · rw [List.length_cons]
      have := enc_len k (z / 128) (by rw [Nat.pow_succ] at h; omega)
      omega
def zig (n : Int) : Nat := if n < 0 then (-2 * n - 1).toNat else (2 * n).toNat
def unzig (z : Nat) : Int := if z % 2 = 1 then -((z / 2 : Nat) : Int) - 1 else ((z / 2 : Nat) : Int)
theorem unzig_zig (n : Int) : unzig (zig n) = n := by unfold unzig zig; split <;> split <;> omega
theorem zig_unzig (z : Nat) : zig (unzig z) = z := by unfold unzig zig; split <;> split <;> omega
def wOk (n : Int) : Prop := -4611686018427387903 ≤ n ∧ n ≤ 4611686018427387903
instance (n : Int) : Decidable (wOk n) := inferInstanceAs (Decidable (_ ∧ _))
theorem zig_bd {n : Int} (h : wOk n) : zig n < 9223372036854775808 := by unfold zig wOk at *; split <;> omega
/-- The encoding of an integer. -/
def ibs (n : Int) : Bs := enc (zig n)
/-- The number that groups stand for. -/
def val : Bs → Nat
  | [] => 0
  | b :: l => b.toNat % 128 + 128 * val l
theorem val_lt : ∀ l : Bs, val l < 128 ^ l.length
  | [] => by simp [val]
  | b :: l => by
    have := val_lt l
    rw [val, List.length_cons, Nat.pow_succ]
    omega
theorem val_enc (z : Nat) : val (enc z) = z := by
  rw [enc]
  split
  · rename_i h; rw [val, val, u8_nat (by omega)]; omega
  · rw [val, val_enc (z / 128), u8_nat (by omega)]; omega
termination_by z
decreasing_by omega
theorem val_snoc : ∀ (l : Bs) (b : UInt8), val (l ++ [b]) = val l + b.toNat % 128 * 128 ^ l.length
  | [], b => by simp [val]
  | a :: l, b => by
    have := val_snoc l b
    have e : b.toNat % 128 * 128 ^ (a :: l).length = 128 * (b.toNat % 128 * 128 ^ l.length) := by
      rw [List.length_cons, Nat.pow_succ, ← Nat.mul_assoc, Nat.mul_comm]
    rw [List.cons_append, val, val, this, e, Nat.mul_add]
    omega
/-- How many bytes the first group that ends takes, of at most so many. -/
def grp : Nat → Bs → Option Nat
  | 0, _ => none
  | _ + 1, [] => none
  | f + 1, b :: l => if 128 ≤ b.toNat then (grp f l).map (· + 1) else some 1
/-- Bytes as enc makes them: all but the last one with the high bit, the last one without it, and not zero unless it is alone. -/
theorem enc_val : ∀ (l : Bs) (b : UInt8), (∀ c ∈ l, 128 ≤ c.toNat) → b.toNat < 128 → (enc (val (l ++ [b])) = l ++ [b] ↔ (l = [] ∨ b.toNat ≠ 0))
  | [], b, _, hb => by
    simp only [List.nil_append, val, true_or, iff_true]
    rw [enc_lt (by omega)]
    congr 1
    rw [show b.toNat % 128 + 128 * 0 = b.toNat by omega]
    exact UInt8.ofNat_toNat
  | a :: l, b, hl, hb => by
    have ih := enc_val l b (fun c hc => hl c (List.mem_cons_of_mem _ hc)) hb
    have ha := hl a List.mem_cons_self
    have ha2 : a.toNat < 256 := a.toNat_lt
    rw [List.cons_append, val]
    by_cases hz : val (l ++ [b]) = 0
    · rw [hz, enc_lt (by omega)]
      have hb0 : b.toNat = 0 := by
        rw [val_snoc] at hz
        have : 0 < 128 ^ l.length := Nat.pow_pos (by decide)
        rcases Nat.eq_zero_or_pos (b.toNat % 128) with h | h
        · omega
        · have := Nat.mul_pos h this; omega
      constructor
      · intro h
        have := congrArg List.length h
        simp at this
      · rintro (h | h)
        · cases h
        · exact absurd hb0 h
    · rw [enc_ge (by omega), show (a.toNat % 128 + 128 * val (l ++ [b])) % 128 + 128 = a.toNat by omega, show (a.toNat % 128 + 128 * val (l ++ [b])) / 128 = val (l ++ [b]) by omega, UInt8.ofNat_toNat, List.cons.injEq]
      rw [eq_self_iff_true, true_and, ih]
      constructor
      · rintro (rfl | h)
        · refine .inr fun h0 => hz ?_
          simp [val, h0]
        · exact .inr h
      · rintro (h | h)
        · cases h
        · exact .inr h
theorem enc_high : ∀ z : Nat, ∃ l b, enc z = l ++ [b] ∧ (∀ c ∈ l, 128 ≤ c.toNat) ∧ b.toNat < 128
  | z => by
    by_cases h : z < 128
    · exact ⟨[], UInt8.ofNat z, by rw [enc_lt h]; rfl, fun c hc => absurd hc List.not_mem_nil, by rw [u8_nat (by omega)]; exact h⟩
    · obtain ⟨l, b, e, h1, h2⟩ := enc_high (z / 128)
      refine ⟨UInt8.ofNat (z % 128 + 128) :: l, b, by rw [enc_ge (by omega), e]; rfl, fun c hc => ?_, h2⟩
      rcases List.mem_cons.1 hc with rfl | hc
      · rw [u8_nat (by omega)]; omega
      · exact h1 c hc
termination_by z => z
decreasing_by omega
theorem grp_app : ∀ (l : Bs) (b : UInt8) (t : Bs) (f : Nat), (∀ c ∈ l, 128 ≤ c.toNat) → b.toNat < 128 → grp f (l ++ b :: t) = if l.length < f then some (l.length + 1) else none
  | [], b, t, 0, _, _ => by simp [grp]
  | [], b, t, f + 1, _, hb => by simp [grp, Nat.not_le.2 hb]
  | a :: l, b, t, 0, _, _ => by simp [grp]
  | a :: l, b, t, f + 1, h, hb => by
    have ih := grp_app l b t f (fun c hc => h c (List.mem_cons_of_mem _ hc)) hb
    rw [List.cons_append, grp, if_pos (h a List.mem_cons_self), ih, List.length_cons]
    by_cases h1 : l.length < f
    · rw [if_pos h1, if_pos (by omega)]; rfl
    · rw [if_neg h1, if_neg (by omega)]; rfl
theorem grp_high : ∀ (l : Bs) (f : Nat), (∀ c ∈ l, 128 ≤ c.toNat) → grp f l = none
  | [], f, _ => by cases f <;> rfl
  | a :: l, 0, _ => rfl
  | a :: l, f + 1, h => by rw [grp, if_pos (h a List.mem_cons_self), grp_high l f fun c hc => h c (List.mem_cons_of_mem _ hc)]; rfl
/-- What Int answers, of the bytes from an offset on: the integer and how many bytes it takes. -/
def decI (l : Bs) : Option (Int × Nat) := match grp 9 l with
  | none => none
  | some k => if enc (val (l.take k)) = l.take k ∧ wOk (unzig (val (l.take k))) then some (unzig (val (l.take k)), k) else none
theorem grp_more {l : Bs} {i : Nat} (hi : ∀ c ∈ l.take i, 128 ≤ c.toNat) (h : 9 ≤ i ∨ l.length ≤ i) : grp 9 l = none := by
  rcases h with h | h
  · have e : ∀ (f : Nat) (l : Bs), f ≤ l.length → (∀ c ∈ l.take f, 128 ≤ c.toNat) → grp f l = none := by
      intro f
      induction f with
      | zero => intro l _ _; cases l <;> rfl
      | succ f ih =>
        intro l hl hh
        cases l with
        | nil => rfl
        | cons a l =>
          rw [List.take_succ_cons] at hh
          rw [grp, if_pos (hh a List.mem_cons_self), ih l (by simpa using hl) fun c hc => hh c (List.mem_cons_of_mem _ hc)]; rfl
    rcases Nat.lt_or_ge l.length 9 with h9 | h9
    · exact grp_high l 9 fun c hc => hi c (by rw [List.take_of_length_le (by omega)]; exact hc)
    · exact e 9 l h9 fun c hc => hi c (by
        have : (l.take 9).Sublist (l.take i) := by rw [← Nat.min_eq_left h, ← List.take_take]; exact List.take_sublist _ _
        exact this.subset hc)
  · rw [List.take_of_length_le h] at hi
    exact grp_high l 9 hi
theorem decI_none {l : Bs} {i : Nat} (hi : ∀ c ∈ l.take i, 128 ≤ c.toNat) (h : 9 ≤ i ∨ l.length ≤ i) : decI l = none := by
  unfold decI
  rw [grp_more hi h]
/-- The step that ends the groups. -/
theorem decI_last {l : Bs} {i : Nat} {b : UInt8} (hi : ∀ c ∈ l.take i, 128 ≤ c.toNat) (h9 : i < 9) (hb : l[i]? = some b) (h : b.toNat < 128) (z : Nat) (hz : z = val (l.take i) + b.toNat % 128 * 128 ^ i) :
    decI l = if (i = 0 ∨ b.toNat ≠ 0) ∧ wOk (unzig z) then some (unzig z, i + 1) else none := by
  obtain ⟨hlt, he⟩ := List.getElem?_eq_some_iff.1 hb
  have hl : l = l.take i ++ b :: l.drop (i + 1) := by
    have := List.take_append_drop i l
    rw [List.drop_eq_getElem_cons hlt, he] at this
    exact this.symm
  have hlen : (l.take i).length = i := by rw [List.length_take]; omega
  have hg : grp 9 l = some (i + 1) := by
    have := grp_app (l.take i) b (l.drop (i + 1)) 9 hi h
    rw [← hl, hlen, if_pos h9] at this
    exact this
  have ht : l.take (i + 1) = l.take i ++ [b] := by rw [List.take_add_one, hb]; rfl
  have hv : val (l.take i ++ [b]) = z := by rw [val_snoc, hlen, hz]
  have hem : l.take i = [] ↔ i = 0 := by rw [← List.length_eq_zero_iff, hlen]
  have hev := enc_val (l.take i) b hi h
  rw [hem, hv] at hev
  unfold decI
  rw [hg]
  simp only [ht, hv, hev]
theorem grp_spec : ∀ (f : Nat) (l : Bs) (k : Nat), grp f l = some k → ∃ h b t, l = h ++ b :: t ∧ k = h.length + 1 ∧ h.length < f ∧ (∀ c ∈ h, 128 ≤ c.toNat) ∧ b.toNat < 128
  | 0, _, _, h => by cases h
  | _ + 1, [], _, h => by cases h
  | f + 1, b :: l, k, h => by
    rw [grp] at h
    split at h
    · rename_i hb
      cases hg : grp f l with
      | none => rw [hg] at h; cases h
      | some k' =>
        rw [hg] at h
        simp only [Option.map_some, Option.some.injEq] at h
        obtain ⟨g, c, t, rfl, hk, h1, h2, h3⟩ := grp_spec f l k' hg
        refine ⟨b :: g, c, t, rfl, by rw [List.length_cons]; omega, by rw [List.length_cons]; omega, fun d hd => ?_, h3⟩
        rcases List.mem_cons.1 hd with rfl | hd
        · exact hb
        · exact h2 d hd
    · rename_i hb
      simp only [Option.some.injEq] at h
      exact ⟨[], b, l, rfl, by simpa using h.symm, by simp, fun c hc => absurd hc List.not_mem_nil, by omega⟩
theorem ibs_len {n : Int} (h : wOk n) : (ibs n).length ≤ 9 := enc_len 8 _ (Nat.lt_of_lt_of_eq (zig_bd h) (by decide))
/-- Whole truth about decI. -/
theorem decI_iff (l : Bs) (n : Int) (k : Nat) : decI l = some (n, k) ↔ wOk n ∧ k = (ibs n).length ∧ l.take k = ibs n := by
  constructor
  · intro h
    unfold decI at h
    split at h
    · cases h
    · rename_i k' hg
      split at h
      · rename_i hc
        simp only [Option.some.injEq, Prod.mk.injEq] at h
        obtain ⟨rfl, rfl⟩ := h
        obtain ⟨g, b, t, rfl, hk, h1, h2, h3⟩ := grp_spec _ _ _ hg
        have hlen : ((g ++ b :: t).take k').length = k' := by rw [List.length_take, List.length_append, List.length_cons]; omega
        refine ⟨hc.2, ?_, ?_⟩
        · rw [ibs, zig_unzig, hc.1, hlen]
        · rw [ibs, zig_unzig, hc.1]
      · cases h
  · rintro ⟨h1, h2, h3⟩
    obtain ⟨g, b, e, g1, g2⟩ := enc_high (zig n)
    have hk : k = g.length + 1 := by rw [h2, ibs, e]; simp
    obtain ⟨t, ht⟩ : ∃ t, l = g ++ b :: t := ⟨l.drop k, by
      have h4 := List.take_append_drop k l
      rw [h3, ibs, e, List.append_assoc] at h4
      exact h4.symm⟩
    have h9 := ibs_len h1
    unfold decI
    rw [ht, grp_app g b t 9 g1 g2, if_pos (by omega)]
    simp only
    rw [← hk, ← ht, h3, ibs, val_enc, unzig_zig, if_pos ⟨rfl, h1⟩]
theorem decI_enc {n : Int} (h : wOk n) (t : Bs) : decI (ibs n ++ t) = some (n, (ibs n).length) := (decI_iff _ _ _).2 ⟨h, rfl, by simp⟩
end Go.X
namespace Go.X
open Go Go.RowKit
section
variable {α : Type} [Cl α] {P : Program} {cx : Cx} {n : Nat} {S S0 : SH} {L L0 : Blocks} {F : Slots} {ro : Option Nat} {ops : Array Oper} {Q : Exit → Act → World → Prop} {rest : List Oper} {d : Nat} {ty : TypeId} {pos : String} {af : Array Edge} {g : Option (Nat × Bool)} {fuel : Nat} {listed : Array Bool}
/-- A copy of a whole stable slice into a row of the call's own that is not shorter. -/
theorem s_copy_st {T T2 e : TypeId} [hT : Sli P T e] [hE : Sz P e 1] {x y : Operand} {g1 m c c2 m2 : Nat} {cs : List Value} {ms : List α} {A : Option Addr} {T1 : TypeId} {L' : Blocks} (hA : At S A ms) (h1 : Cl.size α = 1) (hg : want ops F g = some true) (hd : Nat.blt d n = true) (hx : evO F x = some (.slice (some ⟨g1, 0, none⟩) m c)) (hy : evO F y = some (.slice A m2 c2)) (hm2 : m2 = ms.length) (hm : ms.length ≤ m) (hcs : m ≤ cs.length)
    (hL : Upd L g1 (.cells cs.toArray T1 (0, 0)) (.cells (cellsOf ms ++ cs.drop ms.length).toArray T1 (0, 0)) L') (k : W cx n S L' ((d, .int .i64 ms.length) :: F) (wpListIn (Fr ro) 0 P ops Q rest)) :
    W cx n S L F (wpListIn (Fr ro) 0 P ops Q (⟨some d, .call ⟨.builtin .copy, #[x, y], #[T, T2]⟩, ty, pos, af, g⟩ :: rest)) :=
  s_val hg rfl hd fun a w hf hs op hop hty => by
    subst hm2
    obtain ⟨j, hj, rfl⟩ := hL.at_
    have l2 : (cellsOf ms).length = ms.length := by rw [cellsOf_length, h1]; exact Nat.mul_one _
    have e1 : lset cs 0 (cellsOf ms) = cellsOf ms ++ cs.drop ms.length := by simp [lset, l2]
    have hst := hs.setCells hj (o := 0) (vs := cellsOf ms) (by omega)
    rw [e1] at hst
    have hb := List.mem_of_getElem? hj
    cases A with
    | none =>
      have hms : ms = [] := by
        rcases Nat.eq_zero_or_pos ms.length with hz | hp
        · exact List.eq_nil_of_length_eq_zero hz
        · obtain ⟨p, hp2, _⟩ := hA hp; cases hp2
      subst hms
      refine ⟨S, _, _, w, ?_, ?_, k⟩
      · simp [execOp, hop, resolve, invoke, builtin, hf.ev hx, hf.ev hy, Builtin.copy_, run_underlying hT.h, Builtin.lenOf, run_sizeOf hE.size, Builtin.firstCells, storeCells, goInt]
      · have e2 : L.set j (g1, .cells (cellsOf ([] : List α) ++ cs.drop ([] : List α).length).toArray T1 (0, 0)) = L := by
          obtain ⟨hjl, hje⟩ := List.getElem?_eq_some_iff.1 hj
          simp only [cellsOf, List.flatMap_nil, List.nil_append, List.length_nil, List.drop_zero]
          rw [← hje]; exact List.set_getElem_self hjl
        rw [e2]; exact hs
    | some p =>
      have hsrc : ∀ i v, (cellsOf ms)[i]? = some v → w.cell? (p.add i) = some v := fun i v hi => by
        rcases Nat.eq_zero_or_pos ms.length with hz | hp
        · rw [List.eq_nil_of_length_eq_zero hz] at hi; simp [cellsOf] at hi
        · obtain ⟨p', hp2, hpts⟩ := hA hp
          cases hp2
          exact hs.cell (hpts i v hi)
      have hr := run_copy_cells (P := P) w T T2 ty e g1 0 m c p ms.length c2 (cellsOf ms) hT.h hE.size (by rw [l2]; exact (Nat.min_eq_left hm).symm)
        hsrc (fun i hi => by rw [own_cell hs hb]; simp; omega) (fun i hi => own_frozen hs hb _) (cellsOf_one _)
      rw [l2] at hr
      refine ⟨S, _, _, _, ?_, hst, k⟩
      simp [execOp, hop, resolve, invoke, builtin, hf.ev hx, hf.ev hy, hty, hr, goInt]

theorem n_callv {i : Nat} {f : FuncId} {x : Operand} {args : Array Operand} {ts : Array TypeId} {vs caps : List Value} {L1 L2 : Blocks} {R : SH → Blocks → Value → Prop} (hi : ops[i]? = some ⟨some d, .call ⟨.value x, args, ts⟩, ty, pos, af, g⟩) (i1 : Fun P f) (hg : want ops F g = some true) (hd : Nat.blt d n = true) (hx : evO F x = some (.func (.func f) #[] caps.toArray)) (ha : evArgs F args.toList = some vs) (hL : L.Perm (L1 ++ L2))
    (hc : Con P f (vs ++ caps).toArray S L1 R) (hsub : ∀ L1', L0.Sublist L → L0.Sublist (L1' ++ L2)) (k : ∀ S' L1' v, Le S S' → R S' L1' v → Wh P cx n S0 L0 ops Q fuel (listed.setIfInBounds i true) S' (L1' ++ L2) ((d, v) :: F)) : Wn P cx n S0 L0 ops Q fuel listed i S L F := by
  intro h1 h2 h3 a w hf hs0
  have hs := hs0.perm hL
  have hargs : args.map a.eval = vs.toArray := by
    apply Array.ext'; simp [← evArgs_map hf _ _ ha]
  have hrun : (execOp a.eval ⟨some d, .call ⟨.value x, args, ts⟩, ty, pos, af, g⟩).run P w = .ok (.enter f (vs ++ caps).toArray) w := by
    simp [execOp, resolve, hf.ev hx, Deferred.ofValue, invoke, i1.h, hargs]
  refine wpOp_at hi (wanted_of (o := ⟨some d, .call ⟨.value x, args, ts⟩, ty, pos, af, g⟩) hf hg) ?_
  rw [hrun, Oper.upon_enter]
  refine (hc w hs.sub).mono ?_
  rintro e w' ⟨v, S', L', rfl, hR, hs'⟩
  have hb := hs.back hs'
  exact ⟨hb.less (h1.trans hs'.le) h2 (hsub _ h3), k S' L' v hs'.le hR (h1.trans hs'.le) h2 (hsub _ h3) _ _ (hf.put v hd) hb⟩
end
/-! ### Maps whose keys are arrays of four ints -/
def keyV (k : List Int) : Value := .agg (k.map (Value.int .i64)).toArray
/-- An array of N ints (a key). -/
class Ka (P : Program) (t : TypeId) : Prop where
  ex : ∃ e, P.underlying t = some (.array 4 e) ∧ P.underlying e = some (.int .i64) ∧ (P.info? e).map (·.size) = some 1
section
variable {P : Program} {kt : TypeId}
theorem run_part_int {e : TypeId} (he : P.underlying e = some (.int .i64)) {k : List Int} {i : Nat} {x : Int} (hx : k[i]? = some x) (w : World) : (part e (k.map (Value.int .i64)).toArray (i * 1)).run P w = .ok (.int .i64 x) w := by
  have h1 : (isAgg e).run P w = .ok false w := run_isAgg he rfl
  simp [part, h1, hx]
theorem run_eqItems_ints {e : TypeId} (he : P.underlying e = some (.int .i64)) (d : Nat) (w : World) (a b : List Int) : ∀ (is : List Nat), (∀ i ∈ is, i < a.length ∧ i < b.length) →
    (Op.eqItems (d + 1) e 1 (a.map (Value.int .i64)).toArray (b.map (Value.int .i64)).toArray is).run P w = .ok (is.all fun i => a[i]? == b[i]?) w
  | [], _ => by simp [Op.eqItems]
  | i :: is, h => by
    obtain ⟨h1, h2⟩ := h i List.mem_cons_self
    have ih := run_eqItems_ints he d w a b is (fun j hj => h j (List.mem_cons_of_mem _ hj))
    have p1 := run_part_int he (List.getElem?_eq_getElem h1) w
    have p2 := run_part_int he (List.getElem?_eq_getElem h2) w
    have p3 : (Op.equalIn (d + 1) e (.int .i64 a[i]) (.int .i64 b[i])).run P w = .ok (a[i] == b[i]) w := by simp [Op.equalIn, run_underlying he]
    have p4 : (a[i]? == b[i]?) = (a[i] == b[i]) := by rw [List.getElem?_eq_getElem h1, List.getElem?_eq_getElem h2]; simp
    simp only [Op.eqItems, Sem.run_bind, p1, p2, p3, Result.andThen_ok, List.all_cons, p4]
    cases hfg : a[i] == b[i]
    · simp
    · simp [ih]
theorem keys_eq {a b : List Int} (ha : a.length = 4) (hb : b.length = 4) : ((List.range 4).all fun i => a[i]? == b[i]?) = (a == b) := by
  match a, ha with
  | [a0, a1, a2, a3], _ => match b, hb with
    | [b0, b1, b2, b3], _ => simp [List.range, List.range.loop]
theorem run_key_eq [hk : Ka P kt] {a b : List Int} (ha : a.length = 4) (hb : b.length = 4) (w : World) : (Op.equal kt (keyV a) (keyV b)).run P w = .ok (a == b) w := by
  obtain ⟨e, h1, h2, h3⟩ := hk.ex
  cases hi : P.info? e with
  | none => simp [hi] at h3
  | some i =>
    simp [hi] at h3
    have hc : P.cellsOf e = 1 := by simp [Program.cellsOf, hi, h3]
    have hr := run_equalIn_array (P := P) (w := w) 9999 (a.map (Value.int .i64)).toArray (b.map (Value.int .i64)).toArray h1 hi
    rw [hc, run_eqItems_ints h2 9998 w a b (List.range 4) (fun i hi => by have := List.mem_range.1 hi; omega), keys_eq ha hb] at hr
    exact hr
theorem run_checkKey [hk : Ka P kt] {a : List Int} (ha : a.length = 4) (em : Bool) (w : World) : (Instr.checkKey em 10000 kt (keyV a)).run P w = .ok () w := by
  obtain ⟨e, h1, h2, h3⟩ := hk.ex
  match a, ha with
  | [a0, a1, a2, a3], _ =>
    have p : ∀ i x, [a0, a1, a2, a3][i]? = some x → (part e ([a0, a1, a2, a3].map (Value.int .i64)).toArray i).run P w = .ok (.int .i64 x) w := fun i x h => by have := run_part_int h2 h w; rwa [Nat.mul_one] at this
    have q : ∀ (d : Nat) x, (Instr.checkKey em (d + 1) e (.int .i64 x)).run P w = .ok () w := fun d x => by unfold Instr.checkKey; simp [run_underlying h2]
    have p0 := p 0 a0 rfl
    have p1 := p 1 a1 rfl
    have p2 := p 2 a2 rfl
    have p3 := p 3 a3 rfl
    have key : ∀ d : Nat, (Instr.checkKey em (d + 2) kt (keyV [a0, a1, a2, a3])).run P w = .ok () w := fun d => by
      unfold Instr.checkKey
      simp [keyV, run_underlying h1, run_sizeOf h3, List.range'] at *
      simp [p0, p1, p2, p3, q, Result.andThen]
    exact key 9998
end
abbrev Ents := List (List Int × Value)
def mapE : Nat → Ents → List MapEntry
  | _, [] => []
  | b, (k, v) :: r => ⟨keyV k, v, b⟩ :: mapE (b + 1) r
/-- A map that was never thinned: its entries, in the order in which they came. -/
def mapO (ent : Ents) : Obj := .map (mapE 0 ent).toArray ent.length
def lookK (k : List Int) : Ents → Option Value
  | [] => none
  | (k', v) :: r => if k = k' then some v else lookK k r
def upsK (k : List Int) (v : Value) : Ents → Ents
  | [] => [(k, v)]
  | (k', v') :: r => if k = k' then (k, v) :: r else (k', v') :: upsK k v r
def posK (k : List Int) : Ents → Option Nat
  | [] => none
  | (k', _) :: r => if k = k' then some 0 else (posK k r).map (· + 1)
theorem mapE_length : ∀ (b : Nat) (ent : Ents), (mapE b ent).length = ent.length
  | _, [] => rfl
  | b, (k, v) :: r => by simp [mapE, mapE_length (b + 1) r]
theorem mapE_at : ∀ (b : Nat) (ent : Ents) (i : Nat), (mapE b ent)[i]? = ent[i]?.map fun p => ⟨keyV p.1, p.2, b + i⟩
  | _, [], i => by simp [mapE]
  | b, (k, v) :: r, 0 => by simp [mapE]
  | b, (k, v) :: r, i + 1 => by
    simp only [mapE, List.getElem?_cons_succ, mapE_at (b + 1) r i]
    congr 1; funext p; congr 1; omega
theorem mapE_app : ∀ (b : Nat) (ent : Ents) (k : List Int) (v : Value), mapE b (ent ++ [(k, v)]) = mapE b ent ++ [⟨keyV k, v, b + ent.length⟩]
  | _, [], k, v => by simp [mapE]
  | b, (k', v') :: r, k, v => by
    simp only [List.cons_append, mapE, mapE_app (b + 1) r k v, List.length_cons]
    rw [show b + (r.length + 1) = b + 1 + r.length by omega]
theorem lookK_pos : ∀ (k : List Int) (ent : Ents), (posK k ent = none ∧ lookK k ent = none ∧ ∀ v, upsK k v ent = ent ++ [(k, v)]) ∨ ∃ j v0, posK k ent = some j ∧ lookK k ent = some v0 ∧ ent[j]? = some (k, v0) ∧ ∀ v, upsK k v ent = ent.set j (k, v)
  | k, [] => .inl ⟨rfl, rfl, fun _ => rfl⟩
  | k, (k', v') :: r => by
    by_cases h : k = k'
    · subst h
      exact .inr ⟨0, v', by simp [posK], by simp [lookK], rfl, fun v => by simp [upsK]⟩
    · rcases lookK_pos k r with ⟨h1, h2, h3⟩ | ⟨j, v0, h1, h2, h3, h4⟩
      · exact .inl ⟨by simp [posK, h, h1], by simp [lookK, h, h2], fun v => by simp [upsK, h, h3]⟩
      · exact .inr ⟨j + 1, v0, by simp [posK, h, h1], by simp [lookK, h, h2], by simpa using h3, fun v => by simp [upsK, h, h4]⟩
theorem mapE_set : ∀ (b : Nat) (ent : Ents) (j : Nat) (k : List Int) (v v0 : Value), ent[j]? = some (k, v0) → (mapE b ent).set j ⟨keyV k, v, b + j⟩ = mapE b (ent.set j (k, v))
  | _, [], j, k, v, v0, h => by simp at h
  | b, (k', v') :: r, 0, k, v, v0, h => by simp [mapE]
  | b, (k', v') :: r, j + 1, k, v, v0, h => by
    simp only [mapE, List.set_cons_succ]
    rw [← mapE_set (b + 1) r j k v v0 (by simpa using h)]
    congr 3; omega
def Keys4 (ent : Ents) : Prop := ∀ p ∈ ent, p.1.length = 4
section
variable {P : Program} {kt : TypeId}
theorem keyV_inj {a b : List Int} (h : keyV a = keyV b) : a = b := by
  simp only [keyV, Value.agg.injEq] at h
  have h2 := congrArg Array.toList h
  simp only at h2
  exact (List.map_inj_right (fun x y hxy => by injection hxy)).1 h2
theorem run_findAsking [hk : Ka P kt] {k : List Int} (hl : k.length = 4) (w : World) : ∀ (b i : Nat) (ent : Ents), Keys4 ent →
    (Instr.findAsking kt (keyV k) (mapE b ent) i).run P w = .ok (match posK k ent with | none => none | some j => (lookK k ent).map fun v => (i + j, v)) w
  | b, i, [], _ => by simp [mapE, Instr.findAsking, posK]
  | b, i, (k', v) :: r, h => by
    have h4 : k'.length = 4 := h _ List.mem_cons_self
    have ih := run_findAsking hl w (b + 1) (i + 1) r (fun p hp => h p (List.mem_cons_of_mem _ hp))
    simp only [mapE, Instr.findAsking, Sem.run_bind, run_key_eq hl h4, Result.andThen_ok]
    by_cases hkk : k = k'
    · subst hkk; simp [posK, lookK]
    · have hb : (k == k') = false := by simpa using hkk
      simp only [hb, Bool.false_eq_true, if_false, ih, posK, lookK, if_neg hkk]
      cases hp : posK k r with
      | none => simp
      | some j => simp only [Option.map_some]; cases lookK k r <;> simp [Nat.add_assoc, Nat.add_comm 1 j]
theorem run_findKey [hk : Ka P kt] {k : List Int} (hl : k.length = 4) (w : World) (b : Nat) (ent : Ents) (h : Keys4 ent) :
    (Instr.findKey kt (keyV k) (mapE b ent)).run P w = .ok (match posK k ent with | none => none | some j => (lookK k ent).map fun v => (j, v)) w := by
  obtain ⟨e, h1, h2, h3⟩ := hk.ex
  have ha := run_findAsking (P := P) (kt := kt) hl w b 0 ent h
  simp only [Nat.zero_add] at ha
  cases ent with
  | nil => simp [Instr.findKey, run_underlying h1, mapE, Instr.findNow, posK]
  | cons p r =>
    obtain ⟨k', v⟩ := p
    simp only [Instr.findKey, Sem.run_bind, run_underlying h1, Result.andThen_ok]
    have hn : Instr.findNow (.array 4 e) (keyV k) (mapE b ((k', v) :: r)) 0 = none := by simp [mapE, Instr.findNow, Instr.sameNow]
    rw [hn]; exact ha
theorem sameBits_ints : ∀ (k : List Int) (d : Nat), Instr.sameBits (d + 2) (keyV k) (keyV k) = true := fun k d => by
  have h : ∀ l : List Value, (∀ v ∈ l, ∃ x, v = .int .i64 x) → ((l.zip l).all fun (x, y) => Instr.sameBits (d + 1) x y) = true := by
    intro l
    induction l with
    | nil => intro _; rfl
    | cons v r ih =>
      intro hv
      obtain ⟨x, rfl⟩ := hv v List.mem_cons_self
      simp only [List.zip_cons_cons, List.all_cons, ih (fun u hu => hv u (List.mem_cons_of_mem _ hu)), Bool.and_true]
      simp [Instr.sameBits]
  have h2 := h (k.map (Value.int .i64)) (fun v hv => by obtain ⟨x, _, rfl⟩ := List.mem_map.1 hv; exact ⟨x, rfl⟩)
  unfold Instr.sameBits
  simp only [keyV]
  simpa using h2
theorem run_stays (k : List Int) (w : World) : (Instr.keyThatStays (keyV k) (keyV k)).run P w = .ok (keyV k) w := by
  have h : Instr.sameBits 10000 (keyV k) (keyV k) = true := sameBits_ints k 9998
  unfold Instr.keyThatStays
  rw [h]; rfl
theorem run_mapUpdate [hk : Ka P kt] {T e : TypeId} (hT : P.underlying T = some (.map kt e)) {k : List Int} (hl : k.length = 4) {v : Value} {w : World} {b : Nat} {ent : Ents} (hE : Keys4 ent) (hb : w.heap[b]? = some (mapO ent)) :
    (Instr.mapUpdate T (.map (some b)) (keyV k) v).run P w = .ok () { w with heap := w.heap.setIfInBounds b (mapO (upsK k v ent)) } := by
  have hf := run_findKey (P := P) (kt := kt) hl w 0 ent hE
  unfold mapO at hb
  rcases lookK_pos k ent with ⟨h1, h2, h3⟩ | ⟨j, v0, h1, h2, h3, h4⟩
  · rw [h1] at hf
    have e1 : mapO (upsK k v ent) = .map ((mapE 0 ent).toArray.push ⟨keyV k, v, ent.length⟩) (ent.length + 1) := by
      rw [h3 v]; unfold mapO
      rw [mapE_app]; simp
    rw [e1]
    simp [Instr.mapUpdate, run_underlying hT, MapKept.run_getObj_map hb, run_checkKey hl, hf, Result.andThen, MapKept.run_setObj_map _ hb]
  · rw [h1, h2] at hf
    have hj : j < ent.length := (List.getElem?_eq_some_iff.1 h3).1
    have e1 : mapO (upsK k v ent) = .map ((mapE 0 ent).toArray.modify j fun x => { x with key := keyV k, val := v }) ent.length := by
      rw [h4 v]; unfold mapO
      rw [← mapE_set 0 ent j k v v0 h3, List.length_set]
      congr 1
      apply Array.ext'
      simp only [Array.toList_modify]
      refine List.ext_getElem? fun i => ?_
      rw [List.getElem?_set, List.getElem?_modify]
      have hlen := mapE_length 0 ent
      by_cases hij : j = i
      · subst hij
        have hat : (mapE 0 ent)[j]? = some ⟨keyV k, v0, 0 + j⟩ := by rw [mapE_at, h3]; rfl
        have hj2 : j < (mapE 0 ent).length := by rw [hlen]; exact hj
        rw [if_pos hj2, hat]; simp
      · simp [hij]
    have e2 : ((mapE 0 ent).toArray[j]?.map (·.key)).getD (keyV k) = keyV k := by simp [mapE_at, h3]
    rw [e1]
    simp only [Instr.mapUpdate, Sem.run_bind, run_underlying hT, Result.andThen_ok, MapKept.run_getObj_map hb, run_checkKey hl, hf, Option.map_some, e2, run_stays, MapKept.run_setObj_map _ hb]
theorem run_lookupK [hk : Ka P kt] {T e : TypeId} (hT : P.underlying T = some (.map kt e)) {z : Value} [hz : Zr P e z] {k : List Int} (hl : k.length = 4) {w : World} {b : Nat} {ent : Ents} (hE : Keys4 ent) (hb : w.heap[b]? = some (mapO ent)) :
    (Instr.lookup T (.map (some b)) (keyV k) false).run P w = .ok ((lookK k ent).getD z) w := by
  have hf := run_findKey (P := P) (kt := kt) hl w 0 ent hE
  unfold mapO at hb
  rcases lookK_pos k ent with ⟨h1, h2, h3⟩ | ⟨j, v0, h1, h2, h3, h4⟩
  · rw [h1] at hf
    simp [Instr.lookup, run_underlying hT, MapKept.run_getObj_map hb, run_checkKey hl, hf, Result.andThen, run_zeroValue hz.zero, h2]
  · rw [h1, h2] at hf
    simp [Instr.lookup, run_underlying hT, MapKept.run_getObj_map hb, run_checkKey hl, hf, Result.andThen, h2]
end
section
variable {P : Program} {cx : Cx} {n : Nat} {S S0 : SH} {L L0 : Blocks} {F : Slots} {ro : Option Nat} {ops : Array Oper} {Q : Exit → Act → World → Prop} {rest : List Oper} {d : Nat} {ty : TypeId} {pos : String} {af : Array Edge} {g : Option (Nat × Bool)} {fuel : Nat} {listed : Array Bool}
theorem ev_lookupK {T k e : TypeId} [hT : Mpt P T k e] [hK : Ka P k] {z : Value} [hz : Zr P e z] {x y : Operand} {b : Nat} {ent : Ents} {key : List Int} (hx : evO F x = some (.map (some b))) (hy : evO F y = some (keyV key)) (hm : (b, mapO ent) ∈ L) (hE : Keys4 ent) (hl : key.length = 4) :
    Ev P cx n S L F (.lookup T x y false) ty ((lookK key ent).getD z) := fun a w hf hs op hop _ => by
  have hb := hs.own _ hm
  simp [execOp, hop, hf.ev hx, hf.ev hy, run_lookupK hT.h hl hE hb]
theorem n_mapUpdate {i : Nat} {T k e : TypeId} {x y z : Operand} {b : Nat} {ent : Ents} {key : List Int} {v : Value} {L' : Blocks} (hi : ops[i]? = some ⟨none, .mapUpdate T x y z, ty, pos, af, g⟩) (i1 : Mpt P T k e) (i2 : Ka P k) (hg : want ops F g = some true) (hx : evO F x = some (.map (some b))) (hy : evO F y = some (keyV key)) (hz : evO F z = some v) (hE : Keys4 ent) (hl : key.length = 4)
    (hL : Upd L b (mapO ent) (mapO (upsK key v ent)) L') (hsub : L0.Sublist L → L0.Sublist L') (k : Wh P cx n S0 L0 ops Q fuel (listed.setIfInBounds i true) S L' F) : Wn P cx n S0 L0 ops Q fuel listed i S L F := by
  intro q1 q2 q3 a w hf hs
  obtain ⟨j, hj, rfl⟩ := hL.at_
  have hb := hs.own _ (List.mem_of_getElem? hj)
  simp only at hb
  have hlt := heap_lt hb
  have hs' : St cx S (L.set j (b, mapO (upsK key v ent))) { w with heap := w.heap.setIfInBounds b (mapO (upsK key v ent)) } := hs.set hj (by simp) rfl rfl rfl (by simp [hlt]) (fun c hc => by simp [Ne.symm hc])
  refine wpOp_at hi (wanted_of (o := ⟨none, .mapUpdate T x y z, ty, pos, af, g⟩) hf hg) ?_
  have hrun : (execOp a.eval ⟨none, .mapUpdate T x y z, ty, pos, af, g⟩).run P w = .ok .skip { w with heap := w.heap.setIfInBounds b (mapO (upsK key v ent)) } := by
    simp [execOp, hf.ev hx, hf.ev hy, hf.ev hz, run_mapUpdate i1.h hl hE hb]
  rw [hrun]
  exact ⟨hs'.less q1 q2 (hsub q3), k q1 q2 (hsub q3) _ _ hf hs'⟩
theorem s_mapUpdate {T k e : TypeId} [i1 : Mpt P T k e] [i2 : Ka P k] {x y z : Operand} {b : Nat} {ent : Ents} {key : List Int} {v : Value} {L' : Blocks} (hg : want ops F g = some true) (hx : evO F x = some (.map (some b))) (hy : evO F y = some (keyV key)) (hz : evO F z = some v) (hE : Keys4 ent) (hl : key.length = 4)
    (hL : Upd L b (mapO ent) (mapO (upsK key v ent)) L') (k : W cx n S L' F (wpListIn (Fr ro) 0 P ops Q rest)) :
    W cx n S L F (wpListIn (Fr ro) 0 P ops Q (⟨none, .mapUpdate T x y z, ty, pos, af, g⟩ :: rest)) := by
  refine s_wr (x := .skip) (S' := S) (L' := L') (fun a w hf hs => ?_) (.inl ⟨rfl, rfl⟩) hg rfl k
  obtain ⟨j, hj, rfl⟩ := hL.at_
  have hb := hs.own _ (List.mem_of_getElem? hj)
  simp only at hb
  have hlt := heap_lt hb
  refine ⟨{ w with heap := w.heap.setIfInBounds b (mapO (upsK key v ent)) }, fun op hop _ => ?_, hs.set hj (by simp) rfl rfl rfl (by simp [hlt]) (fun c hc => by simp [Ne.symm hc])⟩
  simp [execOp, hop, hf.ev hx, hf.ev hy, hf.ev hz, run_mapUpdate i1.h hl hE hb]
/-! ranges over such maps -/
def iterO (b n : Nat) (seen : List Nat) : Obj := .mapIter (some b) n seen.toArray n
theorem s_rangeK {T k e : TypeId} [hT : Mpt P T k e] {x : Operand} {b : Nat} {ent : Ents} (hg : want ops F g = some true) (hd : Nat.blt d n = true) (hx : evO F x = some (.map (some b))) (hm : (b, mapO ent) ∈ L)
    (k : ∀ r, W cx n S ((r, iterO b ent.length []) :: L) ((d, .pointer (some ⟨r, 0, none⟩)) :: F) (wpListIn (Fr ro) 0 P ops Q rest)) :
    W cx n S L F (wpListIn (Fr ro) 0 P ops Q (⟨some d, .range T x, ty, pos, af, g⟩ :: rest)) :=
  s_val hg rfl hd fun a w hf hs op hop _ => by
    have hb := hs.own _ hm
    unfold mapO at hb
    refine ⟨S, _, _, _, ?_, hs.alloc (iterO b ent.length []), k _⟩
    simp [execOp, hop, hf.ev hx, Instr.range, run_underlying hT.h, MapKept.run_getObj_map hb, iterO]
end
section
variable {P : Program}
theorem run_getObj_iter {w : World} {r : Nat} {m : Option Nat} {a c : Nat} {sn : Array Nat} (hb : w.heap[r]? = some (.mapIter m a sn c)) : (getObj r).run P w = .ok (.mapIter m a sn c) w := by simp [getObj, Sem.run, hb]
theorem run_setObj_iter {w : World} {r : Nat} {m : Option Nat} {a c : Nat} {sn : Array Nat} (o : Obj) (hb : w.heap[r]? = some (.mapIter m a sn c)) : (setObj r o).run P w = .ok () { w with heap := w.heap.setIfInBounds r o } := by simp [setObj, Sem.run, hb]
def leftE (ent : Ents) (seen : List Nat) : List MapEntry := (mapE 0 ent).filter fun e => !seen.contains e.born
theorem mapE_born {ent : Ents} {e : MapEntry} (h : e ∈ mapE 0 ent) : ∃ p, ent[e.born]? = some p ∧ e.key = keyV p.1 ∧ e.val = p.2 := by
  obtain ⟨i, hi⟩ := List.mem_iff_getElem?.1 h
  rw [mapE_at] at hi
  cases hp : ent[i]? with
  | none => rw [hp] at hi; cases hi
  | some p =>
    rw [hp] at hi
    simp only [Option.map_some, Option.some.injEq] at hi
    subst hi
    exact ⟨p, by simpa using hp, rfl, rfl⟩
theorem mapE_lt {ent : Ents} {e : MapEntry} (h : e ∈ mapE 0 ent) : e.born < ent.length := by
  obtain ⟨p, hp, _⟩ := mapE_born h
  exact (List.getElem?_eq_some_iff.1 hp).1
theorem run_next {w : World} {r b : Nat} {ent : Ents} {seen : List Nat} {ty : TypeId} (hr : w.heap[r]? = some (iterO b ent.length seen)) (hb : w.heap[b]? = some (mapO ent)) :
    (leftE ent seen = [] ∧ (Instr.next (.pointer (some ⟨r, 0, none⟩)) false ty).run P w = .ok (.tuple #[.bool false]) w) ∨
    ∃ e ∈ leftE ent seen, ∃ w1, (w1 = w ∨ w1 = w.drew) ∧ (Instr.next (.pointer (some ⟨r, 0, none⟩)) false ty).run P w = .ok (.tuple #[.bool true, e.key, e.val]) { w1 with heap := w1.heap.setIfInBounds r (iterO b ent.length (seen ++ [e.born])) } := by
  unfold iterO at hr
  unfold mapO at hb
  have hold : (leftE ent seen).filter (fun e => decide (e.born < ent.length)) = leftE ent seen := List.filter_eq_self.2 fun e he => by
    have := mapE_lt (List.mem_filter.1 he).1
    simpa using this
  have hnew : (leftE ent seen).filter (fun e => decide (e.born ≥ ent.length)) = [] := List.filter_eq_nil_iff.2 fun e he => by
    have := mapE_lt (List.mem_filter.1 he).1
    simp; omega
  have hcond : (!(seen.toArray).isEmpty && !((mapE 0 ent).toArray).isEmpty && (mapE 0 ent).toArray.all (fun e => decide (e.born ≥ ent.length))) = false := by
    cases ent with
    | nil => simp [mapE]
    | cons p t => obtain ⟨k, v⟩ := p; simp [mapE]
  have hget := run_getObj_iter (P := P) hr
  have hget2 := MapKept.run_getObj_map (P := P) hb
  have hleft : (mapE 0 ent).toArray.filter (fun e => !seen.toArray.contains e.born) = (leftE ent seen).toArray := by simp [leftE]
  have ho : (leftE ent seen).toArray.filter (fun e => decide (e.born < ent.length)) = (leftE ent seen).toArray := by simp [hold]
  have hn : (leftE ent seen).toArray.filter (fun e => decide (e.born ≥ ent.length)) = #[] := by simpa using hnew
  have hrun : (Instr.next (.pointer (some ⟨r, 0, none⟩)) false ty).run P w = ((choose (.mapNext ((if (leftE ent seen).toArray.isEmpty then #[none] else #[]) ++ (leftE ent seen).toArray.map some).size)).run P w).andThen fun i w1 =>
      (match ((if (leftE ent seen).toArray.isEmpty then #[none] else #[]) ++ (leftE ent seen).toArray.map some)[i]? with
        | some (some e) => (do setObj r (.mapIter (some b) ent.length (seen.toArray.push e.born) ent.length); pure (.tuple #[.bool true, e.key, e.val]) : Sem Value)
        | some none => pure (.tuple #[.bool false])
        | none => stuck "Next: no such candidate").run P w1 := by
    unfold Instr.next
    simp only [Sem.run_bind, hget, Result.andThen_ok, hget2, hcond, Bool.false_eq_true, if_false, hleft, ho, hn, Array.append_empty]
    rfl
  rw [hrun]
  clear hrun hget hget2 hleft ho hn hcond hold hnew hb
  cases hle : leftE ent seen with
  | nil => exact .inl ⟨rfl, by simp [Question.forced]⟩
  | cons e0 l =>
    refine .inr ?_
    have hsz : ((if (e0 :: l).toArray.isEmpty then #[none] else #[]) ++ (e0 :: l).toArray.map some) = ((e0 :: l).map some).toArray := by simp
    rw [hsz]
    have key : ∀ (i : Nat) (w1 : World), i < (e0 :: l).length → (w1 = w ∨ w1 = w.drew) → ∃ e ∈ e0 :: l, ∃ w2, (w2 = w ∨ w2 = w.drew) ∧
        (match ((e0 :: l).map some).toArray[i]? with
        | some (some e) => (do setObj r (.mapIter (some b) ent.length (seen.toArray.push e.born) ent.length); pure (.tuple #[.bool true, e.key, e.val]) : Sem Value)
        | some none => pure (.tuple #[.bool false])
        | none => stuck "Next: no such candidate").run P w1 = .ok (.tuple #[.bool true, e.key, e.val]) { w2 with heap := w2.heap.setIfInBounds r (iterO b ent.length (seen ++ [e.born])) } := by
      intro i w1 hi hw1
      have hh : w1.heap[r]? = some (.mapIter (some b) ent.length seen.toArray ent.length) := by rcases hw1 with rfl | rfl <;> exact hr
      refine ⟨(e0 :: l)[i], List.getElem_mem hi, w1, hw1, ?_⟩
      have hat : ((e0 :: l).map some).toArray[i]? = some (some (e0 :: l)[i]) := by
        rw [List.getElem?_toArray, List.getElem?_map, List.getElem?_eq_getElem hi]; rfl
      rw [hat]
      simp only [Sem.run_bind, run_setObj_iter _ hh, Result.andThen_ok, iterO]
      simp
    rw [run_choose_drew]
    split
    · exact key 0 w (by simp) (.inl rfl)
    · refine key _ w.drew ?_ (.inr rfl)
      simp only [Question.cut, List.size_toArray, List.length_map]
      exact Nat.mod_lt _ (by simp)
theorem leftE_nil {ent : Ents} {seen : List Nat} (h : leftE ent seen = []) : ∀ i, i < ent.length → i ∈ seen := fun i hi => by
  have h1 := List.filter_eq_nil_iff.1 h
  have h2 : (mapE 0 ent)[i]? = some ⟨keyV ent[i].1, ent[i].2, 0 + i⟩ := by rw [mapE_at, List.getElem?_eq_getElem hi]; rfl
  have h3 := h1 _ (List.mem_of_getElem? h2)
  simpa using h3
theorem leftE_at {ent : Ents} {seen : List Nat} {e : MapEntry} (h : e ∈ leftE ent seen) : e.born ∉ seen ∧ ∃ p, ent[e.born]? = some p ∧ e.key = keyV p.1 ∧ e.val = p.2 := by
  obtain ⟨h1, h2⟩ := List.mem_filter.1 h
  exact ⟨by simpa using h2, mapE_born h1⟩
theorem run_entry {w : World} {r b i : Nat} {ent : Ents} {seen : List Nat} {k : List Int} {v : Value} (hr : w.heap[r]? = some (iterO b ent.length (seen ++ [i]))) (hb : w.heap[b]? = some (mapO ent)) (hi : ent[i]? = some (k, v)) :
    (Instr.entry (.pointer (some ⟨r, 0, none⟩))).run P w = .ok (.tuple #[keyV k, v]) w := by
  unfold iterO at hr
  unfold mapO at hb
  have hfind : (mapE 0 ent).find? (fun e => e.born == i) = some ⟨keyV k, v, i⟩ := by
    have hil : i < (mapE 0 ent).length := by rw [mapE_length]; exact (List.getElem?_eq_some_iff.1 hi).1
    have hat : (mapE 0 ent)[i]? = some ⟨keyV k, v, i⟩ := by rw [mapE_at, hi]; simp
    rw [List.find?_eq_some_iff_getElem]
    refine ⟨by simp, i, hil, ?_, fun j hj => ?_⟩
    · rw [List.getElem?_eq_getElem hil] at hat; exact Option.some.inj hat
    · have hjl : j < (mapE 0 ent).length := by omega
      have hj2 : (mapE 0 ent)[j]? = some (mapE 0 ent)[j] := List.getElem?_eq_getElem hjl
      rw [mapE_at] at hj2
      cases hp : ent[j]? with
      | none => rw [hp] at hj2; cases hj2
      | some p =>
        rw [hp] at hj2
        simp only [Option.map_some, Option.some.injEq] at hj2
        rw [← hj2]
        simp; omega
  have hback : (seen ++ [i]).toArray.back? = some i := by simp
  simp only [Instr.entry, Sem.run_bind, run_getObj_iter hr, Result.andThen_ok, hback, MapKept.run_getObj_map hb]
  simp [hfind]
end
section
variable {P : Program} {cx : Cx} {n : Nat} {S : SH} {L : Blocks} {F : Slots} {ro : Option Nat} {ops : Array Oper} {Q : Exit → Act → World → Prop} {rest : List Oper} {d : Nat} {ty : TypeId} {pos : String} {af : Array Edge} {g : Option (Nat × Bool)}
theorem s_nextK {x : Operand} {r b : Nat} {ent : Ents} {seen : List Nat} {L' : Nat → Blocks} (hg : want ops F g = some true) (hd : Nat.blt d n = true) (hx : evO F x = some (.pointer (some ⟨r, 0, none⟩))) (hm : (b, mapO ent) ∈ L) (hL : ∀ i, Upd L r (iterO b ent.length seen) (iterO b ent.length (seen ++ [i])) (L' i))
    (k1 : (∀ i, i < ent.length → i ∈ seen) → W cx n S L ((d, .tuple [Value.bool false].toArray) :: F) (wpListIn (Fr ro) 0 P ops Q rest))
    (k2 : ∀ i k v, i ∉ seen → ent[i]? = some (k, v) → W cx n S (L' i) ((d, .tuple [Value.bool true, keyV k, v].toArray) :: F) (wpListIn (Fr ro) 0 P ops Q rest)) :
    W cx n S L F (wpListIn (Fr ro) 0 P ops Q (⟨some d, .next x false, ty, pos, af, g⟩ :: rest)) :=
  s_val hg rfl hd fun a w hf hs op hop hty => by
    have hb := hs.own _ hm
    obtain ⟨j, hj, hL1⟩ := (hL 0).at_
    have hr := hs.own _ (List.mem_of_getElem? hj)
    simp only at hb hr
    rcases run_next (P := P) (ty := ty) hr hb with ⟨h1, h2⟩ | ⟨e, he, w1, hw1, h2⟩
    · exact ⟨S, L, _, w, by simp [execOp, hop, hf.ev hx, hty, h2], hs, k1 (leftE_nil h1)⟩
    · obtain ⟨q1, p, q2, q3, q4⟩ := leftE_at he
      obtain ⟨j2, hj2, hL2⟩ := (hL e.born).at_
      have hs1 : St cx S L w1 := hw1.elim (fun e => e ▸ hs) (fun e => e ▸ hs.drew)
      have hr1 : w1.heap[r]? = some (iterO b ent.length seen) := hs1.own _ (List.mem_of_getElem? hj2)
      have hlt := heap_lt hr1
      refine ⟨S, L' e.born, .tuple #[.bool true, e.key, e.val], { w1 with heap := w1.heap.setIfInBounds r (iterO b ent.length (seen ++ [e.born])) }, by simp only [execOp, hop, hf.ev hx, hty, Sem.run_bind, h2, Result.andThen_ok, Sem.run_pure], ?_, ?_⟩
      · rw [hL2]
        exact hs1.set hj2 (by simp) rfl rfl rfl (by simp [hlt]) (fun c hc => by simp [Ne.symm hc])
      · rw [q3, q4]; exact k2 e.born p.1 p.2 q1 q2
theorem ev_entryK {x : Operand} {r b i : Nat} {ent : Ents} {seen : List Nat} {k : List Int} {v : Value} (hx : evO F x = some (.pointer (some ⟨r, 0, none⟩))) (hm : (b, mapO ent) ∈ L) (hr : (r, iterO b ent.length (seen ++ [i])) ∈ L) (hi : ent[i]? = some (k, v)) :
    Ev P cx n S L F (.entry x) ty (.tuple [keyV k, v].toArray) := fun a w hf hs op hop _ => by
  simp [execOp, hop, hf.ev hx, run_entry (hs.own _ hr) (hs.own _ hm) hi]
end
end Go.X
namespace Go.X
open Go Go.RowKit
section
variable {P : Program} {cx : Cx} {n : Nat} {S : SH} {L : Blocks} {F : Slots} {ty : TypeId}
theorem ev_maxn {x y : Operand} {Ts : Array TypeId} {k : IntKind} {i j m : Nat} (hx : evO F x = some (.int k i)) (hy : evO F y = some (.int k j)) (hm : max i j = m) : Ev P cx n S L F (.call ⟨.builtin .max, #[x, y], Ts⟩) ty (.int k (m : Int)) := by
  subst hm
  have e : ((max i j : Nat) : Int) = max (i : Int) (j : Int) := by omega
  rw [e]; exact ev_max hx hy
end
section
variable {P : Program} {cx : Cx} {n : Nat} {S : SH} {L : Blocks} {F : Slots} {ro : Option Nat} {ops : Array Oper} {Q : Exit → Act → World → Prop} {rest : List Oper} {d : Nat} {ty : TypeId} {pos : String} {af : Array Edge} {g : Option (Nat × Bool)}
theorem s_callw {f : FuncId} {x : Operand} {args : Array Operand} {ts : Array TypeId} {vs caps : List Value} {L1 L2 : Blocks} {R : SH → Blocks → Value → Prop} (hg : want ops F g = some true) (hd : Nat.blt d n = true) (hx : evO F x = some (.func (.func f) #[] caps.toArray)) (i1 : Fun P f) (ha : evArgs F args.toList = some vs) (hL : L.Perm (L1 ++ L2))
    (hc : Con P f (vs ++ caps).toArray S L1 R) (k : ∀ S' L1' v, Le S S' → R S' L1' v → W cx n S' (L1' ++ L2) ((d, v) :: F) (wpListIn (Fr ro) 0 P ops Q rest)) :
    W cx n S L F (wpListIn (Fr ro) 0 P ops Q (⟨some d, .call ⟨.value x, args, ts⟩, ty, pos, af, g⟩ :: rest)) := s_callv (hfun := i1) hg hd hx ha hL hc k
end
section
variable {P : Program} {cx : Cx} {n : Nat} {S S0 : SH} {L L0 : Blocks} {F : Slots} {ops : Array Oper} {Q : Exit → Act → World → Prop} {fuel : Nat} {listed : Array Bool}
theorem h_four (i j m o : Nat) (hr : Region.ready .any ops listed = [i, j, m, o]) (k1 : Wn P cx n S0 L0 ops Q fuel listed i S L F) (k2 : Wn P cx n S0 L0 ops Q fuel listed j S L F) (k3 : Wn P cx n S0 L0 ops Q fuel listed m S L F) (k4 : Wn P cx n S0 L0 ops Q fuel listed o S L F) : Wh P cx n S0 L0 ops Q (fuel + 1) listed S L F := by
  intro h1 h2 h3 a w hf hs
  refine ⟨fun h => (by rw [hr] at h; cases h), fun q hq => ?_⟩
  rw [hr] at hq
  simp only [List.mem_cons, List.not_mem_nil, or_false] at hq
  rcases hq with rfl | rfl | rfl | rfl
  · exact k1 h1 h2 h3 a w hf hs
  · exact k2 h1 h2 h3 a w hf hs
  · exact k3 h1 h2 h3 a w hf hs
  · exact k4 h1 h2 h3 a w hf hs
end
/-! A struct literal whose parts are one cell each. -/
def setAll : List Value → List (Nat × Value) → List Value
  | cs, [] => cs
  | cs, (i, v) :: r => setAll (cs.set i v) r
def fitOne (place : Nat → Option (Nat × Nat)) (m : Nat) (p : Nat × Value) : Bool := p.2.oneCell' && (match place p.1 with | some (a, b) => Nat.beq a p.1 && Nat.beq b 1 | none => false) && Nat.blt p.1 m
theorem one_cells {v : Value} (h : v.oneCell' = true) : v.cells = #[v] := by cases v <;> first | rfl | simp [Value.oneCell'] at h
theorem fill_ones {place : Nat → Option (Nat × Nat)} : ∀ (pv : List (Nat × Value)) (cs : List Value), pv.all (fitOne place cs.length) = true → Instr.fill place cs.toArray pv = some (setAll cs pv).toArray
  | [], cs, _ => rfl
  | (i, v) :: r, cs, h => by
    simp only [List.all_cons, Bool.and_eq_true] at h
    obtain ⟨h1, h2⟩ := h
    unfold fitOne at h1
    simp only [Bool.and_eq_true] at h1
    obtain ⟨⟨q1, q2⟩, q3⟩ := h1
    cases hpl : place i with
    | none => rw [hpl] at q2; cases q2
    | some ab =>
      obtain ⟨a, b⟩ := ab
      rw [hpl] at q2
      simp only [Bool.and_eq_true] at q2
      obtain rfl := Nat.eq_of_beq_eq_true q2.1
      obtain rfl := Nat.eq_of_beq_eq_true q2.2
      have q4 : a < cs.length := by have := Nat.le_of_ble_eq_true q3; omega
      have hc := one_cells q1
      have ih := fill_ones r (cs.set a v) (by rw [List.length_set]; exact h2)
      simp only [Instr.fill, hpl, hc]
      rw [if_neg (by simp; omega)]
      simpa [setAll, Array.zipIdx] using ih
section
variable {P : Program} {cx : Cx} {n : Nat} {S : SH} {L : Blocks} {F : Slots} {ty : TypeId}
theorem ev_buildS {T : TypeId} {parts : Array (Nat × Operand)} {place : Nat → Option (Nat × Nat)} {zc : Array Value} [hb : Bd P T place zc] {pv : List (Nat × Value)} {zl cs : List Value} (hp : evParts F parts.toList = some pv) (hz : zc = zl.toArray) (h1 : pv.all (fitOne place zl.length) = true) (hr : setAll zl pv = cs) :
    Ev P cx n S L F (.build T parts) ty (.agg cs.toArray) := fun a w hf _ o ho _ => by
  subst hz hr
  have h := evParts_map hf _ _ hp
  have e : (parts.map fun (i, x) => (i, a.eval x)).toList = pv := by rw [← h]; simp
  have hfl := fill_ones pv zl h1
  rw [← e] at hfl
  have hrun := hb.h _ _ w hfl
  rw [e] at hrun
  simp only [execOp, ho, Sem.run_bind, hrun, Result.andThen_ok, Sem.run_pure]
end
section
variable {P : Program} {cx : Cx} {n : Nat} {S : SH} {L : Blocks} {F : Slots} {ty : TypeId}
/-- s == nil, of a slice. -/
theorem ev_eql_nilsl {T T' e : TypeId} [hT : Sli P T e] {x y : Operand} {A : Option Addr} {m c : Nat} (hx : evO F x = some (.slice A m c)) (hy : evO F y = some (.slice none 0 0)) : Ev P cx n S L F (.binOp .eql T x y T') ty (.bool A.isNone) := fun a w hf _ o ho _ => by
  have he : (Op.equal T (.slice A m c) (.slice none 0 0)).run P w = .ok A.isNone w := by
    have : (Op.equalIn (9999 + 1) T (.slice A m c) (.slice none 0 0)).run P w = .ok A.isNone w := by
      unfold Op.equalIn
      simp only [Sem.run_bind, run_underlying hT.h, Result.andThen_ok]
      cases A <;> simp
    exact this
  simp [execOp, ho, hf.ev hx, hf.ev hy, eqGuard, binOp, he]
end
section
variable {P : Program} {cx : Cx} {n : Nat} {S : SH} {L : Blocks} {F : Slots}
/-- The results: one in a block of the call's own, and one or two in slots. -/
theorem o_ret_c2 {fn : Func} {R : SH → Blocks → Value → Prop} {t b t2 : Nat} {v2 : Value} {T sz : Nat} [Ag P T sz] {cs : List Value} {T' : TypeId} {fz : Nat × Nat} {L' : Blocks} (hr : fn.results = #[.cell t T, .tmp t2]) (h1 : geT F t = some (.pointer (some ⟨b, 0, none⟩))) (h2 : geT F t2 = some v2) (hm : (b, Obj.cells cs.toArray T' fz) ∈ L) (hl : cs.length = sz) (hL : L'.Sublist L) (h : R S L' (.tuple #[.agg cs.toArray, v2])) (hk : get F kM = none := by rfl) :
    W cx n S L F (Out P cx fn R .ret) := out_ret (.inl rfl) hk hL h fun a w hf hs => by
  have e1 := hf.slot _ _ h1
  have e2 := hf.slot _ _ h2
  have hrun : (results fn a.tmps).run P w = .ok (.tuple #[.agg cs.toArray, v2]) w := by
    simp [results, hr, Array.getD_eq_getD_getElem?, e1, e2, asAddr, run_loadVar_ag hl (fun j u hj => by
      have e : (⟨b, 0, none⟩ : Addr).add j = ⟨b, j, none⟩ := by unfold Addr.add; split <;> simp_all
      rw [e, own_cell hs hm j]; simpa using hj)]
  exact hrun
theorem o_ret_c3 {fn : Func} {R : SH → Blocks → Value → Prop} {t b t2 t3 : Nat} {v2 v3 : Value} {T sz : Nat} [Ag P T sz] {cs : List Value} {T' : TypeId} {fz : Nat × Nat} {L' : Blocks} (hr : fn.results = #[.cell t T, .tmp t2, .tmp t3]) (h1 : geT F t = some (.pointer (some ⟨b, 0, none⟩))) (h2 : geT F t2 = some v2) (h3 : geT F t3 = some v3) (hm : (b, Obj.cells cs.toArray T' fz) ∈ L) (hl : cs.length = sz) (hL : L'.Sublist L) (h : R S L' (.tuple #[.agg cs.toArray, v2, v3])) (hk : get F kM = none := by rfl) :
    W cx n S L F (Out P cx fn R .ret) := out_ret (.inl rfl) hk hL h fun a w hf hs => by
  have e1 := hf.slot _ _ h1
  have e2 := hf.slot _ _ h2
  have e3 := hf.slot _ _ h3
  have hrun : (results fn a.tmps).run P w = .ok (.tuple #[.agg cs.toArray, v2, v3]) w := by
    simp [results, hr, Array.getD_eq_getD_getElem?, e1, e2, e3, asAddr, run_loadVar_ag hl (fun j u hj => by
      have e : (⟨b, 0, none⟩ : Addr).add j = ⟨b, j, none⟩ := by unfold Addr.add; split <;> simp_all
      rw [e, own_cell hs hm j]; simpa using hj)]
  exact hrun
end
section
variable {P : Program} {cx : Cx} {n : Nat} {S : SH} {L : Blocks} {F : Slots} {ty : TypeId}
/-- == of two arrays of four ints. -/
theorem ev_eql_key {T T' : TypeId} [Ka P T] [hg : Ng P T] {x y : Operand} {a b : List Int} (hx : evO F x = some (keyV a)) (hy : evO F y = some (keyV b)) (ha : a.length = 4) (hb : b.length = 4) : Ev P cx n S L F (.binOp .eql T x y T') ty (.bool (a == b)) := fun ac w hf _ o ho _ => by
  have he := run_key_eq (P := P) (kt := T) ha hb w
  unfold keyV at hx hy he
  simp [execOp, ho, hf.ev hx, hf.ev hy, eqGuard, hg.h, binOp, he]
theorem ev_eql_keyb {T T' : TypeId} [Ka P T] [Ng P T] {x y : Operand} {a b : List Int} {t : Bool} (hx : evO F x = some (keyV a)) (hy : evO F y = some (keyV b)) (ha : a.length = 4) (hb : b.length = 4) (ht : (a == b) = t) : Ev P cx n S L F (.binOp .eql T x y T') ty (.bool t) := ht ▸ ev_eql_key hx hy ha hb
end
end Go.X
namespace Go.X
open Go Go.RowKit
section
variable {P : Program} {md : Region.Mode} {ops : Array Oper} {Q : Exit → Act → World → Prop} {S : World → Prop} {s0 : Nat}
/-- Whatever order is picked, S holding behind each operation, until s0 alone may come up. -/
def gate (P : Program) (md : Region.Mode) (ops : Array Oper) (Q : Exit → Act → World → Prop) (S : World → Prop) (s0 : Nat) : Nat → Array Bool → Act → World → Prop
  | 0, listed, a, w => wpAny P md ops Q 0 listed a w
  | fuel + 1, listed, a, w => (Region.ready md ops listed = [s0] ∧ wpAny P md ops Q (fuel + 1) listed a w) ∨
    (Region.ready md ops listed ≠ [] ∧ ∀ i ∈ Region.ready md ops listed, wpOp P ops Q i (fun a' w' => S w' ∧ gate P md ops Q S s0 fuel (listed.setIfInBounds i true) a' w') a w)
theorem gate_any : ∀ (fuel : Nat) (listed : Array Bool) (a : Act) (w : World), gate P md ops Q S s0 fuel listed a w → wpAny P md ops Q fuel listed a w
  | 0, _, _, _, h => h
  | fuel + 1, listed, a, w, h => by
    rcases h with h | h
    · exact h.2
    · exact ⟨fun h0 => absurd h0 h.1, fun i hi => wpOp_mono (fun a' w' h' => gate_any fuel _ a' w' h'.2) (h.2 i hi)⟩
/-- Of two that may come up now, neither waits for the other. -/
theorem no_wait {i j : Nat} {listed : Array Bool} {o : Oper} (hi : i ∈ Region.ready md ops listed) (hj : j ∈ Region.ready md ops listed) (ho : ops[j]? = some o) {e : Edge} (he : e ∈ o.after) (hb : Region.binds md e = true) : e.on ≠ i := by
  rintro rfl
  obtain ⟨_, o', ho', hall⟩ := mem_ready.1 hj
  cases ho.symm.trans ho'
  have q1 := hall e he hb
  have q2 := (mem_ready.1 hi).1
  by_cases hlt : e.on < listed.size
  · simp [hlt] at q1 q2
    exact absurd (q1.symm.trans q2) (by decide)
  · simp [Array.getElem?_eq_none (Nat.le_of_not_lt hlt)] at q1
def needStep (md : Region.Mode) (ops : Array Oper) (acc : List Nat) (j : Nat) : List Nat :=
  if acc.contains j then (match ops[j]? with | some o => ((o.after.toList.filter fun e => Region.binds md e && !acc.contains e.on).map (·.on)) ++ acc | none => acc) else acc
/-- What s0 waits for, s0 among it: found in one way down. -/
def needs (md : Region.Mode) (ops : Array Oper) (s0 : Nat) : List Nat := (List.range (s0 + 1)).reverse.foldl (needStep md ops) [s0]
/-- What has come up waited for nothing that has not. -/
def Closed (md : Region.Mode) (ops : Array Oper) (listed : Array Bool) : Prop := ∀ j o, ops[j]? = some o → listed.getD j false = true → ∀ e ∈ o.after, Region.binds md e = true → listed.getD e.on false = true
def closedB (md : Region.Mode) (ops : Array Oper) (listed : Array Bool) : Bool := (List.range ops.size).all fun j => match ops[j]? with | some o => !(listed.getD j false) || o.after.all (fun e => !(Region.binds md e) || listed.getD e.on false) | none => true
theorem closed_of {listed : Array Bool} (h : closedB md ops listed = true) : Closed md ops listed := by
  intro j o ho hj e he hb
  have h1 := List.all_eq_true.1 h j (List.mem_range.2 (Array.getElem?_eq_some_iff.1 ho).1)
  rw [ho] at h1
  simp only [hj, Bool.not_true, Bool.false_or, Array.all_eq_true'] at h1
  have h2 := h1 e he
  simpa [hb] using h2
theorem Closed.more {listed : Array Bool} (h : Closed md ops listed) {j : Nat} (hj : j ∈ Region.ready md ops listed) : Closed md ops (listed.setIfInBounds j true) := by
  intro m o ho hm e he hb
  obtain ⟨_, o', ho', hall⟩ := mem_ready.1 hj
  refine getD_set_true ?_
  rcases Nat.decEq j m with hne | rfl
  · rw [getD_set_ne false hne] at hm
    exact h m o ho hm e he hb
  · cases ho.symm.trans ho'
    exact hall e he hb
theorem needs_listed {listed : Array Bool} (hc : Closed md ops listed) (hs : s0 ∈ Region.ready md ops listed) {i : Nat} (hi : i ∈ needs md ops s0) : i = s0 ∨ listed.getD i false = true := by
  obtain ⟨_, o, ho, hall⟩ := mem_ready.1 hs
  have step : ∀ (acc : List Nat) (j : Nat), (∀ i ∈ acc, i = s0 ∨ listed.getD i false = true) → ∀ i ∈ needStep md ops acc j, i = s0 ∨ listed.getD i false = true := by
    intro acc j h i hi
    unfold needStep at hi
    by_cases hj : acc.contains j = true
    · rw [if_pos hj] at hi
      have hj' : j ∈ acc := by simpa using hj
      cases hoj : ops[j]? with
      | none => rw [hoj] at hi; exact h i hi
      | some oj =>
        rw [hoj] at hi
        rcases List.mem_append.1 hi with hi | hi
        · obtain ⟨e, he, rfl⟩ := List.mem_map.1 hi
          obtain ⟨he, hb⟩ := List.mem_filter.1 he
          simp only [Bool.and_eq_true] at hb
          have he' : e ∈ oj.after := by simpa using he
          right
          rcases h j hj' with rfl | hl
          · cases ho.symm.trans hoj
            exact hall e he' hb.1
          · exact hc j oj hoj hl e he' hb.1
        · exact h i hi
    · rw [if_neg hj] at hi; exact h i hi
  have key : ∀ (js : List Nat) (acc : List Nat), (∀ i ∈ acc, i = s0 ∨ listed.getD i false = true) → ∀ i ∈ js.foldl (needStep md ops) acc, i = s0 ∨ listed.getD i false = true := by
    intro js
    induction js with
    | nil => exact fun acc h => h
    | cons j js ih => exact fun acc h => ih _ (step acc j h)
  exact key _ [s0] (fun i hi => .inl (by simpa using hi)) i hi
/-- s0 waits for i. -/
def waitsB (md : Region.Mode) (ops : Array Oper) (s0 i : Nat) : Bool := (needs md ops s0).contains i && !(i == s0)
theorem waits_spec {i : Nat} (h : waitsB md ops s0 i = true) {listed : Array Bool} (hc : Closed md ops listed) (hi : i ∈ Region.ready md ops listed) : s0 ∉ Region.ready md ops listed := by
  intro hs
  unfold waitsB at h
  simp only [Bool.and_eq_true, Bool.not_eq_true', beq_eq_false_iff_ne] at h
  rcases needs_listed hc hs (by simpa using h.1) with h1 | h1
  · exact h.2 h1
  have h2 := (mem_ready.1 hi).1
  by_cases hlt : i < listed.size
  · simp [hlt] at h1 h2
    exact absurd (h1.symm.trans h2) (by decide)
  · simp [Array.getElem?_eq_none (Nat.le_of_not_lt hlt)] at h1
/-- What has not come up, and does not wait for oi, has nothing to do with it. -/
def Lone (md : Region.Mode) (ops : Array Oper) (i : Nat) (oi : Oper) (listed : Array Bool) : Prop :=
  ∀ j oj, ops[j]? = some oj → j ≠ i → listed.getD j true = false → (∀ e ∈ oj.after, Region.binds md e = true → e.on ≠ i) → oi.apart ops oj = true
theorem Lone.more {i : Nat} {oi : Oper} {listed : Array Bool} (h : Lone md ops i oi listed) {j : Nat} (hj : listed.getD j true = false) : Lone md ops i oi (listed.setIfInBounds j true) := by
  intro m om q1 q2 q3
  refine h m om q1 q2 ?_
  rcases Nat.decEq j m with hjm | rfl
  · exact (getD_set_ne true hjm).symm.trans q3
  · exact hj
theorem gate_first {i : Nat} {oi : Oper} {v : Value} (hi : ops[i]? = some oi) (hsel : ∀ (j : Nat) (o : Oper) cs b, ops[j]? = some o → o.op ≠ .select cs b)
    (hQ : ∀ c a w, Q (.panic c) (a.put oi.dst v) w → Q (.panic c) a w) (hw : waitsB md ops s0 i = true) (fuel : Nat) :
    ∀ (listed : Array Bool) (a : Act) (w : World), Lone md ops i oi listed → Closed md ops listed → i ∈ Region.ready md ops listed → YieldsIf P ops S oi v a → S w →
      gate P md ops Q S s0 fuel (listed.setIfInBounds i true) (a.put oi.dst v) w → gate P md ops Q S s0 (fuel + 1) listed a w := by
  induction fuel with
  | zero =>
    intro listed a w _ _ hr hy hS H
    refine .inr ⟨List.ne_nil_of_mem hr, fun j hj => ?_⟩
    rcases Nat.decEq j i with hne | rfl
    · have e := ready_mono hj hne
      rw [show Region.ready md ops (listed.setIfInBounds i true) = [] from H.1] at e
      exact absurd e List.not_mem_nil
    · exact hy.wpOp hi hS ⟨hS, H⟩
  | succ fuel ih =>
    intro listed a w hl hcl hr hy hS H
    refine .inr ⟨List.ne_nil_of_mem hr, fun j hj => ?_⟩
    rcases Nat.decEq j i with hne | rfl
    rotate_left
    · exact hy.wpOp hi hS ⟨hS, H⟩
    have hjr := ready_mono hj hne
    rcases H with H | H
    · rw [H.1, List.mem_singleton] at hjr
      exact absurd (hjr ▸ hj) (waits_spec hw hcl hr)
    obtain ⟨hjun, oj, hoj, _⟩ := mem_ready.1 hj
    have hap := hl j oj hoj hne hjun fun _ he hb => no_wait hr hj hoj he hb
    have h2 := wpOp_putIf hoj hap (fun cs b => hsel i oi cs b hi) (fun cs b => hsel j oj cs b hoj) hQ hy (H.2 j hjr)
    refine wpOp_mono ?_ h2
    rintro a' w' ⟨h3, h4, h5⟩
    rw [Array.setIfInBounds_comm _ _ (Ne.symm hne)] at h5
    exact ⟨h4, ih _ a' w' (hl.more hjun) (hcl.more hj) (ready_mono hr (Ne.symm hne)) h3 h4 h5⟩
end
section
variable {P : Program} {cx : Cx} {n : Nat} {S S0 : SH} {L L0 : Blocks} {F : Slots} {ops : Array Oper} {Q : Exit → Act → World → Prop} {d s0 : Nat} {ty : TypeId} {pos : String} {af : Array Edge} {g : Option (Nat × Bool)} {fuel : Nat} {listed : Array Bool}
def Gh (P : Program) (cx : Cx) (n : Nat) (S0 : SH) (L0 : Blocks) (ops : Array Oper) (Q : Exit → Act → World → Prop) (s0 fuel : Nat) (listed : Array Bool) (S : SH) (L : Blocks) (F : Slots) : Prop :=
  Le S0 S → Le cx.S0 S0 → L0.Sublist L → ∀ a w, Fm n a F → St cx S L w → gate P .any ops (SP Q) (St cx S0 L0) s0 fuel listed a w
def Gn (P : Program) (cx : Cx) (n : Nat) (S0 : SH) (L0 : Blocks) (ops : Array Oper) (Q : Exit → Act → World → Prop) (s0 fuel : Nat) (listed : Array Bool) (i : Nat) (S : SH) (L : Blocks) (F : Slots) : Prop :=
  Le S0 S → Le cx.S0 S0 → L0.Sublist L → ∀ a w, Fm n a F → St cx S L w → wpOp P ops (SP Q) i (fun a' w' => St cx S0 L0 w' ∧ gate P .any ops (SP Q) (St cx S0 L0) s0 fuel (listed.setIfInBounds i true) a' w') a w
theorem c_gate [hm : Mx P] {id : Nat} {l : List Oper} (s0 : Nat) (L0 : Blocks) (hL : L0.Sublist L) (k : Gh P cx n S L0 l.toArray Q s0 l.length (List.replicate l.length false).toArray S L F) :
    W cx n S L F ((Code.region id l.toArray true).wpIn (Fr none) 0 P Q) := by
  intro a w hf hs
  refine (wpIn_wide (n := 0)).2 (sp_region (wp_region_any hm.h (gate_any (S := St cx S L0) (s0 := s0) _ _ _ _ ?_)))
  have := k (Le.refl _) hs.le hL a _ hf hs.drew
  rw [List.size_toArray, show Array.replicate l.length false = (List.replicate l.length false).toArray from by simp]
  exact this
/-- From here on: s0 alone may come up. -/
theorem g_open (L1 : Blocks) (hr : Region.ready .any ops listed = [s0]) (hL : L1.Sublist L) (k : Wh P cx n S L1 ops Q (fuel + 1) listed S L F) : Gh P cx n S0 L0 ops Q s0 (fuel + 1) listed S L F := by
  intro h1 h2 h3 a w hf hs
  exact .inl ⟨hr, wpAny_of_held _ _ _ _ (k (Le.refl _) (h2.trans h1) hL a w hf hs)⟩
theorem g_first (i : Nat) {op : Op} {v : Value} (hi : ops[i]? = some ⟨some d, op, ty, pos, af, g⟩) (hr : (Region.ready .any ops listed).contains i = true) (hfr : Region.free .any ops listed i = true) (hsel : Region.noSelect ops = true) (hw : (waitsB .any ops s0 i && closedB .any ops listed) = true)
    (hg : want ops F g = some true) (hd : Nat.blt d n = true) (he : Ev P cx n S0 L0 F op ty v) (k : Gh P cx n S0 L0 ops Q s0 fuel (listed.setIfInBounds i true) S L ((d, v) :: F)) : Gh P cx n S0 L0 ops Q s0 (fuel + 1) listed S L F := by
  intro h1 h2 h3 a w hf hs
  rw [Bool.and_eq_true] at hw
  refine gate_first hi (Region.noSelect_spec hsel) (fun _ _ _ h => SP.put h) hw.1 fuel listed a w (Region.free_spec hi hfr) (closed_of hw.2) (by simpa using hr) (.inl ⟨wanted_of (o := ⟨some d, op, ty, pos, af, g⟩) hf hg, fun w' hw' => he a w' hf hw' _ rfl rfl⟩) (hs.less h1 h2 h3) ?_
  exact k h1 h2 h3 _ w (hf.put v hd) hs
theorem g_one (i : Nat) (hr : Region.ready .any ops listed = [i]) (k : Gn P cx n S0 L0 ops Q s0 fuel listed i S L F) : Gh P cx n S0 L0 ops Q s0 (fuel + 1) listed S L F := by
  intro h1 h2 h3 a w hf hs
  refine .inr ⟨fun h => (by rw [hr] at h; cases h), fun j hj => ?_⟩
  rw [hr] at hj
  simp only [List.mem_singleton] at hj
  subst hj
  exact k h1 h2 h3 a w hf hs
theorem g_two (i j : Nat) (hr : Region.ready .any ops listed = [i, j]) (k1 : Gn P cx n S0 L0 ops Q s0 fuel listed i S L F) (k2 : Gn P cx n S0 L0 ops Q s0 fuel listed j S L F) : Gh P cx n S0 L0 ops Q s0 (fuel + 1) listed S L F := by
  intro h1 h2 h3 a w hf hs
  refine .inr ⟨fun h => (by rw [hr] at h; cases h), fun q hq => ?_⟩
  rw [hr] at hq
  simp only [List.mem_cons, List.not_mem_nil, or_false] at hq
  rcases hq with rfl | rfl
  · exact k1 h1 h2 h3 a w hf hs
  · exact k2 h1 h2 h3 a w hf hs
theorem g_call {i : Nat} {f : FuncId} {x : Operand} {args : Array Operand} {ts : Array TypeId} {vs caps : List Value} {L1 L2 : Blocks} {R : SH → Blocks → Value → Prop} (hi : ops[i]? = some ⟨some d, .call ⟨.value x, args, ts⟩, ty, pos, af, g⟩) (i1 : Fun P f) (hg : want ops F g = some true) (hd : Nat.blt d n = true) (hx : evO F x = some (.func (.func f) #[] caps.toArray)) (ha : evArgs F args.toList = some vs) (hL : L.Perm (L1 ++ L2))
    (hc : Con P f (vs ++ caps).toArray S L1 R) (hsub : ∀ L1', L0.Sublist L → L0.Sublist (L1' ++ L2)) (k : ∀ S' L1' v, Le S S' → R S' L1' v → Gh P cx n S0 L0 ops Q s0 fuel (listed.setIfInBounds i true) S' (L1' ++ L2) ((d, v) :: F)) : Gn P cx n S0 L0 ops Q s0 fuel listed i S L F := by
  intro h1 h2 h3 a w hf hs0
  have hs := hs0.perm hL
  have hargs : args.map a.eval = vs.toArray := by
    apply Array.ext'; simp [← evArgs_map hf _ _ ha]
  have hrun : (execOp a.eval ⟨some d, .call ⟨.value x, args, ts⟩, ty, pos, af, g⟩).run P w = .ok (.enter f (vs ++ caps).toArray) w := by
    simp [execOp, resolve, hf.ev hx, Deferred.ofValue, invoke, i1.h, hargs]
  refine wpOp_at hi (wanted_of (o := ⟨some d, .call ⟨.value x, args, ts⟩, ty, pos, af, g⟩) hf hg) ?_
  rw [hrun, Oper.upon_enter]
  refine (hc w hs.sub).mono ?_
  rintro e w' ⟨v, S', L', rfl, hR, hs'⟩
  have hb := hs.back hs'
  exact ⟨hb.less (h1.trans hs'.le) h2 (hsub _ h3), k S' L' v hs'.le hR (h1.trans hs'.le) h2 (hsub _ h3) _ _ (hf.put v hd) hb⟩
end
end Go.X
namespace Go.X
open Go Go.RowKit
theorem zeroCells_size (z : Array Value) (k : Nat) : (Builtin.zeroCells z k).size = k * z.size := by simp [Builtin.zeroCells]
theorem grownCap_bd (w : World) (need old : Nat) (e : TypeId) (h : need ≤ 1000000000000) : need ≤ grownCap w need old e ∧ grownCap w need old e ≤ maxLen := by
  unfold grownCap Question.cut
  have h1 : (w.tape w.drawn (.appendCap need old e)) % (2 ^ 63 - need) < 2 ^ 63 - need := Nat.mod_lt _ (by omega)
  simp only [maxLen]
  omega
section
variable {α : Type} [Cl α] {P : Program} {cx : Cx} {n : Nat} {S S0 : SH} {L L0 : Blocks} {F : Slots} {ops : Array Oper} {Q : Exit → Act → World → Prop} {d : Nat} {ty : TypeId} {pos : String} {af : Array Edge} {g : Option (Nat × Bool)} {fuel : Nat} {listed : Array Bool}
theorem run_grow {T e : TypeId} {by_ : Nat} {z : Value} (hT : P.underlying T = some (.slice e)) (hsz : (P.info? e).map (·.size) = some (Cl.size α)) (hz : (P.info? e).bind (·.zero) = some z) (hby : (P.info? e).map (·.bytes) = some by_) (hzs : z.cells.size = Cl.size α)
    {A : Option Addr} {ls ms : List α} {cp c2 : Nat} {p2 : Addr} {w : World} (hold : 0 < ls.length → ∃ p, A = some p ∧ ∀ j u, (cellsOf ls)[j]? = some u → w.cell? (p.add j) = some u) (hsrc : ∀ j u, (cellsOf ms)[j]? = some u → w.cell? (p2.add j) = some u)
    (hg : cp < ls.length + ms.length) (hfit : Builtin.nextslicecap (ls.length + ms.length) cp * by_ ≤ 281474976710656) (h63 : ls.length + ms.length ≤ 1000000000000) :
    ∃ v' w', (Builtin.append_ #[T, T] ty #[.slice A ls.length cp, .slice (some p2) ms.length c2]).run P w = .ok v' w' ∧ w'.ownsRow 0 e (Cl.size α) v' (ls ++ ms).length (cellsOf (ls ++ ms)) ∧ w.grownBy w' none ∧ v'.ownBlock = some w.heap.size := by
  cases hi : P.info? e with
  | none => simp [hi] at hsz
  | some i =>
    simp [hi] at hsz hz hby
    have hfc : (Builtin.firstCells i.size ls.length (.slice A ls.length cp)).run P w.drew = .ok (cellsOf ls).toArray w.drew := by
      rcases Nat.eq_zero_or_pos ls.length with h0 | h0
      · have hl0 : ls = [] := List.eq_nil_of_length_eq_zero h0
        subst hl0
        cases A with
        | none => exact run_firstCells_none w.drew i.size 0 0 cp
        | some p => exact run_firstCells_some w.drew i.size 0 p 0 cp [] (by simp) (by simp)
      · obtain ⟨p, rfl, hp⟩ := hold h0
        exact run_firstCells_some w.drew i.size ls.length p ls.length cp (cellsOf ls) (by rw [cellsOf_length, hsz]) (by simpa using hp)
    have hs : Go.Src P i.size T (.slice (some p2) ms.length c2) ms.length (cellsOf ms) w := Go.Src.ofSlice w hT p2 ms.length c2 (cellsOf ms) (by rw [cellsOf_length, hsz]) hsrc (cellsOf_one ms)
    have hr := run_append_grow_src (P := P) w T T ty e i z hT hi hz A ls.length cp (cellsOf ls) hfc _ ms.length (cellsOf ms) hs hg (by omega) (by rw [hby]; exact hfit)
    obtain ⟨c1, c3⟩ := grownCap_bd w (ls.length + ms.length) cp e h63
    refine ⟨_, _, hr, ?_, ?_, rfl⟩
    · rw [cellsOf_append, List.length_append]
      refine ⟨by rw [List.length_append, cellsOf_length, cellsOf_length, Nat.add_mul], .inr ⟨w.heap.size, _, _, rfl, Nat.zero_le _, heap_alloc_new w.drew _, c1, c3, ?_, ?_⟩⟩
      · rw [Array.size_append, List.size_toArray, List.length_append, cellsOf_length, cellsOf_length, zeroCells_size, hzs, ← Nat.add_mul, ← Nat.add_mul]
        congr 1; omega
      · rw [Array.toList_append, List.toList_toArray, List.take_append_of_le_length (by rw [List.length_append, cellsOf_length, cellsOf_length, Nat.add_mul]; exact Nat.le_refl _), List.take_of_length_le (by rw [List.length_append, cellsOf_length, cellsOf_length, Nat.add_mul]; exact Nat.le_refl _)]
    · exact ⟨rfl, rfl, rfl, by simp, fun k hk _ => Below.heap_alloc w.drew _ k hk⟩
/-- append onto a stable slice without room, of a slice of the call's own: in a drawn region. -/
theorem n_append_grow {i : Nat} {T e : TypeId} {by_ : Nat} {z : Value} {x y : Operand} {v2 : Value} {ls ms : List α} {ob L1 : Blocks} {A : Option Addr} {m cp : Nat} (hA : At S A ls) (hi : ops[i]? = some ⟨some d, .call ⟨.builtin .append, #[x, y], #[T, T]⟩, ty, pos, af, g⟩) (hT : Sli P T e) (hsz : Sz P e (Cl.size α)) (hz : Zr P e z) (hby : By P e by_) (hg : want ops F g = some true) (hd : Nat.blt d n = true)
    (hx : evO F x = some (.slice A m cp)) (hm : m = ls.length) (hy : evO F y = some v2) (ho : Ows e v2 ms ob) (hp : 0 < ms.length) (hL : L.Perm (ob ++ L1)) (hcp : cp < ls.length + ms.length) (hzs : Nat.beq z.cells.size (Cl.size α) = true) (hfit : Builtin.nextslicecap (ls.length + ms.length) cp * by_ ≤ 281474976710656) (h63 : ls.length + ms.length ≤ 1000000000000)
    (hsub : ∀ ob', L0.Sublist L → L0.Sublist (ob' ++ L))
    (k : ∀ v' ob', Ows e v' (ls ++ ms) ob' → Wh P cx n S0 L0 ops Q fuel (listed.setIfInBounds i true) S (ob' ++ L) ((d, v') :: F)) : Wn P cx n S0 L0 ops Q fuel listed i S L F :=
  n_val hi hg hd fun a w hf hst o hop hty => by
    subst hm
    have hst' := hst.perm hL
    obtain ⟨gb, cap, cs, rfl, rfl, q1, q2, q3, q4⟩ := ho.open hp
    have hm2 : (gb, Obj.cells (List.toArray cs) e (0, 0)) ∈ L := hL.mem_iff.2 (List.mem_append_left _ List.mem_cons_self)
    have hsrc : ∀ j u, (cellsOf ms)[j]? = some u → w.cell? ((⟨gb, 0, none⟩ : Addr).add j) = some u := fun j u hj => by
      have e1 : (⟨gb, 0, none⟩ : Addr).add j = ⟨gb, j, none⟩ := by unfold Addr.add; split <;> simp_all
      rw [e1, own_cell hst hm2]
      have hjl := (List.getElem?_eq_some_iff.1 hj).1
      rw [← q4, List.getElem?_take_of_lt (by rw [cellsOf_length] at hjl; exact hjl)] at hj
      simpa using hj
    have hold : 0 < ls.length → ∃ p, A = some p ∧ ∀ j u, (cellsOf ls)[j]? = some u → w.cell? (p.add j) = some u := fun h0 => by
      obtain ⟨p, e1, hpt⟩ := hA h0
      exact ⟨p, e1, fun j u hj => hst.cell (hpt j u hj)⟩
    obtain ⟨v', w', h1, h2, h3, h4⟩ := run_grow (ty := ty) (c2 := cap) hT.h hsz.size hz.zero hby.bytes (Nat.eq_of_beq_eq_true hzs) hold hsrc hcp hfit h63
    obtain ⟨ob', ho', hob', hn⟩ := ows_of_row h2
    refine ⟨S, ob' ++ L, v', w', by simp [execOp, hop, resolve, invoke, builtin, hf.ev hx, hf.ev hy, hty, h1], ?_, Le.refl _, hsub ob', k _ _ ho'⟩
    have hst0 : St cx S ([] ++ L) w := hst
    refine hst0.grown (run_drawn _ _ h1) h3 (fun r hr => by cases hr) ?_ hn
    intro q hq
    obtain ⟨e1, e2⟩ := hob' q hq
    refine ⟨e1, .inr ?_⟩
    rw [h4] at e2
    simp only [Option.some.injEq] at e2
    omega
end
section
variable {α : Type} [Cl α] {P : Program} {cx : Cx} {n : Nat} {S : SH} {L : Blocks} {F : Slots} {ty : TypeId}
/-- s[:j:j]. -/
theorem ev_slice_33 {T e : TypeId} {sz : Nat} [hT : Sli P T e] [hE : Sz P e sz] {x y z : Operand} {A : Option Addr} {m c j : Nat} {kd kd2 : IntKind} (hx : evO F x = some (.slice A m c)) (hy : evO F y = some (.int kd j)) (hz : evO F z = some (.int kd2 j)) (hj : j ≤ c) : Ev P cx n S L F (.slice T x none (some y) (some z)) ty (.slice A j j) := fun a w hf _ o ho _ => by
  have e1 : ∀ p : Addr, p.add 0 = p := fun p => by obtain ⟨b, o, s⟩ := p; unfold Addr.add; split <;> simp_all
  have hb : (Instr.sliceBounds true m c none (some (.int kd j)) (some (.int kd2 j))).run P w = .ok (0, j, j) w := by
    simp [Instr.sliceBounds, Instr.sliceBound, asIntOf, hj]
  cases A with
  | none => simp [execOp, ho, hf.ev hx, hf.ev hy, hf.ev hz, Instr.sliceAt, Instr.slice, run_underlying hT.h, hb, run_sizeOf hE.size]
  | some p => simp [execOp, ho, hf.ev hx, hf.ev hy, hf.ev hz, Instr.sliceAt, Instr.slice, run_underlying hT.h, hb, run_sizeOf hE.size, e1]
end
end Go.X
namespace Go.X
open Go Go.RowKit
section
variable {P : Program} {cx : Cx} {n : Nat} {S : SH} {L : Blocks} {F : Slots} {ro : Option Nat} {ops : Array Oper} {Q : Exit → Act → World → Prop} {rest : List Oper} {d : Nat} {ty : TypeId} {pos : String} {af : Array Edge} {g : Option (Nat × Bool)}
theorem bytesCells_eq (w : World) (e : TypeId) (l : Bs) : Lib.bytesCells w e ⟨l.toArray⟩ = (cellsOf l ++ List.replicate (grownCap w l.length 0 e - l.length) (Value.int .u8 0)).toArray := by
  unfold Lib.bytesCells
  apply Array.ext'
  rw [cellsOf_u8]
  simp [ByteArray.size]
theorem s_bytes {T T2 e : TypeId} [h1 : Strg P T] [h2 : Sli P T2 e] [h3 : Ity P e .u8] {x : Operand} {l : Bs} (hg : want ops F g = some true) (hd : Nat.blt d n = true) (hx : evO F x = some (strV l)) (hl : l.length ≤ 1000000000000)
    (k : ∀ b tl cap N, l.length ≤ cap → cap ≤ maxLen → (cellsOf l ++ tl).length = cap → N = cap → W cx n S ((b, .cells (cellsOf l ++ tl).toArray e (N, N + 1)) :: L) ((d, .slice (some ⟨b, 0, none⟩) l.length cap) :: F) (wpListIn (Fr ro) 0 P ops Q rest)) :
    W cx n S L F (wpListIn (Fr ro) 0 P ops Q (⟨some d, .convert T T2 x, ty, pos, af, g⟩ :: rest)) :=
  s_val hg rfl hd fun a w hf hst o ho _ => by
    have hr := Lib.run_convert_string_bytes (P := P) w T T2 e ⟨l.toArray⟩ h1.h h2.h h3.h
    obtain ⟨c1, c3⟩ := grownCap_bd w l.length 0 e hl
    have hlen : (cellsOf l ++ List.replicate (grownCap w l.length 0 e - l.length) (Value.int .u8 0)).length = grownCap w l.length 0 e := by
      rw [List.length_append, cellsOf_length, List.length_replicate]
      show l.length * 1 + _ = _
      omega
    have hnew := Lib.bytesWorld_at_new w e ⟨l.toArray⟩
    have hsz2 : (cellsOf l ++ List.replicate (grownCap w l.length 0 e - l.length) (Value.int .u8 0)).toArray.size = grownCap w l.length 0 e := by rw [List.size_toArray, hlen]
    rw [bytesCells_eq, hsz2] at hnew
    have hsz : (⟨l.toArray⟩ : ByteArray).size = l.length := by simp [ByteArray.size]
    rw [hsz] at hr
    have hst0 : St cx S ([] ++ L) w := hst
    have hst1 : St cx S ([(w.heap.size, .cells (cellsOf l ++ List.replicate (grownCap w l.length 0 e - l.length) (Value.int .u8 0)).toArray e (grownCap w l.length 0 e, grownCap w l.length 0 e + 1))] ++ L) (Lib.bytesWorld w e ⟨l.toArray⟩) := by
      refine hst0.grown (row := none) (ob' := [(w.heap.size, .cells (cellsOf l ++ List.replicate (grownCap w l.length 0 e - l.length) (Value.int .u8 0)).toArray e (grownCap w l.length 0 e, grownCap w l.length 0 e + 1))]) (run_drawn _ _ hr) ⟨rfl, rfl, rfl, by rw [Lib.bytesWorld_size]; omega, fun b hb _ => Lib.bytesWorld_at_old w e _ b hb⟩ (fun r hr => by cases hr) (fun p hp => ?_) (by simp)
      rw [List.mem_singleton.1 hp]
      exact ⟨hnew, .inr (Nat.le_refl _)⟩
    exact ⟨S, _, .slice (some ⟨w.heap.size, 0, none⟩) l.length (grownCap w l.length 0 e), Lib.bytesWorld w e ⟨l.toArray⟩, by simp [execOp, ho, hf.ev hx, strV, hr], hst1, k w.heap.size _ (grownCap w l.length 0 e) (grownCap w l.length 0 e) c1 c3 hlen rfl⟩
/-- A store into such a row. -/
theorem s_store_mk {T : TypeId} [hT : Sc P T] {x y : Operand} {b i N : Nat} {cs : List Value} {T' : TypeId} {v u : Value} {L' : Blocks} (hg : want ops F g = some true) (hx : evO F x = some (.pointer (some ⟨b, i, none⟩))) (hy : evO F y = some v) (h1 : v.oneCell' = true) (hN : i < N)
    (hL : Upd L b (.cells cs.toArray T' (N, N + 1)) (.cells (cs.set i v).toArray T' (N, N + 1)) L') (hu : cs[i]? = some u) (k : W cx n S L' F (wpListIn (Fr ro) 0 P ops Q rest)) :
    W cx n S L F (wpListIn (Fr ro) 0 P ops Q (⟨none, .store T x y, ty, pos, af, g⟩ :: rest)) := by
  refine s_wr (x := .skip) (S' := S) (L' := L') (fun a w hf hs => ?_) (.inl ⟨rfl, rfl⟩) hg rfl k
  obtain ⟨j, hj, rfl⟩ := hL.at_
  have hb := hs.own _ (List.mem_of_getElem? hj)
  simp only at hb
  have hcell : w.cell? ⟨b, i, none⟩ = some u := by rw [own_cell hs (List.mem_of_getElem? hj)]; simpa using hu
  have hfz : w.frozen? ⟨b, i, none⟩ = false := by simp [World.frozen?, hb]; omega
  have hvs : v.cells.size = 1 := by cases v <;> first | rfl | simp [Value.oneCell'] at h1
  refine ⟨w.setCell ⟨b, i, none⟩ v, fun o ho _ => ?_, hs.set hj (by simp [World.setCell]) rfl rfl rfl ?_ ?_⟩
  · simp [execOp, ho, hf.ev hx, hf.ev hy, Instr.storeAt, Instr.sureAddr, run_storeVar_sc h1 hvs hcell hfz]
  · simp [World.setCell, Array.getElem?_modify, hb]
  · intro c hc
    exact Below.heap_setCell w ⟨b, i, none⟩ v c hc
theorem ev_slice_hi0 {T e : TypeId} {sz : Nat} [hT : Sli P T e] [hE : Sz P e sz] {x y : Operand} {b m c j : Nat} {kd : IntKind} (hx : evO F x = some (.slice (some ⟨b, 0, none⟩) m c)) (hy : evO F y = some (.int kd j)) (hj : j ≤ c) : Ev P cx n S L F (.slice T x none (some y) none) ty (.slice (some ⟨b, 0, none⟩) j c) := fun a w hf hs o ho _ => by
  have e0 : (⟨b, 0, none⟩ : Addr).add 0 = ⟨b, 0, none⟩ := by unfold Addr.add; split <;> simp_all
  simp only [execOp, ho, hf.ev hx, hf.ev hy, Instr.sliceAt, Sem.run_bind, run_underlying hT.h, Result.andThen_ok, Option.map_some, Option.map_none]
  rw [run_slice hT.h hE.size (some ⟨b, 0, none⟩) m c 0 j none (some (.int kd j)) (.inl ⟨rfl, rfl⟩) (.inr ⟨kd, rfl⟩) (by omega) (by omega)]
  simp [e0]
end
/-- A block that a call gives back becomes stable. -/
theorem con_frz {P : Program} {f : FuncId} {vs : Array Value} {S : SH} {L : Blocks} {R R' : SH → Blocks → Value → Prop} (h : Con P f vs S L R) (hr : ∀ S' L' v, R S' L' v → ∃ b o L2, L' = (b, o) :: L2 ∧ ∀ S2, Le S' S2 → S2 b = some o → R' S2 L2 v) : Con P f vs S L R' :=
  fun w hw => (h w hw).mono fun _ _ ⟨v, S', L', he, hR, hs⟩ => by
    obtain ⟨b, o, L2, rfl, k⟩ := hr S' L' v hR
    obtain ⟨h1, h2⟩ := hs.freeze
    exact ⟨v, _, L2, he, k _ h2 (by simp [SH.add]), h1⟩
end Go.X
namespace Go.X
open Go Go.RowKit
instance : Cl UInt32 := ⟨1, fun x => [.int .u32 (x.toNat : Int)], fun _ => rfl, fun _ u hu => by simp at hu; subst hu; rfl⟩
theorem wrap_u32 (x : Int) : IntKind.u32.wrap x = x % 4294967296 := by simp [IntKind.wrap, IntKind.bits, IntKind.signed]
section
variable {P : Program} {x y : UInt32}
theorem bv_add32 : BinV P .add .u32 (x.toNat : Int) (y.toNat : Int) (.int .u32 ((x + y).toNat : Int)) := fun T w => by
  simp only [binOp, Op.intArith, ne_eq, not_true_eq_false, if_false]
  rw [wrap_u32, UInt32.toNat_add, ← Int.natCast_add]
  rfl
theorem bits32 {f : BitVec 32 → BitVec 32 → BitVec 32} {z : UInt32} (h : (f x.toBitVec y.toBitVec).toNat = z.toNat) : (f (BitVec.ofInt 32 (x.toNat : Int)) (BitVec.ofInt 32 (y.toNat : Int))).toNat = z.toNat := by
  have e : ∀ u : UInt32, BitVec.ofInt 32 (u.toNat : Int) = u.toBitVec := fun u => by
    rw [ofInt_nat]
    apply BitVec.eq_of_toNat_eq
    rw [BitVec.toNat_ofNat]
    have := u.toNat_lt
    exact Nat.mod_eq_of_lt (by simpa using this)
  rw [e, e, h]
theorem wrap_nat32 (z : UInt32) : IntKind.u32.wrap (z.toNat : Int) = (z.toNat : Int) := by
  rw [wrap_u32]; have := z.toNat_lt; omega
theorem bv_xor32 : BinV P .xor .u32 (x.toNat : Int) (y.toNat : Int) (.int .u32 ((x ^^^ y).toNat : Int)) := fun T w => by
  have h : (BitVec.ofInt IntKind.u32.bits (x.toNat : Int) ^^^ BitVec.ofInt IntKind.u32.bits (y.toNat : Int)).toNat = (x ^^^ y).toNat := bits32 (f := (· ^^^ ·)) rfl
  simp only [binOp, Op.intBits, h, ne_eq, not_true_eq_false, if_false, wrap_nat32]
  rfl
theorem bv_and32 : BinV P .and .u32 (x.toNat : Int) (y.toNat : Int) (.int .u32 ((x &&& y).toNat : Int)) := fun T w => by
  have h : (BitVec.ofInt IntKind.u32.bits (x.toNat : Int) &&& BitVec.ofInt IntKind.u32.bits (y.toNat : Int)).toNat = (x &&& y).toNat := bits32 (f := (· &&& ·)) rfl
  simp only [binOp, Op.intBits, h, ne_eq, not_true_eq_false, if_false, wrap_nat32]
  rfl
theorem bv_or32 : BinV P .or .u32 (x.toNat : Int) (y.toNat : Int) (.int .u32 ((x ||| y).toNat : Int)) := fun T w => by
  have h : (BitVec.ofInt IntKind.u32.bits (x.toNat : Int) ||| BitVec.ofInt IntKind.u32.bits (y.toNat : Int)).toNat = (x ||| y).toNat := bits32 (f := (· ||| ·)) rfl
  simp only [binOp, Op.intBits, h, ne_eq, not_true_eq_false, if_false, wrap_nat32]
  rfl
end
/-- x >> c and x << c of Go, c < 32. -/
def shr (c : Nat) (x : UInt32) : UInt32 := UInt32.ofNat (x.toNat / 2 ^ c)
def shl (c : Nat) (x : UInt32) : UInt32 := UInt32.ofNat (x.toNat * 2 ^ c)
section
variable {P : Program} {cx : Cx} {n : Nat} {S : SH} {L : Blocks} {F : Slots} {ty : TypeId}
theorem ev_shr32 {T T' : TypeId} {a b : Operand} {k2 : IntKind} {x : UInt32} {c : Nat} (hx : evO F a = some (.int .u32 (x.toNat : Int))) (hy : evO F b = some (.int k2 c)) (hc : c ≤ 32) : Ev P cx n S L F (.binOp .shr T a b T') ty (.int .u32 ((shr c x).toNat : Int)) :=
  ev_shr hx hy hc (by
    have h1 : x.toNat / 2 ^ c ≤ x.toNat := Nat.div_le_self _ _
    have h2 := x.toNat_lt
    rw [shr, UInt32.toNat_ofNat', Nat.mod_eq_of_lt (by omega)]
    simp)
theorem ev_shl32 {T T' : TypeId} {a b : Operand} {k2 : IntKind} {x : UInt32} {c : Nat} (hx : evO F a = some (.int .u32 (x.toNat : Int))) (hy : evO F b = some (.int k2 c)) (hc : c ≤ 32) : Ev P cx n S L F (.binOp .shl T a b T') ty (.int .u32 ((shl c x).toNat : Int)) := ev_bin2 hx hy fun w => by
  have e : IntKind.u32.bits = 32 := rfl
  have h5 : ((x.toNat : Int) * 2 ^ c) = ((x.toNat * 2 ^ c : Nat) : Int) := by simp
  simp only [binOp, Op.shift, Int.toNat_natCast, e, Nat.min_eq_left hc]
  rw [if_neg (by omega), h5, wrap_u32, shl, UInt32.toNat_ofNat']
  rfl
theorem ev_not32 {T : TypeId} {a : Operand} {x : UInt32} (hx : evO F a = some (.int .u32 (x.toNat : Int))) : Ev P cx n S L F (.unOp .xor T a) ty (.int .u32 ((~~~x).toNat : Int)) := fun a w hf _ o ho _ => by
  have e0 : (4294967295 : UInt32) ^^^ x = ~~~x := by
    apply UInt32.toBitVec_inj.1
    rw [UInt32.toBitVec_xor, UInt32.toBitVec_not]
    exact BitVec.allOnes_xor
  have h := bv_xor32 (P := P) (x := 4294967295) (y := x) 0 w
  simp only [binOp, ne_eq, not_true_eq_false, if_false] at h
  have h2 : (Op.unary .xor (.int .u32 (x.toNat : Int))).run P w = .ok (.int .u32 ((~~~x).toNat : Int)) w := by
    rw [← e0]; exact h
  simp only [execOp, ho, hf.ev hx, Sem.run_bind, h2, Result.andThen_ok, Sem.run_pure]
theorem ev_conv32 {T T2 : TypeId} [h1 : Ity P T .u8] [h2 : Ity P T2 .u32] {a : Operand} {c : UInt8} (hx : evO F a = some (.int .u8 (c.toNat : Int))) : Ev P cx n S L F (.convert T T2 a) ty (.int .u32 (c.toUInt32.toNat : Int)) :=
  ev_convw hx (by rw [wrap_u32]; have := c.toNat_lt; simp; omega)
theorem ev_conv8 {T T2 : TypeId} [h1 : Ity P T .u32] [h2 : Ity P T2 .u8] {a : Operand} {x : UInt32} (hx : evO F a = some (.int .u32 (x.toNat : Int))) : Ev P cx n S L F (.convert T T2 a) ty (.int .u8 (x.toUInt8.toNat : Int)) :=
  ev_convw hx (by rw [wrap_u8]; simp)
end
end Go.X
namespace Go.X
open Go Go.RowKit
set_option linter.unusedVariables false
section
variable {P : Program} {cx : Cx} {n : Nat} {S S0 : SH} {L L0 : Blocks} {F : Slots} {ro : Option Nat} {ops : Array Oper} {Q : Exit → Act → World → Prop} {rest : List Oper} {d s0 : Nat} {ty : TypeId} {pos : String} {af : Array Edge} {g : Option (Nat × Bool)} {fuel : Nat} {listed : Array Bool}
theorem add_own (b j : Nat) : (⟨b, 0, none⟩ : Addr).add j = ⟨b, j, none⟩ := by unfold Addr.add; split <;> simp_all
theorem ev_idxa1 {T e : TypeId} {N : Nat} [hT : Arr P T N e] [hE : Sz P e 1] {x i : Operand} {b j : Nat} {kd : IntKind} (hx : evO F x = some (.pointer (some ⟨b, 0, none⟩))) (hi : evO F i = some (.int kd j)) (hk : j < N) : Ev P cx n S L F (.indexAddr T x i) ty (.pointer (some ⟨b, j, none⟩)) := by
  have := ev_idxc (P := P) (cx := cx) (n := n) (S := S) (L := L) (F := F) (ty := ty) (T := T) (e := e) (N := N) hx hi hk
  rw [add_own] at this; exact this
/-- It yields a value and turns the world. -/
theorem g_val {i : Nat} {op : Op} (hi : ops[i]? = some ⟨some d, op, ty, pos, af, g⟩) (hg : want ops F g = some true) (hd : Nat.blt d n = true)
    (he : ∀ a w, Fm n a F → St cx S L w → ∀ o : Oper, o.op = op → o.type = ty → ∃ S' L' v w', (execOp a.eval o).run P w = .ok (.value v) w' ∧ St cx S' L' w' ∧ Le S S' ∧ (L0.Sublist L → L0.Sublist L') ∧ Gh P cx n S0 L0 ops Q s0 fuel (listed.setIfInBounds i true) S' L' ((d, v) :: F)) :
    Gn P cx n S0 L0 ops Q s0 fuel listed i S L F := by
  intro h1 h2 h3 a w hf hs
  obtain ⟨S', L', v, w', hr, hs', hle, hsub, hk⟩ := he a w hf hs ⟨some d, op, ty, pos, af, g⟩ rfl rfl
  refine wpOp_at hi (wanted_of (o := ⟨some d, op, ty, pos, af, g⟩) hf hg) ?_
  rw [hr]
  exact ⟨hs'.less (h1.trans hle) h2 (hsub h3), hk (h1.trans hle) h2 (hsub h3) _ _ (hf.put v hd) hs'⟩
theorem g_buildSlice {i : Nat} {T e : TypeId} {sz : Nat} {z : Value} {m : Nat} {parts : Array (Nat × Operand)} {pv : List (Nat × Value)} {vs : List Value} (hi : ops[i]? = some ⟨some d, .buildSlice T m parts, ty, pos, af, g⟩) (i1 : Sli P T e) (i2 : Sz P e sz) (i3 : Zr P e z) (hg : want ops F g = some true) (hd : Nat.blt d n = true)
    (hp : evParts F parts.toList = some pv) (hq : seqVals 0 pv = some vs) (hm : Nat.beq vs.length m = true) (hv : vs.all (fun v => Nat.beq v.cells.size sz) = true) (hl : Nat.ble (m * sz) 16777216 = true)
    (k : ∀ b, Gh P cx n S0 L0 ops Q s0 fuel (listed.setIfInBounds i true) S ((b, .cells (vs.flatMap (·.cells.toList)).toArray e (0, 0)) :: L) ((d, .slice (some ⟨b, 0, none⟩) m m) :: F)) : Gn P cx n S0 L0 ops Q s0 fuel listed i S L F :=
  g_val hi hg hd fun a w hf hst o ho _ => by
    have h := evParts_map hf _ _ hp
    have hm' : vs.length = m := Nat.eq_of_beq_eq_true hm
    have e' : (parts.map fun (i, x) => (i, a.eval x)) = (seqFrom 0 vs).toArray := by
      apply Array.ext'
      rw [← seqVals_eq _ _ _ hq, ← h]; simp
    have hr := run_buildSlice (P := P) i1.h i2.size i3.zero vs (fun v hvm => Nat.eq_of_beq_eq_true (List.all_eq_true.1 hv v hvm)) (by rw [hm']; exact Nat.le_of_ble_eq_true hl) w
    rw [hm'] at hr
    refine ⟨_, _, _, _, ?_, hst.alloc _, Le.refl _, fun h => h.cons _, k _⟩
    simp only [execOp, ho, e', Sem.run_bind, hr, Result.andThen_ok, Sem.run_pure]
theorem g_callf {i : Nat} {f : FuncId} {args : Array Operand} {ts : Array TypeId} {vs : List Value} {L1 L2 : Blocks} {R : SH → Blocks → Value → Prop} (hi : ops[i]? = some ⟨some d, .call ⟨.value (.func f), args, ts⟩, ty, pos, af, g⟩) (i1 : Fun P f) (hg : want ops F g = some true) (hd : Nat.blt d n = true) (ha : evArgs F args.toList = some vs) (hL : L.Perm (L1 ++ L2))
    (hc : Con P f vs.toArray S L1 R) (hsub : ∀ L1', L0.Sublist L → L0.Sublist (L1' ++ L2)) (k : ∀ S' L1' v, Le S S' → R S' L1' v → Gh P cx n S0 L0 ops Q s0 fuel (listed.setIfInBounds i true) S' (L1' ++ L2) ((d, v) :: F)) : Gn P cx n S0 L0 ops Q s0 fuel listed i S L F := by
  intro h1 h2 h3 a w hf hs0
  have hs := hs0.perm hL
  have hargs : args.map a.eval = vs.toArray := by
    apply Array.ext'; simp [← evArgs_map hf _ _ ha]
  have hrun : (execOp a.eval ⟨some d, .call ⟨.value (.func f), args, ts⟩, ty, pos, af, g⟩).run P w = .ok (.enter f vs.toArray) w := by
    simp [execOp, resolve, Act.eval, Deferred.ofValue, invoke, i1.h, hargs]
  refine wpOp_at hi (wanted_of (o := ⟨some d, .call ⟨.value (.func f), args, ts⟩, ty, pos, af, g⟩) hf hg) ?_
  rw [hrun, Oper.upon_enter]
  refine (hc w hs.sub).mono ?_
  rintro e w' ⟨v, S', L', rfl, hR, hs'⟩
  have hb := hs.back hs'
  exact ⟨hb.less (h1.trans hs'.le) h2 (hsub _ h3), k S' L' v hs'.le hR (h1.trans hs'.le) h2 (hsub _ h3) _ _ (hf.put v hd) hb⟩
theorem Gh.freeze {b : Nat} {o : Obj} (hsub : L0.Sublist L) (h : ∀ S', Le S S' → S' b = some o → Gh P cx n S0 L0 ops Q s0 fuel listed S' L F) : Gh P cx n S0 L0 ops Q s0 fuel listed S ((b, o) :: L) F := by
  intro h1 h2 h3 a w hf hs
  exact h _ hs.freeze.2 (by simp [SH.add]) (h1.trans hs.freeze.2) h2 hsub a w hf hs.freeze.1
/-- A copy between two parts of one block of the call's own. -/
theorem n_copy_in {i : Nat} {T T2 e : TypeId} {x y : Operand} {b o1 o2 m1 m2 c1 c2 : Nat} {cs vs : List Value} {T' : TypeId} {L' : Blocks} (hi : ops[i]? = some ⟨some d, .call ⟨.builtin .copy, #[x, y], #[T, T2]⟩, ty, pos, af, g⟩) (i1 : Sli P T e) (i2 : Sz P e 1) (hg : want ops F g = some true) (hd : Nat.blt d n = true)
    (hx : evO F x = some (.slice (some ⟨b, o1, none⟩) m1 c1)) (hy : evO F y = some (.slice (some ⟨b, o2, none⟩) m2 c2)) (hm : vs.length = min m2 m1) (hv : vs = (cs.drop o2).take (min m2 m1)) (h1 : ∀ v ∈ cs, v.oneCell' = true) (hl : o1 + vs.length ≤ cs.length)
    (hL : Upd L b (.cells cs.toArray T' (0, 0)) (.cells (lset cs o1 vs).toArray T' (0, 0)) L') (hsub : L0.Sublist L → L0.Sublist L')
    (k : Wh P cx n S0 L0 ops Q fuel (listed.setIfInBounds i true) S L' ((d, .int .i64 (min m2 m1 : Nat)) :: F)) : Wn P cx n S0 L0 ops Q fuel listed i S L F :=
  n_val hi hg hd fun a w hf hst o ho hty => by
    obtain ⟨j, hj, rfl⟩ := hL.at_
    have hmem := List.mem_of_getElem? hj
    have hb := hst.own _ hmem
    have h1' : ∀ v ∈ vs, v.oneCell' = true := fun v hvm => h1 v (by rw [hv] at hvm; exact List.mem_of_mem_drop (List.mem_of_mem_take hvm))
    have hsrc : ∀ q u, vs[q]? = some u → w.cell? ((⟨b, o2, none⟩ : Addr).add q) = some u := fun q u hu => by
      have hadd : (⟨b, o2, none⟩ : Addr).add q = ⟨b, o2 + q, none⟩ := by unfold Addr.add; split <;> simp_all
      rw [hadd, own_cell hst hmem]
      have hq : q < min m2 m1 := by rw [← hm]; exact (List.getElem?_eq_some_iff.1 hu).1
      rw [hv, List.getElem?_take, if_pos hq, List.getElem?_drop] at hu
      simpa using hu
    have hr := run_copy_row (P := P) (ty := ty) w T T2 e b o1 m1 c1 ⟨b, o2, none⟩ m2 c2 cs.toArray T' vs i1.h i2.size hb hm hsrc (by simpa using hl) h1'
    refine ⟨S, _, .int .i64 (min m2 m1 : Nat), w.setRow b (lset cs o1 vs).toArray, ?_, hst.set hj (by simp [World.setRow]) rfl rfl rfl (setRow_heap w b _ _ _ _ hb) (fun q hq => setRow_other w b q _ hq), Le.refl _, hsub, ?_⟩
    · simp only [execOp, ho, resolve, invoke, builtin, List.map_toArray, List.map_cons, List.map_nil, hf.ev hx, hf.ev hy, hty, Sem.run_bind, Sem.run_pure, Result.andThen_ok]
      have e3 : (cs.toArray.toList.take o1 ++ vs ++ cs.toArray.toList.drop (o1 + vs.length)).toArray = (lset cs o1 vs).toArray := by simp [lset]
      rw [e3] at hr
      rw [hr, hm]; rfl
    · exact k
/-- arr[j:] and arr[:m] of an array of the call's own, one cell an element. -/
theorem ev_slice_arr_lo {A e : TypeId} {N : Nat} [hA : Arr P A N e] [hE : Sz P e 1] {x y : Operand} {b j m : Nat} {kd : IntKind} (hx : evO F x = some (.pointer (some ⟨b, 0, none⟩))) (hy : evO F y = some (.int kd j)) (hj : j < N) (hm : N - j = m) : Ev P cx n S L F (.slice A x (some y) none none) ty (.slice (some ⟨b, j, none⟩) m m) := fun a w hf _ o ho _ => by
  have h2 : j ≤ N := by omega
  have h3 : N ≠ j := by omega
  subst hm
  simp [execOp, ho, hf.ev hx, hf.ev hy, Instr.sliceAt, Instr.sureAddr, run_underlying hA.h, Instr.sliceBounds, Instr.sliceBound, asIntOf, run_sizeOf hE.size, h2, h3, add_own]
theorem ev_slice_arr_hi {A e : TypeId} {N : Nat} [hA : Arr P A N e] [hE : Sz P e 1] {x y : Operand} {b m : Nat} {kd : IntKind} (hx : evO F x = some (.pointer (some ⟨b, 0, none⟩))) (hy : evO F y = some (.int kd m)) (hm : m ≤ N) : Ev P cx n S L F (.slice A x none (some y) none) ty (.slice (some ⟨b, 0, none⟩) m N) := fun a w hf _ o ho _ => by
  have e1 : (⟨b, 0, none⟩ : Addr).add 0 = ⟨b, 0, none⟩ := add_own b 0
  simp [execOp, ho, hf.ev hx, hf.ev hy, Instr.sliceAt, Instr.sureAddr, run_underlying hA.h, Instr.sliceBounds, Instr.sliceBound, asIntOf, run_sizeOf hE.size, hm, e1]
theorem Ev.eq {op : Op} {v v' : Value} (h : Ev P cx n S L F op ty v) (e : v = v') : Ev P cx n S L F op ty v' := e ▸ h
/-- s[i:j:k] of a stable slice. -/
theorem s_slice_3 {α : Type} [Cl α] {T e : TypeId} [hT : Sli P T e] [hE : Sz P e (Cl.size α)] {x y z u : Operand} {A : Option Addr} {m c i j k q q2 : Nat} {kd kd2 kd3 : IntKind} {l : List α} (hA : At S A l) (hg : want ops F g = some true) (hd : Nat.blt d n = true) (hx : evO F x = some (.slice A m c)) (hy : evO F y = some (.int kd i)) (hz : evO F z = some (.int kd2 j)) (hu : evO F u = some (.int kd3 k))
    (hij : i ≤ j) (hjk : j ≤ k) (hkc : k ≤ c) (hjl : j ≤ l.length) (hq : j - i = q) (hq2 : k - i = q2)
    (kk : ∀ A', At S A' ((l.take j).drop i) → W cx n S L ((d, .slice A' q q2) :: F) (wpListIn (Fr ro) 0 P ops Q rest)) :
    W cx n S L F (wpListIn (Fr ro) 0 P ops Q (⟨some d, .slice T x (some y) (some z) (some u), ty, pos, af, g⟩ :: rest)) := by
  subst hq hq2
  have hcut : At S (if k = i then A else A.map (·.add (i * Cl.size α))) ((l.take j).drop i) := fun h0 => by
    have hlen : ((l.take j).drop i).length = j - i := by simp; omega
    rw [hlen] at h0
    rw [if_neg (by omega)]
    have := hA.cut (i := i) (m := j) (Nat.le_refl _) hjl hij
    rw [if_neg (by omega)] at this
    exact this (by omega)
  refine s_ev (fun a w hf _ o ho _ => ?_) hg rfl hd (kk _ hcut)
  have hb : (Instr.sliceBounds true m c (some (.int kd i)) (some (.int kd2 j)) (some (.int kd3 k))).run P w = .ok (i, j, k) w := by
    simp [Instr.sliceBounds, Instr.sliceBound, asIntOf, hij, hjk, hkc]
  simp [execOp, ho, hf.ev hx, hf.ev hy, hf.ev hz, hf.ev hu, Instr.sliceAt, Instr.slice, run_underlying hT.h, hb, run_sizeOf hE.size]
end
end Go.X
namespace Go.X
open Go Go.RowKit
set_option linter.unusedVariables false
theorem strCells_eq (l : Bs) : Lib.strCells ⟨l.toArray⟩ = cellsOf l := by
  rw [cellsOf_u8]; simp [Lib.strCells]
/-- A function without a body, by the model's own entry. -/
class Ext (P : Program) (f : FuncId) (e : outParam (Array Value → Sem Value)) : Prop where
  h : ∀ args w, (callFunc f args).run P w = ((e args).run P w).andThen fun v w' => .ok (.value v) w'
section
variable {P : Program} {cx : Cx} {n : Nat} {S S0 : SH} {L L0 : Blocks} {F : Slots} {ro : Option Nat} {ops : Array Oper} {Q : Exit → Act → World → Prop} {rest : List Oper} {d s0 : Nat} {ty : TypeId} {pos : String} {af : Array Edge} {g : Option (Nat × Bool)} {fuel : Nat} {listed : Array Bool}
theorem own_shape {w : World} (h : St cx S L w) {b : Nat} {cs : Array Value} {T : TypeId} {fz : Nat × Nat} (hm : (b, Obj.cells cs T fz) ∈ L) : w.shape? b = some (T, cs.size) := by
  have := h.own _ hm
  simp only at this
  simp [World.shape?, this]
theorem ev_to_unsafe {src dst t T' : TypeId} {sz : Nat} {x : Operand} {b : Nat} {cs : List Value} {fz : Nat × Nat} (hs : P.underlying src = some (.pointer t)) (hd : P.underlying dst = some .unsafePointer) (ht : (P.info? t).map (·.size) = some sz) (hz : sz ≠ 0) (hx : evO F x = some (.pointer (some ⟨b, 0, none⟩))) (hm : (b, Obj.cells cs.toArray T' fz) ∈ L) (h0 : 0 < cs.length) :
    Ev P cx n S L F (.convert src dst x) ty (.pointer (some ⟨b, 0, none⟩)) := fun a w hf hst o ho _ => by
  obtain ⟨j, hj, hjs⟩ := Option.map_eq_some_iff.1 ht
  have hr := Lib.run_to_unsafe (P := P) w ⟨b, 0, none⟩ hs hd hj (by rw [hjs]; exact hz) (own_shape hst hm) (by simpa using h0)
  simp [execOp, ho, hf.ev hx, hr]
theorem ev_from_unsafe {src dst u T' : TypeId} {sz : Nat} {x : Operand} {b : Nat} {cs : List Value} {fz : Nat × Nat} (hs : P.underlying src = some .unsafePointer) (hd : P.underlying dst = some (.pointer u)) (hu : (P.info? u).map (·.size) = some sz) (hx : evO F x = some (.pointer (some ⟨b, 0, none⟩))) (hm : (b, Obj.cells cs.toArray T' fz) ∈ L) (hl : liesAt P P.depth T' (cs.toArray.size / P.cellsOf T') 0 u 1 = true) :
    Ev P cx n S L F (.convert src dst x) ty (.pointer (some ⟨b, 0, none⟩)) := fun a w hf hst o ho _ => by
  obtain ⟨j, hj, hjs⟩ := Option.map_eq_some_iff.1 hu
  have hr := Lib.run_from_unsafe (P := P) w ⟨b, 0, none⟩ hs hd hj (own_shape hst hm) hl
  simp [execOp, ho, hf.ev hx, hr]
theorem ev_noEscape {f : FuncId} (h : Ext P f Extern.AbiNoEscape.same) {x : Operand} {ts : Array TypeId} {v : Value} (hx : evO F x = some v) : Ev P cx n S L F (.call ⟨.value (.func f), #[x], ts⟩) ty v := fun a w hf _ o ho _ => by
  have hr := h.h #[v] w
  rw [Lib.run_noEscape] at hr
  have hr2 : (callFunc f #[v]).run P w = .ok (.value v) w := hr
  have hfn : a.eval (.func f) = .func (.func f) #[] #[] := rfl
  simp [execOp, ho, resolve, hfn, Deferred.ofValue, invoke, hf.ev hx, hr2]
/-- append of a string onto a slice of the call's own. -/
theorem s_append_s {T U e : TypeId} [hT : Sli P T e] [hU : Strg P U] [hsz : Sz P e 1] [hz : Zr P e (.int .u8 0)] [hby : By P e 1] {x y : Operand} {v : Value} {l s : Bs} {ob L1 : Blocks} (hg : want ops F g = some true) (hd : Nat.blt d n = true)
    (hx : evO F x = some v) (ho : Ows e v l ob) (hL : L.Perm (ob ++ L1)) (hy : evO F y = some (strV s)) (hb : l.length + s.length ≤ 1000000000000)
    (k : ∀ v' ob', Ows e v' (l ++ s) ob' → W cx n S (ob' ++ L1) ((d, v') :: F) (wpListIn (Fr ro) 0 P ops Q rest)) :
    W cx n S L F (wpListIn (Fr ro) 0 P ops Q (⟨some d, .call ⟨.builtin .append, #[x, y], #[T, U]⟩, ty, pos, af, g⟩ :: rest)) := by
  refine s_val hg rfl hd fun a w hf hst o hop hty => ?_
  have hst' := hst.perm hL
  obtain ⟨z0, hz1⟩ : ∃ i, P.info? e = some i := by
    cases hi : P.info? e with
    | none => have := hsz.size; simp [hi] at this
    | some i => exact ⟨i, rfl⟩
  have hsize : z0.size = 1 := by have := hsz.size; simpa [hz1] using this
  have hzero : z0.zero = some (.int .u8 0) := by have := hz.zero; simpa [hz1] using this
  have hbyt : z0.bytes = 1 := by have := hby.bytes; simpa [hz1] using this
  have hss : (⟨s.toArray⟩ : ByteArray).size = s.length := by simp [ByteArray.size]
  have hcl : ∀ m : Bs, (cellsOf m).length = m.length := fun m => by rw [cellsOf_length]; exact Nat.mul_one _
  have hrun : ∀ {v' : Value} {w' : World}, (Builtin.append_ #[T, U] ty #[v, .string ⟨s.toArray⟩]).run P w = .ok v' w' → (execOp a.eval o).run P w = .ok (.value v') w' := fun h => by
    simp [execOp, hop, resolve, invoke, builtin, hf.ev hx, hf.ev hy, strV, hty, h]
  have hone : Cl.size UInt8 = 1 := rfl
  rcases ho with ⟨rfl, rfl, rfl⟩ | ⟨gb, cap, cur, rfl, rfl, h1, h2, h3, h4⟩
  · by_cases hs0 : s.length = 0
    · have hs00 : s = [] := List.eq_nil_of_length_eq_zero hs0
      subst hs00
      have hf0 := Lib.run_firstCells_string (P := P) w 1 ⟨([] : Bs).toArray⟩
      have hr : (Builtin.append_ #[T, U] ty #[.slice none 0 0, .string ⟨([] : Bs).toArray⟩]).run P w = .ok (.slice none 0 0) w := by
        have hz5 : (⟨([] : Bs).toArray⟩ : ByteArray).size = 0 := rfl
        rw [hz5] at hf0
        simp [Builtin.append_, run_underlying hT.h, run_underlying hU.h, sizeOf, typeInfo, hz1, hsize, Builtin.lenOf, hz5, hf0]
      exact ⟨S, _, _, _, hrun hr, hst', k _ [] (Ows.nil e)⟩
    · have hr := run_append_nil_string (P := P) w T U ty e z0 (.int .u8 0) hT.h hU.h hz1 hzero ⟨s.toArray⟩ (by rw [hss]; omega) (by rw [hss]; omega) (by rw [hss, hbyt]; omega)
      rw [hss] at hr
      have hge := grownCap_ge w s.length 0 e
      have hcm : grownCap w s.length 0 e ≤ maxLen := grownCap_le_maxLen w _ 0 e (by simp only [maxLen]; omega)
      have hst3 := hst'.drew.alloc (.cells (((⟨s.toArray⟩ : ByteArray).data.map fun b => Value.int .u8 b.toNat) ++ Builtin.zeroCells (Value.int .u8 0).cells (grownCap w s.length 0 e - s.length)) e (0, 0))
      refine ⟨S, _, _, _, hrun hr, hst3, ?_⟩
      refine k _ [(w.heap.size, .cells (((⟨s.toArray⟩ : ByteArray).data.map fun b => Value.int .u8 b.toNat) ++ Builtin.zeroCells (Value.int .u8 0).cells (grownCap w s.length 0 e - s.length)) e (0, 0))] (.inr ⟨_, _, _, by simp, rfl, by simp; exact hge, hcm, ?_, ?_⟩)
      · have hz5 : (Value.int .u8 0).cells.size = 1 := rfl
        simp only [Array.size_append, Array.size_map, List.size_toArray, size_zeroCells, hz5, hone]
        omega
      · have e1 : (((⟨s.toArray⟩ : ByteArray).data.map fun b => Value.int .u8 b.toNat)).toList = cellsOf s := by rw [cellsOf_u8]; simp
        rw [Array.toList_append, e1, List.nil_append, hone, Nat.mul_one, ← hcl s]
        exact List.take_left
  · have hown : w.heap[gb]? = some (.cells cur e (0, 0)) := hst'.own _ (List.mem_append_left _ List.mem_cons_self)
    rw [hone, Nat.mul_one] at h3 h4
    by_cases hroom : l.length + s.length ≤ cap
    · have hr := Lib.run_append_room_string (P := P) w T U ty e z0 hT.h hU.h hz1 hsize gb l.length cap cur hown ⟨s.toArray⟩ (by rw [hss]; exact hroom) (by rw [hss]; omega)
      rw [hss, strCells_eq] at hr
      refine ⟨S, _, _, _, hrun hr, hst'.set (i := 0) rfl (by simp [World.setRow]) rfl rfl rfl (setRow_heap w gb cur _ e _ hown) (fun q hq => setRow_other w gb q _ hq), ?_⟩
      have := k (.slice (some ⟨gb, 0, none⟩) (l ++ s).length cap) [(gb, .cells (cur.toList.take l.length ++ cellsOf s ++ cur.toList.drop (l.length + s.length)).toArray e (0, 0))] (.inr ⟨gb, cap, _, rfl, rfl, by rw [List.length_append]; exact hroom, h2, ?_, ?_⟩)
      · rw [List.length_append] at this; exact this
      · simp only [List.size_toArray, List.length_append, List.length_take, List.length_drop, Array.length_toList, hcl, hone]
        omega
      · rw [h4, hone, Nat.mul_one, ← cellsOf_append, ← hcl (l ++ s)]
        exact List.take_left
    · have holds : ∀ j u, (cellsOf l)[j]? = some u → w.cell? ((⟨gb, 0, none⟩ : Addr).add j) = some u := by
        intro j u hu
        rw [add_own, cell_of_row w gb j cur e _ hown]
        rw [← h4, List.getElem?_take] at hu
        split at hu
        · simpa using hu
        · cases hu
      have hr := Lib.run_append_grow_string (P := P) w T U ty e z0 (.int .u8 0) hT.h hU.h hz1 hzero ⟨gb, 0, none⟩ l.length cap (cellsOf l) (by rw [hsize, hcl, Nat.mul_one]) holds ⟨s.toArray⟩ (by rw [hss]; omega) (by rw [hss]; omega) (by rw [hss, hbyt]; exact growslice_fits (by omega) (by omega))
      rw [hss, strCells_eq] at hr
      have hge := grownCap_ge w (l.length + s.length) cap e
      have hcm : grownCap w (l.length + s.length) cap e ≤ maxLen := grownCap_le_maxLen w _ cap e (by simp only [maxLen]; omega)
      have hst2 : St cx S L1 w := hst'.weaken (List.sublist_append_right _ _)
      have hst3 := hst2.drew.alloc (.cells ((cellsOf l).toArray ++ (cellsOf s).toArray ++ Builtin.zeroCells (Value.int .u8 0).cells (grownCap w (l.length + s.length) cap e - (l.length + s.length))) e (0, 0))
      refine ⟨S, _, _, _, hrun hr, hst3, ?_⟩
      have := k (.slice (some ⟨w.heap.size, 0, none⟩) (l ++ s).length (grownCap w (l.length + s.length) cap e)) [(w.heap.size, .cells ((cellsOf l).toArray ++ (cellsOf s).toArray ++ Builtin.zeroCells (Value.int .u8 0).cells (grownCap w (l.length + s.length) cap e - (l.length + s.length))) e (0, 0))] (.inr ⟨_, _, _, rfl, rfl, by rw [List.length_append]; exact hge, hcm, ?_, ?_⟩)
      · rw [List.length_append] at this; exact this
      · have hz5 : (Value.int .u8 0).cells.size = 1 := rfl
        simp only [Array.size_append, List.size_toArray, size_zeroCells, hz5, hcl, hone]
        omega
      · simp only [Array.toList_append, List.append_assoc]
        rw [← List.append_assoc, ← cellsOf_append, hone, Nat.mul_one, ← hcl (l ++ s)]
        exact List.take_left
/-- bytealg.MakeNoZero: a new row of whatever bytes. -/
theorem s_mkNoZero {f : FuncId} {ps : Array TypeId} {T e : TypeId} (h : Ext P f (Extern.BytealgMakeNoZero.makeNoZero ps #[T])) [hT : Sli P T e] {x : Operand} {ts : Array TypeId} {m : Nat} (hg : want ops F g = some true) (hd : Nat.blt d n = true) (hx : evO F x = some (.int .i64 m)) (hm : m ≤ 1000000000000)
    (k : ∀ b (cs : Array Value), m ≤ cs.size → cs.size ≤ maxLen → W cx n S ((b, .cells cs e (0, 0)) :: L) ((d, .slice (some ⟨b, 0, none⟩) m cs.size) :: F) (wpListIn (Fr ro) 0 P ops Q rest)) :
    W cx n S L F (wpListIn (Fr ro) 0 P ops Q (⟨some d, .call ⟨.value (.func f), #[x], ts⟩, ty, pos, af, g⟩ :: rest)) :=
  s_val hg rfl hd fun a w hf hst o ho _ => by
    obtain ⟨cs, hr, h1, h2⟩ := Lib.run_makeNoZero (P := P) w ps T e hT.h m (by omega)
    have hfn : a.eval (.func f) = .func (.func f) #[] #[] := rfl
    have hc := h.h #[.int .i64 m] w
    rw [hr] at hc
    have hc2 : (callFunc f #[.int .i64 m]).run P w = .ok (.value (.slice (some ⟨w.heap.size, 0, none⟩) m cs.size)) (w.drew.drew.alloc (.cells cs e)) := hc
    exact ⟨S, _, _, _, by simp [execOp, ho, resolve, hfn, Deferred.ofValue, invoke, hf.ev hx, hc2]; rfl, hst.drew.drew.alloc _, k _ cs h1 (h2 (by simp only [maxLen]; omega))⟩
/-- As it comes up in a drawn region. -/
theorem n_mkNoZero {i : Nat} {f : FuncId} {ps : Array TypeId} {T e : TypeId} (h : Ext P f (Extern.BytealgMakeNoZero.makeNoZero ps #[T])) [hT : Sli P T e] {x : Operand} {ts : Array TypeId} {m : Nat} (hi : ops[i]? = some ⟨some d, .call ⟨.value (.func f), #[x], ts⟩, ty, pos, af, g⟩) (hg : want ops F g = some true) (hd : Nat.blt d n = true) (hx : evO F x = some (.int .i64 m)) (hm : m ≤ 1000000000000)
    (k : ∀ b (cs : Array Value), m ≤ cs.size → cs.size ≤ maxLen → Wh P cx n S0 L0 ops Q fuel (listed.setIfInBounds i true) S ((b, .cells cs e (0, 0)) :: L) ((d, .slice (some ⟨b, 0, none⟩) m cs.size) :: F)) : Wn P cx n S0 L0 ops Q fuel listed i S L F :=
  n_val hi hg hd fun a w hf hst o ho _ => by
    obtain ⟨cs, hr, h1, h2⟩ := Lib.run_makeNoZero (P := P) w ps T e hT.h m (by omega)
    have hfn : a.eval (.func f) = .func (.func f) #[] #[] := rfl
    have hc := h.h #[.int .i64 m] w
    rw [hr] at hc
    have hc2 : (callFunc f #[.int .i64 m]).run P w = .ok (.value (.slice (some ⟨w.heap.size, 0, none⟩) m cs.size)) (w.drew.drew.alloc (.cells cs e)) := hc
    exact ⟨S, _, _, _, by simp [execOp, ho, resolve, hfn, Deferred.ofValue, invoke, hf.ev hx, hc2]; rfl, hst.drew.drew.alloc _, Le.refl _, fun h => h.cons _, k _ cs h1 (h2 (by simp only [maxLen]; omega))⟩
theorem ev_sliceData {x : Operand} {Ts : Array TypeId} {p : Addr} {m c : Nat} (hx : evO F x = some (.slice (some p) m c)) (hc : c ≠ 0) : Ev P cx n S L F (.call ⟨.builtin .unsafeSliceData, #[x], Ts⟩) ty (.pointer (some p)) := fun a w hf _ o ho _ => by
  have hr := Lib.run_unsafeSliceData_row (P := P) w Ts o.type p m c hc
  simp [execOp, ho, resolve, invoke, builtin, hf.ev hx, hr]
theorem freeze_heap (w : World) (g m : Nat) {cs : Array Value} {T : TypeId} {fz : Nat × Nat} (h : w.heap[g]? = some (.cells cs T fz)) : (w.freeze ⟨g, 0, none⟩ m).heap.size = w.heap.size ∧ (∃ o, (w.freeze ⟨g, 0, none⟩ m).heap[g]? = some o) ∧ (∀ c, c ≠ g → (w.freeze ⟨g, 0, none⟩ m).heap[c]? = w.heap[c]?) ∧ (w.freeze ⟨g, 0, none⟩ m).os = w.os ∧ (w.freeze ⟨g, 0, none⟩ m).tape = w.tape ∧ (w.freeze ⟨g, 0, none⟩ m).output = w.output ∧ (w.freeze ⟨g, 0, none⟩ m).drawn = w.drawn := by
  have hs : (w.freeze ⟨g, 0, none⟩ m).heap.size = w.heap.size := by
    unfold World.freeze; split
    · rfl
    · simp
  refine ⟨hs, ⟨_, Array.getElem?_eq_getElem (by rw [hs]; exact heap_lt h)⟩, fun c hc => ?_, ?_⟩
  · unfold World.freeze; split
    · rfl
    · simp [Array.getElem?_modify, Ne.symm hc]
  · unfold World.freeze; split <;> exact ⟨rfl, rfl, rfl, rfl⟩
/-- unsafe.String over the head of a row of the call's own: the row is not the call's own any more. -/
theorem n_unsafeString {i : Nat} {pt it e : TypeId} {x y : Operand} {gb : Nat} {cur : Array Value} {l : Bs} {L1 : Blocks} (hi : ops[i]? = some ⟨some d, .call ⟨.builtin .unsafeString, #[x, y], #[pt, it]⟩, ty, pos, af, g⟩) (hp : P.underlying pt = some (.pointer e)) (hc1 : P.cellsOf e = 1) (hg : want ops F g = some true) (hd : Nat.blt d n = true)
    (hx : evO F x = some (.pointer (some ⟨gb, 0, none⟩))) (hy : evO F y = some (.int .i64 l.length)) (hL : L.Perm ((gb, .cells cur e (0, 0)) :: L1)) (h0 : l ≠ []) (hcap : l.length ≤ cur.size) (h63 : l.length ≤ 9223372036854775807) (ht : cur.toList.take l.length = cellsOf l) (hsub : L0.Sublist L1)
    (k : Wh P cx n S0 L0 ops Q fuel (listed.setIfInBounds i true) S L1 ((d, strV l) :: F)) : Wn P cx n S0 L0 ops Q fuel listed i S L F :=
  n_val hi hg hd fun a w hf hst o ho hty => by
    have hst' := hst.perm hL
    have hown := hst'.own _ List.mem_cons_self
    simp only at hown
    have hcell : ∀ j x, l[j]? = some x → w.cell? ((⟨gb, 0, none⟩ : Addr).add j) = some (.int .u8 x.toNat) := fun j x hj => by
      rw [add_own, cell_of_row w gb j cur e _ hown]
      have h1 : (cellsOf l)[j]? = some (.int .u8 x.toNat) := by rw [cellsOf_u8, List.getElem?_map, hj]; rfl
      rw [← ht, List.getElem?_take] at h1
      split at h1
      · simpa using h1
      · cases h1
    have hr := Lib.run_unsafeString_row (P := P) w pt it o.type e hp hc1 gb cur.size (own_shape hst' List.mem_cons_self) l h0 hcap h63 hcell
    obtain ⟨f1, ⟨o', f2⟩, f3, f4, f5, f6, f7⟩ := freeze_heap w gb l.length hown
    have hst2 := (hst'.set (i := 0) (o' := o') rfl f1 f4 f5 f6 f2 f3 (Nat.le_of_eq f7.symm)).weaken (L' := L1) (by simp)
    exact ⟨S, L1, _, _, by simp [execOp, ho, resolve, invoke, builtin, hf.ev hx, hf.ev hy, hr], hst2, Le.refl _, fun _ => hsub, k⟩
theorem ev_neq_pp {T T' te : TypeId} {sz : Nat} {x y : Operand} {p : Addr} (hT : P.underlying T = some (.pointer te)) (hz : (P.info? te).map (·.size) = some sz) (hx : evO F x = some (.pointer (some p))) (hy : evO F y = some (.pointer (some p))) : Ev P cx n S L F (.binOp .neq T x y T') ty (.bool false) := fun a w hf _ o ho _ => by
  obtain ⟨j, hj, _⟩ := Option.map_eq_some_iff.1 hz
  simp [execOp, ho, hf.ev hx, hf.ev hy, eqGuard, Lib.run_neq_ptr_same (P := P) w p hT hj]
theorem ev_cap {x : Operand} {T e : TypeId} [hT : Sli P T e] {A : Option Addr} {m c : Nat} (hx : evO F x = some (.slice A m c)) : Ev P cx n S L F (.call ⟨.builtin .cap, #[x], #[T]⟩) ty (.int .i64 c) := fun a w hf _ o ho _ => by
  simp [execOp, ho, resolve, invoke, builtin, hf.ev hx, Builtin.cap_, run_underlying hT.h, goInt]
end
end Go.X
namespace Go.X
set_option linter.unusedVariables false
theorem at_lt' {α : Type} {l : List α} {i : Nat} (h : i < l.length) : ∃ x, l[i]? = some x := ⟨l[i], List.getElem?_eq_getElem h⟩
def rot (c : Nat) (x : UInt32) : UInt32 := shl (32 - c) x ||| shr c x
def mix (l : List Nat) (x : UInt32) : UInt32 := l.foldl (fun o c => o ^^^ rot c x) 0
def at0 {α : Type} [Inhabited α] (l : List α) (i : Nat) : α := l.getD i default
def be4 (b : Bs) (i : Nat) : UInt32 := shl 24 (at0 b i).toUInt32 ||| shl 16 (at0 b (i + 1)).toUInt32 ||| shl 8 (at0 b (i + 2)).toUInt32 ||| (at0 b (i + 3)).toUInt32
def w16 (b : Bs) (i : Nat) : List UInt32 := (List.range i).map fun k => be4 b (4 * k)
def wNext (w : List UInt32) : UInt32 :=
  at0 w (w.length - 16) + (mix [7, 18] (at0 w (w.length - 15)) ^^^ shr 3 (at0 w (w.length - 15))) + at0 w (w.length - 7) + (mix [17, 19] (at0 w (w.length - 2)) ^^^ shr 10 (at0 w (w.length - 2)))
def wExt (w : List UInt32) : Nat → List UInt32
  | 0 => w
  | k + 1 => wExt w k ++ [wNext (wExt w k)]
def sched (b : Bs) : List UInt32 := wExt (w16 b 16) 48
theorem w16_len (b : Bs) (i : Nat) : (w16 b i).length = i := by simp [w16]
theorem wExt_len (w : List UInt32) : ∀ k, (wExt w k).length = w.length + k
  | 0 => rfl
  | k + 1 => by simp [wExt, wExt_len w k, Nat.add_assoc]
theorem sched_len (b : Bs) : (sched b).length = 64 := by rw [sched, wExt_len, w16_len]
theorem w16_succ (b : Bs) (i : Nat) : w16 b (i + 1) = w16 b i ++ [be4 b (4 * i)] := by simp [w16, List.range_succ]
theorem at0_eq {α : Type} [Inhabited α] {l : List α} {i : Nat} {x : α} (h : l[i]? = some x) : at0 l i = x := by simp [at0, List.getD_eq_getElem?_getD, h]
theorem at0_get {α : Type} [Inhabited α] {l : List α} {i : Nat} (h : i < l.length) : l[i]? = some (at0 l i) := by simp [at0, List.getD_eq_getElem?_getD, h]
/-- The eight words. -/
structure W8 where
  (a b c d e f g h : UInt32)
def W8.list (v : W8) : List UInt32 := [v.a, v.b, v.c, v.d, v.e, v.f, v.g, v.h]
def W8.step (v : W8) (k w : UInt32) : W8 :=
  let t := v.h + mix [6, 11, 25] v.e + ((v.e &&& v.f) ^^^ (~~~v.e &&& v.g)) + k + w
  let u := mix [2, 13, 22] v.a + (((v.a &&& v.b) ^^^ (v.a &&& v.c)) ^^^ (v.b &&& v.c))
  ⟨t + u, v.a, v.b, v.c, v.d + t, v.e, v.f, v.g⟩
def W8.steps (K w : List UInt32) (v : W8) : Nat → W8
  | 0 => v
  | i + 1 => (W8.steps K w v i).step (at0 K i) (at0 w i)
def W8.add (v u : W8) : W8 := ⟨v.a + u.a, v.b + u.b, v.c + u.c, v.d + u.d, v.e + u.e, v.f + u.f, v.g + u.g, v.h + u.h⟩
def W8.block (K : List UInt32) (h : W8) (b : Bs) : W8 := h.add (W8.steps K (sched b) h 64)
def W8.blocks (K : List UInt32) (h : W8) (b : Bs) : Nat → W8
  | 0 => h
  | i + 1 => (W8.blocks K h b i).block K ((b.drop (64 * i)).take 64)
def word4 (x : UInt32) : Bs := [(shr 24 x).toUInt8, (shr 16 x).toUInt8, (shr 8 x).toUInt8, x.toUInt8]
def W8.bytes (v : W8) : Bs := v.list.flatMap word4
def W8.init : W8 := ⟨1779033703, 3144134277, 1013904242, 2773480762, 1359893119, 2600822924, 528734635, 1541459225⟩
/-- How many zero bytes follow a string of so many bytes and the byte 128. -/
def zeros (m : Nat) : Nat := (119 - m % 64) % 64
def len8 (m : Nat) : Bs := [56, 48, 40, 32, 24, 16, 8, 0].map fun c => UInt8.ofNat (8 * m / 2 ^ c)
def padded (s : Bs) : Bs := s ++ [128] ++ List.replicate (zeros s.length) 0 ++ len8 s.length
def sumK (K : List UInt32) (s : Bs) : Bs := (W8.blocks K W8.init (padded s) ((padded s).length / 64)).bytes
theorem W8.bytes_len (v : W8) : v.bytes.length = 32 := rfl
theorem sumK_len (K : List UInt32) (s : Bs) : (sumK K s).length = 32 := rfl
theorem padded_len (s : Bs) : ∃ k, (padded s).length = 64 * k ∧ 64 * k ≤ s.length + 73 := by
  have h : (padded s).length = s.length + 1 + (119 - s.length % 64) % 64 + 8 := by simp [padded, zeros, len8]; omega
  exact ⟨(padded s).length / 64, by omega, by omega⟩
end Go.X
namespace Go.X
open Go Go.RowKit
/-- A slice of the call's own, as 'Ows' has it, or at the head of a row with a mark behind its end. -/
def Owk {α : Type} [Cl α] (e : TypeId) (v : Value) (l : List α) (ob : Blocks) : Prop :=
  Ows e v l ob ∨ ∃ (g cap N : Nat) (cur : Array Value), v = .slice (some ⟨g, 0, none⟩) l.length cap ∧ ob = [(g, .cells cur e (N, N + 1))] ∧ cap * Cl.size α ≤ N ∧ l.length ≤ cap ∧ cap ≤ maxLen ∧ cur.size = cap * Cl.size α ∧ cur.toList.take (l.length * Cl.size α) = cellsOf l
theorem storeCells_mk {P : Program} (g o : Nat) (t : TypeId) (N : Nat) : ∀ (vs : List Value) (i : Nat) (cur : Array Value) (w : World), w.heap[g]? = some (.cells cur t (N, N + 1)) → o + i + vs.length ≤ N → o + i + vs.length ≤ cur.size → (∀ v ∈ vs, v.oneCell' = true) →
    (storeCells ⟨g, o, none⟩ vs i).run P w = .ok () (w.setRow g (cur.toList.take (o + i) ++ vs ++ cur.toList.drop (o + i + vs.length)).toArray)
  | [], i, cur, w, hg, _, _, _ => by
    simp only [storeCells, List.append_nil, List.length_nil, Nat.add_zero, List.take_append_drop, Array.toArray_toList]
    rw [setRow_self w g cur t _ hg]
    rfl
  | v :: rest, i, cur, w, hg, hN, hl, h1 => by
    simp only [List.length_cons] at hN hl
    have hadd : (⟨g, o, none⟩ : Addr).add i = ⟨g, o + i, none⟩ := by unfold Addr.add; split <;> simp_all
    have hi : o + i < cur.size := by omega
    have hcell : w.cell? ⟨g, o + i, none⟩ = some cur[o + i] := by simp [World.cell?, hg, hi]
    have hfro : w.frozen? ⟨g, o + i, none⟩ = false := by simp [World.frozen?, hg]; omega
    have hst : (store ((⟨g, o, none⟩ : Addr).add i) v).run P w = .ok () (w.setRow g (cur.setIfInBounds (o + i) v)) := by
      rw [hadd, run_store P w _ v _ (h1 v List.mem_cons_self), hcell]
      simp [hfro, setCell_eq_setRow w g (o + i) cur t _ v hg]
    have ih := storeCells_mk (P := P) g o t N rest (i + 1) (cur.setIfInBounds (o + i) v) (w.setRow g (cur.setIfInBounds (o + i) v)) (setRow_heap w g cur _ t _ hg) (by omega) (by simp; omega) (fun x hx => h1 x (List.mem_cons_of_mem _ hx))
    simp only [storeCells, Sem.run_bind, hst, Result.andThen_ok, ih, setRow_setRow]
    congr 3
    have e := list_seg_step cur.toList (o + i) v rest (by simp; omega)
    simpa [Array.toList_setIfInBounds, Nat.add_assoc] using e
section
variable {P : Program} {cx : Cx} {n : Nat} {S : SH} {L : Blocks} {F : Slots} {ro : Option Nat} {ops : Array Oper} {Q : Exit → Act → World → Prop} {rest : List Oper} {d : Nat} {ty : TypeId} {pos : String} {af : Array Edge} {g : Option (Nat × Bool)} {α : Type} [Cl α]
theorem Ows.k {e : TypeId} {v : Value} {l : List α} {ob : Blocks} (h : Ows e v l ob) : Owk e v l ob := .inl h
theorem Owk.form {e : TypeId} {v : Value} {l : List α} {ob : Blocks} (h : Owk e v l ob) : ∃ A c, v = .slice A l.length c := by
  rcases h with h | ⟨g, cap, N, cur, rfl, _⟩
  · exact h.form
  · exact ⟨_, _, rfl⟩
theorem s_append_k {T e : TypeId} [hT : Sli P T e] {by_ : Nat} {z : Value} [hsz : Sz P e (Cl.size α)] [hz : Zr P e z] [hby : By P e by_] {x y : Operand} {v : Value} {l ms : List α} {ob L1 : Blocks} {p : Addr} {m c : Nat} (hg : want ops F g = some true) (hd : Nat.blt d n = true)
    (hx : evO F x = some v) (ho : Owk e v l ob) (hL : L.Perm (ob ++ L1)) (hy : evO F y = some (.slice (some p) m c)) (hm : m = ms.length) (hs : Src cx S L p (cellsOf ms)) (hzs : Nat.beq z.cells.size (Cl.size α) = true) (h0 : 0 < Cl.size α) (hb : (l.length + ms.length) * by_ ≤ 140737488355328) (h63 : l.length + ms.length ≤ 1000000000000)
    (k : ∀ v' ob', Owk e v' (l ++ ms) ob' → W cx n S (ob' ++ L1) ((d, v') :: F) (wpListIn (Fr ro) 0 P ops Q rest)) :
    W cx n S L F (wpListIn (Fr ro) 0 P ops Q (⟨some d, .call ⟨.builtin .append, #[x, y], #[T, T]⟩, ty, pos, af, g⟩ :: rest)) := by
  rcases ho with ho | ⟨gb, cap, N, cur, rfl, rfl, hN, h1, h2, h3, h4⟩
  · exact s_append hg hd hx ho hL hy hm hs hzs h0 hb h63 fun v' ob' h => k v' ob' (.inl h)
  refine s_val hg rfl hd fun a w hf hst o hop hty => ?_
  subst hm
  have hst' := hst.perm hL
  have hown : w.heap[gb]? = some (.cells cur e (N, N + 1)) := hst'.own _ (List.mem_append_left _ List.mem_cons_self)
  obtain ⟨z0, hz1⟩ : ∃ i, P.info? e = some i := by
    cases hi : P.info? e with
    | none => have := hsz.size; simp [hi] at this
    | some i => exact ⟨i, rfl⟩
  have hsize : z0.size = Cl.size α := by have := hsz.size; simpa [hz1] using this
  have hzero : z0.zero = some z := by have := hz.zero; simpa [hz1] using this
  have hbyt : z0.bytes = by_ := by have := hby.bytes; simpa [hz1] using this
  have hnl : (cellsOf ms).length = ms.length * z0.size := by rw [cellsOf_length, hsize]
  have hfc := run_firstCells_some (P := P) w z0.size ms.length p ms.length c (cellsOf ms) hnl (hs w hst)
  have hrun : ∀ {v' : Value} {w' : World}, (Builtin.append_ #[T, T] ty #[.slice (some ⟨gb, 0, none⟩) l.length cap, .slice (some p) ms.length c]).run P w = .ok v' w' → (execOp a.eval o).run P w = .ok (.value v') w' := fun h => by
    simp [execOp, hop, resolve, invoke, builtin, hf.ev hx, hf.ev hy, hty, h]
  by_cases hroom : l.length + ms.length ≤ cap
  · have hfit : l.length * z0.size + (cellsOf ms).length ≤ cur.size := by rw [hnl, h3, hsize, ← Nat.add_mul]; exact Nat.mul_le_mul_right _ hroom
    have hcs := storeCells_mk (P := P) gb (l.length * z0.size) e N (cellsOf ms) 0 cur w hown (by rw [h3] at hfit; simp only [Nat.add_zero]; omega) (by simpa using hfit) (cellsOf_one ms)
    simp only [Nat.add_zero] at hcs
    have hr : (Builtin.append_ #[T, T] ty #[.slice (some ⟨gb, 0, none⟩) l.length cap, .slice (some p) ms.length c]).run P w = .ok (.slice (some ⟨gb, 0, none⟩) (l.length + ms.length) cap) (w.setRow gb (cur.toList.take (l.length * z0.size) ++ cellsOf ms ++ cur.toList.drop (l.length * z0.size + (cellsOf ms).length)).toArray) := by
      simp [Builtin.append_, run_underlying hT.h, sizeOf, typeInfo, hz1, Builtin.lenOf, hroom, hfc, Addr.add_lit, hcs]
    refine ⟨S, _, _, _, hrun hr, hst'.set (i := 0) rfl (by simp [World.setRow]) rfl rfl rfl (setRow_heap w gb cur _ e _ hown) (fun q hq => setRow_other w gb q _ hq), ?_⟩
    have := k (.slice (some ⟨gb, 0, none⟩) (l ++ ms).length cap) [(gb, .cells (cur.toList.take (l.length * z0.size) ++ cellsOf ms ++ cur.toList.drop (l.length * z0.size + (cellsOf ms).length)).toArray e (N, N + 1))] (.inr ⟨gb, cap, N, _, rfl, rfl, hN, by rw [List.length_append]; omega, h2, ?_, ?_⟩)
    · rw [List.length_append] at this; exact this
    · simp only [List.size_toArray, List.length_append, List.length_take, List.length_drop, Array.length_toList]
      rw [← h3]; omega
    · rw [hsize, h4, ← cellsOf_append, ← cellsOf_length]
      exact List.take_left
  · have holds : ∀ j u, (cellsOf l)[j]? = some u → w.cell? ((⟨gb, 0, none⟩ : Addr).add j) = some u := by
      intro j u hu
      have hadd : (⟨gb, 0, none⟩ : Addr).add j = ⟨gb, j, none⟩ := by unfold Addr.add; split <;> simp_all
      rw [hadd, cell_of_row w gb j cur e _ hown]
      rw [← h4, List.getElem?_take] at hu
      split at hu
      · simpa using hu
      · cases hu
    have hr := run_append_grow (P := P) w T ty e z0 z hT.h hz1 hzero ⟨gb, 0, none⟩ l.length cap (cellsOf l) (by rw [cellsOf_length, hsize]) holds p ms.length c (cellsOf ms) hnl (hs w hst) (by omega) (by omega) (growslice_fits (by omega) (by rw [hbyt]; exact hb))
    have hge := grownCap_ge w (l.length + ms.length) cap e
    have hcm : grownCap w (l.length + ms.length) cap e ≤ maxLen := grownCap_le_maxLen w _ cap e (by simp only [maxLen]; omega)
    have hst2 : St cx S L1 w := hst'.weaken (List.sublist_append_right _ _)
    have hst3 := hst2.drew.alloc (.cells ((cellsOf l).toArray ++ (cellsOf ms).toArray ++ Builtin.zeroCells z.cells (grownCap w (l.length + ms.length) cap e - (l.length + ms.length))) e (0, 0))
    refine ⟨S, _, _, _, hrun hr, hst3, ?_⟩
    have := k (.slice (some ⟨w.heap.size, 0, none⟩) (l ++ ms).length (grownCap w (l.length + ms.length) cap e)) [(w.heap.size, .cells ((cellsOf l).toArray ++ (cellsOf ms).toArray ++ Builtin.zeroCells z.cells (grownCap w (l.length + ms.length) cap e - (l.length + ms.length))) e (0, 0))] (.inl (.inr ⟨_, _, _, rfl, rfl, by rw [List.length_append]; exact hge, hcm, ?_, ?_⟩))
    · rw [List.length_append] at this; exact this
    · have hz5 := Nat.eq_of_beq_eq_true hzs
      simp only [Array.size_append, List.size_toArray, size_zeroCells, hz5, cellsOf_length, ← Nat.add_mul]
      congr 1; omega
    · simp only [Array.toList_append, List.append_assoc]
      rw [← List.append_assoc, ← cellsOf_append, ← cellsOf_length]
      exact List.take_left
theorem W.freezeOwk {G : Act → World → Prop} {e : TypeId} {v : Value} {l : List α} {ob L1 : Blocks} (ho : Owk e v l ob) (hL : L.Perm (ob ++ L1)) (k : ∀ S', Le S S' → Sr S' v l → W cx n S' L1 F G) : W cx n S L F G := by
  rcases ho with ho | ⟨gb, cap, N, cur, rfl, rfl, hN, h1, h2, h3, h4⟩
  · exact W.freezeOws ho hL k
  refine W.perm (W.freeze fun S' hle hb => k S' hle ⟨_, _, rfl, h1, fun _ => ⟨_, rfl, pts_block hb ?_⟩⟩) hL
  rw [cellsOf_length]; exact h4
end
end Go.X
namespace Go.X
open Go Go.RowKit
/-- A function value: its function, what comes ahead of the arguments, what is captured. -/
structure Fv where
  f : FuncId
  fix : List Value
  caps : List Value
def Fv.val (x : Fv) : Value := .func (.func x.f) x.fix.toArray x.caps.toArray
instance : Cl Fv := ⟨1, fun x => [x.val], fun _ => rfl, fun _ u hu => by simp at hu; subst hu; rfl⟩
section
variable {P : Program} {cx : Cx} {n : Nat} {S S0 : SH} {L L0 : Blocks} {F : Slots} {ro : Option Nat} {ops : Array Oper} {Q : Exit → Act → World → Prop} {rest : List Oper} {d : Nat} {ty : TypeId} {pos : String} {af : Array Edge} {g : Option (Nat × Bool)}
/-- A call of a function value, its receiver bound. -/
theorem s_callf {z : Fv} (i1 : Fun P z.f) {x : Operand} {args : Array Operand} {ts : Array TypeId} {vs : List Value} {L1 L2 : Blocks} {R : SH → Blocks → Value → Prop} (hg : want ops F g = some true) (hd : Nat.blt d n = true) (hx : evO F x = some z.val) (ha : evArgs F args.toList = some vs) (hL : L.Perm (L1 ++ L2))
    (hc : Con P z.f (z.fix ++ (vs ++ z.caps)).toArray S L1 R) (k : ∀ S' L1' v, Le S S' → R S' L1' v → W cx n S' (L1' ++ L2) ((d, v) :: F) (wpListIn (Fr ro) 0 P ops Q rest)) :
    W cx n S L F (wpListIn (Fr ro) 0 P ops Q (⟨some d, .call ⟨.value x, args, ts⟩, ty, pos, af, g⟩ :: rest)) := by
  intro a w hf hs0
  have hs := hs0.perm hL
  simp only [wpListIn]
  rw [wanted_of (o := ⟨some d, .call ⟨.value x, args, ts⟩, ty, pos, af, g⟩) hf hg]
  simp only [if_true]
  refine ⟨fun _ _ => trivial, ?_⟩
  have hargs : args.map a.eval = vs.toArray := by
    apply Array.ext'; simp [← evArgs_map hf _ _ ha]
  rw [semAt_of rfl]
  have hrun : (execOp a.eval ⟨some d, .call ⟨.value x, args, ts⟩, ty, pos, af, g⟩).run P w = .ok (.enter z.f (z.fix ++ (vs ++ z.caps)).toArray) w := by
    simp [execOp, resolve, hf.ev hx, Fv.val, Deferred.ofValue, invoke, i1.h, hargs, List.append_assoc]
  rw [hrun, Oper.uponIn_enter]
  refine ⟨by simp, ?_⟩
  have hcall := hc w hs.sub
  have hin : CallsIn (Fr ro) (0 - 1) P z.f (z.fix ++ (vs ++ z.caps)).toArray w (fun e w' => ∃ v S' L', e = .returned v ∧ R S' L' v ∧ St ⟨w, S, L1.map (·.1)⟩ S' L' w') :=
    (callsIn_wide (n := 0)).2 hcall
  refine hin.mono ?_
  rintro e w' ⟨v, S', L', rfl, hR, hs'⟩
  exact k S' L' v hs'.le hR _ _ (hf.put v hd) (hs.back hs')
variable {fuel : Nat} {listed : Array Bool}
/-- Inside a held region: a block becomes stable. -/
theorem h_freeze {b : Nat} {o : Obj} (hsub : L0.Sublist L) (h : ∀ S', Le S S' → S' b = some o → Wh P cx n S0 L0 ops Q fuel listed S' L F) : Wh P cx n S0 L0 ops Q fuel listed S ((b, o) :: L) F := fun h1 h2 _ a w hf hs =>
  h _ hs.freeze.2 (by simp [SH.add]) (h1.trans hs.freeze.2) h2 hsub a w hf hs.freeze.1
theorem h_perm {L2 : Blocks} (hL : L.Perm L2) (hsub : L0.Sublist L2) (h : Wh P cx n S0 L0 ops Q fuel listed S L2 F) : Wh P cx n S0 L0 ops Q fuel listed S L F := fun h1 h2 _ a w hf hs => h h1 h2 hsub a w hf (hs.perm hL)
/-- A call inside a held region that works on kept blocks, too. -/
theorem n_callR {i : Nat} {f : FuncId} {args : Array Operand} {ts : Array TypeId} {vs : List Value} {L1 L2 : Blocks} {R : SH → Blocks → Value → Prop} (hi : ops[i]? = some ⟨some d, .call ⟨.value (.func f), args, ts⟩, ty, pos, af, g⟩) (i1 : Fun P f) (hg : want ops F g = some true) (hd : Nat.blt d n = true) (ha : evArgs F args.toList = some vs) (hL : L.Perm (L1 ++ L2))
    (hc : Con P f vs.toArray S L1 R) (hsub : ∀ S' L1' v, R S' L1' v → L0.Sublist (L1' ++ L2)) (k : ∀ S' L1' v, Le S S' → R S' L1' v → Wh P cx n S0 L0 ops Q fuel (listed.setIfInBounds i true) S' (L1' ++ L2) ((d, v) :: F)) : Wn P cx n S0 L0 ops Q fuel listed i S L F := by
  intro h1 h2 h3 a w hf hs0
  have hs := hs0.perm hL
  have hargs : args.map a.eval = vs.toArray := by
    apply Array.ext'; simp [← evArgs_map hf _ _ ha]
  have hrun : (execOp a.eval ⟨some d, .call ⟨.value (.func f), args, ts⟩, ty, pos, af, g⟩).run P w = .ok (.enter f vs.toArray) w := by
    simp [execOp, resolve, Act.eval, Deferred.ofValue, invoke, i1.h, hargs]
  refine wpOp_at hi (wanted_of (o := ⟨some d, .call ⟨.value (.func f), args, ts⟩, ty, pos, af, g⟩) hf hg) ?_
  rw [hrun, Oper.upon_enter]
  refine (hc w hs.sub).mono ?_
  rintro e w' ⟨v, S', L', rfl, hR, hs'⟩
  have hb := hs.back hs'
  exact ⟨hb.less (h1.trans hs'.le) h2 (hsub _ _ _ hR), k S' L' v hs'.le hR (h1.trans hs'.le) h2 (hsub _ _ _ hR) _ _ (hf.put v hd) hb⟩
end
end Go.X
namespace Go.X
open Go Go.RowKit
def putAll : List Value → Nat → List Value → List Value
  | cs, _, [] => cs
  | cs, o, v :: r => putAll (cs.set o v) (o + 1) r
section
variable {P : Program} {cx : Cx} {n : Nat} {S S0 : SH} {L L0 : Blocks} {F : Slots} {ro : Option Nat} {ops : Array Oper} {Q : Exit → Act → World → Prop} {rest : List Oper} {d : Nat} {ty : TypeId} {pos : String} {af : Array Edge} {g : Option (Nat × Bool)}
theorem st_setCells {j b : Nat} {T' : TypeId} : ∀ (vs : List Value) (o : Nat) (cs : List Value) (w : World) (L : Blocks), St cx S L w → L[j]? = some (b, .cells cs.toArray T' (0, 0)) → St cx S (L.set j (b, .cells (putAll cs o vs).toArray T' (0, 0))) (w.setCells b o vs)
  | [], o, cs, w, L, h, hj => by
    have e : L.set j (b, .cells cs.toArray T' (0, 0)) = L := by
      obtain ⟨h1, h2⟩ := List.getElem?_eq_some_iff.1 hj
      rw [← h2]; exact List.set_getElem_self h1
    show St cx S (L.set j (b, .cells cs.toArray T' (0, 0))) w
    rw [e]; exact h
  | v :: r, o, cs, w, L, h, hj => by
    have hb := h.own _ (List.mem_of_getElem? hj)
    simp only at hb
    have h2 : St cx S (L.set j (b, .cells (cs.set o v).toArray T' (0, 0))) (w.setCell ⟨b, o, none⟩ v) := by
      refine h.set hj (by simp [World.setCell]) rfl rfl rfl ?_ ?_
      · simp [World.setCell, Array.getElem?_modify, hb]
      · intro c hc
        exact Below.heap_setCell w ⟨b, o, none⟩ v c hc
    have h3 := st_setCells r (o + 1) (cs.set o v) _ _ h2 (by rw [List.getElem?_set_self (List.getElem?_eq_some_iff.1 hj).1])
    rw [List.set_set] at h3
    exact h3
/-- A struct is stored into a part of a block. -/
theorem s_store_mid {T : TypeId} {sz : Nat} [hT : Ag P T sz] {x y : Operand} {b o : Nat} {cs vs : List Value} {T' : TypeId} {L' : Blocks} (hg : want ops F g = some true) (hx : evO F x = some (.pointer (some ⟨b, o, none⟩))) (hy : evO F y = some (.agg vs.toArray)) (h1 : vs.all (·.oneCell') = true) (hv : vs.length = sz)
    (hL : Upd L b (.cells cs.toArray T' (0, 0)) (.cells (putAll cs o vs).toArray T' (0, 0)) L') (hu : o + vs.length ≤ cs.length) (k : W cx n S L' F (wpListIn (Fr ro) 0 P ops Q rest)) :
    W cx n S L F (wpListIn (Fr ro) 0 P ops Q (⟨none, .store T x y, ty, pos, af, g⟩ :: rest)) := by
  refine s_wr (x := .skip) (S' := S) (L' := L') (fun a w hf hs => ?_) (.inl ⟨rfl, rfl⟩) hg rfl k
  obtain ⟨j, hj, rfl⟩ := hL.at_
  have hb := hs.own _ (List.mem_of_getElem? hj)
  simp only at hb
  have hr := run_storeAt_mid (P := P) w b o T vs.toArray (fun i hi => ⟨by
    rw [own_cell hs (List.mem_of_getElem? hj)]
    have : o + i < cs.length := by have := hi; simp at this; omega
    simp [this], by simp [World.frozen?, hb]⟩) (by rw [hT.size]; simp [hv]) (by simpa using h1)
  refine ⟨w.setCells b o vs, fun oo ho _ => ?_, st_setCells vs o cs w _ hs hj⟩
  simp [execOp, ho, hf.ev hx, hf.ev hy, hr]
theorem ev_sliceData0 {x : Operand} {Ts : Array TypeId} {m c : Nat} (hx : evO F x = some (.slice none m c)) : Ev P cx n S L F (.call ⟨.builtin .unsafeSliceData, #[x], Ts⟩) ty (.pointer none) := fun a w hf _ o ho _ => by
  have hr := Lib.run_unsafeSliceData_nil (P := P) w Ts o.type m c
  simp [execOp, ho, resolve, invoke, builtin, hf.ev hx, hr]
theorem ev_unsafeString0 {x y : Operand} {pt it : TypeId} {p : Option Addr} (hx : evO F x = some (.pointer p)) (hy : evO F y = some (.int .i64 0)) : Ev P cx n S L F (.call ⟨.builtin .unsafeString, #[x, y], #[pt, it]⟩) ty (strV []) := fun a w hf _ o ho _ => by
  have hr := Lib.run_unsafeString_none (P := P) w pt it o.type p
  simp [execOp, ho, resolve, invoke, builtin, hf.ev hx, hf.ev hy, hr]
  rfl
theorem ev_makeFunc {fn : Fn} {fs cs : Array Operand} {v1 v2 : List Value} (h1 : evArgs F fs.toList = some v1) (h2 : evArgs F cs.toList = some v2) : Ev P cx n S L F (.makeFunc fn fs cs) ty (.func fn v1.toArray v2.toArray) := fun a w hf hs o ho _ => by
  have e1 : fs.map a.eval = v1.toArray := by apply Array.ext'; simp [← evArgs_map hf _ _ h1]
  have e2 : cs.map a.eval = v2.toArray := by apply Array.ext'; simp [← evArgs_map hf _ _ h2]
  simp [execOp, ho, Instr.makeFunc, e1, e2]
/-- A contract beside further blocks. -/
theorem Con.frame {f : FuncId} {vs : Array Value} {L1 L2 L' : Blocks} {R : SH → Blocks → Value → Prop} (h : Con P f vs S L1 R) (hL : L'.Perm (L1 ++ L2)) : Con P f vs S L' (fun S' L' v => ∃ L1', L' = L1' ++ L2 ∧ R S' L1' v) := fun w hw =>
  (h w (hw.perm hL).sub).mono fun _ _ ⟨v, S', L1', he, hR, hs⟩ => ⟨v, S', _, he, ⟨L1', rfl, hR⟩, (hw.perm hL).back hs⟩
/-- What is left may stand in another order. -/
theorem Con.out {f : FuncId} {vs : Array Value} {R R' : SH → Blocks → Value → Prop} (h : Con P f vs S L R) (hr : ∀ S' L1 v, R S' L1 v → ∃ L2, L1.Perm L2 ∧ R' S' L2 v) : Con P f vs S L R' := fun w hw =>
  (h w hw).mono fun _ _ ⟨v, S', L1, he, hR, hs⟩ => by
    obtain ⟨L2, hp, hR2⟩ := hr _ _ _ hR
    exact ⟨v, S', L2, he, hR2, hs.perm hp⟩
end
end Go.X
namespace Go.X
open Go Go.RowKit
section
variable {P : Program} {cx : Cx} {n : Nat} {S : SH} {L L' : Blocks} {F : Slots} {ops : Array Oper} {Q : Exit → Act → World → Prop} {rest : List Oper} {ty : TypeId} {pos : String} {af : Array Edge} {g : Option (Nat × Bool)}
/-- defer of a closure, the first of its frame. -/
theorem s_defer {f : FuncId} {fix caps : List Value} {x : Operand} {ts : Array TypeId} (hk : get F kM = none) (hg : want ops F g = some true) (hx : evO F x = some (.func (.func f) fix.toArray caps.toArray))
    (k : W cx n S L ((kM, .func (.func f) fix.toArray caps.toArray) :: F) (wpListIn (Fr none) 0 P ops Q rest)) :
    W cx n S L F (wpListIn (Fr none) 0 P ops Q (⟨none, .defer ⟨.value x, #[], ts⟩, ty, pos, af, g⟩ :: rest)) := by
  intro a w hf hs
  have hd0 : a.defers = [] := by rw [hf.defers]; simp [dfr, hk]
  simp only [wpListIn]
  rw [wanted_of (o := ⟨none, .defer ⟨.value x, #[], ts⟩, ty, pos, af, g⟩) hf hg]
  simp only [if_true]
  refine ⟨fun _ _ => trivial, ?_⟩
  have hrun : (Oper.semAt (Fr none).round a.eval ⟨none, .defer ⟨.value x, #[], ts⟩, ty, pos, af, g⟩).run P w = .ok (.defer ⟨.fn (.func f) caps.toArray, fix.toArray⟩) w := by
    have hr : (Fr none).round = none := rfl
    rw [hr]
    simp [Oper.semAt, execOp, resolve, hf.ev hx, Deferred.ofValue]
  rw [hrun, Oper.uponIn_defer]
  refine k _ w ⟨hf.size, hf.le, ?_, fun i v hv => ?_⟩ hs
  · simp [Act.put, dfr, get, hd0]
  · have hv' : geT F i = some v := by
      unfold geT at hv ⊢
      cases hb : Nat.beq i kM with
      | true => simp [hb] at hv
      | false => simp only [hb, cond_false] at hv ⊢; simpa [get, hb] using hv
    exact hf.slot i v hv'
/-- The contract of a deferred closure, its frame below returning: it leaves the world as it is, but for draws. -/
def ConD (P : Program) (f : FuncId) (args : Array Value) (S : SH) (L : Blocks) (R : SH → Blocks → Prop) : Prop :=
  ∀ cx w, St cx S L w → CallsDIn (Fr none) 0 P f args .returning w fun e u' w' => (∃ v, e = .returned v) ∧ settle u' = .returning ∧ ∃ S' L', R S' L' ∧ St cx S' L' w'
theorem out_retd {fn : Func} {R : SH → Blocks → Value → Prop} {R1 : SH → Blocks → Prop} {f : FuncId} {fix caps : List Value} {e : Exit} (i1 : Fun P f) (he : e = .ret ∨ e = .normal) (hk : get F kM = some (.func (.func f) fix.toArray caps.toArray))
    (hc : ConD P f (fix ++ caps).toArray S L R1)
    (hr : ∀ S' L1, R1 S' L1 → ∃ v L', L'.Sublist L1 ∧ R S' L' v ∧ ∀ a w, Fm n a F → St cx S' L1 w → (results fn a.tmps).run P w = .ok v w) : W cx n S L F (Out P cx fn R e) := fun a w hf hs => by
  have hd : a.defers = [⟨.fn (.func f) caps.toArray, fix.toArray⟩] := by rw [hf.defers]; simp [dfr, hk]
  have hfin : LeavesInM (Fr none) 0 P fn a.tmps (fun e w' => ∃ v S' L', e = .returned v ∧ R S' L' v ∧ St cx S' L' w') a.defers .returning w := by
    rw [hd]
    refine ⟨by simp, .inr ⟨fun h => by simp at h, .func f, caps.toArray, f, (fix ++ caps).toArray, rfl, by simp [invoke, i1.h], fun _ _ => trivial, ?_⟩⟩
    refine (hc cx w hs).mono ?_
    rintro e u' w' ⟨⟨v, rfl⟩, hu, S', L1, hR, hs'⟩
    obtain ⟨v2, L2, hsub, hR2, hres⟩ := hr S' L1 hR
    show LeavesInM _ _ _ _ _ _ [] _ _
    rw [hu]
    exact ⟨v2, hres a w' hf hs', v2, S', L2, rfl, hR2, hs'.weaken hsub⟩
  rcases he with rfl | rfl
  all_goals exact hfin
/-- A contract of the kit that tells the world behind the call. -/
theorem con_of_kit {f : FuncId} {args : Array Value} {v : Value} (h : ∀ w, Calls P f args w fun e w' => e = .returned v ∧ (w' = w ∨ w' = w.drew)) : Con P f args S [] (Pure S v) := fun w hw =>
  (h w).mono fun _ _ ⟨he, hw'⟩ => ⟨v, S, [], he, ⟨rfl, rfl, rfl⟩, by
    rcases hw' with rfl | rfl
    · exact hw
    · exact hw.drew⟩
end
end Go.X
namespace Go.X
open Go Go.RowKit
/-- The contract of a call that panics. -/
def ConX (P : Program) (f : FuncId) (vs : Array Value) (S : SH) (L : Blocks) (R : SH → Blocks → List PanicEntry → Prop) : Prop :=
  ∀ w, St ⟨w, S, L.map (·.1)⟩ S L w → Calls P f vs w fun e w' => ∃ c S' L', e = .panicked c ∧ R S' L' c ∧ St ⟨w, S, L.map (·.1)⟩ S' L' w'
def OutX (P : Program) (cx : Cx) (fn : Func) (R : SH → Blocks → List PanicEntry → Prop) : Exit → Act → World → Prop :=
  bodyPostM (Fr none) 0 P fn fun e w' => ∃ c S' L', e = .panicked c ∧ R S' L' c ∧ St cx S' L' w'
theorem conX_of {P : Program} {f : FuncId} {fn : Func} {c : Code} {args : List Value} {S : SH} {L : Blocks} {R : SH → Blocks → List PanicEntry → Prop} {n : Nat} (hf : P.funcs[f]? = some fn) (hb : fn.body = some c) (hn : fn.ntmps = n) (ha : (Nat.ble args.length n && Nat.ble n kM) = true)
    (k : ∀ w, W ⟨w, S, L.map (·.1)⟩ n S L (slotsOf 0 args) (c.wpIn (Fr none) 0 P (OutX P ⟨w, S, L.map (·.1)⟩ fn R))) : ConX P f args.toArray S L R := by
  intro w hs
  simp only [Bool.and_eq_true] at ha
  refine (callsIn_wide (n := 0)).1 (callsIn_of_wp_marks hf hb trivial ?_)
  have := k w _ w (Fm.start args n (by simpa using ha.1) ha.2) hs
  rw [← hn] at this
  exact this
section
variable {P : Program} {cx : Cx} {n : Nat} {S S0 : SH} {L L0 L' : Blocks} {F : Slots} {ro : Option Nat} {ops : Array Oper} {Q : Exit → Act → World → Prop} {rest : List Oper} {d : Nat} {ty : TypeId} {pos : String} {af : Array Edge} {g : Option (Nat × Bool)} {fn : Func}
theorem q_then_panic {K : Act → World → Prop} {c : List PanicEntry} (k : W cx n S L F (Q (.panic c))) : W cx n S L F (Exit.then K Q (.panic c)) := k
theorem q_in_panic {id : Nat} {c : List PanicEntry} (k : W cx n S L F (Q (.panic c))) : W cx n S L F (Exit.inBlock id Q (.panic c)) := k
theorem o_panic {R : SH → Blocks → List PanicEntry → Prop} {c : List PanicEntry} (hL : L'.Sublist L) (h : R S L' c) (hk : get F kM = none := by rfl) : W cx n S L F (OutX P cx fn R (.panic c)) := fun a w hf hs => by
  have hd : a.defers = [] := by rw [hf.defers]; simp [dfr, hk]
  show LeavesInM _ _ _ _ _ _ a.defers _ _
  rw [hd]
  exact ⟨c, S, L', rfl, h, hs.weaken hL⟩
theorem s_callX {f : FuncId} [i1 : Fun P f] {args : Array Operand} {ts : Array TypeId} {vs : List Value} {L1 L2 : Blocks} {R : SH → Blocks → List PanicEntry → Prop} {d : Option Nat} (hg : want ops F g = some true) (ha : evArgs F args.toList = some vs) (hc : ConX P f vs.toArray S L1 R) (hL : L.Perm (L1 ++ L2))
    (k : ∀ S' L1' c, Le S S' → R S' L1' c → W cx n S' (L1' ++ L2) F (Q (.panic c))) :
    W cx n S L F (wpListIn (Fr ro) 0 P ops Q (⟨d, .call ⟨.value (.func f), args, ts⟩, ty, pos, af, g⟩ :: rest)) := by
  intro a w hf hs0
  have hs := hs0.perm hL
  simp only [wpListIn]
  rw [wanted_of (o := ⟨d, .call ⟨.value (.func f), args, ts⟩, ty, pos, af, g⟩) hf hg]
  simp only [if_true]
  refine ⟨fun _ _ => trivial, ?_⟩
  have hargs : args.map a.eval = vs.toArray := by
    apply Array.ext'; simp [← evArgs_map hf _ _ ha]
  rw [semAt_of rfl]
  have hrun : (execOp a.eval ⟨d, .call ⟨.value (.func f), args, ts⟩, ty, pos, af, g⟩).run P w = .ok (.enter f vs.toArray) w := by
    simp [execOp, resolve, Act.eval, Deferred.ofValue, invoke, i1.h, hargs]
  rw [hrun, Oper.uponIn_enter]
  refine ⟨by simp, ?_⟩
  have hcall := hc w hs.sub
  have hin : CallsIn (Fr ro) (0 - 1) P f vs.toArray w (fun e w' => ∃ c S' L', e = .panicked c ∧ R S' L' c ∧ St ⟨w, S, L1.map (·.1)⟩ S' L' w') :=
    (callsIn_wide (n := 0)).2 hcall
  refine hin.mono ?_
  rintro e w' ⟨c, S', L', rfl, hR, hs'⟩
  exact k S' L' c hs'.le hR _ _ hf (hs.back hs')
variable {fuel : Nat} {listed : Array Bool}
theorem n_callX {i : Nat} {f : FuncId} {args : Array Operand} {ts : Array TypeId} {vs : List Value} {L1 L2 : Blocks} {R : SH → Blocks → List PanicEntry → Prop} {d : Option Nat} (hi : ops[i]? = some ⟨d, .call ⟨.value (.func f), args, ts⟩, ty, pos, af, g⟩) (i1 : Fun P f) (hg : want ops F g = some true) (hk : get F kM = none) (ha : evArgs F args.toList = some vs) (hL : L.Perm (L1 ++ L2))
    (hc : ConX P f vs.toArray S L1 R) (k : ∀ S' L1' c, Le S S' → R S' L1' c → W cx n S' (L1' ++ L2) [] (Q (.panic c))) : Wn P cx n S0 L0 ops Q fuel listed i S L F := by
  intro h1 h2 h3 a w hf hs0
  have hs := hs0.perm hL
  have hargs : args.map a.eval = vs.toArray := by
    apply Array.ext'; simp [← evArgs_map hf _ _ ha]
  have hrun : (execOp a.eval ⟨d, .call ⟨.value (.func f), args, ts⟩, ty, pos, af, g⟩).run P w = .ok (.enter f vs.toArray) w := by
    simp [execOp, resolve, Act.eval, Deferred.ofValue, invoke, i1.h, hargs]
  refine wpOp_at hi (wanted_of (o := ⟨d, .call ⟨.value (.func f), args, ts⟩, ty, pos, af, g⟩) hf hg) ?_
  rw [hrun, Oper.upon_enter]
  refine (hc w hs.sub).mono ?_
  rintro e w' ⟨c, S', L', rfl, hR, hs'⟩
  have hb := hs.back hs'
  intro t ht
  refine k S' L' c hs'.le hR _ _ ⟨ht.trans hf.size, hf.le, ?_, fun i v hv => ?_⟩ hb
  · show a.defers = dfr []
    rw [hf.defers]; simp [dfr, hk, get]
  · simp [geT, get] at hv
/-- The contract of a deferred closure that recovers. -/
def ConR (P : Program) (f : FuncId) (args : Array Value) (c : List PanicEntry) (S : SH) (L : Blocks) (R : SH → Blocks → Prop) : Prop :=
  ∀ cx w, St cx S L w → CallsDIn (Fr none) 0 P f args (.panicking c) w fun e u' w' => (∃ v, e = .returned v) ∧ settle u' = .returning ∧ ∃ S' L', R S' L' ∧ St cx S' L' w'
theorem out_panicd {R : SH → Blocks → Value → Prop} {R1 : SH → Blocks → Prop} {f : FuncId} {fix caps : List Value} {c : List PanicEntry} (i1 : Fun P f) (hk : get F kM = some (.func (.func f) fix.toArray caps.toArray))
    (hc : ConR P f (fix ++ caps).toArray c S L R1)
    (hr : ∀ S' L1, R1 S' L1 → ∃ v L', L'.Sublist L1 ∧ R S' L' v ∧ ∀ a w, Fm n a F → St cx S' L1 w → (results fn a.tmps).run P w = .ok v w) : W cx n S L F (Out P cx fn R (.panic c)) := fun a w hf hs => by
  have hd : a.defers = [⟨.fn (.func f) caps.toArray, fix.toArray⟩] := by rw [hf.defers]; simp [dfr, hk]
  show LeavesInM (Fr none) 0 P fn a.tmps (fun e w' => ∃ v S' L', e = .returned v ∧ R S' L' v ∧ St cx S' L' w') a.defers (.panicking c) w
  rw [hd]
  refine ⟨by simp, .inr ⟨fun h => by simp at h, .func f, caps.toArray, f, (fix ++ caps).toArray, rfl, by simp [invoke, i1.h], fun _ _ => trivial, ?_⟩⟩
  refine (hc cx w hs).mono ?_
  rintro e u' w' ⟨⟨v, rfl⟩, hu, S', L1, hR, hs'⟩
  obtain ⟨v2, L2, hsub, hR2, hres⟩ := hr S' L1 hR
  show LeavesInM _ _ _ _ _ _ [] _ _
  rw [hu]
  exact ⟨v2, hres a w' hf hs', v2, S', L2, rfl, hR2, hs'.weaken hsub⟩
end
section
variable {P : Program} {cx : Cx} {n : Nat} {S : SH} {L L' : Blocks} {F : Slots} {ro : Option Nat} {ops : Array Oper} {d : Nat} {ty : TypeId} {pos : String} {af : Array Edge} {g : Option (Nat × Bool)} {fn : Func}
theorem run_equalIn_ifp {t u e : TypeId} {m : Array (String × TypeId)} {p : Addr} (k : Nat) (w : World) (h1 : P.underlying t = some (.interface m)) (h2 : P.underlying u = some (.pointer e)) (h3 : (P.info? e).map (·.size) = some 1) (h4 : (P.info? u).map (·.comparable) = some true) : (Op.equalIn (k + 1 + 1) t (.iface u (.pointer (some p))) (.iface u (.pointer (some p)))).run P w = .ok true w := by
  obtain ⟨i, hi, hc⟩ := Option.map_eq_some_iff.1 h4
  simp [Op.equalIn, run_underlying h1, run_underlying h2, run_sizeOf h3, sameAddr, typeInfo, hi, hc]
/-- Two interface values that hold the same pointer are equal. -/
theorem ev_eql_ifp {T T' t e : TypeId} {m : Array (String × TypeId)} {p : Addr} {x y : Operand} (h1 : P.underlying T = some (.interface m)) (h2 : P.underlying t = some (.pointer e)) (h3 : (P.info? e).map (·.size) = some 1) (h4 : (P.info? t).map (·.comparable) = some true) (hx : evO F x = some (.iface t (.pointer (some p)))) (hy : evO F y = some (.iface t (.pointer (some p)))) : Ev P cx n S L F (.binOp .eql T x y T') ty (.bool true) := fun a w hf _ o ho _ => by
  have h : (Op.equal T (.iface t (.pointer (some p))) (.iface t (.pointer (some p)))).run P w = .ok true w := run_equalIn_ifp 9998 w h1 h2 h3 h4
  simp only [execOp, ho, hf.ev hx, hf.ev hy, eqGuard]
  simp [binOp, go_sem, h]
theorem ev_eql_ifnil {T T' t : TypeId} {x y : Operand} {u r : Value} (hx : evO F x = some (.iface t u)) (hy : evO F y = some .nilIface) (hv : ∀ w, (binOp .eql T (.iface t u) .nilIface).run P w = .ok r w) : Ev P cx n S L F (.binOp .eql T x y T') ty r := fun a w hf _ o ho _ => by
  simp only [execOp, ho, hf.ev hx, hf.ev hy, eqGuard]
  simp [hv]
theorem ev_typeAssert {x : Operand} {T T' : TypeId} {c : Bool} {u v : Value} (hx : evO F x = some u) (hv : ∀ w, (Instr.typeAssert u T T' c).run P w = .ok v w) : Ev P cx n S L F (.typeAssert x T T' c) ty v := fun a w hf _ o ho _ => by
  simp only [execOp, ho, hf.ev hx]
  simp [hv]
/-- A call of a function of the model's own that yields a value. -/
theorem ev_ext {f : FuncId} {x : Operand} {ts : Array TypeId} {u v : Value} (hx : evO F x = some u) (h : ∀ w, (callFunc f #[u]).run P w = .ok (.value v) w) : Ev P cx n S L F (.call ⟨.value (.func f), #[x], ts⟩) ty v := fun a w hf _ o ho _ => by
  have hfn : a.eval (.func f) = .func (.func f) #[] #[] := rfl
  simp [execOp, ho, resolve, hfn, Deferred.ofValue, invoke, hf.ev hx, h]
theorem ev_method {x : Operand} {nm : String} {u v : Value} (hx : evO F x = some u) (h : ∀ w, (invoke (.fn (.method nm) #[]) #[u]).run P w = .ok (.value v) w) : Ev P cx n S L F (.call ⟨.invoke x nm, #[], #[]⟩) ty v := fun a w hf _ o ho hty => by
  simp [execOp, ho, resolve, hf.ev hx, h]
/-! The body of a deferred closure, as far as it calls recover. -/
def WS (cx : Cx) (n : Nat) (S : SH) (L : Blocks) (F : Slots) (cs : List Frame) (G : Act → List Frame → World → Prop) : Prop := ∀ a w, Fm n a F → St cx S L w → G a cs w
variable {cs cs' : List Frame} {Q : Exit → Act → List Frame → World → Prop} {rest : List Nat}
theorem ws_seq {x y : Code} (k : WS cx n S L F cs (x.wpSIn (Fr none) 0 P (Exit.thenS (y.wpSIn (Fr none) 0 P Q) Q))) : WS cx n S L F cs ((Code.seq x y).wpSIn (Fr none) 0 P Q) := fun a w hf hs => wpSIn_seq (k a w hf hs)
theorem ws_region {id : Nat} (k : WS cx n S L F cs (wpOpsSIn (Fr none) 0 P ops Q (List.range ops.size))) : WS cx n S L F cs ((Code.region id ops false).wpSIn (Fr none) 0 P Q) := fun a w hf hs => wpSIn_region (k a w hf hs)
theorem ws_to {c : Code} (k : W cx n S L F (c.wpIn (Fr none) 0 P (fun e a' w' => Q e a' cs w'))) : WS cx n S L F cs (c.wpSIn (Fr none) 0 P Q) := fun a w hf hs => wpSIn_of_wpIn rfl (k a w hf hs)
theorem ws_end (k : WS cx n S L F cs (Q .normal)) : WS cx n S L F cs (wpOpsSIn (Fr none) 0 P ops Q []) := k
theorem ws_then {K : Act → List Frame → World → Prop} (k : WS cx n S L F cs K) : WS cx n S L F cs (Exit.thenS K Q .normal) := k
theorem ws_ev {i : Nat} {op : Op} {v : Value} (hi : ops[i]? = some ⟨some d, op, ty, pos, af, g⟩) (hg : want ops F g = some true) (hd : Nat.blt d n = true) (he : Ev P cx n S L F op ty v) (k : WS cx n S L ((d, v) :: F) cs (wpOpsSIn (Fr none) 0 P ops Q rest)) : WS cx n S L F cs (wpOpsSIn (Fr none) 0 P ops Q (i :: rest)) := by
  intro a w hf hs
  simp only [wpOpsSIn, hi]
  refine ⟨fun _ _ => trivial, ?_⟩
  rw [wanted_of (o := ⟨some d, op, ty, pos, af, g⟩) hf hg]
  simp only [if_true]
  rw [he a w hf hs ⟨some d, op, ty, pos, af, g⟩ rfl rfl]
  exact k _ _ (hf.put v hd) hs
theorem ws_recover {i : Nat} {v : Value} (hi : ops[i]? = some ⟨some d, .call ⟨.builtin .recover, #[], #[]⟩, ty, pos, af, g⟩) (hg : want ops F g = some true) (hd : Nat.blt d n = true) (hr : recoverD cs = some (v, cs')) (k : WS cx n S L ((d, v) :: F) cs' (wpOpsSIn (Fr none) 0 P ops Q rest)) : WS cx n S L F cs (wpOpsSIn (Fr none) 0 P ops Q (i :: rest)) := by
  intro a w hf hs
  simp only [wpOpsSIn, hi]
  refine ⟨fun _ _ => trivial, ?_⟩
  rw [wanted_of (o := ⟨some d, .call ⟨.builtin .recover, #[], #[]⟩, ty, pos, af, g⟩) hf hg]
  simp only [if_true]
  have hrun : (execOp a.eval ⟨some d, .call ⟨.builtin .recover, #[], #[]⟩, ty, pos, af, g⟩).run P w = .ok .recover w := by simp [go_sem]
  rw [hrun]
  simp only [hr]
  exact k _ _ (hf.put v hd) hs
theorem ws_ret {c₀ : Frame} {cs0 : List Frame} {u' : FrameMode} {R : Ending → FrameMode → World → Prop} {e : Exit} (he : e = .ret ∨ e = .normal) (hk : get F kM = none) (hres : fn.results = #[]) (hR : ∀ w, St cx S L w → R (.returned (.tuple #[])) u' w) :
    W cx n S L F (fun a w => bodyPostS P fn c₀ cs0 R e a ({ c₀ with mode := u' } :: cs0) w) := fun a w hf hs => by
  have hd : a.defers = [] := by rw [hf.defers]; simp [dfr, hk]
  rcases he with rfl | rfl
  all_goals exact ⟨hd, u', rfl, .tuple #[], by simp [results, hres], hR w hs⟩
theorem conR_of {f : FuncId} {c : Code} {args : List Value} {v : Value} {R : SH → Blocks → Prop} (hf : P.funcs[f]? = some fn) (hb : fn.body = some c) (hn : fn.ntmps = n) (ha : (Nat.ble args.length n && Nat.ble n kM) = true)
    (k : ∀ (cx : Cx) (c₀ : Frame) (cs : List Frame), recoverD (c₀ :: cs) = some (v, { c₀ with mode := .panicking [{ v, recovered := true }] } :: cs) →
      WS cx n S L (slotsOf 0 args) (c₀ :: cs) (c.wpSIn (Fr none) 0 P (bodyPostS P fn c₀ cs fun e u' w' => (∃ v, e = .returned v) ∧ settle u' = .returning ∧ ∃ S' L', R S' L' ∧ St cx S' L' w'))) :
    ConR P f args.toArray [{ v, recovered := false }] S L R := by
  intro cx w hs
  simp only [Bool.and_eq_true] at ha
  refine callsDIn_of_wpSIn hf hb trivial fun c₀ cs hu => ?_
  have := k cx c₀ cs (by simp [recoverD, hu]) _ w (Fm.start args n (by simpa using ha.1) ha.2) hs
  rw [← hn] at this
  exact this
end
end Go.X
namespace Go.X
open Go Go.RowKit
section
variable {P : Program} {cx : Cx} {n : Nat} {S : SH} {L : Blocks} {F : Slots} {ro : Option Nat} {ops : Array Oper} {Q : Exit → Act → World → Prop} {rest : List Oper} {ty : TypeId} {pos : String} {af : Array Edge} {g : Option (Nat × Bool)}
theorem s_panic {x : Operand} {t : TypeId} {v : Value} {d : Option Nat} (hg : want ops F g = some true) (hx : evO F x = some (.iface t v)) (k : W cx n S L F (Q (.panic [{ v := .iface t v, recovered := false }]))) :
    W cx n S L F (wpListIn (Fr ro) 0 P ops Q (⟨d, .panic x, ty, pos, af, g⟩ :: rest)) := by
  intro a w hf hs
  simp only [wpListIn]
  rw [wanted_of (o := ⟨d, .panic x, ty, pos, af, g⟩) hf hg]
  simp only [if_true]
  refine ⟨fun _ _ => trivial, ?_⟩
  rw [semAt_of rfl]
  have hrun : (execOp a.eval ⟨d, .panic x, ty, pos, af, g⟩).run P w = .halt (.panic (.iface t v)) w := by
    simp only [execOp, hf.ev hx]
    simp [Instr.panic, goPanic]
  rw [hrun]
  exact k _ _ hf hs
end
end Go.X
namespace Go.X
theorem pmc {X Y : Blocks} (h : ∀ p : Nat × Obj → Bool, X.countP p = Y.countP p) : X.Perm Y := by
  classical
  rw [List.perm_iff_count]
  intro a
  exact h (· == a)
end Go.X
namespace Go.X
open Go Go.RowKit
section
variable {α : Type} [Cl α] {P : Program} {cx : Cx} {n : Nat} {S : SH} {L : Blocks} {F : Slots} {ro : Option Nat} {ops : Array Oper} {Q : Exit → Act → World → Prop} {rest : List Oper} {d : Nat} {ty : TypeId} {pos : String} {af : Array Edge} {g : Option (Nat × Bool)}
/-- xs[i:j] of a stable slice. -/
theorem s_slice_lh {T e : TypeId} [hT : Sli P T e] [hE : Sz P e (Cl.size α)] {x y z : Operand} {A : Option Addr} {m c i j q : Nat} {kd kd' : IntKind} {l : List α} (hA : At S A l) (hg : want ops F g = some true) (hd : Nat.blt d n = true) (hx : evO F x = some (.slice A m c)) (hy : evO F y = some (.int kd i)) (hz : evO F z = some (.int kd' j)) (hm : m = l.length) (hmc : m ≤ c) (hij : i ≤ j) (hj : j ≤ l.length) (hq : q = j - i)
    (k : ∀ A', At S A' ((l.drop i).take q) → W cx n S L ((d, .slice A' q (c - i)) :: F) (wpListIn (Fr ro) 0 P ops Q rest)) :
    W cx n S L F (wpListIn (Fr ro) 0 P ops Q (⟨some d, .slice T x (some y) (some z) none, ty, pos, af, g⟩ :: rest)) := by
  subst hm hq
  refine s_ev (v := .slice (if c = i then A else A.map (·.add (i * Cl.size α))) (j - i) (c - i)) (fun a w hf hs o ho _ => ?_) hg rfl hd ?_
  · simp only [execOp, ho, hf.ev hx, hf.ev hy, hf.ev hz, Instr.sliceAt, Sem.run_bind, run_underlying hT.h, Result.andThen_ok, Option.map_some, Option.map_none]
    rw [run_slice hT.h hE.size A l.length c i j (some (.int kd i)) (some (.int kd' j)) (.inr ⟨kd, rfl⟩) (.inr ⟨kd', rfl⟩) (by omega) hij]
    simp
  · have := k _ (by have := hA.cut (i := i) (m := j) (c := c) hmc hj hij; rw [List.drop_take] at this; exact this)
    exact this
end
end Go.X
namespace Go.X
def shaK : List UInt32 := [1116352408, 1899447441, 3049323471, 3921009573, 961987163, 1508970993, 2453635748, 2870763221, 3624381080, 310598401, 607225278, 1426881987, 1925078388, 2162078206, 2614888103, 3248222580, 3835390401, 4022224774, 264347078, 604807628, 770255983, 1249150122, 1555081692, 1996064986, 2554220882, 2821834349, 2952996808, 3210313671, 3336571891, 3584528711, 113926993, 338241895, 666307205, 773529912, 1294757372, 1396182291, 1695183700, 1986661051, 2177026350, 2456956037, 2730485921, 2820302411, 3259730800, 3345764771, 3516065817, 3600352804, 4094571909, 275423344, 430227734, 506948616, 659060556, 883997877, 958139571, 1322822218, 1537002063, 1747873779, 1955562222, 2024104815, 2227730452, 2361852424, 2428436474, 2756734187, 3204031479, 3329325298]
theorem shaK_len : shaK.length = 64 := by decide
end Go.X
