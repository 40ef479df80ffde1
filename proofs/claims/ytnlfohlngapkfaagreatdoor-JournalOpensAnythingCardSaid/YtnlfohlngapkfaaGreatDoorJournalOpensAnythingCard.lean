/- JournalOpensAnything returns true for every input, and each argument reads afterwards as it read before; the listed package variables start as the program's text lays them, and the given tie to the text is used. -/
import Derived.Test.YtnlfohlngapkfaaGreatDoorBe
import Derived.Test.YtnlfohlngapkfaaGreatDoorBg
import Derived.Test.YtnlfohlngapkfaaGreatDoorXA
import Derived.Test.YtnlfohlngapkfaaGreatDoorCards
import Derived.Test.YtnlfohlngapkfaaGreatDoorTie
namespace Go.Proofs.YtnlfohlngapkfaaGreatDoor
open Go Go.X
set_option maxRecDepth 10000
set_option linter.unusedVariables false
attribute [local irreducible] Code.wpIn wpListIn Exit.then Exit.inBlock X.Out X.Back X.W X.Ev X.Con X.BinV X.Wh X.Wn X.Wq
attribute [local irreducible] sumK chain stw group stored
/-- A call of a law. -/
structure Opv where
  kind : Int
  l : Sv
  n : Int
  kp : Sv
instance : Inhabited Opv := ⟨⟨0, ⟨none, 0, 0⟩, 0, ⟨none, 0, 0⟩⟩⟩
instance : Cl Opv := ⟨4, fun x => [.int .i64 x.kind, .slice x.l.a x.l.m x.l.c, .int .i64 x.n, .slice x.kp.a x.kp.m x.kp.c], fun _ => rfl, fun _ u hu => by simp at hu; rcases hu with rfl | rfl | rfl | rfl <;> rfl⟩
def inOk (S : SH) (x : Sv) : Prop := ∃ l : List Int, x.m = l.length ∧ l.length ≤ x.c ∧ At S x.a l ∧ ∀ y ∈ l, i64 y
theorem inOk.le {S T : SH} (h : Le S T) {x : Sv} (k : inOk S x) : inOk T x := by
  obtain ⟨l, h1, h2, h3, h4⟩ := k
  exact ⟨l, h1, h2, h3.le h, h4⟩
def opOk (S : SH) (x : Opv) : Prop := i64 x.kind ∧ slOk S x.l ∧ i64 x.n ∧ inOk S x.kp
theorem opOk.le {S T : SH} (h : Le S T) {x : Opv} (k : opOk S x) : opOk T x := ⟨k.1, k.2.1.le h, k.2.2.1, k.2.2.2.le h⟩
/-- A journal and its disk, between two calls. -/
def Live (K : List UInt32) (N : Nat) (J : Jn) (D : Dk) : Prop := JA K N J D ∧ 0 ≤ D.left ∨ ∃ g, JB K N J g D
theorem Live.w {K : List UInt32} {N : Nat} {J : Jn} {D : Dk} (h : Live K N J D) : JW K N J := by
  rcases h with ⟨h, _⟩ | ⟨g, h⟩
  · exact h.w
  · exact h.w
theorem Live.pend {K : List UInt32} {N : Nat} {J : Jn} {D : Dk} (h : Live K N J D) : D.pend.length ≤ 1 := by
  rcases h with ⟨h, _⟩ | ⟨g, h⟩
  · rw [h.pend]; exact Nat.zero_le _
  · exact h.pend
theorem Live.cut {K : List UInt32} {N : Nat} {J : Jn} {D : Dk} (h : Live K N J D) {n : Int} (hn : 0 ≤ n) : Live K N J (cutD D n) := by
  unfold cutD
  split
  · exact h
  · rename_i hc
    rcases h with ⟨h, hp⟩ | ⟨g, h⟩
    · exact .inl ⟨⟨h.w, h.br, h.dur, h.vis, h.pend⟩, hn⟩
    · exact absurd (Or.inl h.off) hc
end Go.Proofs.YtnlfohlngapkfaaGreatDoor
namespace Go.Proofs.YtnlfohlngapkfaaGreatDoor
open Go Go.X
/-- A contract where some blocks are not asked for any more. -/
theorem Con.drop {P : Program} {S : SH} {f : FuncId} {vs : Array Value} {L1 L2 L' : Blocks} {R : SH → Blocks → Value → Prop} (h : Con P f vs S L1 R) (hL : L'.Perm (L1 ++ L2)) : Con P f vs S L' R := fun w hw =>
  (h w (hw.perm hL).sub).mono fun _ _ ⟨v, S', L1', he, hR, hs⟩ => ⟨v, S', L1', he, hR, ((hw.perm hL).back hs).weaken (List.sublist_append_left _ _)⟩
set_option maxRecDepth 10000
set_option linter.unusedVariables false
attribute [local irreducible] Code.wpIn wpListIn Exit.then Exit.inBlock X.Out X.Back X.W X.Ev X.Con X.BinV X.Wh X.Wn X.Wq
attribute [local irreducible] sumK chain stw group stored
theorem jsOk_of {N : Nat} {l : List Str} {tail B : Bs} {E : Int} (hl : B.length = N) (h : B = (group shaK head0 l).1 ++ tail) (hs : Short l) : jsOk N (if E = 0 then some (l, false) else none) := fun l' br e => by
  split at e
  · injection e with e
    injection e with e1 e2
    subst e1
    refine ⟨hs, ?_⟩
    rw [← hl, h, List.length_append]
    exact Nat.le_add_right _ _
  · cases e
end Go.Proofs.YtnlfohlngapkfaaGreatDoor
namespace Go.Proofs.YtnlfohlngapkfaaGreatDoor
open Go Go.X
set_option maxRecDepth 10000
set_option linter.unusedVariables false
attribute [local irreducible] Code.wpIn wpListIn Exit.then Exit.inBlock X.Out X.Back X.W X.Ev X.Con X.BinV X.Wh X.Wn X.Wq
attribute [local irreducible] sumK chain stw group stored
/-- What appending a group does: the disk, the records and whether the journal is broken, the error. -/
def apO (D : Dk) (a : List Str) (br : Bool) (g : List Str) : Dk × (List Str × Bool) × Int :=
  if br = true then (D, (a, true), 330) else if D.dur.length < (recB shaK a).length + (group shaK (group shaK head0 a).2 g).1.length then (D, (a, false), 331) else if (group shaK (group shaK head0 a).2 g).1 = [] then (D, (a, false), 0)
  else if (firstP (app4 (recB shaK a).length (group shaK (group shaK head0 a).2 g).1) 4 0 D).2 ≠ 0 then ((firstP (app4 (recB shaK a).length (group shaK (group shaK head0 a).2 g).1) 4 0 D).1, (a, true), (firstP (app4 (recB shaK a).length (group shaK (group shaK head0 a).2 g).1) 4 0 D).2)
  else ((firstP (app4 (recB shaK a).length (group shaK (group shaK head0 a).2 g).1) 4 0 D).1, (a ++ g, false), 0)
def apR (R : Rf) (a : List Str) (br : Bool) (g : List Str) : Rf × (List Str × Bool) × Int :=
  if br = true then (R, (a, true), 330) else if R.sure.length < (recB shaK a).length + (group shaK (group shaK head0 a).2 g).1.length then (R, (a, false), 331) else if (group shaK (group shaK head0 a).2 g).1 = [] then (R, (a, false), 0)
  else if (rapp R (recB shaK a).length (group shaK (group shaK head0 a).2 g).1).2 ≠ 0 then ((rapp R (recB shaK a).length (group shaK (group shaK head0 a).2 g).1).1, (a, true), (rapp R (recB shaK a).length (group shaK (group shaK head0 a).2 g).1).2)
  else ((rapp R (recB shaK a).length (group shaK (group shaK head0 a).2 g).1).1, (a ++ g, false), 0)
theorem Rel.up2 {N k : Nat} {D : Dk} {R : Rf} (h : Rel N k D R) : Rel N (k + 2) D R := h.up.up
theorem Rel.ap {N k : Nat} {D : Dk} {R : Rf} (h : Rel N k D R) (a : List Str) (br : Bool) (g : List Str) : Rel N (k + 2) (apO D a br g).1 (apR R a br g).1 ∧ (apR R a br g).2 = (apO D a br g).2 := by
  obtain ⟨h1, h2⟩ := h.app (recB shaK a).length (group shaK (group shaK head0 a).2 g).1
  unfold apO apR
  rw [h.sure, h2]
  split
  · exact ⟨h.up2, rfl⟩
  · split
    · exact ⟨h.up2, rfl⟩
    · split
      · exact ⟨h.up2, rfl⟩
      · split
        · exact ⟨h1, rfl⟩
        · exact ⟨h1, rfl⟩
theorem jnB_app {a g : List Str} {D : Dk} : appJ shaK (jnB a false) D g = (jnB (apO D a false g).2.1.1 (apO D a false g).2.1.2, (apO D a false g).1, (apO D a false g).2.2) := by
  have e : ((D.dur.length : Int) - (recB shaK a).length < ((group shaK (group shaK head0 a).2 g).1.length : Int)) ↔ D.dur.length < (recB shaK a).length + (group shaK (group shaK head0 a).2 g).1.length := by omega
  unfold appJ apO
  simp only [jnB, Bool.false_eq_true, if_false, e]
  by_cases c1 : D.dur.length < (recB shaK a).length + (group shaK (group shaK head0 a).2 g).1.length
  · rw [if_pos c1, if_pos c1]
  rw [if_neg c1, if_neg c1]
  by_cases c2 : (group shaK (group shaK head0 a).2 g).1 = []
  · rw [if_pos c2]
    exact (if_pos c2).trans rfl
  rw [if_neg c2]
  refine (if_neg c2).trans ?_
  by_cases c3 : (firstP (app4 (recB shaK a).length (group shaK (group shaK head0 a).2 g).1) 4 0 D).2 = 0
  · rw [if_neg (fun h => h c3)]
    refine (if_neg (fun h => h c3)).trans ?_
    simp only [recB_append, group_append, List.length_append]
    rw [← c3]
  · rw [if_pos c3]
    exact (if_pos c3).trans rfl
theorem appB_con {jv v : Value} {D : Dk} {a : List Str} {br : Bool} {LJ LD : Blocks} {N k : Nat} (hJ : OwJ jv v (jnB a br) LJ) (hD : OwD v D LD) (g : List Str) (A : Option Addr) (c : Nat) (S : SH) (hA : At S A g) (hl : g.length ≤ 1000) (hg : Short g) (ha : Short a) (he : (recB shaK a).length ≤ N) (hN : N ≤ 1000000) (hdl : D.dur.length = N) (hp : D.pend.length ≤ 100000)
    (hK : Pts S ⟨4, 0, none⟩ (cellsOf shaK)) :
    Con Tryz.prog 11 #[jv, .slice A g.length c] S (LJ ++ LD) (fun S' L' r => ∃ LJ' LD', L' = LJ' ++ LD' ∧ OwJ jv v (jnB (apO D a br g).2.1.1 (apO D a br g).2.1.2) LJ' ∧ OwD v (apO D a br g).1 LD' ∧ r = .int .i64 (apO D a br g).2.2) := by
  have hrl := recB_len (K := shaK) ha
  cases br
  · have h := Append_con hJ hD shaK g A c S hA hl rfl (List.any_eq_false.2 fun r hr => by have := hg r hr; simp only [isLong, decide_eq_true_eq]; omega) (group_head (by unfold head0; simp) a) (show (recB shaK a).length ≤ _ by omega) (show a.length ≤ _ by omega) (by omega) hp hK shaK_len
    rw [jnB_app] at h
    exact h
  · have h := (AppendBad_con hJ g A c S hA (by omega) (.inl rfl)).frame (L2 := LD) (List.Perm.refl _)
    refine h.mono fun S' L' r _ hh => ?_
    obtain ⟨L1, e1, -, e3, e4⟩ := hh
    rw [e3] at e1
    exact ⟨LJ, LD, e1, hJ, hD, e4⟩
theorem rappB_con {v dv : Value} {R : Rf} {a : List Str} {br : Bool} {LK LD : Blocks} {N : Nat} {S : SH} (hK : OwKs v dv S a (recB shaK a).length br LK) (hR : OwR dv R LD) (g : List Str) (B : Option Addr) (cB : Nat) (hB : At S B g) (hl : g.length ≤ 1000) (hg : Short g) (ha : Short a) (he : (recB shaK a).length ≤ N) (hN : N ≤ 1000000) (hdl : R.sure.length = N) (hp : R.l.length ≤ 100000) :
    Con Tryz.prog 13 #[v, .slice B g.length cB] S (LK ++ LD) (fun S' L' r => ∃ LK' LD', L' = LK' ++ LD' ∧ OwKs v dv S' (apR R a br g).2.1.1 (recB shaK (apR R a br g).2.1.1).length (apR R a br g).2.1.2 LK' ∧ OwR dv (apR R a br g).1 LD' ∧ r = .int .i64 (apR R a br g).2.2) := by
  have hrl := recB_len (K := shaK) ha
  have hgn := grp_nil (K := shaK) (h := (group shaK head0 a).2) hg
  refine (rAppend_con hK hR rfl (by omega) hp (by omega) g B cB hB hl (by omega) ha hg).mono fun S' L' r _ ⟨LK', LD', e1, h⟩ => ⟨LK', LD', e1, ?_⟩
  rcases h with ⟨rfl, h1, h2, h3⟩ | ⟨rfl, h0, h1, h2, h3⟩ | ⟨rfl, h0, h00, h1, h2, h3⟩ | ⟨rfl, h0, h00, h000, h1, h2, h3⟩ | ⟨rfl, h0, h00, h000, h1, h2, h3⟩
  · exact ⟨h1, h2, h3⟩
  · have e : apR R a false g = (R, (a, false), 331) := by unfold apR; rw [if_neg (by decide), if_pos h0]
    rw [e]; exact ⟨h1, h2, h3⟩
  · have e : apR R a false g = (R, (a, false), 0) := by
      unfold apR
      rw [if_neg (by decide), if_neg (by rw [hgn.2 h0]; simp; omega), if_pos (hgn.2 h0)]
    rw [e]; exact ⟨h1, h2, h3⟩
  · have e : apR R a false g = ((rapp R (recB shaK a).length (group shaK (group shaK head0 a).2 g).1).1, (a, true), (rapp R (recB shaK a).length (group shaK (group shaK head0 a).2 g).1).2) := by
      unfold apR
      rw [if_neg (by decide), if_neg (by omega), if_neg (fun h => h0 (hgn.1 h)), if_pos h000]
    rw [e]; exact ⟨h1, h2, h3⟩
  · have e : apR R a false g = ((rapp R (recB shaK a).length (group shaK (group shaK head0 a).2 g).1).1, (a ++ g, false), 0) := by
      unfold apR
      rw [if_neg (by decide), if_neg (by omega), if_neg (fun h => h0 (hgn.1 h)), if_neg (fun h => h h000)]
    rw [e]
    refine ⟨?_, h2, h3⟩
    rw [recB_append, List.length_append]
    exact h1
end Go.Proofs.YtnlfohlngapkfaaGreatDoor
namespace Go.Proofs.YtnlfohlngapkfaaGreatDoor
open Go Go.X
set_option maxRecDepth 10000
set_option linter.unusedVariables false
attribute [local irreducible] Code.wpIn wpListIn Exit.then Exit.inBlock X.Out X.Back X.W X.Ev X.Con X.BinV X.Wh X.Wn X.Wq
attribute [local irreducible] sumK chain stw group stored
end Go.Proofs.YtnlfohlngapkfaaGreatDoor
namespace Go.Proofs.YtnlfohlngapkfaaGreatDoor
open Go Go.X
set_option maxRecDepth 10000
set_option linter.unusedVariables false
attribute [local irreducible] Code.wpIn wpListIn Exit.then Exit.inBlock X.Out X.Back X.W X.Ev X.Con X.BinV X.Wh X.Wn X.Wq
attribute [local irreducible] sumK chain stw group stored
theorem OwR.fit {v : Value} {R : Rf} {L : Blocks} (h : OwR v R L) : ∀ w ∈ R.l, w.off + w.s.length ≤ R.sure.length := by
  obtain ⟨b, g, N, cap, tl, pv, ob, -, -, -, hw, -⟩ := h
  rw [hw.sure]; exact hw.fit
theorem openO_off {D : Dk} {l : List Str} {tail : Bs} (h : (openO D l tail).2 = 0) : (openO D l tail).1.off = false := by
  unfold openO at h ⊢
  cases ho : D.off
  · rw [ho] at h
    simp only [Bool.false_eq_true, if_false] at h ⊢
    split at h
    · exact absurd h (by simp)
    · rename_i hb
      rw [if_neg hb]
      split at h
      · rename_i hz; rw [if_pos hz]; exact ho
      · rename_i hz
        rw [if_neg hz]
        unfold openE at h ⊢
        rw [firstP2] at h ⊢
        split at h
        · rename_i h1; exact absurd h h1
        · rename_i h1
          rw [if_neg h1]
          split at h
          · rename_i h2; exact absurd h h2
          · rename_i h2
            rw [if_neg h2]
            have h3 : (if ((app2 (group shaK head0 l).1.length (List.replicate tail.length 0) 0 D).1).off = true then (321 : Int) else 0) = 0 := Decidable.not_not.1 h2
            have h4 : ((app2 (group shaK head0 l).1.length (List.replicate tail.length 0) 0 D).1).off = false := by
              cases hx : ((app2 (group shaK head0 l).1.length (List.replicate tail.length 0) 0 D).1).off
              · rfl
              · rw [hx] at h3; exact absurd h3 (by decide)
            show (syncD (app2 (group shaK head0 l).1.length (List.replicate tail.length 0) 0 D).1).off = false
            unfold syncD
            rw [h4]; rfl
  · rw [ho] at h
    exact absurd h (by simp)
theorem newO (N : Nat) : openO (newD N) [] (List.replicate N 0) = (newD N, 0) := by
  unfold openO
  rw [if_neg (by simp [newD]), if_neg, if_pos (by simp)]
  rintro ⟨⟨c, hc, hc0⟩, -⟩
  exact hc0 (by
    rw [List.getElem?_replicate] at hc
    split at hc
    · injection hc with hc; exact hc.symm
    · cases hc)
end Go.Proofs.YtnlfohlngapkfaaGreatDoor
namespace Go.Proofs.YtnlfohlngapkfaaGreatDoor
open Go Go.X
set_option maxRecDepth 10000
set_option linter.unusedVariables false
attribute [local irreducible] Code.wpIn wpListIn Exit.then Exit.inBlock X.Out X.Back X.W X.Ev X.Con X.BinV X.Wh X.Wn X.Wq
attribute [local irreducible] sumK chain stw group stored
set_option maxHeartbeats 1600000 in
theorem begin_con (n : Int) (p : Addr) (S : SH) (hn : i64 n) (hK : Pts S ⟨4, 0, none⟩ (cellsOf shaK)) (hE : Pts S ⟨0, 0, none⟩ [errV p]) :
    Con Tryz.prog 10 #[.int .i64 n] S [] (fun S' L' r => ∃ bw R, r = .tuple #[.pointer (some ⟨bw, 0, none⟩), .bool true] ∧ Rel (sizeN n) 1 (newD (sizeN n)) R ∧ OwWd bw (newD (sizeN n)) R (some ([], false)) S' L') := by
  refine con_of (args := [.int .i64 n]) Tryz.func10 rfl Tryz.ntmps10 rfl fun w => ?_
  have hb := sizeN_bd n
  obtain ⟨N, hN⟩ : ∃ N, N = sizeN n := ⟨_, rfl⟩
  have hsz : ∀ S, Con Tryz.prog 16 #[.int .i64 n] S [] (X.Pure S (.int .i64 (N : Nat))) := fun S => by rw [hN]; exact size_con n S hn
  rw [← hN] at hb ⊢
  (repeat (first | refine Jc ?_ | (apply z_call; rfl; rfl; rfl; exact hsz _; rintro _ _ _ - ⟨rfl, rfl, rfl⟩) | refine Jo ?_ | intro _))
  (apply s_call (L2 := []); (case hg => rfl); (case hd => rfl); (case ha => rfl); (case hc => exact New_con N _ (by omega)); (case hL => (exact pmc (fun p => by (repeat (first | rw [List.countP_append] | rw [List.countP_cons] | rw [List.countP_nil])); (all_goals (first | rfl | omega))))); rintro S2 LD v2 - ⟨rfl, vd, hD, rfl⟩; obtain ⟨bd, rfl⟩ := hD.form)
  (repeat (first | refine Jc ?_ | (apply z_call; rfl; rfl; rfl; exact hsz _; rintro _ _ _ - ⟨rfl, rfl, rfl⟩) | refine Jo ?_ | intro _))
  (apply s_call (L2 := LD); (case hg => rfl); (case hd => rfl); (case ha => rfl); (case hc => exact RNew_con N _ (by omega)); (case hL => (exact pmc (fun p => by (repeat (first | rw [List.countP_append] | rw [List.countP_cons] | rw [List.countP_nil])); (all_goals (first | rfl | omega))))); rintro S3 LR v3 - ⟨rfl, vr, hR, rfl⟩; obtain ⟨br, rfl⟩ := hR.form)
  (repeat (first | refine Jc ?_ | (apply s_evb; (case hg => rfl); (case hd => rfl); (case hn => rfl); (case he => (apply ev_buildS; (case hp => rfl); (case hz => rfl); (case h1 => rfl); (case hr => rfl)))) | refine Jo ?_ | intro _))
  rename_i bw
  have hrel := Rel.new N
  have hwo := wopen_con (bw := bw) (j0 := .pointer none) (k0 := .pointer none) hD hR hrel _ p (by omega) (by omega) [] (List.replicate N 0) (by rw [group_nil]; rfl) Short.nil (.inr fun c hc => by
    rw [List.getElem?_replicate] at hc
    split at hc
    · injection hc with hc; exact hc.symm
    · cases hc) hK hE
  have ho := (hrel.openO' [] (List.replicate N 0)).1
  rw [newO] at hwo ho
  simp only [if_true] at hwo
  refine W.perm (L' := (bw, .cells (setAll [.pointer none, .pointer none, .pointer none, .pointer none] [(0, .pointer (some ⟨bd, 0, none⟩)), (2, .pointer (some ⟨br, 0, none⟩))]).toArray 32 (0, 0)) :: (LD ++ LR)) ?_ (pmc (fun p => by (repeat (first | rw [List.countP_append] | rw [List.countP_cons] | rw [List.countP_nil])); (all_goals (first | rfl | omega))))
  show W _ _ _ ((bw, .cells [.pointer (some ⟨bd, 0, none⟩), .pointer none, .pointer (some ⟨br, 0, none⟩), .pointer none].toArray 32 (0, 0)) :: (LD ++ LR)) _ _
  (repeat (first | refine Jc ?_ | (apply s_call (L2 := []); (case hg => rfl); (case hd => rfl); (case ha => rfl); (case hc => exact hwo); (case hL => (exact pmc (fun p => by (repeat (first | rw [List.countP_append] | rw [List.countP_cons] | rw [List.countP_nil])); (all_goals (first | rfl | omega))))); rintro S7 L7 v7 hle7 ⟨rfl, hW7⟩) | refine Jo ?_ | intro _))
  exact o_ret2 (L' := L7) Tryz.results10 rfl rfl (List.sublist_append_left _ _) ⟨bw, _, rfl, ho, hW7⟩
end Go.Proofs.YtnlfohlngapkfaaGreatDoor
namespace Go.Proofs.YtnlfohlngapkfaaGreatDoor
open Go Go.X
set_option maxRecDepth 10000
set_option linter.unusedVariables false
attribute [local irreducible] Code.wpIn wpListIn Exit.then Exit.inBlock X.Out X.Back X.W X.Ev X.Con X.BinV X.Wh X.Wn X.Wq
attribute [local irreducible] sumK chain stw group stored
/-- Both journals, where the blocks of the disks come first. -/
theorem OwWd.parts {bw : Nat} {D : Dk} {R : Rf} {js : Option (List Str × Bool)} {S : SH} {L : Blocks} (h : OwWd bw D R js S L) : ∃ vd vr jv kv LD LR LX, OwD vd D LD ∧ OwR vr R LR ∧ L.Perm ((bw, .cells [vd, jv, vr, kv].toArray 32 (0, 0)) :: (LD ++ (LR ++ LX))) ∧
    ((js = none ∧ jv = .pointer none ∧ kv = .pointer none ∧ LX = []) ∨ ∃ l br LJ LK, js = some (l, br) ∧ OwJ jv vd (jnB l br) LJ ∧ OwKs kv vr S l (recB shaK l).length br LK ∧ LX = LJ ++ LK) := by
  obtain ⟨vd, vr, LD, LR, hD, hR, hL⟩ := h
  rcases js with _ | ⟨a, br⟩
  · simp only at hL; subst hL
    exact ⟨vd, vr, _, _, LD, LR, [], hD, hR, pmc (fun p => by (repeat (first | rw [List.countP_append] | rw [List.countP_cons] | rw [List.countP_nil])); omega), .inl ⟨rfl, rfl, rfl, rfl⟩⟩
  · simp only at hL
    obtain ⟨jv, kv, LJ, LK, hJ, hKs, rfl⟩ := hL
    exact ⟨vd, vr, jv, kv, LD, LR, LJ ++ LK, hD, hR, pmc (fun p => by (repeat (first | rw [List.countP_append] | rw [List.countP_cons] | rw [List.countP_nil])); omega), .inr ⟨a, br, LJ, LK, rfl, hJ, hKs, rfl⟩⟩
theorem RoomW_con {jv v : Value} {J : Jn} {N s : Nat} {D : Dk} {LJ LD : Blocks} (hJ : OwJ jv v J LJ) (hD : OwD v D LD) (S : SH) (hs : J.size = s) (hB : D.dur.length = N) (hle : s ≤ N) (hN : N ≤ 1000000) :
    Con Tryz.prog 21 #[jv] S (LJ ++ LD) (fun S' L' r => S' = S ∧ ∃ LD', L' = LJ ++ LD' ∧ OwD v D LD' ∧ r = .int .i64 ((N : Int) - s)) := by
  have h := Room_con hJ hD S (by omega) (by omega)
  rw [hB, hs] at h
  exact h
theorem rRoomW_con {v dv : Value} {R : Rf} {l : List Str} {e N : Nat} {br : Bool} {LK LD : Blocks} {S : SH} (hK : OwKs v dv S l e br LK) (hR : OwR dv R LD) (he : e ≤ 1000000) (hs : R.sure.length = N) :
    Con Tryz.prog 22 #[v] S (LK ++ LD) (fun S' L' r => S' = S ∧ ∃ LD', L' = LK ++ LD' ∧ OwR dv R LD' ∧ r = .int .i64 ((N : Int) - e)) := by
  have h := rRoom_con hK hR he
  rw [hs] at h
  exact h
end Go.Proofs.YtnlfohlngapkfaaGreatDoor
namespace Go.Proofs.YtnlfohlngapkfaaGreatDoor
open Go Go.X
set_option maxRecDepth 10000
set_option linter.unusedVariables false
attribute [local irreducible] Code.wpIn wpListIn Exit.then Exit.inBlock X.Out X.Back X.W X.Ev X.Con X.BinV X.Wh X.Wn X.Wq
attribute [local irreducible] sumK chain stw group stored
set_option maxHeartbeats 3200000 in
theorem opens_law (n : Int) (s : Bs) (l : List Str) (Al : Option Addr) (cl : Nat) (at_ : Int) (c : UInt8) (p : Addr) (S : SH) (hn : i64 n) (hAl : At S Al l) (hat : i64 at_)
    (hK : Pts S ⟨4, 0, none⟩ (cellsOf shaK)) (hE : Pts S ⟨0, 0, none⟩ [errV p]) :
    Con Tryz.prog 3 #[.int .i64 n, strV s, .slice Al l.length cl, .int .i64 at_, .int .u8 c.toNat] S [] (fun S' L' r => r = .bool true) := by
  refine con_of (args := [.int .i64 n, strV s, .slice Al l.length cl, .int .i64 at_, .int .u8 c.toNat]) Tryz.func3 rfl Tryz.ntmps3 rfl fun w => ?_
  have hb := sizeN_bd n
  obtain ⟨N, hN⟩ : ∃ N, N = sizeN n := ⟨_, rfl⟩
  have hbg := begin_con n p
  have hsz : ∀ S, Con Tryz.prog 16 #[.int .i64 n] S [] (X.Pure S (.int .i64 (N : Nat))) := fun S => by rw [hN]; exact size_con n S hn
  rw [← hN] at hb hbg
  (repeat (first | refine Jc ?_ | (apply s_call (L2 := []); (case hg => rfl); (case hd => rfl); (case ha => rfl); (case hc => exact sane_con shaK p S hK shaK_len hE); (case hL => (exact pmc (fun p => by (repeat (first | rw [List.countP_append] | rw [List.countP_cons] | rw [List.countP_nil])); (all_goals (first | rfl | omega))))); rintro S1 L1 v1 hle1 ⟨rfl, rfl⟩) | refine Jo ?_ | intro _))
  (repeat (first | refine Jc ?_ | (apply s_call (L2 := []); (case hg => rfl); (case hd => rfl); (case ha => rfl); (case hc => exact hbg S1 hn (hK.le hle1) (hE.le hle1)); (case hL => (exact pmc (fun p => by (repeat (first | rw [List.countP_append] | rw [List.countP_cons] | rw [List.countP_nil])); (all_goals (first | rfl | omega))))); rintro S2 L2 v2 hle2 ⟨bw, R, rfl, hrel, hW⟩) | refine Jo ?_ | intro _))
  refine c_meet (fun S' L F => Le S2 S' ∧ (∃ D R vd jv vr kv LD LR LX, OwD vd D LD ∧ OwR vr R LR ∧ Rel N 5 D R ∧ L = (bw, .cells [vd, jv, vr, kv].toArray 32 (0, 0)) :: (LD ++ (LR ++ LX))) ∧ F = [(0, .int .i64 n), (1, strV s), (2, .slice Al l.length cl), (3, .int .i64 at_), (4, .int .u8 c.toNat), (11, .bool true), (12, .pointer (some ⟨bw, 0, none⟩))]) ?_ ?_
  · obtain ⟨vd, vr, LD, LR, hD, hR, jv, kv, LJ, LK, hJ, hKs, rfl⟩ := hW
    obtain ⟨bj, rfl⟩ := hJ.form
    obtain ⟨bk, rfl⟩ := hKs.form
    refine c_cond rfl (fun hl => ?_) (fun hl => ?_)
    · -- a group is appended, and a byte is written
      have hfl := few_len l
      have hSf := few_short l
      obtain ⟨hrel2, heq⟩ := hrel.ap [] false (fewL l)
      have hdur := hrel.dur
      have hr0 : (recB shaK []).length = 0 := by rw [recB_nil]; rfl
      have happ := fun (A : Option Addr) (c : Nat) (S : SH) (h1 : At S A (fewL l)) (h2 : Pts S ⟨4, 0, none⟩ (cellsOf shaK)) => appB_con (N := N) (k := 0) hJ hD (fewL l) A c S h1 (by omega) hSf Short.nil (by omega) (by omega) hdur (by simp [newD]) h2
      have hrap := fun (A : Option Addr) (c : Nat) (S : SH) (h0 : OwKs (.pointer (some ⟨bk, 0, none⟩)) vr S [] (recB shaK []).length false LK) (h1 : At S A (fewL l)) => rappB_con (N := N) h0 hR (fewL l) A c h1 (by omega) hSf Short.nil (by omega) (by omega) (by rw [hrel.sure]; exact hdur) (by rw [hrel.l]; simp [newD])
      rw [heq] at hrap
      generalize hl2 : fewL l = l2 at *
      have hfew : ∀ S, At S Al l → Con Tryz.prog 12 #[.slice Al l.length cl] S [] (fun S' L' r => S' = S ∧ Ows 9 r l2 L') := fun S h => hl2 ▸ few_con l Al cl S h
      generalize (apR R [] false l2).1 = R1 at *
      generalize (apO (newD N) [] false l2).1 = D1 at *
      generalize (apO (newD N) [] false l2).2.2 = E1 at *
      generalize (apO (newD N) [] false l2).2.1 = j1 at *
      have hle12 := hle1.trans hle2
      (repeat (first | refine Jz ?_ | intro _))
      ((apply c_held ([(bw, .cells [vd, .pointer (some ⟨bj, 0, none⟩), vr, .pointer (some ⟨bk, 0, none⟩)].toArray 32 (0, 0))]); (case hL => (exact sbT))); refine Jf 0 ?_; (apply h_first 1; (case hi => rfl); (case hr => kernel_rfl); (case hfr => kernel_rfl); (case hsel => kernel_rfl); (case hg => rfl); (case hd => rfl); (case he => (apply ev_nilCheck; rfl))); refine Jf 2 ?_; refine Jf 3 ?_; (apply h_first 4; (case hi => rfl); (case hr => kernel_rfl); (case hfr => kernel_rfl); (case hsel => kernel_rfl); (case hg => rfl); (case hd => rfl); (case he => (apply ev_eql_p; (case hx => rfl); (case hy => rfl)))); refine Jf 5 ?_; refine Jf 6 ?_; (apply h_first 7; (case hi => rfl); (case hr => kernel_rfl); (case hfr => kernel_rfl); (case hsel => kernel_rfl); (case hg => rfl); (case hd => rfl); (case he => (apply ev_nilCheck; rfl))); refine Jf 8 ?_; refine Jf 9 ?_; refine Jf 10 ?_; refine Jf 13 ?_; (apply h_first 14; (case hi => rfl); (case hr => kernel_rfl); (case hfr => kernel_rfl); (case hsel => kernel_rfl); (case hg => rfl); (case hd => rfl); (case he => (apply ev_nilCheck; rfl))); refine Jf 15 ?_; refine Jf 16 ?_; refine Jf 17 ?_; (apply h_one 11; (case hr => kernel_rfl)); (apply n_call; (case hi => rfl); (case i1 => infer_instance); (case hg => rfl); (case hd => rfl); (case ha => rfl); (case hc => exact hfew _ (hAl.le hle12)); (case hL => (repeat (first | exact pm_nil _ | exact pm_refl _ _ | exact pm_self _ | apply pm_cons | apply pm_app))); (case hsub => (intros; (exact sbT))); rintro S6 L6 v6 - ⟨rfl, ho6⟩; refine Wh.freezeOws (L1 := (bw, .cells [vd, .pointer (some ⟨bj, 0, none⟩), vr, .pointer (some ⟨bk, 0, none⟩)].toArray 32 (0, 0)) :: ((LJ ++ LD) ++ (LK ++ LR))) ho6 (pmc (fun p => by (repeat (first | rw [List.countP_append] | rw [List.countP_cons] | rw [List.countP_nil])); (all_goals (first | rfl | omega)))) sbL fun S7 hle7 hs7 => ?_; obtain ⟨A7, c7, rfl, hc7, hA7⟩ := hs7); (apply h_one 12; (case hr => kernel_rfl)); (apply n_call (L2 := (bw, .cells [vd, .pointer (some ⟨bj, 0, none⟩), vr, .pointer (some ⟨bk, 0, none⟩)].toArray 32 (0, 0)) :: (LK ++ LR)); (case hi => rfl); (case i1 => infer_instance); (case hg => rfl); (case hd => rfl); (case ha => rfl); (case hc => exact happ A7 c7 _ hA7 (hK.le (hle12.trans hle7))); (case hL => (exact pmc (fun p => by (repeat (first | rw [List.countP_append] | rw [List.countP_cons] | rw [List.countP_nil])); (all_goals (first | rfl | omega))))); (case hsub => (intros; (exact sbT))); rintro S8 L8 v8 hle8 ⟨LJ8, LD8, rfl, hJ8, hD8, rfl⟩); (apply h_one 18; (case hr => kernel_rfl)); (apply n_call; (case hi => rfl); (case i1 => infer_instance); (case hg => rfl); (case hd => rfl); (case ha => rfl); (case hc => exact hfew _ (hAl.le (hle12.trans (hle7.trans hle8)))); (case hL => (repeat (first | exact pm_nil _ | exact pm_refl _ _ | exact pm_self _ | apply pm_cons | apply pm_app))); (case hsub => (intros; (exact sbT))); rintro S9 L9 v9 - ⟨rfl, ho9⟩; refine Wh.freezeOws (L1 := (bw, .cells [vd, .pointer (some ⟨bj, 0, none⟩), vr, .pointer (some ⟨bk, 0, none⟩)].toArray 32 (0, 0)) :: ((LJ8 ++ LD8) ++ (LK ++ LR))) ho9 (pmc (fun p => by (repeat (first | rw [List.countP_append] | rw [List.countP_cons] | rw [List.countP_nil])); (all_goals (first | rfl | omega)))) sbL fun S10 hle10 hs10 => ?_; obtain ⟨A10, c10, rfl, hc10, hA10⟩ := hs10); (apply h_one 19; (case hr => kernel_rfl)); (apply n_call (L2 := (bw, .cells [vd, .pointer (some ⟨bj, 0, none⟩), vr, .pointer (some ⟨bk, 0, none⟩)].toArray 32 (0, 0)) :: (LJ8 ++ LD8)); (case hi => rfl); (case i1 => infer_instance); (case hg => rfl); (case hd => rfl); (case ha => rfl); (case hc => exact hrap A10 c10 _ (hKs.le (hle7.trans (hle8.trans hle10))) hA10); (case hL => (exact pmc (fun p => by (repeat (first | rw [List.countP_append] | rw [List.countP_cons] | rw [List.countP_nil])); (all_goals (first | rfl | omega))))); (case hsub => (intros; (exact sbT))); rintro S11 L11 v11 hle11 ⟨LK11, LR11, rfl, hK11, hR11, rfl⟩); refine Jf 20 ?_; refine Jf 21 ?_; (apply h_end; (case hr => kernel_rfl)))
      refine W.perm (L' := (bw, .cells [vd, .pointer (some ⟨bj, 0, none⟩), vr, .pointer (some ⟨bk, 0, none⟩)].toArray 32 (0, 0)) :: ((LJ8 ++ LD8) ++ (LK11 ++ LR11))) ?_ (pmc (fun p => by (repeat (first | rw [List.countP_append] | rw [List.countP_cons] | rw [List.countP_nil])); (all_goals (first | rfl | omega))))
      have hle211 := hle7.trans (hle8.trans (hle10.trans hle11))
      have hpk := fun S => lpick_con at_ (N : Nat) S hat (by omega)
      have hpb := pickI_bd at_ (N : Nat) (by omega)
      obtain ⟨hrel3, -⟩ := hrel2.wr (pickI at_ (N : Nat)) [c]
      have hp1 := hrel2.pend
      have hp2 := hrel2.l
      have hw1 := fun S => Write_con hD8 S (pickI at_ (N : Nat)) [c] (by unfold i64; omega) (by simp) (by omega)
      have hw2 := fun S => RWrite_con hR11 S (pickI at_ (N : Nat)) [c] (by unfold i64; omega) (by simp) (by rw [hp2]; omega)
      generalize pickI at_ (N : Nat) = off at *
      (repeat (first | refine Jz ?_ | intro _))
      refine c_meet (fun S' L F => S' = S11 ∧ (∃ LD', OwD vd (wrD D1 off [c]) LD' ∧ L = (bw, .cells [vd, .pointer (some ⟨bj, 0, none⟩), vr, .pointer (some ⟨bk, 0, none⟩)].toArray 32 (0, 0)) :: ((LJ8 ++ LD') ++ (LK11 ++ LR11))) ∧ F = [(0, .int .i64 n), (1, strV s), (2, .slice Al l.length cl), (3, .int .i64 at_), (4, .int .u8 c.toNat), (11, .bool true), (12, .pointer (some ⟨bw, 0, none⟩))]) ?_ ?_
      · ((apply c_held ([(bw, .cells [vd, .pointer (some ⟨bj, 0, none⟩), vr, .pointer (some ⟨bk, 0, none⟩)].toArray 32 (0, 0))]); (case hL => (exact sbT))); refine Jf 0 ?_; (apply h_first 1; (case hi => rfl); (case hr => kernel_rfl); (case hfr => kernel_rfl); (case hsel => kernel_rfl); (case hg => rfl); (case hd => rfl); (case he => (apply ev_nilCheck; rfl))); refine Jf 2 ?_; refine Jf 3 ?_; refine Jf 4 ?_; refine Jf 5 ?_; refine Jf 8 ?_; (apply h_two 6 9; (case hr => kernel_rfl)); (case k1 => ((apply n_call; (case hi => rfl); (case i1 => infer_instance); (case hg => rfl); (case hd => rfl); (case ha => rfl); (case hc => exact hsz _); (case hL => (repeat (first | exact pm_nil _ | exact pm_refl _ _ | exact pm_self _ | apply pm_cons | apply pm_app))); (case hsub => (intros; (exact sbT))); rintro _ _ _ - ⟨rfl, rfl, rfl⟩); (apply h_two 7 9; (case hr => kernel_rfl)); (case k1 => ((apply n_call; (case hi => rfl); (case i1 => infer_instance); (case hg => rfl); (case hd => rfl); (case ha => rfl); (case hc => exact hpk _); (case hL => (repeat (first | exact pm_nil _ | exact pm_refl _ _ | exact pm_self _ | apply pm_cons | apply pm_app))); (case hsub => (intros; (exact sbT))); rintro _ _ _ - ⟨rfl, rfl, rfl⟩); (apply h_one 9; (case hr => kernel_rfl)); (apply n_buildSlice; (case hi => rfl); (case hg => rfl); (case hd => rfl); (case i1 => infer_instance); (case i2 => infer_instance); (case i3 => infer_instance); (case hp => rfl); (case hq => rfl); (case hm => rfl); (case hv => rfl); (case hl => rfl); intro bl); (apply h_one 10; (case hr => kernel_rfl)); (apply n_ev; (case hi => rfl); (case hg => rfl); (case hd => rfl); (case he => (apply ev_str_own (B := [c]); (case hx => rfl); (case hm => (repeat (first | exact List.Mem.head _ | apply List.Mem.tail | apply List.mem_append_right))); (case hk => exact Nat.le_refl _)))); (apply h_one 11; (case hr => kernel_rfl)); (apply n_call (L2 := (bl, .cells (([Value.int .u8 c.toNat] : List Value).flatMap (fun x => x.cells.toList)).toArray 5 (0, 0)) :: (bw, .cells [vd, .pointer (some ⟨bj, 0, none⟩), vr, .pointer (some ⟨bk, 0, none⟩)].toArray 32 (0, 0)) :: (LJ8 ++ (LK11 ++ LR11))); (case hi => rfl); (case i1 => infer_instance); (case hg => rfl); (case hd => rfl); (case ha => rfl); (case hc => exact hw1 _); (case hL => (exact pmc (fun p => by (repeat (first | rw [List.countP_append] | rw [List.countP_cons] | rw [List.countP_nil])); (all_goals (first | rfl | omega))))); (case hsub => (intros; (exact sbT))); rintro S12 L12 v12 - ⟨rfl, hD12, rfl⟩); (apply h_end; (case hr => kernel_rfl)); (refine W.perm (L' := (bl, .cells (([Value.int .u8 c.toNat] : List Value).flatMap (fun x => x.cells.toList)).toArray 5 (0, 0)) :: (bw, .cells [vd, .pointer (some ⟨bj, 0, none⟩), vr, .pointer (some ⟨bk, 0, none⟩)].toArray 32 (0, 0)) :: ((LJ8 ++ L12) ++ (LK11 ++ LR11))) ?_ (pmc (fun p => by (repeat (first | rw [List.countP_append] | rw [List.countP_cons] | rw [List.countP_nil])); (all_goals (first | rfl | omega)))); refine q_then ?_; exact q_cut ⟨rfl, ⟨L12, hD12, rfl⟩, rfl⟩ sbF sbL))); (case k2 => ((apply n_buildSlice; (case hi => rfl); (case hg => rfl); (case hd => rfl); (case i1 => infer_instance); (case i2 => infer_instance); (case i3 => infer_instance); (case hp => rfl); (case hq => rfl); (case hm => rfl); (case hv => rfl); (case hl => rfl); intro bl); (apply h_two 7 10; (case hr => kernel_rfl)); (case k1 => ((apply n_call; (case hi => rfl); (case i1 => infer_instance); (case hg => rfl); (case hd => rfl); (case ha => rfl); (case hc => exact hpk _); (case hL => (repeat (first | exact pm_nil _ | exact pm_refl _ _ | exact pm_self _ | apply pm_cons | apply pm_app))); (case hsub => (intros; (exact sbT))); rintro _ _ _ - ⟨rfl, rfl, rfl⟩); (apply h_one 10; (case hr => kernel_rfl)); (apply n_ev; (case hi => rfl); (case hg => rfl); (case hd => rfl); (case he => (apply ev_str_own (B := [c]); (case hx => rfl); (case hm => (repeat (first | exact List.Mem.head _ | apply List.Mem.tail | apply List.mem_append_right))); (case hk => exact Nat.le_refl _)))); (apply h_one 11; (case hr => kernel_rfl)); (apply n_call (L2 := (bl, .cells (([Value.int .u8 c.toNat] : List Value).flatMap (fun x => x.cells.toList)).toArray 5 (0, 0)) :: (bw, .cells [vd, .pointer (some ⟨bj, 0, none⟩), vr, .pointer (some ⟨bk, 0, none⟩)].toArray 32 (0, 0)) :: (LJ8 ++ (LK11 ++ LR11))); (case hi => rfl); (case i1 => infer_instance); (case hg => rfl); (case hd => rfl); (case ha => rfl); (case hc => exact hw1 _); (case hL => (exact pmc (fun p => by (repeat (first | rw [List.countP_append] | rw [List.countP_cons] | rw [List.countP_nil])); (all_goals (first | rfl | omega))))); (case hsub => (intros; (exact sbT))); rintro S12 L12 v12 - ⟨rfl, hD12, rfl⟩); (apply h_end; (case hr => kernel_rfl)); (refine W.perm (L' := (bl, .cells (([Value.int .u8 c.toNat] : List Value).flatMap (fun x => x.cells.toList)).toArray 5 (0, 0)) :: (bw, .cells [vd, .pointer (some ⟨bj, 0, none⟩), vr, .pointer (some ⟨bk, 0, none⟩)].toArray 32 (0, 0)) :: ((LJ8 ++ L12) ++ (LK11 ++ LR11))) ?_ (pmc (fun p => by (repeat (first | rw [List.countP_append] | rw [List.countP_cons] | rw [List.countP_nil])); (all_goals (first | rfl | omega)))); refine q_then ?_; exact q_cut ⟨rfl, ⟨L12, hD12, rfl⟩, rfl⟩ sbF sbL))); (case k2 => ((apply n_ev; (case hi => rfl); (case hg => rfl); (case hd => rfl); (case he => (apply ev_str_own (B := [c]); (case hx => rfl); (case hm => (repeat (first | exact List.Mem.head _ | apply List.Mem.tail | apply List.mem_append_right))); (case hk => exact Nat.le_refl _)))); (apply h_one 7; (case hr => kernel_rfl)); (apply n_call; (case hi => rfl); (case i1 => infer_instance); (case hg => rfl); (case hd => rfl); (case ha => rfl); (case hc => exact hpk _); (case hL => (repeat (first | exact pm_nil _ | exact pm_refl _ _ | exact pm_self _ | apply pm_cons | apply pm_app))); (case hsub => (intros; (exact sbT))); rintro _ _ _ - ⟨rfl, rfl, rfl⟩); (apply h_one 11; (case hr => kernel_rfl)); (apply n_call (L2 := (bl, .cells (([Value.int .u8 c.toNat] : List Value).flatMap (fun x => x.cells.toList)).toArray 5 (0, 0)) :: (bw, .cells [vd, .pointer (some ⟨bj, 0, none⟩), vr, .pointer (some ⟨bk, 0, none⟩)].toArray 32 (0, 0)) :: (LJ8 ++ (LK11 ++ LR11))); (case hi => rfl); (case i1 => infer_instance); (case hg => rfl); (case hd => rfl); (case ha => rfl); (case hc => exact hw1 _); (case hL => (exact pmc (fun p => by (repeat (first | rw [List.countP_append] | rw [List.countP_cons] | rw [List.countP_nil])); (all_goals (first | rfl | omega))))); (case hsub => (intros; (exact sbT))); rintro S12 L12 v12 - ⟨rfl, hD12, rfl⟩); (apply h_end; (case hr => kernel_rfl)); (refine W.perm (L' := (bl, .cells (([Value.int .u8 c.toNat] : List Value).flatMap (fun x => x.cells.toList)).toArray 5 (0, 0)) :: (bw, .cells [vd, .pointer (some ⟨bj, 0, none⟩), vr, .pointer (some ⟨bk, 0, none⟩)].toArray 32 (0, 0)) :: ((LJ8 ++ L12) ++ (LK11 ++ LR11))) ?_ (pmc (fun p => by (repeat (first | rw [List.countP_append] | rw [List.countP_cons] | rw [List.countP_nil])); (all_goals (first | rfl | omega)))); refine q_then ?_; exact q_cut ⟨rfl, ⟨L12, hD12, rfl⟩, rfl⟩ sbF sbL))))))); (case k2 => ((apply n_buildSlice; (case hi => rfl); (case hg => rfl); (case hd => rfl); (case i1 => infer_instance); (case i2 => infer_instance); (case i3 => infer_instance); (case hp => rfl); (case hq => rfl); (case hm => rfl); (case hv => rfl); (case hl => rfl); intro bl); (apply h_two 6 10; (case hr => kernel_rfl)); (case k1 => ((apply n_call; (case hi => rfl); (case i1 => infer_instance); (case hg => rfl); (case hd => rfl); (case ha => rfl); (case hc => exact hsz _); (case hL => (repeat (first | exact pm_nil _ | exact pm_refl _ _ | exact pm_self _ | apply pm_cons | apply pm_app))); (case hsub => (intros; (exact sbT))); rintro _ _ _ - ⟨rfl, rfl, rfl⟩); (apply h_two 7 10; (case hr => kernel_rfl)); (case k1 => ((apply n_call; (case hi => rfl); (case i1 => infer_instance); (case hg => rfl); (case hd => rfl); (case ha => rfl); (case hc => exact hpk _); (case hL => (repeat (first | exact pm_nil _ | exact pm_refl _ _ | exact pm_self _ | apply pm_cons | apply pm_app))); (case hsub => (intros; (exact sbT))); rintro _ _ _ - ⟨rfl, rfl, rfl⟩); (apply h_one 10; (case hr => kernel_rfl)); (apply n_ev; (case hi => rfl); (case hg => rfl); (case hd => rfl); (case he => (apply ev_str_own (B := [c]); (case hx => rfl); (case hm => (repeat (first | exact List.Mem.head _ | apply List.Mem.tail | apply List.mem_append_right))); (case hk => exact Nat.le_refl _)))); (apply h_one 11; (case hr => kernel_rfl)); (apply n_call (L2 := (bl, .cells (([Value.int .u8 c.toNat] : List Value).flatMap (fun x => x.cells.toList)).toArray 5 (0, 0)) :: (bw, .cells [vd, .pointer (some ⟨bj, 0, none⟩), vr, .pointer (some ⟨bk, 0, none⟩)].toArray 32 (0, 0)) :: (LJ8 ++ (LK11 ++ LR11))); (case hi => rfl); (case i1 => infer_instance); (case hg => rfl); (case hd => rfl); (case ha => rfl); (case hc => exact hw1 _); (case hL => (exact pmc (fun p => by (repeat (first | rw [List.countP_append] | rw [List.countP_cons] | rw [List.countP_nil])); (all_goals (first | rfl | omega))))); (case hsub => (intros; (exact sbT))); rintro S12 L12 v12 - ⟨rfl, hD12, rfl⟩); (apply h_end; (case hr => kernel_rfl)); (refine W.perm (L' := (bl, .cells (([Value.int .u8 c.toNat] : List Value).flatMap (fun x => x.cells.toList)).toArray 5 (0, 0)) :: (bw, .cells [vd, .pointer (some ⟨bj, 0, none⟩), vr, .pointer (some ⟨bk, 0, none⟩)].toArray 32 (0, 0)) :: ((LJ8 ++ L12) ++ (LK11 ++ LR11))) ?_ (pmc (fun p => by (repeat (first | rw [List.countP_append] | rw [List.countP_cons] | rw [List.countP_nil])); (all_goals (first | rfl | omega)))); refine q_then ?_; exact q_cut ⟨rfl, ⟨L12, hD12, rfl⟩, rfl⟩ sbF sbL))); (case k2 => ((apply n_ev; (case hi => rfl); (case hg => rfl); (case hd => rfl); (case he => (apply ev_str_own (B := [c]); (case hx => rfl); (case hm => (repeat (first | exact List.Mem.head _ | apply List.Mem.tail | apply List.mem_append_right))); (case hk => exact Nat.le_refl _)))); (apply h_one 7; (case hr => kernel_rfl)); (apply n_call; (case hi => rfl); (case i1 => infer_instance); (case hg => rfl); (case hd => rfl); (case ha => rfl); (case hc => exact hpk _); (case hL => (repeat (first | exact pm_nil _ | exact pm_refl _ _ | exact pm_self _ | apply pm_cons | apply pm_app))); (case hsub => (intros; (exact sbT))); rintro _ _ _ - ⟨rfl, rfl, rfl⟩); (apply h_one 11; (case hr => kernel_rfl)); (apply n_call (L2 := (bl, .cells (([Value.int .u8 c.toNat] : List Value).flatMap (fun x => x.cells.toList)).toArray 5 (0, 0)) :: (bw, .cells [vd, .pointer (some ⟨bj, 0, none⟩), vr, .pointer (some ⟨bk, 0, none⟩)].toArray 32 (0, 0)) :: (LJ8 ++ (LK11 ++ LR11))); (case hi => rfl); (case i1 => infer_instance); (case hg => rfl); (case hd => rfl); (case ha => rfl); (case hc => exact hw1 _); (case hL => (exact pmc (fun p => by (repeat (first | rw [List.countP_append] | rw [List.countP_cons] | rw [List.countP_nil])); (all_goals (first | rfl | omega))))); (case hsub => (intros; (exact sbT))); rintro S12 L12 v12 - ⟨rfl, hD12, rfl⟩); (apply h_end; (case hr => kernel_rfl)); (refine W.perm (L' := (bl, .cells (([Value.int .u8 c.toNat] : List Value).flatMap (fun x => x.cells.toList)).toArray 5 (0, 0)) :: (bw, .cells [vd, .pointer (some ⟨bj, 0, none⟩), vr, .pointer (some ⟨bk, 0, none⟩)].toArray 32 (0, 0)) :: ((LJ8 ++ L12) ++ (LK11 ++ LR11))) ?_ (pmc (fun p => by (repeat (first | rw [List.countP_append] | rw [List.countP_cons] | rw [List.countP_nil])); (all_goals (first | rfl | omega)))); refine q_then ?_; exact q_cut ⟨rfl, ⟨L12, hD12, rfl⟩, rfl⟩ sbF sbL))))); (case k2 => ((apply n_ev; (case hi => rfl); (case hg => rfl); (case hd => rfl); (case he => (apply ev_str_own (B := [c]); (case hx => rfl); (case hm => (repeat (first | exact List.Mem.head _ | apply List.Mem.tail | apply List.mem_append_right))); (case hk => exact Nat.le_refl _)))); (apply h_one 6; (case hr => kernel_rfl)); (apply n_call; (case hi => rfl); (case i1 => infer_instance); (case hg => rfl); (case hd => rfl); (case ha => rfl); (case hc => exact hsz _); (case hL => (repeat (first | exact pm_nil _ | exact pm_refl _ _ | exact pm_self _ | apply pm_cons | apply pm_app))); (case hsub => (intros; (exact sbT))); rintro _ _ _ - ⟨rfl, rfl, rfl⟩); (apply h_one 7; (case hr => kernel_rfl)); (apply n_call; (case hi => rfl); (case i1 => infer_instance); (case hg => rfl); (case hd => rfl); (case ha => rfl); (case hc => exact hpk _); (case hL => (repeat (first | exact pm_nil _ | exact pm_refl _ _ | exact pm_self _ | apply pm_cons | apply pm_app))); (case hsub => (intros; (exact sbT))); rintro _ _ _ - ⟨rfl, rfl, rfl⟩); (apply h_one 11; (case hr => kernel_rfl)); (apply n_call (L2 := (bl, .cells (([Value.int .u8 c.toNat] : List Value).flatMap (fun x => x.cells.toList)).toArray 5 (0, 0)) :: (bw, .cells [vd, .pointer (some ⟨bj, 0, none⟩), vr, .pointer (some ⟨bk, 0, none⟩)].toArray 32 (0, 0)) :: (LJ8 ++ (LK11 ++ LR11))); (case hi => rfl); (case i1 => infer_instance); (case hg => rfl); (case hd => rfl); (case ha => rfl); (case hc => exact hw1 _); (case hL => (exact pmc (fun p => by (repeat (first | rw [List.countP_append] | rw [List.countP_cons] | rw [List.countP_nil])); (all_goals (first | rfl | omega))))); (case hsub => (intros; (exact sbT))); rintro S12 L12 v12 - ⟨rfl, hD12, rfl⟩); (apply h_end; (case hr => kernel_rfl)); (refine W.perm (L' := (bl, .cells (([Value.int .u8 c.toNat] : List Value).flatMap (fun x => x.cells.toList)).toArray 5 (0, 0)) :: (bw, .cells [vd, .pointer (some ⟨bj, 0, none⟩), vr, .pointer (some ⟨bk, 0, none⟩)].toArray 32 (0, 0)) :: ((LJ8 ++ L12) ++ (LK11 ++ LR11))) ?_ (pmc (fun p => by (repeat (first | rw [List.countP_append] | rw [List.countP_cons] | rw [List.countP_nil])); (all_goals (first | rfl | omega)))); refine q_then ?_; exact q_cut ⟨rfl, ⟨L12, hD12, rfl⟩, rfl⟩ sbF sbL))))))
      rintro S13 L F ⟨rfl, ⟨LD13, hD13, rfl⟩, rfl⟩
      (repeat (first | refine Jz ?_ | intro _))
      ((apply c_held ([(bw, .cells [vd, .pointer (some ⟨bj, 0, none⟩), vr, .pointer (some ⟨bk, 0, none⟩)].toArray 32 (0, 0))]); (case hL => (exact sbT))); refine Jf 0 ?_; (apply h_first 1; (case hi => rfl); (case hr => kernel_rfl); (case hfr => kernel_rfl); (case hsel => kernel_rfl); (case hg => rfl); (case hd => rfl); (case he => (apply ev_nilCheck; rfl))); refine Jf 2 ?_; refine Jf 3 ?_; refine Jf 4 ?_; refine Jf 5 ?_; refine Jf 8 ?_; (apply h_two 6 9; (case hr => kernel_rfl)); (case k1 => ((apply n_call; (case hi => rfl); (case i1 => infer_instance); (case hg => rfl); (case hd => rfl); (case ha => rfl); (case hc => exact hsz _); (case hL => (repeat (first | exact pm_nil _ | exact pm_refl _ _ | exact pm_self _ | apply pm_cons | apply pm_app))); (case hsub => (intros; (exact sbT))); rintro _ _ _ - ⟨rfl, rfl, rfl⟩); (apply h_two 7 9; (case hr => kernel_rfl)); (case k1 => ((apply n_call; (case hi => rfl); (case i1 => infer_instance); (case hg => rfl); (case hd => rfl); (case ha => rfl); (case hc => exact hpk _); (case hL => (repeat (first | exact pm_nil _ | exact pm_refl _ _ | exact pm_self _ | apply pm_cons | apply pm_app))); (case hsub => (intros; (exact sbT))); rintro _ _ _ - ⟨rfl, rfl, rfl⟩); (apply h_one 9; (case hr => kernel_rfl)); (apply n_buildSlice; (case hi => rfl); (case hg => rfl); (case hd => rfl); (case i1 => infer_instance); (case i2 => infer_instance); (case i3 => infer_instance); (case hp => rfl); (case hq => rfl); (case hm => rfl); (case hv => rfl); (case hl => rfl); intro bl); (apply h_one 10; (case hr => kernel_rfl)); (apply n_ev; (case hi => rfl); (case hg => rfl); (case hd => rfl); (case he => (apply ev_str_own (B := [c]); (case hx => rfl); (case hm => (repeat (first | exact List.Mem.head _ | apply List.Mem.tail | apply List.mem_append_right))); (case hk => exact Nat.le_refl _)))); (apply h_one 11; (case hr => kernel_rfl)); (apply n_call (L2 := (bl, .cells (([Value.int .u8 c.toNat] : List Value).flatMap (fun x => x.cells.toList)).toArray 5 (0, 0)) :: (bw, .cells [vd, .pointer (some ⟨bj, 0, none⟩), vr, .pointer (some ⟨bk, 0, none⟩)].toArray 32 (0, 0)) :: ((LJ8 ++ LD13) ++ LK11)); (case hi => rfl); (case i1 => infer_instance); (case hg => rfl); (case hd => rfl); (case ha => rfl); (case hc => exact hw2 _); (case hL => (exact pmc (fun p => by (repeat (first | rw [List.countP_append] | rw [List.countP_cons] | rw [List.countP_nil])); (all_goals (first | rfl | omega))))); (case hsub => (intros; (exact sbT))); rintro S14 L14 v14 - ⟨rfl, hR14, rfl⟩); (apply h_end; (case hr => kernel_rfl)); (refine W.perm (L' := (bl, .cells (([Value.int .u8 c.toNat] : List Value).flatMap (fun x => x.cells.toList)).toArray 5 (0, 0)) :: (bw, .cells [vd, .pointer (some ⟨bj, 0, none⟩), vr, .pointer (some ⟨bk, 0, none⟩)].toArray 32 (0, 0)) :: (LD13 ++ (L14 ++ (LJ8 ++ LK11)))) ?_ (pmc (fun p => by (repeat (first | rw [List.countP_append] | rw [List.countP_cons] | rw [List.countP_nil])); (all_goals (first | rfl | omega)))); refine q_then ?_; exact q_cut ⟨hle211, ⟨_, _, vd, _, vr, _, LD13, L14, _, hD13, hR14, hrel3.up, rfl⟩, rfl⟩ sbF sbL))); (case k2 => ((apply n_buildSlice; (case hi => rfl); (case hg => rfl); (case hd => rfl); (case i1 => infer_instance); (case i2 => infer_instance); (case i3 => infer_instance); (case hp => rfl); (case hq => rfl); (case hm => rfl); (case hv => rfl); (case hl => rfl); intro bl); (apply h_two 7 10; (case hr => kernel_rfl)); (case k1 => ((apply n_call; (case hi => rfl); (case i1 => infer_instance); (case hg => rfl); (case hd => rfl); (case ha => rfl); (case hc => exact hpk _); (case hL => (repeat (first | exact pm_nil _ | exact pm_refl _ _ | exact pm_self _ | apply pm_cons | apply pm_app))); (case hsub => (intros; (exact sbT))); rintro _ _ _ - ⟨rfl, rfl, rfl⟩); (apply h_one 10; (case hr => kernel_rfl)); (apply n_ev; (case hi => rfl); (case hg => rfl); (case hd => rfl); (case he => (apply ev_str_own (B := [c]); (case hx => rfl); (case hm => (repeat (first | exact List.Mem.head _ | apply List.Mem.tail | apply List.mem_append_right))); (case hk => exact Nat.le_refl _)))); (apply h_one 11; (case hr => kernel_rfl)); (apply n_call (L2 := (bl, .cells (([Value.int .u8 c.toNat] : List Value).flatMap (fun x => x.cells.toList)).toArray 5 (0, 0)) :: (bw, .cells [vd, .pointer (some ⟨bj, 0, none⟩), vr, .pointer (some ⟨bk, 0, none⟩)].toArray 32 (0, 0)) :: ((LJ8 ++ LD13) ++ LK11)); (case hi => rfl); (case i1 => infer_instance); (case hg => rfl); (case hd => rfl); (case ha => rfl); (case hc => exact hw2 _); (case hL => (exact pmc (fun p => by (repeat (first | rw [List.countP_append] | rw [List.countP_cons] | rw [List.countP_nil])); (all_goals (first | rfl | omega))))); (case hsub => (intros; (exact sbT))); rintro S14 L14 v14 - ⟨rfl, hR14, rfl⟩); (apply h_end; (case hr => kernel_rfl)); (refine W.perm (L' := (bl, .cells (([Value.int .u8 c.toNat] : List Value).flatMap (fun x => x.cells.toList)).toArray 5 (0, 0)) :: (bw, .cells [vd, .pointer (some ⟨bj, 0, none⟩), vr, .pointer (some ⟨bk, 0, none⟩)].toArray 32 (0, 0)) :: (LD13 ++ (L14 ++ (LJ8 ++ LK11)))) ?_ (pmc (fun p => by (repeat (first | rw [List.countP_append] | rw [List.countP_cons] | rw [List.countP_nil])); (all_goals (first | rfl | omega)))); refine q_then ?_; exact q_cut ⟨hle211, ⟨_, _, vd, _, vr, _, LD13, L14, _, hD13, hR14, hrel3.up, rfl⟩, rfl⟩ sbF sbL))); (case k2 => ((apply n_ev; (case hi => rfl); (case hg => rfl); (case hd => rfl); (case he => (apply ev_str_own (B := [c]); (case hx => rfl); (case hm => (repeat (first | exact List.Mem.head _ | apply List.Mem.tail | apply List.mem_append_right))); (case hk => exact Nat.le_refl _)))); (apply h_one 7; (case hr => kernel_rfl)); (apply n_call; (case hi => rfl); (case i1 => infer_instance); (case hg => rfl); (case hd => rfl); (case ha => rfl); (case hc => exact hpk _); (case hL => (repeat (first | exact pm_nil _ | exact pm_refl _ _ | exact pm_self _ | apply pm_cons | apply pm_app))); (case hsub => (intros; (exact sbT))); rintro _ _ _ - ⟨rfl, rfl, rfl⟩); (apply h_one 11; (case hr => kernel_rfl)); (apply n_call (L2 := (bl, .cells (([Value.int .u8 c.toNat] : List Value).flatMap (fun x => x.cells.toList)).toArray 5 (0, 0)) :: (bw, .cells [vd, .pointer (some ⟨bj, 0, none⟩), vr, .pointer (some ⟨bk, 0, none⟩)].toArray 32 (0, 0)) :: ((LJ8 ++ LD13) ++ LK11)); (case hi => rfl); (case i1 => infer_instance); (case hg => rfl); (case hd => rfl); (case ha => rfl); (case hc => exact hw2 _); (case hL => (exact pmc (fun p => by (repeat (first | rw [List.countP_append] | rw [List.countP_cons] | rw [List.countP_nil])); (all_goals (first | rfl | omega))))); (case hsub => (intros; (exact sbT))); rintro S14 L14 v14 - ⟨rfl, hR14, rfl⟩); (apply h_end; (case hr => kernel_rfl)); (refine W.perm (L' := (bl, .cells (([Value.int .u8 c.toNat] : List Value).flatMap (fun x => x.cells.toList)).toArray 5 (0, 0)) :: (bw, .cells [vd, .pointer (some ⟨bj, 0, none⟩), vr, .pointer (some ⟨bk, 0, none⟩)].toArray 32 (0, 0)) :: (LD13 ++ (L14 ++ (LJ8 ++ LK11)))) ?_ (pmc (fun p => by (repeat (first | rw [List.countP_append] | rw [List.countP_cons] | rw [List.countP_nil])); (all_goals (first | rfl | omega)))); refine q_then ?_; exact q_cut ⟨hle211, ⟨_, _, vd, _, vr, _, LD13, L14, _, hD13, hR14, hrel3.up, rfl⟩, rfl⟩ sbF sbL))))))); (case k2 => ((apply n_buildSlice; (case hi => rfl); (case hg => rfl); (case hd => rfl); (case i1 => infer_instance); (case i2 => infer_instance); (case i3 => infer_instance); (case hp => rfl); (case hq => rfl); (case hm => rfl); (case hv => rfl); (case hl => rfl); intro bl); (apply h_two 6 10; (case hr => kernel_rfl)); (case k1 => ((apply n_call; (case hi => rfl); (case i1 => infer_instance); (case hg => rfl); (case hd => rfl); (case ha => rfl); (case hc => exact hsz _); (case hL => (repeat (first | exact pm_nil _ | exact pm_refl _ _ | exact pm_self _ | apply pm_cons | apply pm_app))); (case hsub => (intros; (exact sbT))); rintro _ _ _ - ⟨rfl, rfl, rfl⟩); (apply h_two 7 10; (case hr => kernel_rfl)); (case k1 => ((apply n_call; (case hi => rfl); (case i1 => infer_instance); (case hg => rfl); (case hd => rfl); (case ha => rfl); (case hc => exact hpk _); (case hL => (repeat (first | exact pm_nil _ | exact pm_refl _ _ | exact pm_self _ | apply pm_cons | apply pm_app))); (case hsub => (intros; (exact sbT))); rintro _ _ _ - ⟨rfl, rfl, rfl⟩); (apply h_one 10; (case hr => kernel_rfl)); (apply n_ev; (case hi => rfl); (case hg => rfl); (case hd => rfl); (case he => (apply ev_str_own (B := [c]); (case hx => rfl); (case hm => (repeat (first | exact List.Mem.head _ | apply List.Mem.tail | apply List.mem_append_right))); (case hk => exact Nat.le_refl _)))); (apply h_one 11; (case hr => kernel_rfl)); (apply n_call (L2 := (bl, .cells (([Value.int .u8 c.toNat] : List Value).flatMap (fun x => x.cells.toList)).toArray 5 (0, 0)) :: (bw, .cells [vd, .pointer (some ⟨bj, 0, none⟩), vr, .pointer (some ⟨bk, 0, none⟩)].toArray 32 (0, 0)) :: ((LJ8 ++ LD13) ++ LK11)); (case hi => rfl); (case i1 => infer_instance); (case hg => rfl); (case hd => rfl); (case ha => rfl); (case hc => exact hw2 _); (case hL => (exact pmc (fun p => by (repeat (first | rw [List.countP_append] | rw [List.countP_cons] | rw [List.countP_nil])); (all_goals (first | rfl | omega))))); (case hsub => (intros; (exact sbT))); rintro S14 L14 v14 - ⟨rfl, hR14, rfl⟩); (apply h_end; (case hr => kernel_rfl)); (refine W.perm (L' := (bl, .cells (([Value.int .u8 c.toNat] : List Value).flatMap (fun x => x.cells.toList)).toArray 5 (0, 0)) :: (bw, .cells [vd, .pointer (some ⟨bj, 0, none⟩), vr, .pointer (some ⟨bk, 0, none⟩)].toArray 32 (0, 0)) :: (LD13 ++ (L14 ++ (LJ8 ++ LK11)))) ?_ (pmc (fun p => by (repeat (first | rw [List.countP_append] | rw [List.countP_cons] | rw [List.countP_nil])); (all_goals (first | rfl | omega)))); refine q_then ?_; exact q_cut ⟨hle211, ⟨_, _, vd, _, vr, _, LD13, L14, _, hD13, hR14, hrel3.up, rfl⟩, rfl⟩ sbF sbL))); (case k2 => ((apply n_ev; (case hi => rfl); (case hg => rfl); (case hd => rfl); (case he => (apply ev_str_own (B := [c]); (case hx => rfl); (case hm => (repeat (first | exact List.Mem.head _ | apply List.Mem.tail | apply List.mem_append_right))); (case hk => exact Nat.le_refl _)))); (apply h_one 7; (case hr => kernel_rfl)); (apply n_call; (case hi => rfl); (case i1 => infer_instance); (case hg => rfl); (case hd => rfl); (case ha => rfl); (case hc => exact hpk _); (case hL => (repeat (first | exact pm_nil _ | exact pm_refl _ _ | exact pm_self _ | apply pm_cons | apply pm_app))); (case hsub => (intros; (exact sbT))); rintro _ _ _ - ⟨rfl, rfl, rfl⟩); (apply h_one 11; (case hr => kernel_rfl)); (apply n_call (L2 := (bl, .cells (([Value.int .u8 c.toNat] : List Value).flatMap (fun x => x.cells.toList)).toArray 5 (0, 0)) :: (bw, .cells [vd, .pointer (some ⟨bj, 0, none⟩), vr, .pointer (some ⟨bk, 0, none⟩)].toArray 32 (0, 0)) :: ((LJ8 ++ LD13) ++ LK11)); (case hi => rfl); (case i1 => infer_instance); (case hg => rfl); (case hd => rfl); (case ha => rfl); (case hc => exact hw2 _); (case hL => (exact pmc (fun p => by (repeat (first | rw [List.countP_append] | rw [List.countP_cons] | rw [List.countP_nil])); (all_goals (first | rfl | omega))))); (case hsub => (intros; (exact sbT))); rintro S14 L14 v14 - ⟨rfl, hR14, rfl⟩); (apply h_end; (case hr => kernel_rfl)); (refine W.perm (L' := (bl, .cells (([Value.int .u8 c.toNat] : List Value).flatMap (fun x => x.cells.toList)).toArray 5 (0, 0)) :: (bw, .cells [vd, .pointer (some ⟨bj, 0, none⟩), vr, .pointer (some ⟨bk, 0, none⟩)].toArray 32 (0, 0)) :: (LD13 ++ (L14 ++ (LJ8 ++ LK11)))) ?_ (pmc (fun p => by (repeat (first | rw [List.countP_append] | rw [List.countP_cons] | rw [List.countP_nil])); (all_goals (first | rfl | omega)))); refine q_then ?_; exact q_cut ⟨hle211, ⟨_, _, vd, _, vr, _, LD13, L14, _, hD13, hR14, hrel3.up, rfl⟩, rfl⟩ sbF sbL))))); (case k2 => ((apply n_ev; (case hi => rfl); (case hg => rfl); (case hd => rfl); (case he => (apply ev_str_own (B := [c]); (case hx => rfl); (case hm => (repeat (first | exact List.Mem.head _ | apply List.Mem.tail | apply List.mem_append_right))); (case hk => exact Nat.le_refl _)))); (apply h_one 6; (case hr => kernel_rfl)); (apply n_call; (case hi => rfl); (case i1 => infer_instance); (case hg => rfl); (case hd => rfl); (case ha => rfl); (case hc => exact hsz _); (case hL => (repeat (first | exact pm_nil _ | exact pm_refl _ _ | exact pm_self _ | apply pm_cons | apply pm_app))); (case hsub => (intros; (exact sbT))); rintro _ _ _ - ⟨rfl, rfl, rfl⟩); (apply h_one 7; (case hr => kernel_rfl)); (apply n_call; (case hi => rfl); (case i1 => infer_instance); (case hg => rfl); (case hd => rfl); (case ha => rfl); (case hc => exact hpk _); (case hL => (repeat (first | exact pm_nil _ | exact pm_refl _ _ | exact pm_self _ | apply pm_cons | apply pm_app))); (case hsub => (intros; (exact sbT))); rintro _ _ _ - ⟨rfl, rfl, rfl⟩); (apply h_one 11; (case hr => kernel_rfl)); (apply n_call (L2 := (bl, .cells (([Value.int .u8 c.toNat] : List Value).flatMap (fun x => x.cells.toList)).toArray 5 (0, 0)) :: (bw, .cells [vd, .pointer (some ⟨bj, 0, none⟩), vr, .pointer (some ⟨bk, 0, none⟩)].toArray 32 (0, 0)) :: ((LJ8 ++ LD13) ++ LK11)); (case hi => rfl); (case i1 => infer_instance); (case hg => rfl); (case hd => rfl); (case ha => rfl); (case hc => exact hw2 _); (case hL => (exact pmc (fun p => by (repeat (first | rw [List.countP_append] | rw [List.countP_cons] | rw [List.countP_nil])); (all_goals (first | rfl | omega))))); (case hsub => (intros; (exact sbT))); rintro S14 L14 v14 - ⟨rfl, hR14, rfl⟩); (apply h_end; (case hr => kernel_rfl)); (refine W.perm (L' := (bl, .cells (([Value.int .u8 c.toNat] : List Value).flatMap (fun x => x.cells.toList)).toArray 5 (0, 0)) :: (bw, .cells [vd, .pointer (some ⟨bj, 0, none⟩), vr, .pointer (some ⟨bk, 0, none⟩)].toArray 32 (0, 0)) :: (LD13 ++ (L14 ++ (LJ8 ++ LK11)))) ?_ (pmc (fun p => by (repeat (first | rw [List.countP_append] | rw [List.countP_cons] | rw [List.countP_nil])); (all_goals (first | rfl | omega)))); refine q_then ?_; exact q_cut ⟨hle211, ⟨_, _, vd, _, vr, _, LD13, L14, _, hD13, hR14, hrel3.up, rfl⟩, rfl⟩ sbF sbL))))))
    · -- something is written at the beginning
      have hw1 := fun S => Write_con hD S 0 (s.take (min s.length N)) (by unfold i64; omega) (by simp; omega) (by simp [newD])
      have hw2 := fun S => RWrite_con hR S 0 (s.take (min s.length N)) (by unfold i64; omega) (by simp; omega) (by rw [hrel.l]; simp [newD])
      obtain ⟨hrel3, -⟩ := hrel.wr 0 (s.take (min s.length N))
      (repeat (first | refine Jz ?_ | intro _))
      ((apply c_held ([(bw, .cells [vd, .pointer (some ⟨bj, 0, none⟩), vr, .pointer (some ⟨bk, 0, none⟩)].toArray 32 (0, 0))]); (case hL => (exact sbT))); refine Jf 0 ?_; (apply h_first 1; (case hi => rfl); (case hr => kernel_rfl); (case hfr => kernel_rfl); (case hsel => kernel_rfl); (case hg => rfl); (case hd => rfl); (case he => (apply ev_nilCheck; rfl))); refine Jf 2 ?_; refine Jf 3 ?_; refine Jf 4 ?_; refine Jf 5 ?_; (apply h_first 6; (case hi => rfl); (case hr => kernel_rfl); (case hfr => kernel_rfl); (case hsel => kernel_rfl); (case hg => rfl); (case hd => rfl); (case he => (apply ev_len_b; rfl))); refine Jf 7 ?_; (apply h_one 8; (case hr => kernel_rfl)); (apply n_call; (case hi => rfl); (case i1 => infer_instance); (case hg => rfl); (case hd => rfl); (case ha => rfl); (case hc => exact hsz _); (case hL => (repeat (first | exact pm_nil _ | exact pm_refl _ _ | exact pm_self _ | apply pm_cons | apply pm_app))); (case hsub => (intros; (exact sbT))); rintro _ _ _ - ⟨rfl, rfl, rfl⟩); (apply h_first 9; (case hi => rfl); (case hr => kernel_rfl); (case hfr => kernel_rfl); (case hsel => kernel_rfl); (case hg => rfl); (case hd => rfl); (case he => (apply ev_minn; (case hx => rfl); (case hy => rfl)))); (apply h_first 10; (case hi => rfl); (case hr => kernel_rfl); (case hfr => kernel_rfl); (case hsel => kernel_rfl); (case hg => rfl); (case hd => rfl); (case he => (apply ev_slice_bh (j := min s.length N); (case hx => rfl); (case hz => rfl); (case hj => omega)))); (apply h_one 11; (case hr => kernel_rfl)); (apply n_call (L2 := (bw, .cells [vd, .pointer (some ⟨bj, 0, none⟩), vr, .pointer (some ⟨bk, 0, none⟩)].toArray 32 (0, 0)) :: (LJ ++ (LK ++ LR))); (case hi => rfl); (case i1 => infer_instance); (case hg => rfl); (case hd => rfl); (case ha => rfl); (case hc => exact hw1 _); (case hL => (exact pmc (fun p => by (repeat (first | rw [List.countP_append] | rw [List.countP_cons] | rw [List.countP_nil])); (all_goals (first | rfl | omega))))); (case hsub => (intros; (exact sbT))); rintro S6 LD6 v6 - ⟨rfl, hD6, rfl⟩); (apply h_end; (case hr => kernel_rfl)))
      refine W.perm (L' := (bw, .cells [vd, .pointer (some ⟨bj, 0, none⟩), vr, .pointer (some ⟨bk, 0, none⟩)].toArray 32 (0, 0)) :: ((LJ ++ LD6) ++ (LK ++ LR))) ?_ (pmc (fun p => by (repeat (first | rw [List.countP_append] | rw [List.countP_cons] | rw [List.countP_nil])); (all_goals (first | rfl | omega))))
      (repeat (first | refine Jz ?_ | intro _))
      ((apply c_held ([(bw, .cells [vd, .pointer (some ⟨bj, 0, none⟩), vr, .pointer (some ⟨bk, 0, none⟩)].toArray 32 (0, 0))]); (case hL => (exact sbT))); refine Jf 0 ?_; (apply h_first 1; (case hi => rfl); (case hr => kernel_rfl); (case hfr => kernel_rfl); (case hsel => kernel_rfl); (case hg => rfl); (case hd => rfl); (case he => (apply ev_nilCheck; rfl))); refine Jf 2 ?_; refine Jf 3 ?_; refine Jf 4 ?_; refine Jf 5 ?_; (apply h_first 6; (case hi => rfl); (case hr => kernel_rfl); (case hfr => kernel_rfl); (case hsel => kernel_rfl); (case hg => rfl); (case hd => rfl); (case he => (apply ev_len_b; rfl))); refine Jf 7 ?_; (apply h_one 8; (case hr => kernel_rfl)); (apply n_call; (case hi => rfl); (case i1 => infer_instance); (case hg => rfl); (case hd => rfl); (case ha => rfl); (case hc => exact hsz _); (case hL => (repeat (first | exact pm_nil _ | exact pm_refl _ _ | exact pm_self _ | apply pm_cons | apply pm_app))); (case hsub => (intros; (exact sbT))); rintro _ _ _ - ⟨rfl, rfl, rfl⟩); (apply h_first 9; (case hi => rfl); (case hr => kernel_rfl); (case hfr => kernel_rfl); (case hsel => kernel_rfl); (case hg => rfl); (case hd => rfl); (case he => (apply ev_minn; (case hx => rfl); (case hy => rfl)))); (apply h_first 10; (case hi => rfl); (case hr => kernel_rfl); (case hfr => kernel_rfl); (case hsel => kernel_rfl); (case hg => rfl); (case hd => rfl); (case he => (apply ev_slice_bh (j := min s.length N); (case hx => rfl); (case hz => rfl); (case hj => omega)))); (apply h_one 11; (case hr => kernel_rfl)); (apply n_call (L2 := (bw, .cells [vd, .pointer (some ⟨bj, 0, none⟩), vr, .pointer (some ⟨bk, 0, none⟩)].toArray 32 (0, 0)) :: ((LJ ++ LD6) ++ LK)); (case hi => rfl); (case i1 => infer_instance); (case hg => rfl); (case hd => rfl); (case ha => rfl); (case hc => exact hw2 _); (case hL => (exact pmc (fun p => by (repeat (first | rw [List.countP_append] | rw [List.countP_cons] | rw [List.countP_nil])); (all_goals (first | rfl | omega))))); (case hsub => (intros; (exact sbT))); rintro S7 LR7 v7 - ⟨rfl, hR7, rfl⟩); (apply h_end; (case hr => kernel_rfl)))
      refine W.perm (L' := (bw, .cells [vd, .pointer (some ⟨bj, 0, none⟩), vr, .pointer (some ⟨bk, 0, none⟩)].toArray 32 (0, 0)) :: (LD6 ++ (LR7 ++ (LJ ++ LK)))) ?_ (pmc (fun p => by (repeat (first | rw [List.countP_append] | rw [List.countP_cons] | rw [List.countP_nil])); (all_goals (first | rfl | omega))))
      refine q_then ?_
      exact q_cut ⟨Le.refl _, ⟨_, _, vd, _, vr, _, LD6, LR7, _, hD6, hR7, hrel3.up.up.up, rfl⟩, rfl⟩ sbF (List.Sublist.refl _)
  clear hrel hW
  rintro S4 L F ⟨hle4, ⟨D, R, vd, jv, vr, kv, LD, LR, LX, hD, hR, hrel, rfl⟩, rfl⟩
  have hleT := hle1.trans (hle2.trans hle4)
  refine W.perm (L' := ((bw, .cells [vd, jv, vr, kv].toArray 32 (0, 0)) :: (LD ++ LR)) ++ LX) ?_ (pmc (fun p => by (repeat (first | rw [List.countP_append] | rw [List.countP_cons] | rw [List.countP_nil])); (all_goals (first | rfl | omega))))
  refine W.weaken (L' := (bw, .cells [vd, jv, vr, kv].toArray 32 (0, 0)) :: (LD ++ LR)) ?_ (X.Sub.refl _) (List.sublist_append_left _ _)
  obtain ⟨lr, tail, hsh, hvis, htl⟩ := split_all shaK _ D.vis head0 (Nat.le_refl _)
  have hwo := wopen_con (bw := bw) (j0 := jv) (k0 := kv) hD hR hrel _ p (by omega) (by omega) lr tail hvis hsh htl (hK.le hleT) (hE.le hleT)
  have hr1 := (hrel.openO' lr tail).1
  have hof := openO_off (D := D) (l := lr) (tail := tail)
  have hjok := jsOk_of (E := (openO D lr tail).2) hrel.vlen hvis hsh
  generalize (openO D lr tail).1 = D5 at *
  generalize (openR R lr tail).1 = R5 at *
  generalize (openO D lr tail).2 = E5 at *
  clear hvis htl hD hR hrel
  by_cases hE0 : E5 = 0
  rotate_left
  · rw [if_neg hE0] at hwo
    (repeat (first | refine Jc ?_ | (apply s_call (L2 := []); (case hg => rfl); (case hd => rfl); (case ha => rfl); (case hc => exact hwo); (case hL => (exact pmc (fun p => by (repeat (first | rw [List.countP_append] | rw [List.countP_cons] | rw [List.countP_nil])); (all_goals (first | rfl | omega))))); rintro S5 L5 v5 hle5 ⟨rfl, vd5, vr5, LD5, LR5, hD5, hR5, rfl⟩) | refine Jo ?_ | intro _))
    refine W.weaken (L' := (bw, .cells [vd5, .pointer none, vr5, .pointer none].toArray 32 (0, 0)) :: (LD5 ++ LR5)) ?_ (X.Sub.refl _) (List.sublist_append_left _ _)
    ((apply c_held ([(bw, .cells [vd5, .pointer none, vr5, .pointer none].toArray 32 (0, 0))]); (case hL => (exact sbT))); refine Jf 0 ?_; refine Jf 1 ?_; refine Jf 2 ?_; refine Jf 3 ?_; refine Jf 4 ?_; refine Jf 5 ?_; (apply h_first 6; (case hi => rfl); (case hr => kernel_rfl); (case hfr => kernel_rfl); (case hsel => kernel_rfl); (case hg => rfl); (case hd => rfl); (case he => (apply ev_nilCheck; rfl))); refine Jf 7 ?_; refine Jf 8 ?_; (apply h_first 9; (case hi => rfl); (case hr => kernel_rfl); (case hfr => kernel_rfl); (case hsel => kernel_rfl); (case hg => rfl); (case hd => rfl); (case he => (apply ev_eql_p; (case hx => rfl); (case hy => rfl)))); refine Jf 10 ?_; refine Jf 11 ?_; refine Jf 12 ?_; refine Jf 13 ?_; refine Jf 14 ?_; refine Jf 16 ?_; refine Jf 17 ?_; refine Jf 18 ?_; refine Jf 19 ?_; refine Jf 20 ?_; refine Jf 21 ?_; (apply h_two 15 22; (case hr => kernel_rfl)); (case k1 => ((refine X.Jn ?_; try intro _); (apply h_one 22; (case hr => kernel_rfl)); (refine X.Jn ?_; try intro _); (apply h_one 23; (case hr => kernel_rfl)); (refine X.Jn ?_; try intro _); refine Jf 24 ?_; refine Jf 25 ?_; refine Jf 26 ?_; refine Jf 27 ?_; refine Jf 28 ?_; refine Jf 30 ?_; refine Jf 31 ?_; refine Jf 32 ?_; refine Jf 33 ?_; (apply h_one 29; (case hr => kernel_rfl)); (refine X.Jn ?_; try intro _); (apply h_one 34; (case hr => kernel_rfl)); (refine X.Jn ?_; try intro _); refine Jf 35 ?_; refine Jf 36 ?_; refine Jf 37 ?_; refine Jf 38 ?_; refine Jf 39 ?_; refine Jf 40 ?_; refine Jf 41 ?_; refine Jf 43 ?_; refine Jf 44 ?_; refine Jf 45 ?_; refine Jf 46 ?_; (apply h_one 42; (case hr => kernel_rfl)); (refine X.Jn ?_; try intro _); (apply h_one 47; (case hr => kernel_rfl)); (refine X.Jn ?_; try intro _); (apply h_one 48; (case hr => kernel_rfl)); (refine X.Jn ?_; try intro _); refine Jf 49 ?_; refine Jf 50 ?_; refine Jf 51 ?_; refine Jf 52 ?_; refine Jf 53 ?_; (apply h_end; (case hr => kernel_rfl)); (((repeat (first | refine Jz ?_ | intro _))); exact o_ret Tryz.results3 rfl (List.nil_sublist _) rfl))); (case k2 => ((refine X.Jn ?_; try intro _); (apply h_one 15; (case hr => kernel_rfl)); (refine X.Jn ?_; try intro _); (apply h_one 23; (case hr => kernel_rfl)); (refine X.Jn ?_; try intro _); refine Jf 24 ?_; refine Jf 25 ?_; refine Jf 26 ?_; refine Jf 27 ?_; refine Jf 28 ?_; refine Jf 30 ?_; refine Jf 31 ?_; refine Jf 32 ?_; refine Jf 33 ?_; (apply h_one 29; (case hr => kernel_rfl)); (refine X.Jn ?_; try intro _); (apply h_one 34; (case hr => kernel_rfl)); (refine X.Jn ?_; try intro _); refine Jf 35 ?_; refine Jf 36 ?_; refine Jf 37 ?_; refine Jf 38 ?_; refine Jf 39 ?_; refine Jf 40 ?_; refine Jf 41 ?_; refine Jf 43 ?_; refine Jf 44 ?_; refine Jf 45 ?_; refine Jf 46 ?_; (apply h_one 42; (case hr => kernel_rfl)); (refine X.Jn ?_; try intro _); (apply h_one 47; (case hr => kernel_rfl)); (refine X.Jn ?_; try intro _); (apply h_one 48; (case hr => kernel_rfl)); (refine X.Jn ?_; try intro _); refine Jf 49 ?_; refine Jf 50 ?_; refine Jf 51 ?_; refine Jf 52 ?_; refine Jf 53 ?_; (apply h_end; (case hr => kernel_rfl)); (((repeat (first | refine Jz ?_ | intro _))); exact o_ret Tryz.results3 rfl (List.nil_sublist _) rfl))))
  rw [if_pos hE0] at hwo hjok
  obtain ⟨hsr, hre⟩ := hjok lr false rfl
  have hoff := hof hE0
  have hal := recB_len (K := shaK) hsr
  (repeat (first | refine Jc ?_ | (apply s_call (L2 := []); (case hg => rfl); (case hd => rfl); (case ha => rfl); (case hc => exact hwo); (case hL => (exact pmc (fun p => by (repeat (first | rw [List.countP_append] | rw [List.countP_cons] | rw [List.countP_nil])); (all_goals (first | rfl | omega))))); rintro S5 L5 v5 hle5 ⟨rfl, vd5, vr5, LD5, LR5, hD5, hR5, jv5, kv5, LJ5, LK5, hJ5, hKs5, rfl⟩) | refine Jo ?_ | intro _))
  obtain ⟨sure, lw, down, left⟩ := R5
  obtain rfl : sure = D5.dur := hr1.sure
  obtain rfl : lw = D5.pend := hr1.l
  obtain rfl : down = D5.off := hr1.down
  obtain rfl : left = D5.left := hr1.left
  have hvl := hr1.vlen
  have hdl := hr1.dur
  have hpd := hr1.pend
  have hvis : applyL D5.dur D5.pend = D5.vis := hr1.vis.symm
  have hR' := hR5
  obtain ⟨b, g, N', cap, tl, pv, ob, rfl, hp, ho, hw, hc1, hc2, hc3⟩ := hR5
  obtain rfl : N' = N := by have := hw.sure; exact this.symm.trans hdl
  have hKs' := hKs5
  obtain ⟨bk, Ak, ck, rfl, rfl, hck, hAk⟩ := hKs5
  obtain ⟨bj, rfl⟩ := hJ5.form
  have hV := fun S LR (h : OwR (.pointer (some ⟨b, 0, none⟩)) ⟨D5.dur, D5.pend, D5.off, D5.left⟩ LR) => Visible_con h (by simp only; omega) S
  simp only [hvis] at hV
  refine W.perm (L' := (bw, .cells [vd5, .pointer (some ⟨bj, 0, none⟩), .pointer (some ⟨b, 0, none⟩), .pointer (some ⟨bk, 0, none⟩)].toArray 32 (0, 0)) :: (LJ5 ++ (LD5 ++ (LR5 ++ [(bk, .cells [.pointer (some ⟨b, 0, none⟩), .slice Ak lr.length ck, .int .i64 ((recB shaK lr).length : Nat), .bool false].toArray 43 (0, 0))])))) ?_ (pmc (fun p => by (repeat (first | rw [List.countP_append] | rw [List.countP_cons] | rw [List.countP_nil])); (all_goals (first | rfl | omega))))
  ((apply c_held ([(bw, .cells [vd5, .pointer (some ⟨bj, 0, none⟩), .pointer (some ⟨b, 0, none⟩), .pointer (some ⟨bk, 0, none⟩)].toArray 32 (0, 0))]); (case hL => (exact sbT))); refine Jf 0 ?_; refine Jf 1 ?_; refine Jf 2 ?_; refine Jf 3 ?_; refine Jf 4 ?_; refine Jf 5 ?_; (apply h_first 6; (case hi => rfl); (case hr => kernel_rfl); (case hfr => kernel_rfl); (case hsel => kernel_rfl); (case hg => rfl); (case hd => rfl); (case he => (apply ev_nilCheck; rfl))); refine Jf 7 ?_; refine Jf 8 ?_; (apply h_first 9; (case hi => rfl); (case hr => kernel_rfl); (case hfr => kernel_rfl); (case hsel => kernel_rfl); (case hg => rfl); (case hd => rfl); (case he => (apply ev_eql_p; (case hx => rfl); (case hy => rfl)))); refine Jf 10 ?_; refine Jf 11 ?_; (apply h_first 12; (case hi => rfl); (case hr => kernel_rfl); (case hfr => kernel_rfl); (case hsel => kernel_rfl); (case hg => rfl); (case hd => rfl); (case he => (apply ev_nilCheck; rfl))); refine Jf 13 ?_; refine Jf 14 ?_; refine Jf 16 ?_; (apply h_first 17; (case hi => rfl); (case hr => kernel_rfl); (case hfr => kernel_rfl); (case hsel => kernel_rfl); (case hg => rfl); (case hd => rfl); (case he => (apply ev_nilCheck; rfl))); refine Jf 18 ?_; refine Jf 19 ?_; (apply h_first 20; (case hi => rfl); (case hr => kernel_rfl); (case hfr => kernel_rfl); (case hsel => kernel_rfl); (case hg => rfl); (case hd => rfl); (case he => (apply ev_nilCheck; rfl))); refine Jf 21 ?_; (apply h_two 15 22; (case hr => kernel_rfl)); (case k1 => ((apply n_call (L2 := (bw, .cells [vd5, .pointer (some ⟨bj, 0, none⟩), .pointer (some ⟨b, 0, none⟩), .pointer (some ⟨bk, 0, none⟩)].toArray 32 (0, 0)) :: (LD5 ++ (LR5 ++ [(bk, .cells [.pointer (some ⟨b, 0, none⟩), .slice Ak lr.length ck, .int .i64 ((recB shaK lr).length : Nat), .bool false].toArray 43 (0, 0))]))); (case hi => rfl); (case i1 => infer_instance); (case hg => rfl); (case hd => rfl); (case ha => rfl); (case hc => exact Records_con hJ5 _ (show lr.length ≤ _ by omega)); (case hL => (exact pmc (fun p => by (repeat (first | rw [List.countP_append] | rw [List.countP_cons] | rw [List.countP_nil])); (all_goals (first | rfl | omega))))); (case hsub => (intros; (exact sbT))); rintro S11 L11 v11 - ⟨rfl, ob11, rfl, ho11⟩; refine Wh.freezeOws (L1 := (bw, .cells [vd5, .pointer (some ⟨bj, 0, none⟩), .pointer (some ⟨b, 0, none⟩), .pointer (some ⟨bk, 0, none⟩)].toArray 32 (0, 0)) :: (LJ5 ++ (LD5 ++ (LR5 ++ [(bk, .cells [.pointer (some ⟨b, 0, none⟩), .slice Ak lr.length ck, .int .i64 ((recB shaK lr).length : Nat), .bool false].toArray 43 (0, 0))])))) ho11 (pmc (fun p => by (repeat (first | rw [List.countP_append] | rw [List.countP_cons] | rw [List.countP_nil])); (all_goals (first | rfl | omega)))) sbL fun S12 hle12 hs12 => ?_; obtain ⟨A12, c12, rfl, hc12, hA12⟩ := hs12); (apply h_one 22; (case hr => kernel_rfl)); (refine X.Jn ?_; try intro _); (apply h_one 23; (case hr => kernel_rfl)); (apply n_call; (case hi => rfl); (case i1 => infer_instance); (case hg => rfl); (case hd => rfl); (case ha => rfl); (case hc => exact same_con_t (l := lr) (r := lr) hA12 (hAk.le hle12) (by omega) rfl); (case hL => (repeat (first | exact pm_nil _ | exact pm_refl _ _ | exact pm_self _ | apply pm_cons | apply pm_app))); (case hsub => (intros; (exact sbT))); rintro _ _ _ - ⟨rfl, rfl, rfl⟩); refine Jf 24 ?_; refine Jf 25 ?_; (apply h_first 26; (case hi => rfl); (case hr => kernel_rfl); (case hfr => kernel_rfl); (case hsel => kernel_rfl); (case hg => rfl); (case hd => rfl); (case he => (apply ev_nilCheck; rfl))); refine Jf 27 ?_; refine Jf 28 ?_; refine Jf 30 ?_; (apply h_first 31; (case hi => rfl); (case hr => kernel_rfl); (case hfr => kernel_rfl); (case hsel => kernel_rfl); (case hg => rfl); (case hd => rfl); (case he => (apply ev_nilCheck; rfl))); refine Jf 32 ?_; refine Jf 33 ?_; (apply h_one 29; (case hr => kernel_rfl)); (apply n_call (L2 := (bw, .cells [vd5, .pointer (some ⟨bj, 0, none⟩), .pointer (some ⟨b, 0, none⟩), .pointer (some ⟨bk, 0, none⟩)].toArray 32 (0, 0)) :: (LR5 ++ [(bk, .cells [.pointer (some ⟨b, 0, none⟩), .slice Ak lr.length ck, .int .i64 ((recB shaK lr).length : Nat), .bool false].toArray 43 (0, 0))])); (case hi => rfl); (case i1 => infer_instance); (case hg => rfl); (case hd => rfl); (case ha => rfl); (case hc => exact RoomW_con (s := (recB shaK lr).length) hJ5 hD5 _ rfl hdl hre (by omega)); (case hL => (exact pmc (fun p => by (repeat (first | rw [List.countP_append] | rw [List.countP_cons] | rw [List.countP_nil])); (all_goals (first | rfl | omega))))); (case hsub => (intros; (exact sbT))); rintro S13 L13 v13 - ⟨rfl, LD13, rfl, hD13, rfl⟩); (apply h_one 34; (case hr => kernel_rfl)); (apply n_call (L2 := (bw, .cells [vd5, .pointer (some ⟨bj, 0, none⟩), .pointer (some ⟨b, 0, none⟩), .pointer (some ⟨bk, 0, none⟩)].toArray 32 (0, 0)) :: (LJ5 ++ LD13)); (case hi => rfl); (case i1 => infer_instance); (case hg => rfl); (case hd => rfl); (case ha => rfl); (case hc => exact rRoomW_con (N := N') (hKs'.le hle12) hR' (by omega) hdl); (case hL => (exact pmc (fun p => by (repeat (first | rw [List.countP_append] | rw [List.countP_cons] | rw [List.countP_nil])); (all_goals (first | rfl | omega))))); (case hsub => (intros; (exact sbT))); rintro S14 L14 v14 - ⟨rfl, LR14, rfl, hR14, rfl⟩); refine Jf 35 ?_; refine Jf 36 ?_; refine Jf 37 ?_; refine Jf 38 ?_; (apply h_first 39; (case hi => rfl); (case hr => kernel_rfl); (case hfr => kernel_rfl); (case hsel => kernel_rfl); (case hg => rfl); (case hd => rfl); (case he => (apply ev_nilCheck; rfl))); refine Jf 40 ?_; refine Jf 41 ?_; refine Jf 43 ?_; (apply h_first 44; (case hi => rfl); (case hr => kernel_rfl); (case hfr => kernel_rfl); (case hsel => kernel_rfl); (case hg => rfl); (case hd => rfl); (case he => (apply ev_nilCheck; rfl))); refine Jf 45 ?_; refine Jf 46 ?_; (apply h_one 42; (case hr => kernel_rfl)); (apply n_call (L2 := (bw, .cells [vd5, .pointer (some ⟨bj, 0, none⟩), .pointer (some ⟨b, 0, none⟩), .pointer (some ⟨bk, 0, none⟩)].toArray 32 (0, 0)) :: (LJ5 ++ ([(bk, .cells [.pointer (some ⟨b, 0, none⟩), .slice Ak lr.length ck, .int .i64 ((recB shaK lr).length : Nat), .bool false].toArray 43 (0, 0))] ++ LR14))); (case hi => rfl); (case i1 => infer_instance); (case hg => rfl); (case hd => rfl); (case ha => rfl); (case hc => exact content_con hD13 _ hoff (by omega) (by omega)); (case hL => (exact pmc (fun p => by (repeat (first | rw [List.countP_append] | rw [List.countP_cons] | rw [List.countP_nil])); (all_goals (first | rfl | omega))))); (case hsub => (intros; (exact sbT))); rintro S15 LD15 v15 - ⟨rfl, hD15, rfl⟩); (apply h_one 47; (case hr => kernel_rfl)); (apply n_call (L2 := (bw, .cells [vd5, .pointer (some ⟨bj, 0, none⟩), .pointer (some ⟨b, 0, none⟩), .pointer (some ⟨bk, 0, none⟩)].toArray 32 (0, 0)) :: ((LJ5 ++ LD15) ++ [(bk, .cells [.pointer (some ⟨b, 0, none⟩), .slice Ak lr.length ck, .int .i64 ((recB shaK lr).length : Nat), .bool false].toArray 43 (0, 0))])); (case hi => rfl); (case i1 => infer_instance); (case hg => rfl); (case hd => rfl); (case ha => rfl); (case hc => exact hV _ _ hR14); (case hL => (exact pmc (fun p => by (repeat (first | rw [List.countP_append] | rw [List.countP_cons] | rw [List.countP_nil])); (all_goals (first | rfl | omega))))); (case hsub => (intros; (exact sbT))); rintro S16 L16 v16 - ⟨rfl, g16, cap16, tl16, L17, rfl, hR17, rfl, -, -, -⟩); (apply h_one 48; (case hr => kernel_rfl)); (apply n_ev; (case hi => rfl); (case hg => rfl); (case hd => rfl); (case he => (apply ev_str_row (B := D5.vis) (tl := tl16); (case hx => rfl); (case hm => (repeat (first | exact List.Mem.head _ | apply List.Mem.tail | apply List.mem_append_right))); (case hk => omega)))); (apply h_first 49; (case hi => rfl); (case hr => kernel_rfl); (case hfr => kernel_rfl); (case hsel => kernel_rfl); (case hg => rfl); (case hd => rfl); (case he => (apply ev_eql_bv (r := true); (case hx => rfl); (case hy => rfl); (case h => (rw [List.drop_zero, List.take_of_length_le (by omega)]; simp))))); refine Jf 50 ?_; refine Jf 51 ?_; refine Jf 52 ?_; refine Jf 53 ?_; (apply h_end; (case hr => kernel_rfl)); (((repeat (first | refine Jz ?_ | intro _))); exact o_ret Tryz.results3 rfl (List.nil_sublist _) rfl))); (case k2 => ((refine X.Jn ?_; try intro _); (apply h_one 15; (case hr => kernel_rfl)); (apply n_call (L2 := (bw, .cells [vd5, .pointer (some ⟨bj, 0, none⟩), .pointer (some ⟨b, 0, none⟩), .pointer (some ⟨bk, 0, none⟩)].toArray 32 (0, 0)) :: (LD5 ++ (LR5 ++ [(bk, .cells [.pointer (some ⟨b, 0, none⟩), .slice Ak lr.length ck, .int .i64 ((recB shaK lr).length : Nat), .bool false].toArray 43 (0, 0))]))); (case hi => rfl); (case i1 => infer_instance); (case hg => rfl); (case hd => rfl); (case ha => rfl); (case hc => exact Records_con hJ5 _ (show lr.length ≤ _ by omega)); (case hL => (exact pmc (fun p => by (repeat (first | rw [List.countP_append] | rw [List.countP_cons] | rw [List.countP_nil])); (all_goals (first | rfl | omega))))); (case hsub => (intros; (exact sbT))); rintro S11 L11 v11 - ⟨rfl, ob11, rfl, ho11⟩; refine Wh.freezeOws (L1 := (bw, .cells [vd5, .pointer (some ⟨bj, 0, none⟩), .pointer (some ⟨b, 0, none⟩), .pointer (some ⟨bk, 0, none⟩)].toArray 32 (0, 0)) :: (LJ5 ++ (LD5 ++ (LR5 ++ [(bk, .cells [.pointer (some ⟨b, 0, none⟩), .slice Ak lr.length ck, .int .i64 ((recB shaK lr).length : Nat), .bool false].toArray 43 (0, 0))])))) ho11 (pmc (fun p => by (repeat (first | rw [List.countP_append] | rw [List.countP_cons] | rw [List.countP_nil])); (all_goals (first | rfl | omega)))) sbL fun S12 hle12 hs12 => ?_; obtain ⟨A12, c12, rfl, hc12, hA12⟩ := hs12); (apply h_one 23; (case hr => kernel_rfl)); (apply n_call; (case hi => rfl); (case i1 => infer_instance); (case hg => rfl); (case hd => rfl); (case ha => rfl); (case hc => exact same_con_t (l := lr) (r := lr) hA12 (hAk.le hle12) (by omega) rfl); (case hL => (repeat (first | exact pm_nil _ | exact pm_refl _ _ | exact pm_self _ | apply pm_cons | apply pm_app))); (case hsub => (intros; (exact sbT))); rintro _ _ _ - ⟨rfl, rfl, rfl⟩); refine Jf 24 ?_; refine Jf 25 ?_; (apply h_first 26; (case hi => rfl); (case hr => kernel_rfl); (case hfr => kernel_rfl); (case hsel => kernel_rfl); (case hg => rfl); (case hd => rfl); (case he => (apply ev_nilCheck; rfl))); refine Jf 27 ?_; refine Jf 28 ?_; refine Jf 30 ?_; (apply h_first 31; (case hi => rfl); (case hr => kernel_rfl); (case hfr => kernel_rfl); (case hsel => kernel_rfl); (case hg => rfl); (case hd => rfl); (case he => (apply ev_nilCheck; rfl))); refine Jf 32 ?_; refine Jf 33 ?_; (apply h_one 29; (case hr => kernel_rfl)); (apply n_call (L2 := (bw, .cells [vd5, .pointer (some ⟨bj, 0, none⟩), .pointer (some ⟨b, 0, none⟩), .pointer (some ⟨bk, 0, none⟩)].toArray 32 (0, 0)) :: (LR5 ++ [(bk, .cells [.pointer (some ⟨b, 0, none⟩), .slice Ak lr.length ck, .int .i64 ((recB shaK lr).length : Nat), .bool false].toArray 43 (0, 0))])); (case hi => rfl); (case i1 => infer_instance); (case hg => rfl); (case hd => rfl); (case ha => rfl); (case hc => exact RoomW_con (s := (recB shaK lr).length) hJ5 hD5 _ rfl hdl hre (by omega)); (case hL => (exact pmc (fun p => by (repeat (first | rw [List.countP_append] | rw [List.countP_cons] | rw [List.countP_nil])); (all_goals (first | rfl | omega))))); (case hsub => (intros; (exact sbT))); rintro S13 L13 v13 - ⟨rfl, LD13, rfl, hD13, rfl⟩); (apply h_one 34; (case hr => kernel_rfl)); (apply n_call (L2 := (bw, .cells [vd5, .pointer (some ⟨bj, 0, none⟩), .pointer (some ⟨b, 0, none⟩), .pointer (some ⟨bk, 0, none⟩)].toArray 32 (0, 0)) :: (LJ5 ++ LD13)); (case hi => rfl); (case i1 => infer_instance); (case hg => rfl); (case hd => rfl); (case ha => rfl); (case hc => exact rRoomW_con (N := N') (hKs'.le hle12) hR' (by omega) hdl); (case hL => (exact pmc (fun p => by (repeat (first | rw [List.countP_append] | rw [List.countP_cons] | rw [List.countP_nil])); (all_goals (first | rfl | omega))))); (case hsub => (intros; (exact sbT))); rintro S14 L14 v14 - ⟨rfl, LR14, rfl, hR14, rfl⟩); refine Jf 35 ?_; refine Jf 36 ?_; refine Jf 37 ?_; refine Jf 38 ?_; (apply h_first 39; (case hi => rfl); (case hr => kernel_rfl); (case hfr => kernel_rfl); (case hsel => kernel_rfl); (case hg => rfl); (case hd => rfl); (case he => (apply ev_nilCheck; rfl))); refine Jf 40 ?_; refine Jf 41 ?_; refine Jf 43 ?_; (apply h_first 44; (case hi => rfl); (case hr => kernel_rfl); (case hfr => kernel_rfl); (case hsel => kernel_rfl); (case hg => rfl); (case hd => rfl); (case he => (apply ev_nilCheck; rfl))); refine Jf 45 ?_; refine Jf 46 ?_; (apply h_one 42; (case hr => kernel_rfl)); (apply n_call (L2 := (bw, .cells [vd5, .pointer (some ⟨bj, 0, none⟩), .pointer (some ⟨b, 0, none⟩), .pointer (some ⟨bk, 0, none⟩)].toArray 32 (0, 0)) :: (LJ5 ++ ([(bk, .cells [.pointer (some ⟨b, 0, none⟩), .slice Ak lr.length ck, .int .i64 ((recB shaK lr).length : Nat), .bool false].toArray 43 (0, 0))] ++ LR14))); (case hi => rfl); (case i1 => infer_instance); (case hg => rfl); (case hd => rfl); (case ha => rfl); (case hc => exact content_con hD13 _ hoff (by omega) (by omega)); (case hL => (exact pmc (fun p => by (repeat (first | rw [List.countP_append] | rw [List.countP_cons] | rw [List.countP_nil])); (all_goals (first | rfl | omega))))); (case hsub => (intros; (exact sbT))); rintro S15 LD15 v15 - ⟨rfl, hD15, rfl⟩); (apply h_one 47; (case hr => kernel_rfl)); (apply n_call (L2 := (bw, .cells [vd5, .pointer (some ⟨bj, 0, none⟩), .pointer (some ⟨b, 0, none⟩), .pointer (some ⟨bk, 0, none⟩)].toArray 32 (0, 0)) :: ((LJ5 ++ LD15) ++ [(bk, .cells [.pointer (some ⟨b, 0, none⟩), .slice Ak lr.length ck, .int .i64 ((recB shaK lr).length : Nat), .bool false].toArray 43 (0, 0))])); (case hi => rfl); (case i1 => infer_instance); (case hg => rfl); (case hd => rfl); (case ha => rfl); (case hc => exact hV _ _ hR14); (case hL => (exact pmc (fun p => by (repeat (first | rw [List.countP_append] | rw [List.countP_cons] | rw [List.countP_nil])); (all_goals (first | rfl | omega))))); (case hsub => (intros; (exact sbT))); rintro S16 L16 v16 - ⟨rfl, g16, cap16, tl16, L17, rfl, hR17, rfl, -, -, -⟩); (apply h_one 48; (case hr => kernel_rfl)); (apply n_ev; (case hi => rfl); (case hg => rfl); (case hd => rfl); (case he => (apply ev_str_row (B := D5.vis) (tl := tl16); (case hx => rfl); (case hm => (repeat (first | exact List.Mem.head _ | apply List.Mem.tail | apply List.mem_append_right))); (case hk => omega)))); (apply h_first 49; (case hi => rfl); (case hr => kernel_rfl); (case hfr => kernel_rfl); (case hsel => kernel_rfl); (case hg => rfl); (case hd => rfl); (case he => (apply ev_eql_bv (r := true); (case hx => rfl); (case hy => rfl); (case h => (rw [List.drop_zero, List.take_of_length_le (by omega)]; simp))))); refine Jf 50 ?_; refine Jf 51 ?_; refine Jf 52 ?_; refine Jf 53 ?_; (apply h_end; (case hr => kernel_rfl)); (((repeat (first | refine Jz ?_ | intro _))); exact o_ret Tryz.results3 rfl (List.nil_sublist _) rfl))))
end Go.Proofs.YtnlfohlngapkfaaGreatDoor
namespace Go.Proofs.YtnlfohlngapkfaaGreatDoor
open Go Go.X
set_option maxRecDepth 10000
set_option linter.unusedVariables false
attribute [local irreducible] Code.wpIn wpListIn Exit.then Exit.inBlock X.Out X.Back X.W X.Ev X.Con X.BinV X.Wh X.Wn X.Wq
end Go.Proofs.YtnlfohlngapkfaaGreatDoor
namespace Go.Proofs.YtnlfohlngapkfaaGreatDoor
open Go Go.X
set_option maxRecDepth 10000
set_option linter.unusedVariables false
attribute [local irreducible] Code.wpIn wpListIn Exit.then Exit.inBlock X.Out X.Back X.W X.Ev X.Con X.BinV X.Wh X.Wn X.Wq
attribute [local irreducible] sumK chain stw group stored
end Go.Proofs.YtnlfohlngapkfaaGreatDoor
namespace Go.Proofs.YtnlfohlngapkfaaGreatDoor
open Go Go.X
set_option maxRecDepth 10000
set_option linter.unusedVariables false
attribute [local irreducible] Code.wpIn wpListIn Exit.then Exit.inBlock X.Out X.Back X.W X.Ev X.Con X.BinV X.Wh X.Wn X.Wq
theorem u8_wf {n : Int} (h : (Lit.int .u8 n).wf = true) : n = ((UInt8.ofNat n.toNat).toNat : Int) := by
  have e1 : IntKind.min .u8 = 0 := by decide
  have e2 : IntKind.max .u8 = 255 := by decide
  simp [Lit.wf, e1, e2] at h
  rw [UInt8.toNat_ofNat']
  omega
end Go.Proofs.YtnlfohlngapkfaaGreatDoor
namespace Go.Proofs.YtnlfohlngapkfaaGreatDoor
open Go Go.X
set_option maxRecDepth 10000
set_option linter.unusedVariables false
attribute [local irreducible] Code.wpIn wpListIn Exit.then Exit.inBlock X.Out X.Back X.W X.Ev X.Con X.BinV X.Wh X.Wn X.Wq
theorem opensI_law (n : Int) (s : ByteArray) (l : List Str) (Al : Option Addr) (cl : Nat) (at_ c : Int) (p : Addr) (S : SH) (hn : i64 n) (hs : s.size ≤ maxLen) (hAl : At S Al l) (hat : i64 at_) (hc : (Lit.int .u8 c).wf = true)
    (hK : Pts S ⟨4, 0, none⟩ (cellsOf shaK)) (hE : Pts S ⟨0, 0, none⟩ [errV p]) :
    Con Tryz.prog 3 #[.int .i64 n, .string s, .slice Al l.length cl, .int .i64 at_, .int .u8 c] S [] (fun S' L' r => r = .bool true) := by
  rw [u8_wf hc, str_eta]
  exact opens_law n _ l Al cl at_ _ p S hn hAl hat hK hE
end Go.Proofs.YtnlfohlngapkfaaGreatDoor
namespace Go.Proofs.YtnlfohlngapkfaaGreatDoor
open Go Go.X
open Go.ChangeShapes Go.WideShapes Go.ChangeAt Go.RowKit
set_option linter.unusedVariables false
set_option maxHeartbeats 1600000 in
set_option maxRecDepth 100000 in
theorem contractJournalOpensAnything (H : Type) (enc : TypeId × Value → H) (W : World) (base : Nat) (args : Array Value) (ds gs : List (DataW H)) (before : List MemPlace)
    (hval0 : ∀ (j : Nat) t v, Tryz.f3.params[j]? = some t → args[j]? = some v → Value.okWide Tryz.prog W .any base t v)
    (hW : DataW.Whole enc Tryz.prog Tryz.f3.params.toList Rows.journalOpensAnythingSpec.vars false W args.toList ds gs before) (hL : laidMetH Tryz.prog Rows.journalOpensAnythingRow.laid W) :
    Calls Tryz.prog 3 args W fun e W' => ∃ v, e = .returned v ∧ Rows.journalOpensAnythingSpec.post enc Tryz.prog Tryz.f3 false true false false W args v W' := by
  have hval : ∀ (j : Nat) t v, Tryz.f3.params[j]? = some t → args[j]? = some v → Value.okWide Tryz.prog W .any base t v := hval0
  have hW' := hW
  obtain ⟨p, q, hA0, hV, rfl, hfz, hnd⟩ := hW
  have hA : DataW.TrodAll enc Tryz.prog W 0 (fun _ => true) true Tryz.f3.params.toList args.toList ds p := hA0
  rw [Tryz.params3] at hA hval
  obtain ⟨v0, vs0, d0, ds0, p0, q0, hargs, rfl, rfl, h0, r0⟩ := trodAll_cons hA
  obtain ⟨v1, vs1, d1, ds1, p1, q1, rfl, rfl, rfl, h1, r1⟩ := trodAll_cons r0
  obtain ⟨v2, vs2, d2, ds2, p2, q2, rfl, rfl, rfl, h2, r2⟩ := trodAll_cons r1
  obtain ⟨v3, vs3, d3, ds3, p3, q3, rfl, rfl, rfl, h3, r3⟩ := trodAll_cons r2
  obtain ⟨v4, vs4, d4, ds4, p4, q4, rfl, rfl, rfl, h4, r4⟩ := trodAll_cons r3
  obtain ⟨rfl, rfl, rfl⟩ := trodAll_nil r4
  obtain rfl : args = #[v0, v1, v2, v3, v4] := by cases args; simp_all
  obtain ⟨rfl, rfl⟩ := trodVars_none hV
  have k0 := h0
  have lt0 : ∀ x ∈ p0, x.block < W.heap.size := by obtain ⟨m, hm⟩ := k0; exact DataW.trod_lt m _ _ _ hm
  have k1 := h1
  have lt1 : ∀ x ∈ p1, x.block < W.heap.size := by obtain ⟨m, hm⟩ := k1; exact DataW.trod_lt m _ _ _ hm
  have k2 := h2
  have lt2 : ∀ x ∈ p2, x.block < W.heap.size := by obtain ⟨m, hm⟩ := k2; exact DataW.trod_lt m _ _ _ hm
  have k3 := h3
  have lt3 : ∀ x ∈ p3, x.block < W.heap.size := by obtain ⟨m, hm⟩ := k3; exact DataW.trod_lt m _ _ _ hm
  have k4 := h4
  have lt4 : ∀ x ∈ p4, x.block < W.heap.size := by obtain ⟨m, hm⟩ := k4; exact DataW.trod_lt m _ _ _ hm
  obtain ⟨a0, rfl, e1_0, e2_0, w0⟩ := open_int Tryz.underlying3 (hval 0 3 v0 rfl rfl) h0
  obtain ⟨a1, rfl, e1_1, e2_1, w1⟩ := Go.ChangeMaps.open_string Tryz.underlying9 (hval 1 9 v1 rfl rfl) h1
  obtain ⟨a2, len2, cap2, rfl⟩ := okWide_slice Tryz.underlying22 (hval 2 22 v2 rfl rfl)
  obtain ⟨xs2, rfl, gl2, gm2, gA2, gx2⟩ := open_slm (α := Str) Tryz.underlying22 (by kernel_rfl) (rdb_str Tryz.underlying9) rfl h2
  obtain ⟨a3, rfl, e1_3, e2_3, w3⟩ := open_int Tryz.underlying3 (hval 3 3 v3 rfl rfl) h3
  obtain ⟨a4, rfl, e1_4, e2_4, w4⟩ := open_int Tryz.underlying5 (hval 4 5 v4 rfl rfl) h4
  obtain ⟨ep, hEp⟩ := err_laid hL
  refine (calls_of_con (opensI_law a0 a1 xs2 a2 cap2 a3 a4 ep (allOf W) (i64_wf w0) w1 gA2 (i64_wf w3) w4 (round_laid hL) hEp) fun _ _ _ h => h).mono fun e W' ⟨he, bel⟩ => ?_
  subst he
  exact ⟨_, rfl, _, _, _, [], _, [], hW', trodAll_mk1 (shut_bool Tryz.underlying4 _), (trodAll_cons_mk (Below.trod laidOut (by kernel_rfl) (of_decide_eq_true (by kernel_rfl)) k0 bel lt0) (trodAll_cons_mk (Below.trod laidOut (by kernel_rfl) (of_decide_eq_true (by kernel_rfl)) k1 bel lt1) (trodAll_cons_mk (Below.trod laidOut (by kernel_rfl) (of_decide_eq_true (by kernel_rfl)) k2 bel lt2) (trodAll_cons_mk (Below.trod laidOut (by kernel_rfl) (of_decide_eq_true (by kernel_rfl)) k3 bel lt3) (trodAll_cons_mk (Below.trod laidOut (by kernel_rfl) (of_decide_eq_true (by kernel_rfl)) k4 bel lt4) trodAll_mk0))))), rfl, bel.frame _, fun h => by cases h⟩
theorem laid_metJournalOpensAnything (os : Os) : laidMet Tryz.prog Rows.journalOpensAnythingRow.laid ((laidWorld os).forCall (fun _ _ => 0) ⟨#[], #[.int .i64 0, .string ByteArray.empty, .slice none 0 0, .int .i64 0, .int .u8 0], []⟩).memory :=
  laidMet_of_run' 8 (by kernel_rfl) (by kernel_rfl)
theorem readsJournalOpensAnything (os : Os) {H : Type} (enc : TypeId × Value → H) : ∃ places, DataW.whole enc Tryz.prog ((laidWorld os).forCall (fun _ _ => 0) ⟨#[], #[.int .i64 0, .string ByteArray.empty, .slice none 0 0, .int .i64 0, .int .u8 0], []⟩).memory Tryz.f3.params.toList Rows.journalOpensAnythingSpec.vars false (#[.int .i64 0, .string ByteArray.empty, .slice none 0 0, .int .i64 0, .int .u8 0] : Array Value).toList 8 = some ([.lit (.int .i64 0), .lit (.string []), .nil, .lit (.int .i64 0), .lit (.int .u8 0)], [], places) :=
  ⟨[], by kernel_rfl⟩
set_option maxRecDepth 100000 in
theorem liftedJournalOpensAnything (os : Os) (started : os.Started) (H : Type) (enc : TypeId × Value → H) (F : Stop.Interp) :
    ReturnsInHanded {} Tryz.checked os 3 .any ((OpenSpec.ofChange Rows.journalOpensAnythingSpec).preRow enc Tryz.prog Tryz.f3 Rows.journalOpensAnythingRow.domain false Rows.journalOpensAnythingRow.laid) (((OpenSpec.ofChange Rows.journalOpensAnythingSpec).at F).post enc Tryz.prog Tryz.f3 false true false false) := by
  obtain ⟨places, hx⟩ := readsJournalOpensAnything os enc
  refine returnsInHanded_of_row (C := Tryz.checked) (s := OpenSpec.ofChange Rows.journalOpensAnythingSpec) own started (by kernel_rfl) Tryz.func3
    (witness_row_at (enc := enc) (C := Tryz.checked) false (laidWorld os) #[.int .i64 0, .string ByteArray.empty, .slice none 0 0, .int .i64 0, .int .u8 0] rfl (by kernel_rfl) (by kernel_rfl) (by kernel_rfl)
      (OpenSpec.preRow_of_cond 8 hx (by kernel_rfl) (fun k hk => by cases hk) (by kernel_rfl) (laid_metJournalOpensAnything os))) ?_
  intro W base args ds gs before hval hW c1 c2 c3 hL c4 c5
  exact contractJournalOpensAnything H enc W base args ds gs before hval hW hL
theorem saidJournalOpensAnything : Rows.JournalOpensAnythingSaid :=
  OpenClaim.holds_of_cond 3 Tryz.f3 rfl rfl rfl rfl rfl rfl rfl ⟨rfl, rfl, rfl, rfl, rfl⟩ rfl rfl rfl rfl rfl (by kernel_rfl) Tryz.func3 (by kernel_rfl)
    (of_decide_eq_true (by kernel_rfl)) (by unfold Func.isWrapper; rw [if_neg (of_decide_eq_false (by kernel_rfl))]; exact ⟨rfl, rfl⟩)
    (fun os started H enc _ F => by rw [OpenClaim.pre_eq_preRow]; exact liftedJournalOpensAnything os started H enc F)
theorem plainJournalOpensAnything (f : FuncId) (fn : Func) (hf : Tryz.pinned.checked.prog.funcNamed "latecomer/latecomerlaw33.JournalOpensAnything" = some f) (hfn : Tryz.pinned.checked.prog.funcs[f]? = some fn) :
    true = Tryz.pinned.checked.prog.looks [] ∧ ∀ (j : Nat) t, fn.params[j]? = some t → Tryz.pinned.checked.prog.wantsStandIn t = false := by
  obtain rfl : f = 3 := Option.some.inj ((show Tryz.prog.funcNamed "latecomer/latecomerlaw33.JournalOpensAnything" = some 3 by kernel_rfl).symm.trans hf) |>.symm
  obtain rfl : fn = Tryz.f3 := (Option.some.inj (Tryz.func3.symm.trans hfn)).symm
  refine ⟨by kernel_rfl, fun j t ht => ?_⟩
  rw [Tryz.params3] at ht
  have hm := Array.mem_of_getElem? ht
  simp only [List.mem_toArray, List.mem_cons, List.not_mem_nil, or_false] at hm
  rcases hm with rfl | rfl | rfl | rfl | rfl
  · exact (show Tryz.prog.wantsStandIn 3 = false by kernel_rfl)
  · exact (show Tryz.prog.wantsStandIn 9 = false by kernel_rfl)
  · exact (show Tryz.prog.wantsStandIn 22 = false by kernel_rfl)
  · exact (show Tryz.prog.wantsStandIn 3 = false by kernel_rfl)
  · exact (show Tryz.prog.wantsStandIn 5 = false by kernel_rfl)
theorem journalOpensAnything_holds : Rows.JournalOpensAnythingCardSaid :=
  Claim7.holds_tied_plain_at .later [] _ _ _ _ saidJournalOpensAnything (fun _ h => by cases h) (by kernel_rfl) (fun _ h => by cases h) journalOpensAnything_row_tie rfl ⟨rfl, rfl⟩ (by kernel_rfl) rfl plainJournalOpensAnything (by kernel_rfl)
#print axioms journalOpensAnything_holds
end Go.Proofs.YtnlfohlngapkfaaGreatDoor
