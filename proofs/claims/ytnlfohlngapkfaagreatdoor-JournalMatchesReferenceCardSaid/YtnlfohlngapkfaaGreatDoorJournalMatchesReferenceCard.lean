/- JournalMatchesReference returns true for every input, and each argument reads afterwards as it read before; the listed package variables start as the program's text lays them, and the given tie to the text is used. -/
import Derived.Test.YtnlfohlngapkfaaGreatDoorBe
import Derived.Test.YtnlfohlngapkfaaGreatDoorBg
import Derived.Test.YtnlfohlngapkfaaGreatDoorCards
import Derived.Test.YtnlfohlngapkfaaGreatDoorTie
namespace Go.Proofs.YtnlfohlngapkfaaGreatDoor
open Go Go.X
set_option maxRecDepth 10000
set_option linter.unusedVariables false
attribute [local irreducible] Code.wpIn wpListIn Exit.then Exit.inBlock X.Out X.Back X.W X.Ev X.Con X.BinV X.Wh X.Wn X.Wq
attribute [local irreducible] sumK chain stw group stored
/-- A call of a law. -/
structure Opv where
  kind : Int
  l : Sv
  n : Int
  kp : Sv
instance : Inhabited Opv := ⟨⟨0, ⟨none, 0, 0⟩, 0, ⟨none, 0, 0⟩⟩⟩
instance : Cl Opv := ⟨4, fun x => [.int .i64 x.kind, .slice x.l.a x.l.m x.l.c, .int .i64 x.n, .slice x.kp.a x.kp.m x.kp.c], fun _ => rfl, fun _ u hu => by simp at hu; rcases hu with rfl | rfl | rfl | rfl <;> rfl⟩
def inOk (S : SH) (x : Sv) : Prop := ∃ l : List Int, x.m = l.length ∧ l.length ≤ x.c ∧ At S x.a l ∧ ∀ y ∈ l, i64 y
theorem inOk.le {S T : SH} (h : Le S T) {x : Sv} (k : inOk S x) : inOk T x := by
  obtain ⟨l, h1, h2, h3, h4⟩ := k
  exact ⟨l, h1, h2, h3.le h, h4⟩
def opOk (S : SH) (x : Opv) : Prop := i64 x.kind ∧ slOk S x.l ∧ i64 x.n ∧ inOk S x.kp
theorem opOk.le {S T : SH} (h : Le S T) {x : Opv} (k : opOk S x) : opOk T x := ⟨k.1, k.2.1.le h, k.2.2.1, k.2.2.2.le h⟩
/-- A journal and its disk, between two calls. -/
def Live (K : List UInt32) (N : Nat) (J : Jn) (D : Dk) : Prop := JA K N J D ∧ 0 ≤ D.left ∨ ∃ g, JB K N J g D
theorem Live.w {K : List UInt32} {N : Nat} {J : Jn} {D : Dk} (h : Live K N J D) : JW K N J := by
  rcases h with ⟨h, _⟩ | ⟨g, h⟩
  · exact h.w
  · exact h.w
theorem Live.pend {K : List UInt32} {N : Nat} {J : Jn} {D : Dk} (h : Live K N J D) : D.pend.length ≤ 1 := by
  rcases h with ⟨h, _⟩ | ⟨g, h⟩
  · rw [h.pend]; exact Nat.zero_le _
  · exact h.pend
theorem Live.cut {K : List UInt32} {N : Nat} {J : Jn} {D : Dk} (h : Live K N J D) {n : Int} (hn : 0 ≤ n) : Live K N J (cutD D n) := by
  unfold cutD
  split
  · exact h
  · rename_i hc
    rcases h with ⟨h, hp⟩ | ⟨g, h⟩
    · exact .inl ⟨⟨h.w, h.br, h.dur, h.vis, h.pend⟩, hn⟩
    · exact absurd (Or.inl h.off) hc
/-- What a power failure leaves: the records, and perhaps a group more. -/
theorem Live.crash {K : List UInt32} {N : Nat} {J : Jn} {D : Dk} (h : Live K N J D) (keep : List Int) (torn : Int) : ∃ l, Mess K N l (crB D keep torn) ∧ Short l ∧ ∃ g, l = J.recs ++ g := by
  rcases h with ⟨h, _⟩ | ⟨g, h⟩
  · exact ⟨J.recs, by rw [crB_nil h.pend, h.dur]; exact Good_mess (by rw [← h.w.size]; exact h.w.le), h.w.short, [], (List.append_nil _).symm⟩
  · rcases h.cr keep torn with hm | hm
    · exact ⟨J.recs, hm, h.w.short, [], (List.append_nil _).symm⟩
    · exact ⟨J.recs ++ g, hm, h.w.short.app h.short, g, rfl⟩
end Go.Proofs.YtnlfohlngapkfaaGreatDoor
namespace Go.Proofs.YtnlfohlngapkfaaGreatDoor
open Go Go.X
/-- A contract where some blocks are not asked for any more. -/
theorem Con.drop {P : Program} {S : SH} {f : FuncId} {vs : Array Value} {L1 L2 L' : Blocks} {R : SH → Blocks → Value → Prop} (h : Con P f vs S L1 R) (hL : L'.Perm (L1 ++ L2)) : Con P f vs S L' R := fun w hw =>
  (h w (hw.perm hL).sub).mono fun _ _ ⟨v, S', L1', he, hR, hs⟩ => ⟨v, S', L1', he, hR, ((hw.perm hL).back hs).weaken (List.sublist_append_left _ _)⟩
set_option maxRecDepth 10000
set_option linter.unusedVariables false
attribute [local irreducible] Code.wpIn wpListIn Exit.then Exit.inBlock X.Out X.Back X.W X.Ev X.Con X.BinV X.Wh X.Wn X.Wq
attribute [local irreducible] sumK chain stw group stored
theorem jsOk_of {N : Nat} {l : List Str} {tail B : Bs} {E : Int} (hl : B.length = N) (h : B = (group shaK head0 l).1 ++ tail) (hs : Short l) : jsOk N (if E = 0 then some (l, false) else none) := fun l' br e => by
  split at e
  · injection e with e
    injection e with e1 e2
    subst e1
    refine ⟨hs, ?_⟩
    rw [← hl, h, List.length_append]
    exact Nat.le_add_right _ _
  · cases e
set_option maxHeartbeats 1600000 in
theorem doesCut_con {bw : Nat} {vd vr jv kv : Value} {D : Dk} {R : Rf} {LD LR : Blocks} {N m : Nat} (hD : OwD vd D LD) (hR : OwR vr R LR) (hrel : Rel N m D R) (S : SH) (kind nn : Int) (xa : Option Addr) (l : List Str) (xc : Nat) (ka : Option Addr) (ks : List Int) (kc : Nat) (hk : i64 kind) (hn : i64 nn) (h5 : pickI kind 8 = 5) :
    Con Tryz.prog 32 #[.pointer (some ⟨bw, 0, none⟩), .agg [.int .i64 kind, .slice xa l.length xc, .int .i64 nn, .slice ka ks.length kc].toArray] S ((bw, .cells [vd, jv, vr, kv].toArray 32 (0, 0)) :: (LD ++ LR)) (fun S' L' r => S' = S ∧ r = .bool true ∧ ∃ LD' LR', L' = (bw, .cells [vd, jv, vr, kv].toArray 32 (0, 0)) :: (LD' ++ LR') ∧ OwD vd (cutD D (1 + pickI nn 5)) LD' ∧ OwR vr (if R.down = true ∨ 1 + pickI nn 5 < 0 then R else { R with down := decide (1 + pickI nn 5 = 0), left := 1 + pickI nn 5 }) LR') := by
  have hp5 := pickI_bd nn 5 (by decide)
  have hcp := fun S => lpick_con kind 8 S hk (by decide)
  rw [h5] at hcp
  have hc2 := fun S => RCut_con hR S (1 + pickI nn 5) (by unfold i64; omega)
  rw [(hrel.cut (1 + pickI nn 5)).2] at hc2
  have hc1 := fun S => Cut_con hD S (1 + pickI nn 5) (by unfold i64; omega)
  have hp : ∀ S, Con Tryz.prog 15 #[.int .i64 nn, .int .i64 5] S [] (X.Pure S (.int .i64 (pickI nn 5))) := fun S => lpick_con nn 5 S hn (by decide)
  refine con_of (args := [.pointer (some ⟨bw, 0, none⟩), .agg [.int .i64 kind, .slice xa l.length xc, .int .i64 nn, .slice ka ks.length kc].toArray]) Tryz.func32 rfl Tryz.ntmps32 rfl fun w => ?_
  generalize hE : cutE D (1 + pickI nn 5) = E at *
  generalize cutD D (1 + pickI nn 5) = D1 at *
  generalize (if R.down = true ∨ 1 + pickI nn 5 < 0 then R else { R with down := decide (1 + pickI nn 5 = 0), left := 1 + pickI nn 5 }) = R1 at *
  generalize pickI nn 5 = q at *
  (repeat (first | refine Jc ?_ | (apply z_call; rfl; rfl; rfl; exact hcp _; rintro _ _ _ - ⟨rfl, rfl, rfl⟩) | refine Jo ?_ | intro _))
  rename_i bx
  ((apply c_held ([(bx, .cells [.int .i64 kind, .slice xa l.length xc, .int .i64 nn, .slice ka ks.length kc].toArray 62 (0, 0)), (bw, .cells [vd, jv, vr, kv].toArray 32 (0, 0))]); (case hL => (exact sbT))); refine Jf 0 ?_; (apply h_first 1; (case hi => rfl); (case hr => kernel_rfl); (case hfr => kernel_rfl); (case hsel => kernel_rfl); (case hg => rfl); (case hd => rfl); (case he => (apply ev_nilCheck; rfl))); refine Jf 2 ?_; refine Jf 3 ?_; refine Jf 4 ?_; refine Jf 5 ?_; refine Jf 9 ?_; (apply h_first 10; (case hi => rfl); (case hr => kernel_rfl); (case hfr => kernel_rfl); (case hsel => kernel_rfl); (case hg => rfl); (case hd => rfl); (case he => (apply ev_nilCheck; rfl))); refine Jf 11 ?_; refine Jf 12 ?_; refine Jf 13 ?_; refine Jf 14 ?_; (apply h_one 6; (case hr => kernel_rfl)); (apply n_call; (case hi => rfl); (case i1 => infer_instance); (case hg => rfl); (case hd => rfl); (case ha => rfl); (case hc => exact hp _); (case hL => (repeat (first | exact pm_nil _ | exact pm_refl _ _ | exact pm_self _ | apply pm_cons | apply pm_app))); (case hsub => (intros; (exact sbT))); rintro _ _ _ - ⟨rfl, rfl, rfl⟩); refine Jf 7 ?_; (apply h_one 8; (case hr => kernel_rfl)); (apply n_call; (case hi => rfl); (case i1 => infer_instance); (case hg => rfl); (case hd => rfl); (case ha => rfl); (case hc => exact hc1 _); (case hL => (repeat (first | exact pm_nil _ | exact pm_refl _ _ | exact pm_self _ | apply pm_cons | apply pm_app))); (case hsub => (intros; (exact sbT))); rintro S5 L5 v5 - ⟨rfl, hD5, rfl⟩); (apply h_one 15; (case hr => kernel_rfl)); (apply n_call; (case hi => rfl); (case i1 => infer_instance); (case hg => rfl); (case hd => rfl); (case ha => rfl); (case hc => exact hp _); (case hL => (repeat (first | exact pm_nil _ | exact pm_refl _ _ | exact pm_self _ | apply pm_cons | apply pm_app))); (case hsub => (intros; (exact sbT))); rintro _ _ _ - ⟨rfl, rfl, rfl⟩); refine Jf 16 ?_; (apply h_one 17; (case hr => kernel_rfl)); (apply n_call; (case hi => rfl); (case i1 => infer_instance); (case hg => rfl); (case hd => rfl); (case ha => rfl); (case hc => exact hc2 _); (case hL => (repeat (first | exact pm_nil _ | exact pm_refl _ _ | exact pm_self _ | apply pm_cons | apply pm_app))); (case hsub => (intros; (exact sbT))); rintro S6 L6 v6 - ⟨rfl, hR6, rfl⟩); refine Jf 18 ?_; refine Jf 19 ?_; (apply h_end; (case hr => kernel_rfl)))
  refine W.perm (L' := (bx, .cells [.int .i64 kind, .slice xa l.length xc, .int .i64 nn, .slice ka ks.length kc].toArray 62 (0, 0)) :: (bw, .cells [vd, jv, vr, kv].toArray 32 (0, 0)) :: (L5 ++ L6)) ?_ (pmc (fun p => by (repeat (first | rw [List.countP_append] | rw [List.countP_cons] | rw [List.countP_nil])); (all_goals (first | rfl | omega))))
  (repeat (first | refine Jz ?_ | intro _))
  exact o_ret Tryz.results32 rfl (List.Sublist.cons _ (List.Sublist.refl _)) ⟨rfl, rfl, L5, L6, rfl, hD5, hR6⟩
set_option maxHeartbeats 1600000 in
theorem doesCrash_con {bw : Nat} {vd vr jv kv : Value} {D : Dk} {R : Rf} {LD LR : Blocks} {N m : Nat} (hD : OwD vd D LD) (hR : OwR vr R LR) (hrel : Rel N m D R) (S : SH) (p : Addr) (kind nn : Int) (xa : Option Addr) (l : List Str) (xc : Nat) (ka : Option Addr) (ks : List Int) (kc : Nat) (hk : i64 kind) (hn : i64 nn) (hKA : At S ka ks) (hk64 : ∀ x ∈ ks, i64 x) (hkc : ks.length ≤ kc) (h6 : pickI kind 8 = 6) (hN : N ≤ 1000000) (hm : m ≤ 100000)
    (hf : ∀ w ∈ D.pend, w.off + w.s.length ≤ N) (hK : Pts S ⟨4, 0, none⟩ (cellsOf shaK)) (hE : Pts S ⟨0, 0, none⟩ [errV p]) :
    Con Tryz.prog 32 #[.pointer (some ⟨bw, 0, none⟩), .agg [.int .i64 kind, .slice xa l.length xc, .int .i64 nn, .slice ka ks.length kc].toArray] S ((bw, .cells [vd, jv, vr, kv].toArray 32 (0, 0)) :: (LD ++ LR)) (fun S' L' r => r = .bool true ∧ ∃ D' R' js', Rel N (m + 1) D' R' ∧ jsOk N js' ∧ OwWd bw D' R' js' S' L') := by
  have hcp := fun S => lpick_con kind 8 S hk (by decide)
  rw [h6] at hcp
  have hrc := hrel.crash hf (ks.take (min ks.length 20)) nn
  have hpl := hrel.pend
  have hrl := hrel.l
  refine con_of (args := [.pointer (some ⟨bw, 0, none⟩), .agg [.int .i64 kind, .slice xa l.length xc, .int .i64 nn, .slice ka ks.length kc].toArray]) Tryz.func32 rfl Tryz.ntmps32 rfl fun w => ?_
  (repeat (first | refine Jc ?_ | (apply z_call; rfl; rfl; rfl; exact hcp _; rintro _ _ _ - ⟨rfl, rfl, rfl⟩) | (apply s_minn; (case hg => rfl); (case hd => rfl); (case hx => rfl); (case hy => rfl)) | (apply s_slice_hi hKA; (case hg => rfl); (case hd => rfl); (case hx => rfl); (case hy => rfl); (case hm => rfl); (case hmc => omega); (case hj => omega); intro KA' hKA') | refine Jo ?_ | intro _))
  rename_i bx
  ((apply c_held ([(bx, .cells [.int .i64 kind, .slice xa l.length xc, .int .i64 nn, .slice ka ks.length kc].toArray 62 (0, 0)), (bw, .cells [vd, jv, vr, kv].toArray 32 (0, 0))]); (case hL => (exact sbT))); refine Jf 0 ?_; (apply h_first 1; (case hi => rfl); (case hr => kernel_rfl); (case hfr => kernel_rfl); (case hsel => kernel_rfl); (case hg => rfl); (case hd => rfl); (case he => (apply ev_nilCheck; rfl))); refine Jf 2 ?_; refine Jf 3 ?_; refine Jf 4 ?_; refine Jf 5 ?_; refine Jf 6 ?_; (apply h_one 7; (case hr => kernel_rfl)); (apply n_call; (case hi => rfl); (case i1 => infer_instance); (case hg => rfl); (case hd => rfl); (case ha => rfl); (case hc => exact Crash_con hD _ (ks.take (min ks.length 20)) KA' kc nn hKA' (by rw [List.length_take]; omega) (fun x hx => hk64 x (List.mem_of_mem_take hx)) hn (by omega)); (case hL => (repeat (first | exact pm_nil _ | exact pm_refl _ _ | exact pm_self _ | apply pm_cons | apply pm_app))); (case hsub => (intros; (exact sbT))); rintro S5 L5 v5 hle5 ⟨hD5, rfl⟩); (apply h_end; (case hr => kernel_rfl)))
  refine W.perm (L' := (bx, .cells [.int .i64 kind, .slice xa l.length xc, .int .i64 nn, .slice ka ks.length kc].toArray 62 (0, 0)) :: (bw, .cells [vd, jv, vr, kv].toArray 32 (0, 0)) :: (L5 ++ LR)) ?_ (pmc (fun p => by (repeat (first | rw [List.countP_append] | rw [List.countP_cons] | rw [List.countP_nil])); (all_goals (first | rfl | omega))))
  (repeat (first | refine Jz ?_ | intro _))
  ((apply c_held ([(bx, .cells [.int .i64 kind, .slice xa l.length xc, .int .i64 nn, .slice ka ks.length kc].toArray 62 (0, 0)), (bw, .cells [vd, jv, vr, kv].toArray 32 (0, 0))]); (case hL => (exact sbT))); refine Jf 0 ?_; (apply h_first 1; (case hi => rfl); (case hr => kernel_rfl); (case hfr => kernel_rfl); (case hsel => kernel_rfl); (case hg => rfl); (case hd => rfl); (case he => (apply ev_nilCheck; rfl))); refine Jf 2 ?_; refine Jf 3 ?_; refine Jf 4 ?_; refine Jf 5 ?_; refine Jf 6 ?_; (apply h_one 7; (case hr => kernel_rfl)); (apply n_call; (case hi => rfl); (case i1 => infer_instance); (case hg => rfl); (case hd => rfl); (case ha => rfl); (case hc => exact RCrash_con hR (by rw [hrl]; omega) _ (ks.take (min ks.length 20)) KA' kc nn (hKA'.le hle5) (by rw [List.length_take]; omega) hn); (case hL => (repeat (first | exact pm_nil _ | exact pm_refl _ _ | exact pm_self _ | apply pm_cons | apply pm_app))); (case hsub => (intros; (exact sbT))); rintro S6 L6 v6 - ⟨rfl, hR6⟩); (apply h_end; (case hr => kernel_rfl)))
  refine W.perm (L' := (bx, .cells [.int .i64 kind, .slice xa l.length xc, .int .i64 nn, .slice ka ks.length kc].toArray 62 (0, 0)) :: ((bw, .cells [vd, jv, vr, kv].toArray 32 (0, 0)) :: (L5 ++ L6))) ?_ (pmc (fun p => by (repeat (first | rw [List.countP_append] | rw [List.countP_cons] | rw [List.countP_nil])); (all_goals (first | rfl | omega))))
  obtain ⟨lr, tail, hsh, hvis, htl⟩ := split_all shaK _ (crD D (ks.take (min ks.length 20)) nn).vis head0 (Nat.le_refl _)
  (repeat (first | refine Jc ?_ | (apply s_call (L2 := [(bx, .cells [.int .i64 kind, .slice xa l.length xc, .int .i64 nn, .slice ka ks.length kc].toArray 62 (0, 0))]); (case hg => rfl); (case hd => rfl); (case ha => rfl); (case hc => exact wopen_con (bw := bw) (j0 := jv) (k0 := kv) hD5 hR6 hrc _ p hN hm lr tail hvis hsh htl (hK.le hle5) (hE.le hle5)); (case hL => (exact pmc (fun p => by (repeat (first | rw [List.countP_append] | rw [List.countP_cons] | rw [List.countP_nil])); (all_goals (first | rfl | omega))))); rintro S7 L7 v7 hle7 ⟨rfl, hW7⟩) | refine Jo ?_ | intro _))
  exact o_ret (L' := L7) Tryz.results32 rfl (List.sublist_append_left _ _) ⟨rfl, _, _, _, (hrc.openO' lr tail).1, jsOk_of hrc.vlen hvis hsh, hW7⟩
set_option maxHeartbeats 1600000 in
theorem doesOpen_con {bw : Nat} {vd vr jv kv : Value} {D : Dk} {R : Rf} {LD LR : Blocks} {N m : Nat} (hD : OwD vd D LD) (hR : OwR vr R LR) (hrel : Rel N m D R) (S : SH) (p : Addr) (kind nn : Int) (xa : Option Addr) (l : List Str) (xc : Nat) (ka : Option Addr) (ks : List Int) (kc : Nat) (hk : i64 kind) (h7 : pickI kind 8 = 7) (hN : N ≤ 1000000) (hm : m ≤ 100000)
    (hK : Pts S ⟨4, 0, none⟩ (cellsOf shaK)) (hE : Pts S ⟨0, 0, none⟩ [errV p]) :
    Con Tryz.prog 32 #[.pointer (some ⟨bw, 0, none⟩), .agg [.int .i64 kind, .slice xa l.length xc, .int .i64 nn, .slice ka ks.length kc].toArray] S ((bw, .cells [vd, jv, vr, kv].toArray 32 (0, 0)) :: (LD ++ LR)) (fun S' L' r => r = .bool true ∧ ∃ D' R' js', Rel N (m + 1) D' R' ∧ jsOk N js' ∧ OwWd bw D' R' js' S' L') := by
  have hcp := fun S => lpick_con kind 8 S hk (by decide)
  rw [h7] at hcp
  refine con_of (args := [.pointer (some ⟨bw, 0, none⟩), .agg [.int .i64 kind, .slice xa l.length xc, .int .i64 nn, .slice ka ks.length kc].toArray]) Tryz.func32 rfl Tryz.ntmps32 rfl fun w => ?_
  obtain ⟨lr, tail, hsh, hvis, htl⟩ := split_all shaK _ D.vis head0 (Nat.le_refl _)
  (repeat (first | refine Jc ?_ | (apply z_call; rfl; rfl; rfl; exact hcp _; rintro _ _ _ - ⟨rfl, rfl, rfl⟩) | refine Jo ?_ | intro _))
  rename_i bx
  (repeat (first | refine Jc ?_ | (apply s_call (L2 := [(bx, .cells [.int .i64 kind, .slice xa l.length xc, .int .i64 nn, .slice ka ks.length kc].toArray 62 (0, 0))]); (case hg => rfl); (case hd => rfl); (case ha => rfl); (case hc => exact wopen_con (bw := bw) (j0 := jv) (k0 := kv) hD hR hrel _ p hN hm lr tail hvis hsh htl hK hE); (case hL => (exact pmc (fun p => by (repeat (first | rw [List.countP_append] | rw [List.countP_cons] | rw [List.countP_nil])); (all_goals (first | rfl | omega))))); rintro S7 L7 v7 hle7 ⟨rfl, hW7⟩) | refine Jo ?_ | intro _))
  exact o_ret (L' := L7) Tryz.results32 rfl (List.sublist_append_left _ _) ⟨rfl, _, _, _, (hrel.openO' lr tail).1, jsOk_of hrel.vlen hvis hsh, hW7⟩
end Go.Proofs.YtnlfohlngapkfaaGreatDoor
namespace Go.Proofs.YtnlfohlngapkfaaGreatDoor
open Go Go.X
set_option maxRecDepth 10000
set_option linter.unusedVariables false
attribute [local irreducible] Code.wpIn wpListIn Exit.then Exit.inBlock X.Out X.Back X.W X.Ev X.Con X.BinV X.Wh X.Wn X.Wq
attribute [local irreducible] sumK chain stw group stored
/-- What appending a group does: the disk, the records and whether the journal is broken, the error. -/
def apO (D : Dk) (a : List Str) (br : Bool) (g : List Str) : Dk × (List Str × Bool) × Int :=
  if br = true then (D, (a, true), 330) else if D.dur.length < (recB shaK a).length + (group shaK (group shaK head0 a).2 g).1.length then (D, (a, false), 331) else if (group shaK (group shaK head0 a).2 g).1 = [] then (D, (a, false), 0)
  else if (firstP (app4 (recB shaK a).length (group shaK (group shaK head0 a).2 g).1) 4 0 D).2 ≠ 0 then ((firstP (app4 (recB shaK a).length (group shaK (group shaK head0 a).2 g).1) 4 0 D).1, (a, true), (firstP (app4 (recB shaK a).length (group shaK (group shaK head0 a).2 g).1) 4 0 D).2)
  else ((firstP (app4 (recB shaK a).length (group shaK (group shaK head0 a).2 g).1) 4 0 D).1, (a ++ g, false), 0)
def apR (R : Rf) (a : List Str) (br : Bool) (g : List Str) : Rf × (List Str × Bool) × Int :=
  if br = true then (R, (a, true), 330) else if R.sure.length < (recB shaK a).length + (group shaK (group shaK head0 a).2 g).1.length then (R, (a, false), 331) else if (group shaK (group shaK head0 a).2 g).1 = [] then (R, (a, false), 0)
  else if (rapp R (recB shaK a).length (group shaK (group shaK head0 a).2 g).1).2 ≠ 0 then ((rapp R (recB shaK a).length (group shaK (group shaK head0 a).2 g).1).1, (a, true), (rapp R (recB shaK a).length (group shaK (group shaK head0 a).2 g).1).2)
  else ((rapp R (recB shaK a).length (group shaK (group shaK head0 a).2 g).1).1, (a ++ g, false), 0)
theorem Rel.up2 {N k : Nat} {D : Dk} {R : Rf} (h : Rel N k D R) : Rel N (k + 2) D R := h.up.up
theorem Rel.ap {N k : Nat} {D : Dk} {R : Rf} (h : Rel N k D R) (a : List Str) (br : Bool) (g : List Str) : Rel N (k + 2) (apO D a br g).1 (apR R a br g).1 ∧ (apR R a br g).2 = (apO D a br g).2 := by
  obtain ⟨h1, h2⟩ := h.app (recB shaK a).length (group shaK (group shaK head0 a).2 g).1
  unfold apO apR
  rw [h.sure, h2]
  split
  · exact ⟨h.up2, rfl⟩
  · split
    · exact ⟨h.up2, rfl⟩
    · split
      · exact ⟨h.up2, rfl⟩
      · split
        · exact ⟨h1, rfl⟩
        · exact ⟨h1, rfl⟩
theorem ap_ok {N : Nat} {D : Dk} {a : List Str} {br : Bool} {g : List Str} (hd : D.dur.length = N) (ha : Short a) (hg : Short g) (he : (recB shaK a).length ≤ N) : jsOk N (some (apO D a br g).2.1) := fun l' br' e => by
  have e0 : (apO D a br g).2.1.1 = l' := by injection e with e; rw [e]
  rw [← e0]
  unfold apO
  split
  · exact ⟨ha, he⟩
  · split
    · exact ⟨ha, he⟩
    · split
      · exact ⟨ha, he⟩
      · split
        · exact ⟨ha, he⟩
        · refine ⟨ha.app hg, ?_⟩
          rw [recB_append, List.length_append]
          omega
theorem jnB_app {a g : List Str} {D : Dk} : appJ shaK (jnB a false) D g = (jnB (apO D a false g).2.1.1 (apO D a false g).2.1.2, (apO D a false g).1, (apO D a false g).2.2) := by
  have e : ((D.dur.length : Int) - (recB shaK a).length < ((group shaK (group shaK head0 a).2 g).1.length : Int)) ↔ D.dur.length < (recB shaK a).length + (group shaK (group shaK head0 a).2 g).1.length := by omega
  unfold appJ apO
  simp only [jnB, Bool.false_eq_true, if_false, e]
  by_cases c1 : D.dur.length < (recB shaK a).length + (group shaK (group shaK head0 a).2 g).1.length
  · rw [if_pos c1, if_pos c1]
  rw [if_neg c1, if_neg c1]
  by_cases c2 : (group shaK (group shaK head0 a).2 g).1 = []
  · rw [if_pos c2]
    exact (if_pos c2).trans rfl
  rw [if_neg c2]
  refine (if_neg c2).trans ?_
  by_cases c3 : (firstP (app4 (recB shaK a).length (group shaK (group shaK head0 a).2 g).1) 4 0 D).2 = 0
  · rw [if_neg (fun h => h c3)]
    refine (if_neg (fun h => h c3)).trans ?_
    simp only [recB_append, group_append, List.length_append]
    rw [← c3]
  · rw [if_pos c3]
    exact (if_pos c3).trans rfl
theorem appB_con {jv v : Value} {D : Dk} {a : List Str} {br : Bool} {LJ LD : Blocks} {N k : Nat} (hJ : OwJ jv v (jnB a br) LJ) (hD : OwD v D LD) (g : List Str) (A : Option Addr) (c : Nat) (S : SH) (hA : At S A g) (hl : g.length ≤ 1000) (hg : Short g) (ha : Short a) (he : (recB shaK a).length ≤ N) (hN : N ≤ 1000000) (hdl : D.dur.length = N) (hp : D.pend.length ≤ 100000)
    (hK : Pts S ⟨4, 0, none⟩ (cellsOf shaK)) :
    Con Tryz.prog 11 #[jv, .slice A g.length c] S (LJ ++ LD) (fun S' L' r => ∃ LJ' LD', L' = LJ' ++ LD' ∧ OwJ jv v (jnB (apO D a br g).2.1.1 (apO D a br g).2.1.2) LJ' ∧ OwD v (apO D a br g).1 LD' ∧ r = .int .i64 (apO D a br g).2.2) := by
  have hrl := recB_len (K := shaK) ha
  cases br
  · have h := Append_con hJ hD shaK g A c S hA hl rfl (List.any_eq_false.2 fun r hr => by have := hg r hr; simp only [isLong, decide_eq_true_eq]; omega) (group_head (by unfold head0; simp) a) (show (recB shaK a).length ≤ _ by omega) (show a.length ≤ _ by omega) (by omega) hp hK shaK_len
    rw [jnB_app] at h
    exact h
  · have h := (AppendBad_con hJ g A c S hA (by omega) (.inl rfl)).frame (L2 := LD) (List.Perm.refl _)
    refine h.mono fun S' L' r _ hh => ?_
    obtain ⟨L1, e1, -, e3, e4⟩ := hh
    rw [e3] at e1
    exact ⟨LJ, LD, e1, hJ, hD, e4⟩
theorem rappB_con {v dv : Value} {R : Rf} {a : List Str} {br : Bool} {LK LD : Blocks} {N : Nat} {S : SH} (hK : OwKs v dv S a (recB shaK a).length br LK) (hR : OwR dv R LD) (g : List Str) (B : Option Addr) (cB : Nat) (hB : At S B g) (hl : g.length ≤ 1000) (hg : Short g) (ha : Short a) (he : (recB shaK a).length ≤ N) (hN : N ≤ 1000000) (hdl : R.sure.length = N) (hp : R.l.length ≤ 100000) :
    Con Tryz.prog 13 #[v, .slice B g.length cB] S (LK ++ LD) (fun S' L' r => ∃ LK' LD', L' = LK' ++ LD' ∧ OwKs v dv S' (apR R a br g).2.1.1 (recB shaK (apR R a br g).2.1.1).length (apR R a br g).2.1.2 LK' ∧ OwR dv (apR R a br g).1 LD' ∧ r = .int .i64 (apR R a br g).2.2) := by
  have hrl := recB_len (K := shaK) ha
  have hgn := grp_nil (K := shaK) (h := (group shaK head0 a).2) hg
  refine (rAppend_con hK hR rfl (by omega) hp (by omega) g B cB hB hl (by omega) ha hg).mono fun S' L' r _ ⟨LK', LD', e1, h⟩ => ⟨LK', LD', e1, ?_⟩
  rcases h with ⟨rfl, h1, h2, h3⟩ | ⟨rfl, h0, h1, h2, h3⟩ | ⟨rfl, h0, h00, h1, h2, h3⟩ | ⟨rfl, h0, h00, h000, h1, h2, h3⟩ | ⟨rfl, h0, h00, h000, h1, h2, h3⟩
  · exact ⟨h1, h2, h3⟩
  · have e : apR R a false g = (R, (a, false), 331) := by unfold apR; rw [if_neg (by decide), if_pos h0]
    rw [e]; exact ⟨h1, h2, h3⟩
  · have e : apR R a false g = (R, (a, false), 0) := by
      unfold apR
      rw [if_neg (by decide), if_neg (by rw [hgn.2 h0]; simp; omega), if_pos (hgn.2 h0)]
    rw [e]; exact ⟨h1, h2, h3⟩
  · have e : apR R a false g = ((rapp R (recB shaK a).length (group shaK (group shaK head0 a).2 g).1).1, (a, true), (rapp R (recB shaK a).length (group shaK (group shaK head0 a).2 g).1).2) := by
      unfold apR
      rw [if_neg (by decide), if_neg (by omega), if_neg (fun h => h0 (hgn.1 h)), if_pos h000]
    rw [e]; exact ⟨h1, h2, h3⟩
  · have e : apR R a false g = ((rapp R (recB shaK a).length (group shaK (group shaK head0 a).2 g).1).1, (a ++ g, false), 0) := by
      unfold apR
      rw [if_neg (by decide), if_neg (by omega), if_neg (fun h => h0 (hgn.1 h)), if_neg (fun h => h h000)]
    rw [e]
    refine ⟨?_, h2, h3⟩
    rw [recB_append, List.length_append]
    exact h1
end Go.Proofs.YtnlfohlngapkfaaGreatDoor
namespace Go.Proofs.YtnlfohlngapkfaaGreatDoor
open Go Go.X
set_option maxRecDepth 10000
set_option linter.unusedVariables false
attribute [local irreducible] Code.wpIn wpListIn Exit.then Exit.inBlock X.Out X.Back X.W X.Ev X.Con X.BinV X.Wh X.Wn X.Wq
attribute [local irreducible] sumK chain stw group stored
set_option maxHeartbeats 1600000 in
theorem doesNone_con {bw : Nat} {vd vr : Value} (S : SH) (kind nn : Int) (xa : Option Addr) (l : List Str) (xc : Nat) (ka : Option Addr) (ks : List Int) (kc : Nat) (hk : i64 kind) (h5 : pickI kind 8 ≠ 5) (h6 : pickI kind 8 ≠ 6) (h7 : pickI kind 8 ≠ 7) (hA : At S xa l) :
    Con Tryz.prog 32 #[.pointer (some ⟨bw, 0, none⟩), .agg [.int .i64 kind, .slice xa l.length xc, .int .i64 nn, .slice ka ks.length kc].toArray] S [(bw, .cells [vd, .pointer none, vr, .pointer none].toArray 32 (0, 0))] (fun S' L' r => r = .bool true ∧ L' = [(bw, .cells [vd, .pointer none, vr, .pointer none].toArray 32 (0, 0))]) := by
  have hcp := fun S => lpick_con kind 8 S hk (by decide)
  refine con_of (args := [.pointer (some ⟨bw, 0, none⟩), .agg [.int .i64 kind, .slice xa l.length xc, .int .i64 nn, .slice ka ks.length kc].toArray]) Tryz.func32 rfl Tryz.ntmps32 rfl fun w => ?_
  generalize pickI kind 8 = pk at *
  (repeat (first | refine Jc ?_ | (apply z_call; rfl; rfl; rfl; exact hcp _; rintro _ _ _ - ⟨rfl, rfl, rfl⟩) | (apply s_evb; (case hg => rfl); (case hd => rfl); (case hn => rfl); (case he => (apply ev_nilCheck; rfl))) | (apply s_evb; (case hg => rfl); (case hd => rfl); (case hn => rfl); (case he => (apply ev_eql_p; (case hx => rfl); (case hy => rfl)))) | refine Jo ?_ | intro _))
  rename_i bx
  ((apply c_held ([(bx, .cells [.int .i64 kind, .slice xa l.length xc, .int .i64 nn, .slice ka ks.length kc].toArray 62 (0, 0)), (bw, .cells [vd, .pointer none, vr, .pointer none].toArray 32 (0, 0))]); (case hL => (exact sbT))); refine Jf 0 ?_; (apply h_first 1; (case hi => rfl); (case hr => kernel_rfl); (case hfr => kernel_rfl); (case hsel => kernel_rfl); (case hg => rfl); (case hd => rfl); (case he => (apply ev_nilCheck; rfl))); refine Jf 2 ?_; refine Jf 3 ?_; refine Jf 4 ?_; refine Jf 5 ?_; (apply h_one 6; (case hr => kernel_rfl)); (apply n_call; (case hi => rfl); (case i1 => infer_instance); (case hg => rfl); (case hd => rfl); (case ha => rfl); (case hc => exact few_con l xa xc _ hA); (case hL => (repeat (first | exact pm_nil _ | exact pm_refl _ _ | exact pm_self _ | apply pm_cons | apply pm_app))); (case hsub => (intros; (exact sbT))); rintro S6 L6 v6 - ⟨rfl, ho6⟩; obtain ⟨A6, c6, rfl⟩ := ho6.form); (apply h_one 7; (case hr => kernel_rfl)); (apply n_call; (case hi => rfl); (case i1 => infer_instance); (case hg => rfl); (case hd => rfl); (case ha => rfl); (case hc => exact AppendNil_con _ A6 _ c6); (case hL => (repeat (first | exact pm_nil _ | exact pm_refl _ _ | exact pm_self _ | apply pm_cons | apply pm_app))); (case hsub => (intros; (exact sbT))); rintro _ _ _ - ⟨rfl, rfl, rfl⟩); refine Jf 8 ?_; refine Jf 9 ?_; (apply h_end; (case hr => kernel_rfl)))
  refine W.perm (L' := (bx, .cells [.int .i64 kind, .slice xa l.length xc, .int .i64 nn, .slice ka ks.length kc].toArray 62 (0, 0)) :: (bw, .cells [vd, .pointer none, vr, .pointer none].toArray 32 (0, 0)) :: L6) ?_ (pmc (fun p => by (repeat (first | rw [List.countP_append] | rw [List.countP_cons] | rw [List.countP_nil])); (all_goals (first | rfl | omega))))
  (repeat (first | refine Jz ?_ | intro _))
  exact o_ret (L' := [(bw, .cells [vd, .pointer none, vr, .pointer none].toArray 32 (0, 0))]) Tryz.results32 rfl sbL ⟨rfl, rfl⟩
set_option maxHeartbeats 3200000 in
theorem doesApp_con {bw : Nat} {vd vr jv kv : Value} {D : Dk} {R : Rf} {a : List Str} {br : Bool} {LD LR LJ LK : Blocks} {N m : Nat} {S : SH} (hD : OwD vd D LD) (hR : OwR vr R LR) (hJ : OwJ jv vd (jnB a br) LJ) (hKs : OwKs kv vr S a (recB shaK a).length br LK) (hrel : Rel N m D R) (kind nn : Int) (xa : Option Addr) (l : List Str) (xc : Nat) (ka : Option Addr) (ks : List Int) (kc : Nat) (hk : i64 kind) (h5 : pickI kind 8 ≠ 5) (h6 : pickI kind 8 ≠ 6) (h7 : pickI kind 8 ≠ 7) (hA : At S xa l)
    (ha : Short a) (he : (recB shaK a).length ≤ N) (hN : N ≤ 1000000) (hm : m ≤ 90000) (hK : Pts S ⟨4, 0, none⟩ (cellsOf shaK)) :
    Con Tryz.prog 32 #[.pointer (some ⟨bw, 0, none⟩), .agg [.int .i64 kind, .slice xa l.length xc, .int .i64 nn, .slice ka ks.length kc].toArray] S ((bw, .cells [vd, jv, vr, kv].toArray 32 (0, 0)) :: ((LJ ++ LD) ++ (LK ++ LR))) (fun S' L' r => r = .bool true ∧ OwWd bw (apO D a br (fewL l)).1 (apR R a br (fewL l)).1 (some (apO D a br (fewL l)).2.1) S' L') := by
  have hcp := fun S => lpick_con kind 8 S hk (by decide)
  have hfl := few_len l
  have hSf := few_short l
  have hpd := hrel.pend
  obtain ⟨hrel2, heq⟩ := hrel.ap a br (fewL l)
  have happ := fun (A : Option Addr) (c : Nat) (S : SH) (h1 : At S A (fewL l)) (h2 : Pts S ⟨4, 0, none⟩ (cellsOf shaK)) => appB_con (N := N) (k := 0) hJ hD (fewL l) A c S h1 (by omega) hSf ha he hN hrel.dur (by omega) h2
  have hrap := fun (A : Option Addr) (c : Nat) (S : SH) (h0 : OwKs kv vr S a (recB shaK a).length br LK) (h1 : At S A (fewL l)) => rappB_con (N := N) h0 hR (fewL l) A c h1 (by omega) hSf ha he hN (by rw [hrel.sure]; exact hrel.dur) (by rw [hrel.l]; omega)
  rw [heq] at hrap
  generalize hl2 : fewL l = l2 at *
  obtain ⟨bj, rfl⟩ := hJ.form
  obtain ⟨bk, rfl⟩ := hKs.form
  refine con_of (args := [.pointer (some ⟨bw, 0, none⟩), .agg [.int .i64 kind, .slice xa l.length xc, .int .i64 nn, .slice ka ks.length kc].toArray]) Tryz.func32 rfl Tryz.ntmps32 rfl fun w => ?_
  generalize (apR R a br l2).1 = R1 at *
  generalize (apO D a br l2).1 = D1 at *
  generalize (apO D a br l2).2.2 = E1 at *
  generalize (apO D a br l2).2.1 = j1 at *
  generalize pickI kind 8 = pk at *
  have hfew : ∀ S, At S xa l → Con Tryz.prog 12 #[.slice xa l.length xc] S [] (fun S' L' r => S' = S ∧ Ows 9 r l2 L') := fun S h => hl2 ▸ few_con l xa xc S h
  (repeat (first | refine Jc ?_ | (apply z_call; rfl; rfl; rfl; exact hcp _; rintro _ _ _ - ⟨rfl, rfl, rfl⟩) | (apply s_evb; (case hg => rfl); (case hd => rfl); (case hn => rfl); (case he => (apply ev_nilCheck; rfl))) | (apply s_evb; (case hg => rfl); (case hd => rfl); (case hn => rfl); (case he => (apply ev_eql_p; (case hx => rfl); (case hy => rfl)))) | refine Jo ?_ | intro _))
  rename_i bx
  ((apply c_held ([(bx, .cells [.int .i64 kind, .slice xa l.length xc, .int .i64 nn, .slice ka ks.length kc].toArray 62 (0, 0)), (bw, .cells [vd, .pointer (some ⟨bj, 0, none⟩), vr, .pointer (some ⟨bk, 0, none⟩)].toArray 32 (0, 0))]); (case hL => (exact sbT))); refine Jf 0 ?_; (apply h_first 1; (case hi => rfl); (case hr => kernel_rfl); (case hfr => kernel_rfl); (case hsel => kernel_rfl); (case hg => rfl); (case hd => rfl); (case he => (apply ev_nilCheck; rfl))); refine Jf 2 ?_; refine Jf 3 ?_; refine Jf 4 ?_; refine Jf 5 ?_; refine Jf 8 ?_; (apply h_first 9; (case hi => rfl); (case hr => kernel_rfl); (case hfr => kernel_rfl); (case hsel => kernel_rfl); (case hg => rfl); (case hd => rfl); (case he => (apply ev_nilCheck; rfl))); refine Jf 10 ?_; refine Jf 11 ?_; refine Jf 12 ?_; refine Jf 13 ?_; (apply h_one 6; (case hr => kernel_rfl)); (apply n_call; (case hi => rfl); (case i1 => infer_instance); (case hg => rfl); (case hd => rfl); (case ha => rfl); (case hc => exact hfew _ hA); (case hL => (repeat (first | exact pm_nil _ | exact pm_refl _ _ | exact pm_self _ | apply pm_cons | apply pm_app))); (case hsub => (intros; (exact sbT))); rintro S6 L6 v6 - ⟨rfl, ho6⟩; refine Wh.freezeOws (L1 := (bx, .cells [.int .i64 kind, .slice xa l.length xc, .int .i64 nn, .slice ka ks.length kc].toArray 62 (0, 0)) :: (bw, .cells [vd, .pointer (some ⟨bj, 0, none⟩), vr, .pointer (some ⟨bk, 0, none⟩)].toArray 32 (0, 0)) :: ((LJ ++ LD) ++ (LK ++ LR))) ho6 (pmc (fun p => by (repeat (first | rw [List.countP_append] | rw [List.countP_cons] | rw [List.countP_nil])); (all_goals (first | rfl | omega)))) sbL fun S7 hle7 hs7 => ?_; obtain ⟨A7, c7, rfl, hc7, hA7⟩ := hs7); (apply h_one 7; (case hr => kernel_rfl)); (apply n_call (L2 := (bx, .cells [.int .i64 kind, .slice xa l.length xc, .int .i64 nn, .slice ka ks.length kc].toArray 62 (0, 0)) :: (bw, .cells [vd, .pointer (some ⟨bj, 0, none⟩), vr, .pointer (some ⟨bk, 0, none⟩)].toArray 32 (0, 0)) :: (LK ++ LR)); (case hi => rfl); (case i1 => infer_instance); (case hg => rfl); (case hd => rfl); (case ha => rfl); (case hc => exact happ A7 c7 _ hA7 (hK.le hle7)); (case hL => (exact pmc (fun p => by (repeat (first | rw [List.countP_append] | rw [List.countP_cons] | rw [List.countP_nil])); (all_goals (first | rfl | omega))))); (case hsub => (intros; (exact sbT))); rintro S8 L8 v8 hle8 ⟨LJ8, LD8, rfl, hJ8, hD8, rfl⟩); (apply h_one 14; (case hr => kernel_rfl)); (apply n_call; (case hi => rfl); (case i1 => infer_instance); (case hg => rfl); (case hd => rfl); (case ha => rfl); (case hc => exact hfew _ (hA.le (hle7.trans hle8))); (case hL => (repeat (first | exact pm_nil _ | exact pm_refl _ _ | exact pm_self _ | apply pm_cons | apply pm_app))); (case hsub => (intros; (exact sbT))); rintro S9 L9 v9 - ⟨rfl, ho9⟩; refine Wh.freezeOws (L1 := (bx, .cells [.int .i64 kind, .slice xa l.length xc, .int .i64 nn, .slice ka ks.length kc].toArray 62 (0, 0)) :: (bw, .cells [vd, .pointer (some ⟨bj, 0, none⟩), vr, .pointer (some ⟨bk, 0, none⟩)].toArray 32 (0, 0)) :: ((LJ8 ++ LD8) ++ (LK ++ LR))) ho9 (pmc (fun p => by (repeat (first | rw [List.countP_append] | rw [List.countP_cons] | rw [List.countP_nil])); (all_goals (first | rfl | omega)))) sbL fun S10 hle10 hs10 => ?_; obtain ⟨A10, c10, rfl, hc10, hA10⟩ := hs10); (apply h_one 15; (case hr => kernel_rfl)); (apply n_call (L2 := (bx, .cells [.int .i64 kind, .slice xa l.length xc, .int .i64 nn, .slice ka ks.length kc].toArray 62 (0, 0)) :: (bw, .cells [vd, .pointer (some ⟨bj, 0, none⟩), vr, .pointer (some ⟨bk, 0, none⟩)].toArray 32 (0, 0)) :: (LJ8 ++ LD8)); (case hi => rfl); (case i1 => infer_instance); (case hg => rfl); (case hd => rfl); (case ha => rfl); (case hc => exact hrap A10 c10 _ (hKs.le (hle7.trans (hle8.trans hle10))) hA10); (case hL => (exact pmc (fun p => by (repeat (first | rw [List.countP_append] | rw [List.countP_cons] | rw [List.countP_nil])); (all_goals (first | rfl | omega))))); (case hsub => (intros; (exact sbT))); rintro S11 L11 v11 hle11 ⟨LK11, LR11, rfl, hK11, hR11, rfl⟩); refine Jf 16 ?_; refine Jf 17 ?_; (apply h_end; (case hr => kernel_rfl)))
  refine W.perm (L' := (bx, .cells [.int .i64 kind, .slice xa l.length xc, .int .i64 nn, .slice ka ks.length kc].toArray 62 (0, 0)) :: (bw, .cells [vd, .pointer (some ⟨bj, 0, none⟩), vr, .pointer (some ⟨bk, 0, none⟩)].toArray 32 (0, 0)) :: ((LJ8 ++ LD8) ++ (LK11 ++ LR11))) ?_ (pmc (fun p => by (repeat (first | rw [List.countP_append] | rw [List.countP_cons] | rw [List.countP_nil])); (all_goals (first | rfl | omega))))
  (repeat (first | refine Jz ?_ | intro _))
  exact o_ret (L' := (bw, .cells [vd, .pointer (some ⟨bj, 0, none⟩), vr, .pointer (some ⟨bk, 0, none⟩)].toArray 32 (0, 0)) :: ((LJ8 ++ LD8) ++ (LK11 ++ LR11))) Tryz.results32 rfl sbL ⟨rfl, vd, vr, LD8, LR11, hD8, hR11, _, _, LJ8, LK11, hJ8, hK11, rfl⟩
end Go.Proofs.YtnlfohlngapkfaaGreatDoor
namespace Go.Proofs.YtnlfohlngapkfaaGreatDoor
open Go Go.X
theorem pmt1 (p : Nat × Obj) (LD LR LJ LK : Blocks) : (p :: ((LJ ++ LD) ++ (LK ++ LR))).Perm ((p :: (LD ++ LR)) ++ (LJ ++ LK)) := pmc (fun q => by (repeat (first | rw [List.countP_append] | rw [List.countP_cons] | rw [List.countP_nil])); omega)
set_option maxRecDepth 10000
set_option linter.unusedVariables false
attribute [local irreducible] Code.wpIn wpListIn Exit.then Exit.inBlock X.Out X.Back X.W X.Ev X.Con X.BinV X.Wh X.Wn X.Wq
attribute [local irreducible] sumK chain stw group stored
theorem OwR.fit {v : Value} {R : Rf} {L : Blocks} (h : OwR v R L) : ∀ w ∈ R.l, w.off + w.s.length ≤ R.sure.length := by
  obtain ⟨b, g, N, cap, tl, pv, ob, -, -, -, hw, -⟩ := h
  rw [hw.sure]; exact hw.fit
set_option maxHeartbeats 1600000 in
/-- A call on both journals: they agree. -/
theorem does_con {bw : Nat} {D : Dk} {R : Rf} {js : Option (List Str × Bool)} {L : Blocks} {N m : Nat} {S : SH} (hW : OwWd bw D R js S L) (hrel : Rel N m D R) (hjs : jsOk N js) (hN : N ≤ 1000000) (hm : m ≤ 90000) (p : Addr) (kind nn : Int) (xa : Option Addr) (l : List Str) (xc : Nat) (ka : Option Addr) (ks : List Int) (kc : Nat) (hk : i64 kind) (hn : i64 nn) (hA : At S xa l) (hKA : At S ka ks) (hk64 : ∀ x ∈ ks, i64 x) (hkc : ks.length ≤ kc)
    (hK : Pts S ⟨4, 0, none⟩ (cellsOf shaK)) (hE : Pts S ⟨0, 0, none⟩ [errV p]) :
    Con Tryz.prog 32 #[.pointer (some ⟨bw, 0, none⟩), .agg [.int .i64 kind, .slice xa l.length xc, .int .i64 nn, .slice ka ks.length kc].toArray] S L (fun S' L' r => r = .bool true ∧ ∃ D' R' js', Rel N (m + 2) D' R' ∧ jsOk N js' ∧ OwWd bw D' R' js' S' L') := by
  obtain ⟨vd, vr, LD, LR, hD, hR, hL⟩ := hW
  have hf : ∀ w ∈ D.pend, w.off + w.s.length ≤ N := by
    have := hR.fit
    rw [hrel.l, hrel.sure, hrel.dur] at this
    exact this
  have hup : ∀ {S' : SH} {L' : Blocks} {r : Value}, (r = .bool true ∧ ∃ D' R' js', Rel N (m + 1) D' R' ∧ jsOk N js' ∧ OwWd bw D' R' js' S' L') → r = .bool true ∧ ∃ D' R' js', Rel N (m + 2) D' R' ∧ jsOk N js' ∧ OwWd bw D' R' js' S' L' := fun ⟨h1, D', R', js', h2, h3, h4⟩ => ⟨h1, D', R', js', h2.up, h3, h4⟩
  by_cases h5 : pickI kind 8 = 5
  · have hc := (hrel.cut (1 + pickI nn 5)).1.up2
    rcases js with _ | ⟨a, br⟩
    · simp only at hL; subst hL
      refine (doesCut_con hD hR hrel S kind nn xa l xc ka ks kc hk hn h5).mono fun S' L' r _ h => ?_
      obtain ⟨rfl, rfl, LD', LR', rfl, h1, h2⟩ := h
      exact ⟨rfl, _, _, none, hc, hjs, vd, vr, LD', LR', h1, h2, rfl⟩
    · simp only at hL
      obtain ⟨jv, kv, LJ, LK, hJ, hKs, rfl⟩ := hL
      refine ((doesCut_con (jv := jv) (kv := kv) hD hR hrel S kind nn xa l xc ka ks kc hk hn h5).frame (pmt1 _ LD LR LJ LK)).out fun S' L1 r h => ?_
      obtain ⟨L2, rfl, rfl, rfl, LD', LR', rfl, h1, h2⟩ := h
      exact ⟨_, (pmt1 _ LD' LR' LJ LK).symm, rfl, _, _, some (a, br), hc, hjs, vd, vr, LD', LR', h1, h2, jv, kv, LJ, LK, hJ, hKs, rfl⟩
  by_cases h6 : pickI kind 8 = 6
  · rcases js with _ | ⟨a, br⟩
    · simp only at hL; subst hL
      exact (doesCrash_con hD hR hrel S p kind nn xa l xc ka ks kc hk hn hKA hk64 hkc h6 hN (by omega) hf hK hE).mono fun S' L' r _ h => hup h
    · simp only at hL
      obtain ⟨jv, kv, LJ, LK, hJ, hKs, rfl⟩ := hL
      exact (Con.drop (doesCrash_con (jv := jv) (kv := kv) hD hR hrel S p kind nn xa l xc ka ks kc hk hn hKA hk64 hkc h6 hN (by omega) hf hK hE) (pmt1 _ LD LR LJ LK)).mono fun S' L' r _ h => hup h
  by_cases h7 : pickI kind 8 = 7
  · rcases js with _ | ⟨a, br⟩
    · simp only at hL; subst hL
      exact (doesOpen_con hD hR hrel S p kind nn xa l xc ka ks kc hk h7 hN (by omega) hK hE).mono fun S' L' r _ h => hup h
    · simp only at hL
      obtain ⟨jv, kv, LJ, LK, hJ, hKs, rfl⟩ := hL
      exact (Con.drop (doesOpen_con (jv := jv) (kv := kv) hD hR hrel S p kind nn xa l xc ka ks kc hk h7 hN (by omega) hK hE) (pmt1 _ LD LR LJ LK)).mono fun S' L' r _ h => hup h
  rcases js with _ | ⟨a, br⟩
  · simp only at hL; subst hL
    refine ((doesNone_con (vd := vd) (vr := vr) S kind nn xa l xc ka ks kc hk h5 h6 h7 hA).frame (L2 := LD ++ LR) (List.Perm.refl _)).mono fun S' L' r hle h => ?_
    obtain ⟨L1, rfl, rfl, rfl⟩ := h
    exact ⟨rfl, D, R, none, hrel.up2, hjs, vd, vr, LD, LR, hD, hR, rfl⟩
  · simp only at hL
    obtain ⟨jv, kv, LJ, LK, hJ, hKs, rfl⟩ := hL
    obtain ⟨ha, he⟩ := hjs a br rfl
    refine (doesApp_con hD hR hJ hKs hrel kind nn xa l xc ka ks kc hk h5 h6 h7 hA ha he hN hm hK).mono fun S' L' r _ h => ?_
    obtain ⟨rfl, h⟩ := h
    exact ⟨rfl, _, _, _, (hrel.ap a br (fewL l)).1, ap_ok hrel.dur ha (few_short l) he, h⟩
theorem newO (N : Nat) : openO (newD N) [] (List.replicate N 0) = (newD N, 0) := by
  unfold openO
  rw [if_neg (by simp [newD]), if_neg, if_pos (by simp)]
  rintro ⟨⟨c, hc, hc0⟩, -⟩
  exact hc0 (by
    rw [List.getElem?_replicate] at hc
    split at hc
    · injection hc with hc; exact hc.symm
    · cases hc)
end Go.Proofs.YtnlfohlngapkfaaGreatDoor
namespace Go.Proofs.YtnlfohlngapkfaaGreatDoor
open Go Go.X
set_option maxRecDepth 10000
set_option linter.unusedVariables false
attribute [local irreducible] Code.wpIn wpListIn Exit.then Exit.inBlock X.Out X.Back X.W X.Ev X.Con X.BinV X.Wh X.Wn X.Wq
attribute [local irreducible] sumK chain stw group stored
set_option maxHeartbeats 1600000 in
theorem begin_con (n : Int) (p : Addr) (S : SH) (hn : i64 n) (hK : Pts S ⟨4, 0, none⟩ (cellsOf shaK)) (hE : Pts S ⟨0, 0, none⟩ [errV p]) :
    Con Tryz.prog 10 #[.int .i64 n] S [] (fun S' L' r => ∃ bw R, r = .tuple #[.pointer (some ⟨bw, 0, none⟩), .bool true] ∧ Rel (sizeN n) 1 (newD (sizeN n)) R ∧ OwWd bw (newD (sizeN n)) R (some ([], false)) S' L') := by
  refine con_of (args := [.int .i64 n]) Tryz.func10 rfl Tryz.ntmps10 rfl fun w => ?_
  have hb := sizeN_bd n
  obtain ⟨N, hN⟩ : ∃ N, N = sizeN n := ⟨_, rfl⟩
  have hsz : ∀ S, Con Tryz.prog 16 #[.int .i64 n] S [] (X.Pure S (.int .i64 (N : Nat))) := fun S => by rw [hN]; exact size_con n S hn
  rw [← hN] at hb ⊢
  (repeat (first | refine Jc ?_ | (apply z_call; rfl; rfl; rfl; exact hsz _; rintro _ _ _ - ⟨rfl, rfl, rfl⟩) | refine Jo ?_ | intro _))
  (apply s_call (L2 := []); (case hg => rfl); (case hd => rfl); (case ha => rfl); (case hc => exact New_con N _ (by omega)); (case hL => (exact pmc (fun p => by (repeat (first | rw [List.countP_append] | rw [List.countP_cons] | rw [List.countP_nil])); (all_goals (first | rfl | omega))))); rintro S2 LD v2 - ⟨rfl, vd, hD, rfl⟩; obtain ⟨bd, rfl⟩ := hD.form)
  (repeat (first | refine Jc ?_ | (apply z_call; rfl; rfl; rfl; exact hsz _; rintro _ _ _ - ⟨rfl, rfl, rfl⟩) | refine Jo ?_ | intro _))
  (apply s_call (L2 := LD); (case hg => rfl); (case hd => rfl); (case ha => rfl); (case hc => exact RNew_con N _ (by omega)); (case hL => (exact pmc (fun p => by (repeat (first | rw [List.countP_append] | rw [List.countP_cons] | rw [List.countP_nil])); (all_goals (first | rfl | omega))))); rintro S3 LR v3 - ⟨rfl, vr, hR, rfl⟩; obtain ⟨br, rfl⟩ := hR.form)
  (repeat (first | refine Jc ?_ | (apply s_evb; (case hg => rfl); (case hd => rfl); (case hn => rfl); (case he => (apply ev_buildS; (case hp => rfl); (case hz => rfl); (case h1 => rfl); (case hr => rfl)))) | refine Jo ?_ | intro _))
  rename_i bw
  have hrel := Rel.new N
  have hwo := wopen_con (bw := bw) (j0 := .pointer none) (k0 := .pointer none) hD hR hrel _ p (by omega) (by omega) [] (List.replicate N 0) (by rw [group_nil]; rfl) Short.nil (.inr fun c hc => by
    rw [List.getElem?_replicate] at hc
    split at hc
    · injection hc with hc; exact hc.symm
    · cases hc) hK hE
  have ho := (hrel.openO' [] (List.replicate N 0)).1
  rw [newO] at hwo ho
  simp only [if_true] at hwo
  refine W.perm (L' := (bw, .cells (setAll [.pointer none, .pointer none, .pointer none, .pointer none] [(0, .pointer (some ⟨bd, 0, none⟩)), (2, .pointer (some ⟨br, 0, none⟩))]).toArray 32 (0, 0)) :: (LD ++ LR)) ?_ (pmc (fun p => by (repeat (first | rw [List.countP_append] | rw [List.countP_cons] | rw [List.countP_nil])); (all_goals (first | rfl | omega))))
  show W _ _ _ ((bw, .cells [.pointer (some ⟨bd, 0, none⟩), .pointer none, .pointer (some ⟨br, 0, none⟩), .pointer none].toArray 32 (0, 0)) :: (LD ++ LR)) _ _
  (repeat (first | refine Jc ?_ | (apply s_call (L2 := []); (case hg => rfl); (case hd => rfl); (case ha => rfl); (case hc => exact hwo); (case hL => (exact pmc (fun p => by (repeat (first | rw [List.countP_append] | rw [List.countP_cons] | rw [List.countP_nil])); (all_goals (first | rfl | omega))))); rintro S7 L7 v7 hle7 ⟨rfl, hW7⟩) | refine Jo ?_ | intro _))
  exact o_ret2 (L' := L7) Tryz.results10 rfl rfl (List.sublist_append_left _ _) ⟨bw, _, rfl, ho, hW7⟩
end Go.Proofs.YtnlfohlngapkfaaGreatDoor
namespace Go.Proofs.YtnlfohlngapkfaaGreatDoor
open Go Go.X
set_option maxRecDepth 10000
set_option linter.unusedVariables false
attribute [local irreducible] Code.wpIn wpListIn Exit.then Exit.inBlock X.Out X.Back X.W X.Ev X.Con X.BinV X.Wh X.Wn X.Wq
attribute [local irreducible] sumK chain stw group stored
/-- Both journals, where the blocks of the disks come first. -/
theorem OwWd.parts {bw : Nat} {D : Dk} {R : Rf} {js : Option (List Str × Bool)} {S : SH} {L : Blocks} (h : OwWd bw D R js S L) : ∃ vd vr jv kv LD LR LX, OwD vd D LD ∧ OwR vr R LR ∧ L.Perm ((bw, .cells [vd, jv, vr, kv].toArray 32 (0, 0)) :: (LD ++ (LR ++ LX))) ∧
    ((js = none ∧ jv = .pointer none ∧ kv = .pointer none ∧ LX = []) ∨ ∃ l br LJ LK, js = some (l, br) ∧ OwJ jv vd (jnB l br) LJ ∧ OwKs kv vr S l (recB shaK l).length br LK ∧ LX = LJ ++ LK) := by
  obtain ⟨vd, vr, LD, LR, hD, hR, hL⟩ := h
  rcases js with _ | ⟨a, br⟩
  · simp only at hL; subst hL
    exact ⟨vd, vr, _, _, LD, LR, [], hD, hR, pmc (fun p => by (repeat (first | rw [List.countP_append] | rw [List.countP_cons] | rw [List.countP_nil])); omega), .inl ⟨rfl, rfl, rfl, rfl⟩⟩
  · simp only at hL
    obtain ⟨jv, kv, LJ, LK, hJ, hKs, rfl⟩ := hL
    exact ⟨vd, vr, jv, kv, LD, LR, LJ ++ LK, hD, hR, pmc (fun p => by (repeat (first | rw [List.countP_append] | rw [List.countP_cons] | rw [List.countP_nil])); omega), .inr ⟨a, br, LJ, LK, rfl, hJ, hKs, rfl⟩⟩
theorem RoomW_con {jv v : Value} {J : Jn} {N s : Nat} {D : Dk} {LJ LD : Blocks} (hJ : OwJ jv v J LJ) (hD : OwD v D LD) (S : SH) (hs : J.size = s) (hB : D.dur.length = N) (hle : s ≤ N) (hN : N ≤ 1000000) :
    Con Tryz.prog 21 #[jv] S (LJ ++ LD) (fun S' L' r => S' = S ∧ ∃ LD', L' = LJ ++ LD' ∧ OwD v D LD' ∧ r = .int .i64 ((N : Int) - s)) := by
  have h := Room_con hJ hD S (by omega) (by omega)
  rw [hB, hs] at h
  exact h
theorem rRoomW_con {v dv : Value} {R : Rf} {l : List Str} {e N : Nat} {br : Bool} {LK LD : Blocks} {S : SH} (hK : OwKs v dv S l e br LK) (hR : OwR dv R LD) (he : e ≤ 1000000) (hs : R.sure.length = N) :
    Con Tryz.prog 22 #[v] S (LK ++ LD) (fun S' L' r => S' = S ∧ ∃ LD', L' = LK ++ LD' ∧ OwR dv R LD' ∧ r = .int .i64 ((N : Int) - e)) := by
  have h := rRoom_con hK hR he
  rw [hs] at h
  exact h
set_option maxHeartbeats 3200000 in
theorem matches_law (n : Int) (xs : List Opv) (A : Option Addr) (c : Nat) (p : Addr) (S : SH) (hn : i64 n) (hA : At S A xs) (hx : ∀ x ∈ xs, opOk S x)
    (hK : Pts S ⟨4, 0, none⟩ (cellsOf shaK)) (hE : Pts S ⟨0, 0, none⟩ [errV p]) :
    Con Tryz.prog 7 #[.int .i64 n, .slice A xs.length c] S [] (fun S' L' r => r = .bool true) := by
  refine con_of (args := [.int .i64 n, .slice A xs.length c]) Tryz.func7 rfl Tryz.ntmps7 rfl fun w => ?_
  have hb := sizeN_bd n
  obtain ⟨N, hN⟩ : ∃ N, N = sizeN n := ⟨_, rfl⟩
  have hbg := begin_con n p
  rw [← hN] at hb hbg
  (repeat (first | refine Jc ?_ | (apply s_call (L2 := []); (case hg => rfl); (case hd => rfl); (case ha => rfl); (case hc => exact sane_con shaK p S hK shaK_len hE); (case hL => (exact pmc (fun p => by (repeat (first | rw [List.countP_append] | rw [List.countP_cons] | rw [List.countP_nil])); (all_goals (first | rfl | omega))))); rintro S1 L1 v1 hle1 ⟨rfl, rfl⟩) | refine Jo ?_ | intro _))
  (repeat (first | refine Jc ?_ | (apply s_call (L2 := []); (case hg => rfl); (case hd => rfl); (case ha => rfl); (case hc => exact hbg S1 hn (hK.le hle1) (hE.le hle1)); (case hL => (exact pmc (fun p => by (repeat (first | rw [List.countP_append] | rw [List.countP_cons] | rw [List.countP_nil])); (all_goals (first | rfl | omega))))); rintro S2 L2 v2 hle2 ⟨bw, R, rfl, hrel, hW⟩) | refine Jo ?_ | intro _))
  refine c_loop (fun m S' L F => Le S S' ∧ ∃ (k : Nat) (D : Dk) (R : Rf) (js : Option (List Str × Bool)), m = 25 - k ∧ k ≤ 25 ∧ Rel N (2 * k + 1) D R ∧ jsOk N js ∧ OwWd bw D R js S' L ∧
      F = [(0, .int .i64 n), (1, .slice A xs.length c), (5, .bool true), (6, .pointer (some ⟨bw, 0, none⟩)), (8, .int .i64 k)])
    ⟨hle1.trans hle2, 0, _, R, _, rfl, by omega, hrel, (fun l br e => by injection e with e; injection e with e1 e2; subst e1; exact ⟨Short.nil, by rw [recB_nil]; simp⟩), hW, rfl⟩ sbF (List.sublist_append_left _ _) ?_
  clear hrel hW
  rintro m S4 L F ⟨hle4, k, D, R, js, rfl, hk25, hrel, hjs, hW, rfl⟩
  by_cases hlt : k < xs.length ∧ k < 25
  rotate_left
  · by_cases h1 : k < xs.length
    all_goals (repeat (first | refine Jz ?_ | intro _))
    all_goals exact o_ret Tryz.results7 rfl (List.nil_sublist _) rfl
  obtain ⟨h1, h2⟩ := hlt
  obtain ⟨x, hxk⟩ : ∃ x, xs[k]? = some x := ⟨_, List.getElem?_eq_getElem h1⟩
  obtain ⟨hok1, ⟨l, hm, hc, hAl, hyl⟩, hok3, ⟨ks, hkm, hkc, hKA, hk64⟩⟩ := (hx _ (List.mem_of_getElem? hxk)).le hle4
  obtain ⟨kind, ⟨xa, xm, xc⟩, nn, ⟨ka, km, kc⟩⟩ := x
  simp only at hok1 hm hc hAl hok3 hkm hkc hKA
  subst hm hkm
  (repeat (first | refine Jc ?_ | (apply s_idx (hA.le hle4); (case hg => rfl); (case hd => rfl); (case hx => rfl); (case hi => rfl); (case hm => rfl); (case hu => exact hxk); intro q (hq : Pts _ q [.int .i64 kind, .slice xa l.length xc, .int .i64 nn, .slice ka ks.length kc])) | (apply s_load_ag; (case hg => rfl); (case hd => rfl); (case hx => rfl); (case hv => exact hq); (case hl => rfl)) | (apply s_call (L2 := []); (case hg => rfl); (case hd => rfl); (case ha => rfl); (case hc => exact does_con hW hrel hjs (by omega) (by omega) p kind nn xa l xc ka ks kc hok1 hok3 hAl hKA hk64 hkc (hK.le hle4) (hE.le hle4)); (case hL => (exact pmc (fun p => by (repeat (first | rw [List.countP_append] | rw [List.countP_cons] | rw [List.countP_nil])); (all_goals (first | rfl | omega))))); rintro S5 L5 v5 hle5 ⟨rfl, D', R', js', hrel', hjs', hW'⟩) | refine Jo ?_ | intro _))
  clear hW hrel hjs
  obtain ⟨vd, vr, jv, kv, LD, LR, LX, hD, hR, hL5, hj⟩ := hW'.parts
  obtain ⟨sure, lw, down, left⟩ := R'
  obtain rfl : sure = D'.dur := hrel'.sure
  obtain rfl : lw = D'.pend := hrel'.l
  obtain rfl : down = D'.off := hrel'.down
  obtain rfl : left = D'.left := hrel'.left
  have hvl := hrel'.vlen
  have hdl := hrel'.dur
  have hpd := hrel'.pend
  have hvis : applyL D'.dur D'.pend = D'.vis := hrel'.vis.symm
  have hR' := hR
  obtain ⟨b, g, N', cap, tl, pv, ob, rfl, hp, ho, hw, hc1, hc2, hc3⟩ := hR
  obtain rfl : N' = N := by have := hw.sure; exact this.symm.trans hdl
  obtain ⟨Ap, cp, rfl⟩ := ho.form
  have hk1 : OwR (.pointer (some ⟨b, 0, none⟩)) ⟨D'.dur, D'.pend, D'.off, D'.left⟩ (rfB b g N' cap tl (.slice Ap D'.pend.length cp) ob ⟨D'.dur, D'.pend, D'.off, D'.left⟩) := ⟨b, g, N', cap, tl, _, ob, rfl, List.Perm.refl _, ho, hw, hc1, hc2, hc3⟩
  have hV := fun S => Visible_con hk1 (by simp only; omega) S
  simp only [hvis] at hV
  unfold rfB at hp hk1 hV
  refine W.perm (L' := (bw, .cells [vd, jv, .pointer (some ⟨b, 0, none⟩), kv].toArray 32 (0, 0)) :: (LD ++ (((b, .cells [.slice (some ⟨g, 0, none⟩) N' cap, .slice Ap D'.pend.length cp, .bool D'.off, .int .i64 D'.left].toArray 67 (0, 0)) :: (g, .cells (cellsOf D'.dur ++ tl).toArray 5 (0, 0)) :: ob) ++ LX))) ?_ (by rw [List.append_nil]; exact hL5.trans (List.Perm.cons _ (List.Perm.append_left _ (List.Perm.append_right _ hp))))
  refine c_meet (fun S' L F => Le S5 S' ∧ (∃ L8 L10, OwD vd D' L8 ∧ OwR (.pointer (some ⟨b, 0, none⟩)) ⟨D'.dur, D'.pend, D'.off, D'.left⟩ L10 ∧ L = (bw, .cells [vd, jv, .pointer (some ⟨b, 0, none⟩), kv].toArray 32 (0, 0)) :: (L8 ++ (L10 ++ LX))) ∧
      F = [(75, .bool false), (0, .int .i64 n), (1, .slice A xs.length c), (5, .bool true), (6, .pointer (some ⟨bw, 0, none⟩)), (8, .int .i64 k)]) ?_ ?_
  · cases hoff : D'.off
    all_goals rw [hoff] at hk1 hV
    · ((apply c_held ([(bw, .cells [vd, jv, .pointer (some ⟨b, 0, none⟩), kv].toArray 32 (0, 0))]); (case hL => (exact sbT))); refine Jf 0 ?_; refine Jf 1 ?_; refine Jf 2 ?_; refine Jf 3 ?_; (apply h_first 4; (case hi => rfl); (case hr => kernel_rfl); (case hfr => kernel_rfl); (case hsel => kernel_rfl); (case hg => rfl); (case hd => rfl); (case he => (apply ev_nilCheck; rfl))); refine Jf 5 ?_; refine Jf 6 ?_; refine Jf 8 ?_; (apply h_first 9; (case hi => rfl); (case hr => kernel_rfl); (case hfr => kernel_rfl); (case hsel => kernel_rfl); (case hg => rfl); (case hd => rfl); (case he => (apply ev_nilCheck; rfl))); refine Jf 10 ?_; refine Jf 11 ?_; (apply h_first 12; (case hi => rfl); (case hr => kernel_rfl); (case hfr => kernel_rfl); (case hsel => kernel_rfl); (case hg => rfl); (case hd => rfl); (case he => (apply ev_nilCheck; rfl))); refine Jf 13 ?_; (apply h_two 7 14; (case hr => kernel_rfl)); (case k1 => ((apply n_call (L2 := (bw, .cells [vd, jv, .pointer (some ⟨b, 0, none⟩), kv].toArray 32 (0, 0)) :: (((b, .cells [.slice (some ⟨g, 0, none⟩) N' cap, .slice Ap D'.pend.length cp, .bool false, .int .i64 D'.left].toArray 67 (0, 0)) :: (g, .cells (cellsOf D'.dur ++ tl).toArray 5 (0, 0)) :: ob) ++ LX)); (case hi => rfl); (case i1 => infer_instance); (case hg => rfl); (case hd => rfl); (case ha => rfl); (case hc => exact Pending_con hD _); (case hL => (exact pmc (fun p => by (repeat (first | rw [List.countP_append] | rw [List.countP_cons] | rw [List.countP_nil])); (all_goals (first | rfl | omega))))); (case hsub => (intros; (exact sbT))); rintro S7 L7 v7 - ⟨rfl, hD7, rfl⟩); (apply h_one 14; (case hr => kernel_rfl)); (refine X.Jn ?_; try intro _); refine Jf 15 ?_; refine Jf 16 ?_; refine Jf 17 ?_; refine Jf 18 ?_; refine Jf 19 ?_; (apply h_first 20; (case hi => rfl); (case hr => kernel_rfl); (case hfr => kernel_rfl); (case hsel => kernel_rfl); (case hg => rfl); (case hd => rfl); (case he => (apply ev_nilCheck; rfl))); refine Jf 21 ?_; refine Jf 22 ?_; (apply h_first 23; (case hi => rfl); (case hr => kernel_rfl); (case hfr => kernel_rfl); (case hsel => kernel_rfl); (case hg => rfl); (case hd => rfl); (case he => (apply ev_nilCheck; rfl))); refine Jf 24 ?_; (apply h_one 25; (case hr => kernel_rfl)); (refine X.Jn ?_; try intro _); refine Jf 26 ?_; refine Jf 27 ?_; refine Jf 28 ?_; (apply h_first 29; (case hi => rfl); (case hr => kernel_rfl); (case hfr => kernel_rfl); (case hsel => kernel_rfl); (case hg => rfl); (case hd => rfl); (case he => (apply ev_nilCheck; rfl))); refine Jf 30 ?_; refine Jf 31 ?_; refine Jf 33 ?_; (apply h_first 34; (case hi => rfl); (case hr => kernel_rfl); (case hfr => kernel_rfl); (case hsel => kernel_rfl); (case hg => rfl); (case hd => rfl); (case he => (apply ev_nilCheck; rfl))); refine Jf 35 ?_; refine Jf 36 ?_; (apply h_one 32; (case hr => kernel_rfl)); (apply n_call (L2 := (bw, .cells [vd, jv, .pointer (some ⟨b, 0, none⟩), kv].toArray 32 (0, 0)) :: (((b, .cells [.slice (some ⟨g, 0, none⟩) N' cap, .slice Ap D'.pend.length cp, .bool false, .int .i64 D'.left].toArray 67 (0, 0)) :: (g, .cells (cellsOf D'.dur ++ tl).toArray 5 (0, 0)) :: ob) ++ LX)); (case hi => rfl); (case i1 => infer_instance); (case hg => rfl); (case hd => rfl); (case ha => rfl); (case hc => exact content_con hD7 _ hoff (by omega) (by omega)); (case hL => (exact pmc (fun p => by (repeat (first | rw [List.countP_append] | rw [List.countP_cons] | rw [List.countP_nil])); (all_goals (first | rfl | omega))))); (case hsub => (intros; (exact sbT))); rintro S8 L8 v8 - ⟨rfl, hD8, rfl⟩); (apply h_one 37; (case hr => kernel_rfl)); (apply n_call (L2 := (bw, .cells [vd, jv, .pointer (some ⟨b, 0, none⟩), kv].toArray 32 (0, 0)) :: (L8 ++ LX)); (case hi => rfl); (case i1 => infer_instance); (case hg => rfl); (case hd => rfl); (case ha => rfl); (case hc => exact hV _); (case hL => (exact pmc (fun p => by (repeat (first | rw [List.countP_append] | rw [List.countP_cons] | rw [List.countP_nil])); (all_goals (first | rfl | omega))))); (case hsub => (intros; (exact sbT))); rintro S9 L9 v9 - ⟨rfl, g9, cap9, tl9, L10, rfl, hR10, rfl, -, -, -⟩); (apply h_one 38; (case hr => kernel_rfl)); (apply n_ev; (case hi => rfl); (case hg => rfl); (case hd => rfl); (case he => (apply ev_str_row (B := D'.vis) (tl := tl9); (case hx => rfl); (case hm => (repeat (first | exact List.Mem.head _ | apply List.Mem.tail | apply List.mem_append_right))); (case hk => omega)))); (apply h_first 39; (case hi => rfl); (case hr => kernel_rfl); (case hfr => kernel_rfl); (case hsel => kernel_rfl); (case hg => rfl); (case hd => rfl); (case he => (apply ev_neq_bv (r := false); (case hx => rfl); (case hy => rfl); (case h => (rw [List.drop_zero, List.take_of_length_le (by omega)]; simp))))); refine Jf 40 ?_; refine Jf 41 ?_; (apply h_end; (case hr => kernel_rfl)); (refine W.perm (L' := (g9, .cells (cellsOf D'.vis ++ tl9).toArray 5 (0, 0)) :: (bw, .cells [vd, jv, .pointer (some ⟨b, 0, none⟩), kv].toArray 32 (0, 0)) :: (L8 ++ (L10 ++ LX))) ?_ (pmc (fun p => by (repeat (first | rw [List.countP_append] | rw [List.countP_cons] | rw [List.countP_nil])); (all_goals (first | rfl | omega)))); refine W.weaken (L' := (bw, .cells [vd, jv, .pointer (some ⟨b, 0, none⟩), kv].toArray 32 (0, 0)) :: (L8 ++ (L10 ++ LX))) ?_ (X.Sub.refl _) sbL; refine q_then ?_; exact q_cut ⟨Le.refl _, ⟨L8, L10, hD8, hR10, rfl⟩, rfl⟩ sbF (List.Sublist.refl _)))); (case k2 => ((refine X.Jn ?_; try intro _); refine Jf 15 ?_; (apply h_one 7; (case hr => kernel_rfl)); (apply n_call (L2 := (bw, .cells [vd, jv, .pointer (some ⟨b, 0, none⟩), kv].toArray 32 (0, 0)) :: (((b, .cells [.slice (some ⟨g, 0, none⟩) N' cap, .slice Ap D'.pend.length cp, .bool false, .int .i64 D'.left].toArray 67 (0, 0)) :: (g, .cells (cellsOf D'.dur ++ tl).toArray 5 (0, 0)) :: ob) ++ LX)); (case hi => rfl); (case i1 => infer_instance); (case hg => rfl); (case hd => rfl); (case ha => rfl); (case hc => exact Pending_con hD _); (case hL => (exact pmc (fun p => by (repeat (first | rw [List.countP_append] | rw [List.countP_cons] | rw [List.countP_nil])); (all_goals (first | rfl | omega))))); (case hsub => (intros; (exact sbT))); rintro S7 L7 v7 - ⟨rfl, hD7, rfl⟩); refine Jf 16 ?_; refine Jf 17 ?_; refine Jf 18 ?_; refine Jf 19 ?_; (apply h_first 20; (case hi => rfl); (case hr => kernel_rfl); (case hfr => kernel_rfl); (case hsel => kernel_rfl); (case hg => rfl); (case hd => rfl); (case he => (apply ev_nilCheck; rfl))); refine Jf 21 ?_; refine Jf 22 ?_; (apply h_first 23; (case hi => rfl); (case hr => kernel_rfl); (case hfr => kernel_rfl); (case hsel => kernel_rfl); (case hg => rfl); (case hd => rfl); (case he => (apply ev_nilCheck; rfl))); refine Jf 24 ?_; (apply h_one 25; (case hr => kernel_rfl)); (refine X.Jn ?_; try intro _); refine Jf 26 ?_; refine Jf 27 ?_; refine Jf 28 ?_; (apply h_first 29; (case hi => rfl); (case hr => kernel_rfl); (case hfr => kernel_rfl); (case hsel => kernel_rfl); (case hg => rfl); (case hd => rfl); (case he => (apply ev_nilCheck; rfl))); refine Jf 30 ?_; refine Jf 31 ?_; refine Jf 33 ?_; (apply h_first 34; (case hi => rfl); (case hr => kernel_rfl); (case hfr => kernel_rfl); (case hsel => kernel_rfl); (case hg => rfl); (case hd => rfl); (case he => (apply ev_nilCheck; rfl))); refine Jf 35 ?_; refine Jf 36 ?_; (apply h_one 32; (case hr => kernel_rfl)); (apply n_call (L2 := (bw, .cells [vd, jv, .pointer (some ⟨b, 0, none⟩), kv].toArray 32 (0, 0)) :: (((b, .cells [.slice (some ⟨g, 0, none⟩) N' cap, .slice Ap D'.pend.length cp, .bool false, .int .i64 D'.left].toArray 67 (0, 0)) :: (g, .cells (cellsOf D'.dur ++ tl).toArray 5 (0, 0)) :: ob) ++ LX)); (case hi => rfl); (case i1 => infer_instance); (case hg => rfl); (case hd => rfl); (case ha => rfl); (case hc => exact content_con hD7 _ hoff (by omega) (by omega)); (case hL => (exact pmc (fun p => by (repeat (first | rw [List.countP_append] | rw [List.countP_cons] | rw [List.countP_nil])); (all_goals (first | rfl | omega))))); (case hsub => (intros; (exact sbT))); rintro S8 L8 v8 - ⟨rfl, hD8, rfl⟩); (apply h_one 37; (case hr => kernel_rfl)); (apply n_call (L2 := (bw, .cells [vd, jv, .pointer (some ⟨b, 0, none⟩), kv].toArray 32 (0, 0)) :: (L8 ++ LX)); (case hi => rfl); (case i1 => infer_instance); (case hg => rfl); (case hd => rfl); (case ha => rfl); (case hc => exact hV _); (case hL => (exact pmc (fun p => by (repeat (first | rw [List.countP_append] | rw [List.countP_cons] | rw [List.countP_nil])); (all_goals (first | rfl | omega))))); (case hsub => (intros; (exact sbT))); rintro S9 L9 v9 - ⟨rfl, g9, cap9, tl9, L10, rfl, hR10, rfl, -, -, -⟩); (apply h_one 38; (case hr => kernel_rfl)); (apply n_ev; (case hi => rfl); (case hg => rfl); (case hd => rfl); (case he => (apply ev_str_row (B := D'.vis) (tl := tl9); (case hx => rfl); (case hm => (repeat (first | exact List.Mem.head _ | apply List.Mem.tail | apply List.mem_append_right))); (case hk => omega)))); (apply h_first 39; (case hi => rfl); (case hr => kernel_rfl); (case hfr => kernel_rfl); (case hsel => kernel_rfl); (case hg => rfl); (case hd => rfl); (case he => (apply ev_neq_bv (r := false); (case hx => rfl); (case hy => rfl); (case h => (rw [List.drop_zero, List.take_of_length_le (by omega)]; simp))))); refine Jf 40 ?_; refine Jf 41 ?_; (apply h_end; (case hr => kernel_rfl)); (refine W.perm (L' := (g9, .cells (cellsOf D'.vis ++ tl9).toArray 5 (0, 0)) :: (bw, .cells [vd, jv, .pointer (some ⟨b, 0, none⟩), kv].toArray 32 (0, 0)) :: (L8 ++ (L10 ++ LX))) ?_ (pmc (fun p => by (repeat (first | rw [List.countP_append] | rw [List.countP_cons] | rw [List.countP_nil])); (all_goals (first | rfl | omega)))); refine W.weaken (L' := (bw, .cells [vd, jv, .pointer (some ⟨b, 0, none⟩), kv].toArray 32 (0, 0)) :: (L8 ++ (L10 ++ LX))) ?_ (X.Sub.refl _) sbL; refine q_then ?_; exact q_cut ⟨Le.refl _, ⟨L8, L10, hD8, hR10, rfl⟩, rfl⟩ sbF (List.Sublist.refl _)))))
    · ((apply c_held ([(bw, .cells [vd, jv, .pointer (some ⟨b, 0, none⟩), kv].toArray 32 (0, 0))]); (case hL => (exact sbT))); refine Jf 0 ?_; refine Jf 1 ?_; refine Jf 2 ?_; refine Jf 3 ?_; (apply h_first 4; (case hi => rfl); (case hr => kernel_rfl); (case hfr => kernel_rfl); (case hsel => kernel_rfl); (case hg => rfl); (case hd => rfl); (case he => (apply ev_nilCheck; rfl))); refine Jf 5 ?_; refine Jf 6 ?_; refine Jf 8 ?_; (apply h_first 9; (case hi => rfl); (case hr => kernel_rfl); (case hfr => kernel_rfl); (case hsel => kernel_rfl); (case hg => rfl); (case hd => rfl); (case he => (apply ev_nilCheck; rfl))); refine Jf 10 ?_; refine Jf 11 ?_; (apply h_first 12; (case hi => rfl); (case hr => kernel_rfl); (case hfr => kernel_rfl); (case hsel => kernel_rfl); (case hg => rfl); (case hd => rfl); (case he => (apply ev_nilCheck; rfl))); refine Jf 13 ?_; (apply h_two 7 14; (case hr => kernel_rfl)); (case k1 => ((apply n_call (L2 := (bw, .cells [vd, jv, .pointer (some ⟨b, 0, none⟩), kv].toArray 32 (0, 0)) :: (((b, .cells [.slice (some ⟨g, 0, none⟩) N' cap, .slice Ap D'.pend.length cp, .bool true, .int .i64 D'.left].toArray 67 (0, 0)) :: (g, .cells (cellsOf D'.dur ++ tl).toArray 5 (0, 0)) :: ob) ++ LX)); (case hi => rfl); (case i1 => infer_instance); (case hg => rfl); (case hd => rfl); (case ha => rfl); (case hc => exact Pending_con hD _); (case hL => (exact pmc (fun p => by (repeat (first | rw [List.countP_append] | rw [List.countP_cons] | rw [List.countP_nil])); (all_goals (first | rfl | omega))))); (case hsub => (intros; (exact sbT))); rintro S7 L8 v7 - ⟨rfl, hD8, rfl⟩); (apply h_one 14; (case hr => kernel_rfl)); (refine X.Jn ?_; try intro _); refine Jf 15 ?_; refine Jf 16 ?_; refine Jf 17 ?_; refine Jf 18 ?_; refine Jf 19 ?_; (apply h_first 20; (case hi => rfl); (case hr => kernel_rfl); (case hfr => kernel_rfl); (case hsel => kernel_rfl); (case hg => rfl); (case hd => rfl); (case he => (apply ev_nilCheck; rfl))); refine Jf 21 ?_; refine Jf 22 ?_; (apply h_first 23; (case hi => rfl); (case hr => kernel_rfl); (case hfr => kernel_rfl); (case hsel => kernel_rfl); (case hg => rfl); (case hd => rfl); (case he => (apply ev_nilCheck; rfl))); refine Jf 24 ?_; (apply h_one 25; (case hr => kernel_rfl)); (refine X.Jn ?_; try intro _); refine Jf 26 ?_; refine Jf 27 ?_; refine Jf 28 ?_; refine Jf 29 ?_; refine Jf 30 ?_; refine Jf 31 ?_; refine Jf 33 ?_; refine Jf 34 ?_; refine Jf 35 ?_; refine Jf 36 ?_; (apply h_one 32; (case hr => kernel_rfl)); (refine X.Jn ?_; try intro _); (apply h_one 37; (case hr => kernel_rfl)); (refine X.Jn ?_; try intro _); (apply h_one 38; (case hr => kernel_rfl)); (refine X.Jn ?_; try intro _); refine Jf 39 ?_; refine Jf 40 ?_; refine Jf 41 ?_; (apply h_end; (case hr => kernel_rfl)); (refine W.perm (L' := (bw, .cells [vd, jv, .pointer (some ⟨b, 0, none⟩), kv].toArray 32 (0, 0)) :: (L8 ++ (((b, .cells [.slice (some ⟨g, 0, none⟩) N' cap, .slice Ap D'.pend.length cp, .bool true, .int .i64 D'.left].toArray 67 (0, 0)) :: (g, .cells (cellsOf D'.dur ++ tl).toArray 5 (0, 0)) :: ob) ++ LX))) ?_ (pmc (fun p => by (repeat (first | rw [List.countP_append] | rw [List.countP_cons] | rw [List.countP_nil])); (all_goals (first | rfl | omega)))); refine q_then ?_; exact q_cut ⟨Le.refl _, ⟨L8, _, hD8, hk1, rfl⟩, rfl⟩ sbF (List.Sublist.refl _)))); (case k2 => ((refine X.Jn ?_; try intro _); refine Jf 15 ?_; (apply h_one 7; (case hr => kernel_rfl)); (apply n_call (L2 := (bw, .cells [vd, jv, .pointer (some ⟨b, 0, none⟩), kv].toArray 32 (0, 0)) :: (((b, .cells [.slice (some ⟨g, 0, none⟩) N' cap, .slice Ap D'.pend.length cp, .bool true, .int .i64 D'.left].toArray 67 (0, 0)) :: (g, .cells (cellsOf D'.dur ++ tl).toArray 5 (0, 0)) :: ob) ++ LX)); (case hi => rfl); (case i1 => infer_instance); (case hg => rfl); (case hd => rfl); (case ha => rfl); (case hc => exact Pending_con hD _); (case hL => (exact pmc (fun p => by (repeat (first | rw [List.countP_append] | rw [List.countP_cons] | rw [List.countP_nil])); (all_goals (first | rfl | omega))))); (case hsub => (intros; (exact sbT))); rintro S7 L8 v7 - ⟨rfl, hD8, rfl⟩); refine Jf 16 ?_; refine Jf 17 ?_; refine Jf 18 ?_; refine Jf 19 ?_; (apply h_first 20; (case hi => rfl); (case hr => kernel_rfl); (case hfr => kernel_rfl); (case hsel => kernel_rfl); (case hg => rfl); (case hd => rfl); (case he => (apply ev_nilCheck; rfl))); refine Jf 21 ?_; refine Jf 22 ?_; (apply h_first 23; (case hi => rfl); (case hr => kernel_rfl); (case hfr => kernel_rfl); (case hsel => kernel_rfl); (case hg => rfl); (case hd => rfl); (case he => (apply ev_nilCheck; rfl))); refine Jf 24 ?_; (apply h_one 25; (case hr => kernel_rfl)); (refine X.Jn ?_; try intro _); refine Jf 26 ?_; refine Jf 27 ?_; refine Jf 28 ?_; refine Jf 29 ?_; refine Jf 30 ?_; refine Jf 31 ?_; refine Jf 33 ?_; refine Jf 34 ?_; refine Jf 35 ?_; refine Jf 36 ?_; (apply h_one 32; (case hr => kernel_rfl)); (refine X.Jn ?_; try intro _); (apply h_one 37; (case hr => kernel_rfl)); (refine X.Jn ?_; try intro _); (apply h_one 38; (case hr => kernel_rfl)); (refine X.Jn ?_; try intro _); refine Jf 39 ?_; refine Jf 40 ?_; refine Jf 41 ?_; (apply h_end; (case hr => kernel_rfl)); (refine W.perm (L' := (bw, .cells [vd, jv, .pointer (some ⟨b, 0, none⟩), kv].toArray 32 (0, 0)) :: (L8 ++ (((b, .cells [.slice (some ⟨g, 0, none⟩) N' cap, .slice Ap D'.pend.length cp, .bool true, .int .i64 D'.left].toArray 67 (0, 0)) :: (g, .cells (cellsOf D'.dur ++ tl).toArray 5 (0, 0)) :: ob) ++ LX))) ?_ (pmc (fun p => by (repeat (first | rw [List.countP_append] | rw [List.countP_cons] | rw [List.countP_nil])); (all_goals (first | rfl | omega)))); refine q_then ?_; exact q_cut ⟨Le.refl _, ⟨L8, _, hD8, hk1, rfl⟩, rfl⟩ sbF (List.Sublist.refl _)))))
  clear hD hR' hk1 hV hL5 hp ho hw hc3
  rintro S9 L F ⟨hle9, ⟨L8, L10, hD8, hR10, rfl⟩, rfl⟩
  (repeat (first | refine Jz ?_ | intro _))
  have hN2 : N' = D'.dur.length := hdl.symm
  have hrelN : Rel N' (2 * (k + 1) + 1) D' ⟨D'.dur, D'.pend, D'.off, D'.left⟩ := by rw [show 2 * (k + 1) + 1 = 2 * k + 1 + 2 by omega]; exact hrel'
  rcases hj with ⟨rfl, rfl, rfl, rfl⟩ | ⟨a, br, LJ, LK, rfl, hJ, hKs, rfl⟩
  · ((apply c_held ([(bw, .cells [vd, .pointer none, .pointer (some ⟨b, 0, none⟩), .pointer none].toArray 32 (0, 0))]); (case hL => (exact sbT))); refine Jf 0 ?_; (apply h_first 1; (case hi => rfl); (case hr => kernel_rfl); (case hfr => kernel_rfl); (case hsel => kernel_rfl); (case hg => rfl); (case hd => rfl); (case he => (apply ev_nilCheck; rfl))); refine Jf 2 ?_; refine Jf 3 ?_; (apply h_first 4; (case hi => rfl); (case hr => kernel_rfl); (case hfr => kernel_rfl); (case hsel => kernel_rfl); (case hg => rfl); (case hd => rfl); (case he => (apply ev_neq_p; (case hx => rfl); (case hy => rfl)))); refine Jf 5 ?_; refine Jf 6 ?_; refine Jf 7 ?_; refine Jf 8 ?_; refine Jf 9 ?_; refine Jf 11 ?_; refine Jf 12 ?_; refine Jf 13 ?_; refine Jf 14 ?_; refine Jf 15 ?_; refine Jf 16 ?_; (apply h_two 10 17; (case hr => kernel_rfl)); (case k1 => ((refine X.Jn ?_; try intro _); (apply h_one 17; (case hr => kernel_rfl)); (refine X.Jn ?_; try intro _); (apply h_one 18; (case hr => kernel_rfl)); (refine X.Jn ?_; try intro _); refine Jf 19 ?_; refine Jf 20 ?_; refine Jf 21 ?_; refine Jf 22 ?_; refine Jf 23 ?_; refine Jf 24 ?_; refine Jf 26 ?_; refine Jf 27 ?_; refine Jf 28 ?_; refine Jf 29 ?_; (apply h_one 25; (case hr => kernel_rfl)); (refine X.Jn ?_; try intro _); (apply h_one 30; (case hr => kernel_rfl)); (refine X.Jn ?_; try intro _); refine Jf 31 ?_; refine Jf 32 ?_; refine Jf 33 ?_; (apply h_end; (case hr => kernel_rfl)); (((repeat (first | refine Jz ?_ | intro _))); exact q_back (L' := (bw, .cells [vd, .pointer none, .pointer (some ⟨b, 0, none⟩), .pointer none].toArray 32 (0, 0)) :: (L8 ++ L10)) (m' := 25 - (k + 1)) ⟨(hle4.trans hle5).trans hle9, k + 1, D', _, none, rfl, by omega, hrelN, hjs', ⟨vd, _, L8, L10, hD8, hR10, rfl⟩, rfl⟩ (by omega) sbF (by rw [List.append_nil]; exact List.Sublist.refl _)))); (case k2 => ((refine X.Jn ?_; try intro _); (apply h_one 10; (case hr => kernel_rfl)); (refine X.Jn ?_; try intro _); (apply h_one 18; (case hr => kernel_rfl)); (refine X.Jn ?_; try intro _); refine Jf 19 ?_; refine Jf 20 ?_; refine Jf 21 ?_; refine Jf 22 ?_; refine Jf 23 ?_; refine Jf 24 ?_; refine Jf 26 ?_; refine Jf 27 ?_; refine Jf 28 ?_; refine Jf 29 ?_; (apply h_one 25; (case hr => kernel_rfl)); (refine X.Jn ?_; try intro _); (apply h_one 30; (case hr => kernel_rfl)); (refine X.Jn ?_; try intro _); refine Jf 31 ?_; refine Jf 32 ?_; refine Jf 33 ?_; (apply h_end; (case hr => kernel_rfl)); (((repeat (first | refine Jz ?_ | intro _))); exact q_back (L' := (bw, .cells [vd, .pointer none, .pointer (some ⟨b, 0, none⟩), .pointer none].toArray 32 (0, 0)) :: (L8 ++ L10)) (m' := 25 - (k + 1)) ⟨(hle4.trans hle5).trans hle9, k + 1, D', _, none, rfl, by omega, hrelN, hjs', ⟨vd, _, L8, L10, hD8, hR10, rfl⟩, rfl⟩ (by omega) sbF (by rw [List.append_nil]; exact List.Sublist.refl _)))))
  · obtain ⟨ha, he⟩ := hjs' a br rfl
    have hal := recB_len (K := shaK) ha
    have hKs' := hKs.le hle9
    obtain ⟨bk, Ak, ck, rfl, rfl, hck, hAk⟩ := hKs
    obtain ⟨bj, rfl⟩ := hJ.form
    refine c_meet (fun S' L F => Le S9 S' ∧ (∃ LD LR, OwD vd D' LD ∧ OwR (.pointer (some ⟨b, 0, none⟩)) ⟨D'.dur, D'.pend, D'.off, D'.left⟩ LR ∧ L = (bw, .cells [vd, .pointer (some ⟨bj, 0, none⟩), .pointer (some ⟨b, 0, none⟩), .pointer (some ⟨bk, 0, none⟩)].toArray 32 (0, 0)) :: ((LJ ++ LD) ++ ([(bk, .cells [.pointer (some ⟨b, 0, none⟩), .slice Ak a.length ck, .int .i64 ((recB shaK a).length : Nat), .bool br].toArray 43 (0, 0))] ++ LR))) ∧
      F = [(109, .bool false), (0, .int .i64 n), (1, .slice A xs.length c), (5, .bool true), (6, .pointer (some ⟨bw, 0, none⟩)), (8, .int .i64 k)]) ?_ ?_
    · refine W.perm (L' := (bw, .cells [vd, .pointer (some ⟨bj, 0, none⟩), .pointer (some ⟨b, 0, none⟩), .pointer (some ⟨bk, 0, none⟩)].toArray 32 (0, 0)) :: (LJ ++ (L8 ++ (L10 ++ [(bk, .cells [.pointer (some ⟨b, 0, none⟩), .slice Ak a.length ck, .int .i64 ((recB shaK a).length : Nat), .bool br].toArray 43 (0, 0))])))) ?_ (pmc (fun p => by (repeat (first | rw [List.countP_append] | rw [List.countP_cons] | rw [List.countP_nil])); (all_goals (first | rfl | omega))))
      ((apply c_held ([(bw, .cells [vd, .pointer (some ⟨bj, 0, none⟩), .pointer (some ⟨b, 0, none⟩), .pointer (some ⟨bk, 0, none⟩)].toArray 32 (0, 0))]); (case hL => (exact sbT))); refine Jf 0 ?_; (apply h_first 1; (case hi => rfl); (case hr => kernel_rfl); (case hfr => kernel_rfl); (case hsel => kernel_rfl); (case hg => rfl); (case hd => rfl); (case he => (apply ev_nilCheck; rfl))); refine Jf 2 ?_; refine Jf 3 ?_; (apply h_first 4; (case hi => rfl); (case hr => kernel_rfl); (case hfr => kernel_rfl); (case hsel => kernel_rfl); (case hg => rfl); (case hd => rfl); (case he => (apply ev_neq_p; (case hx => rfl); (case hy => rfl)))); refine Jf 5 ?_; refine Jf 6 ?_; (apply h_first 7; (case hi => rfl); (case hr => kernel_rfl); (case hfr => kernel_rfl); (case hsel => kernel_rfl); (case hg => rfl); (case hd => rfl); (case he => (apply ev_nilCheck; rfl))); refine Jf 8 ?_; refine Jf 9 ?_; refine Jf 11 ?_; (apply h_first 12; (case hi => rfl); (case hr => kernel_rfl); (case hfr => kernel_rfl); (case hsel => kernel_rfl); (case hg => rfl); (case hd => rfl); (case he => (apply ev_nilCheck; rfl))); refine Jf 13 ?_; refine Jf 14 ?_; (apply h_first 15; (case hi => rfl); (case hr => kernel_rfl); (case hfr => kernel_rfl); (case hsel => kernel_rfl); (case hg => rfl); (case hd => rfl); (case he => (apply ev_nilCheck; rfl))); refine Jf 16 ?_; (apply h_two 10 17; (case hr => kernel_rfl)); (case k1 => ((apply n_call (L2 := (bw, .cells [vd, .pointer (some ⟨bj, 0, none⟩), .pointer (some ⟨b, 0, none⟩), .pointer (some ⟨bk, 0, none⟩)].toArray 32 (0, 0)) :: (L8 ++ (L10 ++ [(bk, .cells [.pointer (some ⟨b, 0, none⟩), .slice Ak a.length ck, .int .i64 ((recB shaK a).length : Nat), .bool br].toArray 43 (0, 0))]))); (case hi => rfl); (case i1 => infer_instance); (case hg => rfl); (case hd => rfl); (case ha => rfl); (case hc => exact Records_con hJ _ (show a.length ≤ _ by omega)); (case hL => (exact pmc (fun p => by (repeat (first | rw [List.countP_append] | rw [List.countP_cons] | rw [List.countP_nil])); (all_goals (first | rfl | omega))))); (case hsub => (intros; (exact sbT))); rintro S11 L11 v11 - ⟨rfl, ob11, rfl, ho11⟩; refine Wh.freezeOws (L1 := (bw, .cells [vd, .pointer (some ⟨bj, 0, none⟩), .pointer (some ⟨b, 0, none⟩), .pointer (some ⟨bk, 0, none⟩)].toArray 32 (0, 0)) :: (LJ ++ (L8 ++ (L10 ++ [(bk, .cells [.pointer (some ⟨b, 0, none⟩), .slice Ak a.length ck, .int .i64 ((recB shaK a).length : Nat), .bool br].toArray 43 (0, 0))])))) ho11 (pmc (fun p => by (repeat (first | rw [List.countP_append] | rw [List.countP_cons] | rw [List.countP_nil])); (all_goals (first | rfl | omega)))) sbL fun S12 hle12 hs12 => ?_; obtain ⟨A12, c12, rfl, hc12, hA12⟩ := hs12); (apply h_one 17; (case hr => kernel_rfl)); (refine X.Jn ?_; try intro _); (apply h_one 18; (case hr => kernel_rfl)); (apply n_call; (case hi => rfl); (case i1 => infer_instance); (case hg => rfl); (case hd => rfl); (case ha => rfl); (case hc => exact same_con_t (l := a) (r := a) hA12 (hAk.le (hle9.trans hle12)) (by omega) rfl); (case hL => (repeat (first | exact pm_nil _ | exact pm_refl _ _ | exact pm_self _ | apply pm_cons | apply pm_app))); (case hsub => (intros; (exact sbT))); rintro _ _ _ - ⟨rfl, rfl, rfl⟩); refine Jf 19 ?_; refine Jf 20 ?_; refine Jf 21 ?_; (apply h_first 22; (case hi => rfl); (case hr => kernel_rfl); (case hfr => kernel_rfl); (case hsel => kernel_rfl); (case hg => rfl); (case hd => rfl); (case he => (apply ev_nilCheck; rfl))); refine Jf 23 ?_; refine Jf 24 ?_; refine Jf 26 ?_; (apply h_first 27; (case hi => rfl); (case hr => kernel_rfl); (case hfr => kernel_rfl); (case hsel => kernel_rfl); (case hg => rfl); (case hd => rfl); (case he => (apply ev_nilCheck; rfl))); refine Jf 28 ?_; refine Jf 29 ?_; (apply h_one 25; (case hr => kernel_rfl)); (apply n_call (L2 := (bw, .cells [vd, .pointer (some ⟨bj, 0, none⟩), .pointer (some ⟨b, 0, none⟩), .pointer (some ⟨bk, 0, none⟩)].toArray 32 (0, 0)) :: (L10 ++ [(bk, .cells [.pointer (some ⟨b, 0, none⟩), .slice Ak a.length ck, .int .i64 ((recB shaK a).length : Nat), .bool br].toArray 43 (0, 0))])); (case hi => rfl); (case i1 => infer_instance); (case hg => rfl); (case hd => rfl); (case ha => rfl); (case hc => exact RoomW_con (s := (recB shaK a).length) hJ hD8 _ rfl hdl he (by omega)); (case hL => (exact pmc (fun p => by (repeat (first | rw [List.countP_append] | rw [List.countP_cons] | rw [List.countP_nil])); (all_goals (first | rfl | omega))))); (case hsub => (intros; (exact sbT))); rintro S13 L13 v13 - ⟨rfl, LD13, rfl, hD13, rfl⟩); (apply h_one 30; (case hr => kernel_rfl)); (apply n_call (L2 := (bw, .cells [vd, .pointer (some ⟨bj, 0, none⟩), .pointer (some ⟨b, 0, none⟩), .pointer (some ⟨bk, 0, none⟩)].toArray 32 (0, 0)) :: (LJ ++ LD13)); (case hi => rfl); (case i1 => infer_instance); (case hg => rfl); (case hd => rfl); (case ha => rfl); (case hc => exact rRoomW_con (N := N') (hKs'.le hle12) hR10 (by omega) hdl); (case hL => (exact pmc (fun p => by (repeat (first | rw [List.countP_append] | rw [List.countP_cons] | rw [List.countP_nil])); (all_goals (first | rfl | omega))))); (case hsub => (intros; (exact sbT))); rintro S14 L14 v14 - ⟨rfl, LR14, rfl, hR14, rfl⟩); refine Jf 31 ?_; refine Jf 32 ?_; refine Jf 33 ?_; (apply h_end; (case hr => kernel_rfl)); (refine W.perm (L' := (bw, .cells [vd, .pointer (some ⟨bj, 0, none⟩), .pointer (some ⟨b, 0, none⟩), .pointer (some ⟨bk, 0, none⟩)].toArray 32 (0, 0)) :: ((LJ ++ LD13) ++ ([(bk, .cells [.pointer (some ⟨b, 0, none⟩), .slice Ak a.length ck, .int .i64 ((recB shaK a).length : Nat), .bool br].toArray 43 (0, 0))] ++ LR14))) ?_ (pmc (fun p => by (repeat (first | rw [List.countP_append] | rw [List.countP_cons] | rw [List.countP_nil])); (all_goals (first | rfl | omega)))); refine q_then ?_; exact q_cut ⟨hle12, ⟨LD13, LR14, hD13, hR14, rfl⟩, rfl⟩ sbF (List.Sublist.refl _)))); (case k2 => ((refine X.Jn ?_; try intro _); (apply h_one 10; (case hr => kernel_rfl)); (apply n_call (L2 := (bw, .cells [vd, .pointer (some ⟨bj, 0, none⟩), .pointer (some ⟨b, 0, none⟩), .pointer (some ⟨bk, 0, none⟩)].toArray 32 (0, 0)) :: (L8 ++ (L10 ++ [(bk, .cells [.pointer (some ⟨b, 0, none⟩), .slice Ak a.length ck, .int .i64 ((recB shaK a).length : Nat), .bool br].toArray 43 (0, 0))]))); (case hi => rfl); (case i1 => infer_instance); (case hg => rfl); (case hd => rfl); (case ha => rfl); (case hc => exact Records_con hJ _ (show a.length ≤ _ by omega)); (case hL => (exact pmc (fun p => by (repeat (first | rw [List.countP_append] | rw [List.countP_cons] | rw [List.countP_nil])); (all_goals (first | rfl | omega))))); (case hsub => (intros; (exact sbT))); rintro S11 L11 v11 - ⟨rfl, ob11, rfl, ho11⟩; refine Wh.freezeOws (L1 := (bw, .cells [vd, .pointer (some ⟨bj, 0, none⟩), .pointer (some ⟨b, 0, none⟩), .pointer (some ⟨bk, 0, none⟩)].toArray 32 (0, 0)) :: (LJ ++ (L8 ++ (L10 ++ [(bk, .cells [.pointer (some ⟨b, 0, none⟩), .slice Ak a.length ck, .int .i64 ((recB shaK a).length : Nat), .bool br].toArray 43 (0, 0))])))) ho11 (pmc (fun p => by (repeat (first | rw [List.countP_append] | rw [List.countP_cons] | rw [List.countP_nil])); (all_goals (first | rfl | omega)))) sbL fun S12 hle12 hs12 => ?_; obtain ⟨A12, c12, rfl, hc12, hA12⟩ := hs12); (apply h_one 18; (case hr => kernel_rfl)); (apply n_call; (case hi => rfl); (case i1 => infer_instance); (case hg => rfl); (case hd => rfl); (case ha => rfl); (case hc => exact same_con_t (l := a) (r := a) hA12 (hAk.le (hle9.trans hle12)) (by omega) rfl); (case hL => (repeat (first | exact pm_nil _ | exact pm_refl _ _ | exact pm_self _ | apply pm_cons | apply pm_app))); (case hsub => (intros; (exact sbT))); rintro _ _ _ - ⟨rfl, rfl, rfl⟩); refine Jf 19 ?_; refine Jf 20 ?_; refine Jf 21 ?_; (apply h_first 22; (case hi => rfl); (case hr => kernel_rfl); (case hfr => kernel_rfl); (case hsel => kernel_rfl); (case hg => rfl); (case hd => rfl); (case he => (apply ev_nilCheck; rfl))); refine Jf 23 ?_; refine Jf 24 ?_; refine Jf 26 ?_; (apply h_first 27; (case hi => rfl); (case hr => kernel_rfl); (case hfr => kernel_rfl); (case hsel => kernel_rfl); (case hg => rfl); (case hd => rfl); (case he => (apply ev_nilCheck; rfl))); refine Jf 28 ?_; refine Jf 29 ?_; (apply h_one 25; (case hr => kernel_rfl)); (apply n_call (L2 := (bw, .cells [vd, .pointer (some ⟨bj, 0, none⟩), .pointer (some ⟨b, 0, none⟩), .pointer (some ⟨bk, 0, none⟩)].toArray 32 (0, 0)) :: (L10 ++ [(bk, .cells [.pointer (some ⟨b, 0, none⟩), .slice Ak a.length ck, .int .i64 ((recB shaK a).length : Nat), .bool br].toArray 43 (0, 0))])); (case hi => rfl); (case i1 => infer_instance); (case hg => rfl); (case hd => rfl); (case ha => rfl); (case hc => exact RoomW_con (s := (recB shaK a).length) hJ hD8 _ rfl hdl he (by omega)); (case hL => (exact pmc (fun p => by (repeat (first | rw [List.countP_append] | rw [List.countP_cons] | rw [List.countP_nil])); (all_goals (first | rfl | omega))))); (case hsub => (intros; (exact sbT))); rintro S13 L13 v13 - ⟨rfl, LD13, rfl, hD13, rfl⟩); (apply h_one 30; (case hr => kernel_rfl)); (apply n_call (L2 := (bw, .cells [vd, .pointer (some ⟨bj, 0, none⟩), .pointer (some ⟨b, 0, none⟩), .pointer (some ⟨bk, 0, none⟩)].toArray 32 (0, 0)) :: (LJ ++ LD13)); (case hi => rfl); (case i1 => infer_instance); (case hg => rfl); (case hd => rfl); (case ha => rfl); (case hc => exact rRoomW_con (N := N') (hKs'.le hle12) hR10 (by omega) hdl); (case hL => (exact pmc (fun p => by (repeat (first | rw [List.countP_append] | rw [List.countP_cons] | rw [List.countP_nil])); (all_goals (first | rfl | omega))))); (case hsub => (intros; (exact sbT))); rintro S14 L14 v14 - ⟨rfl, LR14, rfl, hR14, rfl⟩); refine Jf 31 ?_; refine Jf 32 ?_; refine Jf 33 ?_; (apply h_end; (case hr => kernel_rfl)); (refine W.perm (L' := (bw, .cells [vd, .pointer (some ⟨bj, 0, none⟩), .pointer (some ⟨b, 0, none⟩), .pointer (some ⟨bk, 0, none⟩)].toArray 32 (0, 0)) :: ((LJ ++ LD13) ++ ([(bk, .cells [.pointer (some ⟨b, 0, none⟩), .slice Ak a.length ck, .int .i64 ((recB shaK a).length : Nat), .bool br].toArray 43 (0, 0))] ++ LR14))) ?_ (pmc (fun p => by (repeat (first | rw [List.countP_append] | rw [List.countP_cons] | rw [List.countP_nil])); (all_goals (first | rfl | omega)))); refine q_then ?_; exact q_cut ⟨hle12, ⟨LD13, LR14, hD13, hR14, rfl⟩, rfl⟩ sbF (List.Sublist.refl _)))))
    · rintro S15 L F ⟨hle15, ⟨LD, LR, hD15, hR15, rfl⟩, rfl⟩
      (repeat (first | refine Jz ?_ | intro _))
      exact q_back (L' := (bw, .cells [vd, .pointer (some ⟨bj, 0, none⟩), .pointer (some ⟨b, 0, none⟩), .pointer (some ⟨bk, 0, none⟩)].toArray 32 (0, 0)) :: ((LJ ++ LD) ++ ([(bk, .cells [.pointer (some ⟨b, 0, none⟩), .slice Ak a.length ck, .int .i64 ((recB shaK a).length : Nat), .bool br].toArray 43 (0, 0))] ++ LR))) (m' := 25 - (k + 1)) ⟨((hle4.trans hle5).trans hle9).trans hle15, k + 1, D', _, some (a, br), rfl, by omega, hrelN, hjs', ⟨vd, _, LD, LR, hD15, hR15, _, _, LJ, _, hJ, hKs'.le hle15, rfl⟩, rfl⟩ (by omega) sbF (List.Sublist.refl _)
end Go.Proofs.YtnlfohlngapkfaaGreatDoor
namespace Go.Proofs.YtnlfohlngapkfaaGreatDoor
open Go Go.X
theorem opOk_rdb : Rdb (α := Opv) Tryz.prog 62 opOk := fun H enc w fuel cs x h => by
  have hl : cs.length = 4 := len_s (by kernel_rfl) Tryz.underlying62 h
  match cs, hl with
  | [c0, c1, c2, c3], _ =>
  obtain ⟨a0, e0, o0⟩ := (rdb_int Tryz.underlying3).at_ (part_f 0 h)
  obtain ⟨a1, e1, o1⟩ := slOk_rdb.at_ (part_f 1 h)
  obtain ⟨a2, e2, o2⟩ := (rdb_int Tryz.underlying3).at_ (part_f 2 h)
  obtain ⟨a3, e3, o3⟩ := (rdb_slice Tryz.underlying56 (by kernel_rfl) (rdb_int Tryz.underlying3)).at_ (part_f 3 h)
  simp [Cl.cells] at e0 e1 e2 e3
  subst e0 e1 e2 e3
  exact ⟨⟨a0, a1, a2, a3⟩, rfl, o0, o1, o2, o3⟩
end Go.Proofs.YtnlfohlngapkfaaGreatDoor
namespace Go.Proofs.YtnlfohlngapkfaaGreatDoor
open Go Go.X
open Go.ChangeShapes Go.WideShapes Go.ChangeAt Go.RowKit
set_option linter.unusedVariables false
set_option maxHeartbeats 1600000 in
set_option maxRecDepth 100000 in
theorem contractJournalMatchesReference (H : Type) (enc : TypeId × Value → H) (W : World) (base : Nat) (args : Array Value) (ds gs : List (DataW H)) (before : List MemPlace)
    (hval0 : ∀ (j : Nat) t v, Tryz.f7.params[j]? = some t → args[j]? = some v → Value.okWide Tryz.prog W .any base t v)
    (hW : DataW.Whole enc Tryz.prog Tryz.f7.params.toList Rows.journalMatchesReferenceSpec.vars false W args.toList ds gs before) (hL : laidMetH Tryz.prog Rows.journalMatchesReferenceRow.laid W) :
    Calls Tryz.prog 7 args W fun e W' => ∃ v, e = .returned v ∧ Rows.journalMatchesReferenceSpec.post enc Tryz.prog Tryz.f7 false true false false W args v W' := by
  have hval : ∀ (j : Nat) t v, Tryz.f7.params[j]? = some t → args[j]? = some v → Value.okWide Tryz.prog W .any base t v := hval0
  have hW' := hW
  obtain ⟨p, q, hA0, hV, rfl, hfz, hnd⟩ := hW
  have hA : DataW.TrodAll enc Tryz.prog W 0 (fun _ => true) true Tryz.f7.params.toList args.toList ds p := hA0
  rw [Tryz.params7] at hA hval
  obtain ⟨v0, vs0, d0, ds0, p0, q0, hargs, rfl, rfl, h0, r0⟩ := trodAll_cons hA
  obtain ⟨v1, vs1, d1, ds1, p1, q1, rfl, rfl, rfl, h1, r1⟩ := trodAll_cons r0
  obtain ⟨rfl, rfl, rfl⟩ := trodAll_nil r1
  obtain rfl : args = #[v0, v1] := by cases args; simp_all
  obtain ⟨rfl, rfl⟩ := trodVars_none hV
  have k0 := h0
  have lt0 : ∀ x ∈ p0, x.block < W.heap.size := by obtain ⟨m, hm⟩ := k0; exact DataW.trod_lt m _ _ _ hm
  have k1 := h1
  have lt1 : ∀ x ∈ p1, x.block < W.heap.size := by obtain ⟨m, hm⟩ := k1; exact DataW.trod_lt m _ _ _ hm
  obtain ⟨a0, rfl, e1_0, e2_0, w0⟩ := open_int Tryz.underlying3 (hval 0 3 v0 rfl rfl) h0
  obtain ⟨a1, len1, cap1, rfl⟩ := okWide_slice Tryz.underlying60 (hval 1 60 v1 rfl rfl)
  obtain ⟨xs1, rfl, gl1, gm1, gA1, gx1⟩ := open_slm (α := Opv) Tryz.underlying60 (by kernel_rfl) opOk_rdb rfl h1
  obtain ⟨ep, hEp⟩ := err_laid hL
  refine (calls_of_con (matches_law a0 xs1 a1 cap1 ep (allOf W) (i64_wf w0) gA1 gx1 (round_laid hL) hEp) fun _ _ _ h => h).mono fun e W' ⟨he, bel⟩ => ?_
  subst he
  exact ⟨_, rfl, _, _, _, [], _, [], hW', trodAll_mk1 (shut_bool Tryz.underlying4 _), (trodAll_cons_mk (Below.trod laidOut (by kernel_rfl) (of_decide_eq_true (by kernel_rfl)) k0 bel lt0) (trodAll_cons_mk (Below.trod laidOut (by kernel_rfl) (of_decide_eq_true (by kernel_rfl)) k1 bel lt1) trodAll_mk0)), rfl, bel.frame _, fun h => by cases h⟩
theorem laid_metJournalMatchesReference (os : Os) : laidMet Tryz.prog Rows.journalMatchesReferenceRow.laid ((laidWorld os).forCall (fun _ _ => 0) ⟨#[], #[.int .i64 0, .slice none 0 0], []⟩).memory :=
  laidMet_of_run' 8 (by kernel_rfl) (by kernel_rfl)
theorem readsJournalMatchesReference (os : Os) {H : Type} (enc : TypeId × Value → H) : ∃ places, DataW.whole enc Tryz.prog ((laidWorld os).forCall (fun _ _ => 0) ⟨#[], #[.int .i64 0, .slice none 0 0], []⟩).memory Tryz.f7.params.toList Rows.journalMatchesReferenceSpec.vars false (#[.int .i64 0, .slice none 0 0] : Array Value).toList 8 = some ([.lit (.int .i64 0), .nil], [], places) :=
  ⟨[], by kernel_rfl⟩
set_option maxRecDepth 100000 in
theorem liftedJournalMatchesReference (os : Os) (started : os.Started) (H : Type) (enc : TypeId × Value → H) (F : Stop.Interp) :
    ReturnsInHanded {} Tryz.checked os 7 .any ((OpenSpec.ofChange Rows.journalMatchesReferenceSpec).preRow enc Tryz.prog Tryz.f7 Rows.journalMatchesReferenceRow.domain false Rows.journalMatchesReferenceRow.laid) (((OpenSpec.ofChange Rows.journalMatchesReferenceSpec).at F).post enc Tryz.prog Tryz.f7 false true false false) := by
  obtain ⟨places, hx⟩ := readsJournalMatchesReference os enc
  refine returnsInHanded_of_row (C := Tryz.checked) (s := OpenSpec.ofChange Rows.journalMatchesReferenceSpec) own started (by kernel_rfl) Tryz.func7
    (witness_row_at (enc := enc) (C := Tryz.checked) false (laidWorld os) #[.int .i64 0, .slice none 0 0] rfl (by kernel_rfl) (by kernel_rfl) (by kernel_rfl)
      (OpenSpec.preRow_of_cond 8 hx (by kernel_rfl) (fun k hk => by cases hk) (by kernel_rfl) (laid_metJournalMatchesReference os))) ?_
  intro W base args ds gs before hval hW c1 c2 c3 hL c4 c5
  exact contractJournalMatchesReference H enc W base args ds gs before hval hW hL
theorem saidJournalMatchesReference : Rows.JournalMatchesReferenceSaid :=
  OpenClaim.holds_of_cond 7 Tryz.f7 rfl rfl rfl rfl rfl rfl rfl ⟨rfl, rfl, rfl, rfl, rfl⟩ rfl rfl rfl rfl rfl (by kernel_rfl) Tryz.func7 (by kernel_rfl)
    (of_decide_eq_true (by kernel_rfl)) (by unfold Func.isWrapper; rw [if_neg (of_decide_eq_false (by kernel_rfl))]; exact ⟨rfl, rfl⟩)
    (fun os started H enc _ F => by rw [OpenClaim.pre_eq_preRow]; exact liftedJournalMatchesReference os started H enc F)
theorem plainJournalMatchesReference (f : FuncId) (fn : Func) (hf : Tryz.pinned.checked.prog.funcNamed "latecomer/latecomerlaw33.JournalMatchesReference" = some f) (hfn : Tryz.pinned.checked.prog.funcs[f]? = some fn) :
    true = Tryz.pinned.checked.prog.looks [] ∧ ∀ (j : Nat) t, fn.params[j]? = some t → Tryz.pinned.checked.prog.wantsStandIn t = false := by
  obtain rfl : f = 7 := Option.some.inj ((show Tryz.prog.funcNamed "latecomer/latecomerlaw33.JournalMatchesReference" = some 7 by kernel_rfl).symm.trans hf) |>.symm
  obtain rfl : fn = Tryz.f7 := (Option.some.inj (Tryz.func7.symm.trans hfn)).symm
  refine ⟨by kernel_rfl, fun j t ht => ?_⟩
  rw [Tryz.params7] at ht
  have hm := Array.mem_of_getElem? ht
  simp only [List.mem_toArray, List.mem_cons, List.not_mem_nil, or_false] at hm
  rcases hm with rfl | rfl
  · exact (show Tryz.prog.wantsStandIn 3 = false by kernel_rfl)
  · exact (show Tryz.prog.wantsStandIn 60 = false by kernel_rfl)
theorem journalMatchesReference_holds : Rows.JournalMatchesReferenceCardSaid :=
  Claim7.holds_tied_plain_at .later [] _ _ _ _ saidJournalMatchesReference (fun _ h => by cases h) (by kernel_rfl) (fun _ h => by cases h) journalMatchesReference_row_tie rfl ⟨rfl, rfl⟩ (by kernel_rfl) rfl plainJournalMatchesReference (by kernel_rfl)
#print axioms journalMatchesReference_holds
end Go.Proofs.YtnlfohlngapkfaaGreatDoor
