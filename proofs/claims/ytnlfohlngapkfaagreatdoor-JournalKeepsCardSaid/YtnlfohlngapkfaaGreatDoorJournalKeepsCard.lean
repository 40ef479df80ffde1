/- JournalKeeps returns true for every input, and each argument reads afterwards as it read before; the listed package variables start as the program's text lays them, and the given tie to the text is used. -/
import Derived.Test.YtnlfohlngapkfaaGreatDoorBe
import Derived.Test.YtnlfohlngapkfaaGreatDoorCards
import Derived.Test.YtnlfohlngapkfaaGreatDoorTie
namespace Go.Proofs.YtnlfohlngapkfaaGreatDoor
open Go Go.X
set_option maxRecDepth 10000
set_option linter.unusedVariables false
attribute [local irreducible] Code.wpIn wpListIn Exit.then Exit.inBlock X.Out X.Back X.W X.Ev X.Con X.BinV X.Wh X.Wn X.Wq
attribute [local irreducible] sumK chain stw group stored
/-- A call of a law. -/
structure Opv where
  kind : Int
  l : Sv
  n : Int
  kp : Sv
instance : Inhabited Opv := ⟨⟨0, ⟨none, 0, 0⟩, 0, ⟨none, 0, 0⟩⟩⟩
instance : Cl Opv := ⟨4, fun x => [.int .i64 x.kind, .slice x.l.a x.l.m x.l.c, .int .i64 x.n, .slice x.kp.a x.kp.m x.kp.c], fun _ => rfl, fun _ u hu => by simp at hu; rcases hu with rfl | rfl | rfl | rfl <;> rfl⟩
def inOk (S : SH) (x : Sv) : Prop := ∃ l : List Int, x.m = l.length ∧ l.length ≤ x.c ∧ At S x.a l ∧ ∀ y ∈ l, i64 y
theorem inOk.le {S T : SH} (h : Le S T) {x : Sv} (k : inOk S x) : inOk T x := by
  obtain ⟨l, h1, h2, h3, h4⟩ := k
  exact ⟨l, h1, h2, h3.le h, h4⟩
def opOk (S : SH) (x : Opv) : Prop := i64 x.kind ∧ slOk S x.l ∧ i64 x.n ∧ inOk S x.kp
theorem opOk.le {S T : SH} (h : Le S T) {x : Opv} (k : opOk S x) : opOk T x := ⟨k.1, k.2.1.le h, k.2.2.1, k.2.2.2.le h⟩
/-- A journal and its disk, between two calls. -/
def Live (K : List UInt32) (N : Nat) (J : Jn) (D : Dk) : Prop := JA K N J D ∧ 0 ≤ D.left ∨ ∃ g, JB K N J g D
theorem Live.w {K : List UInt32} {N : Nat} {J : Jn} {D : Dk} (h : Live K N J D) : JW K N J := by
  rcases h with ⟨h, _⟩ | ⟨g, h⟩
  · exact h.w
  · exact h.w
theorem Live.pend {K : List UInt32} {N : Nat} {J : Jn} {D : Dk} (h : Live K N J D) : D.pend.length ≤ 1 := by
  rcases h with ⟨h, _⟩ | ⟨g, h⟩
  · rw [h.pend]; exact Nat.zero_le _
  · exact h.pend
theorem Live.cut {K : List UInt32} {N : Nat} {J : Jn} {D : Dk} (h : Live K N J D) {n : Int} (hn : 0 ≤ n) : Live K N J (cutD D n) := by
  unfold cutD
  split
  · exact h
  · rename_i hc
    rcases h with ⟨h, hp⟩ | ⟨g, h⟩
    · exact .inl ⟨⟨h.w, h.br, h.dur, h.vis, h.pend⟩, hn⟩
    · exact absurd (Or.inl h.off) hc
/-- What a power failure leaves: the records, and perhaps a group more. -/
theorem Live.crash {K : List UInt32} {N : Nat} {J : Jn} {D : Dk} (h : Live K N J D) (keep : List Int) (torn : Int) : ∃ l, Mess K N l (crB D keep torn) ∧ Short l ∧ ∃ g, l = J.recs ++ g := by
  rcases h with ⟨h, _⟩ | ⟨g, h⟩
  · exact ⟨J.recs, by rw [crB_nil h.pend, h.dur]; exact Good_mess (by rw [← h.w.size]; exact h.w.le), h.w.short, [], (List.append_nil _).symm⟩
  · rcases h.cr keep torn with hm | hm
    · exact ⟨J.recs, hm, h.w.short, [], (List.append_nil _).symm⟩
    · exact ⟨J.recs ++ g, hm, h.w.short.app h.short, g, rfl⟩
/-- Append, whatever the state. -/
theorem AppL_con {jv v : Value} {K : List UInt32} {N : Nat} {J : Jn} {D : Dk} {LJ LD : Blocks} (hJ : OwJ jv v J LJ) (hD : OwD v D LD) (hL : Live K N J D) (l : List Str) (A : Option Addr) (c : Nat) (S : SH) (hA : At S A l) (hl : l.length ≤ 1000) (hls : Short l) (hN : N ≤ 1000000)
    (hK : Pts S ⟨4, 0, none⟩ (cellsOf K)) (hKl : K.length = 64) :
    Con Tryz.prog 11 #[jv, .slice A l.length c] S (LJ ++ LD) (fun S' L' r => ∃ LJ' LD' J' D' e, L' = LJ' ++ LD' ∧ OwJ jv v J' LJ' ∧ OwD v D' LD' ∧ r = .int .i64 e ∧ Live K N J' D' ∧
      (e ≠ 0 ∧ J'.recs = J.recs ∨ e = 0 ∧ J'.recs = J.recs ++ l)) := by
  rcases hL with ⟨h, hp⟩ | ⟨g, h⟩
  · refine (AppG_con hJ hD h hp l A c S hA hl hls hN hK hKl).mono fun S' L' r _ ⟨LJ', LD', J', D', e, e1, e2, e3, e4, e5⟩ => ⟨LJ', LD', J', D', e, e1, e2, e3, e4, ?_⟩
    rcases e5 with ⟨rfl, rfl, rfl⟩ | ⟨rfl, ⟨rfl, rfl, rfl⟩ | ⟨ha, hr, hp'⟩⟩ | ⟨rfl, hr, hb⟩
    · exact ⟨.inl ⟨h, hp⟩, .inl ⟨by decide, rfl⟩⟩
    · exact ⟨.inl ⟨h, hp⟩, .inr ⟨rfl, (List.append_nil _).symm⟩⟩
    · exact ⟨.inl ⟨ha, hp'⟩, .inr ⟨rfl, hr⟩⟩
    · exact ⟨.inr ⟨l, hb⟩, .inl ⟨by decide, hr⟩⟩
  · have hc := (AppendBad_con hJ l A c S hA (by omega) (.inl h.br)).frame (L2 := LD) (List.Perm.refl _)
    refine hc.mono fun S' L' r _ hh => ?_
    obtain ⟨L1, e1, -, e3, e4⟩ := hh
    rw [e3] at e1
    exact ⟨LJ, LD, J, D, 330, e1, hJ, hD, e4, .inr ⟨g, h⟩, .inl ⟨by decide, rfl⟩⟩
end Go.Proofs.YtnlfohlngapkfaaGreatDoor
namespace Go.Proofs.YtnlfohlngapkfaaGreatDoor
open Go Go.X
set_option maxRecDepth 10000
set_option linter.unusedVariables false
attribute [local irreducible] Code.wpIn wpListIn Exit.then Exit.inBlock X.Out X.Back X.W X.Ev X.Con X.BinV X.Wh X.Wn X.Wq
attribute [local irreducible] sumK chain stw group stored
set_option maxHeartbeats 1600000 in
theorem keeps_law (n : Int) (xs : List Opv) (A : Option Addr) (c : Nat) (K : List UInt32) (p : Addr) (S : SH) (hn : i64 n) (hA : At S A xs) (hx : ∀ x ∈ xs, opOk S x)
    (hK : Pts S ⟨4, 0, none⟩ (cellsOf K)) (hKl : K.length = 64) (hE : Pts S ⟨0, 0, none⟩ [errV p]) :
    Con Tryz.prog 6 #[.int .i64 n, .slice A xs.length c] S [] (fun S' L' r => r = .bool true) := by
  refine con_of (args := [.int .i64 n, .slice A xs.length c]) Tryz.func6 rfl Tryz.ntmps6 rfl fun w => ?_
  have hb := sizeN_bd n
  obtain ⟨N, hN⟩ : ∃ N, N = sizeN n := ⟨_, rfl⟩
  have hsz : ∀ S, Con Tryz.prog 16 #[.int .i64 n] S [] (X.Pure S (.int .i64 (N : Nat))) := fun S => by rw [hN]; exact size_con n S hn
  have h0 : (recB K []).length = 0 := by rw [recB_nil]; rfl
  (repeat (first | refine Jc ?_ | (apply s_call (L2 := []); (case hg => rfl); (case hd => rfl); (case ha => rfl); (case hc => exact sane_con K p S hK hKl hE); (case hL => (exact pmc (fun p => by first | rfl | ((repeat rw [List.countP_append]); (repeat rw [List.countP_cons]); (repeat rw [List.countP_nil]); (all_goals (first | rfl | omega)))))); rintro S1 L1 v1 hle1 ⟨rfl, rfl⟩) | (apply z_call; rfl; rfl; rfl; exact hsz _; rintro _ _ _ - ⟨rfl, rfl, rfl⟩) | (apply s_call (L2 := []); (case hg => rfl); (case hd => rfl); (case ha => rfl); (case hc => exact New_con N S1 (by omega)); (case hL => (exact pmc (fun p => by first | rfl | ((repeat rw [List.countP_append]); (repeat rw [List.countP_cons]); (repeat rw [List.countP_nil]); (all_goals (first | rfl | omega)))))); rintro S2 L2 v2 - ⟨rfl, v, hD, rfl⟩; rw [newD_eq K] at hD; obtain ⟨bd, rfl⟩ := hD.form) | refine Jo ?_ | intro _))
  (repeat (first | refine Jc ?_ | (apply s_call (L2 := []); (case hg => rfl); (case hd => rfl); (case ha => rfl); (case hc => exact OpenR_con hD (Good_mess (by omega)) (by omega) Short.nil S2 (hK.le hle1) hKl); (case hL => (exact pmc (fun p => by first | rfl | ((repeat rw [List.countP_append]); (repeat rw [List.countP_cons]); (repeat rw [List.countP_nil]); (all_goals (first | rfl | omega)))))); rintro S3 L3 v3 hle3 ⟨jv, LJ, LD, rfl, hJ, hD2, rfl⟩; obtain ⟨bj, rfl⟩ := hJ.form) | refine Jo ?_ | intro _))
  refine c_loop (fun m S' L F => Le S S' ∧ ∃ (k : Nat) (J : Jn) (D : Dk) (LJ LD : Blocks) (bj : Nat) (sure : List Str) (sv : Value) (rest : List Str), m = 20 - k ∧ k ≤ 20 ∧ Live K N J D ∧ OwJ (.pointer (some ⟨bj, 0, none⟩)) (.pointer (some ⟨bd, 0, none⟩)) J LJ ∧ OwD (.pointer (some ⟨bd, 0, none⟩)) D LD ∧ Sr S' sv sure ∧ J.recs = sure ++ rest ∧ L = LJ ++ LD ∧
      F = [(0, .int .i64 n), (1, .slice A xs.length c), (5, .bool true), (6, .pointer (some ⟨bd, 0, none⟩)), (8, .pointer (some ⟨bj, 0, none⟩)), (10, sv), (11, .int .i64 k)])
    ⟨hle1.trans hle3, 0, _, _, LJ, LD, bj, [], _, [], rfl, by omega, .inl ⟨JA.new Short.nil (by omega), (show (0 : Int) ≤ 0 by decide)⟩, hJ, hD2, Sr.nil _, rfl, rfl, rfl⟩ sbF (List.sublist_append_left _ _) ?_
  clear hJ hD2 hD
  rintro m S4 L F ⟨hle4, k, J, D, LJ, LD, bj, sure, sv, rest, rfl, hk20, hL, hJ, hD, ⟨AS, cS, rfl, hcS, hAS⟩, hr, rfl, rfl⟩
  have hKS := hK.le hle4
  by_cases hlt : k < xs.length ∧ k < 20
  rotate_left
  · by_cases h1 : k < xs.length
    all_goals (repeat (first | refine Jz ?_ | intro _))
    all_goals exact o_ret Tryz.results6 rfl (List.nil_sublist _) rfl
  obtain ⟨h1, h2⟩ := hlt
  obtain ⟨x, hxk⟩ : ∃ x, xs[k]? = some x := ⟨_, List.getElem?_eq_getElem h1⟩
  obtain ⟨hok1, ⟨l, hm, hc, hAl, hyl⟩, hok3, ⟨ks, hkm, hkc, hKA, hk64⟩⟩ := (hx _ (List.mem_of_getElem? hxk)).le hle4
  obtain ⟨kind, ⟨xa, xm, xc⟩, nn, ⟨ka, km, kc⟩⟩ := x
  simp only at hok1 hm hc hAl hok3 hkm hkc hKA
  subst hm hkm
  have hp8 := pickI_bd kind 8 (by decide)
  have hp5 := pickI_bd nn 5 (by decide)
  have hfl := few_len l
  have hSf := few_short l
  have hpl := hL.pend
  have hrec := hL.w.recs
  have hsl : sure.length ≤ J.recs.length := by rw [hr]; simp
  obtain ⟨pk, hpk⟩ : ∃ pk, pk = pickI kind 8 := ⟨_, rfl⟩
  have hcp : ∀ S, Con Tryz.prog 15 #[.int .i64 kind, .int .i64 8] S [] (X.Pure S (.int .i64 pk)) := fun S => by rw [hpk]; exact lpick_con kind 8 S hok1 (by decide)
  rw [← hpk] at hp8
  by_cases c5 : pk = 5
  · -- the power is to fail
    (repeat (first | refine Jc ?_ | (apply s_idx (hA.le hle4); (case hg => rfl); (case hd => rfl); (case hx => rfl); (case hi => rfl); (case hm => rfl); (case hu => exact hxk); intro q (hq : Pts _ q [.int .i64 kind, .slice xa l.length xc, .int .i64 nn, .slice ka ks.length kc])) | (apply s_load_f; (case hg => rfl); (case hd => rfl); (case hx => rfl); (case h => exact hq); (case hv => rfl)) | (apply z_call; rfl; rfl; rfl; exact hcp _; rintro _ _ _ - ⟨rfl, rfl, rfl⟩) | (apply z_call; rfl; rfl; rfl; exact lpick_con nn 5 _ hok3 (by decide); rintro _ _ _ - ⟨rfl, rfl, rfl⟩) | (apply s_call (L2 := LJ); (case hg => rfl); (case hd => rfl); (case ha => rfl); (case hc => exact Cut_con hD S4 (1 + pickI nn 5) (by unfold i64; omega)); (case hL => (exact pmc (fun p => by first | rfl | ((repeat rw [List.countP_append]); (repeat rw [List.countP_cons]); (repeat rw [List.countP_nil]); (all_goals (first | rfl | omega)))))); rintro S12 LD2 v12 - ⟨rfl, hD2, rfl⟩) | refine Jo ?_ | intro _))
    have hL2 := hL.cut (n := 1 + pickI nn 5) (by omega)
    (repeat (first | refine Jc ?_ | (apply s_call (L2 := LD2); (case hg => rfl); (case hd => rfl); (case ha => rfl); (case hc => exact Records_con hJ _ (by omega)); (case hL => (exact pmc (fun p => by first | rfl | ((repeat rw [List.countP_append]); (repeat rw [List.countP_cons]); (repeat rw [List.countP_nil]); (all_goals (first | rfl | omega)))))); rintro S30 L30 v30 - ⟨rfl, ob30, rfl, ho30⟩; refine W.freezeOws (L1 := LJ ++ LD2) ho30 (pmc (fun p => by first | rfl | ((repeat rw [List.countP_append]); (repeat rw [List.countP_cons]); (repeat rw [List.countP_nil]); (all_goals (first | rfl | omega))))) fun S31 hle31 hs31 => ?_; obtain ⟨A31, c31, rfl, hc31, hA31⟩ := hs31) | (apply s_slice_hi hA31; (case hg => rfl); (case hd => rfl); (case hx => rfl); (case hy => rfl); (case hm => rfl); (case hmc => omega); (case hj => omega); intro A32 hA32) | (apply z_call; rfl; rfl; rfl; exact same_con_t (l := J.recs.take sure.length) (r := sure) hA32 (hAS.le (hle31)) (by rw [List.length_take]; omega) (by rw [hr, List.take_left]); rintro _ _ _ - ⟨rfl, rfl, rfl⟩) | refine Jo ?_ | intro _))
    (repeat (first | refine Jz ?_ | intro _))
    exact q_back (m' := 20 - (k + 1)) ⟨hle4.trans hle31, k + 1, J, _, LJ, LD2, bj, sure, _, rest, rfl, by omega, hL2, hJ, hD2, ⟨AS, cS, rfl, hcS, hAS.le (hle31)⟩, hr, rfl, rfl⟩ (by omega) sbF (List.Sublist.refl _)
  by_cases c67 : pk = 6 ∨ pk = 7
  · -- the power fails, and the journal is opened
    rcases (show pk = 6 ∨ (pk ≠ 6 ∧ pk = 7) by omega) with e1 | ⟨e1, e2⟩
    all_goals
      (repeat (first | refine Jc ?_ | (apply s_idx (hA.le hle4); (case hg => rfl); (case hd => rfl); (case hx => rfl); (case hi => rfl); (case hm => rfl); (case hu => exact hxk); intro q (hq : Pts _ q [.int .i64 kind, .slice xa l.length xc, .int .i64 nn, .slice ka ks.length kc])) | (apply s_load_f; (case hg => rfl); (case hd => rfl); (case hx => rfl); (case h => exact hq); (case hv => rfl)) | (apply z_call; rfl; rfl; rfl; exact hcp _; rintro _ _ _ - ⟨rfl, rfl, rfl⟩) | refine Jo ?_ | intro _))
      ((apply c_held ([]); (case hL => (exact sbT))); refine Jf 0 ?_; refine Jf 1 ?_; refine Jf 2 ?_; (apply h_idx (hA.le hle4) 3; (case hi => rfl); (case hr => kernel_rfl); (case hfr => kernel_rfl); (case hsel => kernel_rfl); (case hg => rfl); (case hd => rfl); (case i1 => infer_instance); (case i2 => infer_instance); (case hx => rfl); (case hy => rfl); (case hm => rfl); (case hu => exact hxk); intro q (hq : Pts _ q [.int .i64 kind, .slice xa l.length xc, .int .i64 nn, .slice ka ks.length kc])); refine Jf 4 ?_; (apply h_first 5; (case hi => rfl); (case hr => kernel_rfl); (case hfr => kernel_rfl); (case hsel => kernel_rfl); (case hg => rfl); (case hd => rfl); (case he => (apply ev_load_f; (case hx => rfl); (case h => exact hq); (case hv => rfl)))); refine Jf 6 ?_; refine Jf 7 ?_; (apply h_idx (hA.le hle4) 8; (case hi => rfl); (case hr => kernel_rfl); (case hfr => kernel_rfl); (case hsel => kernel_rfl); (case hg => rfl); (case hd => rfl); (case i1 => infer_instance); (case i2 => infer_instance); (case hx => rfl); (case hy => rfl); (case hm => rfl); (case hu => exact hxk); intro q (hq : Pts _ q [.int .i64 kind, .slice xa l.length xc, .int .i64 nn, .slice ka ks.length kc])); refine Jf 9 ?_; (apply h_first 10; (case hi => rfl); (case hr => kernel_rfl); (case hfr => kernel_rfl); (case hsel => kernel_rfl); (case hg => rfl); (case hd => rfl); (case he => (apply ev_load_f; (case hx => rfl); (case h => exact hq); (case hv => rfl)))); refine Jf 11 ?_; (apply h_first 12; (case hi => rfl); (case hr => kernel_rfl); (case hfr => kernel_rfl); (case hsel => kernel_rfl); (case hg => rfl); (case hd => rfl); (case he => (apply ev_minn; (case hx => rfl); (case hy => rfl)))); (apply h_slice_hi hKA 13; (case hi => rfl); (case hr => kernel_rfl); (case hfr => kernel_rfl); (case hsel => kernel_rfl); (case hg => rfl); (case hd => rfl); (case i1 => infer_instance); (case i2 => infer_instance); (case hx => rfl); (case hy => rfl); (case hm => rfl); (case hmc => omega); (case hj => omega); intro KA' hKA'); refine Jf 14 ?_; refine Jf 15 ?_; (apply h_idx (hA.le hle4) 16; (case hi => rfl); (case hr => kernel_rfl); (case hfr => kernel_rfl); (case hsel => kernel_rfl); (case hg => rfl); (case hd => rfl); (case i1 => infer_instance); (case i2 => infer_instance); (case hx => rfl); (case hy => rfl); (case hm => rfl); (case hu => exact hxk); intro q (hq : Pts _ q [.int .i64 kind, .slice xa l.length xc, .int .i64 nn, .slice ka ks.length kc])); refine Jf 17 ?_; (apply h_first 18; (case hi => rfl); (case hr => kernel_rfl); (case hfr => kernel_rfl); (case hsel => kernel_rfl); (case hg => rfl); (case hd => rfl); (case he => (apply ev_load_f; (case hx => rfl); (case h => exact hq); (case hv => rfl)))); (apply h_one 19; (case hr => kernel_rfl)); (apply n_call; (case hi => rfl); (case i1 => infer_instance); (case hg => rfl); (case hd => rfl); (case ha => rfl); (case hc => exact Crash_con hD _ (ks.take (min ks.length 20)) KA' kc nn hKA' (by rw [List.length_take]; omega) (fun x hx => hk64 x (List.mem_of_mem_take hx)) hok3 (by omega)); (case hL => (repeat (first | exact pm_nil _ | exact pm_refl _ _ | exact pm_self _ | apply pm_cons | apply pm_app))); (case hsub => (intros; (exact sbT))); rintro S20 L20 v20 hle20 ⟨hD20, rfl⟩); (apply h_end; (case hr => kernel_rfl)))
      rw [crD_eq] at hD20
      obtain ⟨lr, hm, hSr, gr, hgr⟩ := hL.crash (ks.take (min ks.length 20)) nn
      have hml := hm.le
      have hlr := recB_len (K := K) hSr
      have hsl2 : sure.length ≤ lr.length := by rw [hgr, hr]; simp
      have hlrr : (jnK K lr).recs.length = lr.length := rfl
      (repeat (first | refine Jc ?_ | (apply s_call (L2 := LJ); (case hg => rfl); (case hd => rfl); (case ha => rfl); (case hc => exact OpenR_con hD20 hm (by omega) hSr _ (hKS.le hle20) hKl); (case hL => (exact pmc (fun p => by first | rfl | ((repeat rw [List.countP_append]); (repeat rw [List.countP_cons]); (repeat rw [List.countP_nil]); (all_goals (first | rfl | omega)))))); rintro S21 L21 v21 hle21 ⟨kv, LK, LD21, rfl, hJk, hD21, rfl⟩; obtain ⟨bk, rfl⟩ := hJk.form) | (apply s_evb; (case hg => rfl); (case hd => rfl); (case hn => rfl); (case he => (apply ev_eql_p; (case hx => rfl); (case hy => rfl)))) | refine Jo ?_ | intro _))
      refine W.weaken (L' := LK ++ LD21) ?_ (X.Sub.refl _) sbL
      have hle2021 := hle20.trans hle21
      have hleC := hle2021
      (repeat (first | refine Jc ?_ | (apply s_call (L2 := LD21); (case hg => rfl); (case hd => rfl); (case ha => rfl); (case hc => exact Records_con hJk _ (show lr.length ≤ _ by omega)); (case hL => (exact pmc (fun p => by first | rfl | ((repeat rw [List.countP_append]); (repeat rw [List.countP_cons]); (repeat rw [List.countP_nil]); (all_goals (first | rfl | omega)))))); rintro S22 L22 v22 - ⟨rfl, ob22, rfl, ho22⟩; refine W.freezeOws (L1 := LK ++ LD21) ho22 (pmc (fun p => by first | rfl | ((repeat rw [List.countP_append]); (repeat rw [List.countP_cons]); (repeat rw [List.countP_nil]); (all_goals (first | rfl | omega))))) fun S23 hle23 hs23 => ?_; obtain ⟨A23, c23, rfl, hc23, hA23⟩ := hs23; have hleC := hleC.trans hle23) | refine Jo ?_ | intro _))
      (repeat (first | refine Jc ?_ | (apply s_slice_hi hA23; (case hg => rfl); (case hd => rfl); (case hx => rfl); (case hy => rfl); (case hm => rfl); (case hmc => omega); (case hj => omega); intro A26 hA26) | (apply z_call; rfl; rfl; rfl; exact same_con_t (l := lr.take sure.length) (r := sure) hA26 (hAS.le hleC) (by rw [List.length_take]; omega) (by rw [hgr, hr, List.append_assoc, List.take_left]); rintro _ _ _ - ⟨rfl, rfl, rfl⟩) | refine Jo ?_ | intro _))
      (apply s_call (L2 := LD21); (case hg => rfl); (case hd => rfl); (case ha => rfl); (case hc => exact Records_con hJk _ (show lr.length ≤ _ by omega)); (case hL => (exact pmc (fun p => by first | rfl | ((repeat rw [List.countP_append]); (repeat rw [List.countP_cons]); (repeat rw [List.countP_nil]); (all_goals (first | rfl | omega)))))); rintro S27 L27 v27 - ⟨rfl, ob27, rfl, ho27⟩)
      refine W.freezeOws (L1 := LK ++ LD21) ho27 (pmc (fun p => by first | rfl | ((repeat rw [List.countP_append]); (repeat rw [List.countP_cons]); (repeat rw [List.countP_nil]); (all_goals (first | rfl | omega))))) fun S28 hle28 hs28 => ?_
      obtain ⟨A28, c28, rfl, hc28, hA28⟩ := hs28
      have hle28' := hleC.trans hle28
      have hrk : (jnK K lr).recs = lr ++ [] := (List.append_nil _).symm
      (repeat (first | refine Jc ?_ | (apply s_call (L2 := LD21); (case hg => rfl); (case hd => rfl); (case ha => rfl); (case hc => exact Records_con hJk _ (by omega)); (case hL => (exact pmc (fun p => by first | rfl | ((repeat rw [List.countP_append]); (repeat rw [List.countP_cons]); (repeat rw [List.countP_nil]); (all_goals (first | rfl | omega)))))); rintro S30 L30 v30 - ⟨rfl, ob30, rfl, ho30⟩; refine W.freezeOws (L1 := LK ++ LD21) ho30 (pmc (fun p => by first | rfl | ((repeat rw [List.countP_append]); (repeat rw [List.countP_cons]); (repeat rw [List.countP_nil]); (all_goals (first | rfl | omega))))) fun S31 hle31 hs31 => ?_; obtain ⟨A31, c31, rfl, hc31, hA31⟩ := hs31) | (apply s_slice_hi hA31; (case hg => rfl); (case hd => rfl); (case hx => rfl); (case hy => rfl); (case hm => rfl); (case hmc => omega); (case hj => omega); intro A32 hA32) | (apply z_call; rfl; rfl; rfl; exact same_con_t (l := (jnK K lr).recs.take lr.length) (r := lr) hA32 (hA28.le (hle31)) (by rw [List.length_take]; omega) (by rw [hrk, List.take_left]); rintro _ _ _ - ⟨rfl, rfl, rfl⟩) | refine Jo ?_ | intro _))
      (repeat (first | refine Jz ?_ | intro _))
      exact q_back (m' := 20 - (k + 1)) ⟨(hle4.trans hle28').trans hle31, k + 1, (jnK K lr), _, LK, LD21, bk, lr, _, [], rfl, by omega, (.inl ⟨JA.new hSr hml, (show (0 : Int) ≤ 0 by decide)⟩), hJk, hD21, ⟨A28, c28, rfl, hc28, hA28.le (hle31)⟩, hrk, rfl, rfl⟩ (by omega) sbF (List.Sublist.refl _)
  -- a group is appended
  have hn6 : pk ≠ 6 ∧ pk ≠ 7 := by omega
  (repeat (first | refine Jc ?_ | (apply s_idx (hA.le hle4); (case hg => rfl); (case hd => rfl); (case hx => rfl); (case hi => rfl); (case hm => rfl); (case hu => exact hxk); intro q (hq : Pts _ q [.int .i64 kind, .slice xa l.length xc, .int .i64 nn, .slice ka ks.length kc])) | (apply s_load_f; (case hg => rfl); (case hd => rfl); (case hx => rfl); (case h => exact hq); (case hv => rfl)) | (apply z_call; rfl; rfl; rfl; exact hcp _; rintro _ _ _ - ⟨rfl, rfl, rfl⟩) | refine Jo ?_ | intro _))
  (repeat (first | refine Jc ?_ | (apply s_call (L2 := LD); (case hg => rfl); (case hd => rfl); (case ha => rfl); (case hc => exact Records_con hJ _ (by omega)); (case hL => (exact pmc (fun p => by first | rfl | ((repeat rw [List.countP_append]); (repeat rw [List.countP_cons]); (repeat rw [List.countP_nil]); (all_goals (first | rfl | omega)))))); rintro S5 L5 v5 - ⟨rfl, ob5, rfl, ho5⟩; refine W.freezeOws (L1 := LJ ++ LD) ho5 (pmc (fun p => by first | rfl | ((repeat rw [List.countP_append]); (repeat rw [List.countP_cons]); (repeat rw [List.countP_nil]); (all_goals (first | rfl | omega))))) fun S6 hle6 hs6 => ?_; obtain ⟨A6, c6, rfl, hc6, hA6⟩ := hs6) | (apply s_idx (hA.le (hle4.trans hle6)); (case hg => rfl); (case hd => rfl); (case hx => rfl); (case hi => rfl); (case hm => rfl); (case hu => exact hxk); intro q (hq : Pts _ q [.int .i64 kind, .slice xa l.length xc, .int .i64 nn, .slice ka ks.length kc])) | (apply s_load_f; (case hg => rfl); (case hd => rfl); (case hx => rfl); (case h => exact hq); (case hv => rfl)) | refine Jo ?_ | intro _))
  (repeat (first | refine Jc ?_ | (apply s_call (L2 := LJ ++ LD); (case hg => rfl); (case hd => rfl); (case ha => rfl); (case hc => exact few_con l xa xc _ (hAl.le hle6)); (case hL => (exact pmc (fun p => by first | rfl | ((repeat rw [List.countP_append]); (repeat rw [List.countP_cons]); (repeat rw [List.countP_nil]); (all_goals (first | rfl | omega)))))); rintro S13 L13 v13 - ⟨rfl, ho13⟩; refine W.freezeOws (L1 := LJ ++ LD) ho13 (pmc (fun p => by first | rfl | ((repeat rw [List.countP_append]); (repeat rw [List.countP_cons]); (repeat rw [List.countP_nil]); (all_goals (first | rfl | omega))))) fun S14 hle14 hs14 => ?_; obtain ⟨A14, c14, rfl, -, hA14⟩ := hs14) | refine Jo ?_ | intro _))
  (repeat (first | refine Jc ?_ | (apply s_call (L2 := []); (case hg => rfl); (case hd => rfl); (case ha => rfl); (case hc => exact AppL_con hJ hD hL (fewL l) A14 c14 S14 hA14 (by omega) hSf (by omega) (hKS.le (hle6.trans hle14)) hKl); (case hL => (exact pmc (fun p => by first | rfl | ((repeat rw [List.countP_append]); (repeat rw [List.countP_cons]); (repeat rw [List.countP_nil]); (all_goals (first | rfl | omega)))))); rintro S15 L15 v15 hle15 ⟨LJ15, LD15, J15, D15, e15, rfl, hJ15, hD15, rfl, hL15, h15⟩; have hle15' := hle6.trans (hle14.trans hle15); have hle16 := hle14.trans hle15; rcases h15 with ⟨he15, hr15⟩ | ⟨rfl, hr15⟩) | refine Jo ?_ | intro _))
  all_goals have hrec15 := hL15.w.recs
  all_goals (repeat (first | refine Jz ?_ | intro _))
  · refine W.weaken (L' := LJ15 ++ LD15) ?_ (X.Sub.refl _) sbL
    rw [hr] at hr15
    have hsl15 : sure.length ≤ J15.recs.length := by rw [hr15]; simp
    (repeat (first | refine Jc ?_ | (apply s_call (L2 := LD15); (case hg => rfl); (case hd => rfl); (case ha => rfl); (case hc => exact Records_con hJ15 _ (by omega)); (case hL => (exact pmc (fun p => by first | rfl | ((repeat rw [List.countP_append]); (repeat rw [List.countP_cons]); (repeat rw [List.countP_nil]); (all_goals (first | rfl | omega)))))); rintro S30 L30 v30 - ⟨rfl, ob30, rfl, ho30⟩; refine W.freezeOws (L1 := LJ15 ++ LD15) ho30 (pmc (fun p => by first | rfl | ((repeat rw [List.countP_append]); (repeat rw [List.countP_cons]); (repeat rw [List.countP_nil]); (all_goals (first | rfl | omega))))) fun S31 hle31 hs31 => ?_; obtain ⟨A31, c31, rfl, hc31, hA31⟩ := hs31) | (apply s_slice_hi hA31; (case hg => rfl); (case hd => rfl); (case hx => rfl); (case hy => rfl); (case hm => rfl); (case hmc => omega); (case hj => omega); intro A32 hA32) | (apply z_call; rfl; rfl; rfl; exact same_con_t (l := J15.recs.take sure.length) (r := sure) hA32 (hAS.le ((hle15').trans hle31)) (by rw [List.length_take]; omega) (by rw [hr15, List.take_left]); rintro _ _ _ - ⟨rfl, rfl, rfl⟩) | refine Jo ?_ | intro _))
    (repeat (first | refine Jz ?_ | intro _))
    exact q_back (m' := 20 - (k + 1)) ⟨(hle4.trans hle15').trans hle31, k + 1, J15, _, LJ15, LD15, bj, sure, _, rest, rfl, by omega, hL15, hJ15, hD15, ⟨AS, cS, rfl, hcS, hAS.le ((hle15').trans hle31)⟩, hr15, rfl, rfl⟩ (by omega) sbF (List.Sublist.refl _)
  · refine W.weaken (L' := LJ15 ++ LD15) ?_ (X.Sub.refl _) sbL
    refine W.trim (F' := [(14, .slice A6 J.recs.length c6), (0, .int .i64 n), (1, .slice A xs.length c), (5, .bool true), (6, .pointer (some ⟨bd, 0, none⟩)), (8, .pointer (some ⟨bj, 0, none⟩)), (11, .int .i64 k)]) (L' := LJ15 ++ LD15) sbF (List.Sublist.refl _) ?_
    ((apply c_held ([]); (case hL => (exact sbT))); refine Jf 1 ?_; refine Jf 3 ?_; refine Jf 4 ?_; (apply h_idx (hA.le (hle4.trans hle15')) 5; (case hi => rfl); (case hr => kernel_rfl); (case hfr => kernel_rfl); (case hsel => kernel_rfl); (case hg => rfl); (case hd => rfl); (case i1 => infer_instance); (case i2 => infer_instance); (case hx => rfl); (case hy => rfl); (case hm => rfl); (case hu => exact hxk); intro q (hq : Pts _ q [.int .i64 kind, .slice xa l.length xc, .int .i64 nn, .slice ka ks.length kc])); refine Jf 6 ?_; (apply h_first 7; (case hi => rfl); (case hr => kernel_rfl); (case hfr => kernel_rfl); (case hsel => kernel_rfl); (case hg => rfl); (case hd => rfl); (case he => (apply ev_load_f; (case hx => rfl); (case h => exact hq); (case hv => rfl)))); (apply h_one 0; (case hr => kernel_rfl)); (apply n_buildSlice; (case hi => rfl); (case hg => rfl); (case hd => rfl); (case i1 => infer_instance); (case i2 => infer_instance); (case i3 => infer_instance); (case hp => rfl); (case hq => rfl); (case hm => rfl); (case hv => rfl); (case hl => rfl); intro bl); (apply h_one 2; (case hr => kernel_rfl)); (apply n_append_st (ms := J.recs) (hA6.le hle16); (case hi => rfl); (case hT => infer_instance); (case hsz => infer_instance); (case hz => infer_instance); (case hby => infer_instance); (case hg => rfl); (case hd => rfl); (case hx => rfl); (case ho => exact (Ows.full (α := Str) (l := []) rfl (by decide))); (case hL => (repeat (first | exact pm_nil _ | exact pm_refl _ _ | exact pm_self _ | apply pm_cons | apply pm_app))); (case hy => rfl); (case hm => first | rfl | simp); (case hzs => rfl); (case h0 => decide); (case hb => first | (simp; omega) | simp); (case h63 => first | (simp; omega) | simp); (case hsub => first | (intro _ _; exact List.nil_sublist _) | (intros; (exact sbT))); intro v17 ob17 ho17); (apply h_one 8; (case hr => kernel_rfl)); (apply n_call; (case hi => rfl); (case i1 => infer_instance); (case hg => rfl); (case hd => rfl); (case ha => rfl); (case hc => exact few_con l xa xc _ (hAl.le hle15')); (case hL => (repeat (first | exact pm_nil _ | exact pm_refl _ _ | exact pm_self _ | apply pm_cons | apply pm_app))); (case hsub => (intros; (exact sbT))); rintro S18 L18 v18 - ⟨rfl, ho18⟩; refine Wh.freezeOws (L1 := ob17 ++ (LJ15 ++ LD15)) ho18 (pmc (fun p => by first | rfl | ((repeat rw [List.countP_append]); (repeat rw [List.countP_cons]); (repeat rw [List.countP_nil]); (all_goals (first | rfl | omega))))) (List.nil_sublist _) fun S19 hle19 hs19 => ?_; obtain ⟨A19, c19, rfl, hc19, hA19⟩ := hs19); (apply h_one 9; (case hr => kernel_rfl)); (apply n_append_st (ms := (fewL l)) hA19; (case hi => rfl); (case hT => infer_instance); (case hsz => infer_instance); (case hz => infer_instance); (case hby => infer_instance); (case hg => rfl); (case hd => rfl); (case hx => rfl); (case ho => exact ho17); (case hL => (repeat (first | exact pm_nil _ | exact pm_refl _ _ | exact pm_self _ | apply pm_cons | apply pm_app))); (case hy => rfl); (case hm => first | rfl | simp); (case hzs => rfl); (case h0 => decide); (case hb => first | (simp; omega) | simp); (case h63 => first | (simp; omega) | simp); (case hsub => first | (intro _ _; exact List.nil_sublist _) | (intros; (exact sbT))); intro v20 ob20 ho20); refine Jf 10 ?_; (apply h_end; (case hr => kernel_rfl)))
    refine W.freezeOws (L1 := LJ15 ++ LD15) ho20 (pmc (fun p => by first | rfl | ((repeat rw [List.countP_append]); (repeat rw [List.countP_cons]); (repeat rw [List.countP_nil]); (all_goals (first | rfl | omega))))) fun S21 hle21 hs21 => ?_
    have hs21 : Sr S21 v20 (J.recs ++ fewL l) := hs21
    rw [← hr15] at hs21
    obtain ⟨A21, c21, rfl, hc21, hA21⟩ := hs21
    have hrz : J15.recs = J15.recs ++ [] := (List.append_nil _).symm
    have hle21' := hle15'.trans (hle19.trans hle21)
    (repeat (first | refine Jc ?_ | (apply s_call (L2 := LD15); (case hg => rfl); (case hd => rfl); (case ha => rfl); (case hc => exact Records_con hJ15 _ (by omega)); (case hL => (exact pmc (fun p => by first | rfl | ((repeat rw [List.countP_append]); (repeat rw [List.countP_cons]); (repeat rw [List.countP_nil]); (all_goals (first | rfl | omega)))))); rintro S30 L30 v30 - ⟨rfl, ob30, rfl, ho30⟩; refine W.freezeOws (L1 := LJ15 ++ LD15) ho30 (pmc (fun p => by first | rfl | ((repeat rw [List.countP_append]); (repeat rw [List.countP_cons]); (repeat rw [List.countP_nil]); (all_goals (first | rfl | omega))))) fun S31 hle31 hs31 => ?_; obtain ⟨A31, c31, rfl, hc31, hA31⟩ := hs31) | (apply s_slice_hi hA31; (case hg => rfl); (case hd => rfl); (case hx => rfl); (case hy => rfl); (case hm => rfl); (case hmc => omega); (case hj => omega); intro A32 hA32) | (apply z_call; rfl; rfl; rfl; exact same_con_t (l := J15.recs.take J15.recs.length) (r := J15.recs) hA32 (hA21.le (hle31)) (by rw [List.length_take]; omega) (by rw [List.take_of_length_le (Nat.le_refl _)]); rintro _ _ _ - ⟨rfl, rfl, rfl⟩) | refine Jo ?_ | intro _))
    (repeat (first | refine Jz ?_ | intro _))
    exact q_back (m' := 20 - (k + 1)) ⟨(hle4.trans hle21').trans hle31, k + 1, J15, _, LJ15, LD15, bj, J15.recs, _, [], rfl, by omega, hL15, hJ15, hD15, ⟨A21, c21, rfl, hc21, hA21.le (hle31)⟩, hrz, rfl, rfl⟩ (by omega) sbF (List.Sublist.refl _)
end Go.Proofs.YtnlfohlngapkfaaGreatDoor
namespace Go.Proofs.YtnlfohlngapkfaaGreatDoor
open Go Go.X
theorem opOk_rdb : Rdb (α := Opv) Tryz.prog 62 opOk := fun H enc w fuel cs x h => by
  have hl : cs.length = 4 := len_s (by kernel_rfl) Tryz.underlying62 h
  match cs, hl with
  | [c0, c1, c2, c3], _ =>
  obtain ⟨a0, e0, o0⟩ := (rdb_int Tryz.underlying3).at_ (part_f 0 h)
  obtain ⟨a1, e1, o1⟩ := slOk_rdb.at_ (part_f 1 h)
  obtain ⟨a2, e2, o2⟩ := (rdb_int Tryz.underlying3).at_ (part_f 2 h)
  obtain ⟨a3, e3, o3⟩ := (rdb_slice Tryz.underlying56 (by kernel_rfl) (rdb_int Tryz.underlying3)).at_ (part_f 3 h)
  simp [Cl.cells] at e0 e1 e2 e3
  subst e0 e1 e2 e3
  exact ⟨⟨a0, a1, a2, a3⟩, rfl, o0, o1, o2, o3⟩
end Go.Proofs.YtnlfohlngapkfaaGreatDoor
namespace Go.Proofs.YtnlfohlngapkfaaGreatDoor
open Go Go.X
open Go.ChangeShapes Go.WideShapes Go.ChangeAt Go.RowKit
set_option linter.unusedVariables false
set_option maxHeartbeats 1600000 in
set_option maxRecDepth 100000 in
theorem contractJournalKeeps (H : Type) (enc : TypeId × Value → H) (W : World) (base : Nat) (args : Array Value) (ds gs : List (DataW H)) (before : List MemPlace)
    (hval0 : ∀ (j : Nat) t v, Tryz.f6.params[j]? = some t → args[j]? = some v → Value.okWide Tryz.prog W .any base t v)
    (hW : DataW.Whole enc Tryz.prog Tryz.f6.params.toList Rows.journalKeepsSpec.vars false W args.toList ds gs before) (hL : laidMetH Tryz.prog Rows.journalKeepsRow.laid W) :
    Calls Tryz.prog 6 args W fun e W' => ∃ v, e = .returned v ∧ Rows.journalKeepsSpec.post enc Tryz.prog Tryz.f6 false true false false W args v W' := by
  have hval : ∀ (j : Nat) t v, Tryz.f6.params[j]? = some t → args[j]? = some v → Value.okWide Tryz.prog W .any base t v := hval0
  have hW' := hW
  obtain ⟨p, q, hA0, hV, rfl, hfz, hnd⟩ := hW
  have hA : DataW.TrodAll enc Tryz.prog W 0 (fun _ => true) true Tryz.f6.params.toList args.toList ds p := hA0
  rw [Tryz.params6] at hA hval
  obtain ⟨v0, vs0, d0, ds0, p0, q0, hargs, rfl, rfl, h0, r0⟩ := trodAll_cons hA
  obtain ⟨v1, vs1, d1, ds1, p1, q1, rfl, rfl, rfl, h1, r1⟩ := trodAll_cons r0
  obtain ⟨rfl, rfl, rfl⟩ := trodAll_nil r1
  obtain rfl : args = #[v0, v1] := by cases args; simp_all
  obtain ⟨rfl, rfl⟩ := trodVars_none hV
  have k0 := h0
  have lt0 : ∀ x ∈ p0, x.block < W.heap.size := by obtain ⟨m, hm⟩ := k0; exact DataW.trod_lt m _ _ _ hm
  have k1 := h1
  have lt1 : ∀ x ∈ p1, x.block < W.heap.size := by obtain ⟨m, hm⟩ := k1; exact DataW.trod_lt m _ _ _ hm
  obtain ⟨a0, rfl, e1_0, e2_0, w0⟩ := open_int Tryz.underlying3 (hval 0 3 v0 rfl rfl) h0
  obtain ⟨a1, len1, cap1, rfl⟩ := okWide_slice Tryz.underlying60 (hval 1 60 v1 rfl rfl)
  obtain ⟨xs1, rfl, gl1, gm1, gA1, gx1⟩ := open_slm (α := Opv) Tryz.underlying60 (by kernel_rfl) opOk_rdb rfl h1
  obtain ⟨ep, hEp⟩ := err_laid hL
  refine (calls_of_con (keeps_law a0 xs1 a1 cap1 roundK ep (allOf W) (i64_wf w0) gA1 gx1 (round_laid hL) roundK_len hEp) fun _ _ _ h => h).mono fun e W' ⟨he, bel⟩ => ?_
  subst he
  exact ⟨_, rfl, _, _, _, [], _, [], hW', trodAll_mk1 (shut_bool Tryz.underlying4 _), (trodAll_cons_mk (Below.trod laidOut (by kernel_rfl) (of_decide_eq_true (by kernel_rfl)) k0 bel lt0) (trodAll_cons_mk (Below.trod laidOut (by kernel_rfl) (of_decide_eq_true (by kernel_rfl)) k1 bel lt1) trodAll_mk0)), rfl, bel.frame _, fun h => by cases h⟩
theorem laid_metJournalKeeps (os : Os) : laidMet Tryz.prog Rows.journalKeepsRow.laid ((laidWorld os).forCall (fun _ _ => 0) ⟨#[], #[.int .i64 0, .slice none 0 0], []⟩).memory :=
  laidMet_of_run' 8 (by kernel_rfl) (by kernel_rfl)
theorem readsJournalKeeps (os : Os) {H : Type} (enc : TypeId × Value → H) : ∃ places, DataW.whole enc Tryz.prog ((laidWorld os).forCall (fun _ _ => 0) ⟨#[], #[.int .i64 0, .slice none 0 0], []⟩).memory Tryz.f6.params.toList Rows.journalKeepsSpec.vars false (#[.int .i64 0, .slice none 0 0] : Array Value).toList 8 = some ([.lit (.int .i64 0), .nil], [], places) :=
  ⟨[], by kernel_rfl⟩
set_option maxRecDepth 100000 in
theorem liftedJournalKeeps (os : Os) (started : os.Started) (H : Type) (enc : TypeId × Value → H) (F : Stop.Interp) :
    ReturnsInHanded {} Tryz.checked os 6 .any ((OpenSpec.ofChange Rows.journalKeepsSpec).preRow enc Tryz.prog Tryz.f6 Rows.journalKeepsRow.domain false Rows.journalKeepsRow.laid) (((OpenSpec.ofChange Rows.journalKeepsSpec).at F).post enc Tryz.prog Tryz.f6 false true false false) := by
  obtain ⟨places, hx⟩ := readsJournalKeeps os enc
  refine returnsInHanded_of_row (C := Tryz.checked) (s := OpenSpec.ofChange Rows.journalKeepsSpec) own started (by kernel_rfl) Tryz.func6
    (witness_row_at (enc := enc) (C := Tryz.checked) false (laidWorld os) #[.int .i64 0, .slice none 0 0] rfl (by kernel_rfl) (by kernel_rfl) (by kernel_rfl)
      (OpenSpec.preRow_of_cond 8 hx (by kernel_rfl) (fun k hk => by cases hk) (by kernel_rfl) (laid_metJournalKeeps os))) ?_
  intro W base args ds gs before hval hW c1 c2 c3 hL c4 c5
  exact contractJournalKeeps H enc W base args ds gs before hval hW hL
theorem saidJournalKeeps : Rows.JournalKeepsSaid :=
  OpenClaim.holds_of_cond 6 Tryz.f6 rfl rfl rfl rfl rfl rfl rfl ⟨rfl, rfl, rfl, rfl, rfl⟩ rfl rfl rfl rfl rfl (by kernel_rfl) Tryz.func6 (by kernel_rfl)
    (of_decide_eq_true (by kernel_rfl)) (by unfold Func.isWrapper; rw [if_neg (of_decide_eq_false (by kernel_rfl))]; exact ⟨rfl, rfl⟩)
    (fun os started H enc _ F => by rw [OpenClaim.pre_eq_preRow]; exact liftedJournalKeeps os started H enc F)
theorem plainJournalKeeps (f : FuncId) (fn : Func) (hf : Tryz.pinned.checked.prog.funcNamed "latecomer/latecomerlaw33.JournalKeeps" = some f) (hfn : Tryz.pinned.checked.prog.funcs[f]? = some fn) :
    true = Tryz.pinned.checked.prog.looks [] ∧ ∀ (j : Nat) t, fn.params[j]? = some t → Tryz.pinned.checked.prog.wantsStandIn t = false := by
  obtain rfl : f = 6 := Option.some.inj ((show Tryz.prog.funcNamed "latecomer/latecomerlaw33.JournalKeeps" = some 6 by kernel_rfl).symm.trans hf) |>.symm
  obtain rfl : fn = Tryz.f6 := (Option.some.inj (Tryz.func6.symm.trans hfn)).symm
  refine ⟨by kernel_rfl, fun j t ht => ?_⟩
  rw [Tryz.params6] at ht
  have hm := Array.mem_of_getElem? ht
  simp only [List.mem_toArray, List.mem_cons, List.not_mem_nil, or_false] at hm
  rcases hm with rfl | rfl
  · exact (show Tryz.prog.wantsStandIn 3 = false by kernel_rfl)
  · exact (show Tryz.prog.wantsStandIn 60 = false by kernel_rfl)
theorem journalKeeps_holds : Rows.JournalKeepsCardSaid :=
  Claim7.holds_tied_plain_at .later [] _ _ _ _ saidJournalKeeps (fun _ h => by cases h) (by kernel_rfl) (fun _ h => by cases h) journalKeeps_row_tie rfl ⟨rfl, rfl⟩ (by kernel_rfl) rfl plainJournalKeeps (by kernel_rfl)
#print axioms journalKeeps_holds
end Go.Proofs.YtnlfohlngapkfaaGreatDoor
