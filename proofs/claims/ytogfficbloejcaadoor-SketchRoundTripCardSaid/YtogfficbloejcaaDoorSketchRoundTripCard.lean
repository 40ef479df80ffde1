/- SketchRoundTrip returns true for every input, and each argument reads afterwards as it read before; the one listed package variable starts as the program's text lays it, and the given tie to the text is used. -/
import Derived.Test.YtogfficbloejcaaDoorBa
import Derived.Test.YtogfficbloejcaaDoorXB
import Derived.Test.YtogfficbloejcaaDoorXA
import Derived.Test.YtogfficbloejcaaDoorBb
import Derived.Test.YtogfficbloejcaaDoorBc
import Derived.Test.YtogfficbloejcaaDoorRows
import Derived.Lib.LaidTab
import Derived.Deep.DeepHandedRow
import Derived.OpenShut
import Derived.ProofKit
import Derived.Test.YtogfficbloejcaaDoorCards
import Derived.Test.YtogfficbloejcaaDoorTie
namespace Go.Proofs.YtogfficbloejcaaDoor
open Go Go.X
set_option maxRecDepth 10000
set_option linter.unusedVariables false
attribute [local irreducible] Code.wpIn wpListIn Exit.then Exit.inBlock X.Out X.Back X.W X.Ev X.Con X.BinV X.Wh X.Wn X.Wq
theorem groups_con (z : Nat) (S : SH) : Con Tryd.prog 89 #[.int .u64 z] S [] (fun S' L' v => S' = S ∧ ∃ b, v = .func (.func 94) #[] #[.pointer (some ⟨b, 0, none⟩)] ∧ L' = [(b, .cells [.int .u64 z].toArray 101 (0, 0))]) := by
  refine con_of (args := [.int .u64 z]) Tryd.func89 rfl Tryd.ntmps89 rfl fun w => ?_
  (repeat (first | refine Jz ?_ | intro _))
  exact o_ret Tryd.results89 rfl (by repeat (first | exact List.Sublist.refl _ | exact List.Sublist.slnil | exact List.nil_sublist _ | exact List.sublist_append_left _ _ | refine List.Sublist.cons_cons _ ?_ | refine List.Sublist.append (List.Sublist.refl _) ?_ | refine List.Sublist.cons _ ?_ | refine List.Sublist.trans ?_ (List.sublist_append_right _ _))) ⟨rfl, _, rfl, rfl⟩
/-- The byte of a group. -/
def gby (z : Nat) : UInt8 := UInt8.ofNat (if z < 128 then z else z % 128 + 128)
theorem enc_gby_lt {z : Nat} (h : z < 128) : enc z = [gby z] := by rw [enc_lt h, gby, if_pos h]
theorem enc_gby_ge {z : Nat} (h : 128 ≤ z) : enc z = gby z :: enc (z / 128) := by rw [enc_ge h, gby, if_neg (by omega)]
theorem groups1_con {l r : Nat} {fn : FuncId} {tmps : Array Value} {ps : Array Tmp} {assign body : Code} (hps : ps.size = 2) (I : Bs → Blocks → Prop) (hI : ∀ x L, I x L → (l, rec0 fn tmps ps assign body r .ready none) ∈ L) (bz : Nat) (S : SH)
    (hR : ∀ x (z : Nat) L, z < 18446744073709551616 → I x L → x.length ≤ 64 → RdR Tryd.prog l fn ((ps.zip #[.int .u8 ((z % 128 : Nat) : Int), .bool (decide (z < 128))]).foldl (fun t (p : Tmp × Value) => t.setIfInBounds p.1 p.2) tmps) assign body S L (fun S' L' => S' = S ∧ I (x ++ [gby z]) L') true)
    (z : Nat) (hz : z < 18446744073709551616) (L0 : Blocks) (h0 : I [] L0) :
    Con Tryd.prog 94 #[.func (.yield l) #[] #[], .pointer (some ⟨bz, 0, none⟩)] S ((bz, .cells [.int .u64 z].toArray 101 (0, 0)) :: L0) (fun S' L' v => S' = S ∧ I (enc z) L') := by
  refine con_of (args := [.func (.yield l) #[] #[], .pointer (some ⟨bz, 0, none⟩)]) Tryd.func94 rfl Tryd.ntmps94 rfl fun w => ?_
  have hz10 : (enc z).length ≤ 10 := enc_len 9 z (Nat.lt_trans hz (by decide))
  (repeat (first | refine Jz ?_ | intro _))
  refine c_loop (fun m S' L F => S' = S ∧ ∃ x L1, enc z = x ++ enc m ∧ m < 18446744073709551616 ∧ I x L1 ∧ L = (bz, .cells [.int .u64 m].toArray 101 (0, 0)) :: L1 ∧
      F = [(0, .func (.yield l) #[] #[]), (1, .pointer (some ⟨bz, 0, none⟩))]) ⟨rfl, [], L0, rfl, hz, h0, rfl, rfl⟩ (by repeat (first | exact Sub.nil rfl | exact Sub.marked rfl | refine Sub.cons rfl ?_)) (List.Sublist.refl _) ?_
  rintro m S' L F ⟨rfl, x, L1, hx, hm, hi, rfl, rfl⟩
  have hxl : x.length ≤ 64 := by
    have := congrArg List.length hx
    rw [List.length_append] at this
    omega
  have hand : BinV Tryd.prog .and .u64 (m : Int) 127 (.int .u64 ((m % 128 : Nat) : Int)) := by
    have := bv_and64 (P := Tryd.prog) (n := 127) hm (by decide)
    rw [show m &&& 127 = m % 128 from Nat.and_two_pow_sub_one_eq_mod m 7] at this
    exact this
  have hshr : (m : Int) / 2 ^ 7 = ((m / 128 : Nat) : Int) := by rw [show (2 : Int) ^ 7 = 128 from rfl]; exact (Int.natCast_ediv m 128).symm
  have hw8 : IntKind.u8.wrap ((m % 128 : Nat) : Int) = ((m % 128 : Nat) : Int) := by rw [wrap_u8]; omega
  by_cases hlt : m < 128
  · have hd : decide (m < 128) = true := decide_eq_true hlt
    have hr := hR x m L1 hm hi hxl
    rw [hd] at hr
    rw [enc_gby_lt hlt] at hx
    (repeat (first | refine Jc ?_ | (apply s_bin; (case hg => rfl); (case hd => rfl); (case hx => rfl); (case hy => rfl); (case hb => exact hand)) | (apply s_evb; (case hg => rfl); (case hd => rfl); (case hn => rfl); (case he => (apply ev_convw; (case hx => rfl); (case hw => exact hw8)))) | (apply s_yieldR; (case hg => rfl); (case hd => rfl); (case hx => rfl); (case ha => rfl); (case hL => exact List.perm_append_comm (l₁ := [_])); (case hm => exact hI _ _ hi); (case hp => exact hps.symm); (case hc => exact hr); rintro S2 L2 ⟨rfl, hi2⟩) | refine Jo ?_ | intro _))
    exact o_ret0 (.inl rfl) Tryd.results94 (List.sublist_append_left _ _) ⟨rfl, by rw [hx]; exact hi2⟩
  · have hd : decide (m < 128) = false := decide_eq_false hlt
    have hr := hR x m L1 hm hi hxl
    rw [hd] at hr
    rw [enc_gby_ge (z := m) (by omega)] at hx
    (repeat (first | refine Jc ?_ | (apply s_bin; (case hg => rfl); (case hd => rfl); (case hx => rfl); (case hy => rfl); (case hb => exact hand)) | (apply s_evb; (case hg => rfl); (case hd => rfl); (case hn => rfl); (case he => (apply ev_convw; (case hx => rfl); (case hw => exact hw8)))) | (apply s_evb; (case hg => rfl); (case hd => rfl); (case hn => rfl); (case he => (apply ev_shr (c := 7); (case hx => rfl); (case hy => rfl); (case hc => decide); (case hr => exact hshr)))) | (apply s_yieldR; (case hg => rfl); (case hd => rfl); (case hx => rfl); (case ha => rfl); (case hL => exact List.perm_append_comm (l₁ := [_])); (case hm => exact hI _ _ hi); (case hp => exact hps.symm); (case hc => exact hr); rintro S2 L2 ⟨rfl, hi2⟩) | refine Jo ?_ | intro _))
    refine W.perm ?_ (List.perm_append_comm (l₂ := [_]))
    exact q_back (m' := m / 128) ⟨rfl, x ++ [gby m], L2, by rw [hx, List.append_assoc]; rfl, by omega, hi2, rfl, rfl⟩ (by omega) (by repeat (first | exact Sub.nil rfl | exact Sub.marked rfl | refine Sub.cons rfl ?_)) (List.Sublist.refl _)
/-- What PutInt answers. -/
def putV (n : Int) : Value := if wOk n then .tuple #[strV (ibs n), .int .i64 0] else .tuple #[strV [], .int .i64 10]
theorem u64_zig {n : Int} (h : wOk n) : ∃ (u u2 v : Nat) (s : Int), IntKind.u64.wrap n = (u : Int) ∧ (u * 2 ^ 1) % 18446744073709551616 = u2 ∧ n / 2 ^ 63 = s ∧ IntKind.u64.wrap s = (v : Int) ∧ u2 < 18446744073709551616 ∧ v < 18446744073709551616 ∧ u2 ^^^ v = zig n := by
  simp only [wrap_u64]
  rw [show (2 : Int) ^ 63 = 9223372036854775808 from rfl]
  unfold wOk at h
  unfold zig
  by_cases h0 : n < 0
  · refine ⟨(18446744073709551616 + n).toNat, (18446744073709551616 + 2 * n).toNat, 18446744073709551615, -1, by omega, by omega, by omega, by omega, by omega, by decide, ?_⟩
    rw [if_pos h0, xor_ones (by omega)]; omega
  · refine ⟨n.toNat, (2 * n).toNat, 0, 0, by omega, by omega, by omega, by omega, by omega, by decide, ?_⟩
    rw [if_neg h0, Nat.xor_zero]
theorem PutInt_con (n : Int) (S : SH) (hn : -9223372036854775808 ≤ n ∧ n ≤ 9223372036854775807) : Con Tryd.prog 66 #[.int .i64 n] S [] (Pure S (putV n)) := by
  refine con_of (args := [.int .i64 n]) Tryd.func66 rfl Tryd.ntmps66 rfl fun w => ?_
  by_cases hw : wOk n
  rotate_left
  · rw [putV, if_neg hw]
    unfold wOk at hw
    by_cases h1 : n < -4611686018427387903
    · (repeat (first | refine Jz ?_ | intro _))
      exact o_ret2 (L' := []) Tryd.results66 rfl rfl (List.nil_sublist _) ⟨rfl, rfl, rfl⟩
    · (repeat (first | refine Jz ?_ | intro _))
      exact o_ret2 (L' := []) Tryd.results66 rfl rfl (List.nil_sublist _) ⟨rfl, rfl, rfl⟩
  rw [putV, if_pos hw]
  have hw' := hw
  unfold wOk at hw'
  obtain ⟨u, u2, v, s, c1, c2, c3, c4, c5, c6, c7⟩ := u64_zig hw
  have hx := bv_xor64 (P := Tryd.prog) c5 c6
  rw [c7] at hx
  (repeat (first | refine Jc ?_ | (apply s_evb; (case hg => rfl); (case hd => rfl); (case hn => rfl); (case he => (apply ev_convw; (case hx => rfl); (case hw => first | exact c1 | exact c4)))) | (apply s_evb; (case hg => rfl); (case hd => rfl); (case hn => rfl); (case he => (apply ev_shlw (c := 1); (case hx => rfl); (case hy => rfl); (case hc => decide); (case hr => exact c2)))) | (apply s_evb; (case hg => rfl); (case hd => rfl); (case hn => rfl); (case he => (apply ev_shr (c := 63); (case hx => rfl); (case hy => rfl); (case hc => decide); (case hr => exact c3)))) | (apply s_bin; (case hg => rfl); (case hd => rfl); (case hx => rfl); (case hy => rfl); (case hb => exact hx)) | ((apply s_call; (case hg => rfl); (case hd => rfl); (case ha => rfl); (case hc => exact groups_con (zig n) _); (case hL => (repeat (first | exact pm_nil _ | exact pm_refl _ _ | exact pm_self _ | apply pm_cons | apply pm_app))); rintro S1 L1 v1 - ⟨rfl, bz, rfl, rfl⟩)) | refine Jo ?_ | intro _))
  rename_i b2
  refine W.trim (F' := [(4, .pointer (some ⟨b2, 0, none⟩)), (20, .func (.func 94) #[] #[.pointer (some ⟨bz, 0, none⟩)])]) (L' := [(bz, .cells [.int .u64 (zig n)].toArray 101 (0, 0)), (b2, .cells [.slice none 0 0].toArray 60 (0, 0))]) (by repeat (first | exact Sub.nil rfl | exact Sub.marked rfl | refine Sub.cons rfl ?_)) (by repeat (first | exact List.Sublist.refl _ | exact List.Sublist.slnil | exact List.nil_sublist _ | exact List.sublist_append_left _ _ | refine List.Sublist.cons_cons _ ?_ | refine List.Sublist.append (List.Sublist.refl _) ?_ | refine List.Sublist.cons _ ?_ | refine List.Sublist.trans ?_ (List.sublist_append_right _ _))) ?_
  refine c_rangeFunc (caps := [.pointer (some ⟨bz, 0, none⟩)]) rfl rfl fun r l fn tmps hfm => ?_
  generalize hrec : rec0 fn tmps _ _ _ r LoopState.ready none = o
  obtain ⟨I, hI⟩ : ∃ I : Bs → Blocks → Prop, I = fun x L => ∃ v ob, Ows 5 v x ob ∧ L = (l, o) :: (b2, .cells [v].toArray 60 (0, 0)) :: ob := ⟨_, rfl⟩
  have hmem : ∀ x L, I x L → (l, o) ∈ L := fun x L h => by rw [hI] at h; obtain ⟨v, ob, -, rfl⟩ := h; exact List.mem_cons_self
  rw [← hrec] at hmem
  have hzb := zig_bd hw
  refine ⟨(bz, .cells [.int .u64 (zig n)].toArray 101 (0, 0)) :: (l, o) :: [(b2, .cells [.slice none 0 0].toArray 60 (0, 0))], [(r, .deferred (some []))], fun S' L' v => S' = S1 ∧ I (enc (zig n)) L', ?_, ?_, ?_⟩
  · exact ((List.perm_append_comm (l₁ := [_]) (l₂ := [_, _])).cons _).trans (List.Perm.swap _ _ _)
  · refine groups1_con rfl I hmem bz _ ?_ (zig n) (by omega) _ (by rw [hI]; exact ⟨_, _, Ows.nil 5, rfl⟩)
    intro x z L hz hx hxl
    rw [hI] at hx
    obtain ⟨v, ob, ho, rfl⟩ := hx
    have hfm' := (hfm.put (d := 21) (.int .u8 ((z % 128 : Nat) : Int)) rfl).put (d := 22) (.bool (decide (z < 128))) rfl
    have hfm2 : Fm 33 { tmps := (#[21, 22].zip #[Value.int .u8 ((z % 128 : Nat) : Int), .bool (decide (z < 128))]).foldl (fun t (p : Tmp × Value) => t.setIfInBounds p.1 p.2) tmps, defers := [] } [(22, .bool (decide (z < 128))), (21, .int .u8 ((z % 128 : Nat) : Int)), (4, .pointer (some ⟨b2, 0, none⟩)), (20, .func (.func 94) #[] #[.pointer (some ⟨bz, 0, none⟩)])] := by simpa [Act.put] using hfm'
    rw [← hrec]
    refine rd_ofR hfm2 fun w' => ?_
    by_cases hlt : z < 128
    · rw [decide_eq_true hlt]
      have e : ((z % 128 : Nat) : Int) = ((gby z).toNat : Int) := by rw [gby, if_pos hlt, u8_nat (by omega)]; omega
      rw [e]
      (repeat (first | refine Jz ?_ | intro _))
      apply r_begin
      (repeat (first | refine Jc ?_ | (apply s_append (ms := [gby z]); (case hg => rfl); (case hd => rfl); (case hx => rfl); (case ho => exact ho); (case hL => (repeat (first | exact pm_nil _ | exact pm_refl _ _ | exact pm_self _ | apply pm_cons | apply pm_app))); (case hy => rfl); (case hm => rfl); (case hs => (apply Src.own; (repeat (first | exact List.Mem.head _ | apply List.Mem.tail | apply List.mem_append_right)))); (case hzs => rfl); (case h0 => decide); (case hb => (simp; omega)); (case h63 => (simp; omega)); intro v' ob' ho'; obtain ⟨A', c', rfl⟩ := ho'.form) | refine Jo ?_ | intro _))
      refine W.perm ?_ (List.perm_append_comm.trans (List.Perm.swap _ _ _))
      refine r_end (L' := (b2, .cells [.slice A' (x ++ [gby z]).length c'].toArray 60 (0, 0)) :: ob') ((List.Sublist.refl _).cons _) fun w'' hs => ⟨rfl, S1, _, ⟨rfl, by rw [hI]; exact ⟨_, _, ho', rfl⟩⟩, ?_⟩
      rw [hrec] at hs
      exact hs
    · rw [decide_eq_false hlt]
      have hor : BinV Tryd.prog .or .u8 ((z % 128 : Nat) : Int) 128 (.int .u8 ((gby z).toNat : Int)) := by
        have := bv_or8 (P := Tryd.prog) (m := z % 128) (n := 128) (by omega) (by decide)
        have e : z % 128 ||| 128 = (gby z).toNat := by
          rw [gby, if_neg hlt, u8_nat (by omega), Nat.or_comm]
          have := Nat.two_pow_add_eq_or_of_lt (i := 7) (b := z % 128) (by omega) 1
          rw [show 2 ^ 7 * 1 = 128 from rfl] at this
          rw [← this]; omega
        rw [e] at this
        exact this
      (repeat (first | refine Jz ?_ | intro _))
      apply r_begin
      (repeat (first | refine Jc ?_ | (apply s_bin; (case hg => rfl); (case hd => rfl); (case hx => rfl); (case hy => rfl); (case hb => exact hor)) | (apply s_append (ms := [gby z]); (case hg => rfl); (case hd => rfl); (case hx => rfl); (case ho => exact ho); (case hL => (repeat (first | exact pm_nil _ | exact pm_refl _ _ | exact pm_self _ | apply pm_cons | apply pm_app))); (case hy => rfl); (case hm => rfl); (case hs => (apply Src.own; (repeat (first | exact List.Mem.head _ | apply List.Mem.tail | apply List.mem_append_right)))); (case hzs => rfl); (case h0 => decide); (case hb => (simp; omega)); (case h63 => (simp; omega)); intro v' ob' ho'; obtain ⟨A', c', rfl⟩ := ho'.form) | refine Jo ?_ | intro _))
      refine W.perm ?_ (List.perm_append_comm.trans (List.Perm.swap _ _ _))
      refine r_end (L' := (b2, .cells [.slice A' (x ++ [gby z]).length c'].toArray 60 (0, 0)) :: ob') ((List.Sublist.refl _).cons _) fun w'' hs => ⟨rfl, S1, _, ⟨rfl, by rw [hI]; exact ⟨_, _, ho', rfl⟩⟩, ?_⟩
      rw [hrec] at hs
      exact hs
  · rintro S' L1' v hle ⟨rfl, hi⟩
    rw [hI] at hi
    obtain ⟨v1, ob, ho, rfl⟩ := hi
    rw [← hrec]
    refine ⟨.ready, none, (b2, .cells [v1].toArray 60 (0, 0)) :: (ob ++ [(r, .deferred (some []))]), List.Perm.refl _, by decide, ?_⟩
    obtain ⟨g, cap, tl, rfl, rfl, q1, q2, q3⟩ := ho.rowed (enc_pos _)
    (repeat (first | refine Jc ?_ | (apply s_evb; (case hg => rfl); (case hd => rfl); (case hn => rfl); (case he => (apply ev_str_row; (case hx => rfl); (case hm => (repeat (first | exact List.Mem.head _ | apply List.Mem.tail | apply List.mem_append_right))); (case hk => simp)))) | refine Jo ?_ | intro _))
    refine o_ret2m (L' := []) (L1 := [(b2, .cells [.slice (some ⟨g, 0, none⟩) (enc (zig n)).length cap].toArray 60 (0, 0)), (g, .cells (cellsOf (enc (zig n)) ++ tl).toArray 5 (0, 0))]) Tryd.results66 rfl rfl rfl ?_ (List.nil_sublist _) ⟨rfl, rfl, ?_⟩
    · exact List.perm_append_comm (l₁ := [_, _]) (l₂ := [_])
    · rw [List.drop_zero, List.take_length]; rfl
end Go.Proofs.YtogfficbloejcaaDoor
namespace Go.Proofs.YtogfficbloejcaaDoor
open Go Go.X
set_option maxRecDepth 10000
set_option linter.unusedVariables false
attribute [local irreducible] Code.wpIn wpListIn Exit.then Exit.inBlock X.Out X.Back X.W X.Ev X.Con X.BinV X.Wh X.Wn X.Wq
/-- What Int answers. -/
def intV (s : Bs) (at_ : Int) : Value :=
  if at_ < 0 ∨ (s.length : Int) < at_ then .tuple #[.int .i64 0, .int .i64 0, .int .i64 2]
  else match decI (s.drop at_.toNat) with
    | none => .tuple #[.int .i64 0, .int .i64 0, .int .i64 10]
    | some (n, k) => .tuple #[.int .i64 n, .int .i64 (at_ + k), .int .i64 0]
theorem pow128 (i : Nat) : 128 ^ i = 2 ^ (7 * i) := by rw [Nat.pow_mul]
theorem pow128_le {i : Nat} (h : i ≤ 8) : 128 ^ i ≤ 72057594037927936 := Nat.le_trans (Nat.pow_le_pow_right (by decide) h) (by decide)
/-- One more group. -/
theorem val_step {z m i : Nat} (hz : z < 128 ^ i) (hm : m < 128) (hi : i ≤ 8) : m * 2 ^ (7 * i) < 18446744073709551616 ∧ z ||| m * 2 ^ (7 * i) = z + m * 128 ^ i ∧ z + m * 128 ^ i < 9223372036854775808 ∧ z < 18446744073709551616 ∧ z + m * 128 ^ i < 128 ^ (i + 1) := by
  have h1 := pow128_le hi
  have h2 : m * 128 ^ i ≤ 127 * 128 ^ i := Nat.mul_le_mul_right _ (by omega)
  rw [← pow128]
  refine ⟨by omega, ?_, by omega, by omega, by rw [Nat.pow_succ]; omega⟩
  have := Nat.two_pow_add_eq_or_of_lt (i := 7 * i) (b := z) (by rw [← pow128]; exact hz) m
  rw [← pow128, Nat.mul_comm] at this
  rw [Nat.or_comm, ← this, Nat.add_comm]
set_option maxHeartbeats 1600000 in
theorem Int_con (s : Bs) (at_ : Int) (S : SH) (hs : s.length ≤ 9223372036854775807) : Con Tryd.prog 70 #[strV s, .int .i64 at_] S [] (Pure S (intV s at_)) := by
  refine con_of (args := [strV s, .int .i64 at_]) Tryd.func70 rfl Tryd.ntmps70 rfl fun w => ?_
  by_cases h1 : at_ < 0
  · rw [intV, if_pos (.inl h1)]
    (repeat (first | refine Jz ?_ | intro _))
    exact o_ret3 (L' := []) Tryd.results70 rfl rfl rfl (List.nil_sublist _) ⟨rfl, rfl, rfl⟩
  by_cases h2 : (s.length : Int) < at_
  · rw [intV, if_pos (.inr h2)]
    (repeat (first | refine Jc ?_ | (apply s_evb; (case hg => rfl); (case hd => rfl); (case hn => rfl); (case he => (apply ev_len_b; rfl))) | refine Jo ?_ | intro _))
    exact o_ret3 (L' := []) Tryd.results70 rfl rfl rfl (List.nil_sublist _) ⟨rfl, rfl, rfl⟩
  obtain ⟨p, rfl⟩ : ∃ p : Nat, at_ = p := ⟨at_.toNat, by omega⟩
  rw [intV, if_neg (by omega), Int.toNat_natCast]
  (repeat (first | refine Jc ?_ | (apply s_evb; (case hg => rfl); (case hd => rfl); (case hn => rfl); (case he => (apply ev_len_b; rfl))) | refine Jo ?_ | intro _))
  generalize hl : s.drop p = l
  have hll : l.length = s.length - p := by rw [← hl, List.length_drop]
  have hat : ∀ i, l[i]? = s[p + i]? := fun i => by rw [← hl, List.getElem?_drop]
  refine c_loop (fun m S' L F => S' = S ∧ ∃ i z : Nat, m = 9 - i ∧ i ≤ 9 ∧ i ≤ l.length ∧ (∀ c ∈ l.take i, 128 ≤ c.toNat) ∧ z = val (l.take i) ∧ z < 128 ^ i ∧ L = [] ∧
      F = [(19, .int .i64 i), (7, .int .u64 z), (0, strV s), (1, .int .i64 p)]) ⟨rfl, 0, 0, rfl, by omega, by omega, by simp, by simp [val], by simp, rfl, rfl⟩ (by repeat (first | exact Sub.nil rfl | exact Sub.marked rfl | refine Sub.cons rfl ?_)) (by repeat (first | exact List.Sublist.refl _ | exact List.Sublist.slnil | exact List.nil_sublist _ | exact List.sublist_append_left _ _ | refine List.Sublist.cons_cons _ ?_ | refine List.Sublist.append (List.Sublist.refl _) ?_ | refine List.Sublist.cons _ ?_ | refine List.Sublist.trans ?_ (List.sublist_append_right _ _))) ?_
  rintro m S' L F ⟨rfl, i, z, rfl, hi9, hil, hhi, hz, hzl, rfl, rfl⟩
  by_cases h9 : i < 9
  rotate_left
  · rw [decI_none hhi (.inl (by omega))]
    (repeat (first | refine Jz ?_ | intro _))
    exact o_ret3 (L' := []) Tryd.results70 rfl rfl rfl (List.nil_sublist _) ⟨rfl, rfl, rfl⟩
  by_cases hlt : p + i < s.length
  rotate_left
  · rw [decI_none hhi (.inr (by omega))]
    (repeat (first | refine Jc ?_ | (apply s_evb; (case hg => rfl); (case hd => rfl); (case hn => rfl); (case he => (apply ev_len_b; rfl))) | refine Jo ?_ | intro _))
    exact o_ret3 (L' := []) Tryd.results70 rfl rfl rfl (List.nil_sublist _) ⟨rfl, rfl, rfl⟩
  obtain ⟨b, hb⟩ : ∃ b, s[p + i]? = some b := ⟨s[p + i], List.getElem?_eq_getElem hlt⟩
  have hbl : l[i]? = some b := by rw [hat, hb]
  have hb256 := b.toNat_lt
  obtain ⟨v1, v2, v3, v4, v5⟩ := val_step hzl (m := b.toNat % 128) (by omega) (show i ≤ 8 by omega)
  have hand : BinV Tryd.prog .and .u8 (b.toNat : Int) 127 (.int .u8 ((b.toNat % 128 : Nat) : Int)) := by
    have := bv_and8 (P := Tryd.prog) (m := b.toNat) (n := 127) (by omega) (by decide)
    rw [show b.toNat &&& 127 = b.toNat % 128 from Nat.and_two_pow_sub_one_eq_mod _ 7] at this
    exact this
  have hw1 : IntKind.u64.wrap ((b.toNat % 128 : Nat) : Int) = ((b.toNat % 128 : Nat) : Int) := wrap_u64_in (by omega)
  have hor : BinV Tryd.prog .or .u64 (z : Int) ((b.toNat % 128 * 2 ^ (7 * i) : Nat) : Int) (.int .u64 ((z + b.toNat % 128 * 128 ^ i : Nat) : Int)) := by
    have := bv_or64 (P := Tryd.prog) v4 v1
    rw [v2] at this
    exact this
  have htk : l.take (i + 1) = l.take i ++ [b] := by rw [List.take_add_one, hbl]; rfl
  have hlen : (l.take i).length = i := by rw [List.length_take]; omega
  have hz2 : z + b.toNat % 128 * 128 ^ i = val (l.take (i + 1)) := by rw [htk, val_snoc, hlen, ← hz]
  have hlast := fun h => decI_last (l := l) hhi h9 hbl h _ (by rw [← hz])
  generalize z + b.toNat % 128 * 128 ^ i = y at *
  have hand1 : BinV Tryd.prog .and .u64 (y : Int) 1 (.int .u64 ((y % 2 : Nat) : Int)) := by
    have := bv_and64 (P := Tryd.prog) (m := y) (n := 1) (by omega) (by decide)
    rw [Nat.and_one_is_mod] at this
    exact this
  have hsh : (y : Int) / 2 ^ 1 = ((y / 2 : Nat) : Int) := by rw [show (2 : Int) ^ 1 = 2 from rfl]; exact (Int.natCast_ediv y 2).symm
  have hw2 : IntKind.i64.wrap ((y / 2 : Nat) : Int) = ((y / 2 : Nat) : Int) := w64_in (by omega)
  have hw3 : IntKind.i64.wrap ((y % 2 : Nat) : Int) = ((y % 2 : Nat) : Int) := w64_in (by omega)
  by_cases hhb : 128 ≤ b.toNat
  · (repeat (first | refine Jc ?_ | (apply s_evb; (case hg => rfl); (case hd => rfl); (case hn => rfl); (case he => (apply ev_len_b; rfl))) | (apply s_evb; (case hg => rfl); (case hd => rfl); (case hn => rfl); (case he => ((apply ev_index_b (k := p + i); (case hx => rfl); (case hi => rfl); (case hu => exact hb))))) | (apply s_bin; (case hg => rfl); (case hd => rfl); (case hx => rfl); (case hy => rfl); (case hb => first | exact hand | exact hor | exact hand1)) | (apply s_evb; (case hg => rfl); (case hd => rfl); (case hn => rfl); (case he => (apply ev_convw; (case hx => rfl); (case hw => first | exact hw1 | exact hw2 | exact hw3)))) | (apply s_evb; (case hg => rfl); (case hd => rfl); (case hn => rfl); (case he => (apply ev_shl64 (c := 7 * i); (case hx => rfl); (case hy => rfl); (case hc => omega); (case h => exact v1)))) | (apply s_evb; (case hg => rfl); (case hd => rfl); (case hn => rfl); (case he => (apply ev_shr (c := 1); (case hx => rfl); (case hy => rfl); (case hc => decide); (case hr => exact hsh)))) | refine Jo ?_ | intro _))
    refine q_back (m' := 9 - (i + 1)) ⟨rfl, i + 1, y, rfl, by omega, by omega, ?_, hz2, v5, rfl, rfl⟩ (by omega) (by repeat (first | exact Sub.nil rfl | exact Sub.marked rfl | refine Sub.cons rfl ?_)) (by repeat (first | exact List.Sublist.refl _ | exact List.Sublist.slnil | exact List.nil_sublist _ | exact List.sublist_append_left _ _ | refine List.Sublist.cons_cons _ ?_ | refine List.Sublist.append (List.Sublist.refl _) ?_ | refine List.Sublist.cons _ ?_ | refine List.Sublist.trans ?_ (List.sublist_append_right _ _)))
    intro c hc
    rw [htk] at hc
    rcases List.mem_append.1 hc with hc | hc
    · exact hhi c hc
    · rw [List.mem_singleton.1 hc]; exact hhb
  rw [hlast (by omega)]
  have hub : -4611686018427387904 ≤ unzig y ∧ unzig y ≤ 4611686018427387903 := by unfold unzig; split <;> omega
  have hxor : BinV Tryd.prog .xor .i64 ((y / 2 : Nat) : Int) (-((y % 2 : Nat) : Int)) (.int .i64 (unzig y)) := by
    unfold unzig
    by_cases h : y % 2 = 1
    · rw [if_pos h, h, show -((y / 2 : Nat) : Int) - 1 = -1 - ((y / 2 : Nat) : Int) by omega]
      exact bv_xor_m1 (by omega)
    · rw [if_neg h, show y % 2 = 0 by omega]
      exact bv_xor_0 (by omega)
  generalize unzig y = n at *
  by_cases hb0 : b.toNat = 0 <;> by_cases hi0 : 0 < i <;> by_cases hn : n < -4611686018427387903
  all_goals first | rw [if_pos ⟨by omega, by unfold wOk; omega⟩] | rw [if_neg (fun h => by have := h.1; have := h.2; unfold wOk at this; omega)]
  all_goals (repeat (first | refine Jc ?_ | (apply s_evb; (case hg => rfl); (case hd => rfl); (case hn => rfl); (case he => (apply ev_len_b; rfl))) | (apply s_evb; (case hg => rfl); (case hd => rfl); (case hn => rfl); (case he => ((apply ev_index_b (k := p + i); (case hx => rfl); (case hi => rfl); (case hu => exact hb))))) | (apply s_bin; (case hg => rfl); (case hd => rfl); (case hx => rfl); (case hy => rfl); (case hb => first | exact hand | exact hor | exact hand1 | exact hxor)) | (apply s_evb; (case hg => rfl); (case hd => rfl); (case hn => rfl); (case he => (apply ev_convw; (case hx => rfl); (case hw => first | exact hw1 | exact hw2 | exact hw3)))) | (apply s_evb; (case hg => rfl); (case hd => rfl); (case hn => rfl); (case he => (apply ev_shl64 (c := 7 * i); (case hx => rfl); (case hy => rfl); (case hc => omega); (case h => exact v1)))) | (apply s_evb; (case hg => rfl); (case hd => rfl); (case hn => rfl); (case he => (apply ev_shr (c := 1); (case hx => rfl); (case hy => rfl); (case hc => decide); (case hr => exact hsh)))) | refine Jo ?_ | intro _))
  all_goals first | exact o_ret3 (L' := []) Tryd.results70 rfl rfl rfl (List.nil_sublist _) ⟨rfl, rfl, rfl⟩ | exact o_ret3 (L' := []) Tryd.results70 rfl rfl rfl (List.nil_sublist _) ⟨rfl, rfl, by simp only [Int.natCast_add]; rw [← Int.add_assoc]; rfl⟩
end Go.Proofs.YtogfficbloejcaaDoor
namespace Go.Proofs.YtogfficbloejcaaDoor
open Go Go.X
set_option maxRecDepth 10000
set_option linter.unusedVariables false
attribute [local irreducible] Code.wpIn wpListIn Exit.then Exit.inBlock X.Out X.Back X.W X.Ev X.Con X.BinV X.Wh X.Wn X.Wq
theorem zigzag_con (n : Int) (S : SH) (hw : wOk n) : Con Tryd.prog 95 #[.int .i64 n] S [] (Pure S (.int .u64 (zig n : Nat))) := by
  unfold wOk at hw
  refine con_of (args := [.int .i64 n]) Tryd.func95 rfl Tryd.ntmps95 rfl fun w => ?_
  by_cases h : n < 0
  · obtain ⟨m, rfl⟩ : ∃ m : Nat, n = -(m : Int) := ⟨(-n).toNat, by omega⟩
    have hc : IntKind.u64.wrap (- -(m : Int)) = (m : Int) := by rw [wrap_u64]; omega
    have hm : BinV Tryd.prog .mul .u64 (m : Int) 2 (.int .u64 ((m * 2 : Nat) : Int)) := bv_mulu64 (n := 2) (by omega)
    have hs : BinV Tryd.prog .sub .u64 ((m * 2 : Nat) : Int) 1 (.int .u64 ((zig (-(m : Int)) : Nat) : Int)) := by
      have := bv_subu64 (P := Tryd.prog) (m := m * 2) (n := 1) (by omega) (by omega)
      rw [show m * 2 - 1 = zig (-(m : Int)) by unfold zig; rw [if_pos h]; omega] at this
      exact this
    (repeat (first | refine Jc ?_ | (apply s_evb; (case hg => rfl); (case hd => rfl); (case hn => rfl); (case he => (apply ev_convw; (case hx => rfl); (case hw => exact hc)))) | (apply s_bin; (case hg => rfl); (case hd => rfl); (case hx => rfl); (case hy => rfl); (case hb => first | exact hm | exact hs)) | refine Jo ?_ | intro _))
    exact o_ret (L' := []) Tryd.results95 rfl (List.nil_sublist _) ⟨rfl, rfl, rfl⟩
  · obtain ⟨m, rfl⟩ : ∃ m : Nat, n = (m : Int) := ⟨n.toNat, by omega⟩
    have hc : IntKind.u64.wrap (m : Int) = (m : Int) := by rw [wrap_u64]; omega
    have hm : BinV Tryd.prog .mul .u64 (m : Int) 2 (.int .u64 ((zig (m : Int) : Nat) : Int)) := by
      have := bv_mulu64 (P := Tryd.prog) (m := m) (n := 2) (by omega)
      rw [show m * 2 = zig (m : Int) by unfold zig; rw [if_neg h]; omega] at this
      exact this
    (repeat (first | refine Jc ?_ | (apply s_evb; (case hg => rfl); (case hd => rfl); (case hn => rfl); (case he => (apply ev_convw; (case hx => rfl); (case hw => exact hc)))) | (apply s_bin; (case hg => rfl); (case hd => rfl); (case hx => rfl); (case hy => rfl); (case hb => first | exact hm | exact hs)) | refine Jo ?_ | intro _))
    exact o_ret (L' := []) Tryd.results95 rfl (List.nil_sublist _) ⟨rfl, rfl, rfl⟩
theorem rPutInt_con (n : Int) (S : SH) (hn : -9223372036854775808 ≤ n ∧ n ≤ 9223372036854775807) : Con Tryd.prog 90 #[.int .i64 n] S [] (Pure S (putV n)) := by
  refine con_of (args := [.int .i64 n]) Tryd.func90 rfl Tryd.ntmps90 rfl fun w => ?_
  by_cases hw : wOk n
  rotate_left
  · rw [putV, if_neg hw]
    unfold wOk at hw
    by_cases h1 : n < -4611686018427387903
    · (repeat (first | refine Jz ?_ | intro _))
      exact o_ret2 (L' := []) Tryd.results90 rfl rfl (List.nil_sublist _) ⟨rfl, rfl, rfl⟩
    · (repeat (first | refine Jz ?_ | intro _))
      exact o_ret2 (L' := []) Tryd.results90 rfl rfl (List.nil_sublist _) ⟨rfl, rfl, rfl⟩
  rw [putV, if_pos hw]
  have hw' := hw
  unfold wOk at hw'
  have hzb := zig_bd hw
  (repeat (first | refine Jc ?_ | ((apply z_call; rfl; rfl; rfl; exact zigzag_con n S hw; rintro _ _ _ - ⟨rfl, rfl, rfl⟩)) | refine Jo ?_ | intro _))
  unfold ibs
  generalize zig n = z0 at *
  refine c_loop (fun m S' L F => S' = S ∧ ∃ x v, m < 9223372036854775808 ∧ enc z0 = x ++ enc m ∧ Ows 5 v x L ∧
      F = [(4, .int .u64 m), (5, v)]) ⟨rfl, [], _, hzb, rfl, Ows.nil 5, rfl⟩ (by repeat (first | exact Sub.nil rfl | exact Sub.marked rfl | refine Sub.cons rfl ?_)) (by repeat (first | exact List.Sublist.refl _ | exact List.Sublist.slnil | exact List.nil_sublist _ | exact List.sublist_append_left _ _ | refine List.Sublist.cons_cons _ ?_ | refine List.Sublist.append (List.Sublist.refl _) ?_ | refine List.Sublist.cons _ ?_ | refine List.Sublist.trans ?_ (List.sublist_append_right _ _))) ?_
  rintro m S' L F ⟨rfl, x, v, hm, hx, ho, rfl⟩
  have hxl : x.length ≤ 64 := by
    have := congrArg List.length hx
    have h10 : (enc z0).length ≤ 10 := enc_len 9 z0 (Nat.lt_trans hzb (by decide))
    rw [List.length_append] at this
    omega
  by_cases hlt : m < 128
  · have hc : IntKind.u8.wrap (m : Int) = ((gby m).toNat : Int) := by rw [wrap_u8, gby, if_pos hlt, u8_nat (by omega)]; omega
    rw [enc_gby_lt hlt] at hx
    rw [hx]
    (repeat (first | refine Jc ?_ | (apply s_evb; (case hg => rfl); (case hd => rfl); (case hn => rfl); (case he => (apply ev_convw; (case hx => rfl); (case hw => exact hc)))) | (apply s_append (ms := [gby m]); (case hg => rfl); (case hd => rfl); (case hx => rfl); (case ho => exact ho); (case hL => (repeat (first | exact pm_nil _ | exact pm_refl _ _ | exact pm_self _ | apply pm_cons | apply pm_app))); (case hy => rfl); (case hm => rfl); (case hs => (apply Src.own; (repeat (first | exact List.Mem.head _ | apply List.Mem.tail | apply List.mem_append_right)))); (case hzs => rfl); (case h0 => decide); (case hb => (simp; omega)); (case h63 => (simp; omega)); intro v' ob' ho'; obtain ⟨g, cap, tl, rfl, rfl, q1, q2, q3⟩ := ho'.rowed (by simp)) | (apply s_evb; (case hg => rfl); (case hd => rfl); (case hn => rfl); (case he => (apply ev_str_row; (case hx => rfl); (case hm => (repeat (first | exact List.Mem.head _ | apply List.Mem.tail | apply List.mem_append_right))); (case hk => simp)))) | refine Jo ?_ | intro _))
    exact o_ret2 (L' := []) Tryd.results90 rfl rfl (List.nil_sublist _) ⟨rfl, rfl, by rw [List.drop_zero, List.take_length]⟩
  · have hr : BinV Tryd.prog .rem .u64 (m : Int) 128 (.int .u64 ((m % 128 : Nat) : Int)) := bv_rem64 (n := 128) (by decide)
    have ha : BinV Tryd.prog .add .u64 ((m % 128 : Nat) : Int) 128 (.int .u64 ((m % 128 + 128 : Nat) : Int)) := bv_addu64 (n := 128) (by omega)
    have hc : IntKind.u8.wrap ((m % 128 + 128 : Nat) : Int) = ((gby m).toNat : Int) := by rw [wrap_u8, gby, if_neg hlt, u8_nat (by omega)]; omega
    have hq : BinV Tryd.prog .quo .u64 (m : Int) 128 (.int .u64 ((m / 128 : Nat) : Int)) := bv_quo64 (n := 128) (by decide) (wrap_u64_in (by omega))
    rw [enc_gby_ge (z := m) (by omega)] at hx
    (repeat (first | refine Jc ?_ | (apply s_bin; (case hg => rfl); (case hd => rfl); (case hx => rfl); (case hy => rfl); (case hb => first | exact hr | exact ha | exact hq)) | (apply s_evb; (case hg => rfl); (case hd => rfl); (case hn => rfl); (case he => (apply ev_convw; (case hx => rfl); (case hw => exact hc)))) | (apply s_append (ms := [gby m]); (case hg => rfl); (case hd => rfl); (case hx => rfl); (case ho => exact ho); (case hL => (repeat (first | exact pm_nil _ | exact pm_refl _ _ | exact pm_self _ | apply pm_cons | apply pm_app))); (case hy => rfl); (case hm => rfl); (case hs => (apply Src.own; (repeat (first | exact List.Mem.head _ | apply List.Mem.tail | apply List.mem_append_right)))); (case hzs => rfl); (case h0 => decide); (case hb => (simp; omega)); (case h63 => (simp; omega)); intro v' ob' ho') | refine Jo ?_ | intro _))
    exact q_back (L' := ob') (m' := m / 128) ⟨rfl, x ++ [gby m], v', by omega, by rw [hx, List.append_assoc]; rfl, ho', rfl⟩ (by omega) (by repeat (first | exact Sub.nil rfl | exact Sub.marked rfl | refine Sub.cons rfl ?_)) (by repeat (first | exact List.Sublist.refl _ | exact List.Sublist.slnil | exact List.nil_sublist _ | exact List.sublist_append_left _ _ | refine List.Sublist.cons_cons _ ?_ | refine List.Sublist.append (List.Sublist.refl _) ?_ | refine List.Sublist.cons _ ?_ | refine List.Sublist.trans ?_ (List.sublist_append_right _ _)))
end Go.Proofs.YtogfficbloejcaaDoor
namespace Go.Proofs.YtogfficbloejcaaDoor
open Go Go.X
set_option maxRecDepth 10000
set_option linter.unusedVariables false
attribute [local irreducible] Code.wpIn wpListIn Exit.then Exit.inBlock X.Out X.Back X.W X.Ev X.Con X.BinV X.Wh X.Wn X.Wq
set_option maxHeartbeats 1600000 in
theorem rInt_con (s : Bs) (at_ : Int) (S : SH) (hs : s.length ≤ 9223372036854775807) : Con Tryd.prog 72 #[strV s, .int .i64 at_] S [] (Pure S (intV s at_)) := by
  refine con_of (args := [strV s, .int .i64 at_]) Tryd.func72 rfl Tryd.ntmps72 rfl fun w => ?_
  by_cases h1 : at_ < 0
  · rw [intV, if_pos (.inl h1)]
    (repeat (first | refine Jz ?_ | intro _))
    exact o_ret3 (L' := []) Tryd.results72 rfl rfl rfl (List.nil_sublist _) ⟨rfl, rfl, rfl⟩
  by_cases h2 : (s.length : Int) < at_
  · rw [intV, if_pos (.inr h2)]
    (repeat (first | refine Jc ?_ | (apply s_evb; (case hg => rfl); (case hd => rfl); (case hn => rfl); (case he => (apply ev_len_b; rfl))) | refine Jo ?_ | intro _))
    exact o_ret3 (L' := []) Tryd.results72 rfl rfl rfl (List.nil_sublist _) ⟨rfl, rfl, rfl⟩
  obtain ⟨p, rfl⟩ : ∃ p : Nat, at_ = p := ⟨at_.toNat, by omega⟩
  rw [intV, if_neg (by omega), Int.toNat_natCast]
  (repeat (first | refine Jc ?_ | (apply s_evb; (case hg => rfl); (case hd => rfl); (case hn => rfl); (case he => (apply ev_len_b; rfl))) | refine Jo ?_ | intro _))
  generalize hl : s.drop p = l
  have hll : l.length = s.length - p := by rw [← hl, List.length_drop]
  have hat : ∀ i, l[i]? = s[p + i]? := fun i => by rw [← hl, List.getElem?_drop]
  refine c_loop (fun m S' L F => S' = S ∧ ∃ i z : Nat, m = 9 - i ∧ i ≤ 9 ∧ i ≤ l.length ∧ (∀ c ∈ l.take i, 128 ≤ c.toNat) ∧ z = val (l.take i) ∧ z < 128 ^ i ∧ L = [] ∧
      F = [(8, .int .i64 i), (7, .int .u64 z), (0, strV s), (1, .int .i64 p)]) ⟨rfl, 0, 0, rfl, by omega, by omega, by simp, by simp [val], by simp, rfl, rfl⟩ (by repeat (first | exact Sub.nil rfl | exact Sub.marked rfl | refine Sub.cons rfl ?_)) (by repeat (first | exact List.Sublist.refl _ | exact List.Sublist.slnil | exact List.nil_sublist _ | exact List.sublist_append_left _ _ | refine List.Sublist.cons_cons _ ?_ | refine List.Sublist.append (List.Sublist.refl _) ?_ | refine List.Sublist.cons _ ?_ | refine List.Sublist.trans ?_ (List.sublist_append_right _ _))) ?_
  rintro m S' L F ⟨rfl, i, z, rfl, hi9, hil, hhi, hz, hzl, rfl, rfl⟩
  by_cases h9 : i < 9
  rotate_left
  · rw [decI_none hhi (.inl (by omega))]
    (repeat (first | refine Jc ?_ | (apply s_evb; (case hg => rfl); (case hd => rfl); (case hn => rfl); (case he => (apply ev_len_b; rfl))) | refine Jo ?_ | intro _))
    exact o_ret3 (L' := []) Tryd.results72 rfl rfl rfl (List.nil_sublist _) ⟨rfl, rfl, rfl⟩
  by_cases hlt : p + i < s.length
  rotate_left
  · rw [decI_none hhi (.inr (by omega))]
    (repeat (first | refine Jc ?_ | (apply s_evb; (case hg => rfl); (case hd => rfl); (case hn => rfl); (case he => (apply ev_len_b; rfl))) | refine Jo ?_ | intro _))
    exact o_ret3 (L' := []) Tryd.results72 rfl rfl rfl (List.nil_sublist _) ⟨rfl, rfl, rfl⟩
  obtain ⟨b, hb⟩ : ∃ b, s[p + i]? = some b := ⟨s[p + i], List.getElem?_eq_getElem hlt⟩
  have hbl : l[i]? = some b := by rw [hat, hb]
  have hb256 := b.toNat_lt
  obtain ⟨v1, v2, v3, v4, v5⟩ := val_step hzl (m := b.toNat % 128) (by omega) (show i ≤ 8 by omega)
  have hw1 : IntKind.u64.wrap (b.toNat : Int) = (b.toNat : Int) := wrap_u64_in (by omega)
  have hrem : BinV Tryd.prog .rem .u64 (b.toNat : Int) 128 (.int .u64 ((b.toNat % 128 : Nat) : Int)) := bv_rem64 (n := 128) (by decide)
  have hadd : BinV Tryd.prog .add .u64 (z : Int) ((b.toNat % 128 * 2 ^ (7 * i) : Nat) : Int) (.int .u64 ((z + b.toNat % 128 * 128 ^ i : Nat) : Int)) := by
    rw [pow128] at v3 ⊢
    exact bv_addu64 (by omega)
  have htk : l.take (i + 1) = l.take i ++ [b] := by rw [List.take_add_one, hbl]; rfl
  have hlen : (l.take i).length = i := by rw [List.length_take]; omega
  have hz2 : z + b.toNat % 128 * 128 ^ i = val (l.take (i + 1)) := by rw [htk, val_snoc, hlen, ← hz]
  have hlast := fun h => decI_last (l := l) hhi h9 hbl h _ (by rw [← hz])
  have hsl : (s.take (p + i + 1)).drop p = l.take (i + 1) := by rw [← hl, List.drop_take]; congr 1; omega
  have hev := fun h => enc_val (l.take i) b hhi h
  rw [← htk, ← hz2, List.eq_nil_iff_length_eq_zero, hlen] at hev
  generalize z + b.toNat % 128 * 128 ^ i = y at *
  have hq : BinV Tryd.prog .quo .u64 (y : Int) 2 (.int .u64 ((y / 2 : Nat) : Int)) := bv_quo64 (n := 2) (by decide) (wrap_u64_in (by omega))
  have hr2 : BinV Tryd.prog .rem .u64 (y : Int) 2 (.int .u64 ((y % 2 : Nat) : Int)) := bv_rem64 (n := 2) (by decide)
  have hw2 : IntKind.i64.wrap ((y / 2 : Nat) : Int) = ((y / 2 : Nat) : Int) := w64_in (by omega)
  by_cases hhb : 128 ≤ b.toNat
  · (repeat (first | refine Jc ?_ | (apply s_evb; (case hg => rfl); (case hd => rfl); (case hn => rfl); (case he => (apply ev_len_b; rfl))) | (apply s_evb; (case hg => rfl); (case hd => rfl); (case hn => rfl); (case he => ((apply ev_index_b (k := p + i); (case hx => rfl); (case hi => rfl); (case hu => exact hb))))) | (apply s_bin; (case hg => rfl); (case hd => rfl); (case hx => rfl); (case hy => rfl); (case hb => first | exact hrem | exact hadd | exact hq | exact hr2)) | (apply s_evb; (case hg => rfl); (case hd => rfl); (case hn => rfl); (case he => (apply ev_convw; (case hx => rfl); (case hw => first | exact hw1 | exact hw2)))) | (apply s_evb; (case hg => rfl); (case hd => rfl); (case hn => rfl); (case he => (apply ev_shl64 (c := 7 * i); (case hx => rfl); (case hy => rfl); (case hc => omega); (case h => exact v1)))) | refine Jo ?_ | intro _))
    refine q_back (m' := 9 - (i + 1)) ⟨rfl, i + 1, y, rfl, by omega, by omega, ?_, hz2, v5, rfl, rfl⟩ (by omega) (by repeat (first | exact Sub.nil rfl | exact Sub.marked rfl | refine Sub.cons rfl ?_)) (by repeat (first | exact List.Sublist.refl _ | exact List.Sublist.slnil | exact List.nil_sublist _ | exact List.sublist_append_left _ _ | refine List.Sublist.cons_cons _ ?_ | refine List.Sublist.append (List.Sublist.refl _) ?_ | refine List.Sublist.cons _ ?_ | refine List.Sublist.trans ?_ (List.sublist_append_right _ _)))
    intro c hc
    rw [htk] at hc
    rcases List.mem_append.1 hc with hc | hc
    · exact hhi c hc
    · rw [List.mem_singleton.1 hc]; exact hhb
  rw [hlast (by omega)]
  have hev := hev (by omega)
  have hub : -4611686018427387904 ≤ unzig y ∧ unzig y ≤ 4611686018427387903 := by unfold unzig; split <;> omega
  have hput := rPutInt_con (unzig y) S' (by omega)
  have hib : ibs (unzig y) = enc y := by rw [ibs, zig_unzig]
  unfold putV at hput
  rw [hib] at hput
  generalize hn : unzig y = n at *
  unfold unzig at hn
  by_cases hpar : y % 2 = 1
  · rw [if_pos hpar] at hn
    subst hn
    by_cases hw : wOk (-((y / 2 : Nat) : Int) - 1)
    · rw [if_pos hw] at hput
      by_cases hc : enc y = l.take (i + 1)
      · rw [if_pos ⟨hev.1 hc, hw⟩]
        (repeat (first | refine Jc ?_ | (apply s_evb; (case hg => rfl); (case hd => rfl); (case hn => rfl); (case he => (apply ev_len_b; rfl))) | (apply s_evb; (case hg => rfl); (case hd => rfl); (case hn => rfl); (case he => ((apply ev_index_b (k := p + i); (case hx => rfl); (case hi => rfl); (case hu => exact hb))))) | (apply s_bin; (case hg => rfl); (case hd => rfl); (case hx => rfl); (case hy => rfl); (case hb => first | exact hrem | exact hadd | exact hq | exact hr2)) | (apply s_evb; (case hg => rfl); (case hd => rfl); (case hn => rfl); (case he => (apply ev_convw; (case hx => rfl); (case hw => first | exact hw1 | exact hw2)))) | (apply s_evb; (case hg => rfl); (case hd => rfl); (case hn => rfl); (case he => (apply ev_shl64 (c := 7 * i); (case hx => rfl); (case hy => rfl); (case hc => omega); (case h => exact v1)))) | ((apply z_call; rfl; rfl; rfl; exact hput; rintro _ _ _ - ⟨rfl, rfl, rfl⟩)) | (apply s_evb; (case hg => rfl); (case hd => rfl); (case hn => rfl); (case he => ((apply ev_slice_b (i := p) (j := p + i + 1); (case hx => rfl); (case hy => rfl); (case hz => rfl); (case hj => omega))))) | (apply s_evb; (case hg => rfl); (case hd => rfl); (case hn => rfl); (case he => ((apply ev_neq_bs' (r := false); (case hx => rfl); (case hy => rfl); (case h => (rw [hsl, hc]; simp)))))) | (apply s_evb; (case hg => rfl); (case hd => rfl); (case hn => rfl); (case he => ((apply ev_neq_bs' (r := true); (case hx => rfl); (case hy => rfl); (case h => (rw [hsl]; simpa using hc)))))) | refine Jo ?_ | intro _))
        exact o_ret3 (L' := []) Tryd.results72 rfl rfl rfl (List.nil_sublist _) ⟨rfl, rfl, by simp only [Int.natCast_add]; rw [← Int.add_assoc]; rfl⟩
      · rw [if_neg (fun h => hc (hev.2 h.1))]
        (repeat (first | refine Jc ?_ | (apply s_evb; (case hg => rfl); (case hd => rfl); (case hn => rfl); (case he => (apply ev_len_b; rfl))) | (apply s_evb; (case hg => rfl); (case hd => rfl); (case hn => rfl); (case he => ((apply ev_index_b (k := p + i); (case hx => rfl); (case hi => rfl); (case hu => exact hb))))) | (apply s_bin; (case hg => rfl); (case hd => rfl); (case hx => rfl); (case hy => rfl); (case hb => first | exact hrem | exact hadd | exact hq | exact hr2)) | (apply s_evb; (case hg => rfl); (case hd => rfl); (case hn => rfl); (case he => (apply ev_convw; (case hx => rfl); (case hw => first | exact hw1 | exact hw2)))) | (apply s_evb; (case hg => rfl); (case hd => rfl); (case hn => rfl); (case he => (apply ev_shl64 (c := 7 * i); (case hx => rfl); (case hy => rfl); (case hc => omega); (case h => exact v1)))) | ((apply z_call; rfl; rfl; rfl; exact hput; rintro _ _ _ - ⟨rfl, rfl, rfl⟩)) | (apply s_evb; (case hg => rfl); (case hd => rfl); (case hn => rfl); (case he => ((apply ev_slice_b (i := p) (j := p + i + 1); (case hx => rfl); (case hy => rfl); (case hz => rfl); (case hj => omega))))) | (apply s_evb; (case hg => rfl); (case hd => rfl); (case hn => rfl); (case he => ((apply ev_neq_bs' (r := false); (case hx => rfl); (case hy => rfl); (case h => (rw [hsl, hc]; simp)))))) | (apply s_evb; (case hg => rfl); (case hd => rfl); (case hn => rfl); (case he => ((apply ev_neq_bs' (r := true); (case hx => rfl); (case hy => rfl); (case h => (rw [hsl]; simpa using hc)))))) | refine Jo ?_ | intro _))
        exact o_ret3 (L' := []) Tryd.results72 rfl rfl rfl (List.nil_sublist _) ⟨rfl, rfl, rfl⟩
    · rw [if_neg hw] at hput
      rw [if_neg (fun h => hw h.2)]
      (repeat (first | refine Jc ?_ | (apply s_evb; (case hg => rfl); (case hd => rfl); (case hn => rfl); (case he => (apply ev_len_b; rfl))) | (apply s_evb; (case hg => rfl); (case hd => rfl); (case hn => rfl); (case he => ((apply ev_index_b (k := p + i); (case hx => rfl); (case hi => rfl); (case hu => exact hb))))) | (apply s_bin; (case hg => rfl); (case hd => rfl); (case hx => rfl); (case hy => rfl); (case hb => first | exact hrem | exact hadd | exact hq | exact hr2)) | (apply s_evb; (case hg => rfl); (case hd => rfl); (case hn => rfl); (case he => (apply ev_convw; (case hx => rfl); (case hw => first | exact hw1 | exact hw2)))) | (apply s_evb; (case hg => rfl); (case hd => rfl); (case hn => rfl); (case he => (apply ev_shl64 (c := 7 * i); (case hx => rfl); (case hy => rfl); (case hc => omega); (case h => exact v1)))) | ((apply z_call; rfl; rfl; rfl; exact hput; rintro _ _ _ - ⟨rfl, rfl, rfl⟩)) | (apply s_evb; (case hg => rfl); (case hd => rfl); (case hn => rfl); (case he => ((apply ev_slice_b (i := p) (j := p + i + 1); (case hx => rfl); (case hy => rfl); (case hz => rfl); (case hj => omega))))) | (apply s_evb; (case hg => rfl); (case hd => rfl); (case hn => rfl); (case he => ((apply ev_neq_bs' (r := false); (case hx => rfl); (case hy => rfl); (case h => (rw [hsl, hc]; simp)))))) | (apply s_evb; (case hg => rfl); (case hd => rfl); (case hn => rfl); (case he => ((apply ev_neq_bs' (r := true); (case hx => rfl); (case hy => rfl); (case h => (rw [hsl]; simpa using hc)))))) | refine Jo ?_ | intro _))
      exact o_ret3 (L' := []) Tryd.results72 rfl rfl rfl (List.nil_sublist _) ⟨rfl, rfl, rfl⟩
  · rw [if_neg hpar] at hn
    subst hn
    by_cases hw : wOk ((y / 2 : Nat) : Int)
    · rw [if_pos hw] at hput
      by_cases hc : enc y = l.take (i + 1)
      · rw [if_pos ⟨hev.1 hc, hw⟩]
        (repeat (first | refine Jc ?_ | (apply s_evb; (case hg => rfl); (case hd => rfl); (case hn => rfl); (case he => (apply ev_len_b; rfl))) | (apply s_evb; (case hg => rfl); (case hd => rfl); (case hn => rfl); (case he => ((apply ev_index_b (k := p + i); (case hx => rfl); (case hi => rfl); (case hu => exact hb))))) | (apply s_bin; (case hg => rfl); (case hd => rfl); (case hx => rfl); (case hy => rfl); (case hb => first | exact hrem | exact hadd | exact hq | exact hr2)) | (apply s_evb; (case hg => rfl); (case hd => rfl); (case hn => rfl); (case he => (apply ev_convw; (case hx => rfl); (case hw => first | exact hw1 | exact hw2)))) | (apply s_evb; (case hg => rfl); (case hd => rfl); (case hn => rfl); (case he => (apply ev_shl64 (c := 7 * i); (case hx => rfl); (case hy => rfl); (case hc => omega); (case h => exact v1)))) | ((apply z_call; rfl; rfl; rfl; exact hput; rintro _ _ _ - ⟨rfl, rfl, rfl⟩)) | (apply s_evb; (case hg => rfl); (case hd => rfl); (case hn => rfl); (case he => ((apply ev_slice_b (i := p) (j := p + i + 1); (case hx => rfl); (case hy => rfl); (case hz => rfl); (case hj => omega))))) | (apply s_evb; (case hg => rfl); (case hd => rfl); (case hn => rfl); (case he => ((apply ev_neq_bs' (r := false); (case hx => rfl); (case hy => rfl); (case h => (rw [hsl, hc]; simp)))))) | (apply s_evb; (case hg => rfl); (case hd => rfl); (case hn => rfl); (case he => ((apply ev_neq_bs' (r := true); (case hx => rfl); (case hy => rfl); (case h => (rw [hsl]; simpa using hc)))))) | refine Jo ?_ | intro _))
        exact o_ret3 (L' := []) Tryd.results72 rfl rfl rfl (List.nil_sublist _) ⟨rfl, rfl, by simp only [Int.natCast_add]; rw [← Int.add_assoc]; rfl⟩
      · rw [if_neg (fun h => hc (hev.2 h.1))]
        (repeat (first | refine Jc ?_ | (apply s_evb; (case hg => rfl); (case hd => rfl); (case hn => rfl); (case he => (apply ev_len_b; rfl))) | (apply s_evb; (case hg => rfl); (case hd => rfl); (case hn => rfl); (case he => ((apply ev_index_b (k := p + i); (case hx => rfl); (case hi => rfl); (case hu => exact hb))))) | (apply s_bin; (case hg => rfl); (case hd => rfl); (case hx => rfl); (case hy => rfl); (case hb => first | exact hrem | exact hadd | exact hq | exact hr2)) | (apply s_evb; (case hg => rfl); (case hd => rfl); (case hn => rfl); (case he => (apply ev_convw; (case hx => rfl); (case hw => first | exact hw1 | exact hw2)))) | (apply s_evb; (case hg => rfl); (case hd => rfl); (case hn => rfl); (case he => (apply ev_shl64 (c := 7 * i); (case hx => rfl); (case hy => rfl); (case hc => omega); (case h => exact v1)))) | ((apply z_call; rfl; rfl; rfl; exact hput; rintro _ _ _ - ⟨rfl, rfl, rfl⟩)) | (apply s_evb; (case hg => rfl); (case hd => rfl); (case hn => rfl); (case he => ((apply ev_slice_b (i := p) (j := p + i + 1); (case hx => rfl); (case hy => rfl); (case hz => rfl); (case hj => omega))))) | (apply s_evb; (case hg => rfl); (case hd => rfl); (case hn => rfl); (case he => ((apply ev_neq_bs' (r := false); (case hx => rfl); (case hy => rfl); (case h => (rw [hsl, hc]; simp)))))) | (apply s_evb; (case hg => rfl); (case hd => rfl); (case hn => rfl); (case he => ((apply ev_neq_bs' (r := true); (case hx => rfl); (case hy => rfl); (case h => (rw [hsl]; simpa using hc)))))) | refine Jo ?_ | intro _))
        exact o_ret3 (L' := []) Tryd.results72 rfl rfl rfl (List.nil_sublist _) ⟨rfl, rfl, rfl⟩
    · exfalso; unfold wOk at hw; omega
end Go.Proofs.YtogfficbloejcaaDoor
namespace Go.Proofs.YtogfficbloejcaaDoor
open Go Go.X
set_option maxRecDepth 10000
set_option linter.unusedVariables false
attribute [local irreducible] Code.wpIn wpListIn Exit.then Exit.inBlock X.Out X.Back X.W X.Ev X.Con X.BinV X.Wh X.Wn X.Wq
/-- The encodings of integers, one behind the other. -/
def txt (l : List Int) : Bs := l.flatMap ibs
theorem txt_nil : txt [] = [] := rfl
theorem txt_cons (n : Int) (l : List Int) : txt (n :: l) = ibs n ++ txt l := by simp [txt]
theorem txt_app (l m : List Int) : txt (l ++ m) = txt l ++ txt m := by simp [txt]
theorem txt_take {l : List Int} {i : Nat} {n : Int} (h : l[i]? = some n) : txt (l.take (i + 1)) = txt (l.take i) ++ ibs n := by
  rw [List.take_add_one, h, txt_app]; simp [txt]
theorem txt_len {l : List Int} (h : ∀ n ∈ l, wOk n) : (txt l).length ≤ 9 * l.length := by
  induction l with
  | nil => simp [txt]
  | cons n l ih =>
    rw [txt_cons, List.length_append, List.length_cons]
    have h1 := ibs_len (h n List.mem_cons_self)
    have h2 := ih fun m hm => h m (List.mem_cons_of_mem _ hm)
    omega
theorem put_con (ns : List Int) (A : Option Addr) (c : Nat) (out : Bs) (b0 : Nat) (S : SH) (hA : At S A ns) (hw : ∀ n ∈ ns, wOk n) (hl : ns.length ≤ 1000000) (ho : out.length ≤ 1000000000000) :
    Con Tryd.prog 65 #[.slice A ns.length c, .pointer (some ⟨b0, 0, none⟩)] S [(b0, .cells [strV out].toArray 9 (0, 0))] (fun S' L' v => S' = S ∧ L' = [(b0, .cells [strV (out ++ txt ns)].toArray 9 (0, 0))] ∧ v = .tuple #[]) := by
  refine con_of (args := [.slice A ns.length c, .pointer (some ⟨b0, 0, none⟩)]) Tryd.func65 rfl Tryd.ntmps65 rfl fun w => ?_
  (repeat (first | refine Jz ?_ | intro _))
  refine c_loop (fun m S' L F => S' = S ∧ ∃ i : Nat, m = ns.length - i ∧ i ≤ ns.length ∧ L = [(b0, .cells [strV (out ++ txt (ns.take i))].toArray 9 (0, 0))] ∧
      F = [(1, .pointer (some ⟨b0, 0, none⟩)), (7, .slice A ns.length c), (8, .int .i64 ns.length), (9, .int .i64 i)]) (L' := [(b0, .cells [strV out].toArray 9 (0, 0))]) ⟨rfl, 0, rfl, by omega, by rw [List.take_zero, txt_nil, List.append_nil], rfl⟩ (by repeat (first | exact Sub.nil rfl | exact Sub.marked rfl | refine Sub.cons rfl ?_)) (List.Sublist.refl _) ?_
  rintro m S' L F ⟨rfl, i, rfl, hi, rfl, rfl⟩
  by_cases hlt : i < ns.length
  rotate_left
  · (repeat (first | refine Jz ?_ | intro _))
    exact o_ret0 (.inr rfl) Tryd.results65 (List.Sublist.refl _) ⟨rfl, by rw [List.take_of_length_le (by omega)], rfl⟩
  obtain ⟨n, hn⟩ := at_lt' hlt
  have hwn := hw n (List.mem_of_getElem? hn)
  have hpn := PutInt_con n S' (by unfold wOk at hwn; omega)
  rw [putV, if_pos hwn] at hpn
  have htl : (txt (ns.take i)).length ≤ 9 * i := by
    have := txt_len (l := ns.take i) fun m hm => hw m (List.mem_of_mem_take hm)
    rw [List.length_take] at this
    omega
  have hnl := ibs_len hwn
  (repeat (first | refine Jc ?_ | (apply s_idx hA; (case hg => rfl); (case hd => rfl); (case hx => rfl); (case hi => rfl); (case hm => rfl); (case hu => exact hn); intro p (hp : Pts _ p [.int .i64 n])) | (apply s_load1; (case hg => rfl); (case hd => rfl); (case hx => rfl); (case hv => exact hp)) | ((apply z_call; rfl; rfl; rfl; exact hpn; rintro _ _ _ - ⟨rfl, rfl, rfl⟩)) | (apply s_evb; (case hg => rfl); (case hd => rfl); (case hn => rfl); (case he => ((apply ev_add_bs; (case hx => rfl); (case hy => rfl); (case h => (simp only [List.length_append]; omega)))))) | refine Jo ?_ | intro _))
  refine q_back (m' := ns.length - (i + 1)) ⟨rfl, i + 1, rfl, by omega, ?_, rfl⟩ (by omega) (by repeat (first | exact Sub.nil rfl | exact Sub.marked rfl | refine Sub.cons rfl ?_)) (by repeat (first | exact List.Sublist.refl _ | exact List.Sublist.slnil | exact List.nil_sublist _ | exact List.sublist_append_left _ _ | refine List.Sublist.cons_cons _ ?_ | refine List.Sublist.append (List.Sublist.refl _) ?_ | refine List.Sublist.cons _ ?_ | refine List.Sublist.trans ?_ (List.sublist_append_right _ _)))
  rw [txt_take hn]; rw [List.append_assoc]; rfl
end Go.Proofs.YtogfficbloejcaaDoor
namespace Go.Proofs.YtogfficbloejcaaDoor
open Go Go.X
set_option maxRecDepth 10000
set_option linter.unusedVariables false
attribute [local irreducible] Code.wpIn wpListIn Exit.then Exit.inBlock X.Out X.Back X.W X.Ev X.Con X.BinV X.Wh X.Wn X.Wq
/-- The buckets that are not empty, with their counts. -/
def someI : Nat → List Int → List Int
  | _, [] => []
  | k, n :: t => if n = 0 then someI (k + 1) t else (k : Int) :: n :: someI (k + 1) t
theorem someI_snoc : ∀ (l : List Int) (k : Nat) (n : Int), someI k (l ++ [n]) = someI k l ++ (if n = 0 then [] else [((k + l.length : Nat) : Int), n])
  | [], k, n => by simp [someI]
  | a :: l, k, n => by
    have ih := someI_snoc l (k + 1) n
    rw [List.length_cons, show k + (l.length + 1) = k + 1 + l.length by omega]
    simp only [List.cons_append, someI, ih]
    split <;> simp
theorem someI_take {l : List Int} {i : Nat} {n : Int} (h : l[i]? = some n) : someI 0 (l.take (i + 1)) = someI 0 (l.take i) ++ (if n = 0 then [] else [(i : Int), n]) := by
  have hl := (List.getElem?_eq_some_iff.1 h).1
  rw [take_at' h, someI_snoc, List.length_take, Nat.min_eq_left (by omega), Nat.zero_add]
theorem someI_len : ∀ (l : List Int) (k : Nat), (someI k l).length ≤ 2 * l.length
  | [], k => by simp [someI]
  | a :: l, k => by
    have := someI_len l (k + 1)
    simp only [someI]
    split <;> simp only [List.length_cons] <;> omega
def rowI (l : List Int) : List Int := ((someI 0 l).length : Int) / 2 :: someI 0 l
def cellI (c : PC) : List Int := [c.s, c.v, c.o, c.d, c.x.n, c.x.lo, c.x.hi, c.x.by_] ++ (rowI c.x.ls ++ rowI c.x.hs)
/-- The integers that a sketch's encoding is made of. -/
def skI (l : List PC) : List Int := (l.length : Int) :: l.flatMap cellI
theorem someI_ok : ∀ (l : List Int) (k : Nat), k + l.length ≤ 44 → (∀ c ∈ l, 0 ≤ c ∧ c ≤ 1000000) → ∀ n ∈ someI k l, wOk n
  | [], k, _, _, n, h => by simp [someI] at h
  | a :: l, k, hk, hl, n, h => by
    rw [List.length_cons] at hk
    have ha := hl a List.mem_cons_self
    have ih := someI_ok l (k + 1) (by omega) (fun c hc => hl c (List.mem_cons_of_mem _ hc))
    simp only [someI] at h
    split at h
    · exact ih n h
    · rcases List.mem_cons.1 h with rfl | h
      · unfold wOk; omega
      · rcases List.mem_cons.1 h with rfl | h
        · unfold wOk; omega
        · exact ih n h
theorem CountsP.sum_bd {l : List Int} {n s : Int} (h : CountsP l n s) : 0 ≤ s ∧ s ≤ n * 4398046511104 := by
  obtain ⟨h1, h2, h3⟩ := sumE_bd 0 l (fun c hc => (h.each c hc).1) (by have := h.len; omega)
  have := h.lo
  have := h.hi
  have := h.tot
  subst this
  omega
theorem rowI_ok {l : List Int} {n s : Int} (h : CountsP l n s) : ∀ x ∈ rowI l, wOk x := by
  have hl := h.len
  have hs := someI_len l 0
  intro x hx
  rcases List.mem_cons.1 hx with rfl | hx
  · unfold wOk; omega
  · exact someI_ok l 0 (by omega) h.each x hx
theorem KeyP.bd {c : PC} (h : KeyP c.key) : (0 ≤ c.s ∧ c.s ≤ 7) ∧ (0 ≤ c.v ∧ c.v ≤ 9) ∧ (0 ≤ c.o ∧ c.o ≤ 11) ∧ (0 ≤ c.d ∧ c.d ≤ 99) := ⟨h 0 _ _ rfl rfl, h 1 _ _ rfl rfl, h 2 _ _ rfl rfl, h 3 _ _ rfl rfl⟩
theorem PcP.head {c : PC} (h : PcP c) : ∀ x ∈ [c.s, c.v, c.o, c.d, c.x.n, c.x.lo, c.x.hi, c.x.by_], wOk x := by
  obtain ⟨h1, h2, h3, h4⟩ := KeyP.bd h.key
  obtain ⟨n1, n2, b1, b2, lo, hi⟩ := h.cell
  have l1 := lo.sum_bd
  have l2 := hi.sum_bd
  intro x hx
  simp only [List.mem_cons, List.not_mem_nil, or_false] at hx
  unfold wOk
  rcases hx with rfl | rfl | rfl | rfl | rfl | rfl | rfl | rfl <;> omega
theorem cellI_ok {c : PC} (h : PcP c) : ∀ x ∈ cellI c, wOk x := by
  intro x hx
  rcases List.mem_append.1 hx with hx | hx
  · exact h.head x hx
  · rcases List.mem_append.1 hx with hx | hx
    · exact rowI_ok h.cell.lo x hx
    · exact rowI_ok h.cell.hi x hx
theorem rowI_len {l : List Int} (h : l.length = 44) : (rowI l).length ≤ 89 := by
  have := someI_len l 0
  simp only [rowI, List.length_cons]; omega
theorem cellI_len {c : PC} (h : PcP c) : (cellI c).length ≤ 186 := by
  have h1 := rowI_len h.cell.lo.len
  have h2 := rowI_len h.cell.hi.len
  simp only [cellI, List.length_append, List.length_cons, List.length_nil]; omega
theorem cells_len {l : List PC} (h : ∀ c ∈ l, PcP c) : (l.flatMap cellI).length ≤ 186 * l.length := by
  induction l with
  | nil => simp
  | cons c l ih =>
    have h1 := cellI_len (h c List.mem_cons_self)
    have h2 := ih fun x hx => h x (List.mem_cons_of_mem _ hx)
    rw [List.flatMap_cons, List.length_append, List.length_cons]; omega
theorem skI_ok {l : List PC} (h : ValidP l) : ∀ x ∈ skI l, wOk x := by
  intro x hx
  have := h.len
  rcases List.mem_cons.1 hx with rfl | hx
  · unfold wOk; omega
  · obtain ⟨c, hc, hx⟩ := List.mem_flatMap.1 hx
    exact cellI_ok (h.each c hc) x hx
/-- What Encode answers. -/
noncomputable def encV (l : List PC) : Value := by classical exact if ValidP l then .tuple #[strV (txt (skI l)), .int .i64 0] else .tuple #[strV [], .int .i64 170]
theorem encV_t {l : List PC} (h : ValidP l) : encV l = .tuple #[strV (txt (skI l)), .int .i64 0] := by unfold encV; rw [if_pos h]
theorem encV_f {l : List PC} (h : ¬ ValidP l) : encV l = .tuple #[strV [], .int .i64 170] := by unfold encV; rw [if_neg h]
end Go.Proofs.YtogfficbloejcaaDoor
namespace Go.Proofs.YtogfficbloejcaaDoor
open Go Go.X
set_option maxRecDepth 10000
set_option linter.unusedVariables false
attribute [local irreducible] Code.wpIn wpListIn Exit.then Exit.inBlock X.Out X.Back X.W X.Ev X.Con X.BinV X.Wh X.Wn X.Wq
theorem at_litB {α : Type} [Cl α] {S : SH} {b : Nat} {l : List α} {T : TypeId} {fz : Nat × Nat} {cs : Array Value} (h : S b = some (.cells cs T fz)) (e : cs.toList = cellsOf l) : At S (some ⟨b, 0, none⟩) l := fun _ => ⟨_, rfl, pts_block h (by rw [e]; exact List.take_length)⟩
set_option maxHeartbeats 1600000 in
theorem Encode_con (cs : List Ce) (A : Option Addr) (c : Nat) (S : SH) (hG : Gl S) (hA : At S A cs) (hok : ∀ q ∈ cs, q.ok S) (hl : cs.length ≤ 1000000) :
    Con Tryd.prog 34 #[.agg #[.slice A cs.length c]] S [] (fun S' L' r => L' = [] ∧ r = encV (cs.map (·.p))) := by
  refine con_of (args := [.agg [.slice A cs.length c].toArray]) Tryd.func34 rfl Tryd.ntmps34 rfl fun w => ?_
  have hv := Valid_con cs A c S hG hA hok hl
  by_cases hval : ValidP (cs.map (·.p))
  rotate_left
  · rw [bP_f hval] at hv
    (repeat (first | refine Jc ?_ | ((apply z_call; rfl; rfl; rfl; exact hv; rintro _ _ _ - ⟨rfl, rfl, rfl⟩)) | refine Jo ?_ | intro _))
    rw [encV_f hval]
    exact o_ret2 (L' := []) Tryd.results34 rfl rfl (List.nil_sublist _) ⟨rfl, rfl⟩
  rw [bP_t hval] at hv
  rw [encV_t hval]
  have hlen := hval.len
  rw [List.length_map] at hlen
  have hsk := skI_ok hval
  have hlw : ∀ x ∈ [(cs.length : Int)], wOk x := fun x hx => by rw [List.mem_singleton.1 hx]; unfold wOk; omega
  (repeat (first | refine Jc ?_ | ((apply z_call; rfl; rfl; rfl; exact hv; rintro _ _ _ - ⟨rfl, rfl, rfl⟩)) | (apply s_buildSlice; (case hg => rfl); (case hd => rfl); (case hp => rfl); (case hq => rfl); (case hm => rfl); (case hv => rfl); (case hl => rfl); intro bl; refine W.freeze fun S1 hle1 hb1 => ?_) | refine Jo ?_ | intro _))
  rename_i b1 b4
  (repeat (first | refine Jc ?_ | (apply s_callw (caps := [.pointer (some ⟨b4, 0, none⟩)]); (case hg => rfl); (case hd => rfl); (case hx => rfl); (case i1 => infer_instance); (case ha => rfl); (case hc => exact put_con [(cs.length : Int)] _ 1 [] _ _ (at_litB hb1 rfl) hlw (by simp) (by simp)); (case hL => (repeat (first | exact pm_nil _ | exact pm_refl _ _ | exact pm_self _ | apply pm_cons | apply pm_app))); rintro S2 L2 v2 hle2 ⟨rfl, rfl, rfl⟩) | refine Jo ?_ | intro _))
  refine c_loop (fun m S' L F => Le S2 S' ∧ ∃ (i : Nat) (out : Bs), m = cs.length - i ∧ i ≤ cs.length ∧ out = txt ((cs.length : Int) :: ((cs.take i).map (·.p)).flatMap cellI) ∧ out.length ≤ 9 * (1 + 186 * i) ∧ L = [(b4, .cells [strV out].toArray 9 (0, 0))] ∧
      F = [(4, .pointer (some ⟨b4, 0, none⟩)), (5, .func (.func 65) #[] #[.pointer (some ⟨b4, 0, none⟩)]), (24, .slice A cs.length c), (25, .int .i64 cs.length), (26, .int .i64 i)])
    (L' := [(b4, .cells [strV ([] ++ txt [(cs.length : Int)])].toArray 9 (0, 0))]) ⟨Le.refl _, 0, _, rfl, by omega, rfl, txt_len hlw, rfl, rfl⟩ (by repeat (first | exact Sub.nil rfl | exact Sub.marked rfl | refine Sub.cons rfl ?_)) (by repeat (first | exact List.Sublist.refl _ | exact List.Sublist.slnil | exact List.nil_sublist _ | exact List.sublist_append_left _ _ | refine List.Sublist.cons_cons _ ?_ | refine List.Sublist.append (List.Sublist.refl _) ?_ | refine List.Sublist.cons _ ?_ | refine List.Sublist.trans ?_ (List.sublist_append_right _ _))) ?_
  rintro m S' L F ⟨hle, i, out, rfl, hi, ho, hol, rfl, rfl⟩
  by_cases hlt : i < cs.length
  rotate_left
  · (repeat (first | refine Jz ?_ | intro _))
    rw [List.take_of_length_le (by omega)] at ho
    exact o_ret2 (L' := []) Tryd.results34 rfl rfl (List.nil_sublist _) ⟨rfl, by rw [ho, skI, List.length_map]⟩
  obtain ⟨q, hq⟩ := at_lt' hlt
  have hqok : q.ok S' := ((hok q (List.mem_of_getElem? hq)).le hle1).le hle
  have hpc : PcP q.p := hval.each q.p (List.mem_map.2 ⟨q, List.mem_of_getElem? hq, rfl⟩)
  have hnext : txt ((cs.length : Int) :: ((cs.take (i + 1)).map (·.p)).flatMap cellI) = out ++ txt (cellI q.p) := by
    rw [take_at' hq, ho, ← txt_app]; simp
  have hA' : At S' A cs := (hA.le hle1).le hle
  obtain ⟨⟨ps, pv, po, pd, ⟨xn, xl, xh, xb, xls, xhs⟩⟩, qla, qlc, qha, qhc⟩ := q
  obtain ⟨q1, q2, q3, q4, q5, q6⟩ := hqok
  have hhd := hpc.head
  have hhl := txt_len hhd
  dsimp only at *
  (repeat (first | refine Jc ?_ | (apply s_idx hA'; (case hg => rfl); (case hd => rfl); (case hx => rfl); (case hi => rfl); (case hm => rfl); (case hu => exact hq); intro p (hp : Pts _ p [.int .i64 ps, .int .i64 pv, .int .i64 po, .int .i64 pd, .int .i64 xn, .int .i64 xl, .int .i64 xh, .int .i64 xb, .slice qla xls.length qlc, .slice qha xhs.length qhc])) | (apply s_load_ag; (case hg => rfl); (case hd => rfl); (case hx => rfl); (case hv => exact hp); (case hl => rfl)) | (apply s_buildSlice; (case hg => rfl); (case hd => rfl); (case hp => rfl); (case hq => rfl); (case hm => rfl); (case hv => rfl); (case hl => rfl); intro bl; refine W.freeze fun S3 hle3 hb3 => ?_) | (apply s_callw (caps := [.pointer (some ⟨b4, 0, none⟩)]); (case hg => rfl); (case hd => rfl); (case hx => rfl); (case i1 => infer_instance); (case ha => rfl); (case hc => exact put_con [ps, pv, po, pd, xn, xl, xh, xb] _ 8 out _ _ (at_litB hb3 rfl) hhd (by simp) (by omega)); (case hL => (repeat (first | exact pm_nil _ | exact pm_refl _ _ | exact pm_self _ | apply pm_cons | apply pm_app))); rintro S4 L4 v4 hle4 ⟨rfl, rfl, rfl⟩) | refine Jo ?_ | intro _))
  have hleA : Le S' S3 := Le.trans (by assumption) hle3
  have hT : At S3 (some ⟨bl, 0, none⟩) [(⟨qla, xls.length, qlc⟩ : Sv), ⟨qha, xhs.length, qhc⟩] := at_litB hb3 rfl
  have hrows : ∀ j : Nat, j < 2 → ∃ (a : Option Addr) (row : List Int) (c' : Nat), [(⟨qla, xls.length, qlc⟩ : Sv), ⟨qha, xhs.length, qhc⟩][j]? = some ⟨a, row.length, c'⟩ ∧ [xls, xhs][j]? = some row ∧ At S3 a row ∧ row.length = 44 ∧ ∀ x ∈ rowI row, wOk x := by
    intro j hj
    match j, hj with
    | 0, _ => exact ⟨qla, xls, qlc, rfl, rfl, (q1.le hleA), hpc.cell.lo.len, rowI_ok hpc.cell.lo⟩
    | 1, _ => exact ⟨qha, xhs, qhc, rfl, rfl, (q2.le hleA), hpc.cell.hi.len, rowI_ok hpc.cell.hi⟩
  have hle3' : Le S2 S3 := hle.trans hleA
  obtain ⟨svs, hsvs⟩ : ∃ svs, svs = [(⟨qla, xls.length, qlc⟩ : Sv), ⟨qha, xhs.length, qhc⟩] := ⟨_, rfl⟩
  rw [← hsvs] at hT hrows
  have hsl : svs.length = 2 := by rw [hsvs]; rfl
  refine c_loop (fun m S5 L F => Le S3 S5 ∧ ∃ (j : Nat) (out2 : Bs), m = 2 - j ∧ j ≤ 2 ∧ out2 = out ++ txt ([ps, pv, po, pd, xn, xl, xh, xb] ++ ([xls, xhs].take j).flatMap rowI) ∧ out2.length ≤ 9 * (1 + 186 * i) + 9 * (8 + 89 * j) ∧ L = [(b4, .cells [strV out2].toArray 9 (0, 0))] ∧
      F = [(55, .int .i64 j), (54, .int .i64 2), (53, .slice (some ⟨bl, 0, none⟩) 2 2), (5, .func (.func 65) #[] #[.pointer (some ⟨b4, 0, none⟩)]), (4, .pointer (some ⟨b4, 0, none⟩)), (24, .slice A cs.length c), (25, .int .i64 cs.length), (26, .int .i64 i)])
    (L' := [(b4, .cells [strV (out ++ txt [ps, pv, po, pd, xn, xl, xh, xb])].toArray 9 (0, 0))]) ⟨Le.refl _, 0, _, rfl, by omega, by simp, by rw [List.length_append]; simp at hhl; omega, rfl, rfl⟩ (by repeat (first | exact Sub.nil rfl | exact Sub.marked rfl | refine Sub.cons rfl ?_)) (by repeat (first | exact List.Sublist.refl _ | exact List.Sublist.slnil | exact List.nil_sublist _ | exact List.sublist_append_left _ _ | refine List.Sublist.cons_cons _ ?_ | refine List.Sublist.append (List.Sublist.refl _) ?_ | refine List.Sublist.cons _ ?_ | refine List.Sublist.trans ?_ (List.sublist_append_right _ _))) ?_
  rintro m S5 L F ⟨hle5, j, out2, rfl, hj, ho2, hol2, rfl, rfl⟩
  by_cases hj2 : j < 2
  rotate_left
  · (repeat (first | refine Jz ?_ | intro _))
    have hje : j = 2 := by omega
    subst hje
    refine q_back (m' := cs.length - (i + 1)) ⟨hle3'.trans hle5, i + 1, out2, rfl, by omega, ?_, by omega, rfl, rfl⟩ (by omega) (by repeat (first | exact Sub.nil rfl | exact Sub.marked rfl | refine Sub.cons rfl ?_)) (by repeat (first | exact List.Sublist.refl _ | exact List.Sublist.slnil | exact List.nil_sublist _ | exact List.sublist_append_left _ _ | refine List.Sublist.cons_cons _ ?_ | refine List.Sublist.append (List.Sublist.refl _) ?_ | refine List.Sublist.cons _ ?_ | refine List.Sublist.trans ?_ (List.sublist_append_right _ _)))
    rw [hnext, ho2]; simp [cellI]
  obtain ⟨ra, row, rc, hsv, hrw, hra, hrl, hrok⟩ := hrows j hj2
  have hT5 := hT.le hle5
  have hra5 := hra.le hle5
  have hsl2 : 2 = svs.length := hsl.symm
  (repeat (first | refine Jc ?_ | (apply s_idx hT5; (case hg => rfl); (case hd => rfl); (case hx => rfl); (case hi => rfl); (case hm => exact hsl2); (case hu => exact hsv); intro p2 (hp2 : Pts _ p2 [.slice ra row.length rc])) | (apply s_load1; (case hg => rfl); (case hd => rfl); (case hx => rfl); (case hv => exact hp2)) | refine Jo ?_ | intro _))
  refine c_loop (fun m S6 L F => S6 = S5 ∧ ∃ (k : Nat) (v : Value) (ob : Blocks), m = row.length - k ∧ k ≤ row.length ∧ Ows 3 v (someI 0 (row.take k)) ob ∧ L = ob ++ [(b4, .cells [strV out2].toArray 9 (0, 0))] ∧
      F = [(61, .int .i64 k), (60, .int .i64 row.length), (59, .slice ra row.length rc), (10, v), (55, .int .i64 j), (54, .int .i64 2), (53, .slice (some ⟨bl, 0, none⟩) 2 2), (5, .func (.func 65) #[] #[.pointer (some ⟨b4, 0, none⟩)]), (4, .pointer (some ⟨b4, 0, none⟩)), (24, .slice A cs.length c), (25, .int .i64 cs.length), (26, .int .i64 i)])
    ⟨rfl, 0, _, [], rfl, by omega, Ows.nil 3, rfl, rfl⟩ (by repeat (first | exact Sub.nil rfl | exact Sub.marked rfl | refine Sub.cons rfl ?_)) (by repeat (first | exact List.Sublist.refl _ | exact List.Sublist.slnil | exact List.nil_sublist _ | exact List.sublist_append_left _ _ | refine List.Sublist.cons_cons _ ?_ | refine List.Sublist.append (List.Sublist.refl _) ?_ | refine List.Sublist.cons _ ?_ | refine List.Sublist.trans ?_ (List.sublist_append_right _ _))) ?_
  rintro m S6 L F ⟨rfl, k, v, ob, rfl, hk, hob, rfl, rfl⟩
  by_cases hk2 : k < row.length
  · obtain ⟨n, hn⟩ := at_lt' hk2
    have hst := someI_take hn
    have hsl3 := someI_len (row.take k) 0
    rw [List.length_take] at hsl3
    by_cases hn0 : n = 0
    · rw [if_pos hn0, List.append_nil] at hst
      (repeat (first | refine Jc ?_ | (apply s_idx hra5; (case hg => rfl); (case hd => rfl); (case hx => rfl); (case hi => rfl); (case hm => rfl); (case hu => exact hn); intro p3 (hp3 : Pts _ p3 [.int .i64 n])) | (apply s_load1; (case hg => rfl); (case hd => rfl); (case hx => rfl); (case hv => exact hp3)) | refine Jo ?_ | intro _))
      exact q_back (m' := row.length - (k + 1)) ⟨rfl, k + 1, v, ob, rfl, by omega, by rw [hst]; exact hob, rfl, rfl⟩ (by omega) (by repeat (first | exact Sub.nil rfl | exact Sub.marked rfl | refine Sub.cons rfl ?_)) (by repeat (first | exact List.Sublist.refl _ | exact List.Sublist.slnil | exact List.nil_sublist _ | exact List.sublist_append_left _ _ | refine List.Sublist.cons_cons _ ?_ | refine List.Sublist.append (List.Sublist.refl _) ?_ | refine List.Sublist.cons _ ?_ | refine List.Sublist.trans ?_ (List.sublist_append_right _ _)))
    · rw [if_neg hn0] at hst
      (repeat (first | refine Jc ?_ | (apply s_idx hra5; (case hg => rfl); (case hd => rfl); (case hx => rfl); (case hi => rfl); (case hm => rfl); (case hu => exact hn); intro p3 (hp3 : Pts _ p3 [.int .i64 n])) | (apply s_load1; (case hg => rfl); (case hd => rfl); (case hx => rfl); (case hv => exact hp3)) | (apply s_append (ms := [(k : Int), n]); (case hg => rfl); (case hd => rfl); (case hx => rfl); (case ho => exact hob); (case hL => (repeat (first | exact pm_nil _ | exact pm_refl _ _ | exact pm_self _ | apply pm_cons | apply pm_app))); (case hy => rfl); (case hm => rfl); (case hs => (apply Src.own; (repeat (first | exact List.Mem.head _ | apply List.Mem.tail | apply List.mem_append_right)))); (case hzs => rfl); (case h0 => decide); (case hb => (simp; omega)); (case h63 => (simp; omega)); intro v' ob' ho') | refine Jo ?_ | intro _))
      exact q_back (m' := row.length - (k + 1)) ⟨rfl, k + 1, v', ob', rfl, by omega, by rw [hst]; exact ho', rfl, rfl⟩ (by omega) (by repeat (first | exact Sub.nil rfl | exact Sub.marked rfl | refine Sub.cons rfl ?_)) (by repeat (first | exact List.Sublist.refl _ | exact List.Sublist.slnil | exact List.nil_sublist _ | exact List.sublist_append_left _ _ | refine List.Sublist.cons_cons _ ?_ | refine List.Sublist.append (List.Sublist.refl _) ?_ | refine List.Sublist.cons _ ?_ | refine List.Sublist.trans ?_ (List.sublist_append_right _ _)))
  have hke : k = row.length := by omega
  subst hke
  rw [List.take_length] at hob
  have hsl3 := someI_len row 0
  refine W.freezeOws hob (by repeat (first | exact pm_nil _ | exact pm_refl _ _ | exact pm_self _ | refine pm_cons ?_ | refine pm_app ?_)) fun S7 hle7 hsr => ?_
  obtain ⟨A7, c7, rfl, hc7, hA7⟩ := hsr
  have hw1 : ∀ x ∈ [((someI 0 row).length : Int) / 2], wOk x := fun x hx => hrok x (by rw [List.mem_singleton.1 hx]; exact List.mem_cons_self)
  have hl1 := txt_len hw1
  have hw2 : ∀ x ∈ someI 0 row, wOk x := fun x hx => hrok x (List.mem_cons_of_mem _ hx)
  have hl2 := txt_len hw2
  simp only [List.length_singleton] at hl1
  (repeat (first | refine Jc ?_ | (apply s_buildSlice; (case hg => rfl); (case hd => rfl); (case hp => rfl); (case hq => rfl); (case hm => rfl); (case hv => rfl); (case hl => rfl); intro bn; refine W.freeze fun S8 hle8 hb8 => ?_) | (apply s_callw (caps := [.pointer (some ⟨b4, 0, none⟩)]); (case hg => rfl); (case hd => rfl); (case hx => rfl); (case i1 => infer_instance); (case ha => rfl); (case hc => exact put_con [((someI 0 row).length : Int) / 2] _ 1 out2 _ _ (at_litB hb8 rfl) hw1 (by simp) (by omega)); (case hL => (repeat (first | exact pm_nil _ | exact pm_refl _ _ | exact pm_self _ | apply pm_cons | apply pm_app))); rintro S9 L9 v9 hle9 ⟨rfl, rfl, rfl⟩) | (apply s_callw (caps := [.pointer (some ⟨b4, 0, none⟩)]); (case hg => rfl); (case hd => rfl); (case hx => rfl); (case i1 => infer_instance); (case ha => rfl); (case hc => exact put_con (someI 0 row) A7 c7 (out2 ++ txt [((someI 0 row).length : Int) / 2]) _ _ (hA7.le (by repeat (first | exact Le.refl _ | assumption | refine Le.trans ?_ (by assumption)))) hw2 (by omega) (by rw [List.length_append]; omega)); (case hL => (repeat (first | exact pm_nil _ | exact pm_refl _ _ | exact pm_self _ | apply pm_cons | apply pm_app))); rintro S10 L10 v10 hle10 ⟨rfl, rfl, rfl⟩) | refine Jo ?_ | intro _))
  refine q_back (m' := 2 - (j + 1)) ⟨(hle5.trans hle7).trans hle8, j + 1, _, rfl, by omega, ?_, ?_, rfl, rfl⟩ (by omega) (by repeat (first | exact Sub.nil rfl | exact Sub.marked rfl | refine Sub.cons rfl ?_)) (by repeat (first | exact List.Sublist.refl _ | exact List.Sublist.slnil | exact List.nil_sublist _ | exact List.sublist_append_left _ _ | refine List.Sublist.cons_cons _ ?_ | refine List.Sublist.append (List.Sublist.refl _) ?_ | refine List.Sublist.cons _ ?_ | refine List.Sublist.trans ?_ (List.sublist_append_right _ _)))
  · rw [take_at' hrw, List.flatMap_append, ho2, List.append_assoc, List.append_assoc, ← txt_app, ← txt_app]
    simp [rowI]
  · rw [List.length_append, List.length_append]; omega
end Go.Proofs.YtogfficbloejcaaDoor
namespace Go.Proofs.YtogfficbloejcaaDoor
open Go Go.X
set_option maxRecDepth 10000
set_option linter.unusedVariables false
attribute [local irreducible] Code.wpIn wpListIn Exit.then Exit.inBlock X.Out X.Back X.W X.Ev X.Con X.BinV X.Wh X.Wn X.Wq
/-- One integer is read; none: nothing can be read any more. -/
def get1 (s : Bs) : Option Nat → Int × Option Nat
  | none => (0, none)
  | some p => match decI (s.drop p) with
    | none => (0, none)
    | some (n, k) => (n, some (p + k))
def okO (q : Option Nat) : Obj := .cells [.bool q.isSome].toArray 4 (0, 0)
def endO (e : Int) : Obj := .cells [.int .i64 e].toArray 3 (0, 0)
def EndIs (s : Bs) (q : Option Nat) (e : Int) : Prop := ∀ p, q = some p → e = p ∧ p ≤ s.length
theorem decI_len {l : Bs} {n : Int} {k : Nat} (h : decI l = some (n, k)) : 1 ≤ k ∧ k ≤ l.length ∧ k ≤ 9 ∧ wOk n := by
  obtain ⟨h1, h2, h3⟩ := (decI_iff l n k).1 h
  have h4 := congrArg List.length h3
  rw [List.length_take] at h4
  have h5 := ibs_len h1
  have h6 : 0 < (ibs n).length := enc_pos _
  exact ⟨by omega, by omega, by omega, h1⟩
theorem get1_end {s : Bs} {q : Option Nat} {e : Int} (h : EndIs s q e) : ∃ e', EndIs s (get1 s q).2 e' := by
  cases q with
  | none => exact ⟨0, fun p hp => by simp [get1] at hp⟩
  | some p =>
    simp only [get1]
    cases hd : decI (s.drop p) with
    | none => exact ⟨0, fun p hp => by simp at hp⟩
    | some x =>
      obtain ⟨n, k⟩ := x
      have := decI_len hd
      rw [List.length_drop] at this
      have h2 := h p rfl
      exact ⟨((p + k : Nat) : Int), fun p' hp => by simp only [Option.some.injEq] at hp; subst hp; exact ⟨rfl, by omega⟩⟩
theorem get_con (s : Bs) (hs : s.length ≤ 9223372036854775807) (q : Option Nat) (e : Int) (he : EndIs s q e) (bo be : Nat) (ps : Addr) (S : SH) (hps : Pts S ps [strV s]) :
    Con Tryd.prog 69 #[.pointer (some ⟨bo, 0, none⟩), .pointer (some ps), .pointer (some ⟨be, 0, none⟩)] S [(bo, okO q), (be, endO e)] (fun S' L' v => S' = S ∧ v = .int .i64 (get1 s q).1 ∧ ∃ e', EndIs s (get1 s q).2 e' ∧ L' = [(bo, okO (get1 s q).2), (be, endO e')]) := by
  refine con_of (args := [.pointer (some ⟨bo, 0, none⟩), .pointer (some ps), .pointer (some ⟨be, 0, none⟩)]) Tryd.func69 rfl Tryd.ntmps69 rfl fun w => ?_
  cases q with
  | none =>
    unfold okO endO
    (repeat (first | refine Jz ?_ | intro _))
    exact o_ret (L' := [(bo, okO none), (be, endO e)]) Tryd.results69 rfl (List.Sublist.refl _) ⟨rfl, rfl, e, he, rfl⟩
  | some p =>
    obtain ⟨rfl, hp⟩ := he p rfl
    have hi := Int_con s p S hs
    rw [intV, if_neg (by omega), Int.toNat_natCast] at hi
    unfold okO endO
    cases hd : decI (s.drop p) with
    | none =>
      rw [hd] at hi
      (repeat (first | refine Jc ?_ | (apply s_load1; (case hg => rfl); (case hd => rfl); (case hx => rfl); (case hv => exact hps)) | ((apply z_call; rfl; rfl; rfl; exact hi; rintro _ _ _ - ⟨rfl, rfl, rfl⟩)) | refine Jo ?_ | intro _))
      exact o_ret (L' := [(bo, okO none), (be, endO 0)]) Tryd.results69 rfl (List.Sublist.refl _) ⟨rfl, by rw [get1, hd], 0, fun p hp => by simp [get1, hd] at hp, by rw [get1, hd]; rfl⟩
    | some x =>
      obtain ⟨n, k⟩ := x
      rw [hd] at hi
      have := decI_len hd
      rw [List.length_drop] at this
      (repeat (first | refine Jc ?_ | (apply s_load1; (case hg => rfl); (case hd => rfl); (case hx => rfl); (case hv => exact hps)) | ((apply z_call; rfl; rfl; rfl; exact hi; rintro _ _ _ - ⟨rfl, rfl, rfl⟩)) | refine Jo ?_ | intro _))
      exact o_ret (L' := [(bo, okO (some (p + k))), (be, endO ((p : Int) + k))]) Tryd.results69 rfl (List.Sublist.refl _) ⟨rfl, by rw [get1, hd], (p : Int) + k, fun p' hp => by simp only [get1, hd, Option.some.injEq] at hp; subst hp; exact ⟨by omega, by omega⟩, by rw [get1, hd]; rfl⟩
def rdRow (s : Bs) : Nat → Option Nat → Int → List Int → List Int × Option Nat
  | 0, q, _, l => (l, q)
  | _ + 1, none, _, l => (l, none)
  | n + 1, some p, last, l =>
    if (get1 s (get1 s (some p)).2).2.isSome = true ∧ last < (get1 s (some p)).1 ∧ (get1 s (some p)).1 < 44 ∧ (get1 s (get1 s (some p)).2).1 ≠ 0 then
      rdRow s n (get1 s (get1 s (some p)).2).2 (get1 s (some p)).1 (l.set (get1 s (some p)).1.toNat (get1 s (get1 s (some p)).2).1)
    else (l, none)
theorem rdRow_none (s : Bs) (n : Nat) (last : Int) (l : List Int) : rdRow s n none last l = (l, none) := by cases n <;> rfl
/-- A row of counts is read. -/
def rowR (s : Bs) (q : Option Nat) : List Int × Option Nat := rdRow s (get1 s q).1.toNat (get1 s q).2 (-1) (List.replicate 44 0)
theorem get1_bd (s : Bs) (q : Option Nat) : wOk (get1 s q).1 := by
  cases q with
  | none => show wOk 0; unfold wOk; omega
  | some p =>
    simp only [get1]
    cases hd : decI (s.drop p) with
    | none => unfold wOk; simp
    | some x => obtain ⟨n, k⟩ := x; exact (decI_len hd).2.2.2
set_option maxHeartbeats 1600000 in
theorem row_con (s : Bs) (hs : s.length ≤ 9223372036854775807) (q : Option Nat) (e : Int) (he : EndIs s q e) (bo be : Nat) (ps pg : Addr) (S : SH) (hps : Pts S ps [strV s]) (hpg : Pts S pg [.func (.func 69) #[] #[.pointer (some ⟨bo, 0, none⟩), .pointer (some ps), .pointer (some ⟨be, 0, none⟩)]]) :
    Con Tryd.prog 71 #[.pointer (some pg), .pointer (some ⟨bo, 0, none⟩)] S [(bo, okO q), (be, endO e)] (fun S' L' v => (rowR s q).1.length = 44 ∧ ∃ A e', v = .slice A (rowR s q).1.length 44 ∧ At S' A (rowR s q).1 ∧ EndIs s (rowR s q).2 e' ∧ L' = [(bo, okO (rowR s q).2), (be, endO e')]) := by
  refine con_of (args := [.pointer (some pg), .pointer (some ⟨bo, 0, none⟩)]) Tryd.func71 rfl Tryd.ntmps71 rfl fun w => ?_
  obtain ⟨g, hg⟩ : ∃ g, g = get1 s q := ⟨_, rfl⟩
  have hgc := get_con s hs q e he bo be ps S hps
  rw [← hg] at hgc
  have hb1 := get1_bd s q
  rw [← hg] at hb1
  obtain ⟨n0, q0⟩ := g
  have hrr : rowR s q = rdRow s n0.toNat q0 (-1) (List.replicate 44 0) := by rw [rowR, ← hg]
  rw [hrr]
  simp only at hgc hb1
  unfold wOk at hb1
  (repeat (first | refine Jc ?_ | (apply s_load1; (case hg => rfl); (case hd => rfl); (case hx => rfl); (case hv => exact hpg)) | (apply s_make1 (m := 44); (case hg => rfl); (case hd => rfl); (case hx => rfl); (case hy => rfl); (case hzc => rfl); (case hb => omega); (case h63 => omega); intro _) | (apply s_callw (caps := [.pointer (some ⟨bo, 0, none⟩), .pointer (some ps), .pointer (some ⟨be, 0, none⟩)]); (case hg => rfl); (case hd => rfl); (case hx => rfl); (case i1 => infer_instance); (case ha => rfl); (case hc => exact hgc); (case hL => (repeat (first | exact pm_nil _ | exact pm_refl _ _ | exact pm_self _ | apply pm_cons | apply pm_app))); rintro S2 L2 v2 hle2 ⟨rfl, rfl, e1, he1, rfl⟩) | refine Jo ?_ | intro _))
  rename_i br
  refine c_loop (fun m S' L F => S' = S2 ∧ ∃ (nv last : Int) (q1 : Option Nat) (l : List Int) (e2 : Int), m = nv.toNat ∧ -4611686018427387903 ≤ nv ∧ nv ≤ 4611686018427387903 ∧ l.length = 44 ∧ EndIs s q1 e2 ∧ -1 ≤ last ∧ rdRow s nv.toNat q1 last l = rdRow s n0.toNat q0 (-1) (List.replicate 44 0) ∧ L = [(bo, okO q1), (be, endO e2), (br, .cells (l.map (Value.int .i64)).toArray 3 (0, 0))] ∧
      F = [(5, .int .i64 nv), (4, .int .i64 last), (3, .slice (some ⟨br, 0, none⟩) 44 44), (1, .pointer (some ⟨bo, 0, none⟩)), (0, .pointer (some pg))])
    (L' := [(bo, okO q0), (be, endO e1), (br, .cells (List.replicate 44 (Value.int .i64 0)).toArray 3 (0, 0))]) ⟨rfl, n0, -1, q0, List.replicate 44 0, e1, rfl, by omega, by omega, by simp, he1, by omega, rfl, by rw [List.map_replicate], rfl⟩ (by repeat (first | exact Sub.nil rfl | exact Sub.marked rfl | refine Sub.cons rfl ?_)) (List.Sublist.refl _) ?_
  rintro m S' L F ⟨rfl, nv, last, q1, l, e2, rfl, n1, n2, hl, he2, hla, hrf, rfl, rfl⟩
  rw [← hrf]
  by_cases hn : 0 < nv
  rotate_left
  · rw [show nv.toNat = 0 by omega, rdRow]
    (repeat (first | refine Jz ?_ | intro _))
    refine W.perm (L' := (br, .cells (l.map (Value.int .i64)).toArray 3 (0, 0)) :: [(bo, okO q1), (be, endO e2)]) ?_ (List.perm_append_comm (l₁ := [_, _]) (l₂ := [_]))
    refine W.freeze fun S3 hle3 hb3 => ?_
    exact o_ret (L' := [(bo, okO q1), (be, endO e2)]) Tryd.results71 rfl (List.Sublist.refl _) ⟨hl, some ⟨br, 0, none⟩, e2, by rw [hl], at_litB hb3 (by simp [cells_int]), he2, rfl⟩
  obtain ⟨k1, hk1⟩ : ∃ k1, nv.toNat = k1 + 1 := ⟨nv.toNat - 1, by omega⟩
  cases q1 with
  | none =>
    rw [hk1, rdRow]
    unfold okO
    (repeat (first | refine Jz ?_ | intro _))
    refine W.perm (L' := (br, .cells (l.map (Value.int .i64)).toArray 3 (0, 0)) :: [(bo, okO none), (be, endO e2)]) ?_ (List.perm_append_comm (l₁ := [_, _]) (l₂ := [_]))
    refine W.freeze fun S3 hle3 hb3 => ?_
    exact o_ret (L' := [(bo, okO none), (be, endO e2)]) Tryd.results71 rfl (List.Sublist.refl _) ⟨hl, some ⟨br, 0, none⟩, e2, by rw [hl], at_litB hb3 (by simp [cells_int]), he2, rfl⟩
  | some p =>
    have hgc1 := get_con s hs (some p) e2 he2 bo be ps S' (hps.le hle2)
    rw [hk1, rdRow] at hrf ⊢
    have kb := get1_bd s (some p)
    have cb := get1_bd s (get1 s (some p)).2
    have hgc2 := fun e3 he3 => get_con s hs (get1 s (some p)).2 e3 he3 bo be ps S' (hps.le hle2)
    generalize get1 s (some p) = g1 at *
    obtain ⟨k, q2⟩ := g1
    simp only at *
    generalize get1 s q2 = g2 at *
    obtain ⟨c, q3⟩ := g2
    simp only at *
    unfold wOk at kb cb
    have hpg2 := hpg.le hle2
    (repeat (first | refine Jz ?_ | intro _))
    ((apply c_held ([(br, .cells (l.map (Value.int .i64)).toArray 3 (0, 0))]); (case hL => (repeat (first | exact List.Sublist.refl _ | exact List.Sublist.slnil | exact List.nil_sublist _ | exact List.sublist_append_left _ _ | apply List.Sublist.cons_cons | (apply List.Sublist.append; exact List.Sublist.refl _) | apply List.Sublist.cons | refine List.Sublist.trans ?_ (List.sublist_append_right _ _))))); (apply h_first 0; (case hi => rfl); (case hr => kernel_rfl); (case hfr => kernel_rfl); (case hsel => kernel_rfl); (case hg => rfl); (case hd => rfl); (case he => (apply ev_load1; (case hx => rfl); (case h => exact hpg2)))); (apply h_first 2; (case hi => rfl); (case hr => kernel_rfl); (case hfr => kernel_rfl); (case hsel => kernel_rfl); (case hg => rfl); (case hd => rfl); (case he => (apply ev_load1; (case hx => rfl); (case h => exact hpg2)))); (apply h_one 1; (case hr => kernel_rfl)); (apply n_callv (caps := [.pointer (some ⟨bo, 0, none⟩), .pointer (some ps), .pointer (some ⟨be, 0, none⟩)]); (case hi => rfl); (case hg => rfl); (case hd => rfl); (case hx => rfl); (case i1 => infer_instance); (case ha => rfl); (case hc => exact hgc1); (case hL => (repeat (first | exact pm_nil _ | exact pm_refl _ _ | exact pm_self _ | apply pm_cons | apply pm_app))); (case hsub => (intros; (repeat (first | exact List.Sublist.refl _ | exact List.Sublist.slnil | exact List.nil_sublist _ | exact List.sublist_append_left _ _ | apply List.Sublist.cons_cons | (apply List.Sublist.append; exact List.Sublist.refl _) | apply List.Sublist.cons | refine List.Sublist.trans ?_ (List.sublist_append_right _ _))))); rintro _ _ _ - ⟨rfl, rfl, e3, he3, rfl⟩); (apply h_one 3; (case hr => kernel_rfl)); (apply n_callv (caps := [.pointer (some ⟨bo, 0, none⟩), .pointer (some ps), .pointer (some ⟨be, 0, none⟩)]); (case hi => rfl); (case hg => rfl); (case hd => rfl); (case hx => rfl); (case i1 => infer_instance); (case ha => rfl); (case hc => exact hgc2 e3 he3); (case hL => (repeat (first | exact pm_nil _ | exact pm_refl _ _ | exact pm_self _ | apply pm_cons | apply pm_app))); (case hsub => (intros; (repeat (first | exact List.Sublist.refl _ | exact List.Sublist.slnil | exact List.nil_sublist _ | exact List.sublist_append_left _ _ | apply List.Sublist.cons_cons | (apply List.Sublist.append; exact List.Sublist.refl _) | apply List.Sublist.cons | refine List.Sublist.trans ?_ (List.sublist_append_right _ _))))); rintro _ _ _ - ⟨rfl, rfl, e4, he4, rfl⟩); refine Jf 4 ?_; refine Jf 5 ?_; (apply h_end; (case hr => kernel_rfl)))
    refine W.perm (L' := [(bo, okO q3), (be, endO e4), (br, .cells (l.map (Value.int .i64)).toArray 3 (0, 0))]) ?_ (List.Perm.refl _)
    cases q3 with
    | none =>
      rw [if_neg (fun h => by cases h.1)] at hrf ⊢
      unfold okO
      (repeat (first | refine Jz ?_ | intro _))
      refine q_back (m' := (nv - 1).toNat) ⟨rfl, nv - 1, last, none, l, e4, rfl, by omega, by omega, hl, he4, hla, ?_, rfl, rfl⟩ (by omega) (by repeat (first | exact Sub.nil rfl | exact Sub.marked rfl | refine Sub.cons rfl ?_)) (List.Sublist.refl _)
      exact rdRow_none _ _ _ _
    | some p3 =>
      unfold okO
      by_cases c1 : last < k
      rotate_left
      · rw [if_neg (fun h => c1 h.2.1)] at hrf ⊢
        (repeat (first | refine Jz ?_ | intro _))
        refine q_back (m' := (nv - 1).toNat) ⟨rfl, nv - 1, last, none, l, e4, rfl, by omega, by omega, hl, (fun p h => by cases h), hla, rdRow_none _ _ _ _, rfl, rfl⟩ (by omega) (by repeat (first | exact Sub.nil rfl | exact Sub.marked rfl | refine Sub.cons rfl ?_)) (List.Sublist.refl _)
      by_cases c2 : k < 44
      rotate_left
      · rw [if_neg (fun h => c2 h.2.2.1)] at hrf ⊢
        (repeat (first | refine Jz ?_ | intro _))
        exact q_back (m' := (nv - 1).toNat) ⟨rfl, nv - 1, last, none, l, e4, rfl, by omega, by omega, hl, (fun p h => by cases h), hla, rdRow_none _ _ _ _, rfl, rfl⟩ (by omega) (by repeat (first | exact Sub.nil rfl | exact Sub.marked rfl | refine Sub.cons rfl ?_)) (List.Sublist.refl _)
      by_cases c3 : c = 0
      · rw [if_neg (fun h => h.2.2.2 c3)] at hrf ⊢
        (repeat (first | refine Jz ?_ | intro _))
        exact q_back (m' := (nv - 1).toNat) ⟨rfl, nv - 1, last, none, l, e4, rfl, by omega, by omega, hl, (fun p h => by cases h), hla, rdRow_none _ _ _ _, rfl, rfl⟩ (by omega) (by repeat (first | exact Sub.nil rfl | exact Sub.marked rfl | refine Sub.cons rfl ?_)) (List.Sublist.refl _)
      rw [if_pos ⟨rfl, c1, c2, c3⟩] at hrf ⊢
      obtain ⟨kn, rfl⟩ : ∃ kn : Nat, k = kn := ⟨k.toNat, by omega⟩
      have hcell : (l.map (Value.int .i64))[kn]? = some (.int .i64 (l[kn]'(by omega))) := by rw [List.getElem?_map, List.getElem?_eq_getElem]; rfl
      (repeat (first | refine Jc ?_ | (apply s_idxo1 (j := kn); (case hg => rfl); (case hd => rfl); (case hx => rfl); (case hi => rfl); (case hk => omega)) | (apply s_store; (case hg => rfl); (case hx => rfl); (case hy => rfl); (case h1 => rfl); (case hL => (repeat (first | exact Upd.head | apply Upd.tail | apply Upd.app))); (case hu => exact hcell)) | refine Jo ?_ | intro _))
      rw [show k1 = (nv - 1).toNat by omega] at hrf ⊢
      exact q_back (m' := (nv - 1).toNat) ⟨rfl, nv - 1, kn, some p3, l.set kn c, e4, rfl, by omega, by omega, by simpa using hl, he4, by omega, rfl, by rw [List.map_set]; rfl, rfl⟩ (by omega) (by repeat (first | exact Sub.nil rfl | exact Sub.marked rfl | refine Sub.cons rfl ?_)) (List.Sublist.refl _)
end Go.Proofs.YtogfficbloejcaaDoor
namespace Go.Proofs.YtogfficbloejcaaDoor
open Go Go.X
set_option maxRecDepth 10000
set_option linter.unusedVariables false
attribute [local irreducible] Code.wpIn wpListIn Exit.then Exit.inBlock X.Out X.Back X.W X.Ev X.Con X.BinV X.Wh X.Wn X.Wq
/-- After so many reads. -/
def qn (s : Bs) : Nat → Option Nat → Option Nat
  | 0, q => q
  | k + 1, q => (get1 s (qn s k q)).2
def vn (s : Bs) (k : Nat) (q : Option Nat) : Int := (get1 s (qn s k q)).1
/-- A cell is read. -/
def cellD (s : Bs) (q : Option Nat) : PC × Option Nat :=
  (⟨vn s 0 q, vn s 1 q, vn s 2 q, vn s 3 q, ⟨vn s 4 q, vn s 5 q, vn s 6 q, vn s 7 q, (rowR s (qn s 8 q)).1, (rowR s (rowR s (qn s 8 q)).2).1⟩⟩, (rowR s (rowR s (qn s 8 q)).2).2)
def decC (s : Bs) : Nat → Option Nat → List PC → List PC × Option Nat
  | 0, q, l => (l, q)
  | _ + 1, none, l => (l, none)
  | n + 1, some p, l => decC s n (cellD s (some p)).2 (l ++ [(cellD s (some p)).1])
theorem decC_none (s : Bs) (n : Nat) (l : List PC) : decC s n none l = (l, none) := by cases n <;> rfl
/-- What Decode answers: the sketch, the end, the error. -/
noncomputable def decR (s : Bs) (p : Nat) : List PC × Int × Int :=
  if (get1 s (some p)).2.isSome = true ∧ 0 ≤ (get1 s (some p)).1 ∧ (get1 s (some p)).1 ≤ 400 then
    match decC s (get1 s (some p)).1.toNat (get1 s (some p)).2 [] with
    | (_, none) => ([], 0, 170)
    | (l, some e) => by classical exact if ValidP l ∧ txt (skI l) = (s.take e).drop p then (l, (e : Int), 0) else ([], 0, 170)
  else ([], 0, 170)
noncomputable def decA (s : Bs) (at_ : Int) : List PC × Int × Int := if at_ < 0 ∨ (s.length : Int) < at_ then ([], 0, 2) else decR s at_.toNat
theorem skv_empty (S : SH) : SkV S (.agg #[.slice none 0 0]) [] := ⟨none, 0, [], rfl, At.nil _ _, fun q hq => absurd hq List.not_mem_nil, by decide, rfl⟩
def Ge (q : Option Nat) (p : Nat) : Prop := ∀ e, q = some e → p ≤ e
theorem get1_ge {s : Bs} {q : Option Nat} {p : Nat} (h : Ge q p) : Ge (get1 s q).2 p := by
  cases q with
  | none => exact fun e he => by simp [get1] at he
  | some x =>
    have := h x rfl
    intro e he
    simp only [get1] at he
    cases hd : decI (s.drop x) with
    | none => rw [hd] at he; cases he
    | some y =>
      obtain ⟨n, k⟩ := y
      rw [hd] at he
      simp only [Option.some.injEq] at he
      omega
theorem rdRow_ge {s : Bs} : ∀ (n : Nat) (q : Option Nat) (last : Int) (l : List Int) (p : Nat), Ge q p → Ge (rdRow s n q last l).2 p
  | 0, q, _, _, p, h => h
  | n + 1, none, _, _, p, _ => fun e he => by cases he
  | n + 1, some x, last, l, p, h => by
    rw [rdRow]
    split
    · exact rdRow_ge n _ _ _ p (get1_ge (get1_ge h))
    · exact fun e he => by cases he
theorem rowR_ge {s : Bs} {q : Option Nat} {p : Nat} (h : Ge q p) : Ge (rowR s q).2 p := rdRow_ge _ _ _ _ p (get1_ge h)
theorem qn_ge {s : Bs} {q : Option Nat} {p : Nat} (h : Ge q p) : ∀ k, Ge (qn s k q) p
  | 0 => h
  | k + 1 => get1_ge (qn_ge h k)
theorem cellD_ge {s : Bs} {q : Option Nat} {p : Nat} (h : Ge q p) : Ge (cellD s q).2 p := rowR_ge (rowR_ge (qn_ge h 8))
theorem decC_ge {s : Bs} : ∀ (n : Nat) (q : Option Nat) (l : List PC) (p : Nat), Ge q p → Ge (decC s n q l).2 p
  | 0, _, _, _, h => h
  | n + 1, none, _, p, _ => fun e he => by cases he
  | n + 1, some x, l, p, h => by rw [decC]; exact decC_ge n _ _ p (cellD_ge h)
set_option maxHeartbeats 3200000 in
theorem Decode_con (s : Bs) (at_ : Int) (S : SH) (hG : Gl S) (hs : s.length ≤ 9223372036854775807) :
    Con Tryd.prog 36 #[strV s, .int .i64 at_] S [] (fun S' L' r => L' = [] ∧ ∃ v, r = .tuple #[v, .int .i64 (decA s at_).2.1, .int .i64 (decA s at_).2.2] ∧ SkV S' v (decA s at_).1) := by
  refine con_of (args := [strV s, .int .i64 at_]) Tryd.func36 rfl Tryd.ntmps36 rfl fun w => ?_
  by_cases h1 : at_ < 0
  · rw [decA, if_pos (.inl h1)]
    (repeat (first | refine Jc ?_ | (apply s_evb; (case hg => rfl); (case hd => rfl); (case hn => rfl); (case he => (apply ev_buildS; (case hp => rfl); (case hz => rfl); (case h1 => rfl); (case hr => rfl)))) | refine Jo ?_ | intro _))
    exact o_ret_c3 (L' := []) (sz := 1) (cs := [.slice none 0 0]) Tryd.results36 rfl rfl rfl (by repeat (first | exact List.Mem.head _ | refine List.Mem.tail _ ?_ | exact List.mem_append_right _ (List.Mem.head _))) rfl (List.nil_sublist _) ⟨rfl, _, rfl, skv_empty _⟩
  by_cases h2 : (s.length : Int) < at_
  · rw [decA, if_pos (.inr h2)]
    (repeat (first | refine Jc ?_ | (apply s_evb; (case hg => rfl); (case hd => rfl); (case hn => rfl); (case he => (apply ev_len_b; rfl))) | (apply s_evb; (case hg => rfl); (case hd => rfl); (case hn => rfl); (case he => (apply ev_buildS; (case hp => rfl); (case hz => rfl); (case h1 => rfl); (case hr => rfl)))) | refine Jo ?_ | intro _))
    exact o_ret_c3 (L' := []) (sz := 1) (cs := [.slice none 0 0]) Tryd.results36 rfl rfl rfl (by repeat (first | exact List.Mem.head _ | refine List.Mem.tail _ ?_ | exact List.mem_append_right _ (List.Mem.head _))) rfl (List.nil_sublist _) ⟨rfl, _, rfl, skv_empty _⟩
  obtain ⟨p, rfl⟩ : ∃ p : Nat, at_ = p := ⟨at_.toNat, by omega⟩
  rw [decA, if_neg (by omega), Int.toNat_natCast]
  (repeat (first | refine Jc ?_ | (apply s_evb; (case hg => rfl); (case hd => rfl); (case hn => rfl); (case he => (apply ev_len_b; rfl))) | refine Jo ?_ | intro _))
  rename_i bs b4 be bo bg b11
  refine W.perm ?_ ((List.Perm.swap _ _ _).trans ((List.perm_append_comm (l₁ := [_, _, _, _]) (l₂ := [_])).cons _))
  refine W.freeze fun S1 hle1 hb1 => ?_
  refine W.perm (L' := (bs, .cells [strV s].toArray 9 (0, 0)) :: [(b11, .cells [.slice none 0 0].toArray 24 (0, 0)), (bo, okO (some p)), (be, endO p), (b4, .cells [.slice none 0 0].toArray 24 (0, 0))]) ?_ (List.Perm.refl _)
  refine W.freeze fun S2 hle2 hb2 => ?_
  have hps : Pts S2 ⟨bs, 0, none⟩ [strV s] := pts_block hb2 rfl
  have hpg : Pts S2 ⟨bg, 0, none⟩ [(.func (.func 69) #[] #[.pointer (some ⟨bo, 0, none⟩), .pointer (some ⟨bs, 0, none⟩), .pointer (some ⟨be, 0, none⟩)])] := pts_block (hle2 _ _ hb1) rfl
  have he0 : EndIs s (some p) p := fun p' h => by injection h with h; subst h; exact ⟨rfl, by omega⟩
  have hg0 := get_con s hs (some p) p he0 bo be ⟨bs, 0, none⟩ S2 hps
  have hnb := get1_bd s (some p)
  have hge : Ge (get1 s (some p)).2 p := get1_ge (fun e he => by injection he with he; omega)
  unfold decR
  generalize get1 s (some p) = g0 at *
  obtain ⟨n0, q0⟩ := g0
  simp only at *
  unfold wOk at hnb
  (repeat (first | refine Jc ?_ | (apply s_load1; (case hg => rfl); (case hd => rfl); (case hx => rfl); (case hv => exact hpg)) | refine Jo ?_ | intro _))
  (apply s_callw (caps := [.pointer (some ⟨bo, 0, none⟩), .pointer (some ⟨bs, 0, none⟩), .pointer (some ⟨be, 0, none⟩)]); (case hg => rfl); (case hd => rfl); (case hx => rfl); (case i1 => infer_instance); (case ha => rfl); (case hc => exact hg0); (case hL => (repeat (first | exact pm_nil _ | exact pm_refl _ _ | exact pm_self _ | apply pm_cons | apply pm_app))); rintro S3 _ _ - ⟨rfl, rfl, e0, he0', rfl⟩)
  refine Jo ?_
  apply s_end
  apply q_then
  apply c_seq
  generalize hR : (if q0.isSome = true ∧ 0 ≤ n0 ∧ n0 ≤ 400 then _ else _) = R
  refine c_meet (fun S' L F => S' = S3 ∧ ∃ q e, EndIs s q e ∧ Ge q p ∧ (q ≠ none → 0 ≤ n0 ∧ n0 ≤ 400) ∧ (match decC s n0.toNat q [] with | (_, none) => ([], 0, 170) | (l, some e) => by classical exact if ValidP l ∧ txt (skI l) = (s.take e).drop p then (l, (e : Int), 0) else ([], 0, 170)) = R ∧
      L = [(bo, okO q), (be, endO e), (b11, .cells [.slice none 0 0].toArray 24 (0, 0)), (b4, .cells [.slice none 0 0].toArray 24 (0, 0))] ∧ F = [(12, .int .i64 n0), (11, .pointer (some ⟨b11, 0, none⟩)), (10, .func (.func 71) #[] #[.pointer (some ⟨bg, 0, none⟩), .pointer (some ⟨bo, 0, none⟩)]), (9, .pointer (some ⟨bg, 0, none⟩)), (8, .pointer (some ⟨bo, 0, none⟩)), (7, .pointer (some ⟨be, 0, none⟩)), (4, .pointer (some ⟨b4, 0, none⟩)), (2, .pointer (some ⟨bs, 0, none⟩)), (1, .int .i64 p)]) ?_ ?_
  · by_cases c1 : q0.isSome = true
    rotate_left
    · have hq : q0 = none := by cases q0 with | none => rfl | some x => exact absurd rfl c1
      subst hq
      rw [if_neg (fun h => by cases h.1)] at hR
      unfold okO
      (repeat (first | refine Jz ?_ | intro _))
      exact q_cut ⟨rfl, none, e0, he0', (fun p h => by cases h), (fun h => absurd rfl h), by rw [decC_none]; exact hR, rfl, rfl⟩ (by repeat (first | exact Sub.nil rfl | exact Sub.marked rfl | refine Sub.cons rfl ?_)) (List.Sublist.refl _)
    by_cases c2 : 0 ≤ n0
    rotate_left
    · rw [if_neg (fun h => c2 h.2.1)] at hR
      unfold okO
      rw [c1]
      (repeat (first | refine Jz ?_ | intro _))
      exact q_cut ⟨rfl, none, e0, (fun p h => by cases h), (fun p h => by cases h), (fun h => absurd rfl h), by rw [decC_none]; exact hR, rfl, rfl⟩ (by repeat (first | exact Sub.nil rfl | exact Sub.marked rfl | refine Sub.cons rfl ?_)) (List.Sublist.refl _)
    by_cases c3 : n0 ≤ 400
    rotate_left
    · rw [if_neg (fun h => c3 h.2.2)] at hR
      unfold okO
      rw [c1]
      (repeat (first | refine Jz ?_ | intro _))
      exact q_cut ⟨rfl, none, e0, (fun p h => by cases h), (fun p h => by cases h), (fun h => absurd rfl h), by rw [decC_none]; exact hR, rfl, rfl⟩ (by repeat (first | exact Sub.nil rfl | exact Sub.marked rfl | refine Sub.cons rfl ?_)) (List.Sublist.refl _)
    rw [if_pos ⟨c1, c2, c3⟩] at hR
    obtain ⟨x0, rfl⟩ := Option.isSome_iff_exists.1 c1
    unfold okO
    (repeat (first | refine Jz ?_ | intro _))
    exact q_cut ⟨rfl, some x0, e0, he0', hge, (fun _ => ⟨c2, c3⟩), hR, rfl, rfl⟩ (by repeat (first | exact Sub.nil rfl | exact Sub.marked rfl | refine Sub.cons rfl ?_)) (List.Sublist.refl _)
  rintro S' L F ⟨rfl, q, e, he, hge, hq, hR, rfl, rfl⟩
  (repeat (first | refine Jz ?_ | intro _))
  refine c_meetB (fun S5 L5 F5 => Le S' S5 ∧ ∃ (q5 : Option Nat) (e5 : Int) (l : List Ce) (pv : Value) (ob : Blocks), EndIs s q5 e5 ∧ Ows 45 pv l ob ∧ (∀ c ∈ l, c.ok S5) ∧ (q5 ≠ none → l.length ≤ 400) ∧ decC s n0.toNat q [] = (l.map (·.p), q5) ∧
      L5 = [(bo, okO q5), (be, endO e5), (b11, .cells [pv].toArray 24 (0, 0)), (b4, .cells [.slice none 0 0].toArray 24 (0, 0))] ++ ob ∧ F5 = [(11, .pointer (some ⟨b11, 0, none⟩)), (10, .func (.func 71) #[] #[.pointer (some ⟨bg, 0, none⟩), .pointer (some ⟨bo, 0, none⟩)]), (9, .pointer (some ⟨bg, 0, none⟩)), (8, .pointer (some ⟨bo, 0, none⟩)), (7, .pointer (some ⟨be, 0, none⟩)), (4, .pointer (some ⟨b4, 0, none⟩)), (2, .pointer (some ⟨bs, 0, none⟩)), (1, .int .i64 p)]) ?_ ?_
  · refine c_loop (fun m S5 L5 F5 => Le S' S5 ∧ ∃ (nv : Int) (q5 : Option Nat) (e5 : Int) (l : List Ce) (pv : Value) (ob : Blocks), m = nv.toNat ∧ nv ≤ n0 ∧ -4611686018427387903 ≤ nv ∧ EndIs s q5 e5 ∧ Ows 45 pv l ob ∧ (∀ c ∈ l, c.ok S5) ∧ (q ≠ none → l.length + nv = n0 ∧ 0 ≤ nv) ∧ (q = none → q5 = none) ∧ decC s n0.toNat q [] = decC s nv.toNat q5 (l.map (·.p)) ∧
      L5 = [(bo, okO q5), (be, endO e5), (b11, .cells [pv].toArray 24 (0, 0)), (b4, .cells [.slice none 0 0].toArray 24 (0, 0))] ++ ob ∧ F5 = [(12, .int .i64 nv), (11, .pointer (some ⟨b11, 0, none⟩)), (10, .func (.func 71) #[] #[.pointer (some ⟨bg, 0, none⟩), .pointer (some ⟨bo, 0, none⟩)]), (9, .pointer (some ⟨bg, 0, none⟩)), (8, .pointer (some ⟨bo, 0, none⟩)), (7, .pointer (some ⟨be, 0, none⟩)), (4, .pointer (some ⟨b4, 0, none⟩)), (2, .pointer (some ⟨bs, 0, none⟩)), (1, .int .i64 p)])
      ⟨Le.refl _, n0, q, e, [], _, [], rfl, Int.le_refl _, hnb.1, he, Ows.nil 45, (fun c hc => absurd hc List.not_mem_nil), (fun h => ⟨by simp, (hq h).1⟩), (fun h => h), rfl, rfl, rfl⟩ (by repeat (first | exact Sub.nil rfl | exact Sub.marked rfl | refine Sub.cons rfl ?_)) (List.Sublist.refl _) ?_
    rintro m S5 L5 F5 ⟨hle5, nv, q5, e5, l, pv, ob, rfl, hnv, hnv2, he5, hob, hok, hnl, hqn, hdc, rfl, rfl⟩
    by_cases hn : 0 < nv
    rotate_left
    · rw [show nv.toNat = 0 by omega, decC] at hdc
      (repeat (first | refine Jz ?_ | intro _))
      exact q_cut ⟨hle5, q5, e5, l, pv, ob, he5, hob, hok, (fun h => by have h3 : q ≠ none := fun h2 => h (hqn h2); have := hnl h3; have := hq h3; omega), hdc, rfl, rfl⟩ (by repeat (first | exact Sub.nil rfl | exact Sub.marked rfl | refine Sub.cons rfl ?_)) (List.Sublist.refl _)
    obtain ⟨k1, hk1⟩ : ∃ k1, nv.toNat = k1 + 1 := ⟨nv.toNat - 1, by omega⟩
    cases q5 with
    | none =>
      rw [decC_none] at hdc
      unfold okO
      (repeat (first | refine Jz ?_ | intro _))
      exact q_cut ⟨hle5, none, e5, l, pv, ob, he5, hob, hok, (fun h => absurd rfl h), hdc, rfl, rfl⟩ (by repeat (first | exact Sub.nil rfl | exact Sub.marked rfl | refine Sub.cons rfl ?_)) (List.Sublist.refl _)
    | some pp =>
      rw [hk1, decC] at hdc
      have hps5 := hps.le hle5
      have hpg5 := hpg.le hle5
      (repeat (first | refine Jz ?_ | intro _))
      refine c_meet (fun S6 L6 F6 => S6 = S5 ∧ ∃ (e6 : Int) (bc : Nat), EndIs s (qn s 8 (some pp)) e6 ∧ L6.Perm ([(bo, okO (qn s 8 (some pp))), (be, endO e6), (bc, .cells [.int .i64 (vn s 0 (some pp)), .int .i64 (vn s 1 (some pp)), .int .i64 (vn s 2 (some pp)), .int .i64 (vn s 3 (some pp)), .int .i64 (vn s 4 (some pp)), .int .i64 (vn s 5 (some pp)), .int .i64 (vn s 6 (some pp)), .int .i64 (vn s 7 (some pp)), .slice none 0 0, .slice none 0 0].toArray 45 (0, 0)), (b11, .cells [pv].toArray 24 (0, 0)), (b4, .cells [.slice none 0 0].toArray 24 (0, 0))] ++ ob) ∧ F6 = [(13, .pointer (some ⟨bc, 0, none⟩)), (12, .int .i64 nv), (11, .pointer (some ⟨b11, 0, none⟩)), (10, .func (.func 71) #[] #[.pointer (some ⟨bg, 0, none⟩), .pointer (some ⟨bo, 0, none⟩)]), (9, .pointer (some ⟨bg, 0, none⟩)), (8, .pointer (some ⟨bo, 0, none⟩)), (7, .pointer (some ⟨be, 0, none⟩)), (4, .pointer (some ⟨b4, 0, none⟩)), (2, .pointer (some ⟨bs, 0, none⟩)), (1, .int .i64 p)]) ?_ ?_
      · ((apply c_held ((b11, .cells [pv].toArray 24 (0, 0)) :: (b4, .cells [.slice none 0 0].toArray 24 (0, 0)) :: ob); (case hL => (repeat (first | exact List.Sublist.refl _ | exact List.Sublist.slnil | exact List.nil_sublist _ | exact List.sublist_append_left _ _ | apply List.Sublist.cons_cons | (apply List.Sublist.append; exact List.Sublist.refl _) | apply List.Sublist.cons | refine List.Sublist.trans ?_ (List.sublist_append_right _ _))))); (apply h_first 0; (case hi => rfl); (case hr => kernel_rfl); (case hfr => kernel_rfl); (case hsel => kernel_rfl); (case hg => rfl); (case hd => rfl); (case he => (apply ev_load1; (case hx => rfl); (case h => exact hpg5)))); (apply h_first 2; (case hi => rfl); (case hr => kernel_rfl); (case hfr => kernel_rfl); (case hsel => kernel_rfl); (case hg => rfl); (case hd => rfl); (case he => (apply ev_load1; (case hx => rfl); (case h => exact hpg5)))); (apply h_first 4; (case hi => rfl); (case hr => kernel_rfl); (case hfr => kernel_rfl); (case hsel => kernel_rfl); (case hg => rfl); (case hd => rfl); (case he => (apply ev_load1; (case hx => rfl); (case h => exact hpg5)))); (apply h_first 6; (case hi => rfl); (case hr => kernel_rfl); (case hfr => kernel_rfl); (case hsel => kernel_rfl); (case hg => rfl); (case hd => rfl); (case he => (apply ev_load1; (case hx => rfl); (case h => exact hpg5)))); (apply h_first 8; (case hi => rfl); (case hr => kernel_rfl); (case hfr => kernel_rfl); (case hsel => kernel_rfl); (case hg => rfl); (case hd => rfl); (case he => (apply ev_load1; (case hx => rfl); (case h => exact hpg5)))); (apply h_first 10; (case hi => rfl); (case hr => kernel_rfl); (case hfr => kernel_rfl); (case hsel => kernel_rfl); (case hg => rfl); (case hd => rfl); (case he => (apply ev_load1; (case hx => rfl); (case h => exact hpg5)))); (apply h_first 12; (case hi => rfl); (case hr => kernel_rfl); (case hfr => kernel_rfl); (case hsel => kernel_rfl); (case hg => rfl); (case hd => rfl); (case he => (apply ev_load1; (case hx => rfl); (case h => exact hpg5)))); (apply h_first 14; (case hi => rfl); (case hr => kernel_rfl); (case hfr => kernel_rfl); (case hsel => kernel_rfl); (case hg => rfl); (case hd => rfl); (case he => (apply ev_load1; (case hx => rfl); (case h => exact hpg5)))); (apply h_two 1 17; (case hr => kernel_rfl)); (case k1 => ((apply n_callv (caps := [.pointer (some ⟨bo, 0, none⟩), .pointer (some ⟨bs, 0, none⟩), .pointer (some ⟨be, 0, none⟩)]); (case hi => rfl); (case hg => rfl); (case hd => rfl); (case hx => rfl); (case i1 => infer_instance); (case ha => rfl); (case hc => exact get_con s hs _ _ (by assumption) bo be ⟨bs, 0, none⟩ _ hps5); (case hL => (repeat (first | exact pm_nil _ | exact pm_refl _ _ | exact pm_self _ | apply pm_cons | apply pm_app))); (case hsub => (intros; (repeat (first | exact List.Sublist.refl _ | exact List.Sublist.slnil | exact List.nil_sublist _ | exact List.sublist_append_left _ _ | apply List.Sublist.cons_cons | (apply List.Sublist.append; exact List.Sublist.refl _) | apply List.Sublist.cons | refine List.Sublist.trans ?_ (List.sublist_append_right _ _))))); rintro _ _ _ - ⟨rfl, rfl, _, _, rfl⟩); (apply h_two 3 17; (case hr => kernel_rfl)); (case k1 => ((apply n_callv (caps := [.pointer (some ⟨bo, 0, none⟩), .pointer (some ⟨bs, 0, none⟩), .pointer (some ⟨be, 0, none⟩)]); (case hi => rfl); (case hg => rfl); (case hd => rfl); (case hx => rfl); (case i1 => infer_instance); (case ha => rfl); (case hc => exact get_con s hs _ _ (by assumption) bo be ⟨bs, 0, none⟩ _ hps5); (case hL => (repeat (first | exact pm_nil _ | exact pm_refl _ _ | exact pm_self _ | apply pm_cons | apply pm_app))); (case hsub => (intros; (repeat (first | exact List.Sublist.refl _ | exact List.Sublist.slnil | exact List.nil_sublist _ | exact List.sublist_append_left _ _ | apply List.Sublist.cons_cons | (apply List.Sublist.append; exact List.Sublist.refl _) | apply List.Sublist.cons | refine List.Sublist.trans ?_ (List.sublist_append_right _ _))))); rintro _ _ _ - ⟨rfl, rfl, _, _, rfl⟩); (apply h_two 5 17; (case hr => kernel_rfl)); (case k1 => ((apply n_callv (caps := [.pointer (some ⟨bo, 0, none⟩), .pointer (some ⟨bs, 0, none⟩), .pointer (some ⟨be, 0, none⟩)]); (case hi => rfl); (case hg => rfl); (case hd => rfl); (case hx => rfl); (case i1 => infer_instance); (case ha => rfl); (case hc => exact get_con s hs _ _ (by assumption) bo be ⟨bs, 0, none⟩ _ hps5); (case hL => (repeat (first | exact pm_nil _ | exact pm_refl _ _ | exact pm_self _ | apply pm_cons | apply pm_app))); (case hsub => (intros; (repeat (first | exact List.Sublist.refl _ | exact List.Sublist.slnil | exact List.nil_sublist _ | exact List.sublist_append_left _ _ | apply List.Sublist.cons_cons | (apply List.Sublist.append; exact List.Sublist.refl _) | apply List.Sublist.cons | refine List.Sublist.trans ?_ (List.sublist_append_right _ _))))); rintro _ _ _ - ⟨rfl, rfl, _, _, rfl⟩); (apply h_two 7 17; (case hr => kernel_rfl)); (case k1 => ((apply n_callv (caps := [.pointer (some ⟨bo, 0, none⟩), .pointer (some ⟨bs, 0, none⟩), .pointer (some ⟨be, 0, none⟩)]); (case hi => rfl); (case hg => rfl); (case hd => rfl); (case hx => rfl); (case i1 => infer_instance); (case ha => rfl); (case hc => exact get_con s hs _ _ (by assumption) bo be ⟨bs, 0, none⟩ _ hps5); (case hL => (repeat (first | exact pm_nil _ | exact pm_refl _ _ | exact pm_self _ | apply pm_cons | apply pm_app))); (case hsub => (intros; (repeat (first | exact List.Sublist.refl _ | exact List.Sublist.slnil | exact List.nil_sublist _ | exact List.sublist_append_left _ _ | apply List.Sublist.cons_cons | (apply List.Sublist.append; exact List.Sublist.refl _) | apply List.Sublist.cons | refine List.Sublist.trans ?_ (List.sublist_append_right _ _))))); rintro _ _ _ - ⟨rfl, rfl, _, _, rfl⟩); (apply h_two 9 17; (case hr => kernel_rfl)); (case k1 => ((apply n_callv (caps := [.pointer (some ⟨bo, 0, none⟩), .pointer (some ⟨bs, 0, none⟩), .pointer (some ⟨be, 0, none⟩)]); (case hi => rfl); (case hg => rfl); (case hd => rfl); (case hx => rfl); (case i1 => infer_instance); (case ha => rfl); (case hc => exact get_con s hs _ _ (by assumption) bo be ⟨bs, 0, none⟩ _ hps5); (case hL => (repeat (first | exact pm_nil _ | exact pm_refl _ _ | exact pm_self _ | apply pm_cons | apply pm_app))); (case hsub => (intros; (repeat (first | exact List.Sublist.refl _ | exact List.Sublist.slnil | exact List.nil_sublist _ | exact List.sublist_append_left _ _ | apply List.Sublist.cons_cons | (apply List.Sublist.append; exact List.Sublist.refl _) | apply List.Sublist.cons | refine List.Sublist.trans ?_ (List.sublist_append_right _ _))))); rintro _ _ _ - ⟨rfl, rfl, _, _, rfl⟩); (apply h_two 11 17; (case hr => kernel_rfl)); (case k1 => ((apply n_callv (caps := [.pointer (some ⟨bo, 0, none⟩), .pointer (some ⟨bs, 0, none⟩), .pointer (some ⟨be, 0, none⟩)]); (case hi => rfl); (case hg => rfl); (case hd => rfl); (case hx => rfl); (case i1 => infer_instance); (case ha => rfl); (case hc => exact get_con s hs _ _ (by assumption) bo be ⟨bs, 0, none⟩ _ hps5); (case hL => (repeat (first | exact pm_nil _ | exact pm_refl _ _ | exact pm_self _ | apply pm_cons | apply pm_app))); (case hsub => (intros; (repeat (first | exact List.Sublist.refl _ | exact List.Sublist.slnil | exact List.nil_sublist _ | exact List.sublist_append_left _ _ | apply List.Sublist.cons_cons | (apply List.Sublist.append; exact List.Sublist.refl _) | apply List.Sublist.cons | refine List.Sublist.trans ?_ (List.sublist_append_right _ _))))); rintro _ _ _ - ⟨rfl, rfl, _, _, rfl⟩); (apply h_two 13 17; (case hr => kernel_rfl)); (case k1 => ((apply n_callv (caps := [.pointer (some ⟨bo, 0, none⟩), .pointer (some ⟨bs, 0, none⟩), .pointer (some ⟨be, 0, none⟩)]); (case hi => rfl); (case hg => rfl); (case hd => rfl); (case hx => rfl); (case i1 => infer_instance); (case ha => rfl); (case hc => exact get_con s hs _ _ (by assumption) bo be ⟨bs, 0, none⟩ _ hps5); (case hL => (repeat (first | exact pm_nil _ | exact pm_refl _ _ | exact pm_self _ | apply pm_cons | apply pm_app))); (case hsub => (intros; (repeat (first | exact List.Sublist.refl _ | exact List.Sublist.slnil | exact List.nil_sublist _ | exact List.sublist_append_left _ _ | apply List.Sublist.cons_cons | (apply List.Sublist.append; exact List.Sublist.refl _) | apply List.Sublist.cons | refine List.Sublist.trans ?_ (List.sublist_append_right _ _))))); rintro _ _ _ - ⟨rfl, rfl, _, _, rfl⟩); (apply h_two 15 17; (case hr => kernel_rfl)); (case k1 => ((apply n_callv (caps := [.pointer (some ⟨bo, 0, none⟩), .pointer (some ⟨bs, 0, none⟩), .pointer (some ⟨be, 0, none⟩)]); (case hi => rfl); (case hg => rfl); (case hd => rfl); (case hx => rfl); (case i1 => infer_instance); (case ha => rfl); (case hc => exact get_con s hs _ _ (by assumption) bo be ⟨bs, 0, none⟩ _ hps5); (case hL => (repeat (first | exact pm_nil _ | exact pm_refl _ _ | exact pm_self _ | apply pm_cons | apply pm_app))); (case hsub => (intros; (repeat (first | exact List.Sublist.refl _ | exact List.Sublist.slnil | exact List.nil_sublist _ | exact List.sublist_append_left _ _ | apply List.Sublist.cons_cons | (apply List.Sublist.append; exact List.Sublist.refl _) | apply List.Sublist.cons | refine List.Sublist.trans ?_ (List.sublist_append_right _ _))))); rintro _ _ _ - ⟨rfl, rfl, _, _, rfl⟩); (first | (apply h_first 16; (case hi => rfl); (case hr => kernel_rfl); (case hfr => kernel_rfl); (case hsel => kernel_rfl); (case hg => rfl); (case hd => rfl); (case he => (apply ev_buildS; (case hp => rfl); (case hz => rfl); (case h1 => rfl); (case hr => rfl)))) | refine Jf 16 ?_); (apply h_one 17; (case hr => kernel_rfl)); (refine Jn ?_; try intro _); (apply h_one 18; (case hr => kernel_rfl)); (refine Jn ?_; try intro _); (apply h_end; (case hr => kernel_rfl)); (apply q_then; exact q_cut ⟨rfl, _, _, (by assumption), (by first | exact List.Perm.refl _ | exact (List.Perm.swap _ _ _).trans ((List.Perm.swap _ _ _).cons _) | exact ((List.Perm.swap _ _ _).trans ((List.Perm.swap _ _ _).cons _))), rfl⟩ (by repeat (first | exact Sub.nil rfl | exact Sub.marked rfl | refine Sub.cons rfl ?_)) (List.Sublist.refl _)))); (case k2 => ((refine Jn ?_; try intro _); (apply h_one 15; (case hr => kernel_rfl)); (apply n_callv (caps := [.pointer (some ⟨bo, 0, none⟩), .pointer (some ⟨bs, 0, none⟩), .pointer (some ⟨be, 0, none⟩)]); (case hi => rfl); (case hg => rfl); (case hd => rfl); (case hx => rfl); (case i1 => infer_instance); (case ha => rfl); (case hc => exact get_con s hs _ _ (by assumption) bo be ⟨bs, 0, none⟩ _ hps5); (case hL => (repeat (first | exact pm_nil _ | exact pm_refl _ _ | exact pm_self _ | apply pm_cons | apply pm_app))); (case hsub => (intros; (repeat (first | exact List.Sublist.refl _ | exact List.Sublist.slnil | exact List.nil_sublist _ | exact List.sublist_append_left _ _ | apply List.Sublist.cons_cons | (apply List.Sublist.append; exact List.Sublist.refl _) | apply List.Sublist.cons | refine List.Sublist.trans ?_ (List.sublist_append_right _ _))))); rintro _ _ _ - ⟨rfl, rfl, _, _, rfl⟩); (first | (apply h_first 16; (case hi => rfl); (case hr => kernel_rfl); (case hfr => kernel_rfl); (case hsel => kernel_rfl); (case hg => rfl); (case hd => rfl); (case he => (apply ev_buildS; (case hp => rfl); (case hz => rfl); (case h1 => rfl); (case hr => rfl)))) | refine Jf 16 ?_); (apply h_one 18; (case hr => kernel_rfl)); (refine Jn ?_; try intro _); (apply h_end; (case hr => kernel_rfl)); (apply q_then; exact q_cut ⟨rfl, _, _, (by assumption), (by first | exact List.Perm.refl _ | exact (List.Perm.swap _ _ _).trans ((List.Perm.swap _ _ _).cons _) | exact ((List.Perm.swap _ _ _).trans ((List.Perm.swap _ _ _).cons _))), rfl⟩ (by repeat (first | exact Sub.nil rfl | exact Sub.marked rfl | refine Sub.cons rfl ?_)) (List.Sublist.refl _)))))); (case k2 => ((refine Jn ?_; try intro _); (apply h_one 13; (case hr => kernel_rfl)); (apply n_callv (caps := [.pointer (some ⟨bo, 0, none⟩), .pointer (some ⟨bs, 0, none⟩), .pointer (some ⟨be, 0, none⟩)]); (case hi => rfl); (case hg => rfl); (case hd => rfl); (case hx => rfl); (case i1 => infer_instance); (case ha => rfl); (case hc => exact get_con s hs _ _ (by assumption) bo be ⟨bs, 0, none⟩ _ hps5); (case hL => (repeat (first | exact pm_nil _ | exact pm_refl _ _ | exact pm_self _ | apply pm_cons | apply pm_app))); (case hsub => (intros; (repeat (first | exact List.Sublist.refl _ | exact List.Sublist.slnil | exact List.nil_sublist _ | exact List.sublist_append_left _ _ | apply List.Sublist.cons_cons | (apply List.Sublist.append; exact List.Sublist.refl _) | apply List.Sublist.cons | refine List.Sublist.trans ?_ (List.sublist_append_right _ _))))); rintro _ _ _ - ⟨rfl, rfl, _, _, rfl⟩); (apply h_one 15; (case hr => kernel_rfl)); (apply n_callv (caps := [.pointer (some ⟨bo, 0, none⟩), .pointer (some ⟨bs, 0, none⟩), .pointer (some ⟨be, 0, none⟩)]); (case hi => rfl); (case hg => rfl); (case hd => rfl); (case hx => rfl); (case i1 => infer_instance); (case ha => rfl); (case hc => exact get_con s hs _ _ (by assumption) bo be ⟨bs, 0, none⟩ _ hps5); (case hL => (repeat (first | exact pm_nil _ | exact pm_refl _ _ | exact pm_self _ | apply pm_cons | apply pm_app))); (case hsub => (intros; (repeat (first | exact List.Sublist.refl _ | exact List.Sublist.slnil | exact List.nil_sublist _ | exact List.sublist_append_left _ _ | apply List.Sublist.cons_cons | (apply List.Sublist.append; exact List.Sublist.refl _) | apply List.Sublist.cons | refine List.Sublist.trans ?_ (List.sublist_append_right _ _))))); rintro _ _ _ - ⟨rfl, rfl, _, _, rfl⟩); (first | (apply h_first 16; (case hi => rfl); (case hr => kernel_rfl); (case hfr => kernel_rfl); (case hsel => kernel_rfl); (case hg => rfl); (case hd => rfl); (case he => (apply ev_buildS; (case hp => rfl); (case hz => rfl); (case h1 => rfl); (case hr => rfl)))) | refine Jf 16 ?_); (apply h_one 18; (case hr => kernel_rfl)); (refine Jn ?_; try intro _); (apply h_end; (case hr => kernel_rfl)); (apply q_then; exact q_cut ⟨rfl, _, _, (by assumption), (by first | exact List.Perm.refl _ | exact (List.Perm.swap _ _ _).trans ((List.Perm.swap _ _ _).cons _) | exact ((List.Perm.swap _ _ _).trans ((List.Perm.swap _ _ _).cons _))), rfl⟩ (by repeat (first | exact Sub.nil rfl | exact Sub.marked rfl | refine Sub.cons rfl ?_)) (List.Sublist.refl _)))))); (case k2 => ((refine Jn ?_; try intro _); (apply h_one 11; (case hr => kernel_rfl)); (apply n_callv (caps := [.pointer (some ⟨bo, 0, none⟩), .pointer (some ⟨bs, 0, none⟩), .pointer (some ⟨be, 0, none⟩)]); (case hi => rfl); (case hg => rfl); (case hd => rfl); (case hx => rfl); (case i1 => infer_instance); (case ha => rfl); (case hc => exact get_con s hs _ _ (by assumption) bo be ⟨bs, 0, none⟩ _ hps5); (case hL => (repeat (first | exact pm_nil _ | exact pm_refl _ _ | exact pm_self _ | apply pm_cons | apply pm_app))); (case hsub => (intros; (repeat (first | exact List.Sublist.refl _ | exact List.Sublist.slnil | exact List.nil_sublist _ | exact List.sublist_append_left _ _ | apply List.Sublist.cons_cons | (apply List.Sublist.append; exact List.Sublist.refl _) | apply List.Sublist.cons | refine List.Sublist.trans ?_ (List.sublist_append_right _ _))))); rintro _ _ _ - ⟨rfl, rfl, _, _, rfl⟩); (apply h_one 13; (case hr => kernel_rfl)); (apply n_callv (caps := [.pointer (some ⟨bo, 0, none⟩), .pointer (some ⟨bs, 0, none⟩), .pointer (some ⟨be, 0, none⟩)]); (case hi => rfl); (case hg => rfl); (case hd => rfl); (case hx => rfl); (case i1 => infer_instance); (case ha => rfl); (case hc => exact get_con s hs _ _ (by assumption) bo be ⟨bs, 0, none⟩ _ hps5); (case hL => (repeat (first | exact pm_nil _ | exact pm_refl _ _ | exact pm_self _ | apply pm_cons | apply pm_app))); (case hsub => (intros; (repeat (first | exact List.Sublist.refl _ | exact List.Sublist.slnil | exact List.nil_sublist _ | exact List.sublist_append_left _ _ | apply List.Sublist.cons_cons | (apply List.Sublist.append; exact List.Sublist.refl _) | apply List.Sublist.cons | refine List.Sublist.trans ?_ (List.sublist_append_right _ _))))); rintro _ _ _ - ⟨rfl, rfl, _, _, rfl⟩); (apply h_one 15; (case hr => kernel_rfl)); (apply n_callv (caps := [.pointer (some ⟨bo, 0, none⟩), .pointer (some ⟨bs, 0, none⟩), .pointer (some ⟨be, 0, none⟩)]); (case hi => rfl); (case hg => rfl); (case hd => rfl); (case hx => rfl); (case i1 => infer_instance); (case ha => rfl); (case hc => exact get_con s hs _ _ (by assumption) bo be ⟨bs, 0, none⟩ _ hps5); (case hL => (repeat (first | exact pm_nil _ | exact pm_refl _ _ | exact pm_self _ | apply pm_cons | apply pm_app))); (case hsub => (intros; (repeat (first | exact List.Sublist.refl _ | exact List.Sublist.slnil | exact List.nil_sublist _ | exact List.sublist_append_left _ _ | apply List.Sublist.cons_cons | (apply List.Sublist.append; exact List.Sublist.refl _) | apply List.Sublist.cons | refine List.Sublist.trans ?_ (List.sublist_append_right _ _))))); rintro _ _ _ - ⟨rfl, rfl, _, _, rfl⟩); (first | (apply h_first 16; (case hi => rfl); (case hr => kernel_rfl); (case hfr => kernel_rfl); (case hsel => kernel_rfl); (case hg => rfl); (case hd => rfl); (case he => (apply ev_buildS; (case hp => rfl); (case hz => rfl); (case h1 => rfl); (case hr => rfl)))) | refine Jf 16 ?_); (apply h_one 18; (case hr => kernel_rfl)); (refine Jn ?_; try intro _); (apply h_end; (case hr => kernel_rfl)); (apply q_then; exact q_cut ⟨rfl, _, _, (by assumption), (by first | exact List.Perm.refl _ | exact (List.Perm.swap _ _ _).trans ((List.Perm.swap _ _ _).cons _) | exact ((List.Perm.swap _ _ _).trans ((List.Perm.swap _ _ _).cons _))), rfl⟩ (by repeat (first | exact Sub.nil rfl | exact Sub.marked rfl | refine Sub.cons rfl ?_)) (List.Sublist.refl _)))))); (case k2 => ((refine Jn ?_; try intro _); (apply h_one 9; (case hr => kernel_rfl)); (apply n_callv (caps := [.pointer (some ⟨bo, 0, none⟩), .pointer (some ⟨bs, 0, none⟩), .pointer (some ⟨be, 0, none⟩)]); (case hi => rfl); (case hg => rfl); (case hd => rfl); (case hx => rfl); (case i1 => infer_instance); (case ha => rfl); (case hc => exact get_con s hs _ _ (by assumption) bo be ⟨bs, 0, none⟩ _ hps5); (case hL => (repeat (first | exact pm_nil _ | exact pm_refl _ _ | exact pm_self _ | apply pm_cons | apply pm_app))); (case hsub => (intros; (repeat (first | exact List.Sublist.refl _ | exact List.Sublist.slnil | exact List.nil_sublist _ | exact List.sublist_append_left _ _ | apply List.Sublist.cons_cons | (apply List.Sublist.append; exact List.Sublist.refl _) | apply List.Sublist.cons | refine List.Sublist.trans ?_ (List.sublist_append_right _ _))))); rintro _ _ _ - ⟨rfl, rfl, _, _, rfl⟩); (apply h_one 11; (case hr => kernel_rfl)); (apply n_callv (caps := [.pointer (some ⟨bo, 0, none⟩), .pointer (some ⟨bs, 0, none⟩), .pointer (some ⟨be, 0, none⟩)]); (case hi => rfl); (case hg => rfl); (case hd => rfl); (case hx => rfl); (case i1 => infer_instance); (case ha => rfl); (case hc => exact get_con s hs _ _ (by assumption) bo be ⟨bs, 0, none⟩ _ hps5); (case hL => (repeat (first | exact pm_nil _ | exact pm_refl _ _ | exact pm_self _ | apply pm_cons | apply pm_app))); (case hsub => (intros; (repeat (first | exact List.Sublist.refl _ | exact List.Sublist.slnil | exact List.nil_sublist _ | exact List.sublist_append_left _ _ | apply List.Sublist.cons_cons | (apply List.Sublist.append; exact List.Sublist.refl _) | apply List.Sublist.cons | refine List.Sublist.trans ?_ (List.sublist_append_right _ _))))); rintro _ _ _ - ⟨rfl, rfl, _, _, rfl⟩); (apply h_one 13; (case hr => kernel_rfl)); (apply n_callv (caps := [.pointer (some ⟨bo, 0, none⟩), .pointer (some ⟨bs, 0, none⟩), .pointer (some ⟨be, 0, none⟩)]); (case hi => rfl); (case hg => rfl); (case hd => rfl); (case hx => rfl); (case i1 => infer_instance); (case ha => rfl); (case hc => exact get_con s hs _ _ (by assumption) bo be ⟨bs, 0, none⟩ _ hps5); (case hL => (repeat (first | exact pm_nil _ | exact pm_refl _ _ | exact pm_self _ | apply pm_cons | apply pm_app))); (case hsub => (intros; (repeat (first | exact List.Sublist.refl _ | exact List.Sublist.slnil | exact List.nil_sublist _ | exact List.sublist_append_left _ _ | apply List.Sublist.cons_cons | (apply List.Sublist.append; exact List.Sublist.refl _) | apply List.Sublist.cons | refine List.Sublist.trans ?_ (List.sublist_append_right _ _))))); rintro _ _ _ - ⟨rfl, rfl, _, _, rfl⟩); (apply h_one 15; (case hr => kernel_rfl)); (apply n_callv (caps := [.pointer (some ⟨bo, 0, none⟩), .pointer (some ⟨bs, 0, none⟩), .pointer (some ⟨be, 0, none⟩)]); (case hi => rfl); (case hg => rfl); (case hd => rfl); (case hx => rfl); (case i1 => infer_instance); (case ha => rfl); (case hc => exact get_con s hs _ _ (by assumption) bo be ⟨bs, 0, none⟩ _ hps5); (case hL => (repeat (first | exact pm_nil _ | exact pm_refl _ _ | exact pm_self _ | apply pm_cons | apply pm_app))); (case hsub => (intros; (repeat (first | exact List.Sublist.refl _ | exact List.Sublist.slnil | exact List.nil_sublist _ | exact List.sublist_append_left _ _ | apply List.Sublist.cons_cons | (apply List.Sublist.append; exact List.Sublist.refl _) | apply List.Sublist.cons | refine List.Sublist.trans ?_ (List.sublist_append_right _ _))))); rintro _ _ _ - ⟨rfl, rfl, _, _, rfl⟩); (first | (apply h_first 16; (case hi => rfl); (case hr => kernel_rfl); (case hfr => kernel_rfl); (case hsel => kernel_rfl); (case hg => rfl); (case hd => rfl); (case he => (apply ev_buildS; (case hp => rfl); (case hz => rfl); (case h1 => rfl); (case hr => rfl)))) | refine Jf 16 ?_); (apply h_one 18; (case hr => kernel_rfl)); (refine Jn ?_; try intro _); (apply h_end; (case hr => kernel_rfl)); (apply q_then; exact q_cut ⟨rfl, _, _, (by assumption), (by first | exact List.Perm.refl _ | exact (List.Perm.swap _ _ _).trans ((List.Perm.swap _ _ _).cons _) | exact ((List.Perm.swap _ _ _).trans ((List.Perm.swap _ _ _).cons _))), rfl⟩ (by repeat (first | exact Sub.nil rfl | exact Sub.marked rfl | refine Sub.cons rfl ?_)) (List.Sublist.refl _)))))); (case k2 => ((refine Jn ?_; try intro _); (apply h_one 7; (case hr => kernel_rfl)); (apply n_callv (caps := [.pointer (some ⟨bo, 0, none⟩), .pointer (some ⟨bs, 0, none⟩), .pointer (some ⟨be, 0, none⟩)]); (case hi => rfl); (case hg => rfl); (case hd => rfl); (case hx => rfl); (case i1 => infer_instance); (case ha => rfl); (case hc => exact get_con s hs _ _ (by assumption) bo be ⟨bs, 0, none⟩ _ hps5); (case hL => (repeat (first | exact pm_nil _ | exact pm_refl _ _ | exact pm_self _ | apply pm_cons | apply pm_app))); (case hsub => (intros; (repeat (first | exact List.Sublist.refl _ | exact List.Sublist.slnil | exact List.nil_sublist _ | exact List.sublist_append_left _ _ | apply List.Sublist.cons_cons | (apply List.Sublist.append; exact List.Sublist.refl _) | apply List.Sublist.cons | refine List.Sublist.trans ?_ (List.sublist_append_right _ _))))); rintro _ _ _ - ⟨rfl, rfl, _, _, rfl⟩); (apply h_one 9; (case hr => kernel_rfl)); (apply n_callv (caps := [.pointer (some ⟨bo, 0, none⟩), .pointer (some ⟨bs, 0, none⟩), .pointer (some ⟨be, 0, none⟩)]); (case hi => rfl); (case hg => rfl); (case hd => rfl); (case hx => rfl); (case i1 => infer_instance); (case ha => rfl); (case hc => exact get_con s hs _ _ (by assumption) bo be ⟨bs, 0, none⟩ _ hps5); (case hL => (repeat (first | exact pm_nil _ | exact pm_refl _ _ | exact pm_self _ | apply pm_cons | apply pm_app))); (case hsub => (intros; (repeat (first | exact List.Sublist.refl _ | exact List.Sublist.slnil | exact List.nil_sublist _ | exact List.sublist_append_left _ _ | apply List.Sublist.cons_cons | (apply List.Sublist.append; exact List.Sublist.refl _) | apply List.Sublist.cons | refine List.Sublist.trans ?_ (List.sublist_append_right _ _))))); rintro _ _ _ - ⟨rfl, rfl, _, _, rfl⟩); (apply h_one 11; (case hr => kernel_rfl)); (apply n_callv (caps := [.pointer (some ⟨bo, 0, none⟩), .pointer (some ⟨bs, 0, none⟩), .pointer (some ⟨be, 0, none⟩)]); (case hi => rfl); (case hg => rfl); (case hd => rfl); (case hx => rfl); (case i1 => infer_instance); (case ha => rfl); (case hc => exact get_con s hs _ _ (by assumption) bo be ⟨bs, 0, none⟩ _ hps5); (case hL => (repeat (first | exact pm_nil _ | exact pm_refl _ _ | exact pm_self _ | apply pm_cons | apply pm_app))); (case hsub => (intros; (repeat (first | exact List.Sublist.refl _ | exact List.Sublist.slnil | exact List.nil_sublist _ | exact List.sublist_append_left _ _ | apply List.Sublist.cons_cons | (apply List.Sublist.append; exact List.Sublist.refl _) | apply List.Sublist.cons | refine List.Sublist.trans ?_ (List.sublist_append_right _ _))))); rintro _ _ _ - ⟨rfl, rfl, _, _, rfl⟩); (apply h_one 13; (case hr => kernel_rfl)); (apply n_callv (caps := [.pointer (some ⟨bo, 0, none⟩), .pointer (some ⟨bs, 0, none⟩), .pointer (some ⟨be, 0, none⟩)]); (case hi => rfl); (case hg => rfl); (case hd => rfl); (case hx => rfl); (case i1 => infer_instance); (case ha => rfl); (case hc => exact get_con s hs _ _ (by assumption) bo be ⟨bs, 0, none⟩ _ hps5); (case hL => (repeat (first | exact pm_nil _ | exact pm_refl _ _ | exact pm_self _ | apply pm_cons | apply pm_app))); (case hsub => (intros; (repeat (first | exact List.Sublist.refl _ | exact List.Sublist.slnil | exact List.nil_sublist _ | exact List.sublist_append_left _ _ | apply List.Sublist.cons_cons | (apply List.Sublist.append; exact List.Sublist.refl _) | apply List.Sublist.cons | refine List.Sublist.trans ?_ (List.sublist_append_right _ _))))); rintro _ _ _ - ⟨rfl, rfl, _, _, rfl⟩); (apply h_one 15; (case hr => kernel_rfl)); (apply n_callv (caps := [.pointer (some ⟨bo, 0, none⟩), .pointer (some ⟨bs, 0, none⟩), .pointer (some ⟨be, 0, none⟩)]); (case hi => rfl); (case hg => rfl); (case hd => rfl); (case hx => rfl); (case i1 => infer_instance); (case ha => rfl); (case hc => exact get_con s hs _ _ (by assumption) bo be ⟨bs, 0, none⟩ _ hps5); (case hL => (repeat (first | exact pm_nil _ | exact pm_refl _ _ | exact pm_self _ | apply pm_cons | apply pm_app))); (case hsub => (intros; (repeat (first | exact List.Sublist.refl _ | exact List.Sublist.slnil | exact List.nil_sublist _ | exact List.sublist_append_left _ _ | apply List.Sublist.cons_cons | (apply List.Sublist.append; exact List.Sublist.refl _) | apply List.Sublist.cons | refine List.Sublist.trans ?_ (List.sublist_append_right _ _))))); rintro _ _ _ - ⟨rfl, rfl, _, _, rfl⟩); (first | (apply h_first 16; (case hi => rfl); (case hr => kernel_rfl); (case hfr => kernel_rfl); (case hsel => kernel_rfl); (case hg => rfl); (case hd => rfl); (case he => (apply ev_buildS; (case hp => rfl); (case hz => rfl); (case h1 => rfl); (case hr => rfl)))) | refine Jf 16 ?_); (apply h_one 18; (case hr => kernel_rfl)); (refine Jn ?_; try intro _); (apply h_end; (case hr => kernel_rfl)); (apply q_then; exact q_cut ⟨rfl, _, _, (by assumption), (by first | exact List.Perm.refl _ | exact (List.Perm.swap _ _ _).trans ((List.Perm.swap _ _ _).cons _) | exact ((List.Perm.swap _ _ _).trans ((List.Perm.swap _ _ _).cons _))), rfl⟩ (by repeat (first | exact Sub.nil rfl | exact Sub.marked rfl | refine Sub.cons rfl ?_)) (List.Sublist.refl _)))))); (case k2 => ((refine Jn ?_; try intro _); (apply h_one 5; (case hr => kernel_rfl)); (apply n_callv (caps := [.pointer (some ⟨bo, 0, none⟩), .pointer (some ⟨bs, 0, none⟩), .pointer (some ⟨be, 0, none⟩)]); (case hi => rfl); (case hg => rfl); (case hd => rfl); (case hx => rfl); (case i1 => infer_instance); (case ha => rfl); (case hc => exact get_con s hs _ _ (by assumption) bo be ⟨bs, 0, none⟩ _ hps5); (case hL => (repeat (first | exact pm_nil _ | exact pm_refl _ _ | exact pm_self _ | apply pm_cons | apply pm_app))); (case hsub => (intros; (repeat (first | exact List.Sublist.refl _ | exact List.Sublist.slnil | exact List.nil_sublist _ | exact List.sublist_append_left _ _ | apply List.Sublist.cons_cons | (apply List.Sublist.append; exact List.Sublist.refl _) | apply List.Sublist.cons | refine List.Sublist.trans ?_ (List.sublist_append_right _ _))))); rintro _ _ _ - ⟨rfl, rfl, _, _, rfl⟩); (apply h_one 7; (case hr => kernel_rfl)); (apply n_callv (caps := [.pointer (some ⟨bo, 0, none⟩), .pointer (some ⟨bs, 0, none⟩), .pointer (some ⟨be, 0, none⟩)]); (case hi => rfl); (case hg => rfl); (case hd => rfl); (case hx => rfl); (case i1 => infer_instance); (case ha => rfl); (case hc => exact get_con s hs _ _ (by assumption) bo be ⟨bs, 0, none⟩ _ hps5); (case hL => (repeat (first | exact pm_nil _ | exact pm_refl _ _ | exact pm_self _ | apply pm_cons | apply pm_app))); (case hsub => (intros; (repeat (first | exact List.Sublist.refl _ | exact List.Sublist.slnil | exact List.nil_sublist _ | exact List.sublist_append_left _ _ | apply List.Sublist.cons_cons | (apply List.Sublist.append; exact List.Sublist.refl _) | apply List.Sublist.cons | refine List.Sublist.trans ?_ (List.sublist_append_right _ _))))); rintro _ _ _ - ⟨rfl, rfl, _, _, rfl⟩); (apply h_one 9; (case hr => kernel_rfl)); (apply n_callv (caps := [.pointer (some ⟨bo, 0, none⟩), .pointer (some ⟨bs, 0, none⟩), .pointer (some ⟨be, 0, none⟩)]); (case hi => rfl); (case hg => rfl); (case hd => rfl); (case hx => rfl); (case i1 => infer_instance); (case ha => rfl); (case hc => exact get_con s hs _ _ (by assumption) bo be ⟨bs, 0, none⟩ _ hps5); (case hL => (repeat (first | exact pm_nil _ | exact pm_refl _ _ | exact pm_self _ | apply pm_cons | apply pm_app))); (case hsub => (intros; (repeat (first | exact List.Sublist.refl _ | exact List.Sublist.slnil | exact List.nil_sublist _ | exact List.sublist_append_left _ _ | apply List.Sublist.cons_cons | (apply List.Sublist.append; exact List.Sublist.refl _) | apply List.Sublist.cons | refine List.Sublist.trans ?_ (List.sublist_append_right _ _))))); rintro _ _ _ - ⟨rfl, rfl, _, _, rfl⟩); (apply h_one 11; (case hr => kernel_rfl)); (apply n_callv (caps := [.pointer (some ⟨bo, 0, none⟩), .pointer (some ⟨bs, 0, none⟩), .pointer (some ⟨be, 0, none⟩)]); (case hi => rfl); (case hg => rfl); (case hd => rfl); (case hx => rfl); (case i1 => infer_instance); (case ha => rfl); (case hc => exact get_con s hs _ _ (by assumption) bo be ⟨bs, 0, none⟩ _ hps5); (case hL => (repeat (first | exact pm_nil _ | exact pm_refl _ _ | exact pm_self _ | apply pm_cons | apply pm_app))); (case hsub => (intros; (repeat (first | exact List.Sublist.refl _ | exact List.Sublist.slnil | exact List.nil_sublist _ | exact List.sublist_append_left _ _ | apply List.Sublist.cons_cons | (apply List.Sublist.append; exact List.Sublist.refl _) | apply List.Sublist.cons | refine List.Sublist.trans ?_ (List.sublist_append_right _ _))))); rintro _ _ _ - ⟨rfl, rfl, _, _, rfl⟩); (apply h_one 13; (case hr => kernel_rfl)); (apply n_callv (caps := [.pointer (some ⟨bo, 0, none⟩), .pointer (some ⟨bs, 0, none⟩), .pointer (some ⟨be, 0, none⟩)]); (case hi => rfl); (case hg => rfl); (case hd => rfl); (case hx => rfl); (case i1 => infer_instance); (case ha => rfl); (case hc => exact get_con s hs _ _ (by assumption) bo be ⟨bs, 0, none⟩ _ hps5); (case hL => (repeat (first | exact pm_nil _ | exact pm_refl _ _ | exact pm_self _ | apply pm_cons | apply pm_app))); (case hsub => (intros; (repeat (first | exact List.Sublist.refl _ | exact List.Sublist.slnil | exact List.nil_sublist _ | exact List.sublist_append_left _ _ | apply List.Sublist.cons_cons | (apply List.Sublist.append; exact List.Sublist.refl _) | apply List.Sublist.cons | refine List.Sublist.trans ?_ (List.sublist_append_right _ _))))); rintro _ _ _ - ⟨rfl, rfl, _, _, rfl⟩); (apply h_one 15; (case hr => kernel_rfl)); (apply n_callv (caps := [.pointer (some ⟨bo, 0, none⟩), .pointer (some ⟨bs, 0, none⟩), .pointer (some ⟨be, 0, none⟩)]); (case hi => rfl); (case hg => rfl); (case hd => rfl); (case hx => rfl); (case i1 => infer_instance); (case ha => rfl); (case hc => exact get_con s hs _ _ (by assumption) bo be ⟨bs, 0, none⟩ _ hps5); (case hL => (repeat (first | exact pm_nil _ | exact pm_refl _ _ | exact pm_self _ | apply pm_cons | apply pm_app))); (case hsub => (intros; (repeat (first | exact List.Sublist.refl _ | exact List.Sublist.slnil | exact List.nil_sublist _ | exact List.sublist_append_left _ _ | apply List.Sublist.cons_cons | (apply List.Sublist.append; exact List.Sublist.refl _) | apply List.Sublist.cons | refine List.Sublist.trans ?_ (List.sublist_append_right _ _))))); rintro _ _ _ - ⟨rfl, rfl, _, _, rfl⟩); (first | (apply h_first 16; (case hi => rfl); (case hr => kernel_rfl); (case hfr => kernel_rfl); (case hsel => kernel_rfl); (case hg => rfl); (case hd => rfl); (case he => (apply ev_buildS; (case hp => rfl); (case hz => rfl); (case h1 => rfl); (case hr => rfl)))) | refine Jf 16 ?_); (apply h_one 18; (case hr => kernel_rfl)); (refine Jn ?_; try intro _); (apply h_end; (case hr => kernel_rfl)); (apply q_then; exact q_cut ⟨rfl, _, _, (by assumption), (by first | exact List.Perm.refl _ | exact (List.Perm.swap _ _ _).trans ((List.Perm.swap _ _ _).cons _) | exact ((List.Perm.swap _ _ _).trans ((List.Perm.swap _ _ _).cons _))), rfl⟩ (by repeat (first | exact Sub.nil rfl | exact Sub.marked rfl | refine Sub.cons rfl ?_)) (List.Sublist.refl _)))))); (case k2 => ((refine Jn ?_; try intro _); (apply h_one 3; (case hr => kernel_rfl)); (apply n_callv (caps := [.pointer (some ⟨bo, 0, none⟩), .pointer (some ⟨bs, 0, none⟩), .pointer (some ⟨be, 0, none⟩)]); (case hi => rfl); (case hg => rfl); (case hd => rfl); (case hx => rfl); (case i1 => infer_instance); (case ha => rfl); (case hc => exact get_con s hs _ _ (by assumption) bo be ⟨bs, 0, none⟩ _ hps5); (case hL => (repeat (first | exact pm_nil _ | exact pm_refl _ _ | exact pm_self _ | apply pm_cons | apply pm_app))); (case hsub => (intros; (repeat (first | exact List.Sublist.refl _ | exact List.Sublist.slnil | exact List.nil_sublist _ | exact List.sublist_append_left _ _ | apply List.Sublist.cons_cons | (apply List.Sublist.append; exact List.Sublist.refl _) | apply List.Sublist.cons | refine List.Sublist.trans ?_ (List.sublist_append_right _ _))))); rintro _ _ _ - ⟨rfl, rfl, _, _, rfl⟩); (apply h_one 5; (case hr => kernel_rfl)); (apply n_callv (caps := [.pointer (some ⟨bo, 0, none⟩), .pointer (some ⟨bs, 0, none⟩), .pointer (some ⟨be, 0, none⟩)]); (case hi => rfl); (case hg => rfl); (case hd => rfl); (case hx => rfl); (case i1 => infer_instance); (case ha => rfl); (case hc => exact get_con s hs _ _ (by assumption) bo be ⟨bs, 0, none⟩ _ hps5); (case hL => (repeat (first | exact pm_nil _ | exact pm_refl _ _ | exact pm_self _ | apply pm_cons | apply pm_app))); (case hsub => (intros; (repeat (first | exact List.Sublist.refl _ | exact List.Sublist.slnil | exact List.nil_sublist _ | exact List.sublist_append_left _ _ | apply List.Sublist.cons_cons | (apply List.Sublist.append; exact List.Sublist.refl _) | apply List.Sublist.cons | refine List.Sublist.trans ?_ (List.sublist_append_right _ _))))); rintro _ _ _ - ⟨rfl, rfl, _, _, rfl⟩); (apply h_one 7; (case hr => kernel_rfl)); (apply n_callv (caps := [.pointer (some ⟨bo, 0, none⟩), .pointer (some ⟨bs, 0, none⟩), .pointer (some ⟨be, 0, none⟩)]); (case hi => rfl); (case hg => rfl); (case hd => rfl); (case hx => rfl); (case i1 => infer_instance); (case ha => rfl); (case hc => exact get_con s hs _ _ (by assumption) bo be ⟨bs, 0, none⟩ _ hps5); (case hL => (repeat (first | exact pm_nil _ | exact pm_refl _ _ | exact pm_self _ | apply pm_cons | apply pm_app))); (case hsub => (intros; (repeat (first | exact List.Sublist.refl _ | exact List.Sublist.slnil | exact List.nil_sublist _ | exact List.sublist_append_left _ _ | apply List.Sublist.cons_cons | (apply List.Sublist.append; exact List.Sublist.refl _) | apply List.Sublist.cons | refine List.Sublist.trans ?_ (List.sublist_append_right _ _))))); rintro _ _ _ - ⟨rfl, rfl, _, _, rfl⟩); (apply h_one 9; (case hr => kernel_rfl)); (apply n_callv (caps := [.pointer (some ⟨bo, 0, none⟩), .pointer (some ⟨bs, 0, none⟩), .pointer (some ⟨be, 0, none⟩)]); (case hi => rfl); (case hg => rfl); (case hd => rfl); (case hx => rfl); (case i1 => infer_instance); (case ha => rfl); (case hc => exact get_con s hs _ _ (by assumption) bo be ⟨bs, 0, none⟩ _ hps5); (case hL => (repeat (first | exact pm_nil _ | exact pm_refl _ _ | exact pm_self _ | apply pm_cons | apply pm_app))); (case hsub => (intros; (repeat (first | exact List.Sublist.refl _ | exact List.Sublist.slnil | exact List.nil_sublist _ | exact List.sublist_append_left _ _ | apply List.Sublist.cons_cons | (apply List.Sublist.append; exact List.Sublist.refl _) | apply List.Sublist.cons | refine List.Sublist.trans ?_ (List.sublist_append_right _ _))))); rintro _ _ _ - ⟨rfl, rfl, _, _, rfl⟩); (apply h_one 11; (case hr => kernel_rfl)); (apply n_callv (caps := [.pointer (some ⟨bo, 0, none⟩), .pointer (some ⟨bs, 0, none⟩), .pointer (some ⟨be, 0, none⟩)]); (case hi => rfl); (case hg => rfl); (case hd => rfl); (case hx => rfl); (case i1 => infer_instance); (case ha => rfl); (case hc => exact get_con s hs _ _ (by assumption) bo be ⟨bs, 0, none⟩ _ hps5); (case hL => (repeat (first | exact pm_nil _ | exact pm_refl _ _ | exact pm_self _ | apply pm_cons | apply pm_app))); (case hsub => (intros; (repeat (first | exact List.Sublist.refl _ | exact List.Sublist.slnil | exact List.nil_sublist _ | exact List.sublist_append_left _ _ | apply List.Sublist.cons_cons | (apply List.Sublist.append; exact List.Sublist.refl _) | apply List.Sublist.cons | refine List.Sublist.trans ?_ (List.sublist_append_right _ _))))); rintro _ _ _ - ⟨rfl, rfl, _, _, rfl⟩); (apply h_one 13; (case hr => kernel_rfl)); (apply n_callv (caps := [.pointer (some ⟨bo, 0, none⟩), .pointer (some ⟨bs, 0, none⟩), .pointer (some ⟨be, 0, none⟩)]); (case hi => rfl); (case hg => rfl); (case hd => rfl); (case hx => rfl); (case i1 => infer_instance); (case ha => rfl); (case hc => exact get_con s hs _ _ (by assumption) bo be ⟨bs, 0, none⟩ _ hps5); (case hL => (repeat (first | exact pm_nil _ | exact pm_refl _ _ | exact pm_self _ | apply pm_cons | apply pm_app))); (case hsub => (intros; (repeat (first | exact List.Sublist.refl _ | exact List.Sublist.slnil | exact List.nil_sublist _ | exact List.sublist_append_left _ _ | apply List.Sublist.cons_cons | (apply List.Sublist.append; exact List.Sublist.refl _) | apply List.Sublist.cons | refine List.Sublist.trans ?_ (List.sublist_append_right _ _))))); rintro _ _ _ - ⟨rfl, rfl, _, _, rfl⟩); (apply h_one 15; (case hr => kernel_rfl)); (apply n_callv (caps := [.pointer (some ⟨bo, 0, none⟩), .pointer (some ⟨bs, 0, none⟩), .pointer (some ⟨be, 0, none⟩)]); (case hi => rfl); (case hg => rfl); (case hd => rfl); (case hx => rfl); (case i1 => infer_instance); (case ha => rfl); (case hc => exact get_con s hs _ _ (by assumption) bo be ⟨bs, 0, none⟩ _ hps5); (case hL => (repeat (first | exact pm_nil _ | exact pm_refl _ _ | exact pm_self _ | apply pm_cons | apply pm_app))); (case hsub => (intros; (repeat (first | exact List.Sublist.refl _ | exact List.Sublist.slnil | exact List.nil_sublist _ | exact List.sublist_append_left _ _ | apply List.Sublist.cons_cons | (apply List.Sublist.append; exact List.Sublist.refl _) | apply List.Sublist.cons | refine List.Sublist.trans ?_ (List.sublist_append_right _ _))))); rintro _ _ _ - ⟨rfl, rfl, _, _, rfl⟩); (first | (apply h_first 16; (case hi => rfl); (case hr => kernel_rfl); (case hfr => kernel_rfl); (case hsel => kernel_rfl); (case hg => rfl); (case hd => rfl); (case he => (apply ev_buildS; (case hp => rfl); (case hz => rfl); (case h1 => rfl); (case hr => rfl)))) | refine Jf 16 ?_); (apply h_one 18; (case hr => kernel_rfl)); (refine Jn ?_; try intro _); (apply h_end; (case hr => kernel_rfl)); (apply q_then; exact q_cut ⟨rfl, _, _, (by assumption), (by first | exact List.Perm.refl _ | exact (List.Perm.swap _ _ _).trans ((List.Perm.swap _ _ _).cons _) | exact ((List.Perm.swap _ _ _).trans ((List.Perm.swap _ _ _).cons _))), rfl⟩ (by repeat (first | exact Sub.nil rfl | exact Sub.marked rfl | refine Sub.cons rfl ?_)) (List.Sublist.refl _)))))); (case k2 => ((refine Jn ?_; try intro _); (apply h_one 1; (case hr => kernel_rfl)); (apply n_callv (caps := [.pointer (some ⟨bo, 0, none⟩), .pointer (some ⟨bs, 0, none⟩), .pointer (some ⟨be, 0, none⟩)]); (case hi => rfl); (case hg => rfl); (case hd => rfl); (case hx => rfl); (case i1 => infer_instance); (case ha => rfl); (case hc => exact get_con s hs _ _ (by assumption) bo be ⟨bs, 0, none⟩ _ hps5); (case hL => (repeat (first | exact pm_nil _ | exact pm_refl _ _ | exact pm_self _ | apply pm_cons | apply pm_app))); (case hsub => (intros; (repeat (first | exact List.Sublist.refl _ | exact List.Sublist.slnil | exact List.nil_sublist _ | exact List.sublist_append_left _ _ | apply List.Sublist.cons_cons | (apply List.Sublist.append; exact List.Sublist.refl _) | apply List.Sublist.cons | refine List.Sublist.trans ?_ (List.sublist_append_right _ _))))); rintro _ _ _ - ⟨rfl, rfl, _, _, rfl⟩); (apply h_one 3; (case hr => kernel_rfl)); (apply n_callv (caps := [.pointer (some ⟨bo, 0, none⟩), .pointer (some ⟨bs, 0, none⟩), .pointer (some ⟨be, 0, none⟩)]); (case hi => rfl); (case hg => rfl); (case hd => rfl); (case hx => rfl); (case i1 => infer_instance); (case ha => rfl); (case hc => exact get_con s hs _ _ (by assumption) bo be ⟨bs, 0, none⟩ _ hps5); (case hL => (repeat (first | exact pm_nil _ | exact pm_refl _ _ | exact pm_self _ | apply pm_cons | apply pm_app))); (case hsub => (intros; (repeat (first | exact List.Sublist.refl _ | exact List.Sublist.slnil | exact List.nil_sublist _ | exact List.sublist_append_left _ _ | apply List.Sublist.cons_cons | (apply List.Sublist.append; exact List.Sublist.refl _) | apply List.Sublist.cons | refine List.Sublist.trans ?_ (List.sublist_append_right _ _))))); rintro _ _ _ - ⟨rfl, rfl, _, _, rfl⟩); (apply h_one 5; (case hr => kernel_rfl)); (apply n_callv (caps := [.pointer (some ⟨bo, 0, none⟩), .pointer (some ⟨bs, 0, none⟩), .pointer (some ⟨be, 0, none⟩)]); (case hi => rfl); (case hg => rfl); (case hd => rfl); (case hx => rfl); (case i1 => infer_instance); (case ha => rfl); (case hc => exact get_con s hs _ _ (by assumption) bo be ⟨bs, 0, none⟩ _ hps5); (case hL => (repeat (first | exact pm_nil _ | exact pm_refl _ _ | exact pm_self _ | apply pm_cons | apply pm_app))); (case hsub => (intros; (repeat (first | exact List.Sublist.refl _ | exact List.Sublist.slnil | exact List.nil_sublist _ | exact List.sublist_append_left _ _ | apply List.Sublist.cons_cons | (apply List.Sublist.append; exact List.Sublist.refl _) | apply List.Sublist.cons | refine List.Sublist.trans ?_ (List.sublist_append_right _ _))))); rintro _ _ _ - ⟨rfl, rfl, _, _, rfl⟩); (apply h_one 7; (case hr => kernel_rfl)); (apply n_callv (caps := [.pointer (some ⟨bo, 0, none⟩), .pointer (some ⟨bs, 0, none⟩), .pointer (some ⟨be, 0, none⟩)]); (case hi => rfl); (case hg => rfl); (case hd => rfl); (case hx => rfl); (case i1 => infer_instance); (case ha => rfl); (case hc => exact get_con s hs _ _ (by assumption) bo be ⟨bs, 0, none⟩ _ hps5); (case hL => (repeat (first | exact pm_nil _ | exact pm_refl _ _ | exact pm_self _ | apply pm_cons | apply pm_app))); (case hsub => (intros; (repeat (first | exact List.Sublist.refl _ | exact List.Sublist.slnil | exact List.nil_sublist _ | exact List.sublist_append_left _ _ | apply List.Sublist.cons_cons | (apply List.Sublist.append; exact List.Sublist.refl _) | apply List.Sublist.cons | refine List.Sublist.trans ?_ (List.sublist_append_right _ _))))); rintro _ _ _ - ⟨rfl, rfl, _, _, rfl⟩); (apply h_one 9; (case hr => kernel_rfl)); (apply n_callv (caps := [.pointer (some ⟨bo, 0, none⟩), .pointer (some ⟨bs, 0, none⟩), .pointer (some ⟨be, 0, none⟩)]); (case hi => rfl); (case hg => rfl); (case hd => rfl); (case hx => rfl); (case i1 => infer_instance); (case ha => rfl); (case hc => exact get_con s hs _ _ (by assumption) bo be ⟨bs, 0, none⟩ _ hps5); (case hL => (repeat (first | exact pm_nil _ | exact pm_refl _ _ | exact pm_self _ | apply pm_cons | apply pm_app))); (case hsub => (intros; (repeat (first | exact List.Sublist.refl _ | exact List.Sublist.slnil | exact List.nil_sublist _ | exact List.sublist_append_left _ _ | apply List.Sublist.cons_cons | (apply List.Sublist.append; exact List.Sublist.refl _) | apply List.Sublist.cons | refine List.Sublist.trans ?_ (List.sublist_append_right _ _))))); rintro _ _ _ - ⟨rfl, rfl, _, _, rfl⟩); (apply h_one 11; (case hr => kernel_rfl)); (apply n_callv (caps := [.pointer (some ⟨bo, 0, none⟩), .pointer (some ⟨bs, 0, none⟩), .pointer (some ⟨be, 0, none⟩)]); (case hi => rfl); (case hg => rfl); (case hd => rfl); (case hx => rfl); (case i1 => infer_instance); (case ha => rfl); (case hc => exact get_con s hs _ _ (by assumption) bo be ⟨bs, 0, none⟩ _ hps5); (case hL => (repeat (first | exact pm_nil _ | exact pm_refl _ _ | exact pm_self _ | apply pm_cons | apply pm_app))); (case hsub => (intros; (repeat (first | exact List.Sublist.refl _ | exact List.Sublist.slnil | exact List.nil_sublist _ | exact List.sublist_append_left _ _ | apply List.Sublist.cons_cons | (apply List.Sublist.append; exact List.Sublist.refl _) | apply List.Sublist.cons | refine List.Sublist.trans ?_ (List.sublist_append_right _ _))))); rintro _ _ _ - ⟨rfl, rfl, _, _, rfl⟩); (apply h_one 13; (case hr => kernel_rfl)); (apply n_callv (caps := [.pointer (some ⟨bo, 0, none⟩), .pointer (some ⟨bs, 0, none⟩), .pointer (some ⟨be, 0, none⟩)]); (case hi => rfl); (case hg => rfl); (case hd => rfl); (case hx => rfl); (case i1 => infer_instance); (case ha => rfl); (case hc => exact get_con s hs _ _ (by assumption) bo be ⟨bs, 0, none⟩ _ hps5); (case hL => (repeat (first | exact pm_nil _ | exact pm_refl _ _ | exact pm_self _ | apply pm_cons | apply pm_app))); (case hsub => (intros; (repeat (first | exact List.Sublist.refl _ | exact List.Sublist.slnil | exact List.nil_sublist _ | exact List.sublist_append_left _ _ | apply List.Sublist.cons_cons | (apply List.Sublist.append; exact List.Sublist.refl _) | apply List.Sublist.cons | refine List.Sublist.trans ?_ (List.sublist_append_right _ _))))); rintro _ _ _ - ⟨rfl, rfl, _, _, rfl⟩); (apply h_one 15; (case hr => kernel_rfl)); (apply n_callv (caps := [.pointer (some ⟨bo, 0, none⟩), .pointer (some ⟨bs, 0, none⟩), .pointer (some ⟨be, 0, none⟩)]); (case hi => rfl); (case hg => rfl); (case hd => rfl); (case hx => rfl); (case i1 => infer_instance); (case ha => rfl); (case hc => exact get_con s hs _ _ (by assumption) bo be ⟨bs, 0, none⟩ _ hps5); (case hL => (repeat (first | exact pm_nil _ | exact pm_refl _ _ | exact pm_self _ | apply pm_cons | apply pm_app))); (case hsub => (intros; (repeat (first | exact List.Sublist.refl _ | exact List.Sublist.slnil | exact List.nil_sublist _ | exact List.sublist_append_left _ _ | apply List.Sublist.cons_cons | (apply List.Sublist.append; exact List.Sublist.refl _) | apply List.Sublist.cons | refine List.Sublist.trans ?_ (List.sublist_append_right _ _))))); rintro _ _ _ - ⟨rfl, rfl, _, _, rfl⟩); (first | (apply h_first 16; (case hi => rfl); (case hr => kernel_rfl); (case hfr => kernel_rfl); (case hsel => kernel_rfl); (case hg => rfl); (case hd => rfl); (case he => (apply ev_buildS; (case hp => rfl); (case hz => rfl); (case h1 => rfl); (case hr => rfl)))) | refine Jf 16 ?_); (apply h_one 18; (case hr => kernel_rfl)); (refine Jn ?_; try intro _); (apply h_end; (case hr => kernel_rfl)); (apply q_then; exact q_cut ⟨rfl, _, _, (by assumption), (by first | exact List.Perm.refl _ | exact (List.Perm.swap _ _ _).trans ((List.Perm.swap _ _ _).cons _) | exact ((List.Perm.swap _ _ _).trans ((List.Perm.swap _ _ _).cons _))), rfl⟩ (by repeat (first | exact Sub.nil rfl | exact Sub.marked rfl | refine Sub.cons rfl ?_)) (List.Sublist.refl _)))))
      rintro S6 L6 F6 ⟨rfl, e6, bc, he6, hp6, rfl⟩
      refine W.perm ?_ hp6
      have hnl1 := hnl (fun h => by cases hqn h)
      have hqb := hq (fun h => by cases hqn h)
      obtain ⟨x, hx⟩ : ∃ x, x = cellD s (some pp) := ⟨_, rfl⟩
      rw [← hx] at hdc
      unfold cellD at hx
      generalize qn s 8 (some pp) = q8 at *
      (repeat (first | refine Jc ?_ | (apply s_callw (caps := [.pointer (some ⟨bg, 0, none⟩), .pointer (some ⟨bo, 0, none⟩)]); (case hg => rfl); (case hd => rfl); (case hx => rfl); (case i1 => infer_instance); (case ha => rfl); (case hc => exact row_con s hs _ _ he6 bo be ⟨bs, 0, none⟩ ⟨bg, 0, none⟩ _ hps5 hpg5); (case hL => (repeat (first | exact pm_nil _ | exact pm_refl _ _ | exact pm_self _ | apply pm_cons | apply pm_app))); rintro S7 _ _ hle7 ⟨hrl1, A1, e7, rfl, hA1, he7, rfl⟩) | (apply s_callw (caps := [.pointer (some ⟨bg, 0, none⟩), .pointer (some ⟨bo, 0, none⟩)]); (case hg => rfl); (case hd => rfl); (case hx => rfl); (case i1 => infer_instance); (case ha => rfl); (case hc => exact row_con s hs _ _ he7 bo be ⟨bs, 0, none⟩ ⟨bg, 0, none⟩ _ (hps5.le hle7) (hpg5.le hle7)); (case hL => (repeat (first | exact pm_nil _ | exact pm_refl _ _ | exact pm_self _ | apply pm_cons | apply pm_app))); rintro S8 _ _ hle8 ⟨hrl2, A2, e8, rfl, hA2, he8, rfl⟩) | refine Jo ?_ | intro _))
      have hok' : (⟨x.1, A1, 44, A2, 44⟩ : Ce).ok S8 := by
        rw [hx]
        exact ⟨hA1.le hle8, hA2, Nat.le_of_eq hrl1, Nat.le_of_eq hrl2, by simp only [hrl1]; decide, by simp only [hrl2]; decide⟩
      have hxq : x.2 = (rowR s (rowR s q8).2).2 := by rw [hx]
      have hvs : (⟨x.1, A1, 44, A2, 44⟩ : Ce).vals = [.int .i64 (vn s 0 (some pp)), .int .i64 (vn s 1 (some pp)), .int .i64 (vn s 2 (some pp)), .int .i64 (vn s 3 (some pp)), .int .i64 (vn s 4 (some pp)), .int .i64 (vn s 5 (some pp)), .int .i64 (vn s 6 (some pp)), .int .i64 (vn s 7 (some pp)), .slice A1 (rowR s q8).1.length 44, .slice A2 (rowR s (rowR s q8).2).1.length 44] := by rw [hx]; rfl
      rw [hxq] at hdc
      refine W.perm ?_ (List.perm_append_comm (l₁ := [_, _, _, _, _, _]) (l₂ := ob))
      generalize hcc : (⟨x.1, A1, 44, A2, 44⟩ : Ce) = cc at *
      have hccp : cc.p = x.1 := by rw [← hcc]
      rw [← hccp] at hdc
      (repeat (first | refine Jc ?_ | (apply s_append (ms := [cc]); (case hg => rfl); (case hd => rfl); (case hx => rfl); (case ho => exact hob); (case hL => (repeat (first | exact pm_nil _ | exact pm_refl _ _ | exact pm_self _ | apply pm_cons | apply pm_app))); (case hy => rfl); (case hm => rfl); (case hs => (apply Src.own; rw [show cellsOf [cc] = cc.vals from List.append_nil _, hvs]; (repeat (first | exact List.Mem.head _ | apply List.Mem.tail | apply List.mem_append_right)))); (case hzs => rfl); (case h0 => decide); (case hb => (simp; omega)); (case h63 => (simp; omega)); intro v' ob' ho'; obtain ⟨A', c', rfl⟩ := ho'.form) | refine Jo ?_ | intro _))
      refine W.perm ?_ (List.perm_append_comm (l₂ := [_, _, _, _, _, _]))
      refine q_back (m' := (nv - 1).toNat) ⟨(hle5.trans hle7).trans hle8, nv - 1, (rowR s (rowR s q8).2).2, e8, l ++ [cc], _, ob', rfl, by omega, by omega, he8, ho', ?_, (fun h => ?_), (fun h => by cases hqn h), ?_, rfl, rfl⟩ (by omega) (by repeat (first | exact Sub.nil rfl | exact Sub.marked rfl | refine Sub.cons rfl ?_)) (by repeat (first | exact List.Sublist.refl _ | exact List.Sublist.slnil | exact List.nil_sublist _ | exact List.sublist_append_left _ _ | refine List.Sublist.cons_cons _ ?_ | refine List.Sublist.append (List.Sublist.refl _) ?_ | refine List.Sublist.cons _ ?_ | refine List.Sublist.trans ?_ (List.sublist_append_right _ _)))
      · intro c hc
        rcases List.mem_append.1 hc with hc | hc
        · exact ((hok c hc).le hle7).le hle8
        · rw [List.mem_singleton.1 hc]; exact hok'
      · have := hnl h
        rw [List.length_append, List.length_singleton]; omega
      · rw [List.map_append, show (nv - 1).toNat = k1 by omega]; exact hdc
  rintro S5 L5 F5 ⟨hle5, q5, e5, l, pv, ob, he5, hob, hok, hll, hdc, rfl, rfl⟩
  have hge5 := decC_ge (s := s) n0.toNat q [] p hge
  rw [hdc] at hR hge5
  cases q5 with
  | none =>
    simp only at hR
    subst hR
    unfold okO
    (repeat (first | refine Jc ?_ | (apply s_evb; (case hg => rfl); (case hd => rfl); (case hn => rfl); (case he => (apply ev_buildS; (case hp => rfl); (case hz => rfl); (case h1 => rfl); (case hr => rfl)))) | refine Jo ?_ | intro _))
    exact o_ret_c3 (L' := []) (sz := 1) (cs := [.slice none 0 0]) Tryd.results36 rfl rfl rfl (by repeat (first | exact List.Mem.head _ | refine List.Mem.tail _ ?_ | exact List.mem_append_right _ (List.Mem.head _))) rfl (List.nil_sublist _) ⟨rfl, _, rfl, skv_empty _⟩
  | some ee =>
    obtain ⟨rfl, hee⟩ := he5 ee rfl
    have hpe := hge5 ee rfl
    have hll := hll (by simp)
    simp only at hR
    refine W.perm ?_ (List.perm_append_comm (l₁ := [_, _, _, _]))
    refine W.freezeOws hob (List.Perm.refl _) fun S6 hle6 hsr => ?_
    obtain ⟨A6, c6, rfl, hc6, hA6⟩ := hsr
    have hG6 : Gl S6 := hG.le ((((hle1.trans hle2).trans hle5)).trans hle6)
    have hok6 : ∀ c ∈ l, c.ok S6 := fun c hc => (hok c hc).le hle6
    have hvc := Valid_con l A6 c6 S6 hG6 hA6 hok6 (by omega)
    have henc := Encode_con l A6 c6 S6 hG6 hA6 hok6 (by omega)
    have hps6 := (hps.le hle5).le hle6
    unfold okO
    by_cases hv : ValidP (l.map (·.p))
    rotate_left
    · rw [if_neg (fun h => hv h.1)] at hR
      subst hR
      rw [bP_f hv] at hvc
      (repeat (first | refine Jc ?_ | (apply s_evb; (case hg => rfl); (case hd => rfl); (case hn => rfl); (case he => (apply ev_buildS; (case hp => rfl); (case hz => rfl); (case h1 => rfl); (case hr => rfl)))) | ((apply z_call; rfl; rfl; rfl; exact hvc; rintro _ _ _ - ⟨rfl, rfl, rfl⟩)) | refine Jo ?_ | intro _))
      exact o_ret_c3 (L' := []) (sz := 1) (cs := [.slice none 0 0]) Tryd.results36 rfl rfl rfl (by repeat (first | exact List.Mem.head _ | refine List.Mem.tail _ ?_ | exact List.mem_append_right _ (List.Mem.head _))) rfl (List.nil_sublist _) ⟨rfl, _, rfl, skv_empty _⟩
    rw [bP_t hv] at hvc
    rw [encV_t hv] at henc
    by_cases hc : txt (skI (l.map (·.p))) = (s.take ee).drop p
    rotate_left
    · rw [if_neg (fun h => hc h.2)] at hR
      subst hR
      (repeat (first | refine Jc ?_ | (apply s_evb; (case hg => rfl); (case hd => rfl); (case hn => rfl); (case he => (apply ev_buildS; (case hp => rfl); (case hz => rfl); (case h1 => rfl); (case hr => rfl)))) | ((apply z_call; rfl; rfl; rfl; exact hvc; rintro _ _ _ - ⟨rfl, rfl, rfl⟩)) | ((apply z_call; rfl; rfl; rfl; exact henc; rintro S7 _ _ hle7 ⟨rfl, rfl⟩)) | (apply s_load1; (case hg => rfl); (case hd => rfl); (case hx => rfl); (case hv => exact (hps6.le hle7))) | (apply s_evb; (case hg => rfl); (case hd => rfl); (case hn => rfl); (case he => ((apply ev_slice_b (i := p) (j := ee); (case hx => rfl); (case hy => rfl); (case hz => rfl); (case hj => omega))))) | (apply s_evb; (case hg => rfl); (case hd => rfl); (case hn => rfl); (case he => ((apply ev_neq_bs' (r := true); (case hx => rfl); (case hy => rfl); (case h => simpa using hc))))) | refine Jo ?_ | intro _))
      exact o_ret_c3 (L' := []) (sz := 1) (cs := [.slice none 0 0]) Tryd.results36 rfl rfl rfl (by repeat (first | exact List.Mem.head _ | refine List.Mem.tail _ ?_ | exact List.mem_append_right _ (List.Mem.head _))) rfl (List.nil_sublist _) ⟨rfl, _, rfl, skv_empty _⟩
    rw [if_pos ⟨hv, hc⟩] at hR
    subst hR
    (repeat (first | refine Jc ?_ | (apply s_evb; (case hg => rfl); (case hd => rfl); (case hn => rfl); (case he => (apply ev_buildS; (case hp => rfl); (case hz => rfl); (case h1 => rfl); (case hr => rfl)))) | ((apply z_call; rfl; rfl; rfl; exact hvc; rintro _ _ _ - ⟨rfl, rfl, rfl⟩)) | ((apply z_call; rfl; rfl; rfl; exact henc; rintro S7 _ _ hle7 ⟨rfl, rfl⟩)) | (apply s_load1; (case hg => rfl); (case hd => rfl); (case hx => rfl); (case hv => exact (hps6.le hle7))) | (apply s_evb; (case hg => rfl); (case hd => rfl); (case hn => rfl); (case he => ((apply ev_slice_b (i := p) (j := ee); (case hx => rfl); (case hy => rfl); (case hz => rfl); (case hj => omega))))) | (apply s_evb; (case hg => rfl); (case hd => rfl); (case hn => rfl); (case he => ((apply ev_neq_bs' (r := false); (case hx => rfl); (case hy => rfl); (case h => (rw [hc]; simp)))))) | refine Jo ?_ | intro _))
    ((apply c_held ([(bo, .cells [.bool (some ee).isSome].toArray 4 (0, 0)), (be, endO ee), (b11, .cells [.slice A6 l.length c6].toArray 24 (0, 0))]); (case hL => (repeat (first | exact List.Sublist.refl _ | exact List.Sublist.slnil | exact List.nil_sublist _ | exact List.sublist_append_left _ _ | apply List.Sublist.cons_cons | (apply List.Sublist.append; exact List.Sublist.refl _) | apply List.Sublist.cons | refine List.Sublist.trans ?_ (List.sublist_append_right _ _))))); refine Jf 0 ?_; refine Jf 1 ?_; (apply h_one 2; (case hr => kernel_rfl)); (refine Jn ?_; try intro _); refine Jf 3 ?_; refine Jf 4 ?_; (apply h_end; (case hr => kernel_rfl)))
    (repeat (first | refine Jz ?_ | intro _))
    exact o_ret_c3 (L' := []) (sz := 1) (cs := [.slice A6 l.length c6]) Tryd.results36 rfl rfl rfl (by repeat (first | exact List.Mem.head _ | refine List.Mem.tail _ ?_ | exact List.mem_append_right _ (List.Mem.head _))) rfl (List.nil_sublist _) ⟨rfl, _, rfl, ⟨A6, c6, l, rfl, hA6.le hle7, fun c hc => (hok6 c hc).le hle7, by omega, rfl⟩⟩
end Go.Proofs.YtogfficbloejcaaDoor
namespace Go.Proofs.YtogfficbloejcaaDoor
open Go Go.X
set_option maxRecDepth 10000
set_option linter.unusedVariables false
attribute [local irreducible] Code.wpIn wpListIn Exit.then Exit.inBlock X.Out X.Back X.W X.Ev X.Con X.BinV X.Wh X.Wn X.Wq
theorem get_step {s : Bs} {p : Nat} {n : Int} {l : List Int} {t : Bs} (h : s.drop p = txt (n :: l) ++ t) (hw : wOk n) : get1 s (some p) = (n, some (p + (ibs n).length)) ∧ s.drop (p + (ibs n).length) = txt l ++ t := by
  rw [txt_cons, List.append_assoc] at h
  constructor
  · simp only [get1, h, decI_enc hw]
  · rw [← List.drop_drop, h, List.drop_left]
theorem rdRow_spec {s : Bs} : ∀ (r a : List Int) (p : Nat) (last : Int) (t : Bs), a.length + r.length = 44 → last < a.length → (∀ c ∈ r, 0 ≤ c ∧ c ≤ 1000000) → s.drop p = txt (someI a.length r) ++ t →
    rdRow s ((someI a.length r).length / 2) (some p) last (a ++ List.replicate r.length 0) = (a ++ r, some (p + (txt (someI a.length r)).length))
  | [], a, p, last, t, _, _, _, _ => by simp [someI, rdRow, txt]
  | n :: r, a, p, last, t, ha, hl, hr, h => by
    rw [List.length_cons] at ha
    have hrn := hr n List.mem_cons_self
    have hr2 : ∀ c ∈ r, 0 ≤ c ∧ c ≤ 1000000 := fun c hc => hr c (List.mem_cons_of_mem _ hc)
    have hlen : (a ++ [n]).length = a.length + 1 := by simp
    by_cases h0 : n = 0
    · subst h0
      have e : someI a.length (0 :: r) = someI (a.length + 1) r := by simp [someI]
      rw [e] at h ⊢
      have ih := rdRow_spec r (a ++ [0]) p last t (by rw [hlen]; omega) (by rw [hlen]; omega) hr2 (by rw [hlen]; exact h)
      rw [hlen, List.append_assoc, List.append_assoc] at ih
      exact ih
    · have e : someI a.length (n :: r) = (a.length : Int) :: n :: someI (a.length + 1) r := by simp [someI, h0]
      rw [e] at h ⊢
      obtain ⟨g1, h1⟩ := get_step h (by unfold wOk; omega)
      obtain ⟨g2, h2⟩ := get_step h1 (by unfold wOk; omega)
      have ih := rdRow_spec r (a ++ [n]) _ a.length t (by rw [hlen]; omega) (by rw [hlen]; omega) hr2 (by rw [hlen]; exact h2)
      rw [show ((a.length : Int) :: n :: someI (a.length + 1) r).length / 2 = (someI (a.length + 1) r).length / 2 + 1 by simp only [List.length_cons]; omega, rdRow, g1]
      simp only
      rw [g2]
      simp only
      have hset : List.set (a ++ List.replicate (n :: r).length (0 : Int)) a.length n = (a ++ [n]) ++ List.replicate r.length (0 : Int) := by simp [List.replicate_succ]
      rw [if_pos ⟨rfl, hl, by omega, h0⟩, Int.toNat_natCast, hset]
      rw [hlen] at ih
      rw [ih, txt_cons, txt_cons]
      simp only [List.length_append, Prod.mk.injEq, Option.some.injEq]
      exact ⟨by simp, by omega⟩
theorem rowR_spec {s : Bs} {p : Nat} {r : List Int} {t : Bs} {n x : Int} (hc : CountsP r n x) (h : s.drop p = txt (rowI r) ++ t) : rowR s (some p) = (r, some (p + (txt (rowI r)).length)) := by
  have h0 := hc.len
  have hs := someI_len r 0
  obtain ⟨g1, h1⟩ := get_step h (by unfold wOk; omega)
  have := rdRow_spec r [] _ (-1) t (by simpa using h0) (by simp) hc.each h1
  rw [rowR, g1]
  simp only [List.length_nil, List.nil_append, h0] at this
  rw [show ((someI 0 r).length : Int) / 2 = (((someI 0 r).length / 2 : Nat) : Int) by omega] at *
  simp only [Int.toNat_natCast]
  rw [this, rowI, txt_cons]
  simp only [List.length_append, Prod.mk.injEq, Option.some.injEq, true_and]
  rw [show ((someI 0 r).length : Int) / 2 = (((someI 0 r).length / 2 : Nat) : Int) by omega]
  omega
theorem cellD_spec {s : Bs} {p : Nat} {c : PC} {t : Bs} (hc : PcP c) (h : s.drop p = txt (cellI c) ++ t) : cellD s (some p) = (c, some (p + (txt (cellI c)).length)) := by
  have hh := hc.head
  have h0 := h
  rw [cellI, txt_app, List.append_assoc, txt_app, List.append_assoc] at h
  obtain ⟨g0, h⟩ := get_step h (hh _ (by simp))
  obtain ⟨g1, h⟩ := get_step h (hh _ (by simp))
  obtain ⟨g2, h⟩ := get_step h (hh _ (by simp))
  obtain ⟨g3, h⟩ := get_step h (hh _ (by simp))
  obtain ⟨g4, h⟩ := get_step h (hh _ (by simp))
  obtain ⟨g5, h⟩ := get_step h (hh _ (by simp))
  obtain ⟨g6, h⟩ := get_step h (hh _ (by simp))
  obtain ⟨g7, h⟩ := get_step h (hh _ (by simp))
  rw [txt_nil, List.nil_append] at h
  have r1 := rowR_spec hc.cell.lo h
  have h2 : s.drop (p + (ibs c.s).length + (ibs c.v).length + (ibs c.o).length + (ibs c.d).length + (ibs c.x.n).length + (ibs c.x.lo).length + (ibs c.x.hi).length + (ibs c.x.by_).length + (txt (rowI c.x.ls)).length) = txt (rowI c.x.hs) ++ t := by rw [← List.drop_drop, h, List.drop_left]
  have r2 := rowR_spec hc.cell.hi h2
  have q0 : qn s 0 (some p) = some p := rfl
  have q1 : qn s 1 (some p) = some (p + (ibs c.s).length) := by rw [qn, q0, g0]
  have q2 : qn s 2 (some p) = some (p + (ibs c.s).length + (ibs c.v).length) := by rw [qn, q1, g1]
  have q3 : qn s 3 (some p) = some (p + (ibs c.s).length + (ibs c.v).length + (ibs c.o).length) := by rw [qn, q2, g2]
  have q4 : qn s 4 (some p) = some (p + (ibs c.s).length + (ibs c.v).length + (ibs c.o).length + (ibs c.d).length) := by rw [qn, q3, g3]
  have q5 : qn s 5 (some p) = some (p + (ibs c.s).length + (ibs c.v).length + (ibs c.o).length + (ibs c.d).length + (ibs c.x.n).length) := by rw [qn, q4, g4]
  have q6 : qn s 6 (some p) = some (p + (ibs c.s).length + (ibs c.v).length + (ibs c.o).length + (ibs c.d).length + (ibs c.x.n).length + (ibs c.x.lo).length) := by rw [qn, q5, g5]
  have q7 : qn s 7 (some p) = some (p + (ibs c.s).length + (ibs c.v).length + (ibs c.o).length + (ibs c.d).length + (ibs c.x.n).length + (ibs c.x.lo).length + (ibs c.x.hi).length) := by rw [qn, q6, g6]
  have q8 : qn s 8 (some p) = some (p + (ibs c.s).length + (ibs c.v).length + (ibs c.o).length + (ibs c.d).length + (ibs c.x.n).length + (ibs c.x.lo).length + (ibs c.x.hi).length + (ibs c.x.by_).length) := by rw [qn, q7, g7]
  unfold cellD vn
  rw [q8, r1]
  simp only
  rw [r2, q0, q1, q2, q3, q4, q5, q6, q7, g0, g1, g2, g3, g4, g5, g6, g7]
  simp only [cellI, txt_app, txt_cons, txt_nil, List.length_append, List.length_nil, Prod.mk.injEq, Option.some.injEq, true_and]
  omega
theorem decC_spec {s : Bs} : ∀ (l acc : List PC) (p : Nat) (t : Bs), (∀ c ∈ l, PcP c) → s.drop p = txt (l.flatMap cellI) ++ t → decC s l.length (some p) acc = (acc ++ l, some (p + (txt (l.flatMap cellI)).length))
  | [], acc, p, t, _, _ => by simp [decC, txt]
  | c :: l, acc, p, t, hl, h => by
    rw [List.flatMap_cons, txt_app, List.append_assoc] at h
    have hc := cellD_spec (hl c List.mem_cons_self) h
    have h2 : s.drop (p + (txt (cellI c)).length) = txt (l.flatMap cellI) ++ t := by rw [← List.drop_drop, h, List.drop_left]
    have ih := decC_spec l (acc ++ [c]) _ t (fun x hx => hl x (List.mem_cons_of_mem _ hx)) h2
    rw [List.length_cons, decC, hc]
    simp only
    rw [ih, List.flatMap_cons, txt_app, List.length_append]
    simp only [Prod.mk.injEq, Option.some.injEq]
    exact ⟨by simp, by omega⟩
/-- What was encoded is read back, wherever it lies. -/
theorem decR_spec {s : Bs} {p : Nat} {l : List PC} {t : Bs} (hv : ValidP l) (h : s.drop p = txt (skI l) ++ t) : decR s p = (l, ((p + (txt (skI l)).length : Nat) : Int), 0) := by
  have hlen := hv.len
  have h0 := h
  obtain ⟨g, h1⟩ := get_step h (by unfold wOk; omega)
  have hc := decC_spec l [] _ t hv.each h1
  have e1 : (txt (skI l)).length = (ibs (l.length : Int)).length + (txt (l.flatMap cellI)).length := by rw [skI, txt_cons, List.length_append]
  have e2 : (s.take (p + (ibs (l.length : Int)).length + (txt (l.flatMap cellI)).length)).drop p = txt (skI l) := by
    rw [List.drop_take, h0, show p + (ibs (l.length : Int)).length + (txt (l.flatMap cellI)).length - p = (txt (skI l)).length by omega, List.take_left]
  unfold decR
  rw [g]
  simp only
  rw [if_pos ⟨rfl, by omega, by omega⟩, Int.toNat_natCast, hc]
  simp only [List.nil_append]
  rw [if_pos ⟨hv, e2.symm⟩, e1, Nat.add_assoc]
end Go.Proofs.YtogfficbloejcaaDoor
namespace Go.Proofs.YtogfficbloejcaaDoor
open Go Go.X
set_option maxRecDepth 10000
set_option linter.unusedVariables false
attribute [local irreducible] Code.wpIn wpListIn Exit.then Exit.inBlock X.Out X.Back X.W X.Ev X.Con X.BinV X.Wh X.Wn X.Wq
theorem Good.of {L : List Fa} (h : ∀ x ∈ L, FactP x) (hl : L.length ≤ 400) : Good L := ⟨h, hl⟩
theorem Good.app {L M : List Fa} (h : ∀ x ∈ L, FactP x) (k : ∀ x ∈ M, FactP x) (hl : L.length + M.length ≤ 400) : Good (L ++ M) :=
  ⟨fun x hx => (List.mem_append.1 hx).elim (h x) (k x), by rw [List.length_append]; exact hl⟩
theorem MakeF {L : List Fa} (hL : Good L) (A : Option Addr) (c : Nat) (S : SH) (hG : Gl S) (hA : At S A L) : Con Tryd.prog 16 #[.slice A L.length c] S [] (fun S' L' r => L' = [] ∧ ∃ B n d s, r = .tuple #[.agg [.slice B n d].toArray, .int .i64 0] ∧ SkV S' (.agg [.slice B n d].toArray) s ∧ IsSk s L ∧ Gl S') :=
  (MakeG_con hL A c S hG hA).mono fun S' L' r hle ⟨h1, v, s, e, h2, h3⟩ => by
    obtain ⟨B, n, d, rfl⟩ := h2.form
    exact ⟨h1, B, n, d, s, e, h2, h3, hG.le hle⟩
theorem MergeF {va vb : Value} {a b : List PC} {L M : List Fa} (hg : Good (L ++ M)) (S : SH) (hG : Gl S) (ha : SkV S va a) (hb : SkV S vb b) (h1 : IsSk a L) (h2 : IsSk b M) : Con Tryd.prog 21 #[va, vb] S [] (fun S' L' r => L' = [] ∧ ∃ B n d s, r = .tuple #[.agg [.slice B n d].toArray, .int .i64 0] ∧ SkV S' (.agg [.slice B n d].toArray) s ∧ IsSk s (L ++ M) ∧ Gl S') :=
  (MergeG_con hg S hG ha hb h1 h2).mono fun S' L' r hle ⟨h1, v, s, e, h2, h3⟩ => by
    obtain ⟨B, n, d, rfl⟩ := h2.form
    exact ⟨h1, B, n, d, s, e, h2, h3, hG.le hle⟩
theorem SubF {va vb : Value} {a b : List PC} {L M N : List Fa} (hL : Good L) (hp : L.Perm (M ++ N)) (S : SH) (hG : Gl S) (ha : SkV S va a) (hb : SkV S vb b) (h1 : IsSk a L) (h2 : IsSk b M) : Con Tryd.prog 23 #[va, vb] S [] (fun S' L' r => L' = [] ∧ ∃ B n d s, r = .tuple #[.agg [.slice B n d].toArray, .int .i64 0] ∧ SkV S' (.agg [.slice B n d].toArray) s ∧ IsSk s N ∧ Gl S') :=
  (SubG_con hL hp S hG ha hb h1 h2).mono fun S' L' r hle ⟨h1, v, s, e, h2, h3⟩ => by
    obtain ⟨B, n, d, rfl⟩ := h2.form
    exact ⟨h1, B, n, d, s, e, h2, h3, hG.le hle⟩
theorem SubBadF {va vb : Value} {a b : List PC} {L M : List Fa} (hg : Good (L ++ M)) (hne : M ≠ []) (S : SH) (hG : Gl S) (ha : SkV S va a) (hb : SkV S vb b) (h1 : IsSk a L) (h2 : IsSk b (L ++ M)) : Con Tryd.prog 23 #[va, vb] S [] (fun S' L' r => L' = [] ∧ ∃ B n d, r = .tuple #[.agg [.slice B n d].toArray, .int .i64 170]) :=
  (SubBad_con hg hne S hG ha hb h1 h2).mono fun S' L' r hle ⟨h1, v, s, e, h2⟩ => by
    obtain ⟨B, n, d, rfl⟩ := h2.form
    exact ⟨h1, B, n, d, e⟩
set_option maxHeartbeats 3200000 in
theorem f4_law (xs : List K4) (A : Option Addr) (ca : Nat) (ys : List K4) (B : Option Addr) (cb : Nat) (zs : List K4) (E : Option Addr) (ce : Nat) (turn : Int) (S : SH) (hG : Gl S) (hA : At S A xs) (lx : xs.length ≤ ca) (hx : ∀ x ∈ xs, K4ok x) (hB : At S B ys) (ly : ys.length ≤ cb) (hy : ∀ x ∈ ys, K4ok x) (hE : At S E zs) (lz : zs.length ≤ ce) (hz : ∀ x ∈ zs, K4ok x) (ht : i64 turn) :
    Con Tryd.prog 4 #[.slice A xs.length ca, .slice B ys.length cb, .slice E zs.length ce, .int .i64 turn] S [] (fun _ _ v => v = .bool true) := by
  refine con_of (args := [.slice A xs.length ca, .slice B ys.length cb, .slice E zs.length ce, .int .i64 turn]) Tryd.func4 rfl Tryd.ntmps4 rfl fun w => ?_
  (repeat (first | refine Jc ?_ | ((apply z_call; rfl; rfl; rfl; exact sane_con S hG; rintro S1 _ _ hle1 ⟨rfl, rfl⟩)) | refine Jo ?_ | intro _))
  (repeat (first | refine Jc ?_ | ((apply z_call; rfl; rfl; rfl; exact MadeFacts_con xs A ca S1 (hA.le hle1) hx; rintro S2 _ _ hle2 ⟨rfl, Al, cl, l, rfl, hAl, hcl, hll, hlf⟩)) | refine Jo ?_ | intro _))
  (repeat (first | refine Jc ?_ | ((apply z_call; rfl; rfl; rfl; exact MadeFacts_con ys B cb S2 (hB.le (hle1.trans hle2)) hy; rintro S3 _ _ hle3 ⟨rfl, Am, cm, m, rfl, hAm, hcm, hlm, hmf⟩)) | refine Jo ?_ | intro _))
  have gl : Good l := .of hlf (by omega)
  have gm : Good m := .of hmf (by omega)
  (repeat (first | refine Jc ?_ | ((apply z_call; rfl; rfl; rfl; exact MakeF gl Al cl S3 (hG.le ((hle1.trans hle2).trans hle3)) (hAl.le hle3); rintro S4 _ _ hle4 ⟨rfl, Aa, na, ka, a, rfl, hsa, hia, hG4⟩)) | refine Jo ?_ | intro _))
  (repeat (first | refine Jc ?_ | ((apply z_call; rfl; rfl; rfl; exact MakeF gm Am cm S4 hG4 (hAm.le hle4); rintro S5 _ _ hle5 ⟨rfl, Ab, nb, kb, b, rfl, hsb, hib, hG5⟩)) | refine Jo ?_ | intro _))
  (repeat (first | refine Jc ?_ | ((apply z_call; rfl; rfl; rfl; exact MadeFacts_con zs E ce S5 (hE.le ((((hle1.trans hle2).trans hle3).trans hle4).trans hle5)) hz; rintro S6 _ _ hle6 ⟨rfl, An, cn, nn, rfl, hAn, hcn, hln, hnf⟩)) | refine Jo ?_ | intro _))
  have gn : Good nn := .of hnf (by omega)
  (repeat (first | refine Jc ?_ | ((apply z_call; rfl; rfl; rfl; exact MakeF gn An cn S6 (hG5.le hle6) hAn; rintro S7 _ _ hle7 ⟨rfl, Ac, nc, kc, c, rfl, hsc, hic, hG7⟩)) | refine Jo ?_ | intro _))
  have hAl7 : At S7 Al l := hAl.le (by repeat (first | exact Le.refl _ | assumption | refine Le.trans ?_ (by assumption)))
  have hAm7 : At S7 Am m := hAm.le (by repeat (first | exact Le.refl _ | assumption | refine Le.trans ?_ (by assumption)))
  rename_i b0
  have ho0 := Ows.full (α := Fa) (e := 27) (g := b0) (cs := []) (l := []) rfl (by decide)
  (repeat (first | refine Jc ?_ | (apply s_append_st (ms := l) hAl7; (case hg => rfl); (case hd => rfl); (case hx => rfl); (case ho => exact ho0); (case hL => (repeat (first | exact pm_nil _ | exact pm_refl _ _ | exact pm_self _ | apply pm_cons | apply pm_app))); (case hy => rfl); (case hm => first | rfl | simp); (case hzs => rfl); (case h0 => decide); (case hb => first | (simp; omega) | simp); (case h63 => first | (simp; omega) | simp); intro v1' ob1 ho1) | refine Jo ?_ | intro _))
  (repeat (first | refine Jc ?_ | (apply s_append_st (ms := m) hAm7; (case hg => rfl); (case hd => rfl); (case hx => rfl); (case ho => exact ho1); (case hL => (repeat (first | exact pm_nil _ | exact pm_refl _ _ | exact pm_self _ | apply pm_cons | apply pm_app))); (case hy => rfl); (case hm => first | rfl | simp); (case hzs => rfl); (case h0 => decide); (case hb => first | (simp; omega) | simp); (case h63 => first | (simp; omega) | simp); intro v2' ob2 ho2; refine W.freezeOws ho2 (by repeat (first | exact pm_nil _ | exact pm_refl _ _ | exact pm_self _ | refine pm_cons ?_ | refine pm_app ?_)) fun S8 hle8 hr8 => ?_; obtain ⟨A8, c8, rfl, hc8, hA8⟩ := hr8) | refine Jo ?_ | intro _))
  have hte : [] ++ l ++ m = l ++ m := by simp
  rw [hte] at hA8 hc8 ⊢
  clear hte ho1 ho2
  have htl : (l ++ m).length = l.length + m.length := List.length_append
  have gt : Good (l ++ m) := .app hlf hmf (by omega)
  generalize hlm2 : l ++ m = t at *
  obtain ⟨kt, hk, hk2⟩ : ∃ k : Nat, pickI turn ((t.length : Int) + 1) = k ∧ k ≤ t.length := by
    have h := pickI_bd turn ((t.length : Int) + 1) (by omega)
    exact ⟨(pickI turn ((t.length : Int) + 1)).toNat, by omega, by omega⟩
  have hpk := lpick_con turn ((t.length : Int) + 1) S8 ht (by omega)
  rw [hk] at hpk
  (repeat (first | refine Jc ?_ | ((apply z_call; rfl; rfl; rfl; exact hpk; rintro _ _ _ - ⟨rfl, rfl, rfl⟩)) | refine Jo ?_ | intro _))
  rename_i b3 b2 b1
  have gp : Good (t.drop kt ++ t.take kt) := gt.perm (by
    refine (List.Perm.of_eq (List.take_append_drop kt t).symm).trans List.perm_append_comm)
  have hG8 := hG7.le hle8
  refine c_meet (fun S' L F => Le S8 S' ∧ ∃ bx Ar nr kr r, SkV S' (.agg [.slice Ar nr kr].toArray) r ∧ IsSk r (t.drop kt ++ t.take kt) ∧ L = [(bx, .cells [.slice Ar nr kr].toArray 24 (0, 0)), (b1, .cells [.slice Ac nc kc].toArray 24 (0, 0)), (b2, .cells [.slice Ab nb kb].toArray 24 (0, 0)), (b3, .cells [.slice Aa na ka].toArray 24 (0, 0))] ∧
    F = [(21, .int .i64 0), (20, .pointer (some ⟨bx, 0, none⟩)), (17, .int .i64 0), (16, .pointer (some ⟨b1, 0, none⟩)), (15, .int .i64 0), (14, .pointer (some ⟨b2, 0, none⟩)), (13, .int .i64 0), (12, .pointer (some ⟨b3, 0, none⟩)), (9, .bool true), (8, .bool false)]) ?_ ?_
  · ((apply c_held ([(b1, .cells [.slice Ac nc kc].toArray 24 (0, 0)), (b2, .cells [.slice Ab nb kb].toArray 24 (0, 0)), (b3, .cells [.slice Aa na ka].toArray 24 (0, 0))]); (case hL => (repeat (first | exact List.Sublist.refl _ | exact List.Sublist.slnil | exact List.nil_sublist _ | exact List.sublist_append_left _ _ | apply List.Sublist.cons_cons | (apply List.Sublist.append; exact List.Sublist.refl _) | apply List.Sublist.cons | refine List.Sublist.trans ?_ (List.sublist_append_right _ _))))); refine Jf 1 ?_; refine Jf 2 ?_; (apply h_slice_lo hA8 3; (case hi => rfl); (case hr => kernel_rfl); (case hfr => kernel_rfl); (case hsel => kernel_rfl); (case hg => rfl); (case hd => rfl); (case i1 => infer_instance); (case i2 => infer_instance); (case hx => rfl); (case hy => rfl); (case hm => rfl); (case hmc => omega); (case hj => omega); intro A9 hA9); refine Jf 5 ?_; refine Jf 6 ?_; (apply h_slice_hi hA8 7; (case hi => rfl); (case hr => kernel_rfl); (case hfr => kernel_rfl); (case hsel => kernel_rfl); (case hg => rfl); (case hd => rfl); (case i1 => infer_instance); (case i2 => infer_instance); (case hx => rfl); (case hy => rfl); (case hm => rfl); (case hmc => omega); (case hj => omega); intro A10 hA10); (apply h_two 0 13; (case hr => kernel_rfl)); (case k1 => ((apply n_buildSlice; (case hi => rfl); (case hg => rfl); (case hd => rfl); (case i1 => infer_instance); (case i2 => infer_instance); (case i3 => infer_instance); (case hp => rfl); (case hq => rfl); (case hm => rfl); (case hv => rfl); (case hl => rfl); intro b0); (apply h_two 4 13; (case hr => kernel_rfl)); (case k1 => ((apply n_append_st (ms := t.drop kt) hA9; (case hi => rfl); (case hT => infer_instance); (case hsz => infer_instance); (case hz => infer_instance); (case hby => infer_instance); (case hg => rfl); (case hd => rfl); (case hx => rfl); (case ho => exact Ows.full (α := Fa) (e := 27) (g := b0) (cs := []) (l := []) rfl (by decide)); (case hL => (repeat (first | exact pm_nil _ | exact pm_refl _ _ | exact pm_self _ | apply pm_cons | apply pm_app))); (case hy => rfl); (case hm => first | rfl | simp); (case hzs => rfl); (case h0 => decide); (case hb => first | (simp; omega) | simp); (case h63 => first | (simp; omega) | simp); (case hsub => first | (intro _ _; exact List.nil_sublist _) | (intros; (repeat (first | exact List.Sublist.refl _ | exact List.Sublist.slnil | exact List.nil_sublist _ | exact List.sublist_append_left _ _ | apply List.Sublist.cons_cons | (apply List.Sublist.append; exact List.Sublist.refl _) | apply List.Sublist.cons | refine List.Sublist.trans ?_ (List.sublist_append_right _ _))))); intro v1' ob1 ho1); (apply h_two 8 13; (case hr => kernel_rfl)); (case k1 => ((apply n_append_st (ms := t.take kt) hA10; (case hi => rfl); (case hT => infer_instance); (case hsz => infer_instance); (case hz => infer_instance); (case hby => infer_instance); (case hg => rfl); (case hd => rfl); (case hx => rfl); (case ho => exact ho1); (case hL => (repeat (first | exact pm_nil _ | exact pm_refl _ _ | exact pm_self _ | apply pm_cons | apply pm_app))); (case hy => rfl); (case hm => first | rfl | simp); (case hzs => rfl); (case h0 => decide); (case hb => first | (simp; omega) | simp); (case h63 => first | (simp; omega) | simp); (case hsub => first | (intro _ _; exact List.nil_sublist _) | (intros; (repeat (first | exact List.Sublist.refl _ | exact List.Sublist.slnil | exact List.nil_sublist _ | exact List.sublist_append_left _ _ | apply List.Sublist.cons_cons | (apply List.Sublist.append; exact List.Sublist.refl _) | apply List.Sublist.cons | refine List.Sublist.trans ?_ (List.sublist_append_right _ _))))); intro v2' ob2 ho2; refine Wh.freezeOws ho2 (by repeat (first | exact pm_nil _ | exact pm_refl _ _ | exact pm_self _ | refine pm_cons ?_ | refine pm_app ?_)) (by repeat (first | exact List.Sublist.refl _ | exact List.Sublist.slnil | exact List.nil_sublist _ | exact List.sublist_append_left _ _ | refine List.Sublist.cons_cons _ ?_ | refine List.Sublist.append (List.Sublist.refl _) ?_ | refine List.Sublist.cons _ ?_ | refine List.Sublist.trans ?_ (List.sublist_append_right _ _))) fun S9 hle9 hr9 => ?_; obtain ⟨A11, c11, rfl, hc11, hA11⟩ := hr9); (apply h_two 9 13; (case hr => kernel_rfl)); (case k1 => ((apply n_call; (case hi => rfl); (case i1 => infer_instance); (case hg => rfl); (case hd => rfl); (case ha => rfl); (case hc => exact MakeF gp A11 c11 _ (hG8.le hle9) hA11); (case hL => (repeat (first | exact pm_nil _ | exact pm_refl _ _ | exact pm_self _ | apply pm_cons | apply pm_app))); (case hsub => (intros; (repeat (first | exact List.Sublist.refl _ | exact List.Sublist.slnil | exact List.nil_sublist _ | exact List.sublist_append_left _ _ | apply List.Sublist.cons_cons | (apply List.Sublist.append; exact List.Sublist.refl _) | apply List.Sublist.cons | refine List.Sublist.trans ?_ (List.sublist_append_right _ _))))); rintro S10 _ _ hle10 ⟨rfl, Ar, nr, kr, r, rfl, hsr, hir, hG10⟩); refine Jf 10 ?_; refine Jf 11 ?_; refine Jf 12 ?_; (apply h_one 13; (case hr => kernel_rfl)); (refine Jn ?_; try intro _); (apply h_one 14; (case hr => kernel_rfl)); (refine Jn ?_; try intro _); refine Jf 15 ?_; (apply h_end; (case hr => kernel_rfl)); (apply q_then; exact q_cut ⟨hle9.trans hle10, _, Ar, nr, kr, r, hsr, hir, rfl, rfl⟩ (by repeat (first | exact Sub.nil rfl | exact Sub.marked rfl | refine Sub.cons rfl ?_)) (by repeat (first | exact List.Sublist.refl _ | exact List.Sublist.slnil | exact List.nil_sublist _ | exact List.sublist_append_left _ _ | refine List.Sublist.cons_cons _ ?_ | refine List.Sublist.append (List.Sublist.refl _) ?_ | refine List.Sublist.cons _ ?_ | refine List.Sublist.trans ?_ (List.sublist_append_right _ _)))))); (case k2 => ((refine Jn ?_; try intro _); (apply h_one 9; (case hr => kernel_rfl)); (apply n_call; (case hi => rfl); (case i1 => infer_instance); (case hg => rfl); (case hd => rfl); (case ha => rfl); (case hc => exact MakeF gp A11 c11 _ (hG8.le hle9) hA11); (case hL => (repeat (first | exact pm_nil _ | exact pm_refl _ _ | exact pm_self _ | apply pm_cons | apply pm_app))); (case hsub => (intros; (repeat (first | exact List.Sublist.refl _ | exact List.Sublist.slnil | exact List.nil_sublist _ | exact List.sublist_append_left _ _ | apply List.Sublist.cons_cons | (apply List.Sublist.append; exact List.Sublist.refl _) | apply List.Sublist.cons | refine List.Sublist.trans ?_ (List.sublist_append_right _ _))))); rintro S10 _ _ hle10 ⟨rfl, Ar, nr, kr, r, rfl, hsr, hir, hG10⟩); refine Jf 10 ?_; refine Jf 11 ?_; refine Jf 12 ?_; (apply h_one 14; (case hr => kernel_rfl)); (refine Jn ?_; try intro _); refine Jf 15 ?_; (apply h_end; (case hr => kernel_rfl)); (apply q_then; exact q_cut ⟨hle9.trans hle10, _, Ar, nr, kr, r, hsr, hir, rfl, rfl⟩ (by repeat (first | exact Sub.nil rfl | exact Sub.marked rfl | refine Sub.cons rfl ?_)) (by repeat (first | exact List.Sublist.refl _ | exact List.Sublist.slnil | exact List.nil_sublist _ | exact List.sublist_append_left _ _ | refine List.Sublist.cons_cons _ ?_ | refine List.Sublist.append (List.Sublist.refl _) ?_ | refine List.Sublist.cons _ ?_ | refine List.Sublist.trans ?_ (List.sublist_append_right _ _)))))))); (case k2 => ((refine Jn ?_; try intro _); (apply h_one 8; (case hr => kernel_rfl)); (apply n_append_st (ms := t.take kt) hA10; (case hi => rfl); (case hT => infer_instance); (case hsz => infer_instance); (case hz => infer_instance); (case hby => infer_instance); (case hg => rfl); (case hd => rfl); (case hx => rfl); (case ho => exact ho1); (case hL => (repeat (first | exact pm_nil _ | exact pm_refl _ _ | exact pm_self _ | apply pm_cons | apply pm_app))); (case hy => rfl); (case hm => first | rfl | simp); (case hzs => rfl); (case h0 => decide); (case hb => first | (simp; omega) | simp); (case h63 => first | (simp; omega) | simp); (case hsub => first | (intro _ _; exact List.nil_sublist _) | (intros; (repeat (first | exact List.Sublist.refl _ | exact List.Sublist.slnil | exact List.nil_sublist _ | exact List.sublist_append_left _ _ | apply List.Sublist.cons_cons | (apply List.Sublist.append; exact List.Sublist.refl _) | apply List.Sublist.cons | refine List.Sublist.trans ?_ (List.sublist_append_right _ _))))); intro v2' ob2 ho2; refine Wh.freezeOws ho2 (by repeat (first | exact pm_nil _ | exact pm_refl _ _ | exact pm_self _ | refine pm_cons ?_ | refine pm_app ?_)) (by repeat (first | exact List.Sublist.refl _ | exact List.Sublist.slnil | exact List.nil_sublist _ | exact List.sublist_append_left _ _ | refine List.Sublist.cons_cons _ ?_ | refine List.Sublist.append (List.Sublist.refl _) ?_ | refine List.Sublist.cons _ ?_ | refine List.Sublist.trans ?_ (List.sublist_append_right _ _))) fun S9 hle9 hr9 => ?_; obtain ⟨A11, c11, rfl, hc11, hA11⟩ := hr9); (apply h_one 9; (case hr => kernel_rfl)); (apply n_call; (case hi => rfl); (case i1 => infer_instance); (case hg => rfl); (case hd => rfl); (case ha => rfl); (case hc => exact MakeF gp A11 c11 _ (hG8.le hle9) hA11); (case hL => (repeat (first | exact pm_nil _ | exact pm_refl _ _ | exact pm_self _ | apply pm_cons | apply pm_app))); (case hsub => (intros; (repeat (first | exact List.Sublist.refl _ | exact List.Sublist.slnil | exact List.nil_sublist _ | exact List.sublist_append_left _ _ | apply List.Sublist.cons_cons | (apply List.Sublist.append; exact List.Sublist.refl _) | apply List.Sublist.cons | refine List.Sublist.trans ?_ (List.sublist_append_right _ _))))); rintro S10 _ _ hle10 ⟨rfl, Ar, nr, kr, r, rfl, hsr, hir, hG10⟩); refine Jf 10 ?_; refine Jf 11 ?_; refine Jf 12 ?_; (apply h_one 14; (case hr => kernel_rfl)); (refine Jn ?_; try intro _); refine Jf 15 ?_; (apply h_end; (case hr => kernel_rfl)); (apply q_then; exact q_cut ⟨hle9.trans hle10, _, Ar, nr, kr, r, hsr, hir, rfl, rfl⟩ (by repeat (first | exact Sub.nil rfl | exact Sub.marked rfl | refine Sub.cons rfl ?_)) (by repeat (first | exact List.Sublist.refl _ | exact List.Sublist.slnil | exact List.nil_sublist _ | exact List.sublist_append_left _ _ | refine List.Sublist.cons_cons _ ?_ | refine List.Sublist.append (List.Sublist.refl _) ?_ | refine List.Sublist.cons _ ?_ | refine List.Sublist.trans ?_ (List.sublist_append_right _ _)))))))); (case k2 => ((refine Jn ?_; try intro _); (apply h_one 4; (case hr => kernel_rfl)); (apply n_append_st (ms := t.drop kt) hA9; (case hi => rfl); (case hT => infer_instance); (case hsz => infer_instance); (case hz => infer_instance); (case hby => infer_instance); (case hg => rfl); (case hd => rfl); (case hx => rfl); (case ho => exact Ows.full (α := Fa) (e := 27) (g := b0) (cs := []) (l := []) rfl (by decide)); (case hL => (repeat (first | exact pm_nil _ | exact pm_refl _ _ | exact pm_self _ | apply pm_cons | apply pm_app))); (case hy => rfl); (case hm => first | rfl | simp); (case hzs => rfl); (case h0 => decide); (case hb => first | (simp; omega) | simp); (case h63 => first | (simp; omega) | simp); (case hsub => first | (intro _ _; exact List.nil_sublist _) | (intros; (repeat (first | exact List.Sublist.refl _ | exact List.Sublist.slnil | exact List.nil_sublist _ | exact List.sublist_append_left _ _ | apply List.Sublist.cons_cons | (apply List.Sublist.append; exact List.Sublist.refl _) | apply List.Sublist.cons | refine List.Sublist.trans ?_ (List.sublist_append_right _ _))))); intro v1' ob1 ho1); (apply h_one 8; (case hr => kernel_rfl)); (apply n_append_st (ms := t.take kt) hA10; (case hi => rfl); (case hT => infer_instance); (case hsz => infer_instance); (case hz => infer_instance); (case hby => infer_instance); (case hg => rfl); (case hd => rfl); (case hx => rfl); (case ho => exact ho1); (case hL => (repeat (first | exact pm_nil _ | exact pm_refl _ _ | exact pm_self _ | apply pm_cons | apply pm_app))); (case hy => rfl); (case hm => first | rfl | simp); (case hzs => rfl); (case h0 => decide); (case hb => first | (simp; omega) | simp); (case h63 => first | (simp; omega) | simp); (case hsub => first | (intro _ _; exact List.nil_sublist _) | (intros; (repeat (first | exact List.Sublist.refl _ | exact List.Sublist.slnil | exact List.nil_sublist _ | exact List.sublist_append_left _ _ | apply List.Sublist.cons_cons | (apply List.Sublist.append; exact List.Sublist.refl _) | apply List.Sublist.cons | refine List.Sublist.trans ?_ (List.sublist_append_right _ _))))); intro v2' ob2 ho2; refine Wh.freezeOws ho2 (by repeat (first | exact pm_nil _ | exact pm_refl _ _ | exact pm_self _ | refine pm_cons ?_ | refine pm_app ?_)) (by repeat (first | exact List.Sublist.refl _ | exact List.Sublist.slnil | exact List.nil_sublist _ | exact List.sublist_append_left _ _ | refine List.Sublist.cons_cons _ ?_ | refine List.Sublist.append (List.Sublist.refl _) ?_ | refine List.Sublist.cons _ ?_ | refine List.Sublist.trans ?_ (List.sublist_append_right _ _))) fun S9 hle9 hr9 => ?_; obtain ⟨A11, c11, rfl, hc11, hA11⟩ := hr9); (apply h_one 9; (case hr => kernel_rfl)); (apply n_call; (case hi => rfl); (case i1 => infer_instance); (case hg => rfl); (case hd => rfl); (case ha => rfl); (case hc => exact MakeF gp A11 c11 _ (hG8.le hle9) hA11); (case hL => (repeat (first | exact pm_nil _ | exact pm_refl _ _ | exact pm_self _ | apply pm_cons | apply pm_app))); (case hsub => (intros; (repeat (first | exact List.Sublist.refl _ | exact List.Sublist.slnil | exact List.nil_sublist _ | exact List.sublist_append_left _ _ | apply List.Sublist.cons_cons | (apply List.Sublist.append; exact List.Sublist.refl _) | apply List.Sublist.cons | refine List.Sublist.trans ?_ (List.sublist_append_right _ _))))); rintro S10 _ _ hle10 ⟨rfl, Ar, nr, kr, r, rfl, hsr, hir, hG10⟩); refine Jf 10 ?_; refine Jf 11 ?_; refine Jf 12 ?_; (apply h_one 14; (case hr => kernel_rfl)); (refine Jn ?_; try intro _); refine Jf 15 ?_; (apply h_end; (case hr => kernel_rfl)); (apply q_then; exact q_cut ⟨hle9.trans hle10, _, Ar, nr, kr, r, hsr, hir, rfl, rfl⟩ (by repeat (first | exact Sub.nil rfl | exact Sub.marked rfl | refine Sub.cons rfl ?_)) (by repeat (first | exact List.Sublist.refl _ | exact List.Sublist.slnil | exact List.nil_sublist _ | exact List.sublist_append_left _ _ | refine List.Sublist.cons_cons _ ?_ | refine List.Sublist.append (List.Sublist.refl _) ?_ | refine List.Sublist.cons _ ?_ | refine List.Sublist.trans ?_ (List.sublist_append_right _ _)))))))); (case k2 => ((refine Jn ?_; try intro _); (apply h_one 0; (case hr => kernel_rfl)); (apply n_buildSlice; (case hi => rfl); (case hg => rfl); (case hd => rfl); (case i1 => infer_instance); (case i2 => infer_instance); (case i3 => infer_instance); (case hp => rfl); (case hq => rfl); (case hm => rfl); (case hv => rfl); (case hl => rfl); intro b0); (apply h_one 4; (case hr => kernel_rfl)); (apply n_append_st (ms := t.drop kt) hA9; (case hi => rfl); (case hT => infer_instance); (case hsz => infer_instance); (case hz => infer_instance); (case hby => infer_instance); (case hg => rfl); (case hd => rfl); (case hx => rfl); (case ho => exact Ows.full (α := Fa) (e := 27) (g := b0) (cs := []) (l := []) rfl (by decide)); (case hL => (repeat (first | exact pm_nil _ | exact pm_refl _ _ | exact pm_self _ | apply pm_cons | apply pm_app))); (case hy => rfl); (case hm => first | rfl | simp); (case hzs => rfl); (case h0 => decide); (case hb => first | (simp; omega) | simp); (case h63 => first | (simp; omega) | simp); (case hsub => first | (intro _ _; exact List.nil_sublist _) | (intros; (repeat (first | exact List.Sublist.refl _ | exact List.Sublist.slnil | exact List.nil_sublist _ | exact List.sublist_append_left _ _ | apply List.Sublist.cons_cons | (apply List.Sublist.append; exact List.Sublist.refl _) | apply List.Sublist.cons | refine List.Sublist.trans ?_ (List.sublist_append_right _ _))))); intro v1' ob1 ho1); (apply h_one 8; (case hr => kernel_rfl)); (apply n_append_st (ms := t.take kt) hA10; (case hi => rfl); (case hT => infer_instance); (case hsz => infer_instance); (case hz => infer_instance); (case hby => infer_instance); (case hg => rfl); (case hd => rfl); (case hx => rfl); (case ho => exact ho1); (case hL => (repeat (first | exact pm_nil _ | exact pm_refl _ _ | exact pm_self _ | apply pm_cons | apply pm_app))); (case hy => rfl); (case hm => first | rfl | simp); (case hzs => rfl); (case h0 => decide); (case hb => first | (simp; omega) | simp); (case h63 => first | (simp; omega) | simp); (case hsub => first | (intro _ _; exact List.nil_sublist _) | (intros; (repeat (first | exact List.Sublist.refl _ | exact List.Sublist.slnil | exact List.nil_sublist _ | exact List.sublist_append_left _ _ | apply List.Sublist.cons_cons | (apply List.Sublist.append; exact List.Sublist.refl _) | apply List.Sublist.cons | refine List.Sublist.trans ?_ (List.sublist_append_right _ _))))); intro v2' ob2 ho2; refine Wh.freezeOws ho2 (by repeat (first | exact pm_nil _ | exact pm_refl _ _ | exact pm_self _ | refine pm_cons ?_ | refine pm_app ?_)) (by repeat (first | exact List.Sublist.refl _ | exact List.Sublist.slnil | exact List.nil_sublist _ | exact List.sublist_append_left _ _ | refine List.Sublist.cons_cons _ ?_ | refine List.Sublist.append (List.Sublist.refl _) ?_ | refine List.Sublist.cons _ ?_ | refine List.Sublist.trans ?_ (List.sublist_append_right _ _))) fun S9 hle9 hr9 => ?_; obtain ⟨A11, c11, rfl, hc11, hA11⟩ := hr9); (apply h_one 9; (case hr => kernel_rfl)); (apply n_call; (case hi => rfl); (case i1 => infer_instance); (case hg => rfl); (case hd => rfl); (case ha => rfl); (case hc => exact MakeF gp A11 c11 _ (hG8.le hle9) hA11); (case hL => (repeat (first | exact pm_nil _ | exact pm_refl _ _ | exact pm_self _ | apply pm_cons | apply pm_app))); (case hsub => (intros; (repeat (first | exact List.Sublist.refl _ | exact List.Sublist.slnil | exact List.nil_sublist _ | exact List.sublist_append_left _ _ | apply List.Sublist.cons_cons | (apply List.Sublist.append; exact List.Sublist.refl _) | apply List.Sublist.cons | refine List.Sublist.trans ?_ (List.sublist_append_right _ _))))); rintro S10 _ _ hle10 ⟨rfl, Ar, nr, kr, r, rfl, hsr, hir, hG10⟩); refine Jf 10 ?_; refine Jf 11 ?_; refine Jf 12 ?_; (apply h_one 14; (case hr => kernel_rfl)); (refine Jn ?_; try intro _); refine Jf 15 ?_; (apply h_end; (case hr => kernel_rfl)); (apply q_then; exact q_cut ⟨hle9.trans hle10, _, Ar, nr, kr, r, hsr, hir, rfl, rfl⟩ (by repeat (first | exact Sub.nil rfl | exact Sub.marked rfl | refine Sub.cons rfl ?_)) (by repeat (first | exact List.Sublist.refl _ | exact List.Sublist.slnil | exact List.nil_sublist _ | exact List.sublist_append_left _ _ | refine List.Sublist.cons_cons _ ?_ | refine List.Sublist.append (List.Sublist.refl _) ?_ | refine List.Sublist.cons _ ?_ | refine List.Sublist.trans ?_ (List.sublist_append_right _ _)))))))
  rintro S9 L9 F9 ⟨hle9, bx, Ar, nr, kr, r, hsr, hir, rfl, rfl⟩
  have hG9 := hG8.le hle9
  have ha9 : SkV S9 (.agg [.slice Aa na ka].toArray) a := (hsa.le (((((hle5.trans hle6).trans hle7).trans hle8).trans hle9)))
  have hb9 : SkV S9 (.agg [.slice Ab nb kb].toArray) b := hsb.le (((hle6.trans hle7).trans hle8).trans hle9)
  have hc9 : SkV S9 (.agg [.slice Ac nc kc].toArray) c := hsc.le (hle8.trans hle9)
  have glm : Good (l ++ m) := .app hlf hmf (by omega)
  have gml : Good (m ++ l) := .app hmf hlf (by omega)
  have gmn : Good (m ++ nn) := .app hmf hnf (by omega)
  have gx : Good (l ++ m ++ nn) := .app glm.each hnf (by rw [List.length_append]; omega)
  have gy : Good (l ++ (m ++ nn)) := .app hlf gmn.each (by rw [List.length_append]; omega)
  have gz : Good (l ++ []) := .app hlf (fun x hx => absurd hx List.not_mem_nil) (by simp; omega)
  have g0 : Good [] := ⟨fun x hx => absurd hx List.not_mem_nil, by decide⟩
  (repeat (first | refine Jc ?_ | ((apply z_call; rfl; rfl; rfl; exact MergeF glm S9 hG9 ha9 hb9 hia hib; rintro T1 _ _ ht1 ⟨rfl, B1, n1, k1, s1, rfl, hs1, hi1, hT1⟩)) | refine Jo ?_ | intro _))
  (repeat (first | refine Jc ?_ | ((apply z_call; rfl; rfl; rfl; exact MergeF gml T1 hT1 (hb9.le ht1) (ha9.le ht1) hib hia; rintro T2 _ _ ht2 ⟨rfl, B2, n2, k2, s2, rfl, hs2, hi2, hT2⟩)) | refine Jo ?_ | intro _))
  (repeat (first | refine Jc ?_ | ((apply z_call; rfl; rfl; rfl; exact MergeF gmn T2 hT2 ((hb9.le ht1).le ht2) ((hc9.le ht1).le ht2) hib hic; rintro T3 _ _ ht3 ⟨rfl, B3, n3, k3, s3, rfl, hs3, hi3, hT3⟩)) | refine Jo ?_ | intro _))
  (repeat (first | refine Jc ?_ | ((apply z_call; rfl; rfl; rfl; exact MergeF gx T3 hT3 ((hs1.le ht2).le ht3) (((hc9.le ht1).le ht2).le ht3) hi1 hic; rintro T4 _ _ ht4 ⟨rfl, B4, n4, k4, s4, rfl, hs4, hi4, hT4⟩)) | refine Jo ?_ | intro _))
  (repeat (first | refine Jc ?_ | ((apply z_call; rfl; rfl; rfl; exact MergeF gy T4 hT4 ((((ha9.le ht1).le ht2).le ht3).le ht4) (hs3.le ht4) hia hi3; rintro T5 _ _ ht5 ⟨rfl, B5, n5, k5, s5, rfl, hs5, hi5, hT5⟩)) | refine Jo ?_ | intro _))
  (repeat (first | refine Jc ?_ | ((apply z_call; rfl; rfl; rfl; exact MakeF g0 none 0 T5 hT5 (At.nil _ _); rintro T6 _ _ ht6 ⟨rfl, B6, n6, k6, s6, rfl, hs6, hi6, hT6⟩)) | refine Jo ?_ | intro _))
  (repeat (first | refine Jc ?_ | ((apply z_call; rfl; rfl; rfl; exact MergeF gz T6 hT6 ((((((ha9.le ht1).le ht2).le ht3).le ht4).le ht5).le ht6) hs6 hia hi6; rintro T7 _ _ ht7 ⟨rfl, B7, n7, k7, s7, rfl, hs7, hi7, hT7⟩)) | refine Jo ?_ | intro _))
  have q1 : r = s1 := hir.unique hi1 (by rw [hlm2]; exact List.perm_append_comm.trans (List.Perm.of_eq (List.take_append_drop kt t)))
  have q2 : s1 = s2 := hi1.unique hi2 List.perm_append_comm
  have q3 : s4 = s5 := hi4.unique hi5 (List.Perm.of_eq (List.append_assoc _ _ _))
  have q4 : s7 = a := hi7.unique hia (List.Perm.of_eq (List.append_nil _))
  have w1 := Same_con T7 (hsr.le ((((((ht1.trans ht2).trans ht3).trans ht4).trans ht5).trans ht6).trans ht7)) (hs1.le (((((ht2.trans ht3).trans ht4).trans ht5).trans ht6).trans ht7))
  have w2 := Same_con T7 (hs1.le (((((ht2.trans ht3).trans ht4).trans ht5).trans ht6).trans ht7)) (hs2.le ((((ht3.trans ht4).trans ht5).trans ht6).trans ht7))
  have w3 := Same_con T7 (hs4.le ((ht5.trans ht6).trans ht7)) (hs5.le (ht6.trans ht7))
  have w4 := Same_con T7 hs7 (ha9.le ((((((ht1.trans ht2).trans ht3).trans ht4).trans ht5).trans ht6).trans ht7))
  rw [bP_t q1] at w1
  rw [bP_t q2] at w2
  rw [bP_t q3] at w3
  rw [bP_t q4] at w4
  (repeat (first | refine Jc ?_ | ((apply z_call; rfl; rfl; rfl; exact w1; rintro _ _ _ - ⟨rfl, rfl, rfl⟩)) | ((apply z_call; rfl; rfl; rfl; exact w2; rintro _ _ _ - ⟨rfl, rfl, rfl⟩)) | ((apply z_call; rfl; rfl; rfl; exact w3; rintro _ _ _ - ⟨rfl, rfl, rfl⟩)) | ((apply z_call; rfl; rfl; rfl; exact w4; rintro _ _ _ - ⟨rfl, rfl, rfl⟩)) | refine Jo ?_ | intro _))
  exact o_ret (L' := []) Tryd.results4 rfl (List.nil_sublist _) rfl
end Go.Proofs.YtogfficbloejcaaDoor
namespace Go.Proofs.YtogfficbloejcaaDoor
open Go Go.X
set_option maxRecDepth 10000
set_option linter.unusedVariables false
attribute [local irreducible] Code.wpIn wpListIn Exit.then Exit.inBlock X.Out X.Back X.W X.Ev X.Con X.BinV X.Wh X.Wn X.Wq
theorem own_perm (l : List Fa) (who : Int) : l.Perm (l.filter (fun x => x.pe == who) ++ l.filter (fun x => !(x.pe == who))) := (List.filter_append_perm _ l).symm
theorem fkey_len (x : Fa) : (fkey x).length = 4 := rfl
theorem IsSk.ne_nil {s : List PC} {L : List Fa} (h : IsSk s L) (hne : L ≠ []) : s ≠ [] := by
  obtain ⟨x, L', rfl⟩ := List.exists_cons_of_ne_nil hne
  intro e
  subst e
  have := (h.mem (mkPC (fkey x) (vecOf (x :: L') (fkey x)))).2 (by
    rw [mkPC_key (fkey_len x)]
    exact ⟨⟨x, List.mem_cons_self, rfl⟩, rfl⟩)
  exact absurd this List.not_mem_nil
theorem SkV.len {S : SH} {A : Option Addr} {n c : Nat} {l : List PC} (h : SkV S (.agg [.slice A n c].toArray) l) : n = l.length := by
  obtain ⟨A', c', cs, e, _, _, _, hm⟩ := h
  rw [← hm, List.length_map]
  injection e with e
  have e2 := congrArg Array.toList e
  simp at e2
  exact e2.2.1
set_option maxHeartbeats 3200000 in
theorem f5_law (xs : List K4) (A : Option Addr) (ca : Nat) (ys : List K4) (B : Option Addr) (cb : Nat) (person : Int) (S : SH) (hG : Gl S) (hA : At S A xs) (lx : xs.length ≤ ca) (hx : ∀ x ∈ xs, K4ok x) (hB : At S B ys) (ly : ys.length ≤ cb) (hy : ∀ x ∈ ys, K4ok x) (ht : i64 person) :
    Con Tryd.prog 5 #[.slice A xs.length ca, .slice B ys.length cb, .int .i64 person] S [] (fun _ _ v => v = .bool true) := by
  refine con_of (args := [.slice A xs.length ca, .slice B ys.length cb, .int .i64 person]) Tryd.func5 rfl Tryd.ntmps5 rfl fun w => ?_
  (repeat (first | refine Jc ?_ | ((apply z_call; rfl; rfl; rfl; exact sane_con S hG; rintro S1 _ _ hle1 ⟨rfl, rfl⟩)) | refine Jo ?_ | intro _))
  (repeat (first | refine Jc ?_ | ((apply z_call; rfl; rfl; rfl; exact MadeFacts_con xs A ca S1 (hA.le hle1) hx; rintro S2 _ _ hle2 ⟨rfl, Al, cl, l, rfl, hAl, hcl, hll, hlf⟩)) | refine Jo ?_ | intro _))
  have gl : Good l := .of hlf (by omega)
  (repeat (first | refine Jc ?_ | ((apply z_call; rfl; rfl; rfl; exact MakeF gl Al cl S2 (hG.le (hle1.trans hle2)) hAl; rintro S3 _ _ hle3 ⟨rfl, Aa, na, ka, a, rfl, hsa, hia, hG3⟩)) | refine Jo ?_ | intro _))
  (repeat (first | refine Jc ?_ | ((apply z_call; rfl; rfl; rfl; exact MadeFacts_con ys B cb S3 (hB.le ((hle1.trans hle2).trans hle3)) hy; rintro S4 _ _ hle4 ⟨rfl, Am, cm, m, rfl, hAm, hcm, hlm, hmf⟩)) | refine Jo ?_ | intro _))
  have gm : Good m := .of hmf (by omega)
  (repeat (first | refine Jc ?_ | ((apply z_call; rfl; rfl; rfl; exact MakeF gm Am cm S4 (hG3.le hle4) hAm; rintro S5 _ _ hle5 ⟨rfl, Ab, nb, kb, b, rfl, hsb, hib, hG5⟩)) | refine Jo ?_ | intro _))
  have glm : Good (l ++ m) := .app hlf hmf (by omega)
  have ha5 := (hsa.le hle4).le hle5
  (repeat (first | refine Jc ?_ | ((apply z_call; rfl; rfl; rfl; exact MergeF glm S5 hG5 ha5 hsb hia hib; rintro S6 _ _ hle6 ⟨rfl, Ad, nd, kd, d, rfl, hsd, hid, hG6⟩)) | refine Jo ?_ | intro _))
  (repeat (first | refine Jc ?_ | ((apply z_call; rfl; rfl; rfl; exact SubF glm List.perm_append_comm S6 hG6 hsd (hsb.le hle6) hid hib; rintro S7 _ _ hle7 ⟨rfl, Ae, ne, ke, e, rfl, hse, hie, hG7⟩)) | refine Jo ?_ | intro _))
  have hwho := pickI_bd person 6 (by decide)
  have hpk := lpick_con person 6 S7 ht (by decide)
  generalize hwv : pickI person 6 = who at *
  have hAl7 : At S7 Al l := ((((hAl.le hle3).le hle4).le hle5).le hle6).le hle7
  (repeat (first | refine Jc ?_ | ((apply z_call; rfl; rfl; rfl; exact hpk; rintro _ _ _ - ⟨rfl, rfl, rfl⟩)) | refine Jo ?_ | intro _))
  rename_i b1 b2 b3 b4
  refine c_loop (fun q S' L F => S' = S7 ∧ ∃ (i : Nat) (vo : Value) (oo : Blocks) (vt : Value) (ot : Blocks), q = l.length - i ∧ i ≤ l.length ∧ Ows 27 vo ((l.take i).filter fun x => x.pe == who - 1) oo ∧ Ows 27 vt ((l.take i).filter fun x => !(x.pe == who - 1)) ot ∧
      L = oo ++ (ot ++ [(b4, .cells [.slice Ae ne ke].toArray 24 (0, 0)), (b3, .cells [.slice Ad nd kd].toArray 24 (0, 0)), (b2, .cells [.slice Ab nb kb].toArray 24 (0, 0)), (b1, .cells [.slice Aa na ka].toArray 24 (0, 0))]) ∧
      F = [(20, .int .i64 i), (19, .int .i64 (who - 1)), (18, vt), (17, vo), (16, .int .i64 0), (15, .pointer (some ⟨b4, 0, none⟩)), (14, .int .i64 0), (13, .pointer (some ⟨b3, 0, none⟩)), (12, .int .i64 0), (11, .pointer (some ⟨b2, 0, none⟩)), (10, .int .i64 0), (9, .pointer (some ⟨b1, 0, none⟩)), (8, .slice Al l.length cl), (7, .bool true), (6, .bool false)])
    ⟨rfl, 0, _, [], _, [], rfl, by omega, Ows.nil 27, Ows.nil 27, rfl, rfl⟩ (by repeat (first | exact Sub.nil rfl | exact Sub.marked rfl | refine Sub.cons rfl ?_)) (by repeat (first | exact List.Sublist.refl _ | exact List.Sublist.slnil | exact List.nil_sublist _ | exact List.sublist_append_left _ _ | refine List.Sublist.cons_cons _ ?_ | refine List.Sublist.append (List.Sublist.refl _) ?_ | refine List.Sublist.cons _ ?_ | refine List.Sublist.trans ?_ (List.sublist_append_right _ _))) ?_
  rintro q S' L F ⟨rfl, i, vo, oo, vt, ot, rfl, hi, hoo, hot, rfl, rfl⟩
  by_cases hlt : i < l.length
  · obtain ⟨x, hx⟩ := at_lt' hlt
    have htk : l.take (i + 1) = l.take i ++ [x] := by rw [List.take_add_one, hx]; rfl
    have h1l : ((l.take i).filter fun x => x.pe == who - 1).length ≤ 40 := Nat.le_trans (List.length_filter_le _ _) (by rw [List.length_take]; omega)
    have h2l : ((l.take i).filter fun x => !(x.pe == who - 1)).length ≤ 40 := Nat.le_trans (List.length_filter_le _ _) (by rw [List.length_take]; omega)
    by_cases hp : x.pe = who - 1
    · have e1 : (l.take (i + 1)).filter (fun x => x.pe == who - 1) = (l.take i).filter (fun x => x.pe == who - 1) ++ [x] := by rw [htk, List.filter_append, List.filter_cons_of_pos (by simpa using hp)]; rfl
      have e2 : (l.take (i + 1)).filter (fun x => !(x.pe == who - 1)) = (l.take i).filter (fun x => !(x.pe == who - 1)) := by rw [htk, List.filter_append, List.filter_cons_of_neg (by simpa using hp)]; simp
      (repeat (first | refine Jc ?_ | (apply s_idx hAl7; (case hg => rfl); (case hd => rfl); (case hx => rfl); (case hi => rfl); (case hm => rfl); (case hu => exact hx); intro p (hp2 : Pts _ p x.vals)) | (apply s_load_f; (case hg => rfl); (case hd => rfl); (case hx => rfl); (case h => exact hp2); (case hv => rfl)) | (apply s_load_ag; (case hg => rfl); (case hd => rfl); (case hx => rfl); (case hv => exact hp2); (case hl => rfl)) | (apply s_append (ms := [x]); (case hg => rfl); (case hd => rfl); (case hx => rfl); (case ho => exact hoo); (case hL => (repeat (first | exact pm_nil _ | exact pm_refl _ _ | exact pm_self _ | apply pm_cons | apply pm_app))); (case hy => rfl); (case hm => rfl); (case hs => (apply Src.own; (repeat (first | exact List.Mem.head _ | apply List.Mem.tail | apply List.mem_append_right)))); (case hzs => rfl); (case h0 => decide); (case hb => (simp; omega)); (case h63 => (simp; omega)); intro v' ob' ho') | refine Jo ?_ | intro _))
      exact q_back (m' := l.length - (i + 1)) ⟨rfl, i + 1, v', ob', vt, ot, rfl, by omega, by rw [e1]; exact ho', by rw [e2]; exact hot, rfl, rfl⟩ (by omega) (by repeat (first | exact Sub.nil rfl | exact Sub.marked rfl | refine Sub.cons rfl ?_)) (by repeat (first | exact List.Sublist.refl _ | exact List.Sublist.slnil | exact List.nil_sublist _ | exact List.sublist_append_left _ _ | refine List.Sublist.cons_cons _ ?_ | refine List.Sublist.append (List.Sublist.refl _) ?_ | refine List.Sublist.cons _ ?_ | refine List.Sublist.trans ?_ (List.sublist_append_right _ _)))
    · have e1 : (l.take (i + 1)).filter (fun x => x.pe == who - 1) = (l.take i).filter (fun x => x.pe == who - 1) := by rw [htk, List.filter_append, List.filter_cons_of_neg (by simpa using hp)]; simp
      have e2 : (l.take (i + 1)).filter (fun x => !(x.pe == who - 1)) = (l.take i).filter (fun x => !(x.pe == who - 1)) ++ [x] := by rw [htk, List.filter_append, List.filter_cons_of_pos (by simpa using hp)]; rfl
      (repeat (first | refine Jc ?_ | (apply s_idx hAl7; (case hg => rfl); (case hd => rfl); (case hx => rfl); (case hi => rfl); (case hm => rfl); (case hu => exact hx); intro p (hp2 : Pts _ p x.vals)) | (apply s_load_f; (case hg => rfl); (case hd => rfl); (case hx => rfl); (case h => exact hp2); (case hv => rfl)) | (apply s_load_ag; (case hg => rfl); (case hd => rfl); (case hx => rfl); (case hv => exact hp2); (case hl => rfl)) | (apply s_append (ms := [x]); (case hg => rfl); (case hd => rfl); (case hx => rfl); (case ho => exact hot); (case hL => (repeat (first | exact pm_nil _ | exact pm_refl _ _ | exact pm_self _ | apply pm_cons | apply pm_app))); (case hy => rfl); (case hm => rfl); (case hs => (apply Src.own; (repeat (first | exact List.Mem.head _ | apply List.Mem.tail | apply List.mem_append_right)))); (case hzs => rfl); (case h0 => decide); (case hb => (simp; omega)); (case h63 => (simp; omega)); intro v' ob' ho') | refine Jo ?_ | intro _))
      rename_i bz
      refine W.perm (L' := oo ++ (ob' ++ ((bz, _) :: [(b4, .cells [.slice Ae ne ke].toArray 24 (0, 0)), (b3, .cells [.slice Ad nd kd].toArray 24 (0, 0)), (b2, .cells [.slice Ab nb kb].toArray 24 (0, 0)), (b1, .cells [.slice Aa na ka].toArray 24 (0, 0))]))) ?_ (by repeat (first | exact pm_nil _ | exact pm_refl _ _ | exact pm_self _ | refine pm_cons ?_ | refine pm_app ?_))
      exact q_back (m' := l.length - (i + 1)) ⟨rfl, i + 1, vo, oo, v', ob', rfl, by omega, by rw [e1]; exact hoo, by rw [e2]; exact ho', rfl, rfl⟩ (by omega) (by repeat (first | exact Sub.nil rfl | exact Sub.marked rfl | refine Sub.cons rfl ?_)) (by repeat (first | exact List.Sublist.refl _ | exact List.Sublist.slnil | exact List.nil_sublist _ | exact List.sublist_append_left _ _ | refine List.Sublist.cons_cons _ ?_ | refine List.Sublist.append (List.Sublist.refl _) ?_ | refine List.Sublist.cons _ ?_ | refine List.Sublist.trans ?_ (List.sublist_append_right _ _)))
  rw [List.take_of_length_le (by omega)] at hoo hot
  refine W.freezeOws hoo (List.Perm.refl _) fun S8 hle8 hr8 => ?_
  refine W.freezeOws hot (List.Perm.refl _) fun S9 hle9 hr9 => ?_
  obtain ⟨A8, c8, rfl, hc8, hA8⟩ := hr8
  obtain ⟨A9, c9, rfl, hc9, hA9⟩ := hr9
  have hpm := own_perm l (who - 1)
  generalize hown : (l.filter fun x => x.pe == who - 1) = own at *
  generalize hoth : (l.filter fun x => !(x.pe == who - 1)) = oth at *
  have gown : Good own := gl.sub (fun x hx => hpm.mem_iff.2 (List.mem_append_left _ hx)) (by have := hpm.length_eq; rw [List.length_append] at this; omega)
  have goth : Good oth := gl.sub (fun x hx => hpm.mem_iff.2 (List.mem_append_right _ hx)) (by have := hpm.length_eq; rw [List.length_append] at this; omega)
  have hG9 := (hG7.le hle8).le hle9
  (repeat (first | refine Jc ?_ | ((apply z_call; rfl; rfl; rfl; exact MakeF gown A8 c8 S9 hG9 (hA8.le hle9); rintro T1 _ _ ht1 ⟨rfl, B1, n1, k1, s1, rfl, hs1, hi1, hT1⟩)) | refine Jo ?_ | intro _))
  (repeat (first | refine Jc ?_ | ((apply z_call; rfl; rfl; rfl; exact MakeF goth A9 c9 T1 hT1 (hA9.le ht1); rintro T2 _ _ ht2 ⟨rfl, B2, n2, k2, s2, rfl, hs2, hi2, hT2⟩)) | refine Jo ?_ | intro _))
  have ha9 : SkV T2 (.agg [.slice Aa na ka].toArray) a := (((((ha5.le hle6).le hle7).le hle8).le hle9).le ht1).le ht2
  have hb9 : SkV T2 (.agg [.slice Ab nb kb].toArray) b := (((((hsb.le hle6).le hle7).le hle8).le hle9).le ht1).le ht2
  have hd9 : SkV T2 (.agg [.slice Ad nd kd].toArray) d := ((((hsd.le hle7).le hle8).le hle9).le ht1).le ht2
  have he9 : SkV T2 (.agg [.slice Ae ne ke].toArray) e := (((hse.le hle8).le hle9).le ht1).le ht2
  have pm2 : (l ++ m).Perm (own ++ (oth ++ m)) := by rw [← List.append_assoc]; exact hpm.append_right m
  have goy : Good (oth ++ m) := glm.sub (fun x hx => pm2.mem_iff.2 (List.mem_append_right _ hx)) (by have := pm2.length_eq; simp only [List.length_append] at this ⊢; omega)
  (repeat (first | refine Jc ?_ | ((apply z_call; rfl; rfl; rfl; exact SubF gl hpm T2 hT2 ha9 (hs1.le ht2) hia hi1; rintro T3 _ _ ht3 ⟨rfl, B3, n3, k3, s3, rfl, hs3, hi3, hT3⟩)) | refine Jo ?_ | intro _))
  (repeat (first | refine Jc ?_ | ((apply z_call; rfl; rfl; rfl; exact SubF glm pm2 T3 hT3 (hd9.le ht3) ((hs1.le ht2).le ht3) hid hi1; rintro T4 _ _ ht4 ⟨rfl, B4, n4, k4, s4, rfl, hs4, hi4, hT4⟩)) | refine Jo ?_ | intro _))
  (repeat (first | refine Jc ?_ | ((apply z_call; rfl; rfl; rfl; exact SubF goy (List.Perm.refl _) T4 hT4 hs4 ((hs2.le ht3).le ht4) hi4 hi2; rintro T5 _ _ ht5 ⟨rfl, B5, n5, k5, s5, rfl, hs5, hi5, hT5⟩)) | refine Jo ?_ | intro _))
  have q1 : e = a := hie.unique hia (List.Perm.refl _)
  have q2 : s3 = s2 := hi3.unique hi2 (List.Perm.refl _)
  have q3 : s5 = b := hi5.unique hib (List.Perm.refl _)
  have w1 := Same_con T5 (((he9.le ht3).le ht4).le ht5) (((ha9.le ht3).le ht4).le ht5)
  have w2 := Same_con T5 ((hs3.le ht4).le ht5) (((hs2.le ht3).le ht4).le ht5)
  have w3 := Same_con T5 hs5 (((hb9.le ht3).le ht4).le ht5)
  rw [bP_t q1] at w1
  rw [bP_t q2] at w2
  rw [bP_t q3] at w3
  (repeat (first | refine Jc ?_ | ((apply z_call; rfl; rfl; rfl; exact w1; rintro _ _ _ - ⟨rfl, rfl, rfl⟩)) | ((apply z_call; rfl; rfl; rfl; exact w2; rintro _ _ _ - ⟨rfl, rfl, rfl⟩)) | ((apply z_call; rfl; rfl; rfl; exact w3; rintro _ _ _ - ⟨rfl, rfl, rfl⟩)) | refine Jo ?_ | intro _))
  have hnb := hb9.len
  have ha10 := ((ha9.le ht3).le ht4).le ht5
  have hd10 := ((hd9.le ht3).le ht4).le ht5
  by_cases hm0 : m = []
  · subst hm0
    have hbn : b = [] := hib.empty
    subst hbn
    have hnb : nb = 0 := hnb
    subst hnb
    (repeat (first | refine Jc ?_ | ((apply z_call; rfl; rfl; rfl; exact SubF (N := []) gl (List.Perm.of_eq (by simp)) T5 hT5 ha10 hd10 hia hid; rintro T6 _ _ ht6 ⟨rfl, B6, n6, k6, s6, rfl, hs6, hi6, hT6⟩)) | refine Jo ?_ | intro _))
    exact o_ret (L' := []) Tryd.results5 rfl (List.nil_sublist _) rfl
  · have hbn : 0 < b.length := List.length_pos_iff.2 (hib.ne_nil hm0)
    (repeat (first | refine Jc ?_ | ((apply z_call; rfl; rfl; rfl; exact SubBadF glm hm0 T5 hT5 ha10 hd10 hia hid; rintro T6 _ _ ht6 ⟨rfl, B6, n6, k6, rfl⟩)) | refine Jo ?_ | intro _))
    exact o_ret (L' := []) Tryd.results5 rfl (List.nil_sublist _) rfl
end Go.Proofs.YtogfficbloejcaaDoor
namespace Go.Proofs.YtogfficbloejcaaDoor
open Go Go.X
set_option maxRecDepth 10000
set_option linter.unusedVariables false
attribute [local irreducible] Code.wpIn wpListIn Exit.then Exit.inBlock X.Out X.Back X.W X.Ev X.Con X.BinV X.Wh X.Wn X.Wq
theorem EncodeS_con {v : Value} {l : List PC} (S : SH) (hG : Gl S) (h : SkV S v l) : Con Tryd.prog 34 #[v] S [] (fun S' L' r => L' = [] ∧ r = encV l) := by
  obtain ⟨A, c, cs, rfl, hA, hok, hl, rfl⟩ := h
  exact Encode_con cs A c S hG hA hok (by omega)
def Le' (s : Bs) (q : Option Nat) : Prop := ∀ e, q = some e → e ≤ s.length
theorem get1_le {s : Bs} {q : Option Nat} (h : Le' s q) : Le' s (get1 s q).2 := by
  have he : EndIs s q (match q with | none => 0 | some e => (e : Int)) := fun e hq => by subst hq; exact ⟨rfl, h e rfl⟩
  obtain ⟨e', h'⟩ := get1_end he
  exact fun e hq => (h' e hq).2
theorem rdRow_le {s : Bs} : ∀ (n : Nat) (q : Option Nat) (last : Int) (l : List Int), Le' s q → Le' s (rdRow s n q last l).2
  | 0, q, _, _, h => h
  | n + 1, none, _, _, _ => fun e he => by cases he
  | n + 1, some x, last, l, h => by
    rw [rdRow]
    split
    · exact rdRow_le n _ _ _ (get1_le (get1_le h))
    · exact fun e he => by cases he
theorem rowR_le {s : Bs} {q : Option Nat} (h : Le' s q) : Le' s (rowR s q).2 := rdRow_le _ _ _ _ (get1_le h)
theorem qn_le {s : Bs} {q : Option Nat} (h : Le' s q) : ∀ k, Le' s (qn s k q)
  | 0 => h
  | k + 1 => get1_le (qn_le h k)
theorem cellD_le {s : Bs} {q : Option Nat} (h : Le' s q) : Le' s (cellD s q).2 := rowR_le (rowR_le (qn_le h 8))
theorem decC_le {s : Bs} : ∀ (n : Nat) (q : Option Nat) (l : List PC), Le' s q → Le' s (decC s n q l).2
  | 0, _, _, h => h
  | n + 1, none, _, _ => fun e he => by cases he
  | n + 1, some x, l, h => by rw [decC]; exact decC_le n _ _ (cellD_le h)
theorem txt_pos (l : List PC) : 0 < (txt (skI l)).length := by
  rw [skI, txt_cons, List.length_append]
  have : 0 < (ibs (l.length : Int)).length := enc_pos _
  omega
/-- What Decode can answer. -/
theorem decR_cases (s : Bs) (p : Nat) (hp : p ≤ s.length) : decR s p = ([], 0, 170) ∨ ∃ (l : List PC) (e : Nat), decR s p = (l, (e : Int), 0) ∧ ValidP l ∧ txt (skI l) = (s.take e).drop p ∧ p + (txt (skI l)).length = e ∧ e ≤ s.length := by
  have hle := get1_le (s := s) (q := some p) (fun e he => by injection he with he; omega)
  have hge : Ge (get1 s (some p)).2 p := get1_ge (fun e he => by injection he with he; omega)
  unfold decR
  split
  · have h1 := decC_le (s := s) (get1 s (some p)).1.toNat (get1 s (some p)).2 [] hle
    have h2 := decC_ge (s := s) (get1 s (some p)).1.toNat (get1 s (some p)).2 [] p hge
    generalize decC s (get1 s (some p)).1.toNat (get1 s (some p)).2 [] = d at *
    obtain ⟨l, q⟩ := d
    cases q with
    | none => exact .inl rfl
    | some e =>
      simp only at h1 h2 ⊢
      split
      · rename_i hc
        have hle := h1 e rfl
        have hge := h2 e rfl
        have hlen := congrArg List.length hc.2
        rw [List.length_drop, List.length_take] at hlen
        exact .inr ⟨l, e, rfl, hc.1, hc.2, by omega, hle⟩
      · exact .inl rfl
  · exact .inl rfl
theorem enc_inj {a b : List PC} (ha : ValidP a) (hb : ValidP b) : txt (skI a) = txt (skI b) ↔ a = b := by
  constructor
  · intro h
    have h1 := decR_spec (s := txt (skI a)) (p := 0) (t := []) ha (by simp)
    have h2 := decR_spec (s := txt (skI a)) (p := 0) (t := []) hb (by rw [h]; simp)
    rw [h1] at h2
    exact (Prod.mk.inj h2).1
  · rintro rfl; rfl
set_option maxHeartbeats 3200000 in
theorem f9_law (xs : List K4) (A : Option Addr) (ca : Nat) (ys : List K4) (B : Option Addr) (cb : Nat) (bef aft : ByteArray) (at_ by_ : Int) (S : SH) (hG : Gl S) (hA : At S A xs) (lx : xs.length ≤ ca) (hx : ∀ x ∈ xs, K4ok x) (hB : At S B ys) (ly : ys.length ≤ cb) (hy : ∀ x ∈ ys, K4ok x) (hbef : bef.size ≤ maxLen) (haft : aft.size ≤ maxLen) (hat : i64 at_) (hby : (Lit.int .u8 by_).wf = true) :
    Con Tryd.prog 9 #[.slice A xs.length ca, .slice B ys.length cb, .string bef, .string aft, .int .i64 at_, .int .u8 by_] S [] (fun _ _ v => v = .bool true) := by
  rw [str_eta bef, str_eta aft]
  have hl1 : bef.data.toList.length ≤ 9223372036854775807 := by rw [Array.length_toList]; exact hbef
  have hl2 : aft.data.toList.length ≤ 9223372036854775807 := by rw [Array.length_toList]; exact haft
  generalize bef.data.toList = s1 at *
  generalize aft.data.toList = s2 at *
  obtain ⟨cby, rfl⟩ : ∃ c : UInt8, by_ = (c.toNat : Int) := by
    simp [Lit.wf, IntKind.min, IntKind.max, IntKind.bits, IntKind.signed] at hby
    refine ⟨UInt8.ofNat by_.toNat, ?_⟩
    rw [u8_nat (by omega)]; omega
  refine con_of (args := [.slice A xs.length ca, .slice B ys.length cb, strV s1, strV s2, .int .i64 at_, .int .u8 (cby.toNat : Int)]) Tryd.func9 rfl Tryd.ntmps9 rfl fun w => ?_
  (repeat (first | refine Jc ?_ | ((apply z_call; rfl; rfl; rfl; exact sane_con S hG; rintro S1 _ _ hle1 ⟨rfl, rfl⟩)) | refine Jo ?_ | intro _))
  (repeat (first | refine Jc ?_ | ((apply z_call; rfl; rfl; rfl; exact MadeFacts_con xs A ca S1 (hA.le hle1) hx; rintro S2 _ _ hle2 ⟨rfl, Al, cl, l, rfl, hAl, hcl, hll, hlf⟩)) | refine Jo ?_ | intro _))
  have gl : Good l := .of hlf (by omega)
  (repeat (first | refine Jc ?_ | ((apply z_call; rfl; rfl; rfl; exact MakeF gl Al cl S2 (hG.le (hle1.trans hle2)) hAl; rintro S3 _ _ hle3 ⟨rfl, Aa, na, ka, a, rfl, hsa, hia, hG3⟩)) | refine Jo ?_ | intro _))
  (repeat (first | refine Jc ?_ | ((apply z_call; rfl; rfl; rfl; exact MadeFacts_con ys B cb S3 (hB.le ((hle1.trans hle2).trans hle3)) hy; rintro S4 _ _ hle4 ⟨rfl, Am, cm, m, rfl, hAm, hcm, hlm, hmf⟩)) | refine Jo ?_ | intro _))
  have gm : Good m := .of hmf (by omega)
  (repeat (first | refine Jc ?_ | ((apply z_call; rfl; rfl; rfl; exact MakeF gm Am cm S4 (hG3.le hle4) hAm; rintro S5 _ _ hle5 ⟨rfl, Ab, nb, kb, b, rfl, hsb, hib, hG5⟩)) | refine Jo ?_ | intro _))
  have hsa5 := (hsa.le hle4).le hle5
  have hva : ValidP a := hia.valid gl.each gl.len
  have hvb : ValidP b := hib.valid gm.each gm.len
  have en1 := EncodeS_con S5 hG5 hsa5
  rw [encV_t hva] at en1
  (repeat (first | refine Jc ?_ | ((apply z_call; rfl; rfl; rfl; exact en1; rintro S6 _ _ hle6 ⟨rfl, rfl⟩)) | refine Jo ?_ | intro _))
  have hG6 := hG5.le hle6
  have hsb6 := hsb.le hle6
  have hsa6 := hsa5.le hle6
  have en2 := EncodeS_con S6 hG6 hsb6
  rw [encV_t hvb] at en2
  have hta := txt_len (skI_ok hva)
  have htb := txt_len (skI_ok hvb)
  have hla : (skI a).length ≤ 80000 := by
    have h1 := cells_len hva.each
    have h2 := hva.len
    rw [skI, List.length_cons]; omega
  have hpos := txt_pos a
  have hinj := enc_inj hva hvb
  generalize hta_ : txt (skI a) = ta at *
  generalize htb_ : txt (skI b) = tb at *
  (repeat (first | refine Jc ?_ | ((apply z_call; rfl; rfl; rfl; exact en2; rintro S7 _ _ hle7 ⟨rfl, rfl⟩)) | (apply s_evb; (case hg => rfl); (case hd => rfl); (case hn => rfl); (case he => (apply ev_len_b; rfl))) | (apply s_minn; (case hg => rfl); (case hd => rfl); (case hx => rfl); (case hy => rfl)) | (apply s_evb; (case hg => rfl); (case hd => rfl); (case hn => rfl); (case he => ((apply ev_slice_bh; (case hx => rfl); (case hz => rfl); (case hj => omega))))) | refine Jo ?_ | intro _))
  obtain ⟨p1, hp1, hp1l⟩ : ∃ p1, p1 = s1.take (min s1.length 50) ∧ p1.length ≤ 50 := ⟨_, rfl, by rw [List.length_take]; omega⟩
  obtain ⟨p2, hp2, hp2l⟩ : ∃ p2, p2 = s2.take (min s2.length 50) ∧ p2.length ≤ 50 := ⟨_, rfl, by rw [List.length_take]; omega⟩
  rw [← hp1, ← hp2]
  clear hp1 hp2 hl1 hl2
  have hG7 := hG6.le hle7
  have hsa7 := hsa6.le hle7
  have hsb7 := hsb6.le hle7
  have hd1 := Decode_con (p1 ++ ta ++ p2) p1.length S7 hG7 (by simp only [List.length_append]; omega)
  have ed : decA (p1 ++ ta ++ p2) p1.length = (a, ((p1.length + ta.length : Nat) : Int), 0) := by
    rw [decA, if_neg (by simp only [List.length_append]; omega), Int.toNat_natCast, ← hta_]
    exact decR_spec hva (t := p2) (by rw [List.append_assoc, List.drop_left])
  rw [ed] at hd1
  simp only at hd1
  (repeat (first | refine Jc ?_ | (apply s_evb; (case hg => rfl); (case hd => rfl); (case hn => rfl); (case he => (apply ev_len_b; rfl))) | (apply s_evb; (case hg => rfl); (case hd => rfl); (case hn => rfl); (case he => ((apply ev_add_bs; (case hx => rfl); (case hy => rfl); (case h => first | omega | (simp only [List.length_append]; omega)))))) | ((apply z_call; rfl; rfl; rfl; exact hd1; rintro S8 _ _ hle8 ⟨rfl, vc, rfl, hsc⟩)) | refine Jo ?_ | intro _))
  obtain ⟨Bc, nc, kc, rfl⟩ := hsc.form
  have hsa8 := hsa7.le hle8
  have hsb8 := hsb7.le hle8
  have hG8 := hG7.le hle8
  have w1 := Same_con S8 hsa8 hsc
  rw [bP_t rfl] at w1
  have w2 := Same_con S8 hsa8 hsb8
  have hcond : ∃ r : Bool, (ta == tb) = r ∧ bP (a = b) = r := by
    by_cases hab : a = b
    · exact ⟨true, by rw [hinj.2 hab]; simp, bP_t hab⟩
    · exact ⟨false, by simpa using fun h => hab (hinj.1 h), bP_f hab⟩
  obtain ⟨r, hr1, hr2⟩ := hcond
  rw [hr2] at w2
  have hpk := pickI_bd at_ (ta.length : Int) (by omega)
  have pk := lpick_con at_ (ta.length : Int) S8 hat (by omega)
  obtain ⟨i0, hi0⟩ : ∃ i0 : Nat, pickI at_ (ta.length : Int) = i0 := ⟨(pickI at_ (ta.length : Int)).toNat, by omega⟩
  rw [hi0] at hpk pk
  have hi0l : i0 < ta.length := by omega
  (repeat (first | refine Jc ?_ | (apply s_evb; (case hg => rfl); (case hd => rfl); (case hn => rfl); (case he => (apply ev_len_b; rfl))) | ((apply z_call; rfl; rfl; rfl; exact w1; rintro _ _ _ - ⟨rfl, rfl, rfl⟩)) | ((apply z_call; rfl; rfl; rfl; exact w2; rintro _ _ _ - ⟨rfl, rfl, rfl⟩)) | (apply s_evb; (case hg => rfl); (case hd => rfl); (case hn => rfl); (case he => ((apply ev_eql_bs'; (case hx => rfl); (case hy => rfl); (case h => exact hr1))))) | refine Jo ?_ | intro _))
  cases r
  all_goals (repeat (first | refine Jc ?_ | (apply s_evb; (case hg => rfl); (case hd => rfl); (case hn => rfl); (case he => (apply ev_len_b; rfl))) | (apply s_bytes; (case hg => rfl); (case hd => rfl); (case hx => rfl); (case hl => omega); intro bz tl cap N hc1 hc2 hc3 hN) | refine Jo ?_ | intro _))
  all_goals
    have hset := bytes_tset ta tl i0 cby hi0l
    have hat_ := bytes_tat ta tl i0 hi0l
    (repeat (first | refine Jc ?_ | ((apply z_call; rfl; rfl; rfl; exact pk; rintro _ _ _ - ⟨rfl, rfl, rfl⟩)) | (apply s_idxo1 (j := i0); (case hg => rfl); (case hd => rfl); (case hx => rfl); (case hi => rfl); (case hk => exact hi0l)) | (apply s_store_mk; (case hg => rfl); (case hx => rfl); (case hy => rfl); (case h1 => rfl); (case hL => (repeat (first | exact Upd.head | apply Upd.tail | apply Upd.app))); (case hu => exact hat_); (case hN => omega)) | refine Jo ?_ | intro _))
    rw [hset]
    obtain ⟨Z, hZ⟩ : ∃ Z, Z = ta.set i0 cby := ⟨_, rfl⟩
    have hZl : Z.length = ta.length := by rw [hZ, List.length_set]
    rw [← hZ, ← hZl]
    have hd2 := Decode_con Z 0 S8 hG8 (by omega)
    rw [decA, if_neg (by omega)] at hd2
    have hcs := decR_cases Z 0 (by omega)
    rw [show (0 : Int).toNat = 0 from rfl] at hd2
    rcases hcs with hz | ⟨d, e, hz, hvd, htx, hel, hele⟩
    · rw [hz] at hd2
      simp only at hd2
      (repeat (first | refine Jc ?_ | (apply s_evb; (case hg => rfl); (case hd => rfl); (case hn => rfl); (case he => (apply ev_str_row; (case hx => rfl); (case hm => (repeat (first | exact List.Mem.head _ | apply List.Mem.tail | apply List.mem_append_right))); (case hk => omega)))) | refine Jo ?_ | intro _))
      rw [List.drop_zero, List.take_length]
      (repeat (first | refine Jc ?_ | ((apply z_call; rfl; rfl; rfl; exact hd2; rintro S9 _ _ hle9 ⟨rfl, vd, rfl, hsd⟩)) | refine Jo ?_ | intro _))
      obtain ⟨Ad, kd, rfl⟩ := hsd.none
      (repeat (first | refine Jz ?_ | intro _))
      exact o_ret (L' := []) Tryd.results9 rfl (List.nil_sublist _) rfl
    · rw [hz] at hd2
      simp only at hd2
      (repeat (first | refine Jc ?_ | (apply s_evb; (case hg => rfl); (case hd => rfl); (case hn => rfl); (case he => (apply ev_str_row; (case hx => rfl); (case hm => (repeat (first | exact List.Mem.head _ | apply List.Mem.tail | apply List.mem_append_right))); (case hk => omega)))) | refine Jo ?_ | intro _))
      rw [List.drop_zero, List.take_length]
      (repeat (first | refine Jc ?_ | ((apply z_call; rfl; rfl; rfl; exact hd2; rintro S9 _ _ hle9 ⟨rfl, vd, rfl, hsd⟩)) | refine Jo ?_ | intro _))
      obtain ⟨Bd, nd, kd, rfl⟩ := hsd.form
      have en3 := EncodeS_con S9 (hG8.le hle9) hsd
      rw [encV_t hvd] at en3
      have hdp := txt_pos d
      (repeat (first | refine Jc ?_ | (apply s_evb; (case hg => rfl); (case hd => rfl); (case hn => rfl); (case he => (apply ev_len_b; rfl))) | ((apply z_call; rfl; rfl; rfl; exact en3; rintro S10 _ _ hle10 ⟨rfl, rfl⟩)) | (apply s_evb; (case hg => rfl); (case hd => rfl); (case hn => rfl); (case he => ((apply ev_slice_hi0 (j := e); (case hx => rfl); (case hy => rfl); (case hj => omega))))) | (apply s_evb; (case hg => rfl); (case hd => rfl); (case hn => rfl); (case he => (apply ev_str_row; (case hx => rfl); (case hm => (repeat (first | exact List.Mem.head _ | apply List.Mem.tail | apply List.mem_append_right))); (case hk => omega)))) | (apply s_evb; (case hg => rfl); (case hd => rfl); (case hn => rfl); (case he => ((apply ev_eql_bs' (r := true); (case hx => rfl); (case hy => rfl); (case h => (rw [htx]; simp)))))) | refine Jo ?_ | intro _))
      exact o_ret (L' := []) Tryd.results9 rfl (List.nil_sublist _) rfl
end Go.Proofs.YtogfficbloejcaaDoor
namespace Go.Proofs.YtogfficbloejcaaDoor
open Go Go.X
open Go.ChangeShapes Go.WideShapes Go.ChangeAt Go.RowKit
theorem own : ownKnob Tryd.prog.godebug = none := by kernel_rfl
theorem laidOut : laidOutB Tryd.prog = true := by kernel_rfl
theorem gTab : Tryd.prog.globalNamed "latecomer/sketch.limits" = some 0 := by kernel_rfl
theorem gTabType : (Tryd.prog.globals[0]?).map (·.type) = some 80 := by kernel_rfl
theorem cells80 : Tryd.prog.cellsOf 80 = 4 := by kernel_rfl
theorem cells3 : Tryd.prog.cellsOf 3 = 1 := by kernel_rfl
theorem gl_laid {W : World} (h : laidMetH Tryd.prog Rows.sketchMergesRow.laid W) : Gl (allOf W) := by
  have ht : Lib.TabIs Tryd.prog W "latecomer/sketch.limits" .i64 limsL := Lib.tabIs_of_head (rest := []) gTab gTabType Tryd.underlying80 Tryd.underlying3 cells3 cells80 h
  have c0 : W.cell? ⟨0, 0, none⟩ = some (.int .i64 7) := ht.cell gTab 0 (by decide)
  have c1 : W.cell? ⟨0, 1, none⟩ = some (.int .i64 9) := ht.cell gTab 1 (by decide)
  have c2 : W.cell? ⟨0, 2, none⟩ = some (.int .i64 11) := ht.cell gTab 2 (by decide)
  have c3 : W.cell? ⟨0, 3, none⟩ = some (.int .i64 99) := ht.cell gTab 3 (by decide)
  intro j u hj
  match j, hj with
  | 0, hj => simp [limsL] at hj; subst hj; exact cell_all c0
  | 1, hj => simp [limsL] at hj; subst hj; exact cell_all c1
  | 2, hj => simp [limsL] at hj; subst hj; exact cell_all c2
  | 3, hj => simp [limsL] at hj; subst hj; exact cell_all c3
  | j + 4, hj => simp [limsL] at hj
noncomputable def laidWorld (os : Os) : World :=
  { World.holding Tryd.prog os ⟨#[], #[], []⟩ with heap := (World.holding Tryd.prog os ⟨#[], #[], []⟩).heap.modify 0 fun
      | .cells _ t frozen => .cells #[.int .i64 7, .int .i64 9, .int .i64 11, .int .i64 99] t frozen
      | o => o }
theorem rdb_K4 : Rdb (α := K4) Tryd.prog 68 (fun _ x => K4ok x) := fun H enc w fuel cs x h => by
  have hl : cs.length = 4 := len_a (by kernel_rfl) Tryd.underlying68 h
  match cs, hl with
  | [c0, c1, c2, c3], _ =>
  obtain ⟨a0, e0, o0⟩ := (rdb_int Tryd.underlying3).at_ (part_a 0 h (by decide))
  obtain ⟨a1, e1, o1⟩ := (rdb_int Tryd.underlying3).at_ (part_a 1 h (by decide))
  obtain ⟨a2, e2, o2⟩ := (rdb_int Tryd.underlying3).at_ (part_a 2 h (by decide))
  obtain ⟨a3, e3, o3⟩ := (rdb_int Tryd.underlying3).at_ (part_a 3 h (by decide))
  simp [Cl.cells] at e0 e1 e2 e3
  subst e0 e1 e2 e3
  exact ⟨⟨a0, a1, a2, a3⟩, rfl, o0, o1, o2, o3⟩
end Go.Proofs.YtogfficbloejcaaDoor
namespace Go.Proofs.YtogfficbloejcaaDoor
open Go Go.X
open Go.ChangeShapes Go.WideShapes Go.ChangeAt Go.RowKit
set_option linter.unusedVariables false
set_option maxHeartbeats 1600000 in
set_option maxRecDepth 100000 in
theorem contract9 (H : Type) (enc : TypeId × Value → H) (W : World) (base : Nat) (args : Array Value) (ds gs : List (DataW H)) (before : List MemPlace)
    (hval0 : ∀ (j : Nat) t v, Tryd.f9.params[j]? = some t → args[j]? = some v → Value.okWide Tryd.prog W .any base t v)
    (hW : DataW.Whole enc Tryd.prog Tryd.f9.params.toList Rows.sketchRoundTripSpec.vars false W args.toList ds gs before) (hL : laidMetH Tryd.prog Rows.sketchRoundTripRow.laid W) :
    Calls Tryd.prog 9 args W fun e W' => ∃ v, e = .returned v ∧ Rows.sketchRoundTripSpec.post enc Tryd.prog Tryd.f9 false true false false W args v W' := by
  have hval : ∀ (j : Nat) t v, Tryd.f9.params[j]? = some t → args[j]? = some v → Value.okWide Tryd.prog W .any base t v := hval0
  have hW' := hW
  obtain ⟨p, q, hA0, hV, rfl, hfz, hnd⟩ := hW
  have hA : DataW.TrodAll enc Tryd.prog W 0 (fun _ => true) true Tryd.f9.params.toList args.toList ds p := hA0
  rw [Tryd.params9] at hA hval
  obtain ⟨v0, vs0, d0, ds0, p0, q0, hargs, rfl, rfl, h0, r0⟩ := trodAll_cons hA
  obtain ⟨v1, vs1, d1, ds1, p1, q1, rfl, rfl, rfl, h1, r1⟩ := trodAll_cons r0
  obtain ⟨v2, vs2, d2, ds2, p2, q2, rfl, rfl, rfl, h2, r2⟩ := trodAll_cons r1
  obtain ⟨v3, vs3, d3, ds3, p3, q3, rfl, rfl, rfl, h3, r3⟩ := trodAll_cons r2
  obtain ⟨v4, vs4, d4, ds4, p4, q4, rfl, rfl, rfl, h4, r4⟩ := trodAll_cons r3
  obtain ⟨v5, vs5, d5, ds5, p5, q5, rfl, rfl, rfl, h5, r5⟩ := trodAll_cons r4
  obtain ⟨rfl, rfl, rfl⟩ := trodAll_nil r5
  obtain rfl : args = #[v0, v1, v2, v3, v4, v5] := by cases args; simp_all
  obtain ⟨rfl, rfl⟩ := trodVars_none hV
  have k0 := h0
  have lt0 : ∀ x ∈ p0, x.block < W.heap.size := by obtain ⟨m, hm⟩ := k0; exact DataW.trod_lt m _ _ _ hm
  have k1 := h1
  have lt1 : ∀ x ∈ p1, x.block < W.heap.size := by obtain ⟨m, hm⟩ := k1; exact DataW.trod_lt m _ _ _ hm
  have k2 := h2
  have lt2 : ∀ x ∈ p2, x.block < W.heap.size := by obtain ⟨m, hm⟩ := k2; exact DataW.trod_lt m _ _ _ hm
  have k3 := h3
  have lt3 : ∀ x ∈ p3, x.block < W.heap.size := by obtain ⟨m, hm⟩ := k3; exact DataW.trod_lt m _ _ _ hm
  have k4 := h4
  have lt4 : ∀ x ∈ p4, x.block < W.heap.size := by obtain ⟨m, hm⟩ := k4; exact DataW.trod_lt m _ _ _ hm
  have k5 := h5
  have lt5 : ∀ x ∈ p5, x.block < W.heap.size := by obtain ⟨m, hm⟩ := k5; exact DataW.trod_lt m _ _ _ hm
  obtain ⟨a0, len0, cap0, rfl⟩ := okWide_slice Tryd.underlying25 (hval 0 25 v0 rfl rfl)
  obtain ⟨xs0, rfl, gl0, gA0, gx0⟩ := open_sl (α := K4) Tryd.underlying25 (by kernel_rfl) rdb_K4 rfl h0
  obtain ⟨a1, len1, cap1, rfl⟩ := okWide_slice Tryd.underlying25 (hval 1 25 v1 rfl rfl)
  obtain ⟨xs1, rfl, gl1, gA1, gx1⟩ := open_sl (α := K4) Tryd.underlying25 (by kernel_rfl) rdb_K4 rfl h1
  obtain ⟨a2, rfl, e1_2, e2_2, w2⟩ := Go.ChangeMaps.open_string Tryd.underlying9 (hval 2 9 v2 rfl rfl) h2
  obtain ⟨a3, rfl, e1_3, e2_3, w3⟩ := Go.ChangeMaps.open_string Tryd.underlying9 (hval 3 9 v3 rfl rfl) h3
  obtain ⟨a4, rfl, e1_4, e2_4, w4⟩ := open_int Tryd.underlying3 (hval 4 3 v4 rfl rfl) h4
  obtain ⟨a5, rfl, e1_5, e2_5, w5⟩ := open_int Tryd.underlying5 (hval 5 5 v5 rfl rfl) h5
  refine (calls_of_con (f9_law xs0 a0 cap0 xs1 a1 cap1 a2 a3 a4 a5 (allOf W) (gl_laid hL) gA0 gl0 gx0 gA1 gl1 gx1 w2 w3 (i64_wf w4) w5) fun _ _ _ h => h).mono fun e W' ⟨he, bel⟩ => ?_
  subst he
  exact ⟨_, rfl, _, _, _, [], _, [], hW', trodAll_mk1 (shut_bool Tryd.underlying4 _), (trodAll_cons_mk (Below.trod laidOut (by kernel_rfl) (of_decide_eq_true (by kernel_rfl)) k0 bel lt0) (trodAll_cons_mk (Below.trod laidOut (by kernel_rfl) (of_decide_eq_true (by kernel_rfl)) k1 bel lt1) (trodAll_cons_mk (Below.trod laidOut (by kernel_rfl) (of_decide_eq_true (by kernel_rfl)) k2 bel lt2) (trodAll_cons_mk (Below.trod laidOut (by kernel_rfl) (of_decide_eq_true (by kernel_rfl)) k3 bel lt3) (trodAll_cons_mk (Below.trod laidOut (by kernel_rfl) (of_decide_eq_true (by kernel_rfl)) k4 bel lt4) (trodAll_cons_mk (Below.trod laidOut (by kernel_rfl) (of_decide_eq_true (by kernel_rfl)) k5 bel lt5) trodAll_mk0)))))), rfl, bel.frame _, fun h => by cases h⟩
theorem laid_met9 (os : Os) : laidMet Tryd.prog Rows.sketchRoundTripRow.laid ((laidWorld os).forCall (fun _ _ => 0) ⟨#[], #[.slice none 0 0, .slice none 0 0, .string ByteArray.empty, .string ByteArray.empty, .int .i64 0, .int .u8 0], []⟩).memory :=
  laidMet_of_run' 8 (by kernel_rfl) (by kernel_rfl)
theorem reads9 (os : Os) {H : Type} (enc : TypeId × Value → H) : ∃ places, DataW.whole enc Tryd.prog ((laidWorld os).forCall (fun _ _ => 0) ⟨#[], #[.slice none 0 0, .slice none 0 0, .string ByteArray.empty, .string ByteArray.empty, .int .i64 0, .int .u8 0], []⟩).memory Tryd.f9.params.toList Rows.sketchRoundTripSpec.vars false (#[.slice none 0 0, .slice none 0 0, .string ByteArray.empty, .string ByteArray.empty, .int .i64 0, .int .u8 0] : Array Value).toList 8 = some ([.nil, .nil, .lit (.string []), .lit (.string []), .lit (.int .i64 0), .lit (.int .u8 0)], [], places) :=
  ⟨[], by kernel_rfl⟩
set_option maxRecDepth 100000 in
theorem lifted9 (os : Os) (started : os.Started) (H : Type) (enc : TypeId × Value → H) (F : Stop.Interp) :
    ReturnsInHanded {} Tryd.checked os 9 .any ((OpenSpec.ofChange Rows.sketchRoundTripSpec).preRow enc Tryd.prog Tryd.f9 Rows.sketchRoundTripRow.domain false Rows.sketchRoundTripRow.laid) (((OpenSpec.ofChange Rows.sketchRoundTripSpec).at F).post enc Tryd.prog Tryd.f9 false true false false) := by
  obtain ⟨places, hx⟩ := reads9 os enc
  refine returnsInHanded_of_row (C := Tryd.checked) (s := OpenSpec.ofChange Rows.sketchRoundTripSpec) own started (by kernel_rfl) Tryd.func9
    (witness_row_at (enc := enc) (C := Tryd.checked) false (laidWorld os) #[.slice none 0 0, .slice none 0 0, .string ByteArray.empty, .string ByteArray.empty, .int .i64 0, .int .u8 0] rfl (by kernel_rfl) (by kernel_rfl) (by kernel_rfl)
      (OpenSpec.preRow_of_cond 8 hx (by kernel_rfl) (fun k hk => by cases hk) (by kernel_rfl) (laid_met9 os))) ?_
  intro W base args ds gs before hval hW _ _ _ hL _ _
  exact contract9 H enc W base args ds gs before hval hW hL
theorem said9 : Rows.SketchRoundTripSaid :=
  OpenClaim.holds_of_cond 9 Tryd.f9 rfl rfl rfl rfl rfl rfl rfl ⟨rfl, rfl, rfl, rfl, rfl⟩ rfl rfl rfl rfl rfl (by kernel_rfl) Tryd.func9 (by kernel_rfl)
    (of_decide_eq_true (by kernel_rfl)) (by unfold Func.isWrapper; rw [if_neg (of_decide_eq_false (by kernel_rfl))]; exact ⟨rfl, rfl⟩)
    (fun os started H enc _ F => by rw [OpenClaim.pre_eq_preRow]; exact lifted9 os started H enc F)
theorem plain9 (f : FuncId) (fn : Func) (hf : Tryd.pinned.checked.prog.funcNamed "latecomer/latecomerlaw17.SketchRoundTrip" = some f) (hfn : Tryd.pinned.checked.prog.funcs[f]? = some fn) :
    false = Tryd.pinned.checked.prog.looks [] ∧ ∀ (j : Nat) t, fn.params[j]? = some t → Tryd.pinned.checked.prog.wantsStandIn t = false := by
  obtain rfl : f = 9 := Option.some.inj ((show Tryd.prog.funcNamed "latecomer/latecomerlaw17.SketchRoundTrip" = some 9 by kernel_rfl).symm.trans hf) |>.symm
  obtain rfl : fn = Tryd.f9 := (Option.some.inj (Tryd.func9.symm.trans hfn)).symm
  refine ⟨by kernel_rfl, fun j t ht => ?_⟩
  rw [Tryd.params9] at ht
  have hm := Array.mem_of_getElem? ht
  simp only [List.mem_toArray, List.mem_cons, List.not_mem_nil, or_false] at hm
  rcases hm with rfl | rfl | rfl | rfl | rfl | rfl
  · exact (show Tryd.prog.wantsStandIn 25 = false by kernel_rfl)
  · exact (show Tryd.prog.wantsStandIn 25 = false by kernel_rfl)
  · exact (show Tryd.prog.wantsStandIn 9 = false by kernel_rfl)
  · exact (show Tryd.prog.wantsStandIn 9 = false by kernel_rfl)
  · exact (show Tryd.prog.wantsStandIn 3 = false by kernel_rfl)
  · exact (show Tryd.prog.wantsStandIn 5 = false by kernel_rfl)
theorem sketchRoundTrip_holds : Rows.SketchRoundTripCardSaid :=
  Claim7.holds_tied_plain_at .later [] _ _ _ _ said9 (fun _ h => by cases h) (by kernel_rfl) (fun _ h => by cases h) sketchRoundTrip_row_tie rfl ⟨rfl, rfl⟩ (by kernel_rfl) rfl plain9 (by kernel_rfl)
#print axioms sketchRoundTrip_holds
end Go.Proofs.YtogfficbloejcaaDoor
