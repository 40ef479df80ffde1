/- Contracts of functions of this program, each proved by a walk through its code, and plain lemmas on what they compute; on no condition beyond those that each theorem states. -/
import Derived.Test.YtogfficbloejcaaDoorBb
import Derived.Test.YtogfficbloejcaaDoorXB
import Derived.Lib.ItoaNum
import Derived.Test.YtogfficbloejcaaDoorBa
namespace Go.Proofs.YtogfficbloejcaaDoor
open Go Go.X
set_option maxRecDepth 10000
set_option linter.unusedVariables false
attribute [local irreducible] Code.wpIn wpListIn Exit.then Exit.inBlock X.Out X.Back X.W X.Ev X.Con X.BinV X.Wh X.Wn X.Wq
def i64 (n : Int) : Prop := -9223372036854775808 ≤ n ∧ n ≤ 9223372036854775807
/-- Four ints. -/
structure K4 where
  a : Int
  b : Int
  c : Int
  d : Int
instance : Inhabited K4 := ⟨⟨0, 0, 0, 0⟩⟩
instance : Cl K4 := ⟨4, fun k => [.int .i64 k.a, .int .i64 k.b, .int .i64 k.c, .int .i64 k.d], fun _ => rfl, fun _ u hu => by
  simp only [List.mem_cons, List.not_mem_nil, or_false] at hu
  rcases hu with rfl | rfl | rfl | rfl <;> rfl⟩
def K4ok (k : K4) : Prop := i64 k.a ∧ i64 k.b ∧ i64 k.c ∧ i64 k.d
def pickI (c n : Int) : Int := (if c < 0 then -(c + 1) else c) % n
theorem pickI_bd (c n : Int) (hn : 0 < n) : 0 ≤ pickI c n ∧ pickI c n ≤ n - 1 := by
  have h1 := Int.emod_nonneg (if c < 0 then -(c + 1) else c) (show n ≠ 0 by omega)
  have h2 := Int.emod_lt_of_pos (if c < 0 then -(c + 1) else c) hn
  unfold pickI
  omega
theorem fpick_con (c n : Int) (S : SH) (hc : i64 c) (hn : 0 < n) : Con Tryd.prog 39 #[.int .i64 c, .int .i64 n] S [] (Pure S (.int .i64 (pickI c n))) := by
  unfold i64 at hc
  refine con_of (args := [.int .i64 c, .int .i64 n]) Tryd.func39 rfl Tryd.ntmps39 rfl fun w => ?_
  unfold pickI
  by_cases h : c < 0
  · rw [if_pos h]
    (repeat (first | refine Jz ?_ | intro _))
    exact o_ret Tryd.results39 rfl (List.Sublist.refl _) (pure_mk _ _)
  · rw [if_neg h]
    (repeat (first | refine Jz ?_ | intro _))
    exact o_ret Tryd.results39 rfl (List.Sublist.refl _) (pure_mk _ _)
theorem lpick_con (c n : Int) (S : SH) (hc : i64 c) (hn : 0 < n) : Con Tryd.prog 33 #[.int .i64 c, .int .i64 n] S [] (Pure S (.int .i64 (pickI c n))) := by
  unfold i64 at hc
  refine con_of (args := [.int .i64 c, .int .i64 n]) Tryd.func33 rfl Tryd.ntmps33 rfl fun w => ?_
  unfold pickI
  by_cases h : c < 0
  · rw [if_pos h]
    (repeat (first | refine Jz ?_ | intro _))
    exact o_ret Tryd.results33 rfl (List.Sublist.refl _) (pure_mk _ _)
  · rw [if_neg h]
    (repeat (first | refine Jz ?_ | intro _))
    exact o_ret Tryd.results33 rfl (List.Sublist.refl _) (pure_mk _ _)
theorem tdiv_in {i : Int} (h : i64 i) (j : Int) (hj : 0 < j) : i64 (i.tdiv j) := by
  unfold i64 at *
  rcases Int.le_total 0 i with h0 | h0
  · rw [Int.tdiv_eq_ediv_of_nonneg h0]
    have h2 : 0 ≤ i / j := Int.ediv_nonneg h0 (by omega)
    have h3 : i / j ≤ i := Int.ediv_le_self _ h0
    omega
  · have h1 : i.tdiv j = -((-i) / j) := by rw [← Int.tdiv_eq_ediv_of_nonneg (by omega), Int.neg_tdiv, Int.neg_neg]
    have h2 : 0 ≤ (-i) / j := Int.ediv_nonneg (by omega) (by omega)
    have h3 : (-i) / j ≤ -i := Int.ediv_le_self _ (by omega)
    omega
/-- Some number from 0 to n - 1. -/
theorem anyPick {c : Int} (hc : i64 c) (n : Int) (hn : 0 < n) : ∃ v, 0 ≤ v ∧ v ≤ n - 1 ∧ ∀ S, Con Tryd.prog 39 #[.int .i64 c, .int .i64 n] S [] (Pure S (.int .i64 v)) := ⟨pickI c n, (pickI_bd c n hn).1, (pickI_bd c n hn).2, fun S => fpick_con c n S hc hn⟩
set_option maxHeartbeats 3200000 in
theorem MadeFacts_con (xs : List K4) (A : Option Addr) (c : Nat) (S : SH) (hA : At S A xs) (hx : ∀ x ∈ xs, K4ok x) :
    Con Tryd.prog 15 #[.slice A xs.length c] S [] (fun S' L' r => L' = [] ∧ ∃ A' c' l, r = .slice A' l.length c' ∧ At S' A' l ∧ l.length ≤ c' ∧ l.length ≤ 40 ∧ ∀ x ∈ l, FactP x) := by
  refine con_of (args := [.slice A xs.length c]) Tryd.func15 rfl Tryd.ntmps15 rfl fun w => ?_
  (repeat (first | refine Jz ?_ | intro _))
  refine c_loop (fun m S2 L F => Le S S2 ∧ L = [] ∧ ∃ (i : Nat) (A2 : Option Addr) (c2 : Nat) (l : List Fa), m = xs.length - i ∧ i ≤ xs.length ∧ i ≤ 40 ∧ At S2 A2 l ∧ l.length ≤ c2 ∧ l.length ≤ i ∧ (∀ x ∈ l, FactP x) ∧
      F = [(0, .slice A xs.length c), (3, .slice A2 l.length c2), (4, .int .i64 i)]) ⟨Le.refl _, rfl, 0, none, 0, [], rfl, by omega, by omega, At.nil _ _, Nat.le_refl _, Nat.le_refl _, fun x hx => absurd hx List.not_mem_nil, rfl⟩ sbF (List.Sublist.refl _) ?_
  rintro m S2 L F ⟨hle, rfl, i, A2, c2, l, rfl, hi1, hi4, hA2, hc2, hli, hok, rfl⟩
  by_cases hlt : i < xs.length
  rotate_left
  · (repeat (first | refine Jz ?_ | intro _))
    exact o_ret (L' := []) Tryd.results15 rfl (List.nil_sublist _) ⟨rfl, A2, c2, l, rfl, hA2, hc2, by omega, hok⟩
  by_cases hlt4 : i < 40
  rotate_left
  · (repeat (first | refine Jz ?_ | intro _))
    exact o_ret (L' := []) Tryd.results15 rfl (List.nil_sublist _) ⟨rfl, A2, c2, l, rfl, hA2, hc2, by omega, hok⟩
  obtain ⟨⟨xa, xb, xc, xd⟩, hxi⟩ := at_lt' hlt
  obtain ⟨ha, hb, hc, hd⟩ := hx _ (List.mem_of_getElem? hxi)
  simp only at ha hb hc hd
  have hA3 := hA.le hle
  obtain ⟨tr, tr0, tr1, p1⟩ := anyPick ha 30 (by decide)
  obtain ⟨sp, sp0, sp1, p2⟩ := anyPick (tdiv_in ha 30 (by decide)) 4 (by decide)
  obtain ⟨sv, sv0, sv1, p3⟩ := anyPick hb 2 (by decide)
  obtain ⟨ve, ve0, ve1, p4⟩ := anyPick (tdiv_in hb 2 (by decide)) 3 (by decide)
  obtain ⟨pe, pe0, pe1, p5⟩ := anyPick (tdiv_in hb 6 (by decide)) 5 (by decide)
  obtain ⟨lo, lo0, lo1, p6⟩ := anyPick hc 40 (by decide)
  obtain ⟨bb, bb0, bb1, p7⟩ := anyPick (tdiv_in hb 30 (by decide)) 100 (by decide)
  obtain ⟨o2, o20, o21, p8⟩ := anyPick (tdiv_in hb 3000 (by decide)) 2 (by decide)
  obtain ⟨k4, k40, k41, p9⟩ := anyPick hd 4 (by decide)
  obtain ⟨big, big0, big1, p10⟩ := anyPick hc 2199023255552 (by decide)
  obtain ⟨h3, h30, h31, p11⟩ := anyPick (tdiv_in hd 4 (by decide)) 3 (by decide)
  obtain ⟨h30_, h300, h301, p12⟩ := anyPick (tdiv_in hd 12 (by decide)) 30 (by decide)
  unfold i64 at ha hb hc hd
  (repeat (first | refine Jz ?_ | intro _))
  refine c_meet (fun S3 L3 F3 => S3 = S2 ∧ ∃ b5, L3 = [(b5, .cells [.int .i64 tr, .int .i64 sp, .int .i64 sv, .int .i64 ve, .int .i64 0, .int .i64 (pe - 1), .int .i64 0, .int .i64 lo, .int .i64 0, .int .i64 bb].toArray 27 (0, 0))] ∧
      F3 = [(0, .slice A xs.length c), (3, .slice A2 l.length c2), (4, .int .i64 i), (5, .pointer (some ⟨b5, 0, none⟩))]) ?_ ?_
  · ((apply c_held ([]); (case hL => (exact sbT))); refine Jf 0 ?_; refine Jf 1 ?_; (apply h_idx hA3 2; (case hi => rfl); (case hr => kernel_rfl); (case hfr => kernel_rfl); (case hsel => kernel_rfl); (case hg => rfl); (case hd => rfl); (case i1 => infer_instance); (case i2 => infer_instance); (case hx => rfl); (case hy => rfl); (case hm => rfl); (case hu => exact hxi); intro p (hp : Pts _ p [.int .i64 xa, .int .i64 xb, .int .i64 xc, .int .i64 xd])); refine Jf 3 ?_; (apply h_first 4; (case hi => rfl); (case hr => kernel_rfl); (case hfr => kernel_rfl); (case hsel => kernel_rfl); (case hg => rfl); (case hd => rfl); (case he => (apply ev_load_f; (case hx => rfl); (case h => exact hp); (case hv => rfl)))); refine Jf 6 ?_; refine Jf 7 ?_; (apply h_idx hA3 8; (case hi => rfl); (case hr => kernel_rfl); (case hfr => kernel_rfl); (case hsel => kernel_rfl); (case hg => rfl); (case hd => rfl); (case i1 => infer_instance); (case i2 => infer_instance); (case hx => rfl); (case hy => rfl); (case hm => rfl); (case hu => exact hxi); intro p (hp : Pts _ p [.int .i64 xa, .int .i64 xb, .int .i64 xc, .int .i64 xd])); refine Jf 9 ?_; (apply h_first 10; (case hi => rfl); (case hr => kernel_rfl); (case hfr => kernel_rfl); (case hsel => kernel_rfl); (case hg => rfl); (case hd => rfl); (case he => (apply ev_load_f; (case hx => rfl); (case h => exact hp); (case hv => rfl)))); refine Jf 11 ?_; refine Jf 13 ?_; refine Jf 14 ?_; (apply h_idx hA3 15; (case hi => rfl); (case hr => kernel_rfl); (case hfr => kernel_rfl); (case hsel => kernel_rfl); (case hg => rfl); (case hd => rfl); (case i1 => infer_instance); (case i2 => infer_instance); (case hx => rfl); (case hy => rfl); (case hm => rfl); (case hu => exact hxi); intro p (hp : Pts _ p [.int .i64 xa, .int .i64 xb, .int .i64 xc, .int .i64 xd])); refine Jf 16 ?_; (apply h_first 17; (case hi => rfl); (case hr => kernel_rfl); (case hfr => kernel_rfl); (case hsel => kernel_rfl); (case hg => rfl); (case hd => rfl); (case he => (apply ev_load_f; (case hx => rfl); (case h => exact hp); (case hv => rfl)))); refine Jf 19 ?_; refine Jf 20 ?_; (apply h_idx hA3 21; (case hi => rfl); (case hr => kernel_rfl); (case hfr => kernel_rfl); (case hsel => kernel_rfl); (case hg => rfl); (case hd => rfl); (case i1 => infer_instance); (case i2 => infer_instance); (case hx => rfl); (case hy => rfl); (case hm => rfl); (case hu => exact hxi); intro p (hp : Pts _ p [.int .i64 xa, .int .i64 xb, .int .i64 xc, .int .i64 xd])); refine Jf 22 ?_; (apply h_first 23; (case hi => rfl); (case hr => kernel_rfl); (case hfr => kernel_rfl); (case hsel => kernel_rfl); (case hg => rfl); (case hd => rfl); (case he => (apply ev_load_f; (case hx => rfl); (case h => exact hp); (case hv => rfl)))); refine Jf 24 ?_; refine Jf 26 ?_; refine Jf 27 ?_; (apply h_idx hA3 28; (case hi => rfl); (case hr => kernel_rfl); (case hfr => kernel_rfl); (case hsel => kernel_rfl); (case hg => rfl); (case hd => rfl); (case i1 => infer_instance); (case i2 => infer_instance); (case hx => rfl); (case hy => rfl); (case hm => rfl); (case hu => exact hxi); intro p (hp : Pts _ p [.int .i64 xa, .int .i64 xb, .int .i64 xc, .int .i64 xd])); refine Jf 29 ?_; (apply h_first 30; (case hi => rfl); (case hr => kernel_rfl); (case hfr => kernel_rfl); (case hsel => kernel_rfl); (case hg => rfl); (case hd => rfl); (case he => (apply ev_load_f; (case hx => rfl); (case h => exact hp); (case hv => rfl)))); refine Jf 31 ?_; refine Jf 34 ?_; refine Jf 35 ?_; (apply h_idx hA3 36; (case hi => rfl); (case hr => kernel_rfl); (case hfr => kernel_rfl); (case hsel => kernel_rfl); (case hg => rfl); (case hd => rfl); (case i1 => infer_instance); (case i2 => infer_instance); (case hx => rfl); (case hy => rfl); (case hm => rfl); (case hu => exact hxi); intro p (hp : Pts _ p [.int .i64 xa, .int .i64 xb, .int .i64 xc, .int .i64 xd])); refine Jf 37 ?_; (apply h_first 38; (case hi => rfl); (case hr => kernel_rfl); (case hfr => kernel_rfl); (case hsel => kernel_rfl); (case hg => rfl); (case hd => rfl); (case he => (apply ev_load_f; (case hx => rfl); (case h => exact hp); (case hv => rfl)))); refine Jf 40 ?_; refine Jf 41 ?_; (apply h_idx hA3 42; (case hi => rfl); (case hr => kernel_rfl); (case hfr => kernel_rfl); (case hsel => kernel_rfl); (case hg => rfl); (case hd => rfl); (case i1 => infer_instance); (case i2 => infer_instance); (case hx => rfl); (case hy => rfl); (case hm => rfl); (case hu => exact hxi); intro p (hp : Pts _ p [.int .i64 xa, .int .i64 xb, .int .i64 xc, .int .i64 xd])); refine Jf 43 ?_; (apply h_first 44; (case hi => rfl); (case hr => kernel_rfl); (case hfr => kernel_rfl); (case hsel => kernel_rfl); (case hg => rfl); (case hd => rfl); (case he => (apply ev_load_f; (case hx => rfl); (case h => exact hp); (case hv => rfl)))); refine Jf 45 ?_; (apply h_two 5 48; (case hr => kernel_rfl)); (case k1 => ((apply n_call; (case hi => rfl); (case i1 => infer_instance); (case hg => rfl); (case hd => rfl); (case ha => rfl); (case hc => exact p1 _); (case hL => (exact pmT)); (case hsub => (intros; (exact sbT))); rintro _ _ _ - ⟨rfl, rfl, rfl⟩); (apply h_two 12 48; (case hr => kernel_rfl)); (case k1 => ((apply n_call; (case hi => rfl); (case i1 => infer_instance); (case hg => rfl); (case hd => rfl); (case ha => rfl); (case hc => exact p2 _); (case hL => (exact pmT)); (case hsub => (intros; (exact sbT))); rintro _ _ _ - ⟨rfl, rfl, rfl⟩); (apply h_two 18 48; (case hr => kernel_rfl)); (case k1 => ((apply n_call; (case hi => rfl); (case i1 => infer_instance); (case hg => rfl); (case hd => rfl); (case ha => rfl); (case hc => exact p3 _); (case hL => (exact pmT)); (case hsub => (intros; (exact sbT))); rintro _ _ _ - ⟨rfl, rfl, rfl⟩); (apply h_two 25 48; (case hr => kernel_rfl)); (case k1 => ((apply n_call; (case hi => rfl); (case i1 => infer_instance); (case hg => rfl); (case hd => rfl); (case ha => rfl); (case hc => exact p4 _); (case hL => (exact pmT)); (case hsub => (intros; (exact sbT))); rintro _ _ _ - ⟨rfl, rfl, rfl⟩); (apply h_two 32 48; (case hr => kernel_rfl)); (case k1 => ((apply n_call; (case hi => rfl); (case i1 => infer_instance); (case hg => rfl); (case hd => rfl); (case ha => rfl); (case hc => exact p5 _); (case hL => (exact pmT)); (case hsub => (intros; (exact sbT))); rintro _ _ _ - ⟨rfl, rfl, rfl⟩); refine Jf 33 ?_; (apply h_two 39 48; (case hr => kernel_rfl)); (case k1 => ((apply n_call; (case hi => rfl); (case i1 => infer_instance); (case hg => rfl); (case hd => rfl); (case ha => rfl); (case hc => exact p6 _); (case hL => (exact pmT)); (case hsub => (intros; (exact sbT))); rintro _ _ _ - ⟨rfl, rfl, rfl⟩); (apply h_two 46 48; (case hr => kernel_rfl)); (case k1 => ((apply n_call; (case hi => rfl); (case i1 => infer_instance); (case hg => rfl); (case hd => rfl); (case ha => rfl); (case hc => exact p7 _); (case hL => (exact pmT)); (case hsub => (intros; (exact sbT))); rintro _ _ _ - ⟨rfl, rfl, rfl⟩); (apply h_first 47; (case hi => rfl); (case hr => kernel_rfl); (case hfr => kernel_rfl); (case hsel => kernel_rfl); (case hg => rfl); (case hd => rfl); (case he => (apply ev_buildS; (case hp => rfl); (case hz => rfl); (case h1 => rfl); (case hr => rfl)))); (apply h_one 48; (case hr => kernel_rfl)); (refine Jn ?_; try intro _); (apply h_one 49; (case hr => kernel_rfl)); (refine Jn ?_; try intro _); (apply h_end; (case hr => kernel_rfl)); (apply q_then; exact q_cut ⟨rfl, _, rfl, rfl⟩ sbF sbL))); (case k2 => ((refine Jn ?_; try intro _); (apply h_one 46; (case hr => kernel_rfl)); (apply n_call; (case hi => rfl); (case i1 => infer_instance); (case hg => rfl); (case hd => rfl); (case ha => rfl); (case hc => exact p7 _); (case hL => (exact pmT)); (case hsub => (intros; (exact sbT))); rintro _ _ _ - ⟨rfl, rfl, rfl⟩); (apply h_first 47; (case hi => rfl); (case hr => kernel_rfl); (case hfr => kernel_rfl); (case hsel => kernel_rfl); (case hg => rfl); (case hd => rfl); (case he => (apply ev_buildS; (case hp => rfl); (case hz => rfl); (case h1 => rfl); (case hr => rfl)))); (apply h_one 49; (case hr => kernel_rfl)); (refine Jn ?_; try intro _); (apply h_end; (case hr => kernel_rfl)); (apply q_then; exact q_cut ⟨rfl, _, rfl, rfl⟩ sbF sbL))))); (case k2 => ((refine Jn ?_; try intro _); (apply h_one 39; (case hr => kernel_rfl)); (apply n_call; (case hi => rfl); (case i1 => infer_instance); (case hg => rfl); (case hd => rfl); (case ha => rfl); (case hc => exact p6 _); (case hL => (exact pmT)); (case hsub => (intros; (exact sbT))); rintro _ _ _ - ⟨rfl, rfl, rfl⟩); (apply h_one 46; (case hr => kernel_rfl)); (apply n_call; (case hi => rfl); (case i1 => infer_instance); (case hg => rfl); (case hd => rfl); (case ha => rfl); (case hc => exact p7 _); (case hL => (exact pmT)); (case hsub => (intros; (exact sbT))); rintro _ _ _ - ⟨rfl, rfl, rfl⟩); (apply h_first 47; (case hi => rfl); (case hr => kernel_rfl); (case hfr => kernel_rfl); (case hsel => kernel_rfl); (case hg => rfl); (case hd => rfl); (case he => (apply ev_buildS; (case hp => rfl); (case hz => rfl); (case h1 => rfl); (case hr => rfl)))); (apply h_one 49; (case hr => kernel_rfl)); (refine Jn ?_; try intro _); (apply h_end; (case hr => kernel_rfl)); (apply q_then; exact q_cut ⟨rfl, _, rfl, rfl⟩ sbF sbL))))); (case k2 => ((refine Jn ?_; try intro _); (apply h_one 32; (case hr => kernel_rfl)); (apply n_call; (case hi => rfl); (case i1 => infer_instance); (case hg => rfl); (case hd => rfl); (case ha => rfl); (case hc => exact p5 _); (case hL => (exact pmT)); (case hsub => (intros; (exact sbT))); rintro _ _ _ - ⟨rfl, rfl, rfl⟩); refine Jf 33 ?_; (apply h_one 39; (case hr => kernel_rfl)); (apply n_call; (case hi => rfl); (case i1 => infer_instance); (case hg => rfl); (case hd => rfl); (case ha => rfl); (case hc => exact p6 _); (case hL => (exact pmT)); (case hsub => (intros; (exact sbT))); rintro _ _ _ - ⟨rfl, rfl, rfl⟩); (apply h_one 46; (case hr => kernel_rfl)); (apply n_call; (case hi => rfl); (case i1 => infer_instance); (case hg => rfl); (case hd => rfl); (case ha => rfl); (case hc => exact p7 _); (case hL => (exact pmT)); (case hsub => (intros; (exact sbT))); rintro _ _ _ - ⟨rfl, rfl, rfl⟩); (apply h_first 47; (case hi => rfl); (case hr => kernel_rfl); (case hfr => kernel_rfl); (case hsel => kernel_rfl); (case hg => rfl); (case hd => rfl); (case he => (apply ev_buildS; (case hp => rfl); (case hz => rfl); (case h1 => rfl); (case hr => rfl)))); (apply h_one 49; (case hr => kernel_rfl)); (refine Jn ?_; try intro _); (apply h_end; (case hr => kernel_rfl)); (apply q_then; exact q_cut ⟨rfl, _, rfl, rfl⟩ sbF sbL))))); (case k2 => ((refine Jn ?_; try intro _); (apply h_one 25; (case hr => kernel_rfl)); (apply n_call; (case hi => rfl); (case i1 => infer_instance); (case hg => rfl); (case hd => rfl); (case ha => rfl); (case hc => exact p4 _); (case hL => (exact pmT)); (case hsub => (intros; (exact sbT))); rintro _ _ _ - ⟨rfl, rfl, rfl⟩); (apply h_one 32; (case hr => kernel_rfl)); (apply n_call; (case hi => rfl); (case i1 => infer_instance); (case hg => rfl); (case hd => rfl); (case ha => rfl); (case hc => exact p5 _); (case hL => (exact pmT)); (case hsub => (intros; (exact sbT))); rintro _ _ _ - ⟨rfl, rfl, rfl⟩); refine Jf 33 ?_; (apply h_one 39; (case hr => kernel_rfl)); (apply n_call; (case hi => rfl); (case i1 => infer_instance); (case hg => rfl); (case hd => rfl); (case ha => rfl); (case hc => exact p6 _); (case hL => (exact pmT)); (case hsub => (intros; (exact sbT))); rintro _ _ _ - ⟨rfl, rfl, rfl⟩); (apply h_one 46; (case hr => kernel_rfl)); (apply n_call; (case hi => rfl); (case i1 => infer_instance); (case hg => rfl); (case hd => rfl); (case ha => rfl); (case hc => exact p7 _); (case hL => (exact pmT)); (case hsub => (intros; (exact sbT))); rintro _ _ _ - ⟨rfl, rfl, rfl⟩); (apply h_first 47; (case hi => rfl); (case hr => kernel_rfl); (case hfr => kernel_rfl); (case hsel => kernel_rfl); (case hg => rfl); (case hd => rfl); (case he => (apply ev_buildS; (case hp => rfl); (case hz => rfl); (case h1 => rfl); (case hr => rfl)))); (apply h_one 49; (case hr => kernel_rfl)); (refine Jn ?_; try intro _); (apply h_end; (case hr => kernel_rfl)); (apply q_then; exact q_cut ⟨rfl, _, rfl, rfl⟩ sbF sbL))))); (case k2 => ((refine Jn ?_; try intro _); (apply h_one 18; (case hr => kernel_rfl)); (apply n_call; (case hi => rfl); (case i1 => infer_instance); (case hg => rfl); (case hd => rfl); (case ha => rfl); (case hc => exact p3 _); (case hL => (exact pmT)); (case hsub => (intros; (exact sbT))); rintro _ _ _ - ⟨rfl, rfl, rfl⟩); (apply h_one 25; (case hr => kernel_rfl)); (apply n_call; (case hi => rfl); (case i1 => infer_instance); (case hg => rfl); (case hd => rfl); (case ha => rfl); (case hc => exact p4 _); (case hL => (exact pmT)); (case hsub => (intros; (exact sbT))); rintro _ _ _ - ⟨rfl, rfl, rfl⟩); (apply h_one 32; (case hr => kernel_rfl)); (apply n_call; (case hi => rfl); (case i1 => infer_instance); (case hg => rfl); (case hd => rfl); (case ha => rfl); (case hc => exact p5 _); (case hL => (exact pmT)); (case hsub => (intros; (exact sbT))); rintro _ _ _ - ⟨rfl, rfl, rfl⟩); refine Jf 33 ?_; (apply h_one 39; (case hr => kernel_rfl)); (apply n_call; (case hi => rfl); (case i1 => infer_instance); (case hg => rfl); (case hd => rfl); (case ha => rfl); (case hc => exact p6 _); (case hL => (exact pmT)); (case hsub => (intros; (exact sbT))); rintro _ _ _ - ⟨rfl, rfl, rfl⟩); (apply h_one 46; (case hr => kernel_rfl)); (apply n_call; (case hi => rfl); (case i1 => infer_instance); (case hg => rfl); (case hd => rfl); (case ha => rfl); (case hc => exact p7 _); (case hL => (exact pmT)); (case hsub => (intros; (exact sbT))); rintro _ _ _ - ⟨rfl, rfl, rfl⟩); (apply h_first 47; (case hi => rfl); (case hr => kernel_rfl); (case hfr => kernel_rfl); (case hsel => kernel_rfl); (case hg => rfl); (case hd => rfl); (case he => (apply ev_buildS; (case hp => rfl); (case hz => rfl); (case h1 => rfl); (case hr => rfl)))); (apply h_one 49; (case hr => kernel_rfl)); (refine Jn ?_; try intro _); (apply h_end; (case hr => kernel_rfl)); (apply q_then; exact q_cut ⟨rfl, _, rfl, rfl⟩ sbF sbL))))); (case k2 => ((refine Jn ?_; try intro _); (apply h_one 12; (case hr => kernel_rfl)); (apply n_call; (case hi => rfl); (case i1 => infer_instance); (case hg => rfl); (case hd => rfl); (case ha => rfl); (case hc => exact p2 _); (case hL => (exact pmT)); (case hsub => (intros; (exact sbT))); rintro _ _ _ - ⟨rfl, rfl, rfl⟩); (apply h_one 18; (case hr => kernel_rfl)); (apply n_call; (case hi => rfl); (case i1 => infer_instance); (case hg => rfl); (case hd => rfl); (case ha => rfl); (case hc => exact p3 _); (case hL => (exact pmT)); (case hsub => (intros; (exact sbT))); rintro _ _ _ - ⟨rfl, rfl, rfl⟩); (apply h_one 25; (case hr => kernel_rfl)); (apply n_call; (case hi => rfl); (case i1 => infer_instance); (case hg => rfl); (case hd => rfl); (case ha => rfl); (case hc => exact p4 _); (case hL => (exact pmT)); (case hsub => (intros; (exact sbT))); rintro _ _ _ - ⟨rfl, rfl, rfl⟩); (apply h_one 32; (case hr => kernel_rfl)); (apply n_call; (case hi => rfl); (case i1 => infer_instance); (case hg => rfl); (case hd => rfl); (case ha => rfl); (case hc => exact p5 _); (case hL => (exact pmT)); (case hsub => (intros; (exact sbT))); rintro _ _ _ - ⟨rfl, rfl, rfl⟩); refine Jf 33 ?_; (apply h_one 39; (case hr => kernel_rfl)); (apply n_call; (case hi => rfl); (case i1 => infer_instance); (case hg => rfl); (case hd => rfl); (case ha => rfl); (case hc => exact p6 _); (case hL => (exact pmT)); (case hsub => (intros; (exact sbT))); rintro _ _ _ - ⟨rfl, rfl, rfl⟩); (apply h_one 46; (case hr => kernel_rfl)); (apply n_call; (case hi => rfl); (case i1 => infer_instance); (case hg => rfl); (case hd => rfl); (case ha => rfl); (case hc => exact p7 _); (case hL => (exact pmT)); (case hsub => (intros; (exact sbT))); rintro _ _ _ - ⟨rfl, rfl, rfl⟩); (apply h_first 47; (case hi => rfl); (case hr => kernel_rfl); (case hfr => kernel_rfl); (case hsel => kernel_rfl); (case hg => rfl); (case hd => rfl); (case he => (apply ev_buildS; (case hp => rfl); (case hz => rfl); (case h1 => rfl); (case hr => rfl)))); (apply h_one 49; (case hr => kernel_rfl)); (refine Jn ?_; try intro _); (apply h_end; (case hr => kernel_rfl)); (apply q_then; exact q_cut ⟨rfl, _, rfl, rfl⟩ sbF sbL))))); (case k2 => ((refine Jn ?_; try intro _); (apply h_one 5; (case hr => kernel_rfl)); (apply n_call; (case hi => rfl); (case i1 => infer_instance); (case hg => rfl); (case hd => rfl); (case ha => rfl); (case hc => exact p1 _); (case hL => (exact pmT)); (case hsub => (intros; (exact sbT))); rintro _ _ _ - ⟨rfl, rfl, rfl⟩); (apply h_one 12; (case hr => kernel_rfl)); (apply n_call; (case hi => rfl); (case i1 => infer_instance); (case hg => rfl); (case hd => rfl); (case ha => rfl); (case hc => exact p2 _); (case hL => (exact pmT)); (case hsub => (intros; (exact sbT))); rintro _ _ _ - ⟨rfl, rfl, rfl⟩); (apply h_one 18; (case hr => kernel_rfl)); (apply n_call; (case hi => rfl); (case i1 => infer_instance); (case hg => rfl); (case hd => rfl); (case ha => rfl); (case hc => exact p3 _); (case hL => (exact pmT)); (case hsub => (intros; (exact sbT))); rintro _ _ _ - ⟨rfl, rfl, rfl⟩); (apply h_one 25; (case hr => kernel_rfl)); (apply n_call; (case hi => rfl); (case i1 => infer_instance); (case hg => rfl); (case hd => rfl); (case ha => rfl); (case hc => exact p4 _); (case hL => (exact pmT)); (case hsub => (intros; (exact sbT))); rintro _ _ _ - ⟨rfl, rfl, rfl⟩); (apply h_one 32; (case hr => kernel_rfl)); (apply n_call; (case hi => rfl); (case i1 => infer_instance); (case hg => rfl); (case hd => rfl); (case ha => rfl); (case hc => exact p5 _); (case hL => (exact pmT)); (case hsub => (intros; (exact sbT))); rintro _ _ _ - ⟨rfl, rfl, rfl⟩); refine Jf 33 ?_; (apply h_one 39; (case hr => kernel_rfl)); (apply n_call; (case hi => rfl); (case i1 => infer_instance); (case hg => rfl); (case hd => rfl); (case ha => rfl); (case hc => exact p6 _); (case hL => (exact pmT)); (case hsub => (intros; (exact sbT))); rintro _ _ _ - ⟨rfl, rfl, rfl⟩); (apply h_one 46; (case hr => kernel_rfl)); (apply n_call; (case hi => rfl); (case i1 => infer_instance); (case hg => rfl); (case hd => rfl); (case ha => rfl); (case hc => exact p7 _); (case hL => (exact pmT)); (case hsub => (intros; (exact sbT))); rintro _ _ _ - ⟨rfl, rfl, rfl⟩); (apply h_first 47; (case hi => rfl); (case hr => kernel_rfl); (case hfr => kernel_rfl); (case hsel => kernel_rfl); (case hg => rfl); (case hd => rfl); (case he => (apply ev_buildS; (case hp => rfl); (case hz => rfl); (case h1 => rfl); (case hr => rfl)))); (apply h_one 49; (case hr => kernel_rfl)); (refine Jn ?_; try intro _); (apply h_end; (case hr => kernel_rfl)); (apply q_then; exact q_cut ⟨rfl, _, rfl, rfl⟩ sbF sbL))))
  rintro S3 L3 F3 ⟨rfl, b5, rfl, rfl⟩
  apply c_seq
  refine c_meet (fun S4 L4 F4 => S4 = S3 ∧ L4 = [(b5, .cells [.int .i64 tr, .int .i64 sp, .int .i64 sv, .int .i64 ve, .int .i64 (2 * sv + o2), .int .i64 (pe - 1), .int .i64 0, .int .i64 lo, .int .i64 0, .int .i64 bb].toArray 27 (0, 0))] ∧ F4 = [(0, .slice A xs.length c), (3, .slice A2 l.length c2), (4, .int .i64 i), (5, .pointer (some ⟨b5, 0, none⟩))]) ?_ ?_
  · ((apply c_held ([]); (case hL => (exact sbT))); refine Jf 0 ?_; refine Jf 3 ?_; refine Jf 4 ?_; (apply h_idx hA3 5; (case hi => rfl); (case hr => kernel_rfl); (case hfr => kernel_rfl); (case hsel => kernel_rfl); (case hg => rfl); (case hd => rfl); (case i1 => infer_instance); (case i2 => infer_instance); (case hx => rfl); (case hy => rfl); (case hm => rfl); (case hu => exact hxi); intro p (hp : Pts _ p [.int .i64 xa, .int .i64 xb, .int .i64 xc, .int .i64 xd])); refine Jf 6 ?_; (apply h_first 7; (case hi => rfl); (case hr => kernel_rfl); (case hfr => kernel_rfl); (case hsel => kernel_rfl); (case hg => rfl); (case hd => rfl); (case he => (apply ev_load_f; (case hx => rfl); (case h => exact hp); (case hv => rfl)))); refine Jf 8 ?_; (apply h_two 1 9; (case hr => kernel_rfl)); (case k1 => ((refine Jn ?_; try intro _); refine Jf 2 ?_; (apply h_one 9; (case hr => kernel_rfl)); (apply n_call; (case hi => rfl); (case i1 => infer_instance); (case hg => rfl); (case hd => rfl); (case ha => rfl); (case hc => exact p8 _); (case hL => (exact pmT)); (case hsub => (intros; (exact sbT))); rintro _ _ _ - ⟨rfl, rfl, rfl⟩); refine Jf 10 ?_; refine Jf 11 ?_; (apply h_one 12; (case hr => kernel_rfl)); (refine Jn ?_; try intro _); (apply h_end; (case hr => kernel_rfl)); (apply q_then; exact q_cut ⟨rfl, rfl, rfl⟩ sbF sbL))); (case k2 => ((apply n_call; (case hi => rfl); (case i1 => infer_instance); (case hg => rfl); (case hd => rfl); (case ha => rfl); (case hc => exact p8 _); (case hL => (exact pmT)); (case hsub => (intros; (exact sbT))); rintro _ _ _ - ⟨rfl, rfl, rfl⟩); (apply h_one 1; (case hr => kernel_rfl)); (refine Jn ?_; try intro _); refine Jf 2 ?_; refine Jf 10 ?_; refine Jf 11 ?_; (apply h_one 12; (case hr => kernel_rfl)); (refine Jn ?_; try intro _); (apply h_end; (case hr => kernel_rfl)); (apply q_then; exact q_cut ⟨rfl, rfl, rfl⟩ sbF sbL))))
  rintro S4 L4 F4 ⟨rfl, rfl, rfl⟩
  apply c_seq
  refine c_meet (fun S5 L5 F5 => S5 = S4 ∧ ∃ lo' : Int, 0 ≤ lo' ∧ lo' ≤ 2199023255551 ∧ L5 = [(b5, .cells [.int .i64 tr, .int .i64 sp, .int .i64 sv, .int .i64 ve, .int .i64 (2 * sv + o2), .int .i64 (pe - 1), .int .i64 0, .int .i64 lo', .int .i64 0, .int .i64 bb].toArray 27 (0, 0))] ∧ F5 = [(0, .slice A xs.length c), (3, .slice A2 l.length c2), (4, .int .i64 i), (5, .pointer (some ⟨b5, 0, none⟩))]) ?_ ?_
  · by_cases hk : k4 = 3
    · (repeat (first | refine Jc ?_ | (apply s_idx hA3; (case hg => rfl); (case hd => rfl); (case hx => rfl); (case hi => rfl); (case hm => rfl); (case hu => exact hxi); intro p (hp : Pts _ p [.int .i64 xa, .int .i64 xb, .int .i64 xc, .int .i64 xd])) | (apply s_load_f; (case hg => rfl); (case hd => rfl); (case hx => rfl); (case h => exact hp); (case hv => rfl)) | (apply z_call; rfl; rfl; rfl; exact p9 _; rintro _ _ _ - ⟨rfl, rfl, rfl⟩) | (apply z_call; rfl; rfl; rfl; exact p10 _; rintro _ _ _ - ⟨rfl, rfl, rfl⟩) | refine Jo ?_ | intro _))
      exact q_cut ⟨rfl, big, big0, by omega, rfl, rfl⟩ sbF sbL
    · (repeat (first | refine Jc ?_ | (apply s_idx hA3; (case hg => rfl); (case hd => rfl); (case hx => rfl); (case hi => rfl); (case hm => rfl); (case hu => exact hxi); intro p (hp : Pts _ p [.int .i64 xa, .int .i64 xb, .int .i64 xc, .int .i64 xd])) | (apply s_load_f; (case hg => rfl); (case hd => rfl); (case hx => rfl); (case h => exact hp); (case hv => rfl)) | (apply z_call; rfl; rfl; rfl; exact p9 _; rintro _ _ _ - ⟨rfl, rfl, rfl⟩) | refine Jo ?_ | intro _))
      exact q_cut ⟨rfl, lo, lo0, by omega, rfl, rfl⟩ sbF sbL
  rintro S5 L5 F5 ⟨rfl, lo', lo0', lo1', rfl, rfl⟩
  have hm0 := Int.mul_nonneg h30 h300
  have hm1 : h3 * h30_ ≤ 2 * 29 := Int.mul_le_mul (by omega) (by omega) h300 (by decide)
  apply c_seq
  refine c_meet (fun S6 L6 F6 => S6 = S5 ∧ L6 = [(b5, .cells [.int .i64 tr, .int .i64 sp, .int .i64 sv, .int .i64 ve, .int .i64 (2 * sv + o2), .int .i64 (pe - 1), .int .i64 0, .int .i64 lo', .int .i64 (lo' + h3 * h30_), .int .i64 bb].toArray 27 (0, 0))] ∧ F6 = [(0, .slice A xs.length c), (3, .slice A2 l.length c2), (4, .int .i64 i), (5, .pointer (some ⟨b5, 0, none⟩))]) ?_ ?_
  · ((apply c_held ([]); (case hL => (exact sbT))); refine Jf 0 ?_; refine Jf 2 ?_; refine Jf 3 ?_; (apply h_idx hA3 4; (case hi => rfl); (case hr => kernel_rfl); (case hfr => kernel_rfl); (case hsel => kernel_rfl); (case hg => rfl); (case hd => rfl); (case i1 => infer_instance); (case i2 => infer_instance); (case hx => rfl); (case hy => rfl); (case hm => rfl); (case hu => exact hxi); intro p (hp : Pts _ p [.int .i64 xa, .int .i64 xb, .int .i64 xc, .int .i64 xd])); refine Jf 5 ?_; (apply h_first 6; (case hi => rfl); (case hr => kernel_rfl); (case hfr => kernel_rfl); (case hsel => kernel_rfl); (case hg => rfl); (case hd => rfl); (case he => (apply ev_load_f; (case hx => rfl); (case h => exact hp); (case hv => rfl)))); refine Jf 7 ?_; refine Jf 9 ?_; refine Jf 10 ?_; (apply h_idx hA3 11; (case hi => rfl); (case hr => kernel_rfl); (case hfr => kernel_rfl); (case hsel => kernel_rfl); (case hg => rfl); (case hd => rfl); (case i1 => infer_instance); (case i2 => infer_instance); (case hx => rfl); (case hy => rfl); (case hm => rfl); (case hu => exact hxi); intro p (hp : Pts _ p [.int .i64 xa, .int .i64 xb, .int .i64 xc, .int .i64 xd])); refine Jf 12 ?_; (apply h_first 13; (case hi => rfl); (case hr => kernel_rfl); (case hfr => kernel_rfl); (case hsel => kernel_rfl); (case hg => rfl); (case hd => rfl); (case he => (apply ev_load_f; (case hx => rfl); (case h => exact hp); (case hv => rfl)))); refine Jf 14 ?_; (apply h_two 1 8; (case hr => kernel_rfl)); (case k1 => ((refine Jn ?_; try intro _); (apply h_one 8; (case hr => kernel_rfl)); (apply n_call; (case hi => rfl); (case i1 => infer_instance); (case hg => rfl); (case hd => rfl); (case ha => rfl); (case hc => exact p11 _); (case hL => (exact pmT)); (case hsub => (intros; (exact sbT))); rintro _ _ _ - ⟨rfl, rfl, rfl⟩); (apply h_one 15; (case hr => kernel_rfl)); (apply n_call; (case hi => rfl); (case i1 => infer_instance); (case hg => rfl); (case hd => rfl); (case ha => rfl); (case hc => exact p12 _); (case hL => (exact pmT)); (case hsub => (intros; (exact sbT))); rintro _ _ _ - ⟨rfl, rfl, rfl⟩); refine Jf 16 ?_; refine Jf 17 ?_; refine Jf 18 ?_; (apply h_one 19; (case hr => kernel_rfl)); (refine Jn ?_; try intro _); (apply h_end; (case hr => kernel_rfl)); (apply q_then; exact q_cut ⟨rfl, rfl, rfl⟩ sbF sbL))); (case k2 => ((apply n_call; (case hi => rfl); (case i1 => infer_instance); (case hg => rfl); (case hd => rfl); (case ha => rfl); (case hc => exact p11 _); (case hL => (exact pmT)); (case hsub => (intros; (exact sbT))); rintro _ _ _ - ⟨rfl, rfl, rfl⟩); (apply h_two 1 15; (case hr => kernel_rfl)); (case k1 => ((refine Jn ?_; try intro _); (apply h_one 15; (case hr => kernel_rfl)); (apply n_call; (case hi => rfl); (case i1 => infer_instance); (case hg => rfl); (case hd => rfl); (case ha => rfl); (case hc => exact p12 _); (case hL => (exact pmT)); (case hsub => (intros; (exact sbT))); rintro _ _ _ - ⟨rfl, rfl, rfl⟩); refine Jf 16 ?_; refine Jf 17 ?_; refine Jf 18 ?_; (apply h_one 19; (case hr => kernel_rfl)); (refine Jn ?_; try intro _); (apply h_end; (case hr => kernel_rfl)); (apply q_then; exact q_cut ⟨rfl, rfl, rfl⟩ sbF sbL))); (case k2 => ((apply n_call; (case hi => rfl); (case i1 => infer_instance); (case hg => rfl); (case hd => rfl); (case ha => rfl); (case hc => exact p12 _); (case hL => (exact pmT)); (case hsub => (intros; (exact sbT))); rintro _ _ _ - ⟨rfl, rfl, rfl⟩); refine Jf 16 ?_; (apply h_one 1; (case hr => kernel_rfl)); (refine Jn ?_; try intro _); refine Jf 17 ?_; refine Jf 18 ?_; (apply h_one 19; (case hr => kernel_rfl)); (refine Jn ?_; try intro _); (apply h_end; (case hr => kernel_rfl)); (apply q_then; exact q_cut ⟨rfl, rfl, rfl⟩ sbF sbL))))))
  rintro S6 L6 F6 ⟨rfl, rfl, rfl⟩
  (repeat (first | refine Jz ?_ | intro _))
  refine c_meetB (fun S7 L7 F7 => S7 = S6 ∧ ∃ at_ : Nat, at_ ≤ l.length ∧ L7 = [(b5, .cells [.int .i64 tr, .int .i64 sp, .int .i64 sv, .int .i64 ve, .int .i64 (2 * sv + o2), .int .i64 (pe - 1), .int .i64 (tr / 10), .int .i64 lo', .int .i64 (lo' + h3 * h30_), .int .i64 bb].toArray 27 (0, 0))] ∧ F7 = [(0, .slice A xs.length c), (3, .slice A2 l.length c2), (4, .int .i64 i), (5, .pointer (some ⟨b5, 0, none⟩)), (6, .int .i64 at_)]) ?_ ?_
  · refine c_loop (fun m S7 L7 F7 => S7 = S6 ∧ ∃ at_ : Nat, m = l.length - at_ ∧ at_ ≤ l.length ∧ L7 = [(b5, .cells [.int .i64 tr, .int .i64 sp, .int .i64 sv, .int .i64 ve, .int .i64 (2 * sv + o2), .int .i64 (pe - 1), .int .i64 (tr / 10), .int .i64 lo', .int .i64 (lo' + h3 * h30_), .int .i64 bb].toArray 27 (0, 0))] ∧ F7 = [(0, .slice A xs.length c), (3, .slice A2 l.length c2), (4, .int .i64 i), (5, .pointer (some ⟨b5, 0, none⟩)), (6, .int .i64 at_)]) ⟨rfl, 0, rfl, by omega, rfl, rfl⟩ sbF sbL ?_
    rintro m S7 L7 F7 ⟨rfl, at_, rfl, hat, rfl, rfl⟩
    by_cases hal : at_ < l.length
    rotate_left
    · (repeat (first | refine Jc ?_ | (apply c_draw; (case hB => kernel_rfl); refine JD ?_) | refine Jo ?_ | intro _))
      exact q_cut ⟨rfl, at_, hat, rfl, rfl⟩ sbF sbL
    obtain ⟨⟨ytr, ysp, ysv, yve, yop, ype, ydy, ylo, yhi, yby⟩, hy⟩ := at_lt' hal
    by_cases y1 : ytr < tr
    · (repeat (first | refine Jc ?_ | (apply c_draw; (case hB => kernel_rfl); (repeat (first | (apply q_idx hA2; (case hg => rfl); (case hd => rfl); (case hx => rfl); (case hi => rfl); (case hm => rfl); (case hu => exact hy); intro p2 (hp2 : Pts _ p2 [.int .i64 ytr, .int .i64 ysp, .int .i64 ysv, .int .i64 yve, .int .i64 yop, .int .i64 ype, .int .i64 ydy, .int .i64 ylo, .int .i64 yhi, .int .i64 yby])) | (apply q_ev; (case hg => rfl); (case hd => rfl); (case he => (apply ev_load_f; (case hx => rfl); (case h => exact hp2); (case hv => rfl)))) | refine Jd ?_))) | refine Jo ?_ | intro _))
      exact q_back (m' := l.length - (at_ + 1)) ⟨rfl, at_ + 1, rfl, by omega, rfl, rfl⟩ (by omega) sbF sbL
    by_cases y2 : ytr = tr
    · by_cases y3 : ysp < sp
      · (repeat (first | refine Jc ?_ | (apply c_draw; (case hB => kernel_rfl); (repeat (first | (apply q_idx hA2; (case hg => rfl); (case hd => rfl); (case hx => rfl); (case hi => rfl); (case hm => rfl); (case hu => exact hy); intro p2 (hp2 : Pts _ p2 [.int .i64 ytr, .int .i64 ysp, .int .i64 ysv, .int .i64 yve, .int .i64 yop, .int .i64 ype, .int .i64 ydy, .int .i64 ylo, .int .i64 yhi, .int .i64 yby])) | (apply q_ev; (case hg => rfl); (case hd => rfl); (case he => (apply ev_load_f; (case hx => rfl); (case h => exact hp2); (case hv => rfl)))) | refine Jd ?_))) | refine Jo ?_ | intro _))
        exact q_back (m' := l.length - (at_ + 1)) ⟨rfl, at_ + 1, rfl, by omega, rfl, rfl⟩ (by omega) sbF sbL
      · (repeat (first | refine Jc ?_ | (apply c_draw; (case hB => kernel_rfl); (repeat (first | (apply q_idx hA2; (case hg => rfl); (case hd => rfl); (case hx => rfl); (case hi => rfl); (case hm => rfl); (case hu => exact hy); intro p2 (hp2 : Pts _ p2 [.int .i64 ytr, .int .i64 ysp, .int .i64 ysv, .int .i64 yve, .int .i64 yop, .int .i64 ype, .int .i64 ydy, .int .i64 ylo, .int .i64 yhi, .int .i64 yby])) | (apply q_ev; (case hg => rfl); (case hd => rfl); (case he => (apply ev_load_f; (case hx => rfl); (case h => exact hp2); (case hv => rfl)))) | refine Jd ?_))) | refine Jo ?_ | intro _))
        exact q_cut ⟨rfl, at_, hat, rfl, rfl⟩ sbF sbL
    · (repeat (first | refine Jc ?_ | (apply c_draw; (case hB => kernel_rfl); (repeat (first | (apply q_idx hA2; (case hg => rfl); (case hd => rfl); (case hx => rfl); (case hi => rfl); (case hm => rfl); (case hu => exact hy); intro p2 (hp2 : Pts _ p2 [.int .i64 ytr, .int .i64 ysp, .int .i64 ysv, .int .i64 yve, .int .i64 yop, .int .i64 ype, .int .i64 ydy, .int .i64 ylo, .int .i64 yhi, .int .i64 yby])) | (apply q_ev; (case hg => rfl); (case hd => rfl); (case he => (apply ev_load_f; (case hx => rfl); (case h => exact hp2); (case hv => rfl)))) | refine Jd ?_))) | refine Jo ?_ | intro _))
      exact q_cut ⟨rfl, at_, hat, rfl, rfl⟩ sbF sbL
  rintro S7 L7 F7 ⟨rfl, at_, hat, rfl, rfl⟩
  have hfact : FactP ⟨tr, sp, sv, ve, 2 * sv + o2, pe - 1, tr / 10, lo', lo' + h3 * h30_, bb⟩ := ⟨by simp only; omega, by simp only; omega, by simp only; omega, by simp only; omega, by simp only; omega, by simp only; omega, rfl, by simp only; omega, by simp only; omega, by simp only; omega⟩
  apply c_seq
  refine c_meet (fun S8 L8 F8 => S8 = S7 ∧ L8 = [(b5, .cells [.int .i64 tr, .int .i64 sp, .int .i64 sv, .int .i64 ve, .int .i64 (2 * sv + o2), .int .i64 (pe - 1), .int .i64 (tr / 10), .int .i64 lo', .int .i64 (lo' + h3 * h30_), .int .i64 bb].toArray 27 (0, 0))] ∧ F8 = [(0, .slice A xs.length c), (3, .slice A2 l.length c2), (4, .int .i64 i), (5, .pointer (some ⟨b5, 0, none⟩)), (6, .int .i64 at_)]) ?_ ?_
  · by_cases hal : at_ < l.length
    rotate_left
    · (repeat (first | refine Jc ?_ | (apply c_draw; (case hB => kernel_rfl); refine JD ?_) | refine Jo ?_ | intro _))
      exact q_cut ⟨rfl, rfl, rfl⟩ sbF sbL
    obtain ⟨⟨ytr, ysp, ysv, yve, yop, ype, ydy, ylo, yhi, yby⟩, hy⟩ := at_lt' hal
    by_cases y1 : ytr = tr
    · by_cases y2 : ysp = sp
      · (repeat (first | refine Jc ?_ | (apply c_draw; (case hB => kernel_rfl); (repeat (first | (apply q_idx hA2; (case hg => rfl); (case hd => rfl); (case hx => rfl); (case hi => rfl); (case hm => rfl); (case hu => exact hy); intro p2 (hp2 : Pts _ p2 [.int .i64 ytr, .int .i64 ysp, .int .i64 ysv, .int .i64 yve, .int .i64 yop, .int .i64 ype, .int .i64 ydy, .int .i64 ylo, .int .i64 yhi, .int .i64 yby])) | (apply q_ev; (case hg => rfl); (case hd => rfl); (case he => (apply ev_load_f; (case hx => rfl); (case h => exact hp2); (case hv => rfl)))) | refine Jd ?_))) | (apply s_idx hA2; (case hg => rfl); (case hd => rfl); (case hx => rfl); (case hi => rfl); (case hm => rfl); (case hu => exact hy); intro p2 (hp2 : Pts _ p2 [.int .i64 ytr, .int .i64 ysp, .int .i64 ysv, .int .i64 yve, .int .i64 yop, .int .i64 ype, .int .i64 ydy, .int .i64 ylo, .int .i64 yhi, .int .i64 yby])) | (apply s_load_f; (case hg => rfl); (case hd => rfl); (case hx => rfl); (case h => exact hp2); (case hv => rfl)) | refine Jo ?_ | intro _))
        exact q_back (m' := xs.length - (i + 1)) ⟨hle, rfl, i + 1, A2, c2, l, rfl, by omega, by omega, hA2, hc2, by omega, hok, rfl⟩ (by omega) sbF sbL
      · (repeat (first | refine Jc ?_ | (apply c_draw; (case hB => kernel_rfl); (repeat (first | (apply q_idx hA2; (case hg => rfl); (case hd => rfl); (case hx => rfl); (case hi => rfl); (case hm => rfl); (case hu => exact hy); intro p2 (hp2 : Pts _ p2 [.int .i64 ytr, .int .i64 ysp, .int .i64 ysv, .int .i64 yve, .int .i64 yop, .int .i64 ype, .int .i64 ydy, .int .i64 ylo, .int .i64 yhi, .int .i64 yby])) | (apply q_ev; (case hg => rfl); (case hd => rfl); (case he => (apply ev_load_f; (case hx => rfl); (case h => exact hp2); (case hv => rfl)))) | refine Jd ?_))) | (apply s_idx hA2; (case hg => rfl); (case hd => rfl); (case hx => rfl); (case hi => rfl); (case hm => rfl); (case hu => exact hy); intro p2 (hp2 : Pts _ p2 [.int .i64 ytr, .int .i64 ysp, .int .i64 ysv, .int .i64 yve, .int .i64 yop, .int .i64 ype, .int .i64 ydy, .int .i64 ylo, .int .i64 yhi, .int .i64 yby])) | (apply s_load_f; (case hg => rfl); (case hd => rfl); (case hx => rfl); (case h => exact hp2); (case hv => rfl)) | refine Jo ?_ | intro _))
        exact q_cut ⟨rfl, rfl, rfl⟩ sbF sbL
    · (repeat (first | refine Jc ?_ | (apply c_draw; (case hB => kernel_rfl); (repeat (first | (apply q_idx hA2; (case hg => rfl); (case hd => rfl); (case hx => rfl); (case hi => rfl); (case hm => rfl); (case hu => exact hy); intro p2 (hp2 : Pts _ p2 [.int .i64 ytr, .int .i64 ysp, .int .i64 ysv, .int .i64 yve, .int .i64 yop, .int .i64 ype, .int .i64 ydy, .int .i64 ylo, .int .i64 yhi, .int .i64 yby])) | (apply q_ev; (case hg => rfl); (case hd => rfl); (case he => (apply ev_load_f; (case hx => rfl); (case h => exact hp2); (case hv => rfl)))) | refine Jd ?_))) | (apply s_idx hA2; (case hg => rfl); (case hd => rfl); (case hx => rfl); (case hi => rfl); (case hm => rfl); (case hu => exact hy); intro p2 (hp2 : Pts _ p2 [.int .i64 ytr, .int .i64 ysp, .int .i64 ysv, .int .i64 yve, .int .i64 yop, .int .i64 ype, .int .i64 ydy, .int .i64 ylo, .int .i64 yhi, .int .i64 yby])) | (apply s_load_f; (case hg => rfl); (case hd => rfl); (case hx => rfl); (case h => exact hp2); (case hv => rfl)) | refine Jo ?_ | intro _))
      exact q_cut ⟨rfl, rfl, rfl⟩ sbF sbL
  rintro S8 L8 F8 ⟨rfl, rfl, rfl⟩
  have htk : (l.take at_).length = at_ := by rw [List.length_take]; omega
  have hdr : (l.drop at_).length = l.length - at_ := List.length_drop
  have hAt : At S8 A2 (l.take at_) := fun h0 => by
    obtain ⟨p, e1, hp⟩ := hA2 (by omega)
    refine ⟨p, e1, fun j u hj => hp j u ?_⟩
    rw [← cellsOf_take] at hj
    rw [List.getElem?_take] at hj
    split at hj
    · exact hj
    · cases hj
  ((apply c_held ([(b5, .cells [.int .i64 tr, .int .i64 sp, .int .i64 sv, .int .i64 ve, .int .i64 (2 * sv + o2), .int .i64 (pe - 1), .int .i64 (tr / 10), .int .i64 lo', .int .i64 (lo' + h3 * h30_), .int .i64 bb].toArray 27 (0, 0))]); (case hL => (exact sbT))); (first | (apply h_first 0; (case hi => rfl); (case hr => kernel_rfl); (case hfr => kernel_rfl); (case hsel => kernel_rfl); (case hg => rfl); (case hd => rfl); (case he => (apply ev_slice_33; (case hx => rfl); (case hy => rfl); (case hz => rfl); (case hj => omega)))) | (apply h_slice_lo hA2 0; (case hi => rfl); (case hr => kernel_rfl); (case hfr => kernel_rfl); (case hsel => kernel_rfl); (case hg => rfl); (case hd => rfl); (case i1 => infer_instance); (case i2 => infer_instance); (case hx => rfl); (case hy => rfl); (case hm => rfl); (case hmc => omega); (case hj => omega); intro A9 hA9) | refine Jf 0 ?_); (first | (apply h_first 1; (case hi => rfl); (case hr => kernel_rfl); (case hfr => kernel_rfl); (case hsel => kernel_rfl); (case hg => rfl); (case hd => rfl); (case he => (apply ev_slice_33; (case hx => rfl); (case hy => rfl); (case hz => rfl); (case hj => omega)))) | (apply h_slice_lo hA2 1; (case hi => rfl); (case hr => kernel_rfl); (case hfr => kernel_rfl); (case hsel => kernel_rfl); (case hg => rfl); (case hd => rfl); (case i1 => infer_instance); (case i2 => infer_instance); (case hx => rfl); (case hy => rfl); (case hm => rfl); (case hmc => omega); (case hj => omega); intro A9 hA9) | refine Jf 1 ?_); (first | (apply h_first 2; (case hi => rfl); (case hr => kernel_rfl); (case hfr => kernel_rfl); (case hsel => kernel_rfl); (case hg => rfl); (case hd => rfl); (case he => (apply ev_slice_33; (case hx => rfl); (case hy => rfl); (case hz => rfl); (case hj => omega)))) | (apply h_slice_lo hA2 2; (case hi => rfl); (case hr => kernel_rfl); (case hfr => kernel_rfl); (case hsel => kernel_rfl); (case hg => rfl); (case hd => rfl); (case i1 => infer_instance); (case i2 => infer_instance); (case hx => rfl); (case hy => rfl); (case hm => rfl); (case hmc => omega); (case hj => omega); intro A9 hA9) | refine Jf 2 ?_); (first | (apply h_first 3; (case hi => rfl); (case hr => kernel_rfl); (case hfr => kernel_rfl); (case hsel => kernel_rfl); (case hg => rfl); (case hd => rfl); (case he => (apply ev_slice_33; (case hx => rfl); (case hy => rfl); (case hz => rfl); (case hj => omega)))) | (apply h_slice_lo hA2 3; (case hi => rfl); (case hr => kernel_rfl); (case hfr => kernel_rfl); (case hsel => kernel_rfl); (case hg => rfl); (case hd => rfl); (case i1 => infer_instance); (case i2 => infer_instance); (case hx => rfl); (case hy => rfl); (case hm => rfl); (case hmc => omega); (case hj => omega); intro A9 hA9) | refine Jf 3 ?_); (first | (apply h_first 4; (case hi => rfl); (case hr => kernel_rfl); (case hfr => kernel_rfl); (case hsel => kernel_rfl); (case hg => rfl); (case hd => rfl); (case he => (apply ev_slice_33; (case hx => rfl); (case hy => rfl); (case hz => rfl); (case hj => omega)))) | (apply h_slice_lo hA2 4; (case hi => rfl); (case hr => kernel_rfl); (case hfr => kernel_rfl); (case hsel => kernel_rfl); (case hg => rfl); (case hd => rfl); (case i1 => infer_instance); (case i2 => infer_instance); (case hx => rfl); (case hy => rfl); (case hm => rfl); (case hmc => omega); (case hj => omega); intro A9 hA9) | refine Jf 4 ?_); (first | (apply h_first 6; (case hi => rfl); (case hr => kernel_rfl); (case hfr => kernel_rfl); (case hsel => kernel_rfl); (case hg => rfl); (case hd => rfl); (case he => (apply ev_slice_33; (case hx => rfl); (case hy => rfl); (case hz => rfl); (case hj => omega)))) | (apply h_slice_lo hA2 6; (case hi => rfl); (case hr => kernel_rfl); (case hfr => kernel_rfl); (case hsel => kernel_rfl); (case hg => rfl); (case hd => rfl); (case i1 => infer_instance); (case i2 => infer_instance); (case hx => rfl); (case hy => rfl); (case hm => rfl); (case hmc => omega); (case hj => omega); intro A9 hA9) | refine Jf 6 ?_); (first | (apply h_first 7; (case hi => rfl); (case hr => kernel_rfl); (case hfr => kernel_rfl); (case hsel => kernel_rfl); (case hg => rfl); (case hd => rfl); (case he => (apply ev_slice_33; (case hx => rfl); (case hy => rfl); (case hz => rfl); (case hj => omega)))) | (apply h_slice_lo hA2 7; (case hi => rfl); (case hr => kernel_rfl); (case hfr => kernel_rfl); (case hsel => kernel_rfl); (case hg => rfl); (case hd => rfl); (case i1 => infer_instance); (case i2 => infer_instance); (case hx => rfl); (case hy => rfl); (case hm => rfl); (case hmc => omega); (case hj => omega); intro A9 hA9) | refine Jf 7 ?_); (first | (apply h_first 8; (case hi => rfl); (case hr => kernel_rfl); (case hfr => kernel_rfl); (case hsel => kernel_rfl); (case hg => rfl); (case hd => rfl); (case he => (apply ev_slice_33; (case hx => rfl); (case hy => rfl); (case hz => rfl); (case hj => omega)))) | (apply h_slice_lo hA2 8; (case hi => rfl); (case hr => kernel_rfl); (case hfr => kernel_rfl); (case hsel => kernel_rfl); (case hg => rfl); (case hd => rfl); (case i1 => infer_instance); (case i2 => infer_instance); (case hx => rfl); (case hy => rfl); (case hm => rfl); (case hmc => omega); (case hj => omega); intro A9 hA9) | refine Jf 8 ?_); (apply h_one 5; (case hr => kernel_rfl)); (first | (apply n_buildSlice; (case hi => rfl); (case hg => rfl); (case hd => rfl); (case i1 => infer_instance); (case i2 => infer_instance); (case i3 => infer_instance); (case hp => rfl); (case hq => rfl); (case hm => rfl); (case hv => rfl); (case hl => rfl); intro b0) | (apply n_append_st (ms := l.drop at_) hA9; (case hi => rfl); (case hT => infer_instance); (case hsz => infer_instance); (case hz => infer_instance); (case hby => infer_instance); (case hg => rfl); (case hd => rfl); (case hx => rfl); (case ho => exact Ows.full (α := Fa) (e := 27) (g := b0) (l := [⟨tr, sp, sv, ve, 2 * sv + o2, pe - 1, tr / 10, lo', lo' + h3 * h30_, bb⟩]) rfl (by simp [maxLen])); (case hL => (exact pmT)); (case hy => rfl); (case hm => rfl); (case hzs => rfl); (case h0 => decide); (case hb => (simp; omega)); (case h63 => (simp; omega)); (case hsub => (intro _ _; exact sbL)); intro v1 ob1 ho1) | (apply n_append_grow (ls := l.take at_) (ms := ([⟨tr, sp, sv, ve, 2 * sv + o2, pe - 1, tr / 10, lo', lo' + h3 * h30_, bb⟩] : List Fa) ++ l.drop at_) hAt; (case hi => rfl); (case hT => infer_instance); (case hsz => infer_instance); (case hz => infer_instance); (case hby => infer_instance); (case hg => rfl); (case hd => rfl); (case hx => rfl); (case hm => exact htk.symm); (case hy => rfl); (case ho => exact ho1); (case hp => (simp)); (case hL => (exact pmT)); (case hcp => (rw [htk, List.length_append]; simp only [List.length_singleton]; omega)); (case hzs => rfl); (case hfit => (rw [htk, List.length_append, hdr]; unfold Builtin.nextslicecap; simp only [List.length_singleton]; split <;> (try split) <;> omega)); (case h63 => (rw [htk, List.length_append, hdr]; simp only [List.length_singleton]; omega)); (case hsub => (intro _ _; exact sbL)); intro v2 ob2 ho2) | (refine Jn ?_; try intro _)); (apply h_one 9; (case hr => kernel_rfl)); (first | (apply n_buildSlice; (case hi => rfl); (case hg => rfl); (case hd => rfl); (case i1 => infer_instance); (case i2 => infer_instance); (case i3 => infer_instance); (case hp => rfl); (case hq => rfl); (case hm => rfl); (case hv => rfl); (case hl => rfl); intro b0) | (apply n_append_st (ms := l.drop at_) hA9; (case hi => rfl); (case hT => infer_instance); (case hsz => infer_instance); (case hz => infer_instance); (case hby => infer_instance); (case hg => rfl); (case hd => rfl); (case hx => rfl); (case ho => exact Ows.full (α := Fa) (e := 27) (g := b0) (l := [⟨tr, sp, sv, ve, 2 * sv + o2, pe - 1, tr / 10, lo', lo' + h3 * h30_, bb⟩]) rfl (by simp [maxLen])); (case hL => (exact pmT)); (case hy => rfl); (case hm => rfl); (case hzs => rfl); (case h0 => decide); (case hb => (simp; omega)); (case h63 => (simp; omega)); (case hsub => (intro _ _; exact sbL)); intro v1 ob1 ho1) | (apply n_append_grow (ls := l.take at_) (ms := ([⟨tr, sp, sv, ve, 2 * sv + o2, pe - 1, tr / 10, lo', lo' + h3 * h30_, bb⟩] : List Fa) ++ l.drop at_) hAt; (case hi => rfl); (case hT => infer_instance); (case hsz => infer_instance); (case hz => infer_instance); (case hby => infer_instance); (case hg => rfl); (case hd => rfl); (case hx => rfl); (case hm => exact htk.symm); (case hy => rfl); (case ho => exact ho1); (case hp => (simp)); (case hL => (exact pmT)); (case hcp => (rw [htk, List.length_append]; simp only [List.length_singleton]; omega)); (case hzs => rfl); (case hfit => (rw [htk, List.length_append, hdr]; unfold Builtin.nextslicecap; simp only [List.length_singleton]; split <;> (try split) <;> omega)); (case h63 => (rw [htk, List.length_append, hdr]; simp only [List.length_singleton]; omega)); (case hsub => (intro _ _; exact sbL)); intro v2 ob2 ho2) | (refine Jn ?_; try intro _)); (apply h_one 10; (case hr => kernel_rfl)); (first | (apply n_buildSlice; (case hi => rfl); (case hg => rfl); (case hd => rfl); (case i1 => infer_instance); (case i2 => infer_instance); (case i3 => infer_instance); (case hp => rfl); (case hq => rfl); (case hm => rfl); (case hv => rfl); (case hl => rfl); intro b0) | (apply n_append_st (ms := l.drop at_) hA9; (case hi => rfl); (case hT => infer_instance); (case hsz => infer_instance); (case hz => infer_instance); (case hby => infer_instance); (case hg => rfl); (case hd => rfl); (case hx => rfl); (case ho => exact Ows.full (α := Fa) (e := 27) (g := b0) (l := [⟨tr, sp, sv, ve, 2 * sv + o2, pe - 1, tr / 10, lo', lo' + h3 * h30_, bb⟩]) rfl (by simp [maxLen])); (case hL => (exact pmT)); (case hy => rfl); (case hm => rfl); (case hzs => rfl); (case h0 => decide); (case hb => (simp; omega)); (case h63 => (simp; omega)); (case hsub => (intro _ _; exact sbL)); intro v1 ob1 ho1) | (apply n_append_grow (ls := l.take at_) (ms := ([⟨tr, sp, sv, ve, 2 * sv + o2, pe - 1, tr / 10, lo', lo' + h3 * h30_, bb⟩] : List Fa) ++ l.drop at_) hAt; (case hi => rfl); (case hT => infer_instance); (case hsz => infer_instance); (case hz => infer_instance); (case hby => infer_instance); (case hg => rfl); (case hd => rfl); (case hx => rfl); (case hm => exact htk.symm); (case hy => rfl); (case ho => exact ho1); (case hp => (simp)); (case hL => (exact pmT)); (case hcp => (rw [htk, List.length_append]; simp only [List.length_singleton]; omega)); (case hzs => rfl); (case hfit => (rw [htk, List.length_append, hdr]; unfold Builtin.nextslicecap; simp only [List.length_singleton]; split <;> (try split) <;> omega)); (case h63 => (rw [htk, List.length_append, hdr]; simp only [List.length_singleton]; omega)); (case hsub => (intro _ _; exact sbL)); intro v2 ob2 ho2) | (refine Jn ?_; try intro _)); (first | (apply h_first 11; (case hi => rfl); (case hr => kernel_rfl); (case hfr => kernel_rfl); (case hsel => kernel_rfl); (case hg => rfl); (case hd => rfl); (case he => (apply ev_slice_33; (case hx => rfl); (case hy => rfl); (case hz => rfl); (case hj => omega)))) | (apply h_slice_lo hA2 11; (case hi => rfl); (case hr => kernel_rfl); (case hfr => kernel_rfl); (case hsel => kernel_rfl); (case hg => rfl); (case hd => rfl); (case i1 => infer_instance); (case i2 => infer_instance); (case hx => rfl); (case hy => rfl); (case hm => rfl); (case hmc => omega); (case hj => omega); intro A9 hA9) | refine Jf 11 ?_); (apply h_end; (case hr => kernel_rfl)))
  refine W.freezeOws ho2 (by repeat (first | exact pm_nil _ | exact pm_refl _ _ | exact pm_self _ | refine pm_cons ?_ | refine pm_app ?_)) fun S9 hle9 hsr => ?_
  obtain ⟨A10, c10, rfl, hc10, hA10⟩ := hsr
  have hln : (l.take at_ ++ (([⟨tr, sp, sv, ve, 2 * sv + o2, pe - 1, tr / 10, lo', lo' + h3 * h30_, bb⟩] : List Fa) ++ l.drop at_)).length = l.length + 1 := by
    rw [List.length_append, List.length_append, htk, hdr]; simp only [List.length_singleton]; omega
  (repeat (first | refine Jz ?_ | intro _))
  refine q_back (m' := xs.length - (i + 1)) ⟨hle.trans hle9, rfl, i + 1, A10, c10, _, rfl, by omega, by omega, hA10, hc10, by omega, ?_, rfl⟩ (by omega) sbF (List.nil_sublist _)
  intro y hy
  rcases List.mem_append.1 hy with hy | hy
  · exact hok y (List.mem_of_mem_take hy)
  rcases List.mem_append.1 hy with hy | hy
  · rw [List.mem_singleton.1 hy]; exact hfact
  · exact hok y (List.mem_of_mem_drop hy)
end Go.Proofs.YtogfficbloejcaaDoor
namespace Go.Proofs.YtogfficbloejcaaDoor
open Go Go.X
def fkey (x : Fa) : List Int := [x.sv, x.ve, x.op, x.dy]
def sumF (L : List Fa) (k : List Int) (φ : Fa → Int) : Int := ((L.filter fun x => fkey x == k).map φ).sum
def uF (b : Fa → Int) (i : Nat) (x : Fa) : Int := if (i : Int) = b x then 1 else 0
def bLo (x : Fa) : Int := bucket x.lo
def bHi (x : Fa) : Int := bucket x.hi
def rowF (L : List Fa) (k : List Int) (b : Fa → Int) : List Int := (List.range 44).map fun i => sumF L k (uF b i)
/-- What the facts with a key come to. -/
def vecOf (L : List Fa) (k : List Int) : Vec := ⟨sumF L k fun _ => 1, sumF L k (·.lo), sumF L k (·.hi), sumF L k (·.by_), rowF L k bLo, rowF L k bHi⟩
theorem sumF_nil (k : List Int) (φ : Fa → Int) : sumF [] k φ = 0 := rfl
theorem sumF_app (L M : List Fa) (k : List Int) (φ : Fa → Int) : sumF (L ++ M) k φ = sumF L k φ + sumF M k φ := by simp [sumF, List.sum_append]
theorem sumF_cons (x : Fa) (L : List Fa) (k : List Int) (φ : Fa → Int) : sumF (x :: L) k φ = (if fkey x = k then φ x else 0) + sumF L k φ := by
  unfold sumF
  by_cases h : fkey x = k
  · rw [List.filter_cons_of_pos (by simpa using h), if_pos h]; simp
  · rw [List.filter_cons_of_neg (by simpa using h), if_neg h]; simp
theorem perm_sum {l m : List Int} (h : l.Perm m) : l.sum = m.sum := by
  induction h with
  | nil => rfl
  | cons x _ ih => simp only [List.sum_cons, ih]
  | swap x y l => simp only [List.sum_cons]; omega
  | trans _ _ i1 i2 => exact i1.trans i2
theorem sum_zero (l : List Nat) : (l.map fun _ => (0 : Int)).sum = 0 := by
  induction l with
  | nil => rfl
  | cons x l ih => simp only [List.map_cons, List.sum_cons, ih]; rfl
theorem sumF_perm {L M : List Fa} (h : L.Perm M) (k : List Int) (φ : Fa → Int) : sumF L k φ = sumF M k φ := perm_sum ((h.filter _).map φ)
theorem vecOf_perm {L M : List Fa} (h : L.Perm M) (k : List Int) : vecOf L k = vecOf M k := by
  unfold vecOf rowF
  simp only [sumF_perm h]
theorem sumF_bd {L : List Fa} {φ : Fa → Int} {B : Int} (h : ∀ x ∈ L, 0 ≤ φ x ∧ φ x ≤ B) (k : List Int) : 0 ≤ sumF L k φ ∧ sumF L k φ ≤ L.length * B := by
  induction L with
  | nil => simp [sumF_nil]
  | cons x L ih =>
    obtain ⟨i1, i2⟩ := ih fun y hy => h y (List.mem_cons_of_mem _ hy)
    obtain ⟨h1, h2⟩ := h x List.mem_cons_self
    rw [sumF_cons, List.length_cons]
    have e : ((L.length + 1 : Nat) : Int) * B = L.length * B + B := by rw [Int.natCast_add, Int.add_mul]; simp
    split <;> omega
theorem sumF_le {L : List Fa} {φ ψ : Fa → Int} (h : ∀ x ∈ L, φ x ≤ ψ x) (k : List Int) : sumF L k φ ≤ sumF L k ψ := by
  induction L with
  | nil => simp [sumF_nil]
  | cons x L ih =>
    have i1 := ih fun y hy => h y (List.mem_cons_of_mem _ hy)
    have h1 := h x List.mem_cons_self
    rw [sumF_cons, sumF_cons]
    split <;> omega
theorem sumF_mul (L : List Fa) (k : List Int) (φ : Fa → Int) (c : Int) : sumF L k (fun x => c * φ x) = c * sumF L k φ := by
  induction L with
  | nil => simp [sumF_nil]
  | cons x L ih =>
    rw [sumF_cons, sumF_cons, ih, Int.mul_add]
    split <;> simp
theorem count_pos {L : List Fa} {k : List Int} : (1 ≤ sumF L k fun _ => 1) ↔ ∃ x ∈ L, fkey x = k := by
  induction L with
  | nil => simp [sumF_nil]
  | cons x L ih =>
    rw [sumF_cons]
    have h0 := (sumF_bd (L := L) (φ := fun _ => 1) (B := 1) (fun _ _ => by omega) k).1
    by_cases h : fkey x = k
    · rw [if_pos h]
      exact ⟨fun _ => ⟨x, List.mem_cons_self, h⟩, fun _ => by omega⟩
    · rw [if_neg h, Int.zero_add, ih]
      constructor
      · rintro ⟨y, hy, e⟩; exact ⟨y, List.mem_cons_of_mem _ hy, e⟩
      · rintro ⟨y, hy, e⟩
        rcases List.mem_cons.1 hy with rfl | hy
        · exact absurd e h
        · exact ⟨y, hy, e⟩
/-- Sums over buckets, and sums over facts. -/
theorem sumE_range (f : Int → Int) : ∀ (m k : Nat) (g : Nat → Int), sumE f k ((List.range m).map g) = ((List.range m).map fun i => g i * f ((k + i : Nat) : Int)).sum
  | 0, _, _ => rfl
  | m + 1, k, g => by
    rw [List.range_succ, List.map_append, List.map_append, List.sum_append]
    have := sumE_snoc f k ((List.range m).map g) (g m)
    rw [show List.map g [m] = [g m] from rfl, this, sumE_range f m k g]
    simp
theorem sum_unit (f : Int → Int) (b : Int) : ∀ (m : Nat), 0 ≤ b → ((List.range m).map fun (i : Nat) => (if (i : Int) = b then 1 else 0) * f (i : Int)).sum = if b < m then f b else 0
  | 0, h => by simp; omega
  | m + 1, h => by
    rw [List.range_succ, List.map_append, List.sum_append, sum_unit f b m h]
    simp only [List.map_cons, List.map_nil, List.sum_cons, List.sum_nil]
    by_cases h1 : (m : Int) = b
    · subst h1
      rw [if_pos rfl, if_neg (by omega), if_pos (by omega)]; simp
    · rw [if_neg h1]
      by_cases h2 : b < m
      · rw [if_pos h2, if_pos (by omega)]; simp
      · rw [if_neg h2, if_neg (by omega)]; simp
theorem sum_map_add (f g : Nat → Int) : ∀ l : List Nat, (l.map fun i => f i + g i).sum = (l.map f).sum + (l.map g).sum
  | [] => rfl
  | i :: l => by
    have := sum_map_add f g l
    simp only [List.map_cons, List.sum_cons, this]; omega
theorem sumE_row (f : Int → Int) (b : Fa → Int) : ∀ (L : List Fa) (k : List Int), (∀ x ∈ L, 0 ≤ b x ∧ b x < 44) → sumE f 0 (rowF L k b) = sumF L k fun x => f (b x)
  | [], k, _ => by
    unfold rowF
    rw [sumE_range]
    simp only [sumF_nil, Int.zero_mul]
    exact sum_zero _
  | x :: L, k, h => by
    have ih := sumE_row f b L k fun y hy => h y (List.mem_cons_of_mem _ hy)
    obtain ⟨h1, h2⟩ := h x List.mem_cons_self
    unfold rowF at ih ⊢
    rw [sumE_range] at ih ⊢
    rw [sumF_cons, ← ih]
    have e : (fun i : Nat => sumF (x :: L) k (uF b i) * f ((0 + i : Nat) : Int)) = fun i : Nat => (if fkey x = k then (if (i : Int) = b x then 1 else 0) * f (i : Int) else 0) + sumF L k (uF b i) * f ((0 + i : Nat) : Int) := by
      funext i
      rw [sumF_cons, Int.add_mul]
      congr 1
      rw [Nat.zero_add]
      split <;> simp [uF]
    rw [e, sum_map_add]
    congr 1
    by_cases hk : fkey x = k
    · simp only [hk, if_true]
      rw [sum_unit f (b x) 44 h1, if_pos (by omega)]
    · simp only [if_neg hk]
      exact sum_zero _
theorem sum_row (b : Fa → Int) (L : List Fa) (k : List Int) (h : ∀ x ∈ L, 0 ≤ b x ∧ b x < 44) : (rowF L k b).sum = sumF L k fun _ => 1 := by
  have h1 := sumE_row (fun _ => 1) b L k h
  rw [← h1]
  unfold rowF
  rw [sumE_range]
  simp
theorem rowF_len (L : List Fa) (k : List Int) (b : Fa → Int) : (rowF L k b).length = 44 := by simp [rowF]
theorem bucket_edges {d : Int} (h : 0 ≤ d ∧ d ≤ 4398046511104) : 0 ≤ bucket d ∧ bucket d < 44 ∧ eLo (bucket d) ≤ d ∧ d ≤ eHi (bucket d) := by
  have e : bucket d = (Lib.bitLen d.toNat : Nat) := by unfold bucket; rw [if_neg (by omega)]
  obtain ⟨m, rfl⟩ : ∃ m : Nat, d = m := ⟨d.toNat, by omega⟩
  rw [Int.toNat_natCast] at e
  have hm : m ≤ 4398046511104 := by omega
  rw [e]
  have key : m = 0 ∧ Lib.bitLen m = 0 ∨ ∃ j : Nat, Lib.bitLen m = j + 1 ∧ 2 ^ j ≤ m ∧ m < 2 ^ (j + 1) := by
    rcases Nat.eq_zero_or_pos m with h0 | h0
    · subst h0; exact .inl ⟨rfl, rfl⟩
    · obtain ⟨b1, b2, b3⟩ := Lib.bitLenAux_bounds 64 m (by omega) (by omega)
      have hb : Lib.bitLen m = Lib.bitLenAux 64 m := rfl
      obtain ⟨j, hj⟩ : ∃ j, Lib.bitLenAux 64 m = j + 1 := ⟨Lib.bitLenAux 64 m - 1, by omega⟩
      rw [hj] at b2 b3
      exact .inr ⟨j, by rw [hb, hj], by simpa using b2, b3⟩
  rcases key with ⟨h0, h1⟩ | ⟨j, h1, h2, h3⟩
  · rw [h1, h0]; decide
  · have hj : j ≤ 42 := by
      rcases Nat.lt_or_ge 42 j with h | h
      · have : 2 ^ 43 ≤ 2 ^ j := Nat.pow_le_pow_right (by decide) h
        have e43 : (2 : Nat) ^ 43 = 8796093022208 := rfl
        omega
      · exact h
    rw [h1]
    refine ⟨by omega, by omega, ?_, ?_⟩
    · unfold eLo edges
      rw [if_neg (by omega), if_neg (by omega)]
      by_cases h42 : j = 42
      · subst h42; rw [if_pos (by decide)]; have e42 : (2 : Nat) ^ 42 = 4398046511104 := rfl; simp only; omega
      · rw [if_neg (by omega)]
        simp only [Int.toNat_natCast, Nat.add_sub_cancel]
        omega
    · unfold eHi edges
      rw [if_neg (by omega), if_neg (by omega)]
      by_cases h42 : j = 42
      · subst h42; rw [if_pos (by decide)]; simp only; omega
      · rw [if_neg (by omega)]
        simp only [Int.toNat_natCast]
        omega
theorem counts_vec {L : List Fa} {k : List Int} {b : Fa → Int} {φ : Fa → Int} (hL : L.length ≤ 1000000) (hb : ∀ x ∈ L, 0 ≤ b x ∧ b x < 44 ∧ eLo (b x) ≤ φ x ∧ φ x ≤ eHi (b x)) : CountsP (rowF L k b) (sumF L k fun _ => 1) (sumF L k φ) := by
  have hb' : ∀ x ∈ L, 0 ≤ b x ∧ b x < 44 := fun x hx => ⟨(hb x hx).1, (hb x hx).2.1⟩
  refine ⟨rowF_len L k b, fun c hc => ?_, sum_row b L k hb', ?_, ?_⟩
  · obtain ⟨i, _, rfl⟩ := List.mem_map.1 hc
    have := sumF_bd (L := L) (φ := uF b i) (B := 1) (fun x _ => by unfold uF; split <;> omega) k
    omega
  · rw [sumE_row eLo b L k hb']; exact sumF_le (fun x hx => (hb x hx).2.2.1) k
  · rw [sumE_row eHi b L k hb']; exact sumF_le (fun x hx => (hb x hx).2.2.2) k
theorem fact_lo {x : Fa} (h : FactP x) : 0 ≤ x.lo ∧ x.lo ≤ 4398046511104 := ⟨h.lo1.1, by have := h.lo1.2; have := h.hi1; omega⟩
theorem fact_hi {x : Fa} (h : FactP x) : 0 ≤ x.hi ∧ x.hi ≤ 4398046511104 := ⟨by have := h.lo1; omega, h.hi1⟩
theorem cell_vec {L : List Fa} {k : List Int} (hL : L.length ≤ 1000000) (hf : ∀ x ∈ L, FactP x) (hk : ∃ x ∈ L, fkey x = k) : CellP (vecOf L k) := by
  have h1 := count_pos.2 hk
  have h2 := (sumF_bd (L := L) (φ := fun _ => 1) (B := 1) (fun _ _ => by omega) k).2
  refine ⟨h1, by simp only [vecOf]; omega, (sumF_bd (fun x hx => (hf x hx).by1) k).1, ?_, counts_vec hL fun x hx => bucket_edges (fact_lo (hf x hx)), counts_vec hL fun x hx => bucket_edges (fact_hi (hf x hx))⟩
  have h3 := sumF_le (L := L) (φ := (·.by_)) (ψ := fun _ => 24000 * 1) (fun x hx => by have := (hf x hx).by1.2; omega) k
  rw [sumF_mul L k (fun _ => 1) 24000] at h3
  exact h3
theorem key_fact {x : Fa} (h : FactP x) : KeyP (fkey x) := by
  intro j a b ha hb
  have e1 := h.sv1; have e2 := h.ve1; have e3 := h.op1; have e4 := h.dy1; have e5 := h.tr1
  match j with
  | 0 => simp only [fkey, limsL, List.getElem?_cons_zero, Option.some.injEq] at ha hb; omega
  | 1 => simp only [fkey, limsL, List.getElem?_cons_succ, List.getElem?_cons_zero, Option.some.injEq] at ha hb; omega
  | 2 => simp only [fkey, limsL, List.getElem?_cons_succ, List.getElem?_cons_zero, Option.some.injEq] at ha hb; omega
  | 3 => simp only [fkey, limsL, List.getElem?_cons_succ, List.getElem?_cons_zero, Option.some.injEq] at ha hb; omega
  | j + 4 => simp [fkey] at ha
end Go.Proofs.YtogfficbloejcaaDoor
namespace Go.Proofs.YtogfficbloejcaaDoor
open Go Go.X
/-! Association lists. -/
theorem lookG_ups {β : Type} (k k' : List Int) (v : β) : ∀ m : List (List Int × β), lookG k (upsG k' v m) = if k = k' then some v else lookG k m
  | [] => by simp [upsG, lookG]
  | (a, b) :: r => by
    simp only [upsG]
    by_cases h : k' = a
    · subst h
      rw [if_pos rfl]
      simp only [lookG]
      by_cases h2 : k = k' <;> simp [h2]
    · rw [if_neg h]
      simp only [lookG, lookG_ups k k' v r]
      by_cases h2 : k = a
      · subst h2; rw [if_pos rfl, if_neg (fun e => h e.symm)]; simp
      · rw [if_neg h2, if_neg h2]
theorem lookG_some {β : Type} {k : List Int} {v : β} : ∀ {m : List (List Int × β)}, (m.map (·.1)).Nodup → (k, v) ∈ m → lookG k m = some v
  | (a, b) :: r, h1, h2 => by
    simp only [List.map_cons, List.nodup_cons] at h1
    simp only [lookG]
    rcases List.mem_cons.1 h2 with h | h
    · injection h with e1 e2; subst e1 e2; simp
    · rw [if_neg, lookG_some h1.2 h]
      rintro rfl
      exact h1.1 (List.mem_map.2 ⟨_, h, rfl⟩)
theorem upsG_keys {β : Type} {k a : List Int} {v : β} : ∀ {m : List (List Int × β)}, a ∈ (upsG k v m).map (·.1) → a = k ∨ a ∈ m.map (·.1)
  | [], h => .inl (by simpa [upsG] using h)
  | (b, c) :: r, h => by
    simp only [upsG] at h
    split at h
    · rename_i e
      rcases List.mem_cons.1 h with h | h
      · exact .inl h
      · exact .inr (List.mem_cons_of_mem _ h)
    · rcases List.mem_cons.1 h with h | h
      · exact .inr (h ▸ List.mem_cons_self)
      · exact (upsG_keys h).imp id (List.mem_cons_of_mem _)
theorem upsG_nodup {β : Type} {k : List Int} {v : β} : ∀ {m : List (List Int × β)}, (m.map (·.1)).Nodup → ((upsG k v m).map (·.1)).Nodup
  | [], _ => by simp [upsG]
  | (b, c) :: r, h => by
    simp only [List.map_cons, List.nodup_cons] at h
    simp only [upsG]
    split
    · rename_i e
      subst e
      simp only [List.map_cons, List.nodup_cons]; exact h
    · rename_i e
      simp only [List.map_cons, List.nodup_cons]
      exact ⟨fun hm => (upsG_keys hm).elim (fun e2 => e e2.symm) h.1, upsG_nodup h.2⟩
theorem foldM_nodup (g : Int → Int → Int) : ∀ (cs : List PC) (A : List (List Int × Vec)), (A.map (·.1)).Nodup → ((foldM g cs A).map (·.1)).Nodup
  | [], _, h => h
  | _ :: cs, _, h => foldM_nodup g cs _ (upsG_nodup h)
theorem foldM_four (g : Int → Int → Int) : ∀ (cs : List PC) (A : List (List Int × Vec)), (∀ p ∈ A, p.1.length = 4) → ∀ p ∈ foldM g cs A, p.1.length = 4
  | [], _, h => h
  | c :: cs, A, h => foldM_four g cs _ fun p hp => (upsG_mem hp).elim (fun e => by rw [e]; rfl) (h p)
theorem fold_look (g : Int → Int → Int) (k : List Int) : ∀ (cs : List PC) (A : List (List Int × Vec)), (cs.map PC.key).Nodup →
    (∀ c ∈ cs, c.key = k → lookG k (foldM g cs A) = some (vop g ((lookG k A).getD zeroV) c.x)) ∧ ((∀ c ∈ cs, c.key ≠ k) → lookG k (foldM g cs A) = lookG k A)
  | [], A, _ => ⟨fun c hc => absurd hc List.not_mem_nil, fun _ => rfl⟩
  | c :: cs, A, h => by
    simp only [List.map_cons, List.nodup_cons] at h
    obtain ⟨i1, i2⟩ := fold_look g k cs (stepM g A c) h.2
    have hs : lookG k (stepM g A c) = if k = c.key then some (vop g ((lookG c.key A).getD zeroV) c.x) else lookG k A := lookG_ups _ _ _ _
    refine ⟨fun d hd hk => ?_, fun hall => ?_⟩
    · rcases List.mem_cons.1 hd with rfl | hd
      · show lookG k (foldM g cs (stepM g A d)) = _
        rw [i2 fun e he hek => h.1 (List.mem_map.2 ⟨e, he, hek.trans hk.symm⟩), hs, if_pos hk.symm, hk]
      · show lookG k (foldM g cs (stepM g A c)) = _
        rw [i1 d hd hk, hs, if_neg]
        rintro rfl
        exact h.1 (List.mem_map.2 ⟨d, hd, hk⟩)
    · show lookG k (foldM g cs (stepM g A c)) = _
      rw [i2 fun e he => hall e (List.mem_cons_of_mem _ he), hs, if_neg fun e => hall c List.mem_cons_self e.symm]
/-! Sketches of facts. -/
abbrev Has (L : List Fa) (k : List Int) : Prop := ∃ x ∈ L, fkey x = k
/-- This is the sketch of these facts. -/
structure IsSk (l : List PC) (L : List Fa) : Prop where
  asc : l.Pairwise fun a b => cmpL a.key b.key < 0
  mem : ∀ c, c ∈ l ↔ Has L c.key ∧ c.x = vecOf L c.key
theorem pairwise_nodup {l : List PC} (h : l.Pairwise fun a b => cmpL a.key b.key < 0) : (l.map PC.key).Nodup := by
  rw [List.nodup_iff_pairwise_ne, List.pairwise_map]
  exact h.imp fun {a b} hab e => by rw [e, cmpL_self] at hab; omega
theorem pc_ext {a b : PC} (h : a.key = b.key) (h2 : a.x = b.x) : a = b := by
  obtain ⟨s, v, o, d, x⟩ := a
  obtain ⟨s', v', o', d', x'⟩ := b
  simp only [PC.key, List.cons.injEq, and_true] at h
  obtain ⟨rfl, rfl, rfl, rfl⟩ := h
  cases h2; rfl
theorem sorted_eq : ∀ {l m : List PC}, l.Pairwise (fun a b => cmpL a.key b.key < 0) → m.Pairwise (fun a b => cmpL a.key b.key < 0) → (∀ c, c ∈ l ↔ c ∈ m) → l = m
  | [], [], _, _, _ => rfl
  | [], b :: m, _, _, h => absurd ((h b).2 List.mem_cons_self) List.not_mem_nil
  | a :: l, [], _, _, h => absurd ((h a).1 List.mem_cons_self) List.not_mem_nil
  | a :: l, b :: m, h1, h2, h => by
    obtain ⟨p1, p2⟩ := List.pairwise_cons.1 h1
    obtain ⟨q1, q2⟩ := List.pairwise_cons.1 h2
    have hab : a = b := by
      rcases List.mem_cons.1 ((h a).1 List.mem_cons_self) with e | e
      · exact e
      rcases List.mem_cons.1 ((h b).2 List.mem_cons_self) with e2 | e2
      · exact e2.symm
      have r1 := q1 a e
      have r2 := p1 b e2
      have r3 := cmpL_neg a.key b.key
      omega
    subst hab
    have irr : ∀ (x : PC), ¬ cmpL x.key x.key < 0 := fun x => by rw [cmpL_self]; omega
    rw [sorted_eq p2 q2 fun c => ?_]
    constructor
    · intro hc
      rcases List.mem_cons.1 ((h c).1 (List.mem_cons_of_mem _ hc)) with e | e
      · exact absurd (e ▸ p1 c hc) (irr a)
      · exact e
    · intro hc
      rcases List.mem_cons.1 ((h c).2 (List.mem_cons_of_mem _ hc)) with e | e
      · exact absurd (e ▸ q1 c hc) (irr a)
      · exact e
theorem IsSk.unique {l m : List PC} {L M : List Fa} (h1 : IsSk l L) (h2 : IsSk m M) (hp : L.Perm M) : l = m :=
  sorted_eq h1.asc h2.asc fun c => by
    rw [h1.mem, h2.mem, vecOf_perm hp]
    have : Has L c.key ↔ Has M c.key := ⟨fun ⟨x, hx, e⟩ => ⟨x, hp.mem_iff.1 hx, e⟩, fun ⟨x, hx, e⟩ => ⟨x, hp.mem_iff.2 hx, e⟩⟩
    rw [this]
theorem nodup_len {α : Type} [DecidableEq α] : ∀ {l m : List α}, l.Nodup → (∀ a ∈ l, a ∈ m) → l.length ≤ m.length
  | [], m, _, _ => Nat.zero_le _
  | a :: l, m, h1, h2 => by
    obtain ⟨n1, n2⟩ := List.nodup_cons.1 h1
    have ha := h2 a List.mem_cons_self
    have := nodup_len (m := m.erase a) n2 fun b hb => (List.mem_erase_of_ne (by rintro rfl; exact n1 hb)).2 (h2 b (List.mem_cons_of_mem _ hb))
    rw [List.length_erase_of_mem ha] at this
    have := List.length_pos_of_mem ha
    simp only [List.length_cons]; omega
theorem IsSk.len {l : List PC} {L : List Fa} (h : IsSk l L) : l.length ≤ L.length := by
  have h1 := nodup_len (l := l.map PC.key) (m := L.map fkey) (pairwise_nodup h.asc) fun k hk => by
    obtain ⟨c, hc, rfl⟩ := List.mem_map.1 hk
    obtain ⟨x, hx, e⟩ := ((h.mem c).1 hc).1
    exact List.mem_map.2 ⟨x, hx, e⟩
  simpa using h1
theorem IsSk.valid {l : List PC} {L : List Fa} (h : IsSk l L) (hf : ∀ x ∈ L, FactP x) (hL : L.length ≤ 400) : ValidP l := by
  refine ⟨fun c hc => ?_, fun i a b ha hb => ?_, Nat.le_trans h.len hL⟩
  · obtain ⟨h1, h2⟩ := (h.mem c).1 hc
    refine ⟨?_, by rw [h2]; exact cell_vec (by omega) hf h1⟩
    obtain ⟨x, hx, e⟩ := h1
    rw [← e]; exact key_fact (hf x hx)
  · obtain ⟨p1, p2⟩ := List.getElem?_eq_some_iff.1 ha
    obtain ⟨q1, q2⟩ := List.getElem?_eq_some_iff.1 hb
    have := List.pairwise_iff_getElem.1 h.asc i (i + 1) p1 q1 (by omega)
    rwa [p2, q2] at this
theorem mkPC_key {k : List Int} {x : Vec} (h : k.length = 4) : (mkPC k x).key = k := by
  match k, h with
  | [a, b, c, d], _ => rfl
theorem vec_not_void {L : List Fa} {k : List Int} (h : Has L k) : ¬ VoidV (vecOf L k) := fun hv => by
  have h1 := count_pos.2 h
  have h2 := hv.n
  simp only [vecOf] at h2
  omega
/-- What join yields, where the map holds the facts' sums, and otherwise nothing but what is void. -/
theorem join_sk {M : List (List Int × Vec)} {N : List Fa} {l : List PC} {e : Int} (hj : JoinP M l e) (hnd : (M.map (·.1)).Nodup) (h4 : ∀ p ∈ M, p.1.length = 4)
    (hin : ∀ k, Has N k → lookG k M = some (vecOf N k)) (hout : ∀ k v, lookG k M = some v → ¬ Has N k → VoidV v) (hf : ∀ x ∈ N, FactP x) (hN : N.length ≤ 400) : IsSk l N ∧ e = 0 := by
  obtain ⟨l0, hp, hs, hr⟩ := hj
  have hmem : ∀ c, c ∈ l0 ↔ Has N c.key ∧ c.x = vecOf N c.key := by
    intro c
    rw [hp.mem_iff, kept, List.mem_filter]
    constructor
    · rintro ⟨h1, h2⟩
      obtain ⟨⟨k, v⟩, hk, rfl⟩ := List.mem_map.1 h1
      have hk4 := h4 _ hk
      simp only at hk4
      have hl := lookG_some hnd hk
      simp only
      rw [mkPC_key hk4]
      have hx : (mkPC k v).x = v := rfl
      rw [hx] at h2 ⊢
      by_cases hh : Has N k
      · rw [hin k hh] at hl
        cases hl
        exact ⟨hh, rfl⟩
      · have := hout k v hl hh
        rw [bP_t this] at h2
        cases h2
    · rintro ⟨h1, h2⟩
      refine ⟨List.mem_map.2 ⟨(c.key, c.x), ?_, pc_ext (mkPC_key rfl) rfl⟩, ?_⟩
      · have := lookG_mem (hin _ h1)
        rw [h2]; exact this
      · rw [h2, bP_f (vec_not_void h1)]; rfl
  have hndk : (l0.map PC.key).Nodup := by
    refine (hp.map PC.key).nodup_iff.2 ?_
    have hsub : (kept (M.map fun p => mkPC p.1 p.2)).Sublist (M.map fun p => mkPC p.1 p.2) := List.filter_sublist
    refine List.Nodup.sublist (hsub.map PC.key) ?_
    rw [List.map_map]
    have e1 : M.map (PC.key ∘ fun p => mkPC p.1 p.2) = M.map (·.1) := List.map_congr_left fun p hp' => mkPC_key (h4 p hp')
    rw [e1]; exact hnd
  have hsk : IsSk l0 N := by
    refine ⟨?_, hmem⟩
    have hne : l0.Pairwise fun a b => a.key ≠ b.key := by
      rw [List.nodup_iff_pairwise_ne, List.pairwise_map] at hndk; exact hndk
    refine (hs.and hne).imp fun {a b} ⟨h1, h2⟩ => ?_
    have r1 := cmpL_neg a.key b.key
    rcases Int.lt_trichotomy (cmpL a.key b.key) 0 with h | h | h
    · exact h
    · exact absurd (cmpL_eq0 h) h2
    · omega
  rcases hr with ⟨_, rfl, rfl⟩ | ⟨h1, _⟩
  · exact ⟨hsk, rfl⟩
  · exact absurd (hsk.valid hf hN) h1
end Go.Proofs.YtogfficbloejcaaDoor
namespace Go.Proofs.YtogfficbloejcaaDoor
open Go Go.X
def rng (n : Int) : Prop := -4000000000000000000 ≤ n ∧ n ≤ 4000000000000000000
theorem plusW_eq {a b : Int} (ha : rng a) (hb : rng b) : plusW a b = a + b := w64_in (by unfold rng at *; omega)
theorem minusW_eq {a b : Int} (ha : rng a) (hb : rng b) : minusW a b = a - b := w64_in (by unfold rng at *; omega)
/-- Facts that fit a sketch. -/
structure Good (L : List Fa) : Prop where
  each : ∀ x ∈ L, FactP x
  len : L.length ≤ 400
theorem Good.perm {L M : List Fa} (h : Good L) (hp : L.Perm M) : Good M := ⟨fun x hx => h.each x (hp.mem_iff.2 hx), by rw [← hp.length_eq]; exact h.len⟩
theorem Good.sub {L M : List Fa} (h : Good L) (hm : ∀ x ∈ M, x ∈ L) (hl : M.length ≤ L.length) : Good M := ⟨fun x hx => h.each x (hm x hx), Nat.le_trans hl h.len⟩
theorem rng_sum {L : List Fa} (hL : Good L) {φ : Fa → Int} (h : ∀ x ∈ L, 0 ≤ φ x ∧ φ x ≤ 4398046511104) (k : List Int) : rng (sumF L k φ) := by
  obtain ⟨h1, h2⟩ := sumF_bd h k
  have := hL.len
  have h3 : (L.length : Int) * 4398046511104 ≤ 400 * 4398046511104 := Int.mul_le_mul_of_nonneg_right (by omega) (by decide)
  unfold rng; omega
theorem rng_n {L : List Fa} (hL : Good L) (k : List Int) : rng (sumF L k fun _ => 1) := rng_sum hL (fun _ _ => by omega) k
theorem rng_lo {L : List Fa} (hL : Good L) (k : List Int) : rng (sumF L k (·.lo)) := rng_sum hL (fun x hx => fact_lo (hL.each x hx)) k
theorem rng_hi {L : List Fa} (hL : Good L) (k : List Int) : rng (sumF L k (·.hi)) := rng_sum hL (fun x hx => fact_hi (hL.each x hx)) k
theorem rng_by {L : List Fa} (hL : Good L) (k : List Int) : rng (sumF L k (·.by_)) := rng_sum hL (fun x hx => by have := (hL.each x hx).by1; omega) k
theorem rng_u {L : List Fa} (hL : Good L) (k : List Int) (b : Fa → Int) (i : Nat) : rng (sumF L k (uF b i)) := rng_sum hL (fun x _ => by unfold uF; split <;> omega) k
theorem row_at (L : List Fa) (k : List Int) (b : Fa → Int) {i : Nat} (h : i < 44) : (rowF L k b).getD i 0 = sumF L k (uF b i) := by simp [rowF, List.getD, h]
theorem zip_row (g : Int → Int → Int) (L M : List Fa) (k : List Int) (b : Fa → Int) : zipL g (rowF L k b) (rowF M k b) = (List.range 44).map fun i => g (sumF L k (uF b i)) (sumF M k (uF b i)) := by
  unfold zipL
  rw [rowF_len, rowF_len]
  refine List.map_congr_left fun i hi => ?_
  have hi' : i < 44 := by simpa using hi
  rw [zipF, if_pos hi', row_at L k b hi', row_at M k b hi']
theorem zip_none (g : Int → Int → Int) (M : List Fa) (k : List Int) (b : Fa → Int) : zipL g [] (rowF M k b) = (List.range 44).map fun i => g 0 (sumF M k (uF b i)) := by
  unfold zipL
  rw [rowF_len]
  refine List.map_congr_left fun i hi => ?_
  have hi' : i < 44 := by simpa using hi
  rw [zipF, if_pos hi', row_at M k b hi']; rfl
theorem vop_plus {L M : List Fa} (hL : Good L) (hM : Good M) (k : List Int) : vop plusW (vecOf L k) (vecOf M k) = vecOf (L ++ M) k := by
  unfold vop vecOf
  simp only [zip_row, plusW_eq (rng_n hL k) (rng_n hM k), plusW_eq (rng_lo hL k) (rng_lo hM k), plusW_eq (rng_hi hL k) (rng_hi hM k), plusW_eq (rng_by hL k) (rng_by hM k), plusW_eq (rng_u hL k _ _) (rng_u hM k _ _), sumF_app]
  unfold rowF
  simp only [sumF_app]
theorem rng0 : rng 0 := by unfold rng; omega
theorem vop_zero {M : List Fa} (hM : Good M) (k : List Int) : vop plusW zeroV (vecOf M k) = vecOf M k := by
  unfold vop vecOf zeroV
  simp only [zip_none, plusW_eq rng0 (rng_n hM k), plusW_eq rng0 (rng_lo hM k), plusW_eq rng0 (rng_hi hM k), plusW_eq rng0 (rng_by hM k), plusW_eq rng0 (rng_u hM k _ _), Int.zero_add]
  rfl
theorem vop_minus {L M N : List Fa} (hL : Good L) (hM : Good M) (hp : L.Perm (M ++ N)) (k : List Int) : vop minusW (vecOf L k) (vecOf M k) = vecOf N k := by
  unfold vop vecOf
  simp only [zip_row, minusW_eq (rng_n hL k) (rng_n hM k), minusW_eq (rng_lo hL k) (rng_lo hM k), minusW_eq (rng_hi hL k) (rng_hi hM k), minusW_eq (rng_by hL k) (rng_by hM k), minusW_eq (rng_u hL k _ _) (rng_u hM k _ _)]
  have e : ∀ φ : Fa → Int, sumF L k φ - sumF M k φ = sumF N k φ := fun φ => by rw [sumF_perm hp, sumF_app]; omega
  simp only [e]
  rfl
theorem sumF_none {L : List Fa} {k : List Int} (h : ¬ Has L k) (φ : Fa → Int) : sumF L k φ = 0 := by
  unfold sumF
  rw [List.filter_eq_nil_iff.2 fun x hx e => h ⟨x, hx, by simpa using e⟩]; rfl
theorem vec_app_l {L M : List Fa} {k : List Int} (h : ¬ Has L k) : vecOf (L ++ M) k = vecOf M k := by
  unfold vecOf rowF
  simp only [sumF_app, sumF_none h, Int.zero_add]
theorem vec_app_r {L M : List Fa} {k : List Int} (h : ¬ Has M k) : vecOf (L ++ M) k = vecOf L k := by
  unfold vecOf rowF
  simp only [sumF_app, sumF_none h, Int.add_zero]
theorem vec_void {N : List Fa} {k : List Int} (h : ¬ Has N k) : VoidV (vecOf N k) := by
  refine ⟨sumF_none h _, sumF_none h _, sumF_none h _, sumF_none h _, ?_⟩
  rintro ⟨e, he, hne⟩
  simp only [vecOf, rowF, sumF_none h] at he
  rcases List.mem_append.1 he with he | he <;> obtain ⟨_, _, rfl⟩ := List.mem_map.1 he <;> exact hne rfl
theorem has_app {L M : List Fa} {k : List Int} : Has (L ++ M) k ↔ Has L k ∨ Has M k := by
  constructor
  · rintro ⟨x, hx, e⟩
    exact (List.mem_append.1 hx).imp (fun h => ⟨x, h, e⟩) (fun h => ⟨x, h, e⟩)
  · rintro (⟨x, hx, e⟩ | ⟨x, hx, e⟩)
    · exact ⟨x, List.mem_append_left _ hx, e⟩
    · exact ⟨x, List.mem_append_right _ hx, e⟩
structure Rep (A : List (List Int × Vec)) (L : List Fa) : Prop where
  yes : ∀ k, Has L k → lookG k A = some (vecOf L k)
  no : ∀ k, ¬ Has L k → lookG k A = none
theorem one_vec (x : Fa) : (oneP x).x = vecOf [x] (fkey x) := by
  have e : ∀ φ : Fa → Int, sumF [x] (fkey x) φ = φ x := fun φ => by rw [sumF_cons, if_pos rfl, sumF_nil]; omega
  unfold vecOf rowF
  simp only [e]
  rfl
theorem rep_one {A : List (List Int × Vec)} {L : List Fa} {x : Fa} (h : Rep A L) (hL : Good (L ++ [x])) : Rep (stepM plusW A (oneP x)) (L ++ [x]) := by
  have hg1 : Good L := hL.sub (fun y hy => List.mem_append_left _ hy) (by simp)
  have hg2 : Good [x] := hL.sub (fun y hy => List.mem_append_right _ hy) (by simp)
  have hlook : ∀ k, lookG k (stepM plusW A (oneP x)) = if k = fkey x then some (vop plusW ((lookG (fkey x) A).getD zeroV) (vecOf [x] (fkey x))) else lookG k A := fun k => by
    rw [← one_vec]; exact lookG_ups _ _ _ _
  have hone : ∀ k, Has [x] k ↔ k = fkey x := fun k => ⟨fun ⟨y, hy, e⟩ => by rw [← e, List.mem_singleton.1 hy], fun e => ⟨x, List.mem_singleton.2 rfl, e.symm⟩⟩
  refine ⟨fun k hk => ?_, fun k hk => ?_⟩
  · rw [hlook]
    by_cases hkx : k = fkey x
    · rw [if_pos hkx, ← hkx]
      by_cases hl : Has L k
      · rw [h.yes k hl]; exact congrArg some (vop_plus hg1 hg2 k)
      · rw [h.no k hl, vec_app_l hl]; exact congrArg some (vop_zero hg2 k)
    · rw [if_neg hkx]
      have hnx : ¬ Has [x] k := fun e => hkx ((hone k).1 e)
      rw [vec_app_r hnx]
      exact h.yes k ((has_app.1 hk).resolve_right hnx)
  · rw [has_app] at hk
    rw [hlook, if_neg fun e => hk (.inr ((hone k).2 e))]
    exact h.no k fun e => hk (.inl e)
theorem rep_all : ∀ (T L : List Fa) (A : List (List Int × Vec)), Rep A L → Good (L ++ T) → Rep (foldM plusW (T.map oneP) A) (L ++ T)
  | [], L, A, h, _ => by rw [List.append_nil]; exact h
  | x :: T, L, A, h, hg => by
    have e : L ++ x :: T = (L ++ [x]) ++ T := by simp
    rw [e] at hg ⊢
    exact rep_all T (L ++ [x]) _ (rep_one h (hg.sub (fun y hy => List.mem_append_left _ hy) (by simp))) hg
theorem make_sk {L : List Fa} {s : List PC} {e : Int} (hL : Good L) (h : MakeP L s e) : IsSk s L ∧ e = 0 := by
  rcases h with ⟨_, _, hj⟩ | ⟨h, _⟩
  · have hr := rep_all L [] [] ⟨fun k ⟨x, hx, _⟩ => absurd hx List.not_mem_nil, fun _ _ => rfl⟩ hL
    rw [List.nil_append] at hr
    exact join_sk hj (foldM_nodup _ _ _ (by simp)) (foldM_four _ _ _ (by simp)) hr.yes (fun k v hv hk => by rw [hr.no k hk] at hv; cases hv) hL.each hL.len
  · exact absurd ⟨hL.len, hL.each⟩ h
theorem sk_rep {a : List PC} {L : List Fa} (ha : IsSk a L) (hL : Good L) : Rep (foldM plusW a []) L := by
  have hf := fun k => fold_look plusW k a [] (pairwise_nodup ha.asc)
  refine ⟨fun k hk => ?_, fun k hk => ?_⟩
  · have hk4 : k.length = 4 := by obtain ⟨x, _, e⟩ := hk; rw [← e]; rfl
    have hm : mkPC k (vecOf L k) ∈ a := (ha.mem _).2 (by rw [mkPC_key hk4]; exact ⟨hk, rfl⟩)
    rw [(hf k).1 _ hm (mkPC_key hk4)]
    exact congrArg some (vop_zero hL k)
  · exact (hf k).2 fun c hc e => hk (e ▸ ((ha.mem c).1 hc).1)
theorem sk_look {g : Int → Int → Int} {A : List (List Int × Vec)} {b : List PC} {M : List Fa} (hb : IsSk b M) (k : List Int) : (Has M k → lookG k (foldM g b A) = some (vop g ((lookG k A).getD zeroV) (vecOf M k))) ∧ (¬ Has M k → lookG k (foldM g b A) = lookG k A) := by
  obtain ⟨f1, f2⟩ := fold_look g k b A (pairwise_nodup hb.asc)
  refine ⟨fun hk => ?_, fun hk => f2 fun c hc e => hk (e ▸ ((hb.mem c).1 hc).1)⟩
  have hk4 : k.length = 4 := by obtain ⟨x, _, e⟩ := hk; rw [← e]; rfl
  have hm : mkPC k (vecOf M k) ∈ b := (hb.mem _).2 (by rw [mkPC_key hk4]; exact ⟨hk, rfl⟩)
  exact f1 _ hm (mkPC_key hk4)
theorem merge_sk {a b s : List PC} {L M : List Fa} {e : Int} (ha : IsSk a L) (hb : IsSk b M) (hg : Good (L ++ M)) (h : MergeP plusW a b s e) : IsSk s (L ++ M) ∧ e = 0 := by
  have hL : Good L := hg.sub (fun y hy => List.mem_append_left _ hy) (by simp)
  have hM : Good M := hg.sub (fun y hy => List.mem_append_right _ hy) (by simp)
  rcases h with ⟨_, _, hj⟩ | ⟨h, _⟩
  · have hr := sk_rep ha hL
    have hl := fun k => sk_look (g := plusW) (A := foldM plusW a []) hb k
    refine join_sk hj (foldM_nodup _ _ _ (foldM_nodup _ _ _ (by simp))) (foldM_four _ _ _ (foldM_four _ _ _ (by simp))) (fun k hk => ?_) (fun k v hv hk => ?_) hg.each hg.len
    · by_cases hm : Has M k
      · rw [(hl k).1 hm]
        by_cases h1 : Has L k
        · rw [hr.yes k h1]; exact congrArg some (vop_plus hL hM k)
        · rw [hr.no k h1, vec_app_l h1]; exact congrArg some (vop_zero hM k)
      · rw [(hl k).2 hm, vec_app_r hm]
        exact hr.yes k ((has_app.1 hk).resolve_right hm)
    · rw [has_app] at hk
      rw [(hl k).2 fun e => hk (.inr e), hr.no k fun e => hk (.inl e)] at hv
      cases hv
  · exact absurd ⟨ha.valid hL.each hL.len, hb.valid hM.each hM.len⟩ h
theorem sub_sk {a b s : List PC} {L M N : List Fa} {e : Int} (ha : IsSk a L) (hb : IsSk b M) (hL : Good L) (hp : L.Perm (M ++ N)) (h : MergeP minusW a b s e) : IsSk s N ∧ e = 0 := by
  have hg := hL.perm hp
  have hM : Good M := hg.sub (fun y hy => List.mem_append_left _ hy) (by simp)
  have hN : Good N := hg.sub (fun y hy => List.mem_append_right _ hy) (by simp)
  have hhas : ∀ k, Has L k ↔ Has M k ∨ Has N k := fun k => by
    rw [← has_app]
    exact ⟨fun ⟨x, hx, e⟩ => ⟨x, hp.mem_iff.1 hx, e⟩, fun ⟨x, hx, e⟩ => ⟨x, hp.mem_iff.2 hx, e⟩⟩
  rcases h with ⟨_, _, hj⟩ | ⟨h, _⟩
  · have hr := sk_rep ha hL
    have hl := fun k => sk_look (g := minusW) (A := foldM plusW a []) hb k
    have key : ∀ k, Has L k → lookG k (foldM minusW b (foldM plusW a [])) = some (vecOf N k) := fun k hk => by
      by_cases hm : Has M k
      · rw [(hl k).1 hm, hr.yes k hk]; exact congrArg some (vop_minus hL hM hp k)
      · rw [(hl k).2 hm, hr.yes k hk, vecOf_perm hp, vec_app_l hm]
    refine join_sk hj (foldM_nodup _ _ _ (foldM_nodup _ _ _ (by simp))) (foldM_four _ _ _ (foldM_four _ _ _ (by simp))) (fun k hk => key k ((hhas k).2 (.inr hk))) (fun k v hv hk => ?_) hN.each hN.len
    by_cases hk2 : Has L k
    · rw [key k hk2] at hv; cases hv; exact vec_void hk
    · rw [(hl k).2 fun e => hk2 ((hhas k).2 (.inl e)), hr.no k hk2] at hv; cases hv
  · exact absurd ⟨ha.valid hL.each hL.len, hb.valid hM.each hM.len⟩ h
/-- What is not in a sketch cannot be taken out. -/
theorem sub_bad {a b s : List PC} {L M : List Fa} {e : Int} (ha : IsSk a L) (hb : IsSk b (L ++ M)) (hg : Good (L ++ M)) (hne : M ≠ []) (h : MergeP minusW a b s e) : e = 170 := by
  have hL : Good L := hg.sub (fun y hy => List.mem_append_left _ hy) (by simp)
  rcases h with ⟨_, _, l0, hp, _, hr⟩ | ⟨_, _, h⟩
  · rcases hr with ⟨hv, _⟩ | ⟨_, _, h⟩
    · exfalso
      obtain ⟨x, M', rfl⟩ := List.exists_cons_of_ne_nil hne
      have hm : Has (x :: M') (fkey x) := ⟨x, List.mem_cons_self, rfl⟩
      have hlm : Has (L ++ x :: M') (fkey x) := has_app.2 (.inr hm)
      have hl := (sk_look (g := minusW) (A := foldM plusW a []) hb (fkey x)).1 hlm
      have hr := sk_rep ha hL
      have hcount := count_pos.2 hm
      have hn : (vop minusW ((lookG (fkey x) (foldM plusW a [])).getD zeroV) (vecOf (L ++ x :: M') (fkey x))).n ≤ -1 := by
        by_cases h1 : Has L (fkey x)
        · rw [hr.yes _ h1]
          show minusW (sumF L (fkey x) fun _ => 1) (sumF (L ++ x :: M') (fkey x) fun _ => 1) ≤ -1
          rw [minusW_eq (rng_n hL _) (rng_n hg _), sumF_app]; omega
        · rw [hr.no _ h1]
          show minusW 0 (sumF (L ++ x :: M') (fkey x) fun _ => 1) ≤ -1
          rw [minusW_eq rng0 (rng_n hg _), sumF_app, sumF_none h1]; omega
      generalize hvv : vop minusW ((lookG (fkey x) (foldM plusW a [])).getD zeroV) (vecOf (L ++ x :: M') (fkey x)) = vv at hl hn
      have hmem : mkPC (fkey x) vv ∈ l0 := by
        rw [hp.mem_iff, kept, List.mem_filter]
        refine ⟨List.mem_map.2 ⟨(fkey x, vv), lookG_mem hl, rfl⟩, ?_⟩
        have hnv : ¬ VoidV (mkPC (fkey x) vv).x := fun hv => by have : vv.n = 0 := hv.n; omega
        rw [bP_f hnv]; rfl
      have := (hv.each _ hmem).cell.n1
      have e2 : (mkPC (fkey x) vv).x.n = vv.n := rfl
      omega
    · exact h
  · exact h
end Go.Proofs.YtogfficbloejcaaDoor
namespace Go.Proofs.YtogfficbloejcaaDoor
open Go Go.X
set_option maxRecDepth 10000
set_option linter.unusedVariables false
attribute [local irreducible] Code.wpIn wpListIn Exit.then Exit.inBlock X.Out X.Back X.W X.Ev X.Con X.BinV X.Wh X.Wn X.Wq
theorem MakeG_con {L : List Fa} (hL : Good L) (A : Option Addr) (c : Nat) (S : SH) (hG : Gl S) (hA : At S A L) : Con Tryd.prog 16 #[.slice A L.length c] S [] (fun S' L' r => L' = [] ∧ ∃ v s, r = .tuple #[v, .int .i64 0] ∧ SkV S' v s ∧ IsSk s L) :=
  (Make_con L A c S hG hA (by have := hL.len; omega)).mono fun S' L' r _ ⟨h1, v, s, e, h2, h3, h4⟩ => by
    obtain ⟨h5, rfl⟩ := make_sk hL h4
    exact ⟨h1, v, s, h2, h3, h5⟩
theorem MergeG_con {va vb : Value} {a b : List PC} {L M : List Fa} (hg : Good (L ++ M)) (S : SH) (hG : Gl S) (ha : SkV S va a) (hb : SkV S vb b) (h1 : IsSk a L) (h2 : IsSk b M) : Con Tryd.prog 21 #[va, vb] S [] (fun S' L' r => L' = [] ∧ ∃ v s, r = .tuple #[v, .int .i64 0] ∧ SkV S' v s ∧ IsSk s (L ++ M)) :=
  (Merge_con S hG ha hb).mono fun S' L' r _ ⟨h3, v, s, e, h4, h5, h6⟩ => by
    obtain ⟨h7, rfl⟩ := merge_sk h1 h2 hg h6
    exact ⟨h3, v, s, h4, h5, h7⟩
theorem SubG_con {va vb : Value} {a b : List PC} {L M N : List Fa} (hL : Good L) (hp : L.Perm (M ++ N)) (S : SH) (hG : Gl S) (ha : SkV S va a) (hb : SkV S vb b) (h1 : IsSk a L) (h2 : IsSk b M) : Con Tryd.prog 23 #[va, vb] S [] (fun S' L' r => L' = [] ∧ ∃ v s, r = .tuple #[v, .int .i64 0] ∧ SkV S' v s ∧ IsSk s N) :=
  (Sub_con S hG ha hb).mono fun S' L' r _ ⟨h3, v, s, e, h4, h5, h6⟩ => by
    obtain ⟨h7, rfl⟩ := sub_sk h1 h2 hL hp h6
    exact ⟨h3, v, s, h4, h5, h7⟩
theorem SubBad_con {va vb : Value} {a b : List PC} {L M : List Fa} (hg : Good (L ++ M)) (hne : M ≠ []) (S : SH) (hG : Gl S) (ha : SkV S va a) (hb : SkV S vb b) (h1 : IsSk a L) (h2 : IsSk b (L ++ M)) : Con Tryd.prog 23 #[va, vb] S [] (fun S' L' r => L' = [] ∧ ∃ v s, r = .tuple #[v, .int .i64 170] ∧ SkV S' v s) :=
  (Sub_con S hG ha hb).mono fun S' L' r _ ⟨h3, v, s, e, h4, h5, h6⟩ => by
    obtain rfl := sub_bad h1 h2 hg hne h6
    exact ⟨h3, v, s, h4, h5⟩
theorem IsSk.nil : IsSk [] [] := ⟨List.Pairwise.nil, fun c => ⟨fun h => absurd h List.not_mem_nil, fun ⟨⟨x, hx, _⟩, _⟩ => absurd hx List.not_mem_nil⟩⟩
theorem IsSk.empty {s : List PC} (h : IsSk s []) : s = [] := h.unique IsSk.nil (List.Perm.refl _)
theorem IsSk.one {L : List Fa} {k : List Int} (hk : k.length = 4) (hL : ∀ x ∈ L, fkey x = k) (hne : L ≠ []) : IsSk [mkPC k (vecOf L k)] L := by
  refine ⟨List.pairwise_singleton _ _, fun c => ?_⟩
  rw [List.mem_singleton]
  constructor
  · rintro rfl
    rw [mkPC_key hk]
    obtain ⟨x, L', rfl⟩ := List.exists_cons_of_ne_nil hne
    exact ⟨⟨x, List.mem_cons_self, hL x List.mem_cons_self⟩, rfl⟩
  · rintro ⟨⟨x, hx, e⟩, h2⟩
    have e2 : c.key = k := by rw [← e]; exact hL x hx
    exact pc_ext (by rw [e2, mkPC_key hk]) (by rw [h2, e2]; rfl)
theorem SkV.one {S : SH} {v : Value} {p : PC} (h : SkV S v [p]) : ∃ A c la lc ha hc, v = .agg [.slice A 1 c].toArray ∧ At S A [(⟨p, la, lc, ha, hc⟩ : Ce)] ∧ (⟨p, la, lc, ha, hc⟩ : Ce).ok S := by
  obtain ⟨A, c, cs, rfl, hA, hok, _, hm⟩ := h
  match cs, hm with
  | [⟨p', la, lc, ha, hc⟩], hm =>
    simp only [List.map_cons, List.map_nil, List.cons.injEq, and_true] at hm
    subst hm
    exact ⟨A, c, la, lc, ha, hc, rfl, hA, hok _ List.mem_cons_self⟩
  | [], hm => simp at hm
  | _ :: _ :: _, hm => simp at hm
theorem SkV.none {S : SH} {v : Value} (h : SkV S v []) : ∃ A c, v = .agg [.slice A 0 c].toArray := by
  obtain ⟨A, c, cs, rfl, hA, hok, _, hm⟩ := h
  cases cs with
  | nil => exact ⟨A, c, rfl⟩
  | cons _ _ => simp at hm
def L3 : List Fa := [⟨0, 0, 0, 0, 0, -1, 0, 3, 3, 0⟩, ⟨0, 1, 0, 0, 0, 0, 0, 5, 9, 7⟩, ⟨0, 2, 0, 0, 0, 0, 0, 0, 2, 0⟩]
def lsA : List Int := [1, 0, 1, 1] ++ List.replicate 40 0
def hsA : List Int := [0, 0, 2, 0, 1] ++ List.replicate 39 0
def cA : PC := ⟨0, 0, 0, 0, ⟨3, 8, 14, 7, lsA, hsA⟩⟩
def lsB : List Int := [2, 0, 2, 2] ++ List.replicate 40 0
def hsB : List Int := [0, 0, 4, 0, 2] ++ List.replicate 39 0
def cB : PC := ⟨0, 0, 0, 0, ⟨6, 16, 28, 14, lsB, hsB⟩⟩
theorem good3 : Good (L3 ++ L3) := by
  refine ⟨fun x hx => ?_, by decide⟩
  simp only [L3, List.cons_append, List.nil_append, List.mem_cons, List.not_mem_nil, or_false] at hx
  rcases hx with rfl | rfl | rfl | rfl | rfl | rfl <;> exact ⟨by decide, by decide, by decide, by decide, by decide, by decide, by decide, by decide, by decide, by decide⟩
theorem good3' : Good L3 := good3.sub (fun x hx => List.mem_append_left _ hx) (by decide)
theorem vec3 : vecOf L3 [0, 0, 0, 0] = cA.x := by kernel_rfl
theorem vec6 : vecOf (L3 ++ L3) [0, 0, 0, 0] = cB.x := by kernel_rfl
theorem key6 : ∀ x ∈ L3 ++ L3, fkey x = [0, 0, 0, 0] := by
  intro x hx
  simp only [L3, List.cons_append, List.nil_append, List.mem_cons, List.not_mem_nil, or_false] at hx
  rcases hx with rfl | rfl | rfl | rfl | rfl | rfl <;> rfl
theorem sk3 : IsSk [cA] L3 := by
  have h := IsSk.one (k := [0, 0, 0, 0]) rfl (fun x hx => key6 x (List.mem_append_left _ hx)) (L := L3) (by simp [L3])
  rw [vec3] at h; exact h
theorem sk6 : IsSk [cB] (L3 ++ L3) := by
  have h := IsSk.one (k := [0, 0, 0, 0]) rfl key6 (by simp [L3])
  rw [vec6] at h; exact h
theorem pcA : PcP cA := (sk3.valid good3'.each good3'.len).each _ List.mem_cons_self
theorem quantA {num den lo hi e : Int} (h : QuantP cA num den lo hi e) (h1 : 1 ≤ den ∧ den ≤ 1000 ∧ 0 ≤ num ∧ num ≤ den) : lo = eLo (rankF 0 lsA (qrank cA num den)) ∧ hi = eHi (rankF 0 hsA (qrank cA num den)) ∧ e = 0 := by
  rcases h with ⟨_, _, _, _, _, h⟩ | ⟨h, _⟩
  · exact h
  · exact absurd ⟨pcA, h1.1, h1.2.1, h1.2.2.1, h1.2.2.2⟩ h
theorem totalA {c : PC} {e : Int} (h : TotalP [cA, cA] c e) : c = cB ∧ e = 0 := by
  have hs : sumV [cA, cA] = cB.x := by
    show vop plusW (vop plusW zeroV cA.x) cA.x = cB.x
    rw [← vec3, vop_zero good3', vop_plus good3' good3', vec6]
  have hv : CellP cB.x := by
    rw [← vec6]; exact cell_vec (by decide) good3.each ⟨_, List.mem_cons_self, rfl⟩
  have hp : ∀ c ∈ [cA, cA], PcP c := fun c hc => by
    simp only [List.mem_cons, List.not_mem_nil, or_false, or_self] at hc
    rw [hc]; exact pcA
  rcases h with ⟨_, _, _, h1, h2⟩ | ⟨h, _⟩
  · rw [hs] at h1; exact ⟨h1, h2⟩
  · exact absurd ⟨.inr (by decide), hp, by rw [hs]; exact hv⟩ h
theorem total0 {c : PC} {e : Int} (h : TotalP [] c e) : c = zeroC ∧ e = 170 := by
  rcases h with ⟨_, _, h, _⟩ | ⟨_, h⟩
  · have : (1 : Int) ≤ 0 := h.n1
    omega
  · exact h
theorem sane_con (S : SH) (hG : Gl S) : Con Tryd.prog 10 #[] S [] (fun _ L' r => L' = [] ∧ r = .bool true) := by
  refine con_of (args := []) Tryd.func10 rfl Tryd.ntmps10 rfl fun w => ?_
  (repeat (first | refine Jc ?_ | (apply s_evb; (case hg => rfl); (case hd => rfl); (case hn => rfl); (case he => (apply ev_buildS; (case hp => rfl); (case hz => rfl); (case h1 => rfl); (case hr => rfl)))) | (apply s_buildSlice; (case hg => rfl); (case hd => rfl); (case hp => rfl); (case hq => rfl); (case hm => rfl); (case hv => rfl); (case hl => rfl); intro bl; refine W.freeze fun S1 hle1 hb1 => ?_) | refine Jo ?_ | intro _))
  have hA1 : At S1 (some ⟨bl, 0, none⟩) L3 := fun _ => ⟨_, rfl, pts_block hb1 rfl⟩
  have hG1 := hG.le hle1
  (repeat (first | refine Jc ?_ | ((apply z_call; rfl; rfl; rfl; exact MakeG_con good3' (some ⟨bl, 0, none⟩) 3 S1 hG1 hA1; rintro S2 _ _ hle2 ⟨rfl, v, s, rfl, hsk2, hs⟩)) | refine Jo ?_ | intro _))
  have e3 : s = [cA] := hs.unique sk3 (List.Perm.refl _)
  subst e3
  have hsk2' := hsk2
  obtain ⟨A2, c2, la, lc, ha, hc, rfl, hA2, hq2⟩ := SkV.one hsk2
  have hG2 := hG1.le hle2
  have hqv : (⟨cA, la, lc, ha, hc⟩ : Ce).vals = [.int .i64 0, .int .i64 0, .int .i64 0, .int .i64 0, .int .i64 3, .int .i64 8, .int .i64 14, .int .i64 7, .slice la 44 lc, .slice ha 44 hc] := rfl
  (repeat (first | refine Jc ?_ | (apply s_idx (k := 0) hA2; (case hg => rfl); (case hd => rfl); (case hx => rfl); (case hi => rfl); (case hm => rfl); (case hu => exact rfl); intro p2 (hp2 : Pts _ p2 [.int .i64 0, .int .i64 0, .int .i64 0, .int .i64 0, .int .i64 3, .int .i64 8, .int .i64 14, .int .i64 7, .slice la 44 lc, .slice ha 44 hc])) | (apply s_load_ag; (case hg => rfl); (case hd => rfl); (case hx => rfl); (case hv => exact hp2); (case hl => rfl)) | ((apply z_call; rfl; rfl; rfl; exact Quantile_con (⟨cA, la, lc, ha, hc⟩ : Ce) 1 2 S2 hG2 hq2; rintro S2 _ _ - ⟨rfl, rfl, a1, b1, e1, rfl, hQ1⟩)) | refine Jo ?_ | intro _))
  obtain ⟨u1, u2, rfl⟩ := quantA hQ1 (by decide)
  rw [show eLo (rankF 0 lsA (qrank cA 1 2)) = 2 from by kernel_rfl] at u1
  rw [show eHi (rankF 0 hsA (qrank cA 1 2)) = 3 from by kernel_rfl] at u2
  subst u1 u2
  (repeat (first | refine Jc ?_ | ((apply z_call; rfl; rfl; rfl; exact Quantile_con (⟨cA, la, lc, ha, hc⟩ : Ce) 1 1 S2 hG2 hq2; rintro S2 _ _ - ⟨rfl, rfl, a2, b2, e2, rfl, hQ2⟩)) | refine Jo ?_ | intro _))
  obtain ⟨u1, u2, rfl⟩ := quantA hQ2 (by decide)
  rw [show eLo (rankF 0 lsA (qrank cA 1 1)) = 4 from by kernel_rfl] at u1
  rw [show eHi (rankF 0 hsA (qrank cA 1 1)) = 15 from by kernel_rfl] at u2
  subst u1 u2
  (repeat (first | refine Jc ?_ | ((apply z_call; rfl; rfl; rfl; exact SubG_con (N := []) good3' (List.Perm.of_eq (List.append_nil _).symm) S2 hG2 hsk2' hsk2' sk3 sk3; rintro S3 _ _ hle3 ⟨rfl, v3, s3, rfl, hsk3, hs3⟩)) | refine Jo ?_ | intro _))
  have e3 : s3 = [] := hs3.empty
  subst e3
  obtain ⟨A3, c3, rfl⟩ := hsk3.none
  have hG3 := hG2.le hle3
  (repeat (first | refine Jc ?_ | ((apply z_call; rfl; rfl; rfl; exact SubBad_con (L := []) (M := L3) good3' (by simp [L3]) S3 hG3 (nil_sk S3) (hsk2'.le hle3) IsSk.nil sk3; rintro S4 _ _ hle4 ⟨rfl, v4, s4, rfl, hsk4⟩)) | refine Jo ?_ | intro _))
  obtain ⟨A4, c4, cs4, rfl, _, _, _, _⟩ := hsk4
  have hG4 := hG3.le hle4
  have hsk4 := (hsk2'.le hle3).le hle4
  (repeat (first | refine Jc ?_ | ((apply z_call; rfl; rfl; rfl; exact MergeG_con good3 S4 hG4 hsk4 hsk4 sk3 sk3; rintro S5 _ _ hle5 ⟨rfl, v5, s5, rfl, hsk5, hs5⟩)) | refine Jo ?_ | intro _))
  have e5 : s5 = [cB] := hs5.unique sk6 (List.Perm.refl _)
  subst e5
  obtain ⟨A5, c5, la5, lc5, ha5, hc5, rfl, hA5, hq5⟩ := SkV.one hsk5
  have hG5 := hG4.le hle5
  (repeat (first | refine Jc ?_ | (apply s_buildSlice; (case hg => rfl); (case hd => rfl); (case hp => rfl); (case hq => rfl); (case hm => rfl); (case hv => rfl); (case hl => rfl); intro bm; refine W.freeze fun S6 hle6 hb6 => ?_) | refine Jo ?_ | intro _))
  have hG6 := hG5.le hle6
  have hA6 : At S6 (some ⟨bm, 0, none⟩) ([⟨cA, la, lc, ha, hc⟩, ⟨cA, la, lc, ha, hc⟩] : List Ce) := fun _ => ⟨_, rfl, pts_block hb6 rfl⟩
  have hq6 : (⟨cA, la, lc, ha, hc⟩ : Ce).ok S6 := (((hq2.le hle3).le hle4).le hle5).le hle6
  (repeat (first | refine Jc ?_ | ((apply z_call; rfl; rfl; rfl; exact Total_con ([⟨cA, la, lc, ha, hc⟩, ⟨cA, la, lc, ha, hc⟩] : List Ce) (some ⟨bm, 0, none⟩) 2 S6 hG6 hA6 (fun q hq => by simp only [List.mem_cons, List.not_mem_nil, or_false, or_self] at hq; rw [hq]; exact hq6) (by simp); rintro S7 _ _ hle7 ⟨rfl, q7, e7, rfl, hq7, hT7⟩)) | refine Jo ?_ | intro _))
  obtain ⟨p7, la7, lc7, ha7, hc7⟩ := q7
  obtain ⟨e7a, rfl⟩ := totalA hT7
  dsimp only at e7a
  subst e7a
  have hG7 := hG6.le hle7
  (repeat (first | refine Jc ?_ | ((apply z_call; rfl; rfl; rfl; exact Total_con ([] : List Ce) none 0 S7 hG7 (At.nil _ _) (fun q hq => absurd hq List.not_mem_nil) (by simp); rintro S8 _ _ hle8 ⟨rfl, q8, e8, rfl, hq8, hT8⟩)) | refine Jo ?_ | intro _))
  obtain ⟨_, rfl⟩ := total0 hT8
  have hG8 := hG7.le hle8
  have ed2 := Edges_con 2 S8
  have ed43 := Edges_con 43 S8
  rw [show edges 2 = (2, 3) from by kernel_rfl] at ed2
  rw [show edges 43 = (4398046511104, 4398046511104) from by kernel_rfl] at ed43
  (repeat (first | refine Jc ?_ | ((apply z_call; rfl; rfl; rfl; exact ed2; rintro _ _ _ - ⟨rfl, rfl, rfl⟩)) | refine Jo ?_ | intro _))
  (repeat (first | refine Jc ?_ | ((apply z_call; rfl; rfl; rfl; exact ed43; rintro _ _ _ - ⟨rfl, rfl, rfl⟩)) | refine Jo ?_ | intro _))
  have hlo8 : At S8 la lsA := ((hq6.la.le hle7).le hle8)
  have hhi8 : At S8 ha hsA := ((hq6.ha.le hle7).le hle8)
  (repeat (first | refine Jc ?_ | (apply s_idx (k := 2) hlo8; (case hg => rfl); (case hd => rfl); (case hx => rfl); (case hi => rfl); (case hm => rfl); (case hu => exact (rfl : lsA[2]? = some 1)); intro p hp) | (apply s_load1; (case hg => rfl); (case hd => rfl); (case hx => rfl); (case hv => exact hp)) | refine Jo ?_ | intro _))
  (repeat (first | refine Jc ?_ | (apply s_idx (k := 3) hlo8; (case hg => rfl); (case hd => rfl); (case hx => rfl); (case hi => rfl); (case hm => rfl); (case hu => exact (rfl : lsA[3]? = some 1)); intro p hp) | (apply s_load1; (case hg => rfl); (case hd => rfl); (case hx => rfl); (case hv => exact hp)) | refine Jo ?_ | intro _))
  (repeat (first | refine Jc ?_ | (apply s_idx (k := 0) hlo8; (case hg => rfl); (case hd => rfl); (case hx => rfl); (case hi => rfl); (case hm => rfl); (case hu => exact (rfl : lsA[0]? = some 1)); intro p hp) | (apply s_load1; (case hg => rfl); (case hd => rfl); (case hx => rfl); (case hv => exact hp)) | refine Jo ?_ | intro _))
  (repeat (first | refine Jc ?_ | (apply s_idx (k := 2) hhi8; (case hg => rfl); (case hd => rfl); (case hx => rfl); (case hi => rfl); (case hm => rfl); (case hu => exact (rfl : hsA[2]? = some 2)); intro p hp) | (apply s_load1; (case hg => rfl); (case hd => rfl); (case hx => rfl); (case hv => exact hp)) | refine Jo ?_ | intro _))
  (repeat (first | refine Jc ?_ | (apply s_idx (k := 4) hhi8; (case hg => rfl); (case hd => rfl); (case hx => rfl); (case hi => rfl); (case hm => rfl); (case hu => exact (rfl : hsA[4]? = some 1)); intro p hp) | (apply s_load1; (case hg => rfl); (case hd => rfl); (case hx => rfl); (case hv => exact hp)) | refine Jo ?_ | intro _))
  have hA8 := (((hA5.le hle6).le hle7).le hle8)
  (repeat (first | refine Jc ?_ | (apply s_idx (k := 0) hA8; (case hg => rfl); (case hd => rfl); (case hx => rfl); (case hi => rfl); (case hm => rfl); (case hu => exact rfl); intro p hp) | (apply s_load_f; (case hg => rfl); (case hd => rfl); (case hx => rfl); (case h => exact hp); (case hv => rfl)) | refine Jo ?_ | intro _))
  have bk1 := Bucket_con 1024 S8
  have bk2 := Bucket_con (-1) S8
  rw [show bucket 1024 = 11 from by kernel_rfl] at bk1
  rw [show bucket (-1) = -1 from by kernel_rfl] at bk2
  have hsk8 : SkV S8 (.agg [.slice A2 1 c2].toArray) [cA] := ((((hsk2'.le hle3).le hle4).le hle5).le hle6 |>.le hle7).le hle8
  have hsk8b : SkV S8 (.agg [.slice A5 1 c5].toArray) [cB] := ((hsk5.le hle6).le hle7).le hle8
  have va := Valid_con [(⟨cA, la, lc, ha, hc⟩ : Ce)] A2 c2 S8 hG8 (hA2.le (((((hle3.trans hle4).trans hle5).trans hle6).trans hle7).trans hle8)) (fun q hq => by rw [List.mem_singleton.1 hq]; exact (hq6.le hle7).le hle8) (by simp)
  rw [show bP (ValidP ([(⟨cA, la, lc, ha, hc⟩ : Ce)].map (·.p))) = true from bP_t (sk3.valid good3'.each good3'.len)] at va
  have sm1 := Same_con S8 hsk8 hsk8
  have sm2 := Same_con S8 hsk8 hsk8b
  rw [show bP ([cA] = [cA]) = true from bP_t rfl] at sm1
  rw [show bP ([cA] = [cB]) = false from bP_f (fun h => by cases h)] at sm2
  (repeat (first | refine Jc ?_ | ((apply z_call; rfl; rfl; rfl; exact bk1; rintro _ _ _ - ⟨rfl, rfl, rfl⟩)) | ((apply z_call; rfl; rfl; rfl; exact bk2; rintro _ _ _ - ⟨rfl, rfl, rfl⟩)) | ((apply z_call; rfl; rfl; rfl; exact va; rintro _ _ _ - ⟨rfl, rfl, rfl⟩)) | ((apply z_call; rfl; rfl; rfl; exact sm1; rintro _ _ _ - ⟨rfl, rfl, rfl⟩)) | ((apply z_call; rfl; rfl; rfl; exact sm2; rintro _ _ _ - ⟨rfl, rfl, rfl⟩)) | refine Jo ?_ | intro _))
  exact o_ret (L' := []) Tryd.results10 rfl (List.nil_sublist _) ⟨rfl, rfl⟩
end Go.Proofs.YtogfficbloejcaaDoor
namespace Go.Proofs.YtogfficbloejcaaDoor
open Go Go.X
set_option maxRecDepth 10000
set_option linter.unusedVariables false
attribute [local irreducible] Code.wpIn wpListIn Exit.then Exit.inBlock X.Out X.Back X.W X.Ev X.Con X.BinV X.Wh X.Wn X.Wq
theorem groups_con (z : Nat) (S : SH) : Con Tryd.prog 89 #[.int .u64 z] S [] (fun S' L' v => S' = S ∧ ∃ b, v = .func (.func 94) #[] #[.pointer (some ⟨b, 0, none⟩)] ∧ L' = [(b, .cells [.int .u64 z].toArray 101 (0, 0))]) := by
  refine con_of (args := [.int .u64 z]) Tryd.func89 rfl Tryd.ntmps89 rfl fun w => ?_
  (repeat (first | refine Jz ?_ | intro _))
  exact o_ret Tryd.results89 rfl sbL ⟨rfl, _, rfl, rfl⟩
/-- The byte of a group. -/
def gby (z : Nat) : UInt8 := UInt8.ofNat (if z < 128 then z else z % 128 + 128)
theorem enc_gby_lt {z : Nat} (h : z < 128) : enc z = [gby z] := by rw [enc_lt h, gby, if_pos h]
theorem enc_gby_ge {z : Nat} (h : 128 ≤ z) : enc z = gby z :: enc (z / 128) := by rw [enc_ge h, gby, if_neg (by omega)]
theorem groups1_con {l r : Nat} {fn : FuncId} {tmps : Array Value} {ps : Array Tmp} {assign body : Code} (hps : ps.size = 2) (I : Bs → Blocks → Prop) (hI : ∀ x L, I x L → (l, rec0 fn tmps ps assign body r .ready none) ∈ L) (bz : Nat) (S : SH)
    (hR : ∀ x (z : Nat) L, z < 18446744073709551616 → I x L → x.length ≤ 64 → RdR Tryd.prog l fn ((ps.zip #[.int .u8 ((z % 128 : Nat) : Int), .bool (decide (z < 128))]).foldl (fun t (p : Tmp × Value) => t.setIfInBounds p.1 p.2) tmps) assign body S L (fun S' L' => S' = S ∧ I (x ++ [gby z]) L') true)
    (z : Nat) (hz : z < 18446744073709551616) (L0 : Blocks) (h0 : I [] L0) :
    Con Tryd.prog 94 #[.func (.yield l) #[] #[], .pointer (some ⟨bz, 0, none⟩)] S ((bz, .cells [.int .u64 z].toArray 101 (0, 0)) :: L0) (fun S' L' v => S' = S ∧ I (enc z) L') := by
  refine con_of (args := [.func (.yield l) #[] #[], .pointer (some ⟨bz, 0, none⟩)]) Tryd.func94 rfl Tryd.ntmps94 rfl fun w => ?_
  have hz10 : (enc z).length ≤ 10 := enc_len 9 z (Nat.lt_trans hz (by decide))
  (repeat (first | refine Jz ?_ | intro _))
  refine c_loop (fun m S' L F => S' = S ∧ ∃ x L1, enc z = x ++ enc m ∧ m < 18446744073709551616 ∧ I x L1 ∧ L = (bz, .cells [.int .u64 m].toArray 101 (0, 0)) :: L1 ∧
      F = [(0, .func (.yield l) #[] #[]), (1, .pointer (some ⟨bz, 0, none⟩))]) ⟨rfl, [], L0, rfl, hz, h0, rfl, rfl⟩ sbF (List.Sublist.refl _) ?_
  rintro m S' L F ⟨rfl, x, L1, hx, hm, hi, rfl, rfl⟩
  have hxl : x.length ≤ 64 := by
    have := congrArg List.length hx
    rw [List.length_append] at this
    omega
  have hand : BinV Tryd.prog .and .u64 (m : Int) 127 (.int .u64 ((m % 128 : Nat) : Int)) := by
    have := bv_and64 (P := Tryd.prog) (n := 127) hm (by decide)
    rw [show m &&& 127 = m % 128 from Nat.and_two_pow_sub_one_eq_mod m 7] at this
    exact this
  have hshr : (m : Int) / 2 ^ 7 = ((m / 128 : Nat) : Int) := by rw [show (2 : Int) ^ 7 = 128 from rfl]; exact (Int.natCast_ediv m 128).symm
  have hw8 : IntKind.u8.wrap ((m % 128 : Nat) : Int) = ((m % 128 : Nat) : Int) := by rw [wrap_u8]; omega
  by_cases hlt : m < 128
  · have hd : decide (m < 128) = true := decide_eq_true hlt
    have hr := hR x m L1 hm hi hxl
    rw [hd] at hr
    rw [enc_gby_lt hlt] at hx
    (repeat (first | refine Jc ?_ | (apply s_bin; (case hg => rfl); (case hd => rfl); (case hx => rfl); (case hy => rfl); (case hb => exact hand)) | (apply s_evb; (case hg => rfl); (case hd => rfl); (case hn => rfl); (case he => (apply ev_convw; (case hx => rfl); (case hw => exact hw8)))) | (apply s_yieldR; (case hg => rfl); (case hd => rfl); (case hx => rfl); (case ha => rfl); (case hL => exact List.perm_append_comm (l₁ := [_])); (case hm => exact hI _ _ hi); (case hp => exact hps.symm); (case hc => exact hr); rintro S2 L2 ⟨rfl, hi2⟩) | refine Jo ?_ | intro _))
    exact o_ret0 (.inl rfl) Tryd.results94 (List.sublist_append_left _ _) ⟨rfl, by rw [hx]; exact hi2⟩
  · have hd : decide (m < 128) = false := decide_eq_false hlt
    have hr := hR x m L1 hm hi hxl
    rw [hd] at hr
    rw [enc_gby_ge (z := m) (by omega)] at hx
    (repeat (first | refine Jc ?_ | (apply s_bin; (case hg => rfl); (case hd => rfl); (case hx => rfl); (case hy => rfl); (case hb => exact hand)) | (apply s_evb; (case hg => rfl); (case hd => rfl); (case hn => rfl); (case he => (apply ev_convw; (case hx => rfl); (case hw => exact hw8)))) | (apply s_evb; (case hg => rfl); (case hd => rfl); (case hn => rfl); (case he => (apply ev_shr (c := 7); (case hx => rfl); (case hy => rfl); (case hc => decide); (case hr => exact hshr)))) | (apply s_yieldR; (case hg => rfl); (case hd => rfl); (case hx => rfl); (case ha => rfl); (case hL => exact List.perm_append_comm (l₁ := [_])); (case hm => exact hI _ _ hi); (case hp => exact hps.symm); (case hc => exact hr); rintro S2 L2 ⟨rfl, hi2⟩) | refine Jo ?_ | intro _))
    refine W.perm ?_ (List.perm_append_comm (l₂ := [_]))
    exact q_back (m' := m / 128) ⟨rfl, x ++ [gby m], L2, by rw [hx, List.append_assoc]; rfl, by omega, hi2, rfl, rfl⟩ (by omega) sbF (List.Sublist.refl _)
/-- What PutInt answers. -/
def putV (n : Int) : Value := if wOk n then .tuple #[strV (ibs n), .int .i64 0] else .tuple #[strV [], .int .i64 10]
theorem u64_zig {n : Int} (h : wOk n) : ∃ (u u2 v : Nat) (s : Int), IntKind.u64.wrap n = (u : Int) ∧ (u * 2 ^ 1) % 18446744073709551616 = u2 ∧ n / 2 ^ 63 = s ∧ IntKind.u64.wrap s = (v : Int) ∧ u2 < 18446744073709551616 ∧ v < 18446744073709551616 ∧ u2 ^^^ v = zig n := by
  simp only [wrap_u64]
  rw [show (2 : Int) ^ 63 = 9223372036854775808 from rfl]
  unfold wOk at h
  unfold zig
  by_cases h0 : n < 0
  · refine ⟨(18446744073709551616 + n).toNat, (18446744073709551616 + 2 * n).toNat, 18446744073709551615, -1, by omega, by omega, by omega, by omega, by omega, by decide, ?_⟩
    rw [if_pos h0, xor_ones (by omega)]; omega
  · refine ⟨n.toNat, (2 * n).toNat, 0, 0, by omega, by omega, by omega, by omega, by omega, by decide, ?_⟩
    rw [if_neg h0, Nat.xor_zero]
theorem PutInt_con (n : Int) (S : SH) (hn : -9223372036854775808 ≤ n ∧ n ≤ 9223372036854775807) : Con Tryd.prog 66 #[.int .i64 n] S [] (Pure S (putV n)) := by
  refine con_of (args := [.int .i64 n]) Tryd.func66 rfl Tryd.ntmps66 rfl fun w => ?_
  by_cases hw : wOk n
  rotate_left
  · rw [putV, if_neg hw]
    unfold wOk at hw
    by_cases h1 : n < -4611686018427387903
    · (repeat (first | refine Jz ?_ | intro _))
      exact o_ret2 (L' := []) Tryd.results66 rfl rfl (List.nil_sublist _) ⟨rfl, rfl, rfl⟩
    · (repeat (first | refine Jz ?_ | intro _))
      exact o_ret2 (L' := []) Tryd.results66 rfl rfl (List.nil_sublist _) ⟨rfl, rfl, rfl⟩
  rw [putV, if_pos hw]
  have hw' := hw
  unfold wOk at hw'
  obtain ⟨u, u2, v, s, c1, c2, c3, c4, c5, c6, c7⟩ := u64_zig hw
  have hx := bv_xor64 (P := Tryd.prog) c5 c6
  rw [c7] at hx
  (repeat (first | refine Jc ?_ | (apply s_evb; (case hg => rfl); (case hd => rfl); (case hn => rfl); (case he => (apply ev_convw; (case hx => rfl); (case hw => first | exact c1 | exact c4)))) | (apply s_evb; (case hg => rfl); (case hd => rfl); (case hn => rfl); (case he => (apply ev_shlw (c := 1); (case hx => rfl); (case hy => rfl); (case hc => decide); (case hr => exact c2)))) | (apply s_evb; (case hg => rfl); (case hd => rfl); (case hn => rfl); (case he => (apply ev_shr (c := 63); (case hx => rfl); (case hy => rfl); (case hc => decide); (case hr => exact c3)))) | (apply s_bin; (case hg => rfl); (case hd => rfl); (case hx => rfl); (case hy => rfl); (case hb => exact hx)) | ((apply s_call; (case hg => rfl); (case hd => rfl); (case ha => rfl); (case hc => exact groups_con (zig n) _); (case hL => (exact pmT)); rintro S1 L1 v1 - ⟨rfl, bz, rfl, rfl⟩)) | refine Jo ?_ | intro _))
  rename_i b2
  refine W.trim (F' := [(4, .pointer (some ⟨b2, 0, none⟩)), (20, .func (.func 94) #[] #[.pointer (some ⟨bz, 0, none⟩)])]) (L' := [(bz, .cells [.int .u64 (zig n)].toArray 101 (0, 0)), (b2, .cells [.slice none 0 0].toArray 60 (0, 0))]) sbF sbL ?_
  refine c_rangeFunc (caps := [.pointer (some ⟨bz, 0, none⟩)]) rfl rfl fun r l fn tmps hfm => ?_
  generalize hrec : rec0 fn tmps _ _ _ r LoopState.ready none = o
  obtain ⟨I, hI⟩ : ∃ I : Bs → Blocks → Prop, I = fun x L => ∃ v ob, Ows 5 v x ob ∧ L = (l, o) :: (b2, .cells [v].toArray 60 (0, 0)) :: ob := ⟨_, rfl⟩
  have hmem : ∀ x L, I x L → (l, o) ∈ L := fun x L h => by rw [hI] at h; obtain ⟨v, ob, -, rfl⟩ := h; exact List.mem_cons_self
  rw [← hrec] at hmem
  have hzb := zig_bd hw
  refine ⟨(bz, .cells [.int .u64 (zig n)].toArray 101 (0, 0)) :: (l, o) :: [(b2, .cells [.slice none 0 0].toArray 60 (0, 0))], [(r, .deferred (some []))], fun S' L' v => S' = S1 ∧ I (enc (zig n)) L', ?_, ?_, ?_⟩
  · exact ((List.perm_append_comm (l₁ := [_]) (l₂ := [_, _])).cons _).trans (List.Perm.swap _ _ _)
  · refine groups1_con rfl I hmem bz _ ?_ (zig n) (by omega) _ (by rw [hI]; exact ⟨_, _, Ows.nil 5, rfl⟩)
    intro x z L hz hx hxl
    rw [hI] at hx
    obtain ⟨v, ob, ho, rfl⟩ := hx
    have hfm' := (hfm.put (d := 21) (.int .u8 ((z % 128 : Nat) : Int)) rfl).put (d := 22) (.bool (decide (z < 128))) rfl
    have hfm2 : Fm 33 { tmps := (#[21, 22].zip #[Value.int .u8 ((z % 128 : Nat) : Int), .bool (decide (z < 128))]).foldl (fun t (p : Tmp × Value) => t.setIfInBounds p.1 p.2) tmps, defers := [] } [(22, .bool (decide (z < 128))), (21, .int .u8 ((z % 128 : Nat) : Int)), (4, .pointer (some ⟨b2, 0, none⟩)), (20, .func (.func 94) #[] #[.pointer (some ⟨bz, 0, none⟩)])] := by simpa [Act.put] using hfm'
    rw [← hrec]
    refine rd_ofR hfm2 fun w' => ?_
    by_cases hlt : z < 128
    · rw [decide_eq_true hlt]
      have e : ((z % 128 : Nat) : Int) = ((gby z).toNat : Int) := by rw [gby, if_pos hlt, u8_nat (by omega)]; omega
      rw [e]
      (repeat (first | refine Jz ?_ | intro _))
      apply r_begin
      (repeat (first | refine Jc ?_ | (apply s_append (ms := [gby z]); (case hg => rfl); (case hd => rfl); (case hx => rfl); (case ho => exact ho); (case hL => (exact pmT)); (case hy => rfl); (case hm => rfl); (case hs => (apply Src.own; (repeat (first | exact List.Mem.head _ | apply List.Mem.tail | apply List.mem_append_right)))); (case hzs => rfl); (case h0 => decide); (case hb => (simp; omega)); (case h63 => (simp; omega)); intro v' ob' ho'; obtain ⟨A', c', rfl⟩ := ho'.form) | refine Jo ?_ | intro _))
      refine W.perm ?_ (List.perm_append_comm.trans (List.Perm.swap _ _ _))
      refine r_end (L' := (b2, .cells [.slice A' (x ++ [gby z]).length c'].toArray 60 (0, 0)) :: ob') ((List.Sublist.refl _).cons _) fun w'' hs => ⟨rfl, S1, _, ⟨rfl, by rw [hI]; exact ⟨_, _, ho', rfl⟩⟩, ?_⟩
      rw [hrec] at hs
      exact hs
    · rw [decide_eq_false hlt]
      have hor : BinV Tryd.prog .or .u8 ((z % 128 : Nat) : Int) 128 (.int .u8 ((gby z).toNat : Int)) := by
        have := bv_or8 (P := Tryd.prog) (m := z % 128) (n := 128) (by omega) (by decide)
        have e : z % 128 ||| 128 = (gby z).toNat := by
          rw [gby, if_neg hlt, u8_nat (by omega), Nat.or_comm]
          have := Nat.two_pow_add_eq_or_of_lt (i := 7) (b := z % 128) (by omega) 1
          rw [show 2 ^ 7 * 1 = 128 from rfl] at this
          rw [← this]; omega
        rw [e] at this
        exact this
      (repeat (first | refine Jz ?_ | intro _))
      apply r_begin
      (repeat (first | refine Jc ?_ | (apply s_bin; (case hg => rfl); (case hd => rfl); (case hx => rfl); (case hy => rfl); (case hb => exact hor)) | (apply s_append (ms := [gby z]); (case hg => rfl); (case hd => rfl); (case hx => rfl); (case ho => exact ho); (case hL => (exact pmT)); (case hy => rfl); (case hm => rfl); (case hs => (apply Src.own; (repeat (first | exact List.Mem.head _ | apply List.Mem.tail | apply List.mem_append_right)))); (case hzs => rfl); (case h0 => decide); (case hb => (simp; omega)); (case h63 => (simp; omega)); intro v' ob' ho'; obtain ⟨A', c', rfl⟩ := ho'.form) | refine Jo ?_ | intro _))
      refine W.perm ?_ (List.perm_append_comm.trans (List.Perm.swap _ _ _))
      refine r_end (L' := (b2, .cells [.slice A' (x ++ [gby z]).length c'].toArray 60 (0, 0)) :: ob') ((List.Sublist.refl _).cons _) fun w'' hs => ⟨rfl, S1, _, ⟨rfl, by rw [hI]; exact ⟨_, _, ho', rfl⟩⟩, ?_⟩
      rw [hrec] at hs
      exact hs
  · rintro S' L1' v hle ⟨rfl, hi⟩
    rw [hI] at hi
    obtain ⟨v1, ob, ho, rfl⟩ := hi
    rw [← hrec]
    refine ⟨.ready, none, (b2, .cells [v1].toArray 60 (0, 0)) :: (ob ++ [(r, .deferred (some []))]), List.Perm.refl _, by decide, ?_⟩
    obtain ⟨g, cap, tl, rfl, rfl, q1, q2, q3⟩ := ho.rowed (enc_pos _)
    (repeat (first | refine Jc ?_ | (apply s_evb; (case hg => rfl); (case hd => rfl); (case hn => rfl); (case he => (apply ev_str_row; (case hx => rfl); (case hm => (repeat (first | exact List.Mem.head _ | apply List.Mem.tail | apply List.mem_append_right))); (case hk => simp)))) | refine Jo ?_ | intro _))
    refine o_ret2m (L' := []) (L1 := [(b2, .cells [.slice (some ⟨g, 0, none⟩) (enc (zig n)).length cap].toArray 60 (0, 0)), (g, .cells (cellsOf (enc (zig n)) ++ tl).toArray 5 (0, 0))]) Tryd.results66 rfl rfl rfl ?_ (List.nil_sublist _) ⟨rfl, rfl, ?_⟩
    · exact List.perm_append_comm (l₁ := [_, _]) (l₂ := [_])
    · rw [List.drop_zero, List.take_length]; rfl
end Go.Proofs.YtogfficbloejcaaDoor
namespace Go.Proofs.YtogfficbloejcaaDoor
open Go Go.X
set_option maxRecDepth 10000
set_option linter.unusedVariables false
attribute [local irreducible] Code.wpIn wpListIn Exit.then Exit.inBlock X.Out X.Back X.W X.Ev X.Con X.BinV X.Wh X.Wn X.Wq
/-- What Int answers. -/
def intV (s : Bs) (at_ : Int) : Value :=
  if at_ < 0 ∨ (s.length : Int) < at_ then .tuple #[.int .i64 0, .int .i64 0, .int .i64 2]
  else match decI (s.drop at_.toNat) with
    | none => .tuple #[.int .i64 0, .int .i64 0, .int .i64 10]
    | some (n, k) => .tuple #[.int .i64 n, .int .i64 (at_ + k), .int .i64 0]
theorem pow128 (i : Nat) : 128 ^ i = 2 ^ (7 * i) := by rw [Nat.pow_mul]
theorem pow128_le {i : Nat} (h : i ≤ 8) : 128 ^ i ≤ 72057594037927936 := Nat.le_trans (Nat.pow_le_pow_right (by decide) h) (by decide)
/-- One more group. -/
theorem val_step {z m i : Nat} (hz : z < 128 ^ i) (hm : m < 128) (hi : i ≤ 8) : m * 2 ^ (7 * i) < 18446744073709551616 ∧ z ||| m * 2 ^ (7 * i) = z + m * 128 ^ i ∧ z + m * 128 ^ i < 9223372036854775808 ∧ z < 18446744073709551616 ∧ z + m * 128 ^ i < 128 ^ (i + 1) := by
  have h1 := pow128_le hi
  have h2 : m * 128 ^ i ≤ 127 * 128 ^ i := Nat.mul_le_mul_right _ (by omega)
  rw [← pow128]
  refine ⟨by omega, ?_, by omega, by omega, by rw [Nat.pow_succ]; omega⟩
  have := Nat.two_pow_add_eq_or_of_lt (i := 7 * i) (b := z) (by rw [← pow128]; exact hz) m
  rw [← pow128, Nat.mul_comm] at this
  rw [Nat.or_comm, ← this, Nat.add_comm]
set_option maxHeartbeats 1600000 in
theorem Int_con (s : Bs) (at_ : Int) (S : SH) (hs : s.length ≤ 9223372036854775807) : Con Tryd.prog 70 #[strV s, .int .i64 at_] S [] (Pure S (intV s at_)) := by
  refine con_of (args := [strV s, .int .i64 at_]) Tryd.func70 rfl Tryd.ntmps70 rfl fun w => ?_
  by_cases h1 : at_ < 0
  · rw [intV, if_pos (.inl h1)]
    (repeat (first | refine Jz ?_ | intro _))
    exact o_ret3 (L' := []) Tryd.results70 rfl rfl rfl (List.nil_sublist _) ⟨rfl, rfl, rfl⟩
  by_cases h2 : (s.length : Int) < at_
  · rw [intV, if_pos (.inr h2)]
    (repeat (first | refine Jc ?_ | (apply s_evb; (case hg => rfl); (case hd => rfl); (case hn => rfl); (case he => (apply ev_len_b; rfl))) | refine Jo ?_ | intro _))
    exact o_ret3 (L' := []) Tryd.results70 rfl rfl rfl (List.nil_sublist _) ⟨rfl, rfl, rfl⟩
  obtain ⟨p, rfl⟩ : ∃ p : Nat, at_ = p := ⟨at_.toNat, by omega⟩
  rw [intV, if_neg (by omega), Int.toNat_natCast]
  (repeat (first | refine Jc ?_ | (apply s_evb; (case hg => rfl); (case hd => rfl); (case hn => rfl); (case he => (apply ev_len_b; rfl))) | refine Jo ?_ | intro _))
  generalize hl : s.drop p = l
  have hll : l.length = s.length - p := by rw [← hl, List.length_drop]
  have hat : ∀ i, l[i]? = s[p + i]? := fun i => by rw [← hl, List.getElem?_drop]
  refine c_loop (fun m S' L F => S' = S ∧ ∃ i z : Nat, m = 9 - i ∧ i ≤ 9 ∧ i ≤ l.length ∧ (∀ c ∈ l.take i, 128 ≤ c.toNat) ∧ z = val (l.take i) ∧ z < 128 ^ i ∧ L = [] ∧
      F = [(19, .int .i64 i), (7, .int .u64 z), (0, strV s), (1, .int .i64 p)]) ⟨rfl, 0, 0, rfl, by omega, by omega, by simp, by simp [val], by simp, rfl, rfl⟩ sbF sbL ?_
  rintro m S' L F ⟨rfl, i, z, rfl, hi9, hil, hhi, hz, hzl, rfl, rfl⟩
  by_cases h9 : i < 9
  rotate_left
  · rw [decI_none hhi (.inl (by omega))]
    (repeat (first | refine Jz ?_ | intro _))
    exact o_ret3 (L' := []) Tryd.results70 rfl rfl rfl (List.nil_sublist _) ⟨rfl, rfl, rfl⟩
  by_cases hlt : p + i < s.length
  rotate_left
  · rw [decI_none hhi (.inr (by omega))]
    (repeat (first | refine Jc ?_ | (apply s_evb; (case hg => rfl); (case hd => rfl); (case hn => rfl); (case he => (apply ev_len_b; rfl))) | refine Jo ?_ | intro _))
    exact o_ret3 (L' := []) Tryd.results70 rfl rfl rfl (List.nil_sublist _) ⟨rfl, rfl, rfl⟩
  obtain ⟨b, hb⟩ : ∃ b, s[p + i]? = some b := ⟨s[p + i], List.getElem?_eq_getElem hlt⟩
  have hbl : l[i]? = some b := by rw [hat, hb]
  have hb256 := b.toNat_lt
  obtain ⟨v1, v2, v3, v4, v5⟩ := val_step hzl (m := b.toNat % 128) (by omega) (show i ≤ 8 by omega)
  have hand : BinV Tryd.prog .and .u8 (b.toNat : Int) 127 (.int .u8 ((b.toNat % 128 : Nat) : Int)) := by
    have := bv_and8 (P := Tryd.prog) (m := b.toNat) (n := 127) (by omega) (by decide)
    rw [show b.toNat &&& 127 = b.toNat % 128 from Nat.and_two_pow_sub_one_eq_mod _ 7] at this
    exact this
  have hw1 : IntKind.u64.wrap ((b.toNat % 128 : Nat) : Int) = ((b.toNat % 128 : Nat) : Int) := wrap_u64_in (by omega)
  have hor : BinV Tryd.prog .or .u64 (z : Int) ((b.toNat % 128 * 2 ^ (7 * i) : Nat) : Int) (.int .u64 ((z + b.toNat % 128 * 128 ^ i : Nat) : Int)) := by
    have := bv_or64 (P := Tryd.prog) v4 v1
    rw [v2] at this
    exact this
  have htk : l.take (i + 1) = l.take i ++ [b] := by rw [List.take_add_one, hbl]; rfl
  have hlen : (l.take i).length = i := by rw [List.length_take]; omega
  have hz2 : z + b.toNat % 128 * 128 ^ i = val (l.take (i + 1)) := by rw [htk, val_snoc, hlen, ← hz]
  have hlast := fun h => decI_last (l := l) hhi h9 hbl h _ (by rw [← hz])
  generalize z + b.toNat % 128 * 128 ^ i = y at *
  have hand1 : BinV Tryd.prog .and .u64 (y : Int) 1 (.int .u64 ((y % 2 : Nat) : Int)) := by
    have := bv_and64 (P := Tryd.prog) (m := y) (n := 1) (by omega) (by decide)
    rw [Nat.and_one_is_mod] at this
    exact this
  have hsh : (y : Int) / 2 ^ 1 = ((y / 2 : Nat) : Int) := by rw [show (2 : Int) ^ 1 = 2 from rfl]; exact (Int.natCast_ediv y 2).symm
  have hw2 : IntKind.i64.wrap ((y / 2 : Nat) : Int) = ((y / 2 : Nat) : Int) := w64_in (by omega)
  have hw3 : IntKind.i64.wrap ((y % 2 : Nat) : Int) = ((y % 2 : Nat) : Int) := w64_in (by omega)
  by_cases hhb : 128 ≤ b.toNat
  · (repeat (first | refine Jc ?_ | (apply s_evb; (case hg => rfl); (case hd => rfl); (case hn => rfl); (case he => (apply ev_len_b; rfl))) | (apply s_evb; (case hg => rfl); (case hd => rfl); (case hn => rfl); (case he => ((apply ev_index_b (k := p + i); (case hx => rfl); (case hi => rfl); (case hu => exact hb))))) | (apply s_bin; (case hg => rfl); (case hd => rfl); (case hx => rfl); (case hy => rfl); (case hb => first | exact hand | exact hor | exact hand1)) | (apply s_evb; (case hg => rfl); (case hd => rfl); (case hn => rfl); (case he => (apply ev_convw; (case hx => rfl); (case hw => first | exact hw1 | exact hw2 | exact hw3)))) | (apply s_evb; (case hg => rfl); (case hd => rfl); (case hn => rfl); (case he => (apply ev_shl64 (c := 7 * i); (case hx => rfl); (case hy => rfl); (case hc => omega); (case h => exact v1)))) | (apply s_evb; (case hg => rfl); (case hd => rfl); (case hn => rfl); (case he => (apply ev_shr (c := 1); (case hx => rfl); (case hy => rfl); (case hc => decide); (case hr => exact hsh)))) | refine Jo ?_ | intro _))
    refine q_back (m' := 9 - (i + 1)) ⟨rfl, i + 1, y, rfl, by omega, by omega, ?_, hz2, v5, rfl, rfl⟩ (by omega) sbF sbL
    intro c hc
    rw [htk] at hc
    rcases List.mem_append.1 hc with hc | hc
    · exact hhi c hc
    · rw [List.mem_singleton.1 hc]; exact hhb
  rw [hlast (by omega)]
  have hub : -4611686018427387904 ≤ unzig y ∧ unzig y ≤ 4611686018427387903 := by unfold unzig; split <;> omega
  have hxor : BinV Tryd.prog .xor .i64 ((y / 2 : Nat) : Int) (-((y % 2 : Nat) : Int)) (.int .i64 (unzig y)) := by
    unfold unzig
    by_cases h : y % 2 = 1
    · rw [if_pos h, h, show -((y / 2 : Nat) : Int) - 1 = -1 - ((y / 2 : Nat) : Int) by omega]
      exact bv_xor_m1 (by omega)
    · rw [if_neg h, show y % 2 = 0 by omega]
      exact bv_xor_0 (by omega)
  generalize unzig y = n at *
  by_cases hb0 : b.toNat = 0 <;> by_cases hi0 : 0 < i <;> by_cases hn : n < -4611686018427387903
  all_goals first | rw [if_pos ⟨by omega, by unfold wOk; omega⟩] | rw [if_neg (fun h => by have := h.1; have := h.2; unfold wOk at this; omega)]
  all_goals (repeat (first | refine Jc ?_ | (apply s_evb; (case hg => rfl); (case hd => rfl); (case hn => rfl); (case he => (apply ev_len_b; rfl))) | (apply s_evb; (case hg => rfl); (case hd => rfl); (case hn => rfl); (case he => ((apply ev_index_b (k := p + i); (case hx => rfl); (case hi => rfl); (case hu => exact hb))))) | (apply s_bin; (case hg => rfl); (case hd => rfl); (case hx => rfl); (case hy => rfl); (case hb => first | exact hand | exact hor | exact hand1 | exact hxor)) | (apply s_evb; (case hg => rfl); (case hd => rfl); (case hn => rfl); (case he => (apply ev_convw; (case hx => rfl); (case hw => first | exact hw1 | exact hw2 | exact hw3)))) | (apply s_evb; (case hg => rfl); (case hd => rfl); (case hn => rfl); (case he => (apply ev_shl64 (c := 7 * i); (case hx => rfl); (case hy => rfl); (case hc => omega); (case h => exact v1)))) | (apply s_evb; (case hg => rfl); (case hd => rfl); (case hn => rfl); (case he => (apply ev_shr (c := 1); (case hx => rfl); (case hy => rfl); (case hc => decide); (case hr => exact hsh)))) | refine Jo ?_ | intro _))
  all_goals first | exact o_ret3 (L' := []) Tryd.results70 rfl rfl rfl (List.nil_sublist _) ⟨rfl, rfl, rfl⟩ | exact o_ret3 (L' := []) Tryd.results70 rfl rfl rfl (List.nil_sublist _) ⟨rfl, rfl, by simp only [Int.natCast_add]; rw [← Int.add_assoc]; rfl⟩
end Go.Proofs.YtogfficbloejcaaDoor
namespace Go.Proofs.YtogfficbloejcaaDoor
open Go Go.X
set_option maxRecDepth 10000
set_option linter.unusedVariables false
attribute [local irreducible] Code.wpIn wpListIn Exit.then Exit.inBlock X.Out X.Back X.W X.Ev X.Con X.BinV X.Wh X.Wn X.Wq
theorem zigzag_con (n : Int) (S : SH) (hw : wOk n) : Con Tryd.prog 95 #[.int .i64 n] S [] (Pure S (.int .u64 (zig n : Nat))) := by
  unfold wOk at hw
  refine con_of (args := [.int .i64 n]) Tryd.func95 rfl Tryd.ntmps95 rfl fun w => ?_
  by_cases h : n < 0
  · obtain ⟨m, rfl⟩ : ∃ m : Nat, n = -(m : Int) := ⟨(-n).toNat, by omega⟩
    have hc : IntKind.u64.wrap (- -(m : Int)) = (m : Int) := by rw [wrap_u64]; omega
    have hm : BinV Tryd.prog .mul .u64 (m : Int) 2 (.int .u64 ((m * 2 : Nat) : Int)) := bv_mulu64 (n := 2) (by omega)
    have hs : BinV Tryd.prog .sub .u64 ((m * 2 : Nat) : Int) 1 (.int .u64 ((zig (-(m : Int)) : Nat) : Int)) := by
      have := bv_subu64 (P := Tryd.prog) (m := m * 2) (n := 1) (by omega) (by omega)
      rw [show m * 2 - 1 = zig (-(m : Int)) by unfold zig; rw [if_pos h]; omega] at this
      exact this
    (repeat (first | refine Jc ?_ | (apply s_evb; (case hg => rfl); (case hd => rfl); (case hn => rfl); (case he => (apply ev_convw; (case hx => rfl); (case hw => exact hc)))) | (apply s_bin; (case hg => rfl); (case hd => rfl); (case hx => rfl); (case hy => rfl); (case hb => first | exact hm | exact hs)) | refine Jo ?_ | intro _))
    exact o_ret (L' := []) Tryd.results95 rfl (List.nil_sublist _) ⟨rfl, rfl, rfl⟩
  · obtain ⟨m, rfl⟩ : ∃ m : Nat, n = (m : Int) := ⟨n.toNat, by omega⟩
    have hc : IntKind.u64.wrap (m : Int) = (m : Int) := by rw [wrap_u64]; omega
    have hm : BinV Tryd.prog .mul .u64 (m : Int) 2 (.int .u64 ((zig (m : Int) : Nat) : Int)) := by
      have := bv_mulu64 (P := Tryd.prog) (m := m) (n := 2) (by omega)
      rw [show m * 2 = zig (m : Int) by unfold zig; rw [if_neg h]; omega] at this
      exact this
    (repeat (first | refine Jc ?_ | (apply s_evb; (case hg => rfl); (case hd => rfl); (case hn => rfl); (case he => (apply ev_convw; (case hx => rfl); (case hw => exact hc)))) | (apply s_bin; (case hg => rfl); (case hd => rfl); (case hx => rfl); (case hy => rfl); (case hb => first | exact hm | exact hs)) | refine Jo ?_ | intro _))
    exact o_ret (L' := []) Tryd.results95 rfl (List.nil_sublist _) ⟨rfl, rfl, rfl⟩
theorem rPutInt_con (n : Int) (S : SH) (hn : -9223372036854775808 ≤ n ∧ n ≤ 9223372036854775807) : Con Tryd.prog 90 #[.int .i64 n] S [] (Pure S (putV n)) := by
  refine con_of (args := [.int .i64 n]) Tryd.func90 rfl Tryd.ntmps90 rfl fun w => ?_
  by_cases hw : wOk n
  rotate_left
  · rw [putV, if_neg hw]
    unfold wOk at hw
    by_cases h1 : n < -4611686018427387903
    · (repeat (first | refine Jz ?_ | intro _))
      exact o_ret2 (L' := []) Tryd.results90 rfl rfl (List.nil_sublist _) ⟨rfl, rfl, rfl⟩
    · (repeat (first | refine Jz ?_ | intro _))
      exact o_ret2 (L' := []) Tryd.results90 rfl rfl (List.nil_sublist _) ⟨rfl, rfl, rfl⟩
  rw [putV, if_pos hw]
  have hw' := hw
  unfold wOk at hw'
  have hzb := zig_bd hw
  (repeat (first | refine Jc ?_ | ((apply z_call; rfl; rfl; rfl; exact zigzag_con n S hw; rintro _ _ _ - ⟨rfl, rfl, rfl⟩)) | refine Jo ?_ | intro _))
  unfold ibs
  generalize zig n = z0 at *
  refine c_loop (fun m S' L F => S' = S ∧ ∃ x v, m < 9223372036854775808 ∧ enc z0 = x ++ enc m ∧ Ows 5 v x L ∧
      F = [(4, .int .u64 m), (5, v)]) ⟨rfl, [], _, hzb, rfl, Ows.nil 5, rfl⟩ sbF sbL ?_
  rintro m S' L F ⟨rfl, x, v, hm, hx, ho, rfl⟩
  have hxl : x.length ≤ 64 := by
    have := congrArg List.length hx
    have h10 : (enc z0).length ≤ 10 := enc_len 9 z0 (Nat.lt_trans hzb (by decide))
    rw [List.length_append] at this
    omega
  by_cases hlt : m < 128
  · have hc : IntKind.u8.wrap (m : Int) = ((gby m).toNat : Int) := by rw [wrap_u8, gby, if_pos hlt, u8_nat (by omega)]; omega
    rw [enc_gby_lt hlt] at hx
    rw [hx]
    (repeat (first | refine Jc ?_ | (apply s_evb; (case hg => rfl); (case hd => rfl); (case hn => rfl); (case he => (apply ev_convw; (case hx => rfl); (case hw => exact hc)))) | (apply s_append (ms := [gby m]); (case hg => rfl); (case hd => rfl); (case hx => rfl); (case ho => exact ho); (case hL => (exact pmT)); (case hy => rfl); (case hm => rfl); (case hs => (apply Src.own; (repeat (first | exact List.Mem.head _ | apply List.Mem.tail | apply List.mem_append_right)))); (case hzs => rfl); (case h0 => decide); (case hb => (simp; omega)); (case h63 => (simp; omega)); intro v' ob' ho'; obtain ⟨g, cap, tl, rfl, rfl, q1, q2, q3⟩ := ho'.rowed (by simp)) | (apply s_evb; (case hg => rfl); (case hd => rfl); (case hn => rfl); (case he => (apply ev_str_row; (case hx => rfl); (case hm => (repeat (first | exact List.Mem.head _ | apply List.Mem.tail | apply List.mem_append_right))); (case hk => simp)))) | refine Jo ?_ | intro _))
    exact o_ret2 (L' := []) Tryd.results90 rfl rfl (List.nil_sublist _) ⟨rfl, rfl, by rw [List.drop_zero, List.take_length]⟩
  · have hr : BinV Tryd.prog .rem .u64 (m : Int) 128 (.int .u64 ((m % 128 : Nat) : Int)) := bv_rem64 (n := 128) (by decide)
    have ha : BinV Tryd.prog .add .u64 ((m % 128 : Nat) : Int) 128 (.int .u64 ((m % 128 + 128 : Nat) : Int)) := bv_addu64 (n := 128) (by omega)
    have hc : IntKind.u8.wrap ((m % 128 + 128 : Nat) : Int) = ((gby m).toNat : Int) := by rw [wrap_u8, gby, if_neg hlt, u8_nat (by omega)]; omega
    have hq : BinV Tryd.prog .quo .u64 (m : Int) 128 (.int .u64 ((m / 128 : Nat) : Int)) := bv_quo64 (n := 128) (by decide) (wrap_u64_in (by omega))
    rw [enc_gby_ge (z := m) (by omega)] at hx
    (repeat (first | refine Jc ?_ | (apply s_bin; (case hg => rfl); (case hd => rfl); (case hx => rfl); (case hy => rfl); (case hb => first | exact hr | exact ha | exact hq)) | (apply s_evb; (case hg => rfl); (case hd => rfl); (case hn => rfl); (case he => (apply ev_convw; (case hx => rfl); (case hw => exact hc)))) | (apply s_append (ms := [gby m]); (case hg => rfl); (case hd => rfl); (case hx => rfl); (case ho => exact ho); (case hL => (exact pmT)); (case hy => rfl); (case hm => rfl); (case hs => (apply Src.own; (repeat (first | exact List.Mem.head _ | apply List.Mem.tail | apply List.mem_append_right)))); (case hzs => rfl); (case h0 => decide); (case hb => (simp; omega)); (case h63 => (simp; omega)); intro v' ob' ho') | refine Jo ?_ | intro _))
    exact q_back (L' := ob') (m' := m / 128) ⟨rfl, x ++ [gby m], v', by omega, by rw [hx, List.append_assoc]; rfl, ho', rfl⟩ (by omega) sbF sbL
end Go.Proofs.YtogfficbloejcaaDoor
namespace Go.Proofs.YtogfficbloejcaaDoor
open Go Go.X
set_option maxRecDepth 10000
set_option linter.unusedVariables false
attribute [local irreducible] Code.wpIn wpListIn Exit.then Exit.inBlock X.Out X.Back X.W X.Ev X.Con X.BinV X.Wh X.Wn X.Wq
set_option maxHeartbeats 1600000 in
theorem rInt_con (s : Bs) (at_ : Int) (S : SH) (hs : s.length ≤ 9223372036854775807) : Con Tryd.prog 72 #[strV s, .int .i64 at_] S [] (Pure S (intV s at_)) := by
  refine con_of (args := [strV s, .int .i64 at_]) Tryd.func72 rfl Tryd.ntmps72 rfl fun w => ?_
  by_cases h1 : at_ < 0
  · rw [intV, if_pos (.inl h1)]
    (repeat (first | refine Jz ?_ | intro _))
    exact o_ret3 (L' := []) Tryd.results72 rfl rfl rfl (List.nil_sublist _) ⟨rfl, rfl, rfl⟩
  by_cases h2 : (s.length : Int) < at_
  · rw [intV, if_pos (.inr h2)]
    (repeat (first | refine Jc ?_ | (apply s_evb; (case hg => rfl); (case hd => rfl); (case hn => rfl); (case he => (apply ev_len_b; rfl))) | refine Jo ?_ | intro _))
    exact o_ret3 (L' := []) Tryd.results72 rfl rfl rfl (List.nil_sublist _) ⟨rfl, rfl, rfl⟩
  obtain ⟨p, rfl⟩ : ∃ p : Nat, at_ = p := ⟨at_.toNat, by omega⟩
  rw [intV, if_neg (by omega), Int.toNat_natCast]
  (repeat (first | refine Jc ?_ | (apply s_evb; (case hg => rfl); (case hd => rfl); (case hn => rfl); (case he => (apply ev_len_b; rfl))) | refine Jo ?_ | intro _))
  generalize hl : s.drop p = l
  have hll : l.length = s.length - p := by rw [← hl, List.length_drop]
  have hat : ∀ i, l[i]? = s[p + i]? := fun i => by rw [← hl, List.getElem?_drop]
  refine c_loop (fun m S' L F => S' = S ∧ ∃ i z : Nat, m = 9 - i ∧ i ≤ 9 ∧ i ≤ l.length ∧ (∀ c ∈ l.take i, 128 ≤ c.toNat) ∧ z = val (l.take i) ∧ z < 128 ^ i ∧ L = [] ∧
      F = [(8, .int .i64 i), (7, .int .u64 z), (0, strV s), (1, .int .i64 p)]) ⟨rfl, 0, 0, rfl, by omega, by omega, by simp, by simp [val], by simp, rfl, rfl⟩ sbF sbL ?_
  rintro m S' L F ⟨rfl, i, z, rfl, hi9, hil, hhi, hz, hzl, rfl, rfl⟩
  by_cases h9 : i < 9
  rotate_left
  · rw [decI_none hhi (.inl (by omega))]
    (repeat (first | refine Jc ?_ | (apply s_evb; (case hg => rfl); (case hd => rfl); (case hn => rfl); (case he => (apply ev_len_b; rfl))) | refine Jo ?_ | intro _))
    exact o_ret3 (L' := []) Tryd.results72 rfl rfl rfl (List.nil_sublist _) ⟨rfl, rfl, rfl⟩
  by_cases hlt : p + i < s.length
  rotate_left
  · rw [decI_none hhi (.inr (by omega))]
    (repeat (first | refine Jc ?_ | (apply s_evb; (case hg => rfl); (case hd => rfl); (case hn => rfl); (case he => (apply ev_len_b; rfl))) | refine Jo ?_ | intro _))
    exact o_ret3 (L' := []) Tryd.results72 rfl rfl rfl (List.nil_sublist _) ⟨rfl, rfl, rfl⟩
  obtain ⟨b, hb⟩ : ∃ b, s[p + i]? = some b := ⟨s[p + i], List.getElem?_eq_getElem hlt⟩
  have hbl : l[i]? = some b := by rw [hat, hb]
  have hb256 := b.toNat_lt
  obtain ⟨v1, v2, v3, v4, v5⟩ := val_step hzl (m := b.toNat % 128) (by omega) (show i ≤ 8 by omega)
  have hw1 : IntKind.u64.wrap (b.toNat : Int) = (b.toNat : Int) := wrap_u64_in (by omega)
  have hrem : BinV Tryd.prog .rem .u64 (b.toNat : Int) 128 (.int .u64 ((b.toNat % 128 : Nat) : Int)) := bv_rem64 (n := 128) (by decide)
  have hadd : BinV Tryd.prog .add .u64 (z : Int) ((b.toNat % 128 * 2 ^ (7 * i) : Nat) : Int) (.int .u64 ((z + b.toNat % 128 * 128 ^ i : Nat) : Int)) := by
    rw [pow128] at v3 ⊢
    exact bv_addu64 (by omega)
  have htk : l.take (i + 1) = l.take i ++ [b] := by rw [List.take_add_one, hbl]; rfl
  have hlen : (l.take i).length = i := by rw [List.length_take]; omega
  have hz2 : z + b.toNat % 128 * 128 ^ i = val (l.take (i + 1)) := by rw [htk, val_snoc, hlen, ← hz]
  have hlast := fun h => decI_last (l := l) hhi h9 hbl h _ (by rw [← hz])
  have hsl : (s.take (p + i + 1)).drop p = l.take (i + 1) := by rw [← hl, List.drop_take]; congr 1; omega
  have hev := fun h => enc_val (l.take i) b hhi h
  rw [← htk, ← hz2, List.eq_nil_iff_length_eq_zero, hlen] at hev
  generalize z + b.toNat % 128 * 128 ^ i = y at *
  have hq : BinV Tryd.prog .quo .u64 (y : Int) 2 (.int .u64 ((y / 2 : Nat) : Int)) := bv_quo64 (n := 2) (by decide) (wrap_u64_in (by omega))
  have hr2 : BinV Tryd.prog .rem .u64 (y : Int) 2 (.int .u64 ((y % 2 : Nat) : Int)) := bv_rem64 (n := 2) (by decide)
  have hw2 : IntKind.i64.wrap ((y / 2 : Nat) : Int) = ((y / 2 : Nat) : Int) := w64_in (by omega)
  by_cases hhb : 128 ≤ b.toNat
  · (repeat (first | refine Jc ?_ | (apply s_evb; (case hg => rfl); (case hd => rfl); (case hn => rfl); (case he => (apply ev_len_b; rfl))) | (apply s_evb; (case hg => rfl); (case hd => rfl); (case hn => rfl); (case he => ((apply ev_index_b (k := p + i); (case hx => rfl); (case hi => rfl); (case hu => exact hb))))) | (apply s_bin; (case hg => rfl); (case hd => rfl); (case hx => rfl); (case hy => rfl); (case hb => first | exact hrem | exact hadd | exact hq | exact hr2)) | (apply s_evb; (case hg => rfl); (case hd => rfl); (case hn => rfl); (case he => (apply ev_convw; (case hx => rfl); (case hw => first | exact hw1 | exact hw2)))) | (apply s_evb; (case hg => rfl); (case hd => rfl); (case hn => rfl); (case he => (apply ev_shl64 (c := 7 * i); (case hx => rfl); (case hy => rfl); (case hc => omega); (case h => exact v1)))) | refine Jo ?_ | intro _))
    refine q_back (m' := 9 - (i + 1)) ⟨rfl, i + 1, y, rfl, by omega, by omega, ?_, hz2, v5, rfl, rfl⟩ (by omega) sbF sbL
    intro c hc
    rw [htk] at hc
    rcases List.mem_append.1 hc with hc | hc
    · exact hhi c hc
    · rw [List.mem_singleton.1 hc]; exact hhb
  rw [hlast (by omega)]
  have hev := hev (by omega)
  have hub : -4611686018427387904 ≤ unzig y ∧ unzig y ≤ 4611686018427387903 := by unfold unzig; split <;> omega
  have hput := rPutInt_con (unzig y) S' (by omega)
  have hib : ibs (unzig y) = enc y := by rw [ibs, zig_unzig]
  unfold putV at hput
  rw [hib] at hput
  generalize hn : unzig y = n at *
  unfold unzig at hn
  by_cases hpar : y % 2 = 1
  · rw [if_pos hpar] at hn
    subst hn
    by_cases hw : wOk (-((y / 2 : Nat) : Int) - 1)
    · rw [if_pos hw] at hput
      by_cases hc : enc y = l.take (i + 1)
      · rw [if_pos ⟨hev.1 hc, hw⟩]
        (repeat (first | refine Jc ?_ | (apply s_evb; (case hg => rfl); (case hd => rfl); (case hn => rfl); (case he => (apply ev_len_b; rfl))) | (apply s_evb; (case hg => rfl); (case hd => rfl); (case hn => rfl); (case he => ((apply ev_index_b (k := p + i); (case hx => rfl); (case hi => rfl); (case hu => exact hb))))) | (apply s_bin; (case hg => rfl); (case hd => rfl); (case hx => rfl); (case hy => rfl); (case hb => first | exact hrem | exact hadd | exact hq | exact hr2)) | (apply s_evb; (case hg => rfl); (case hd => rfl); (case hn => rfl); (case he => (apply ev_convw; (case hx => rfl); (case hw => first | exact hw1 | exact hw2)))) | (apply s_evb; (case hg => rfl); (case hd => rfl); (case hn => rfl); (case he => (apply ev_shl64 (c := 7 * i); (case hx => rfl); (case hy => rfl); (case hc => omega); (case h => exact v1)))) | ((apply z_call; rfl; rfl; rfl; exact hput; rintro _ _ _ - ⟨rfl, rfl, rfl⟩)) | (apply s_evb; (case hg => rfl); (case hd => rfl); (case hn => rfl); (case he => ((apply ev_slice_b (i := p) (j := p + i + 1); (case hx => rfl); (case hy => rfl); (case hz => rfl); (case hj => omega))))) | (apply s_evb; (case hg => rfl); (case hd => rfl); (case hn => rfl); (case he => ((apply ev_neq_bs' (r := false); (case hx => rfl); (case hy => rfl); (case h => (rw [hsl, hc]; simp)))))) | (apply s_evb; (case hg => rfl); (case hd => rfl); (case hn => rfl); (case he => ((apply ev_neq_bs' (r := true); (case hx => rfl); (case hy => rfl); (case h => (rw [hsl]; simpa using hc)))))) | refine Jo ?_ | intro _))
        exact o_ret3 (L' := []) Tryd.results72 rfl rfl rfl (List.nil_sublist _) ⟨rfl, rfl, by simp only [Int.natCast_add]; rw [← Int.add_assoc]; rfl⟩
      · rw [if_neg (fun h => hc (hev.2 h.1))]
        (repeat (first | refine Jc ?_ | (apply s_evb; (case hg => rfl); (case hd => rfl); (case hn => rfl); (case he => (apply ev_len_b; rfl))) | (apply s_evb; (case hg => rfl); (case hd => rfl); (case hn => rfl); (case he => ((apply ev_index_b (k := p + i); (case hx => rfl); (case hi => rfl); (case hu => exact hb))))) | (apply s_bin; (case hg => rfl); (case hd => rfl); (case hx => rfl); (case hy => rfl); (case hb => first | exact hrem | exact hadd | exact hq | exact hr2)) | (apply s_evb; (case hg => rfl); (case hd => rfl); (case hn => rfl); (case he => (apply ev_convw; (case hx => rfl); (case hw => first | exact hw1 | exact hw2)))) | (apply s_evb; (case hg => rfl); (case hd => rfl); (case hn => rfl); (case he => (apply ev_shl64 (c := 7 * i); (case hx => rfl); (case hy => rfl); (case hc => omega); (case h => exact v1)))) | ((apply z_call; rfl; rfl; rfl; exact hput; rintro _ _ _ - ⟨rfl, rfl, rfl⟩)) | (apply s_evb; (case hg => rfl); (case hd => rfl); (case hn => rfl); (case he => ((apply ev_slice_b (i := p) (j := p + i + 1); (case hx => rfl); (case hy => rfl); (case hz => rfl); (case hj => omega))))) | (apply s_evb; (case hg => rfl); (case hd => rfl); (case hn => rfl); (case he => ((apply ev_neq_bs' (r := false); (case hx => rfl); (case hy => rfl); (case h => (rw [hsl, hc]; simp)))))) | (apply s_evb; (case hg => rfl); (case hd => rfl); (case hn => rfl); (case he => ((apply ev_neq_bs' (r := true); (case hx => rfl); (case hy => rfl); (case h => (rw [hsl]; simpa using hc)))))) | refine Jo ?_ | intro _))
        exact o_ret3 (L' := []) Tryd.results72 rfl rfl rfl (List.nil_sublist _) ⟨rfl, rfl, rfl⟩
    · rw [if_neg hw] at hput
      rw [if_neg (fun h => hw h.2)]
      (repeat (first | refine Jc ?_ | (apply s_evb; (case hg => rfl); (case hd => rfl); (case hn => rfl); (case he => (apply ev_len_b; rfl))) | (apply s_evb; (case hg => rfl); (case hd => rfl); (case hn => rfl); (case he => ((apply ev_index_b (k := p + i); (case hx => rfl); (case hi => rfl); (case hu => exact hb))))) | (apply s_bin; (case hg => rfl); (case hd => rfl); (case hx => rfl); (case hy => rfl); (case hb => first | exact hrem | exact hadd | exact hq | exact hr2)) | (apply s_evb; (case hg => rfl); (case hd => rfl); (case hn => rfl); (case he => (apply ev_convw; (case hx => rfl); (case hw => first | exact hw1 | exact hw2)))) | (apply s_evb; (case hg => rfl); (case hd => rfl); (case hn => rfl); (case he => (apply ev_shl64 (c := 7 * i); (case hx => rfl); (case hy => rfl); (case hc => omega); (case h => exact v1)))) | ((apply z_call; rfl; rfl; rfl; exact hput; rintro _ _ _ - ⟨rfl, rfl, rfl⟩)) | (apply s_evb; (case hg => rfl); (case hd => rfl); (case hn => rfl); (case he => ((apply ev_slice_b (i := p) (j := p + i + 1); (case hx => rfl); (case hy => rfl); (case hz => rfl); (case hj => omega))))) | (apply s_evb; (case hg => rfl); (case hd => rfl); (case hn => rfl); (case he => ((apply ev_neq_bs' (r := false); (case hx => rfl); (case hy => rfl); (case h => (rw [hsl, hc]; simp)))))) | (apply s_evb; (case hg => rfl); (case hd => rfl); (case hn => rfl); (case he => ((apply ev_neq_bs' (r := true); (case hx => rfl); (case hy => rfl); (case h => (rw [hsl]; simpa using hc)))))) | refine Jo ?_ | intro _))
      exact o_ret3 (L' := []) Tryd.results72 rfl rfl rfl (List.nil_sublist _) ⟨rfl, rfl, rfl⟩
  · rw [if_neg hpar] at hn
    subst hn
    by_cases hw : wOk ((y / 2 : Nat) : Int)
    · rw [if_pos hw] at hput
      by_cases hc : enc y = l.take (i + 1)
      · rw [if_pos ⟨hev.1 hc, hw⟩]
        (repeat (first | refine Jc ?_ | (apply s_evb; (case hg => rfl); (case hd => rfl); (case hn => rfl); (case he => (apply ev_len_b; rfl))) | (apply s_evb; (case hg => rfl); (case hd => rfl); (case hn => rfl); (case he => ((apply ev_index_b (k := p + i); (case hx => rfl); (case hi => rfl); (case hu => exact hb))))) | (apply s_bin; (case hg => rfl); (case hd => rfl); (case hx => rfl); (case hy => rfl); (case hb => first | exact hrem | exact hadd | exact hq | exact hr2)) | (apply s_evb; (case hg => rfl); (case hd => rfl); (case hn => rfl); (case he => (apply ev_convw; (case hx => rfl); (case hw => first | exact hw1 | exact hw2)))) | (apply s_evb; (case hg => rfl); (case hd => rfl); (case hn => rfl); (case he => (apply ev_shl64 (c := 7 * i); (case hx => rfl); (case hy => rfl); (case hc => omega); (case h => exact v1)))) | ((apply z_call; rfl; rfl; rfl; exact hput; rintro _ _ _ - ⟨rfl, rfl, rfl⟩)) | (apply s_evb; (case hg => rfl); (case hd => rfl); (case hn => rfl); (case he => ((apply ev_slice_b (i := p) (j := p + i + 1); (case hx => rfl); (case hy => rfl); (case hz => rfl); (case hj => omega))))) | (apply s_evb; (case hg => rfl); (case hd => rfl); (case hn => rfl); (case he => ((apply ev_neq_bs' (r := false); (case hx => rfl); (case hy => rfl); (case h => (rw [hsl, hc]; simp)))))) | (apply s_evb; (case hg => rfl); (case hd => rfl); (case hn => rfl); (case he => ((apply ev_neq_bs' (r := true); (case hx => rfl); (case hy => rfl); (case h => (rw [hsl]; simpa using hc)))))) | refine Jo ?_ | intro _))
        exact o_ret3 (L' := []) Tryd.results72 rfl rfl rfl (List.nil_sublist _) ⟨rfl, rfl, by simp only [Int.natCast_add]; rw [← Int.add_assoc]; rfl⟩
      · rw [if_neg (fun h => hc (hev.2 h.1))]
        (repeat (first | refine Jc ?_ | (apply s_evb; (case hg => rfl); (case hd => rfl); (case hn => rfl); (case he => (apply ev_len_b; rfl))) | (apply s_evb; (case hg => rfl); (case hd => rfl); (case hn => rfl); (case he => ((apply ev_index_b (k := p + i); (case hx => rfl); (case hi => rfl); (case hu => exact hb))))) | (apply s_bin; (case hg => rfl); (case hd => rfl); (case hx => rfl); (case hy => rfl); (case hb => first | exact hrem | exact hadd | exact hq | exact hr2)) | (apply s_evb; (case hg => rfl); (case hd => rfl); (case hn => rfl); (case he => (apply ev_convw; (case hx => rfl); (case hw => first | exact hw1 | exact hw2)))) | (apply s_evb; (case hg => rfl); (case hd => rfl); (case hn => rfl); (case he => (apply ev_shl64 (c := 7 * i); (case hx => rfl); (case hy => rfl); (case hc => omega); (case h => exact v1)))) | ((apply z_call; rfl; rfl; rfl; exact hput; rintro _ _ _ - ⟨rfl, rfl, rfl⟩)) | (apply s_evb; (case hg => rfl); (case hd => rfl); (case hn => rfl); (case he => ((apply ev_slice_b (i := p) (j := p + i + 1); (case hx => rfl); (case hy => rfl); (case hz => rfl); (case hj => omega))))) | (apply s_evb; (case hg => rfl); (case hd => rfl); (case hn => rfl); (case he => ((apply ev_neq_bs' (r := false); (case hx => rfl); (case hy => rfl); (case h => (rw [hsl, hc]; simp)))))) | (apply s_evb; (case hg => rfl); (case hd => rfl); (case hn => rfl); (case he => ((apply ev_neq_bs' (r := true); (case hx => rfl); (case hy => rfl); (case h => (rw [hsl]; simpa using hc)))))) | refine Jo ?_ | intro _))
        exact o_ret3 (L' := []) Tryd.results72 rfl rfl rfl (List.nil_sublist _) ⟨rfl, rfl, rfl⟩
    · exfalso; unfold wOk at hw; omega
end Go.Proofs.YtogfficbloejcaaDoor
