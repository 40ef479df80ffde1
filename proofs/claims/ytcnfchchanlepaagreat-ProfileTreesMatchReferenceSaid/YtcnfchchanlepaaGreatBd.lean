/- Contracts of functions of this program, each proved by a walk through its code, and plain lemmas on what they compute; on no condition beyond those that each theorem states. -/
import Derived.Test.YtcnfchchanlepaaGreatBc
import Derived.Test.YtcnfchchanlepaaGreatBb
import Derived.Test.YtcnfchchanlepaaGreatXB
import Derived.Test.YtcnfchchanlepaaGreatXA
import Derived.Shelf.SlSortCmp.NoneTotal
namespace Go.Proofs.YtcnfchchanlepaaGreat
open Go Go.X
set_option linter.unusedVariables false
set_option maxRecDepth 10000
set_option linter.unusedVariables false
attribute [local irreducible] Code.wpIn wpListIn Exit.then Exit.inBlock X.Out X.Back X.W X.Ev X.Con X.BinV X.Wh X.Wn X.Wq
theorem rin_con (n a b : Int) (S : SH) : Con Tryz.prog 29 #[.int .i64 n, .int .i64 a, .int .i64 b] S [] (X.Pure S (.bool (inB n a b))) := by
  refine con_of (args := [.int .i64 n, .int .i64 a, .int .i64 b]) Tryz.func29 rfl Tryz.ntmps29 rfl fun w => ?_
  unfold inB
  by_cases h1 : a ≤ n
  · by_cases h2 : n ≤ b
    · rw [decide_eq_true ⟨h1, h2⟩]
      (repeat (first | refine Jz ?_ | intro _))
      exact o_ret Tryz.results29 rfl (List.nil_sublist _) ⟨rfl, rfl, rfl⟩
    · rw [decide_eq_false fun h => h2 h.2]
      (repeat (first | refine Jz ?_ | intro _))
      exact o_ret Tryz.results29 rfl (List.nil_sublist _) ⟨rfl, rfl, rfl⟩
  · rw [decide_eq_false fun h => h1 h.1]
    (repeat (first | refine Jz ?_ | intro _))
    exact o_ret Tryz.results29 rfl (List.nil_sublist _) ⟨rfl, rfl, rfl⟩
theorem rin_t (n a b : Int) (S : SH) (r : Bool) (h : inB n a b = r) : Con Tryz.prog 29 #[.int .i64 n, .int .i64 a, .int .i64 b] S [] (X.Pure S (.bool r)) := h ▸ rin_con n a b S
set_option maxHeartbeats 1600000 in
theorem rfunction_con (s : Bs) (S : SH) : Con Tryz.prog 30 #[strV s] S [] (X.Pure S (.bool (nameB s))) := by
  refine con_of (args := [strV s]) Tryz.func30 rfl Tryz.ntmps30 rfl fun w => ?_
  unfold nameB
  by_cases h1 : 1 ≤ s.length
  rotate_left
  · rw [decide_eq_false (fun h => h1 h.1)]
    (repeat (first | refine Jc ?_ | (apply s_evb; (case hg => rfl); (case hd => rfl); (case hn => rfl); (case he => (apply ev_len_b; rfl))) | refine Jo ?_ | intro _))
    exact o_ret Tryz.results30 rfl (List.nil_sublist _) ⟨rfl, rfl, rfl⟩
  by_cases h2 : s.length ≤ 16
  rotate_left
  · rw [decide_eq_false (fun h => h2 h.2)]
    (repeat (first | refine Jc ?_ | (apply s_evb; (case hg => rfl); (case hd => rfl); (case hn => rfl); (case he => (apply ev_len_b; rfl))) | refine Jo ?_ | intro _))
    exact o_ret Tryz.results30 rfl (List.nil_sublist _) ⟨rfl, rfl, rfl⟩
  rw [decide_eq_true ⟨h1, h2⟩]
  (repeat (first | refine Jc ?_ | (apply s_evb; (case hg => rfl); (case hd => rfl); (case hn => rfl); (case he => (apply ev_len_b; rfl))) | refine Jo ?_ | intro _))
  refine c_loop (fun m S' L F => S' = S ∧ L = [] ∧ ∃ (k : Nat), m = s.length - k ∧ k ≤ s.length ∧ (s.take k).any isOther = false ∧ F = [(0, strV s), (3, .int .i64 k)]) ⟨rfl, rfl, 0, rfl, by omega, rfl, rfl⟩ sbF (List.nil_sublist _) ?_
  rintro m S' L F ⟨rfl, rfl, k, rfl, hk, hi, rfl⟩
  by_cases hlt : k < s.length
  rotate_left
  · rw [List.take_of_length_le (by omega)] at hi
    rw [hi]
    (repeat (first | refine Jc ?_ | (apply s_evb; (case hg => rfl); (case hd => rfl); (case hn => rfl); (case he => (apply ev_len_b; rfl))) | refine Jo ?_ | intro _))
    exact o_ret Tryz.results30 rfl (List.nil_sublist _) ⟨rfl, rfl, rfl⟩
  obtain ⟨c, hc⟩ := at_lt hlt
  have hs : (s.take (k + 1)).any isOther = isOther c := by rw [take_at hc, List.any_append, hi]; simp
  have hall : isOther c = true → s.any isOther = true := fun h => List.any_eq_true.2 ⟨c, List.mem_of_getElem? hc, h⟩
  cases hot : isOther c
  · rw [hot] at hs
    clear hall
    by_cases h3 : c.toNat < 97 <;> by_cases h4 : 122 < c.toNat <;> by_cases h5 : c.toNat < 48 <;> by_cases h6 : 57 < c.toNat
    all_goals first | (exfalso; revert hot; simp [isOther, h3, h4, h5, h6]; done) | (exfalso; omega) | ((repeat (first | refine Jc ?_ | (apply s_evb; (case hg => rfl); (case hd => rfl); (case hn => rfl); (case he => (apply ev_len_b; rfl))) | (apply s_evb; (case hg => rfl); (case hd => rfl); (case hn => rfl); (case he => ((apply ev_index_b (k := k); (case hx => rfl); (case hi => rfl); (case hu => exact hc))))) | refine Jo ?_ | intro _)); exact q_back (L' := []) (m' := s.length - (k + 1)) ⟨rfl, rfl, k + 1, rfl, by omega, hs, rfl⟩ (by omega) sbF (List.nil_sublist _))
  · rw [hall hot]
    by_cases h3 : c.toNat < 97 <;> by_cases h4 : 122 < c.toNat <;> by_cases h5 : c.toNat < 48 <;> by_cases h6 : 57 < c.toNat
    all_goals first | (exfalso; revert hot; simp [isOther, h3, h4, h5, h6]; done) | (exfalso; omega) | ((repeat (first | refine Jc ?_ | (apply s_evb; (case hg => rfl); (case hd => rfl); (case hn => rfl); (case he => (apply ev_len_b; rfl))) | (apply s_evb; (case hg => rfl); (case hd => rfl); (case hn => rfl); (case he => ((apply ev_index_b (k := k); (case hx => rfl); (case hi => rfl); (case hu => exact hc))))) | refine Jo ?_ | intro _)); exact o_ret Tryz.results30 rfl (List.nil_sublist _) ⟨rfl, rfl, rfl⟩)
theorem rfunction_t (s : Bs) (S : SH) (r : Bool) (h : nameB s = r) : Con Tryz.prog 30 #[strV s] S [] (X.Pure S (.bool r)) := h ▸ rfunction_con s S
theorem symOk_not {s : Sym} (h : ¬ symOk s) : inB s.version 0 9 = false ∨ (inB s.version 0 9 = true ∧ inB s.from_ 0 1000000 = false) ∨ (inB s.version 0 9 = true ∧ inB s.from_ 0 1000000 = true ∧ s.to ≤ s.from_) ∨ (inB s.version 0 9 = true ∧ inB s.from_ 0 1000000 = true ∧ s.from_ < s.to ∧ 1000000 < s.to) ∨ (inB s.version 0 9 = true ∧ inB s.from_ 0 1000000 = true ∧ s.from_ < s.to ∧ s.to ≤ 1000000 ∧ nameB s.name = false) := by
  unfold symOk at h
  cases h1 : inB s.version 0 9
  · exact .inl rfl
  cases h2 : inB s.from_ 0 1000000
  · exact .inr (.inl ⟨rfl, rfl⟩)
  by_cases h3 : s.to ≤ s.from_
  · exact .inr (.inr (.inl ⟨rfl, rfl, h3⟩))
  by_cases h4 : 1000000 < s.to
  · exact .inr (.inr (.inr (.inl ⟨rfl, rfl, by omega, h4⟩)))
  cases h5 : nameB s.name
  · exact .inr (.inr (.inr (.inr ⟨rfl, rfl, by omega, by omega, rfl⟩)))
  · exact absurd ⟨h1, h2, decide_eq_true (by omega), h5⟩ h
theorem symOk_yes {s : Sym} (h : symOk s) : inB s.version 0 9 = true ∧ inB s.from_ 0 1000000 = true ∧ s.from_ < s.to ∧ s.to ≤ 1000000 ∧ nameB s.name = true := by
  obtain ⟨h1, h2, h3, h4⟩ := h
  have := of_decide_eq_true h3
  exact ⟨h1, h2, by omega, by omega, h4⟩
theorem pairI_iff (p s : Sym) : 0 < pairI p s ↔ s.version < p.version ∨ s.version = p.version ∧ s.from_ < p.to := by
  have e : pairI p s = if cmpI p.version s.version = 0 then (if cmpI p.to s.from_ = 0 then 0 else cmpI p.to s.from_) else cmpI p.version s.version := rfl
  rw [e]
  unfold cmpI
  by_cases h1 : p.version < s.version
  · rw [if_pos h1, if_neg (by omega)]; omega
  · by_cases h2 : s.version < p.version
    · rw [if_neg h1, if_pos h2, if_neg (by omega)]; omega
    · rw [if_neg h1, if_neg h2, if_pos rfl]
      by_cases h3 : p.to < s.from_
      · rw [if_pos h3, if_neg (by omega)]; omega
      · by_cases h4 : s.from_ < p.to
        · rw [if_neg h3, if_pos h4, if_neg (by omega)]; omega
        · rw [if_neg h3, if_neg h4, if_pos rfl]; omega
set_option maxHeartbeats 6400000 in
theorem rSymbols_con (l : List Sym) (A : Option Addr) (c : Nat) (S : SH) (hA : At S A l) (hl : l.length ≤ 1000000) :
    Con Tryz.prog 21 #[.slice A l.length c] S [] (fun _ L' r => L' = [] ∧ ∃ b : Bool, r = .bool b ∧ (b = true ↔ SymsOk l)) := by
  refine con_of (args := [.slice A l.length c]) Tryz.func21 rfl Tryz.ntmps21 rfl fun w => ?_
  by_cases hl1 : l.length ≤ 100
  rotate_left
  · (repeat (first | refine Jz ?_ | intro _))
    exact o_ret Tryz.results21 rfl (List.nil_sublist _) ⟨rfl, false, rfl, (fun h => absurd h Bool.false_ne_true), fun h => absurd h.2 hl1⟩
  (repeat (first | refine Jz ?_ | intro _))
  refine c_loop (fun m S' L F => S = S' ∧ L = [] ∧ ∃ (k : Nat), m = l.length - k ∧ k ≤ l.length ∧ SymsTo l k ∧ F = [(0, .slice A l.length c), (3, .int .i64 k)]) ⟨rfl, rfl, 0, rfl, by omega, fun i s h => by omega, rfl⟩ sbF (List.nil_sublist _) ?_
  rintro m S1 L F ⟨rfl, rfl, k, rfl, hk, hi, rfl⟩
  by_cases hlt : k < l.length
  rotate_left
  · (repeat (first | refine Jz ?_ | intro _))
    exact o_ret Tryz.results21 rfl (List.nil_sublist _) ⟨rfl, true, rfl, fun _ => ⟨fun i s h => hi i s (by omega), hl1⟩, fun _ => rfl⟩
  obtain ⟨s, hs⟩ := at_lt hlt
  have hc1 := fun S r h => rin_t s.version 0 9 S r h
  have hc2 := fun S r h => rin_t s.from_ 0 1000000 S r h
  have hc5 := fun S r h => rfunction_t s.name S r h
  obtain ⟨v1, hv1⟩ : ∃ b, inB s.version 0 9 = b := ⟨_, rfl⟩
  obtain ⟨v2, hv2⟩ : ∃ b, inB s.from_ 0 1000000 = b := ⟨_, rfl⟩
  obtain ⟨v5, hv5⟩ : ∃ b, nameB s.name = b := ⟨_, rfl⟩
  by_cases hok : symOk s
  rotate_left
  · have hno : ¬ SymsOk l := fun h => hok (h.1 k s hlt hs).1
    have hf := symOk_not hok
    rw [hv1, hv2, hv5] at hf
    rcases hf with rfl | ⟨rfl, rfl⟩ | ⟨rfl, rfl, h3⟩ | ⟨rfl, rfl, h3, h4⟩ | ⟨rfl, rfl, h3, h4, rfl⟩
    · (repeat (first | refine Jz ?_ | intro _))
      ((apply c_held ([]); (case hL => (exact sbT))); refine Jf 0 ?_; refine Jf 1 ?_; (apply h_idx hA 2; (case hi => rfl); (case hr => kernel_rfl); (case hfr => kernel_rfl); (case hsel => kernel_rfl); (case hg => rfl); (case hd => rfl); (case i1 => infer_instance); (case i2 => infer_instance); (case hx => rfl); (case hy => rfl); (case hm => rfl); (case hu => exact hs); intro q1 (hq1 : Pts _ q1 [.int .i64 s.version, .int .i64 s.from_, .int .i64 s.to, strV s.name])); refine Jf 3 ?_; (apply h_first 4; (case hi => rfl); (case hr => kernel_rfl); (case hfr => kernel_rfl); (case hsel => kernel_rfl); (case hg => rfl); (case hd => rfl); (case he => (apply ev_load_f; (case hx => rfl); (case h => exact hq1); (case hv => rfl)))); (apply h_one 5; (case hr => kernel_rfl)); (apply n_call; (case hi => rfl); (case i1 => infer_instance); (case hg => rfl); (case hd => rfl); (case ha => rfl); (case hc => exact hc1 _ _ hv1); (case hL => (repeat (first | exact pm_nil _ | exact pm_refl _ _ | exact pm_self _ | apply pm_cons | apply pm_app))); (case hsub => (intros; (exact sbT))); rintro _ _ _ - ⟨rfl, rfl, rfl⟩); refine Jf 6 ?_; refine Jf 7 ?_; refine Jf 8 ?_; refine Jf 9 ?_; refine Jf 10 ?_; refine Jf 11 ?_; refine Jf 12 ?_; (apply h_one 13; (case hr => kernel_rfl)); (refine X.Jn ?_; try intro _); refine Jf 14 ?_; refine Jf 15 ?_; refine Jf 16 ?_; refine Jf 17 ?_; refine Jf 18 ?_; refine Jf 19 ?_; refine Jf 20 ?_; refine Jf 21 ?_; refine Jf 22 ?_; refine Jf 23 ?_; refine Jf 24 ?_; refine Jf 25 ?_; refine Jf 26 ?_; refine Jf 27 ?_; refine Jf 28 ?_; refine Jf 29 ?_; refine Jf 30 ?_; refine Jf 31 ?_; refine Jf 32 ?_; refine Jf 33 ?_; refine Jf 34 ?_; refine Jf 35 ?_; refine Jf 36 ?_; refine Jf 37 ?_; refine Jf 38 ?_; refine Jf 39 ?_; refine Jf 40 ?_; refine Jf 41 ?_; refine Jf 42 ?_; (apply h_one 43; (case hr => kernel_rfl)); (refine X.Jn ?_; try intro _); refine Jf 44 ?_; refine Jf 45 ?_; (apply h_end; (case hr => kernel_rfl)))
      (repeat (first | refine Jz ?_ | intro _))
      exact o_ret Tryz.results21 rfl (List.nil_sublist _) ⟨rfl, false, rfl, (fun h => absurd h Bool.false_ne_true), fun h => absurd h hno⟩
    · (repeat (first | refine Jz ?_ | intro _))
      ((apply c_held ([]); (case hL => (exact sbT))); refine Jf 0 ?_; refine Jf 1 ?_; (apply h_idx hA 2; (case hi => rfl); (case hr => kernel_rfl); (case hfr => kernel_rfl); (case hsel => kernel_rfl); (case hg => rfl); (case hd => rfl); (case i1 => infer_instance); (case i2 => infer_instance); (case hx => rfl); (case hy => rfl); (case hm => rfl); (case hu => exact hs); intro q1 (hq1 : Pts _ q1 [.int .i64 s.version, .int .i64 s.from_, .int .i64 s.to, strV s.name])); refine Jf 3 ?_; (apply h_first 4; (case hi => rfl); (case hr => kernel_rfl); (case hfr => kernel_rfl); (case hsel => kernel_rfl); (case hg => rfl); (case hd => rfl); (case he => (apply ev_load_f; (case hx => rfl); (case h => exact hq1); (case hv => rfl)))); (apply h_one 5; (case hr => kernel_rfl)); (apply n_call; (case hi => rfl); (case i1 => infer_instance); (case hg => rfl); (case hd => rfl); (case ha => rfl); (case hc => exact hc1 _ _ hv1); (case hL => (repeat (first | exact pm_nil _ | exact pm_refl _ _ | exact pm_self _ | apply pm_cons | apply pm_app))); (case hsub => (intros; (exact sbT))); rintro _ _ _ - ⟨rfl, rfl, rfl⟩); refine Jf 6 ?_; refine Jf 7 ?_; refine Jf 8 ?_; refine Jf 9 ?_; (apply h_idx hA 10; (case hi => rfl); (case hr => kernel_rfl); (case hfr => kernel_rfl); (case hsel => kernel_rfl); (case hg => rfl); (case hd => rfl); (case i1 => infer_instance); (case i2 => infer_instance); (case hx => rfl); (case hy => rfl); (case hm => rfl); (case hu => exact hs); intro q2 (hq2 : Pts _ q2 [.int .i64 s.version, .int .i64 s.from_, .int .i64 s.to, strV s.name])); refine Jf 11 ?_; (apply h_first 12; (case hi => rfl); (case hr => kernel_rfl); (case hfr => kernel_rfl); (case hsel => kernel_rfl); (case hg => rfl); (case hd => rfl); (case he => (apply ev_load_f; (case hx => rfl); (case h => exact hq2); (case hv => rfl)))); (apply h_one 13; (case hr => kernel_rfl)); (apply n_call; (case hi => rfl); (case i1 => infer_instance); (case hg => rfl); (case hd => rfl); (case ha => rfl); (case hc => exact hc2 _ _ hv2); (case hL => (repeat (first | exact pm_nil _ | exact pm_refl _ _ | exact pm_self _ | apply pm_cons | apply pm_app))); (case hsub => (intros; (exact sbT))); rintro _ _ _ - ⟨rfl, rfl, rfl⟩); refine Jf 14 ?_; refine Jf 15 ?_; refine Jf 16 ?_; refine Jf 17 ?_; refine Jf 18 ?_; refine Jf 19 ?_; refine Jf 20 ?_; refine Jf 21 ?_; refine Jf 22 ?_; refine Jf 23 ?_; refine Jf 24 ?_; refine Jf 25 ?_; refine Jf 26 ?_; refine Jf 27 ?_; refine Jf 28 ?_; refine Jf 29 ?_; refine Jf 30 ?_; refine Jf 31 ?_; refine Jf 32 ?_; refine Jf 33 ?_; refine Jf 34 ?_; refine Jf 35 ?_; refine Jf 36 ?_; refine Jf 37 ?_; refine Jf 38 ?_; refine Jf 39 ?_; refine Jf 40 ?_; refine Jf 41 ?_; refine Jf 42 ?_; (apply h_one 43; (case hr => kernel_rfl)); (refine X.Jn ?_; try intro _); refine Jf 44 ?_; refine Jf 45 ?_; (apply h_end; (case hr => kernel_rfl)))
      (repeat (first | refine Jz ?_ | intro _))
      exact o_ret Tryz.results21 rfl (List.nil_sublist _) ⟨rfl, false, rfl, (fun h => absurd h Bool.false_ne_true), fun h => absurd h hno⟩
    · (repeat (first | refine Jz ?_ | intro _))
      ((apply c_held ([]); (case hL => (exact sbT))); refine Jf 0 ?_; refine Jf 1 ?_; (apply h_idx hA 2; (case hi => rfl); (case hr => kernel_rfl); (case hfr => kernel_rfl); (case hsel => kernel_rfl); (case hg => rfl); (case hd => rfl); (case i1 => infer_instance); (case i2 => infer_instance); (case hx => rfl); (case hy => rfl); (case hm => rfl); (case hu => exact hs); intro q1 (hq1 : Pts _ q1 [.int .i64 s.version, .int .i64 s.from_, .int .i64 s.to, strV s.name])); refine Jf 3 ?_; (apply h_first 4; (case hi => rfl); (case hr => kernel_rfl); (case hfr => kernel_rfl); (case hsel => kernel_rfl); (case hg => rfl); (case hd => rfl); (case he => (apply ev_load_f; (case hx => rfl); (case h => exact hq1); (case hv => rfl)))); (apply h_one 5; (case hr => kernel_rfl)); (apply n_call; (case hi => rfl); (case i1 => infer_instance); (case hg => rfl); (case hd => rfl); (case ha => rfl); (case hc => exact hc1 _ _ hv1); (case hL => (repeat (first | exact pm_nil _ | exact pm_refl _ _ | exact pm_self _ | apply pm_cons | apply pm_app))); (case hsub => (intros; (exact sbT))); rintro _ _ _ - ⟨rfl, rfl, rfl⟩); refine Jf 6 ?_; refine Jf 7 ?_; refine Jf 8 ?_; refine Jf 9 ?_; (apply h_idx hA 10; (case hi => rfl); (case hr => kernel_rfl); (case hfr => kernel_rfl); (case hsel => kernel_rfl); (case hg => rfl); (case hd => rfl); (case i1 => infer_instance); (case i2 => infer_instance); (case hx => rfl); (case hy => rfl); (case hm => rfl); (case hu => exact hs); intro q2 (hq2 : Pts _ q2 [.int .i64 s.version, .int .i64 s.from_, .int .i64 s.to, strV s.name])); refine Jf 11 ?_; (apply h_first 12; (case hi => rfl); (case hr => kernel_rfl); (case hfr => kernel_rfl); (case hsel => kernel_rfl); (case hg => rfl); (case hd => rfl); (case he => (apply ev_load_f; (case hx => rfl); (case h => exact hq2); (case hv => rfl)))); (apply h_one 13; (case hr => kernel_rfl)); (apply n_call; (case hi => rfl); (case i1 => infer_instance); (case hg => rfl); (case hd => rfl); (case ha => rfl); (case hc => exact hc2 _ _ hv2); (case hL => (repeat (first | exact pm_nil _ | exact pm_refl _ _ | exact pm_self _ | apply pm_cons | apply pm_app))); (case hsub => (intros; (exact sbT))); rintro _ _ _ - ⟨rfl, rfl, rfl⟩); refine Jf 14 ?_; refine Jf 15 ?_; refine Jf 16 ?_; refine Jf 17 ?_; refine Jf 18 ?_; (apply h_idx hA 19; (case hi => rfl); (case hr => kernel_rfl); (case hfr => kernel_rfl); (case hsel => kernel_rfl); (case hg => rfl); (case hd => rfl); (case i1 => infer_instance); (case i2 => infer_instance); (case hx => rfl); (case hy => rfl); (case hm => rfl); (case hu => exact hs); intro q3 (hq3 : Pts _ q3 [.int .i64 s.version, .int .i64 s.from_, .int .i64 s.to, strV s.name])); refine Jf 20 ?_; (apply h_first 21; (case hi => rfl); (case hr => kernel_rfl); (case hfr => kernel_rfl); (case hsel => kernel_rfl); (case hg => rfl); (case hd => rfl); (case he => (apply ev_load_f; (case hx => rfl); (case h => exact hq3); (case hv => rfl)))); refine Jf 22 ?_; refine Jf 23 ?_; (apply h_idx hA 24; (case hi => rfl); (case hr => kernel_rfl); (case hfr => kernel_rfl); (case hsel => kernel_rfl); (case hg => rfl); (case hd => rfl); (case i1 => infer_instance); (case i2 => infer_instance); (case hx => rfl); (case hy => rfl); (case hm => rfl); (case hu => exact hs); intro q4 (hq4 : Pts _ q4 [.int .i64 s.version, .int .i64 s.from_, .int .i64 s.to, strV s.name])); refine Jf 25 ?_; (apply h_first 26; (case hi => rfl); (case hr => kernel_rfl); (case hfr => kernel_rfl); (case hsel => kernel_rfl); (case hg => rfl); (case hd => rfl); (case he => (apply ev_load_f; (case hx => rfl); (case h => exact hq4); (case hv => rfl)))); refine Jf 27 ?_; refine Jf 28 ?_; refine Jf 29 ?_; refine Jf 30 ?_; refine Jf 31 ?_; refine Jf 32 ?_; refine Jf 33 ?_; refine Jf 34 ?_; refine Jf 35 ?_; refine Jf 36 ?_; refine Jf 37 ?_; refine Jf 38 ?_; refine Jf 39 ?_; refine Jf 40 ?_; refine Jf 41 ?_; refine Jf 42 ?_; (apply h_one 43; (case hr => kernel_rfl)); (refine X.Jn ?_; try intro _); refine Jf 44 ?_; refine Jf 45 ?_; (apply h_end; (case hr => kernel_rfl)))
      (repeat (first | refine Jz ?_ | intro _))
      exact o_ret Tryz.results21 rfl (List.nil_sublist _) ⟨rfl, false, rfl, (fun h => absurd h Bool.false_ne_true), fun h => absurd h hno⟩
    · (repeat (first | refine Jz ?_ | intro _))
      ((apply c_held ([]); (case hL => (exact sbT))); refine Jf 0 ?_; refine Jf 1 ?_; (apply h_idx hA 2; (case hi => rfl); (case hr => kernel_rfl); (case hfr => kernel_rfl); (case hsel => kernel_rfl); (case hg => rfl); (case hd => rfl); (case i1 => infer_instance); (case i2 => infer_instance); (case hx => rfl); (case hy => rfl); (case hm => rfl); (case hu => exact hs); intro q1 (hq1 : Pts _ q1 [.int .i64 s.version, .int .i64 s.from_, .int .i64 s.to, strV s.name])); refine Jf 3 ?_; (apply h_first 4; (case hi => rfl); (case hr => kernel_rfl); (case hfr => kernel_rfl); (case hsel => kernel_rfl); (case hg => rfl); (case hd => rfl); (case he => (apply ev_load_f; (case hx => rfl); (case h => exact hq1); (case hv => rfl)))); (apply h_one 5; (case hr => kernel_rfl)); (apply n_call; (case hi => rfl); (case i1 => infer_instance); (case hg => rfl); (case hd => rfl); (case ha => rfl); (case hc => exact hc1 _ _ hv1); (case hL => (repeat (first | exact pm_nil _ | exact pm_refl _ _ | exact pm_self _ | apply pm_cons | apply pm_app))); (case hsub => (intros; (exact sbT))); rintro _ _ _ - ⟨rfl, rfl, rfl⟩); refine Jf 6 ?_; refine Jf 7 ?_; refine Jf 8 ?_; refine Jf 9 ?_; (apply h_idx hA 10; (case hi => rfl); (case hr => kernel_rfl); (case hfr => kernel_rfl); (case hsel => kernel_rfl); (case hg => rfl); (case hd => rfl); (case i1 => infer_instance); (case i2 => infer_instance); (case hx => rfl); (case hy => rfl); (case hm => rfl); (case hu => exact hs); intro q2 (hq2 : Pts _ q2 [.int .i64 s.version, .int .i64 s.from_, .int .i64 s.to, strV s.name])); refine Jf 11 ?_; (apply h_first 12; (case hi => rfl); (case hr => kernel_rfl); (case hfr => kernel_rfl); (case hsel => kernel_rfl); (case hg => rfl); (case hd => rfl); (case he => (apply ev_load_f; (case hx => rfl); (case h => exact hq2); (case hv => rfl)))); (apply h_one 13; (case hr => kernel_rfl)); (apply n_call; (case hi => rfl); (case i1 => infer_instance); (case hg => rfl); (case hd => rfl); (case ha => rfl); (case hc => exact hc2 _ _ hv2); (case hL => (repeat (first | exact pm_nil _ | exact pm_refl _ _ | exact pm_self _ | apply pm_cons | apply pm_app))); (case hsub => (intros; (exact sbT))); rintro _ _ _ - ⟨rfl, rfl, rfl⟩); refine Jf 14 ?_; refine Jf 15 ?_; refine Jf 16 ?_; refine Jf 17 ?_; refine Jf 18 ?_; (apply h_idx hA 19; (case hi => rfl); (case hr => kernel_rfl); (case hfr => kernel_rfl); (case hsel => kernel_rfl); (case hg => rfl); (case hd => rfl); (case i1 => infer_instance); (case i2 => infer_instance); (case hx => rfl); (case hy => rfl); (case hm => rfl); (case hu => exact hs); intro q3 (hq3 : Pts _ q3 [.int .i64 s.version, .int .i64 s.from_, .int .i64 s.to, strV s.name])); refine Jf 20 ?_; (apply h_first 21; (case hi => rfl); (case hr => kernel_rfl); (case hfr => kernel_rfl); (case hsel => kernel_rfl); (case hg => rfl); (case hd => rfl); (case he => (apply ev_load_f; (case hx => rfl); (case h => exact hq3); (case hv => rfl)))); refine Jf 22 ?_; refine Jf 23 ?_; (apply h_idx hA 24; (case hi => rfl); (case hr => kernel_rfl); (case hfr => kernel_rfl); (case hsel => kernel_rfl); (case hg => rfl); (case hd => rfl); (case i1 => infer_instance); (case i2 => infer_instance); (case hx => rfl); (case hy => rfl); (case hm => rfl); (case hu => exact hs); intro q4 (hq4 : Pts _ q4 [.int .i64 s.version, .int .i64 s.from_, .int .i64 s.to, strV s.name])); refine Jf 25 ?_; (apply h_first 26; (case hi => rfl); (case hr => kernel_rfl); (case hfr => kernel_rfl); (case hsel => kernel_rfl); (case hg => rfl); (case hd => rfl); (case he => (apply ev_load_f; (case hx => rfl); (case h => exact hq4); (case hv => rfl)))); refine Jf 27 ?_; refine Jf 28 ?_; refine Jf 29 ?_; refine Jf 30 ?_; refine Jf 31 ?_; (apply h_idx hA 32; (case hi => rfl); (case hr => kernel_rfl); (case hfr => kernel_rfl); (case hsel => kernel_rfl); (case hg => rfl); (case hd => rfl); (case i1 => infer_instance); (case i2 => infer_instance); (case hx => rfl); (case hy => rfl); (case hm => rfl); (case hu => exact hs); intro q5 (hq5 : Pts _ q5 [.int .i64 s.version, .int .i64 s.from_, .int .i64 s.to, strV s.name])); refine Jf 33 ?_; (apply h_first 34; (case hi => rfl); (case hr => kernel_rfl); (case hfr => kernel_rfl); (case hsel => kernel_rfl); (case hg => rfl); (case hd => rfl); (case he => (apply ev_load_f; (case hx => rfl); (case h => exact hq5); (case hv => rfl)))); refine Jf 35 ?_; refine Jf 36 ?_; refine Jf 37 ?_; refine Jf 38 ?_; refine Jf 39 ?_; refine Jf 40 ?_; refine Jf 41 ?_; refine Jf 42 ?_; (apply h_one 43; (case hr => kernel_rfl)); (refine X.Jn ?_; try intro _); refine Jf 44 ?_; refine Jf 45 ?_; (apply h_end; (case hr => kernel_rfl)))
      (repeat (first | refine Jz ?_ | intro _))
      exact o_ret Tryz.results21 rfl (List.nil_sublist _) ⟨rfl, false, rfl, (fun h => absurd h Bool.false_ne_true), fun h => absurd h hno⟩
    · (repeat (first | refine Jz ?_ | intro _))
      ((apply c_held ([]); (case hL => (exact sbT))); refine Jf 0 ?_; refine Jf 1 ?_; (apply h_idx hA 2; (case hi => rfl); (case hr => kernel_rfl); (case hfr => kernel_rfl); (case hsel => kernel_rfl); (case hg => rfl); (case hd => rfl); (case i1 => infer_instance); (case i2 => infer_instance); (case hx => rfl); (case hy => rfl); (case hm => rfl); (case hu => exact hs); intro q1 (hq1 : Pts _ q1 [.int .i64 s.version, .int .i64 s.from_, .int .i64 s.to, strV s.name])); refine Jf 3 ?_; (apply h_first 4; (case hi => rfl); (case hr => kernel_rfl); (case hfr => kernel_rfl); (case hsel => kernel_rfl); (case hg => rfl); (case hd => rfl); (case he => (apply ev_load_f; (case hx => rfl); (case h => exact hq1); (case hv => rfl)))); (apply h_one 5; (case hr => kernel_rfl)); (apply n_call; (case hi => rfl); (case i1 => infer_instance); (case hg => rfl); (case hd => rfl); (case ha => rfl); (case hc => exact hc1 _ _ hv1); (case hL => (repeat (first | exact pm_nil _ | exact pm_refl _ _ | exact pm_self _ | apply pm_cons | apply pm_app))); (case hsub => (intros; (exact sbT))); rintro _ _ _ - ⟨rfl, rfl, rfl⟩); refine Jf 6 ?_; refine Jf 7 ?_; refine Jf 8 ?_; refine Jf 9 ?_; (apply h_idx hA 10; (case hi => rfl); (case hr => kernel_rfl); (case hfr => kernel_rfl); (case hsel => kernel_rfl); (case hg => rfl); (case hd => rfl); (case i1 => infer_instance); (case i2 => infer_instance); (case hx => rfl); (case hy => rfl); (case hm => rfl); (case hu => exact hs); intro q2 (hq2 : Pts _ q2 [.int .i64 s.version, .int .i64 s.from_, .int .i64 s.to, strV s.name])); refine Jf 11 ?_; (apply h_first 12; (case hi => rfl); (case hr => kernel_rfl); (case hfr => kernel_rfl); (case hsel => kernel_rfl); (case hg => rfl); (case hd => rfl); (case he => (apply ev_load_f; (case hx => rfl); (case h => exact hq2); (case hv => rfl)))); (apply h_one 13; (case hr => kernel_rfl)); (apply n_call; (case hi => rfl); (case i1 => infer_instance); (case hg => rfl); (case hd => rfl); (case ha => rfl); (case hc => exact hc2 _ _ hv2); (case hL => (repeat (first | exact pm_nil _ | exact pm_refl _ _ | exact pm_self _ | apply pm_cons | apply pm_app))); (case hsub => (intros; (exact sbT))); rintro _ _ _ - ⟨rfl, rfl, rfl⟩); refine Jf 14 ?_; refine Jf 15 ?_; refine Jf 16 ?_; refine Jf 17 ?_; refine Jf 18 ?_; (apply h_idx hA 19; (case hi => rfl); (case hr => kernel_rfl); (case hfr => kernel_rfl); (case hsel => kernel_rfl); (case hg => rfl); (case hd => rfl); (case i1 => infer_instance); (case i2 => infer_instance); (case hx => rfl); (case hy => rfl); (case hm => rfl); (case hu => exact hs); intro q3 (hq3 : Pts _ q3 [.int .i64 s.version, .int .i64 s.from_, .int .i64 s.to, strV s.name])); refine Jf 20 ?_; (apply h_first 21; (case hi => rfl); (case hr => kernel_rfl); (case hfr => kernel_rfl); (case hsel => kernel_rfl); (case hg => rfl); (case hd => rfl); (case he => (apply ev_load_f; (case hx => rfl); (case h => exact hq3); (case hv => rfl)))); refine Jf 22 ?_; refine Jf 23 ?_; (apply h_idx hA 24; (case hi => rfl); (case hr => kernel_rfl); (case hfr => kernel_rfl); (case hsel => kernel_rfl); (case hg => rfl); (case hd => rfl); (case i1 => infer_instance); (case i2 => infer_instance); (case hx => rfl); (case hy => rfl); (case hm => rfl); (case hu => exact hs); intro q4 (hq4 : Pts _ q4 [.int .i64 s.version, .int .i64 s.from_, .int .i64 s.to, strV s.name])); refine Jf 25 ?_; (apply h_first 26; (case hi => rfl); (case hr => kernel_rfl); (case hfr => kernel_rfl); (case hsel => kernel_rfl); (case hg => rfl); (case hd => rfl); (case he => (apply ev_load_f; (case hx => rfl); (case h => exact hq4); (case hv => rfl)))); refine Jf 27 ?_; refine Jf 28 ?_; refine Jf 29 ?_; refine Jf 30 ?_; refine Jf 31 ?_; (apply h_idx hA 32; (case hi => rfl); (case hr => kernel_rfl); (case hfr => kernel_rfl); (case hsel => kernel_rfl); (case hg => rfl); (case hd => rfl); (case i1 => infer_instance); (case i2 => infer_instance); (case hx => rfl); (case hy => rfl); (case hm => rfl); (case hu => exact hs); intro q5 (hq5 : Pts _ q5 [.int .i64 s.version, .int .i64 s.from_, .int .i64 s.to, strV s.name])); refine Jf 33 ?_; (apply h_first 34; (case hi => rfl); (case hr => kernel_rfl); (case hfr => kernel_rfl); (case hsel => kernel_rfl); (case hg => rfl); (case hd => rfl); (case he => (apply ev_load_f; (case hx => rfl); (case h => exact hq5); (case hv => rfl)))); refine Jf 35 ?_; refine Jf 36 ?_; refine Jf 37 ?_; refine Jf 38 ?_; refine Jf 39 ?_; (apply h_idx hA 40; (case hi => rfl); (case hr => kernel_rfl); (case hfr => kernel_rfl); (case hsel => kernel_rfl); (case hg => rfl); (case hd => rfl); (case i1 => infer_instance); (case i2 => infer_instance); (case hx => rfl); (case hy => rfl); (case hm => rfl); (case hu => exact hs); intro q6 (hq6 : Pts _ q6 [.int .i64 s.version, .int .i64 s.from_, .int .i64 s.to, strV s.name])); refine Jf 41 ?_; (apply h_first 42; (case hi => rfl); (case hr => kernel_rfl); (case hfr => kernel_rfl); (case hsel => kernel_rfl); (case hg => rfl); (case hd => rfl); (case he => (apply ev_load_f; (case hx => rfl); (case h => exact hq6); (case hv => rfl)))); (apply h_one 43; (case hr => kernel_rfl)); (apply n_call; (case hi => rfl); (case i1 => infer_instance); (case hg => rfl); (case hd => rfl); (case ha => rfl); (case hc => exact hc5 _ _ hv5); (case hL => (repeat (first | exact pm_nil _ | exact pm_refl _ _ | exact pm_self _ | apply pm_cons | apply pm_app))); (case hsub => (intros; (exact sbT))); rintro _ _ _ - ⟨rfl, rfl, rfl⟩); refine Jf 44 ?_; refine Jf 45 ?_; (apply h_end; (case hr => kernel_rfl)))
      (repeat (first | refine Jz ?_ | intro _))
      exact o_ret Tryz.results21 rfl (List.nil_sublist _) ⟨rfl, false, rfl, (fun h => absurd h Bool.false_ne_true), fun h => absurd h hno⟩
  obtain ⟨rfl, rfl, h3, h4, rfl⟩ : v1 = true ∧ v2 = true ∧ s.from_ < s.to ∧ s.to ≤ 1000000 ∧ v5 = true := by
    obtain ⟨a, b, c', d, e⟩ := symOk_yes hok
    exact ⟨hv1.symm.trans a, hv2.symm.trans b, c', d, hv5.symm.trans e⟩
  (repeat (first | refine Jz ?_ | intro _))
  ((apply c_held ([]); (case hL => (exact sbT))); refine Jf 0 ?_; refine Jf 1 ?_; (apply h_idx hA 2; (case hi => rfl); (case hr => kernel_rfl); (case hfr => kernel_rfl); (case hsel => kernel_rfl); (case hg => rfl); (case hd => rfl); (case i1 => infer_instance); (case i2 => infer_instance); (case hx => rfl); (case hy => rfl); (case hm => rfl); (case hu => exact hs); intro q1 (hq1 : Pts _ q1 [.int .i64 s.version, .int .i64 s.from_, .int .i64 s.to, strV s.name])); refine Jf 3 ?_; (apply h_first 4; (case hi => rfl); (case hr => kernel_rfl); (case hfr => kernel_rfl); (case hsel => kernel_rfl); (case hg => rfl); (case hd => rfl); (case he => (apply ev_load_f; (case hx => rfl); (case h => exact hq1); (case hv => rfl)))); (apply h_one 5; (case hr => kernel_rfl)); (apply n_call; (case hi => rfl); (case i1 => infer_instance); (case hg => rfl); (case hd => rfl); (case ha => rfl); (case hc => exact hc1 _ _ hv1); (case hL => (repeat (first | exact pm_nil _ | exact pm_refl _ _ | exact pm_self _ | apply pm_cons | apply pm_app))); (case hsub => (intros; (exact sbT))); rintro _ _ _ - ⟨rfl, rfl, rfl⟩); refine Jf 6 ?_; refine Jf 7 ?_; refine Jf 8 ?_; refine Jf 9 ?_; (apply h_idx hA 10; (case hi => rfl); (case hr => kernel_rfl); (case hfr => kernel_rfl); (case hsel => kernel_rfl); (case hg => rfl); (case hd => rfl); (case i1 => infer_instance); (case i2 => infer_instance); (case hx => rfl); (case hy => rfl); (case hm => rfl); (case hu => exact hs); intro q2 (hq2 : Pts _ q2 [.int .i64 s.version, .int .i64 s.from_, .int .i64 s.to, strV s.name])); refine Jf 11 ?_; (apply h_first 12; (case hi => rfl); (case hr => kernel_rfl); (case hfr => kernel_rfl); (case hsel => kernel_rfl); (case hg => rfl); (case hd => rfl); (case he => (apply ev_load_f; (case hx => rfl); (case h => exact hq2); (case hv => rfl)))); (apply h_one 13; (case hr => kernel_rfl)); (apply n_call; (case hi => rfl); (case i1 => infer_instance); (case hg => rfl); (case hd => rfl); (case ha => rfl); (case hc => exact hc2 _ _ hv2); (case hL => (repeat (first | exact pm_nil _ | exact pm_refl _ _ | exact pm_self _ | apply pm_cons | apply pm_app))); (case hsub => (intros; (exact sbT))); rintro _ _ _ - ⟨rfl, rfl, rfl⟩); refine Jf 14 ?_; refine Jf 15 ?_; refine Jf 16 ?_; refine Jf 17 ?_; refine Jf 18 ?_; (apply h_idx hA 19; (case hi => rfl); (case hr => kernel_rfl); (case hfr => kernel_rfl); (case hsel => kernel_rfl); (case hg => rfl); (case hd => rfl); (case i1 => infer_instance); (case i2 => infer_instance); (case hx => rfl); (case hy => rfl); (case hm => rfl); (case hu => exact hs); intro q3 (hq3 : Pts _ q3 [.int .i64 s.version, .int .i64 s.from_, .int .i64 s.to, strV s.name])); refine Jf 20 ?_; (apply h_first 21; (case hi => rfl); (case hr => kernel_rfl); (case hfr => kernel_rfl); (case hsel => kernel_rfl); (case hg => rfl); (case hd => rfl); (case he => (apply ev_load_f; (case hx => rfl); (case h => exact hq3); (case hv => rfl)))); refine Jf 22 ?_; refine Jf 23 ?_; (apply h_idx hA 24; (case hi => rfl); (case hr => kernel_rfl); (case hfr => kernel_rfl); (case hsel => kernel_rfl); (case hg => rfl); (case hd => rfl); (case i1 => infer_instance); (case i2 => infer_instance); (case hx => rfl); (case hy => rfl); (case hm => rfl); (case hu => exact hs); intro q4 (hq4 : Pts _ q4 [.int .i64 s.version, .int .i64 s.from_, .int .i64 s.to, strV s.name])); refine Jf 25 ?_; (apply h_first 26; (case hi => rfl); (case hr => kernel_rfl); (case hfr => kernel_rfl); (case hsel => kernel_rfl); (case hg => rfl); (case hd => rfl); (case he => (apply ev_load_f; (case hx => rfl); (case h => exact hq4); (case hv => rfl)))); refine Jf 27 ?_; refine Jf 28 ?_; refine Jf 29 ?_; refine Jf 30 ?_; refine Jf 31 ?_; (apply h_idx hA 32; (case hi => rfl); (case hr => kernel_rfl); (case hfr => kernel_rfl); (case hsel => kernel_rfl); (case hg => rfl); (case hd => rfl); (case i1 => infer_instance); (case i2 => infer_instance); (case hx => rfl); (case hy => rfl); (case hm => rfl); (case hu => exact hs); intro q5 (hq5 : Pts _ q5 [.int .i64 s.version, .int .i64 s.from_, .int .i64 s.to, strV s.name])); refine Jf 33 ?_; (apply h_first 34; (case hi => rfl); (case hr => kernel_rfl); (case hfr => kernel_rfl); (case hsel => kernel_rfl); (case hg => rfl); (case hd => rfl); (case he => (apply ev_load_f; (case hx => rfl); (case h => exact hq5); (case hv => rfl)))); refine Jf 35 ?_; refine Jf 36 ?_; refine Jf 37 ?_; refine Jf 38 ?_; refine Jf 39 ?_; (apply h_idx hA 40; (case hi => rfl); (case hr => kernel_rfl); (case hfr => kernel_rfl); (case hsel => kernel_rfl); (case hg => rfl); (case hd => rfl); (case i1 => infer_instance); (case i2 => infer_instance); (case hx => rfl); (case hy => rfl); (case hm => rfl); (case hu => exact hs); intro q6 (hq6 : Pts _ q6 [.int .i64 s.version, .int .i64 s.from_, .int .i64 s.to, strV s.name])); refine Jf 41 ?_; (apply h_first 42; (case hi => rfl); (case hr => kernel_rfl); (case hfr => kernel_rfl); (case hsel => kernel_rfl); (case hg => rfl); (case hd => rfl); (case he => (apply ev_load_f; (case hx => rfl); (case h => exact hq6); (case hv => rfl)))); (apply h_one 43; (case hr => kernel_rfl)); (apply n_call; (case hi => rfl); (case i1 => infer_instance); (case hg => rfl); (case hd => rfl); (case ha => rfl); (case hc => exact hc5 _ _ hv5); (case hL => (repeat (first | exact pm_nil _ | exact pm_refl _ _ | exact pm_self _ | apply pm_cons | apply pm_app))); (case hsub => (intros; (exact sbT))); rintro _ _ _ - ⟨rfl, rfl, rfl⟩); refine Jf 44 ?_; refine Jf 45 ?_; (apply h_end; (case hr => kernel_rfl)))
  by_cases hk0 : k = 0
  · subst hk0
    have hto : SymsTo l (0 + 1) := fun i s' hi' hs' => by
      obtain rfl : i = 0 := by omega
      rw [hs] at hs'
      obtain rfl := Option.some.inj hs'
      exact ⟨hok, fun p h0 => absurd h0 (by omega)⟩
    (repeat (first | refine Jz ?_ | intro _))
    ((apply c_held ([]); (case hL => (exact sbT))); refine Jf 0 ?_; refine Jf 1 ?_; refine Jf 2 ?_; refine Jf 3 ?_; refine Jf 4 ?_; refine Jf 5 ?_; refine Jf 6 ?_; refine Jf 7 ?_; refine Jf 8 ?_; refine Jf 9 ?_; refine Jf 10 ?_; refine Jf 11 ?_; refine Jf 12 ?_; refine Jf 13 ?_; refine Jf 14 ?_; refine Jf 15 ?_; refine Jf 16 ?_; refine Jf 17 ?_; refine Jf 18 ?_; refine Jf 19 ?_; refine Jf 20 ?_; refine Jf 21 ?_; refine Jf 22 ?_; refine Jf 23 ?_; refine Jf 24 ?_; refine Jf 25 ?_; refine Jf 26 ?_; refine Jf 27 ?_; refine Jf 28 ?_; refine Jf 29 ?_; refine Jf 30 ?_; refine Jf 31 ?_; refine Jf 32 ?_; refine Jf 33 ?_; refine Jf 34 ?_; refine Jf 35 ?_; refine Jf 36 ?_; refine Jf 37 ?_; refine Jf 38 ?_; refine Jf 39 ?_; refine Jf 40 ?_; refine Jf 41 ?_; refine Jf 42 ?_; refine Jf 43 ?_; (apply h_end; (case hr => kernel_rfl)))
    (repeat (first | refine Jz ?_ | intro _))
    exact q_back (L' := []) (m' := l.length - (0 + 1)) ⟨rfl, rfl, 0 + 1, rfl, by omega, hto, rfl⟩ (by omega) sbF (List.nil_sublist _)
  obtain ⟨j, rfl⟩ : ∃ j, k = j + 1 := ⟨k - 1, by omega⟩
  obtain ⟨p, hp⟩ := at_lt (show j < l.length by omega)
  have hjj : ((j + 1 : Nat) : Int) - 1 = (j : Int) := by omega
  have hbad : 0 < pairI p s → ¬ SymsOk l := fun h h2 => (h2.1 (j + 1) s hlt hs).2 p (by omega) hp h
  have hgood : ¬ 0 < pairI p s → SymsTo l (j + 1 + 1) := fun h i s' hi' hs' => by
    by_cases hij : i < j + 1
    · exact hi i s' hij hs'
    · obtain rfl : i = j + 1 := by omega
      rw [hs] at hs'
      obtain rfl := Option.some.inj hs'
      refine ⟨hok, fun p' _ hp' => ?_⟩
      rw [Nat.add_sub_cancel, hp] at hp'
      obtain rfl := Option.some.inj hp'
      exact h
  rw [pairI_iff] at hbad hgood
  by_cases b1 : s.version < p.version
  · have hno := hbad (.inl b1)
    (repeat (first | refine Jz ?_ | intro _))
    ((apply c_held ([]); (case hL => (exact sbT))); refine Jf 0 ?_; refine Jf 1 ?_; refine Jf 2 ?_; refine Jf 3 ?_; refine Jf 4 ?_; (apply h_idx hA 5; (case hi => rfl); (case hr => kernel_rfl); (case hfr => kernel_rfl); (case hsel => kernel_rfl); (case hg => rfl); (case hd => rfl); (case i1 => infer_instance); (case i2 => infer_instance); (case hx => rfl); (case hy => rfl); (case hm => rfl); (case hu => exact hs); intro u1 (hu1 : Pts _ u1 [.int .i64 s.version, .int .i64 s.from_, .int .i64 s.to, strV s.name])); refine Jf 6 ?_; (apply h_first 7; (case hi => rfl); (case hr => kernel_rfl); (case hfr => kernel_rfl); (case hsel => kernel_rfl); (case hg => rfl); (case hd => rfl); (case he => (apply ev_load_f; (case hx => rfl); (case h => exact hu1); (case hv => rfl)))); refine Jf 8 ?_; refine Jf 9 ?_; (refine Jf 10 ?_; rw [hjj]); (apply h_idx hA 11; (case hi => rfl); (case hr => kernel_rfl); (case hfr => kernel_rfl); (case hsel => kernel_rfl); (case hg => rfl); (case hd => rfl); (case i1 => infer_instance); (case i2 => infer_instance); (case hx => rfl); (case hy => rfl); (case hm => rfl); (case hu => exact hp); intro u2 (hu2 : Pts _ u2 [.int .i64 p.version, .int .i64 p.from_, .int .i64 p.to, strV p.name])); refine Jf 12 ?_; (apply h_first 13; (case hi => rfl); (case hr => kernel_rfl); (case hfr => kernel_rfl); (case hsel => kernel_rfl); (case hg => rfl); (case hd => rfl); (case he => (apply ev_load_f; (case hx => rfl); (case h => exact hu2); (case hv => rfl)))); refine Jf 14 ?_; refine Jf 15 ?_; refine Jf 16 ?_; refine Jf 17 ?_; refine Jf 18 ?_; refine Jf 19 ?_; refine Jf 20 ?_; refine Jf 21 ?_; refine Jf 22 ?_; refine Jf 23 ?_; refine Jf 24 ?_; refine Jf 25 ?_; refine Jf 26 ?_; refine Jf 27 ?_; refine Jf 28 ?_; refine Jf 29 ?_; refine Jf 30 ?_; refine Jf 31 ?_; refine Jf 32 ?_; refine Jf 33 ?_; refine Jf 34 ?_; refine Jf 35 ?_; refine Jf 36 ?_; refine Jf 37 ?_; refine Jf 38 ?_; refine Jf 39 ?_; refine Jf 40 ?_; refine Jf 41 ?_; refine Jf 42 ?_; refine Jf 43 ?_; (apply h_end; (case hr => kernel_rfl)))
    (repeat (first | refine Jz ?_ | intro _))
    exact o_ret Tryz.results21 rfl (List.nil_sublist _) ⟨rfl, false, rfl, (fun h => absurd h Bool.false_ne_true), fun h => absurd h hno⟩
  by_cases b2 : s.version = p.version
  rotate_left
  · have hto := hgood (by omega)
    (repeat (first | refine Jz ?_ | intro _))
    ((apply c_held ([]); (case hL => (exact sbT))); refine Jf 0 ?_; refine Jf 1 ?_; refine Jf 2 ?_; refine Jf 3 ?_; refine Jf 4 ?_; (apply h_idx hA 5; (case hi => rfl); (case hr => kernel_rfl); (case hfr => kernel_rfl); (case hsel => kernel_rfl); (case hg => rfl); (case hd => rfl); (case i1 => infer_instance); (case i2 => infer_instance); (case hx => rfl); (case hy => rfl); (case hm => rfl); (case hu => exact hs); intro u1 (hu1 : Pts _ u1 [.int .i64 s.version, .int .i64 s.from_, .int .i64 s.to, strV s.name])); refine Jf 6 ?_; (apply h_first 7; (case hi => rfl); (case hr => kernel_rfl); (case hfr => kernel_rfl); (case hsel => kernel_rfl); (case hg => rfl); (case hd => rfl); (case he => (apply ev_load_f; (case hx => rfl); (case h => exact hu1); (case hv => rfl)))); refine Jf 8 ?_; refine Jf 9 ?_; (refine Jf 10 ?_; rw [hjj]); (apply h_idx hA 11; (case hi => rfl); (case hr => kernel_rfl); (case hfr => kernel_rfl); (case hsel => kernel_rfl); (case hg => rfl); (case hd => rfl); (case i1 => infer_instance); (case i2 => infer_instance); (case hx => rfl); (case hy => rfl); (case hm => rfl); (case hu => exact hp); intro u2 (hu2 : Pts _ u2 [.int .i64 p.version, .int .i64 p.from_, .int .i64 p.to, strV p.name])); refine Jf 12 ?_; (apply h_first 13; (case hi => rfl); (case hr => kernel_rfl); (case hfr => kernel_rfl); (case hsel => kernel_rfl); (case hg => rfl); (case hd => rfl); (case he => (apply ev_load_f; (case hx => rfl); (case h => exact hu2); (case hv => rfl)))); refine Jf 14 ?_; refine Jf 15 ?_; refine Jf 16 ?_; refine Jf 17 ?_; (apply h_idx hA 18; (case hi => rfl); (case hr => kernel_rfl); (case hfr => kernel_rfl); (case hsel => kernel_rfl); (case hg => rfl); (case hd => rfl); (case i1 => infer_instance); (case i2 => infer_instance); (case hx => rfl); (case hy => rfl); (case hm => rfl); (case hu => exact hs); intro u3 (hu3 : Pts _ u3 [.int .i64 s.version, .int .i64 s.from_, .int .i64 s.to, strV s.name])); refine Jf 19 ?_; (apply h_first 20; (case hi => rfl); (case hr => kernel_rfl); (case hfr => kernel_rfl); (case hsel => kernel_rfl); (case hg => rfl); (case hd => rfl); (case he => (apply ev_load_f; (case hx => rfl); (case h => exact hu3); (case hv => rfl)))); refine Jf 21 ?_; refine Jf 22 ?_; (refine Jf 23 ?_; rw [hjj]); (apply h_idx hA 24; (case hi => rfl); (case hr => kernel_rfl); (case hfr => kernel_rfl); (case hsel => kernel_rfl); (case hg => rfl); (case hd => rfl); (case i1 => infer_instance); (case i2 => infer_instance); (case hx => rfl); (case hy => rfl); (case hm => rfl); (case hu => exact hp); intro u4 (hu4 : Pts _ u4 [.int .i64 p.version, .int .i64 p.from_, .int .i64 p.to, strV p.name])); refine Jf 25 ?_; (apply h_first 26; (case hi => rfl); (case hr => kernel_rfl); (case hfr => kernel_rfl); (case hsel => kernel_rfl); (case hg => rfl); (case hd => rfl); (case he => (apply ev_load_f; (case hx => rfl); (case h => exact hu4); (case hv => rfl)))); refine Jf 27 ?_; refine Jf 28 ?_; refine Jf 29 ?_; refine Jf 30 ?_; refine Jf 31 ?_; refine Jf 32 ?_; refine Jf 33 ?_; refine Jf 34 ?_; refine Jf 35 ?_; refine Jf 36 ?_; refine Jf 37 ?_; refine Jf 38 ?_; refine Jf 39 ?_; refine Jf 40 ?_; refine Jf 41 ?_; refine Jf 42 ?_; refine Jf 43 ?_; (apply h_end; (case hr => kernel_rfl)))
    (repeat (first | refine Jz ?_ | intro _))
    exact q_back (L' := []) (m' := l.length - ((j + 1) + 1)) ⟨rfl, rfl, j + 1 + 1, rfl, by omega, hto, rfl⟩ (by omega) sbF (List.nil_sublist _)
  by_cases b3 : s.from_ < p.to
  · have hno := hbad (.inr ⟨b2, b3⟩)
    (repeat (first | refine Jz ?_ | intro _))
    ((apply c_held ([]); (case hL => (exact sbT))); refine Jf 0 ?_; refine Jf 1 ?_; refine Jf 2 ?_; refine Jf 3 ?_; refine Jf 4 ?_; (apply h_idx hA 5; (case hi => rfl); (case hr => kernel_rfl); (case hfr => kernel_rfl); (case hsel => kernel_rfl); (case hg => rfl); (case hd => rfl); (case i1 => infer_instance); (case i2 => infer_instance); (case hx => rfl); (case hy => rfl); (case hm => rfl); (case hu => exact hs); intro u1 (hu1 : Pts _ u1 [.int .i64 s.version, .int .i64 s.from_, .int .i64 s.to, strV s.name])); refine Jf 6 ?_; (apply h_first 7; (case hi => rfl); (case hr => kernel_rfl); (case hfr => kernel_rfl); (case hsel => kernel_rfl); (case hg => rfl); (case hd => rfl); (case he => (apply ev_load_f; (case hx => rfl); (case h => exact hu1); (case hv => rfl)))); refine Jf 8 ?_; refine Jf 9 ?_; (refine Jf 10 ?_; rw [hjj]); (apply h_idx hA 11; (case hi => rfl); (case hr => kernel_rfl); (case hfr => kernel_rfl); (case hsel => kernel_rfl); (case hg => rfl); (case hd => rfl); (case i1 => infer_instance); (case i2 => infer_instance); (case hx => rfl); (case hy => rfl); (case hm => rfl); (case hu => exact hp); intro u2 (hu2 : Pts _ u2 [.int .i64 p.version, .int .i64 p.from_, .int .i64 p.to, strV p.name])); refine Jf 12 ?_; (apply h_first 13; (case hi => rfl); (case hr => kernel_rfl); (case hfr => kernel_rfl); (case hsel => kernel_rfl); (case hg => rfl); (case hd => rfl); (case he => (apply ev_load_f; (case hx => rfl); (case h => exact hu2); (case hv => rfl)))); refine Jf 14 ?_; refine Jf 15 ?_; refine Jf 16 ?_; refine Jf 17 ?_; (apply h_idx hA 18; (case hi => rfl); (case hr => kernel_rfl); (case hfr => kernel_rfl); (case hsel => kernel_rfl); (case hg => rfl); (case hd => rfl); (case i1 => infer_instance); (case i2 => infer_instance); (case hx => rfl); (case hy => rfl); (case hm => rfl); (case hu => exact hs); intro u3 (hu3 : Pts _ u3 [.int .i64 s.version, .int .i64 s.from_, .int .i64 s.to, strV s.name])); refine Jf 19 ?_; (apply h_first 20; (case hi => rfl); (case hr => kernel_rfl); (case hfr => kernel_rfl); (case hsel => kernel_rfl); (case hg => rfl); (case hd => rfl); (case he => (apply ev_load_f; (case hx => rfl); (case h => exact hu3); (case hv => rfl)))); refine Jf 21 ?_; refine Jf 22 ?_; (refine Jf 23 ?_; rw [hjj]); (apply h_idx hA 24; (case hi => rfl); (case hr => kernel_rfl); (case hfr => kernel_rfl); (case hsel => kernel_rfl); (case hg => rfl); (case hd => rfl); (case i1 => infer_instance); (case i2 => infer_instance); (case hx => rfl); (case hy => rfl); (case hm => rfl); (case hu => exact hp); intro u4 (hu4 : Pts _ u4 [.int .i64 p.version, .int .i64 p.from_, .int .i64 p.to, strV p.name])); refine Jf 25 ?_; (apply h_first 26; (case hi => rfl); (case hr => kernel_rfl); (case hfr => kernel_rfl); (case hsel => kernel_rfl); (case hg => rfl); (case hd => rfl); (case he => (apply ev_load_f; (case hx => rfl); (case h => exact hu4); (case hv => rfl)))); refine Jf 27 ?_; refine Jf 28 ?_; refine Jf 29 ?_; refine Jf 30 ?_; (apply h_idx hA 31; (case hi => rfl); (case hr => kernel_rfl); (case hfr => kernel_rfl); (case hsel => kernel_rfl); (case hg => rfl); (case hd => rfl); (case i1 => infer_instance); (case i2 => infer_instance); (case hx => rfl); (case hy => rfl); (case hm => rfl); (case hu => exact hs); intro u5 (hu5 : Pts _ u5 [.int .i64 s.version, .int .i64 s.from_, .int .i64 s.to, strV s.name])); refine Jf 32 ?_; (apply h_first 33; (case hi => rfl); (case hr => kernel_rfl); (case hfr => kernel_rfl); (case hsel => kernel_rfl); (case hg => rfl); (case hd => rfl); (case he => (apply ev_load_f; (case hx => rfl); (case h => exact hu5); (case hv => rfl)))); refine Jf 34 ?_; refine Jf 35 ?_; (refine Jf 36 ?_; rw [hjj]); (apply h_idx hA 37; (case hi => rfl); (case hr => kernel_rfl); (case hfr => kernel_rfl); (case hsel => kernel_rfl); (case hg => rfl); (case hd => rfl); (case i1 => infer_instance); (case i2 => infer_instance); (case hx => rfl); (case hy => rfl); (case hm => rfl); (case hu => exact hp); intro u6 (hu6 : Pts _ u6 [.int .i64 p.version, .int .i64 p.from_, .int .i64 p.to, strV p.name])); refine Jf 38 ?_; (apply h_first 39; (case hi => rfl); (case hr => kernel_rfl); (case hfr => kernel_rfl); (case hsel => kernel_rfl); (case hg => rfl); (case hd => rfl); (case he => (apply ev_load_f; (case hx => rfl); (case h => exact hu6); (case hv => rfl)))); refine Jf 40 ?_; refine Jf 41 ?_; refine Jf 42 ?_; refine Jf 43 ?_; (apply h_end; (case hr => kernel_rfl)))
    (repeat (first | refine Jz ?_ | intro _))
    exact o_ret Tryz.results21 rfl (List.nil_sublist _) ⟨rfl, false, rfl, (fun h => absurd h Bool.false_ne_true), fun h => absurd h hno⟩
  · have hto := hgood (by omega)
    (repeat (first | refine Jz ?_ | intro _))
    ((apply c_held ([]); (case hL => (exact sbT))); refine Jf 0 ?_; refine Jf 1 ?_; refine Jf 2 ?_; refine Jf 3 ?_; refine Jf 4 ?_; (apply h_idx hA 5; (case hi => rfl); (case hr => kernel_rfl); (case hfr => kernel_rfl); (case hsel => kernel_rfl); (case hg => rfl); (case hd => rfl); (case i1 => infer_instance); (case i2 => infer_instance); (case hx => rfl); (case hy => rfl); (case hm => rfl); (case hu => exact hs); intro u1 (hu1 : Pts _ u1 [.int .i64 s.version, .int .i64 s.from_, .int .i64 s.to, strV s.name])); refine Jf 6 ?_; (apply h_first 7; (case hi => rfl); (case hr => kernel_rfl); (case hfr => kernel_rfl); (case hsel => kernel_rfl); (case hg => rfl); (case hd => rfl); (case he => (apply ev_load_f; (case hx => rfl); (case h => exact hu1); (case hv => rfl)))); refine Jf 8 ?_; refine Jf 9 ?_; (refine Jf 10 ?_; rw [hjj]); (apply h_idx hA 11; (case hi => rfl); (case hr => kernel_rfl); (case hfr => kernel_rfl); (case hsel => kernel_rfl); (case hg => rfl); (case hd => rfl); (case i1 => infer_instance); (case i2 => infer_instance); (case hx => rfl); (case hy => rfl); (case hm => rfl); (case hu => exact hp); intro u2 (hu2 : Pts _ u2 [.int .i64 p.version, .int .i64 p.from_, .int .i64 p.to, strV p.name])); refine Jf 12 ?_; (apply h_first 13; (case hi => rfl); (case hr => kernel_rfl); (case hfr => kernel_rfl); (case hsel => kernel_rfl); (case hg => rfl); (case hd => rfl); (case he => (apply ev_load_f; (case hx => rfl); (case h => exact hu2); (case hv => rfl)))); refine Jf 14 ?_; refine Jf 15 ?_; refine Jf 16 ?_; refine Jf 17 ?_; (apply h_idx hA 18; (case hi => rfl); (case hr => kernel_rfl); (case hfr => kernel_rfl); (case hsel => kernel_rfl); (case hg => rfl); (case hd => rfl); (case i1 => infer_instance); (case i2 => infer_instance); (case hx => rfl); (case hy => rfl); (case hm => rfl); (case hu => exact hs); intro u3 (hu3 : Pts _ u3 [.int .i64 s.version, .int .i64 s.from_, .int .i64 s.to, strV s.name])); refine Jf 19 ?_; (apply h_first 20; (case hi => rfl); (case hr => kernel_rfl); (case hfr => kernel_rfl); (case hsel => kernel_rfl); (case hg => rfl); (case hd => rfl); (case he => (apply ev_load_f; (case hx => rfl); (case h => exact hu3); (case hv => rfl)))); refine Jf 21 ?_; refine Jf 22 ?_; (refine Jf 23 ?_; rw [hjj]); (apply h_idx hA 24; (case hi => rfl); (case hr => kernel_rfl); (case hfr => kernel_rfl); (case hsel => kernel_rfl); (case hg => rfl); (case hd => rfl); (case i1 => infer_instance); (case i2 => infer_instance); (case hx => rfl); (case hy => rfl); (case hm => rfl); (case hu => exact hp); intro u4 (hu4 : Pts _ u4 [.int .i64 p.version, .int .i64 p.from_, .int .i64 p.to, strV p.name])); refine Jf 25 ?_; (apply h_first 26; (case hi => rfl); (case hr => kernel_rfl); (case hfr => kernel_rfl); (case hsel => kernel_rfl); (case hg => rfl); (case hd => rfl); (case he => (apply ev_load_f; (case hx => rfl); (case h => exact hu4); (case hv => rfl)))); refine Jf 27 ?_; refine Jf 28 ?_; refine Jf 29 ?_; refine Jf 30 ?_; (apply h_idx hA 31; (case hi => rfl); (case hr => kernel_rfl); (case hfr => kernel_rfl); (case hsel => kernel_rfl); (case hg => rfl); (case hd => rfl); (case i1 => infer_instance); (case i2 => infer_instance); (case hx => rfl); (case hy => rfl); (case hm => rfl); (case hu => exact hs); intro u5 (hu5 : Pts _ u5 [.int .i64 s.version, .int .i64 s.from_, .int .i64 s.to, strV s.name])); refine Jf 32 ?_; (apply h_first 33; (case hi => rfl); (case hr => kernel_rfl); (case hfr => kernel_rfl); (case hsel => kernel_rfl); (case hg => rfl); (case hd => rfl); (case he => (apply ev_load_f; (case hx => rfl); (case h => exact hu5); (case hv => rfl)))); refine Jf 34 ?_; refine Jf 35 ?_; (refine Jf 36 ?_; rw [hjj]); (apply h_idx hA 37; (case hi => rfl); (case hr => kernel_rfl); (case hfr => kernel_rfl); (case hsel => kernel_rfl); (case hg => rfl); (case hd => rfl); (case i1 => infer_instance); (case i2 => infer_instance); (case hx => rfl); (case hy => rfl); (case hm => rfl); (case hu => exact hp); intro u6 (hu6 : Pts _ u6 [.int .i64 p.version, .int .i64 p.from_, .int .i64 p.to, strV p.name])); refine Jf 38 ?_; (apply h_first 39; (case hi => rfl); (case hr => kernel_rfl); (case hfr => kernel_rfl); (case hsel => kernel_rfl); (case hg => rfl); (case hd => rfl); (case he => (apply ev_load_f; (case hx => rfl); (case h => exact hu6); (case hv => rfl)))); refine Jf 40 ?_; refine Jf 41 ?_; refine Jf 42 ?_; refine Jf 43 ?_; (apply h_end; (case hr => kernel_rfl)))
    (repeat (first | refine Jz ?_ | intro _))
    exact q_back (L' := []) (m' := l.length - ((j + 1) + 1)) ⟨rfl, rfl, j + 1 + 1, rfl, by omega, hto, rfl⟩ (by omega) sbF (List.nil_sublist _)
end Go.Proofs.YtcnfchchanlepaaGreat
namespace Go.Proofs.YtcnfchchanlepaaGreat
open Go Go.X
set_option linter.unusedVariables false
set_option maxRecDepth 10000
set_option linter.unusedVariables false
attribute [local irreducible] Code.wpIn wpListIn Exit.then Exit.inBlock X.Out X.Back X.W X.Ev X.Con X.BinV X.Wh X.Wn X.Wq
set_option maxHeartbeats 6400000 in
theorem rStacks_con (xs : List Stk) (ys : List Sk) (A : Option Addr) (c : Nat) (S : SH) (hA : At S A xs) (hl : xs.length ≤ 1000000) (hy : SkL S xs ys) :
    Con Tryz.prog 22 #[.slice A xs.length c] S [] (X.Pure S (.bool (sksB ys))) := by
  refine con_of (args := [.slice A xs.length c]) Tryz.func22 rfl Tryz.ntmps22 rfl fun w => ?_
  have hxy := hy.1
  unfold sksB
  by_cases hl1 : ys.length ≤ 100
  rotate_left
  · rw [decide_eq_false hl1, Bool.and_false]
    (repeat (first | refine Jz ?_ | intro _))
    exact o_ret Tryz.results22 rfl (List.nil_sublist _) ⟨rfl, rfl, rfl⟩
  rw [decide_eq_true hl1, Bool.and_true]
  (repeat (first | refine Jz ?_ | intro _))
  refine c_loop (fun m S' L F => S = S' ∧ L = [] ∧ ∃ (k : Nat), m = xs.length - k ∧ k ≤ xs.length ∧ (ys.take k).all skB = true ∧ F = [(0, .slice A xs.length c), (3, .int .i64 k)]) ⟨rfl, rfl, 0, rfl, by omega, rfl, rfl⟩ sbF (List.nil_sublist _) ?_
  rintro m S1 L F ⟨rfl, rfl, k, rfl, hk, hi, rfl⟩
  by_cases hlt : k < xs.length
  rotate_left
  · rw [List.take_of_length_le (by omega)] at hi
    rw [hi]
    (repeat (first | refine Jz ?_ | intro _))
    exact o_ret Tryz.results22 rfl (List.nil_sublist _) ⟨rfl, rfl, rfl⟩
  obtain ⟨x, hx⟩ := at_lt hlt
  obtain ⟨y, hyk⟩ : ∃ y, ys[k]? = some y := at_lt (by omega)
  have hym := List.mem_of_getElem? hyk
  obtain ⟨s1, s2, s3, s4, s5⟩ := hy.2 k x y hx hyk
  have hs : (ys.take (k + 1)).all skB = skB y := by rw [take_at hyk, List.all_append, hi]; simp
  have hall : skB y = false → ys.all skB = false := fun h => List.all_eq_false.2 ⟨y, hym, by rw [h]; decide⟩
  obtain ⟨xv, ⟨xa, xm, xc⟩, xw⟩ := x
  simp only at s1 s2 s3 s4 s5
  subst s1; subst s2; subst s3
  have hc1 := fun S r h => rin_t y.version 0 9 S r h
  have hc2 := fun S r h => rin_t y.weight 1 1000000 S r h
  obtain ⟨v1, hv1⟩ : ∃ b, inB y.version 0 9 = b := ⟨_, rfl⟩
  obtain ⟨v2, hv2⟩ : ∃ b, inB y.weight 1 1000000 = b := ⟨_, rfl⟩
  cases v1
  · rw [hall (by unfold skB; rw [hv1]; rfl)]
    (repeat (first | refine Jc ?_ | (apply s_idx hA; (case hg => rfl); (case hd => rfl); (case hx => rfl); (case hi => rfl); (case hm => rfl); (case hu => exact hx); intro q (hq : Pts _ q [.int .i64 y.version, .slice xa y.frames.length xc, .int .i64 y.weight])) | (apply s_load_f; (case hg => rfl); (case hd => rfl); (case hx => rfl); (case h => exact hq); (case hv => rfl)) | (apply z_call; rfl; rfl; rfl; exact hc1 _ _ hv1; rintro _ _ _ - ⟨rfl, rfl, rfl⟩) | (apply z_call; rfl; rfl; rfl; exact hc2 _ _ hv2; rintro _ _ _ - ⟨rfl, rfl, rfl⟩) | refine Jo ?_ | intro _))
    exact o_ret Tryz.results22 rfl (List.nil_sublist _) ⟨rfl, rfl, rfl⟩
  by_cases hf : y.frames.length ≤ 12
  rotate_left
  · rw [hall (by unfold skB; rw [hv1, decide_eq_false hf]; rfl)]
    (repeat (first | refine Jc ?_ | (apply s_idx hA; (case hg => rfl); (case hd => rfl); (case hx => rfl); (case hi => rfl); (case hm => rfl); (case hu => exact hx); intro q (hq : Pts _ q [.int .i64 y.version, .slice xa y.frames.length xc, .int .i64 y.weight])) | (apply s_load_f; (case hg => rfl); (case hd => rfl); (case hx => rfl); (case h => exact hq); (case hv => rfl)) | (apply z_call; rfl; rfl; rfl; exact hc1 _ _ hv1; rintro _ _ _ - ⟨rfl, rfl, rfl⟩) | (apply z_call; rfl; rfl; rfl; exact hc2 _ _ hv2; rintro _ _ _ - ⟨rfl, rfl, rfl⟩) | refine Jo ?_ | intro _))
    exact o_ret Tryz.results22 rfl (List.nil_sublist _) ⟨rfl, rfl, rfl⟩
  cases v2
  · rw [hall (by unfold skB; rw [hv1, hv2, decide_eq_true hf]; rfl)]
    (repeat (first | refine Jc ?_ | (apply s_idx hA; (case hg => rfl); (case hd => rfl); (case hx => rfl); (case hi => rfl); (case hm => rfl); (case hu => exact hx); intro q (hq : Pts _ q [.int .i64 y.version, .slice xa y.frames.length xc, .int .i64 y.weight])) | (apply s_load_f; (case hg => rfl); (case hd => rfl); (case hx => rfl); (case h => exact hq); (case hv => rfl)) | (apply z_call; rfl; rfl; rfl; exact hc1 _ _ hv1; rintro _ _ _ - ⟨rfl, rfl, rfl⟩) | (apply z_call; rfl; rfl; rfl; exact hc2 _ _ hv2; rintro _ _ _ - ⟨rfl, rfl, rfl⟩) | refine Jo ?_ | intro _))
    exact o_ret Tryz.results22 rfl (List.nil_sublist _) ⟨rfl, rfl, rfl⟩
  have hskb : skB y = !y.frames.any isOut := by unfold skB; rw [hv1, hv2, decide_eq_true hf]; rfl
  (repeat (first | refine Jc ?_ | (apply s_idx hA; (case hg => rfl); (case hd => rfl); (case hx => rfl); (case hi => rfl); (case hm => rfl); (case hu => exact hx); intro q (hq : Pts _ q [.int .i64 y.version, .slice xa y.frames.length xc, .int .i64 y.weight])) | (apply s_load_f; (case hg => rfl); (case hd => rfl); (case hx => rfl); (case h => exact hq); (case hv => rfl)) | (apply z_call; rfl; rfl; rfl; exact hc1 _ _ hv1; rintro _ _ _ - ⟨rfl, rfl, rfl⟩) | (apply z_call; rfl; rfl; rfl; exact hc2 _ _ hv2; rintro _ _ _ - ⟨rfl, rfl, rfl⟩) | refine Jo ?_ | intro _))
  refine c_loop (fun m S' L F => S = S' ∧ L = [] ∧ ∃ (j : Nat), m = y.frames.length - j ∧ j ≤ y.frames.length ∧ (y.frames.take j).any isOut = false ∧ F = [(0, .slice A xs.length c), (3, .int .i64 k), (4, .int .i64 j)]) ⟨rfl, rfl, 0, rfl, by omega, rfl, rfl⟩ sbF (List.nil_sublist _) ?_
  rintro m S1 L F ⟨rfl, rfl, j, rfl, hj, hij, rfl⟩
  by_cases hlj : j < y.frames.length
  rotate_left
  · rw [List.take_of_length_le (by omega)] at hij
    rw [hskb, hij] at hs
    (repeat (first | refine Jc ?_ | (apply s_idx hA; (case hg => rfl); (case hd => rfl); (case hx => rfl); (case hi => rfl); (case hm => rfl); (case hu => exact hx); intro q (hq : Pts _ q [.int .i64 y.version, .slice xa y.frames.length xc, .int .i64 y.weight])) | (apply s_load_f; (case hg => rfl); (case hd => rfl); (case hx => rfl); (case h => exact hq); (case hv => rfl)) | (apply z_call; rfl; rfl; rfl; exact hc1 _ _ hv1; rintro _ _ _ - ⟨rfl, rfl, rfl⟩) | (apply z_call; rfl; rfl; rfl; exact hc2 _ _ hv2; rintro _ _ _ - ⟨rfl, rfl, rfl⟩) | refine Jo ?_ | intro _))
    exact q_back (L' := []) (m' := xs.length - (k + 1)) ⟨rfl, rfl, k + 1, rfl, by omega, hs, rfl⟩ (by omega) sbF (List.nil_sublist _)
  obtain ⟨a, ha⟩ := at_lt hlj
  have hsj : (y.frames.take (j + 1)).any isOut = isOut a := by rw [take_at ha, List.any_append, hij]; simp
  cases hao : isOut a
  · rw [hao] at hsj
    have hva : inB a 0 1000000 = true := by unfold isOut at hao; simpa using hao
    (repeat (first | refine Jc ?_ | (apply s_idx hA; (case hg => rfl); (case hd => rfl); (case hx => rfl); (case hi => rfl); (case hm => rfl); (case hu => exact hx); intro q (hq : Pts _ q [.int .i64 y.version, .slice xa y.frames.length xc, .int .i64 y.weight])) | (apply s_load_f; (case hg => rfl); (case hd => rfl); (case hx => rfl); (case h => exact hq); (case hv => rfl)) | (apply s_idx s5; (case hg => rfl); (case hd => rfl); (case hx => rfl); (case hi => rfl); (case hm => rfl); (case hu => exact ha); intro q2 (hq2 : Pts _ q2 [.int .i64 a])) | (apply s_load1; (case hg => rfl); (case hd => rfl); (case hx => rfl); (case hv => exact hq2)) | (apply z_call; rfl; rfl; rfl; exact rin_t a 0 1000000 _ _ hva; rintro _ _ _ - ⟨rfl, rfl, rfl⟩) | refine Jo ?_ | intro _))
    exact q_back (L' := []) (m' := y.frames.length - (j + 1)) ⟨rfl, rfl, j + 1, rfl, by omega, hsj, rfl⟩ (by omega) sbF (List.nil_sublist _)
  · have hva : inB a 0 1000000 = false := by unfold isOut at hao; simpa using hao
    rw [hall (by rw [hskb, List.any_eq_true.2 ⟨a, List.mem_of_getElem? ha, hao⟩]; rfl)]
    (repeat (first | refine Jc ?_ | (apply s_idx hA; (case hg => rfl); (case hd => rfl); (case hx => rfl); (case hi => rfl); (case hm => rfl); (case hu => exact hx); intro q (hq : Pts _ q [.int .i64 y.version, .slice xa y.frames.length xc, .int .i64 y.weight])) | (apply s_load_f; (case hg => rfl); (case hd => rfl); (case hx => rfl); (case h => exact hq); (case hv => rfl)) | (apply s_idx s5; (case hg => rfl); (case hd => rfl); (case hx => rfl); (case hi => rfl); (case hm => rfl); (case hu => exact ha); intro q2 (hq2 : Pts _ q2 [.int .i64 a])) | (apply s_load1; (case hg => rfl); (case hd => rfl); (case hx => rfl); (case hv => exact hq2)) | (apply z_call; rfl; rfl; rfl; exact rin_t a 0 1000000 _ _ hva; rintro _ _ _ - ⟨rfl, rfl, rfl⟩) | refine Jo ?_ | intro _))
    exact o_ret Tryz.results22 rfl (List.nil_sublist _) ⟨rfl, rfl, rfl⟩
end Go.Proofs.YtcnfchchanlepaaGreat
namespace Go.Proofs.YtcnfchchanlepaaGreat
open Go Go.X
/-- A change: a path, and by how much its total differs. The greater ones come first. -/
abbrev Ch := List Bs × Int
def ab (n : Int) : Int := max n (-n)
def bef (x y : Ch) : Prop := ab y.2 < ab x.2 ∨ ab y.2 = ab x.2 ∧ x.1 < y.1
theorem bef_irr (x : Ch) : ¬ bef x x := fun h => h.elim (Int.lt_irrefl _) fun h => plt_irr _ h.2
theorem bef_asymm {x y : Ch} (h : bef x y) : ¬ bef y x := fun k => by
  rcases h with h | ⟨h, h2⟩ <;> rcases k with k | ⟨k, k2⟩
  · omega
  · omega
  · omega
  · exact plt_asymm h2 k2
theorem bef_tri {x y : Ch} (h : x.1 ≠ y.1) : bef x y ∨ bef y x := by
  unfold bef
  rcases Int.lt_trichotomy (ab x.2) (ab y.2) with h1 | h1 | h1
  · exact .inr (.inl h1)
  · rcases plt_tri x.1 y.1 with h2 | h2 | h2
    · exact .inl (.inr ⟨h1.symm, h2⟩)
    · exact absurd h2 h
    · exact .inr (.inr ⟨h1, h2⟩)
  · exact .inl (.inl h1)
theorem bef_eq : ∀ {L M : List Ch}, L.Pairwise bef → M.Pairwise bef → (∀ p, p ∈ L ↔ p ∈ M) → L = M
  | [], M, _, _, h => by
    cases M with
    | nil => rfl
    | cons a M => exact absurd ((h a).2 List.mem_cons_self) List.not_mem_nil
  | a :: L, M, h1, h2, h => by
    cases M with
    | nil => exact absurd ((h a).1 List.mem_cons_self) List.not_mem_nil
    | cons b M =>
      obtain ⟨ha, h1'⟩ := List.pairwise_cons.1 h1
      obtain ⟨hb, h2'⟩ := List.pairwise_cons.1 h2
      have hab : a = b := by
        rcases List.mem_cons.1 ((h a).1 List.mem_cons_self) with e | e
        · exact e
        · rcases List.mem_cons.1 ((h b).2 List.mem_cons_self) with e2 | e2
          · exact e2.symm
          · exact absurd (hb a e) (bef_asymm (ha b e2))
      subst hab
      rw [bef_eq h1' h2' fun p => ?_]
      constructor
      · intro hp
        rcases List.mem_cons.1 ((h p).1 (List.mem_cons_of_mem _ hp)) with e | e
        · exact absurd (ha p hp) (e ▸ bef_irr _)
        · exact e
      · intro hp
        rcases List.mem_cons.1 ((h p).2 (List.mem_cons_of_mem _ hp)) with e | e
        · exact absurd (hb p hp) (e ▸ bef_irr _)
        · exact e
/-- The changes of two trees: of each path whose totals differ. -/
structure Chs (d : List Bs → Int) (ch : List Ch) : Prop where
  srt : ch.Pairwise bef
  mem : ∀ x, x ∈ ch ↔ VQ x.1 ∧ x.2 = d x.1 ∧ x.2 ≠ 0
theorem Chs.eq {d e : List Bs → Int} {ch ch' : List Ch} (h1 : Chs d ch) (h2 : Chs e ch') (h : ∀ p, VQ p → d p = e p) : ch = ch' :=
  bef_eq h1.srt h2.srt fun x => by
    rw [h1.mem, h2.mem]
    exact ⟨fun ⟨a, b, c⟩ => ⟨a, by rw [← h _ a]; exact b, c⟩, fun ⟨a, b, c⟩ => ⟨a, by rw [h _ a]; exact b, c⟩⟩
theorem Chs.neg {d : List Bs → Int} {ch : List Ch} (h : Chs d ch) : Chs (fun p => - d p) (ch.map fun x => (x.1, -x.2)) := by
  refine ⟨?_, fun x => ?_⟩
  · rw [List.pairwise_map]
    refine h.srt.imp fun {a b} hab => ?_
    unfold bef ab at *
    simp only
    rcases hab with h | h
    · exact .inl (by omega)
    · exact .inr ⟨by omega, h.2⟩
  · constructor
    · intro hx
      obtain ⟨y, hy, rfl⟩ := List.mem_map.1 hx
      obtain ⟨a, b, c⟩ := (h.mem y).1 hy
      exact ⟨a, by simp only; omega, by simp only; omega⟩
    · rintro ⟨a, b, c⟩
      exact List.mem_map.2 ⟨(x.1, -x.2), (h.mem _).2 ⟨a, by simp only; omega, by simp only; omega⟩, by obtain ⟨p, n⟩ := x; simp⟩
theorem Chs.nil {d : List Bs → Int} {ch : List Ch} (h : Chs d ch) : ch = [] ↔ ∀ p, VQ p → d p = 0 := by
  constructor
  · rintro rfl p hp
    by_cases h0 : d p = 0
    · exact h0
    · exact absurd ((h.mem (p, d p)).2 ⟨hp, rfl, h0⟩) List.not_mem_nil
  · intro h0
    cases ch with
    | nil => rfl
    | cons x ch =>
      obtain ⟨a, b, c⟩ := (h.mem x).1 List.mem_cons_self
      rw [h0 _ a] at b
      exact absurd b c
/-- Totals do not hang on which further paths are looked at. -/
theorem totL_sup {w : List Bs → Int} {L : List (List Bs)} : ∀ {N : List (List Bs)}, L.Nodup → N.Nodup → (∀ p ∈ L, p ∈ N) → (∀ p ∈ N, p ∉ L → w p = 0) → ∀ q, totL w N q = totL w L q := by
  intro N hL hN hs h0 q
  have h1 : totL w N q = (N.map fun p => if q <+: p ∧ p ∈ L then w p else 0).sum := sum_congrP fun p hp => by
    by_cases hq : q <+: p
    · by_cases hpl : p ∈ L
      · rw [if_pos hq, if_pos ⟨hq, hpl⟩]
      · rw [if_pos hq, if_neg fun h => hpl h.2, h0 p hp hpl]
    · rw [if_neg hq, if_neg fun h => hq h.1]
  have h2 : ∀ {A : List (List Bs)}, (∀ p ∈ A, p ∉ L) → (A.map fun p => if q <+: p ∧ p ∈ L then w p else 0).sum = 0 := fun h => sum_zeroP fun p hp hq => h p hp hq.2
  have h3 : (N.filter fun p => decide (p ∈ L)).Perm L := by
    refine (List.perm_ext_iff_of_nodup (hN.filter _) hL).2 fun p => ?_
    rw [List.mem_filter, decide_eq_true_eq]
    exact ⟨fun h => h.2, fun h => ⟨hs p h, h⟩⟩
  have h4 : ∀ A : List (List Bs), (A.map fun p => if q <+: p ∧ p ∈ L then w p else 0).sum = ((A.filter fun p => decide (p ∈ L)).map fun p => if q <+: p then w p else 0).sum := fun A => by
    induction A with
    | nil => rfl
    | cons a A ih =>
      rw [List.map_cons, List.sum_cons]
      by_cases ha : a ∈ L
      · rw [List.filter_cons_of_pos (by simpa using ha), List.map_cons, List.sum_cons, ih]
        by_cases hq : q <+: a
        · rw [if_pos ⟨hq, ha⟩, if_pos hq]
        · rw [if_neg fun h => hq h.1, if_neg hq]
      · rw [List.filter_cons_of_neg (by simpa using ha), if_neg fun h => ha h.2, ih, Int.zero_add]
  rw [h1, h4]
  exact sum_perm (h3.map _)
theorem totL_add {w u : List Bs → Int} {B : List (List Bs)} (q : List Bs) : totL (fun p => w p + u p) B q = totL w B q + totL u B q := by
  unfold totL
  rw [← sum_addP]
  refine sum_congrP fun p _ => ?_
  by_cases hq : q <+: p
  · rw [if_pos hq, if_pos hq, if_pos hq]
  · rw [if_neg hq, if_neg hq, if_neg hq]; rfl
/-- The total of a path in the tree of some weights. -/
theorem Can.sub {w u : List Bs → Int} {L N : List (List Bs)} (h1 : Can w L) (h2 : Can u N) (h : ∀ p, VQ p → 0 < w p → 0 < u p) : ∀ p ∈ L, p ∈ N := fun p hp =>
  (h2.mem p).2 (((h1.mem p).1 hp).imp id fun ⟨p', a, b, c⟩ => ⟨p', a, h p' a b, c⟩)
theorem Can.off {w : List Bs → Int} {L : List (List Bs)} (h : Can w L) (h0 : ∀ p, VQ p → 0 ≤ w p) {p : List Bs} (hv : VQ p) (hp : p ∉ L) : w p = 0 := by
  have h1 := h0 p hv
  by_cases h2 : 0 < w p
  · exact absurd ((h.mem p).2 (.inr ⟨p, hv, h2, List.prefix_refl _⟩)) hp
  · omega
theorem tot_merge {w u x : List Bs → Int} {L K N : List (List Bs)} (h1 : Can w L) (h2 : Can u K) (h3 : Can x N) (w0 : ∀ p, VQ p → 0 ≤ w p) (u0 : ∀ p, VQ p → 0 ≤ u p) (hx : ∀ p, VQ p → x p = w p + u p) (q : List Bs) : totL x N q = totL w L q + totL u K q := by
  have e1 := totL_sup (w := w) (srt_nodup h1.srt) (srt_nodup h3.srt) (h1.sub h3 fun p hv hp => by have := u0 p hv; rw [hx p hv]; omega) (fun p hp hn => h1.off w0 (h3.vq p hp) hn) q
  have e2 := totL_sup (w := u) (srt_nodup h2.srt) (srt_nodup h3.srt) (h2.sub h3 fun p hv hp => by have := w0 p hv; rw [hx p hv]; omega) (fun p hp hn => h2.off u0 (h3.vq p hp) hn) q
  rw [totL_congr (u := fun p => w p + u p) (fun p hp => hx p (h3.vq p hp)) q, totL_add, e1, e2]
end Go.Proofs.YtcnfchchanlepaaGreat
namespace Go.Proofs.YtcnfchchanlepaaGreat
open Go Go.X
set_option maxRecDepth 10000
set_option linter.unusedVariables false
attribute [local irreducible] Code.wpIn wpListIn Exit.then Exit.inBlock X.Out X.Back X.W X.Ev X.Con X.BinV X.Wh X.Wn X.Wq
theorem weights_t {f : FuncId} [Fun Tryz.prog f] (g : Nd → Int) (hf : ∀ (n : Nd) (S : SH), Con Tryz.prog f #[.agg [.int .i64 n.parent, strV n.name, .int .i64 n.own, .int .i64 n.total].toArray] S [] (X.Pure S (.int .i64 (g n))))
    (ns : List Nd) (A : Option Addr) (c : Nat) (S : SH) (hA : At S A ns) (hl : ns.length ≤ 1000000) (r : Bool) (hr : validB ns = r) :
    Con Tryz.prog 36 #[.agg #[.slice A ns.length c], .func (.func f) #[] #[]] S [] (fun _ L' x => ∃ bm, x = .tuple #[.map (some bm), .bool r] ∧ L' = [(bm, mapGO (iE (wF g ns)))]) := hr ▸ weights_con g hf ns A c S hA hl
theorem weightsO {f : FuncId} (hf : f = 58) (ns : List Nd) (A : Option Addr) (c : Nat) (S : SH) (hA : At S A ns) (hl : ns.length ≤ 1000000) (r : Bool) (hr : validB ns = r) (es : List (Pth × Int)) (he : wF Nd.own ns = es) :
    Con Tryz.prog 36 #[.agg #[.slice A ns.length c], .func (.func f) #[] #[]] S [] (fun _ L' x => ∃ bm, x = .tuple #[.map (some bm), .bool r] ∧ L' = [(bm, mapGO (iE es))]) := by
  subst hf
  subst he
  exact weights_t Nd.own (fun n S => own_con n S) ns A c S hA hl r hr
theorem wT_iff {s : Int} (hs : s = 1 ∨ s = -1) {ns ms : List Nd} {es : List (Pth × Int)} (hW : WE es) (hP : PE es) (hw : ∀ k, wI k es = wI k (wF Nd.own ns) + s * wI k (wF Nd.own ms)) : ((∃ e ∈ es, e.2 < 0) ↔ ∃ p, VQ p ∧ wT Nd.own ns p + s * wT Nd.own ms p < 0) := by
  constructor
  · rintro ⟨⟨k, v⟩, he, hv⟩
    obtain ⟨p, hp, rfl⟩ : ∃ p, VQ p ∧ k = pth p := hP _ he
    exact ⟨p, hp, by unfold wT; rw [← hw, wI_mem hW.nodup he]; exact hv⟩
  · rintro ⟨p, hp, hv⟩
    unfold wT at hv
    rw [← hw] at hv
    by_cases hk : pth p ∈ es.map (·.1)
    · obtain ⟨⟨k', v⟩, he, hk'⟩ := List.mem_map.1 hk
      simp only at hk'
      subst hk'
      rw [wI_mem hW.nodup he] at hv
      exact ⟨_, he, hv⟩
    · rw [wI_none hk] at hv; exact absurd hv (Int.lt_irrefl _)
set_option maxHeartbeats 3200000 in
theorem comb_con (s : Int) (hs : s = 1 ∨ s = -1) {f : FuncId} [Fun Tryz.prog f] (hf : WithCon s f) (ns ms : List Nd) (A B : Option Addr) (c d : Nat) (S : SH) (hA : At S A ns) (hB : At S B ms) (hn : ns.length ≤ 1000000) (hm : ms.length ≤ 1000000) :
    Con Tryz.prog 32 #[.agg #[.slice A ns.length c], .agg #[.slice B ms.length d], .func (.func f) #[] #[]] S [] (fun _ L' r => ∃ v ec, r = .tuple #[.agg #[v], .int .i64 ec] ∧ CombR s ns ms v ec L') := by
  refine con_of (args := [.agg #[.slice A ns.length c], .agg #[.slice B ms.length d], .func (.func f) #[] #[]]) Tryz.func32 rfl Tryz.ntmps32 rfl fun w => ?_
  have hx := wF_ok Nd.own ns
  have hy := wF_ok Nd.own ms
  have hxb := fun k => wI_rng hx.1 (wF_own (ns := ns)) (by omega) k
  have hc := fun (b1 b2 : Nat) (S : SH) => hf b1 b2 (wF Nd.own ns) (wF Nd.own ms) S hx.1 hy.1 (by omega) (fun x hxm => by
    have h3 := wF_own x hxm
    have h4 := hxb x.1
    unfold i64
    rcases hs with rfl | rfl <;> omega)
  obtain ⟨es, hes⟩ : ∃ es, wF Nd.own ns = es := ⟨_, rfl⟩
  obtain ⟨fs, hfs⟩ : ∃ fs, wF Nd.own ms = fs := ⟨_, rfl⟩
  rw [hes] at hx hc
  rw [hfs] at hy hc
  cases h1 : validB ns
  · cases h2 : validB ms
    · (repeat (first | refine Jc ?_ | (apply s_call; (case hg => rfl); (case hd => rfl); (case ha => rfl); (case hc => exact weightsO rfl ns A c _ hA hn _ h1 es hes); (case hL => (repeat (first | exact pm_nil _ | exact pm_refl _ _ | exact pm_self _ | apply pm_cons | apply pm_app))); rintro S2 L2 _ hle2 ⟨x1, rfl, rfl⟩) | refine Jo ?_ | intro _))
      (repeat (first | refine Jc ?_ | (apply s_call; (case hg => rfl); (case hd => rfl); (case ha => rfl); (case hc => exact weightsO rfl ms B d _ (hB.le hle2) hm _ h2 fs hfs); (case hL => (repeat (first | exact pm_nil _ | exact pm_refl _ _ | exact pm_self _ | apply pm_cons | apply pm_app))); rintro S3 L3 _ hle3 ⟨x2, rfl, rfl⟩) | refine Jo ?_ | intro _))
      exact o_ret_c2 (L' := []) (sz := 1) (cs := [.slice none 0 0]) Tryz.results32 rfl rfl (by (repeat (first | exact List.Mem.head _ | apply List.Mem.tail | apply List.mem_append_right))) rfl (List.nil_sublist _) ⟨_, _, rfl, .inl ⟨fun h => by rw [h1, h2] at h; simp at h, rfl, rfl, rfl⟩⟩
    · (repeat (first | refine Jc ?_ | (apply s_call; (case hg => rfl); (case hd => rfl); (case ha => rfl); (case hc => exact weightsO rfl ns A c _ hA hn _ h1 es hes); (case hL => (repeat (first | exact pm_nil _ | exact pm_refl _ _ | exact pm_self _ | apply pm_cons | apply pm_app))); rintro S2 L2 _ hle2 ⟨x1, rfl, rfl⟩) | refine Jo ?_ | intro _))
      (repeat (first | refine Jc ?_ | (apply s_call; (case hg => rfl); (case hd => rfl); (case ha => rfl); (case hc => exact weightsO rfl ms B d _ (hB.le hle2) hm _ h2 fs hfs); (case hL => (repeat (first | exact pm_nil _ | exact pm_refl _ _ | exact pm_self _ | apply pm_cons | apply pm_app))); rintro S3 L3 _ hle3 ⟨x2, rfl, rfl⟩) | refine Jo ?_ | intro _))
      exact o_ret_c2 (L' := []) (sz := 1) (cs := [.slice none 0 0]) Tryz.results32 rfl rfl (by (repeat (first | exact List.Mem.head _ | apply List.Mem.tail | apply List.mem_append_right))) rfl (List.nil_sublist _) ⟨_, _, rfl, .inl ⟨fun h => by rw [h1, h2] at h; simp at h, rfl, rfl, rfl⟩⟩
  · cases h2 : validB ms
    · (repeat (first | refine Jc ?_ | (apply s_call; (case hg => rfl); (case hd => rfl); (case ha => rfl); (case hc => exact weightsO rfl ns A c _ hA hn _ h1 es hes); (case hL => (repeat (first | exact pm_nil _ | exact pm_refl _ _ | exact pm_self _ | apply pm_cons | apply pm_app))); rintro S2 L2 _ hle2 ⟨x1, rfl, rfl⟩) | refine Jo ?_ | intro _))
      (repeat (first | refine Jc ?_ | (apply s_call; (case hg => rfl); (case hd => rfl); (case ha => rfl); (case hc => exact weightsO rfl ms B d _ (hB.le hle2) hm _ h2 fs hfs); (case hL => (repeat (first | exact pm_nil _ | exact pm_refl _ _ | exact pm_self _ | apply pm_cons | apply pm_app))); rintro S3 L3 _ hle3 ⟨x2, rfl, rfl⟩) | refine Jo ?_ | intro _))
      exact o_ret_c2 (L' := []) (sz := 1) (cs := [.slice none 0 0]) Tryz.results32 rfl rfl (by (repeat (first | exact List.Mem.head _ | apply List.Mem.tail | apply List.mem_append_right))) rfl (List.nil_sublist _) ⟨_, _, rfl, .inl ⟨fun h => by rw [h1, h2] at h; simp at h, rfl, rfl, rfl⟩⟩
    have hwT : ∀ p, wT Nd.own ns p + s * wT Nd.own ms p = wI (pth p) es + s * wI (pth p) fs := fun p => by unfold wT; rw [hes, hfs]
    (repeat (first | refine Jc ?_ | (apply s_call; (case hg => rfl); (case hd => rfl); (case ha => rfl); (case hc => exact weightsO rfl ns A c _ hA hn _ h1 es hes); (case hL => (repeat (first | exact pm_nil _ | exact pm_refl _ _ | exact pm_self _ | apply pm_cons | apply pm_app))); rintro S2 L2 _ hle2 ⟨x1, rfl, rfl⟩) | refine Jo ?_ | intro _))
    (repeat (first | refine Jc ?_ | (apply s_call; (case hg => rfl); (case hd => rfl); (case ha => rfl); (case hc => exact weightsO rfl ms B d _ (hB.le hle2) hm _ h2 fs hfs); (case hL => (repeat (first | exact pm_nil _ | exact pm_refl _ _ | exact pm_self _ | apply pm_cons | apply pm_app))); rintro S3 L3 _ hle3 ⟨x2, rfl, rfl⟩) | refine Jo ?_ | intro _))
    (repeat (first | refine Jc ?_ | (apply s_callw (caps := []); (case hg => rfl); (case hd => rfl); (case hx => rfl); (case i1 => infer_instance); (case ha => rfl); (case hc => exact hc x1 x2 _); (case hL => exact List.Perm.swap _ _ _); rintro S4 _ _ hle4 ⟨rfl, rfl, es2, rfl, hWe, hwe, hle, hko⟩) | refine Jo ?_ | intro _))
    have hPe : PE es2 := fun x hxm => by
      rcases hko x hxm with h | h
      · obtain ⟨y, hy1, e⟩ := List.mem_map.1 h
        rw [← e]; exact hx.2.1 y hy1
      · obtain ⟨y, hy1, e⟩ := List.mem_map.1 h
        rw [← e]; exact hy.2.1 y hy1
    have hfb := fun k => wI_rng hy.1 (hfs ▸ wF_own (ns := ms)) (by omega) k
    have hbb : ∀ e ∈ es2, e.2 ≤ 1152921504606846976 := fun e he => by
      have e1 : wI e.1 es2 = e.2 := wI_mem hWe.nodup he
      rw [hwe] at e1
      have h3 := hxb e.1
      have h4 := hfb e.1
      rw [hes] at h3
      rcases hs with rfl | rfl <;> omega
    have hfe : (fun p => wI (pth p) es2) = fun p => wT Nd.own ns p + s * wT Nd.own ms p := funext fun p => by rw [hwe, hwT]
    have hiff := wT_iff (ns := ns) (ms := ms) hs hWe hPe (fun k => by rw [hes, hfs]; exact hwe k)
    have hiff2 : (∀ e ∈ es2, 0 ≤ e.2) → ∀ p, VQ p → 0 ≤ wT Nd.own ns p + s * wT Nd.own ms p := fun h p hp => by
      by_cases h0 : 0 ≤ wT Nd.own ns p + s * wT Nd.own ms p
      · exact h0
      · obtain ⟨e, he, h5⟩ := hiff.2 ⟨p, hp, by omega⟩
        have := h e he
        omega
    (repeat (first | refine Jc ?_ | (apply s_call; (case hg => rfl); (case hd => rfl); (case ha => rfl); (case hc => exact tree_can x1 es2 _ hWe (by omega) hPe hbb); (case hL => exact List.Perm.refl _); rintro S5 _ _ hle5 ⟨v, ok, rfl, ⟨hneg, rfl, rfl, rfl⟩ | ⟨hpos, M, hM, ⟨hfit, rfl, ho⟩ | ⟨hfit, rfl, rfl, rfl⟩⟩⟩) | refine Jo ?_ | intro _))
    · (repeat (first | refine Jz ?_ | intro _))
      exact o_ret_c2 (L' := []) (sz := 1) (cs := [.slice none 0 0]) Tryz.results32 rfl rfl (by (repeat (first | exact List.Mem.head _ | apply List.Mem.tail | apply List.mem_append_right))) rfl (List.nil_sublist _) ⟨_, _, rfl, .inr ⟨⟨h1, h2⟩, .inl ⟨hiff.1 hneg, rfl, rfl, rfl⟩⟩⟩
    · obtain ⟨Av, cv, rfl⟩ := ho.form
      rename_i L5
      (repeat (first | refine Jz ?_ | intro _))
      simp only [hfe] at hM hfit ho ⊢
      exact o_ret_c2 (L' := L5) (sz := 1) (cs := [.slice Av (nodesC (fun p => wT Nd.own ns p + s * wT Nd.own ms p) M).length cv]) Tryz.results32 rfl rfl (by (repeat (first | exact List.Mem.head _ | apply List.Mem.tail | apply List.mem_append_right))) rfl sbL ⟨_, _, rfl, .inr ⟨⟨h1, h2⟩, .inr ⟨hiff2 hpos, M, hM, .inl ⟨hfit, rfl, ho⟩⟩⟩⟩
    · rw [hfe] at hM hfit
      (repeat (first | refine Jz ?_ | intro _))
      exact o_ret_c2 (L' := []) (sz := 1) (cs := [.slice none 0 0]) Tryz.results32 rfl rfl (by (repeat (first | exact List.Mem.head _ | apply List.Mem.tail | apply List.mem_append_right))) rfl (List.nil_sublist _) ⟨_, _, rfl, .inr ⟨⟨h1, h2⟩, .inr ⟨hiff2 hpos, M, hM, .inr ⟨hfit, rfl, rfl, rfl⟩⟩⟩⟩
theorem CombR.form {s : Int} {ns ms : List Nd} {v : Value} {ec : Int} {L' : Blocks} (h : CombR s ns ms v ec L') : ∃ A m c, v = .slice A m c := by
  rcases h with ⟨_, _, h, _⟩ | ⟨_, ⟨_, _, h, _⟩ | ⟨_, M, _, ⟨_, _, h⟩ | ⟨_, _, h, _⟩⟩⟩
  · exact ⟨_, _, _, h⟩
  · exact ⟨_, _, _, h⟩
  · obtain ⟨A, c, h⟩ := h.form
    exact ⟨_, _, _, h⟩
  · exact ⟨_, _, _, h⟩
theorem merge_con (ns ms : List Nd) (A B : Option Addr) (c d : Nat) (S : SH) (hA : At S A ns) (hB : At S B ms) (hn : ns.length ≤ 1000000) (hm : ms.length ≤ 1000000) :
    Con Tryz.prog 11 #[.agg #[.slice A ns.length c], .agg #[.slice B ms.length d]] S [] (fun _ L' r => ∃ v ec, r = .tuple #[.agg #[v], .int .i64 ec] ∧ CombR 1 ns ms v ec L') := by
  refine con_of (args := [.agg #[.slice A ns.length c], .agg #[.slice B ms.length d]]) Tryz.func11 rfl Tryz.ntmps11 rfl fun w => ?_
  (repeat (first | refine Jc ?_ | (apply s_call; (case hg => rfl); (case hd => rfl); (case ha => rfl); (case hc => exact comb_con 1 (.inl rfl) with_plus ns ms A B c d _ hA hB hn hm); (case hL => (repeat (first | exact pm_nil _ | exact pm_refl _ _ | exact pm_self _ | apply pm_cons | apply pm_app))); rintro S2 L2 _ hle2 ⟨v, ec, rfl, hr⟩); obtain ⟨Av, m, cv, rfl⟩ := hr.form | refine Jo ?_ | intro _))
  exact o_ret_c2 (L' := L2) (sz := 1) (cs := [.slice Av m cv]) Tryz.results11 rfl rfl (by (repeat (first | exact List.Mem.head _ | apply List.Mem.tail | apply List.mem_append_right))) rfl sbL ⟨_, _, rfl, hr⟩
theorem sub_con (ns ms : List Nd) (A B : Option Addr) (c d : Nat) (S : SH) (hA : At S A ns) (hB : At S B ms) (hn : ns.length ≤ 1000000) (hm : ms.length ≤ 1000000) :
    Con Tryz.prog 13 #[.agg #[.slice A ns.length c], .agg #[.slice B ms.length d]] S [] (fun _ L' r => ∃ v ec, r = .tuple #[.agg #[v], .int .i64 ec] ∧ CombR (-1) ns ms v ec L') := by
  refine con_of (args := [.agg #[.slice A ns.length c], .agg #[.slice B ms.length d]]) Tryz.func13 rfl Tryz.ntmps13 rfl fun w => ?_
  (repeat (first | refine Jc ?_ | (apply s_call; (case hg => rfl); (case hd => rfl); (case ha => rfl); (case hc => exact comb_con (-1) (.inr rfl) with_minus ns ms A B c d _ hA hB hn hm); (case hL => (repeat (first | exact pm_nil _ | exact pm_refl _ _ | exact pm_self _ | apply pm_cons | apply pm_app))); rintro S2 L2 _ hle2 ⟨v, ec, rfl, hr⟩); obtain ⟨Av, m, cv, rfl⟩ := hr.form | refine Jo ?_ | intro _))
  exact o_ret_c2 (L' := L2) (sz := 1) (cs := [.slice Av m cv]) Tryz.results13 rfl rfl (by (repeat (first | exact List.Mem.head _ | apply List.Mem.tail | apply List.mem_append_right))) rfl sbL ⟨_, _, rfl, hr⟩
end Go.Proofs.YtcnfchchanlepaaGreat
namespace Go.Proofs.YtcnfchchanlepaaGreat
open Go Go.X
theorem pts_pre {S : SH} {p : Addr} {cs ds : List Value} (h : Pts S p cs) (hp : ds <+: cs) : Pts S p ds := fun j u e => h j u (by
  obtain ⟨t, rfl⟩ := hp
  rw [List.getElem?_append_left (List.getElem?_eq_some_iff.1 e).1]
  exact e)
/-- How changes are compared. -/
def cfC (x y : Ch) : Int := orI [cmpI (ab y.2) (ab x.2), cmpP x.1 y.1]
theorem cfC_lt (x y : Ch) : cfC x y < 0 ↔ bef x y := by
  unfold cfC bef orI orI orI cmpI
  rcases Int.lt_trichotomy (ab y.2) (ab x.2) with h | h | h
  · rw [if_pos h, if_neg (by decide)]
    exact ⟨fun _ => .inl h, fun _ => by decide⟩
  · rw [if_neg (show ¬ ab y.2 < ab x.2 by omega), if_neg (show ¬ ab x.2 < ab y.2 by omega), if_pos rfl]
    have hc := cmpP_lt x.1 y.1
    constructor
    · intro hh
      refine .inr ⟨h, ?_⟩
      by_cases h0 : cmpP x.1 y.1 = 0
      · rw [if_pos h0] at hh; exact absurd hh (by decide)
      · rw [if_neg h0] at hh
        by_cases h1 : x.1 < y.1
        · exact h1
        · rw [if_neg h1] at hc
          split at hc <;> omega
    · rintro (hh | ⟨_, hh⟩)
      · omega
      · rw [if_pos hh] at hc
        rw [hc]; decide
  · rw [if_neg (show ¬ ab y.2 < ab x.2 by omega), if_pos h, if_neg (by decide)]
    exact ⟨fun hh => absurd hh (by decide), fun hh => by rcases hh with hh | hh <;> omega⟩
theorem bef_trans {x y z : Ch} (h1 : bef x y) (h2 : bef y z) : bef x z := by
  unfold bef at *
  rcases h1 with h1 | ⟨h1, h3⟩ <;> rcases h2 with h2 | ⟨h2, h4⟩
  · exact .inl (by omega)
  · exact .inl (by omega)
  · exact .inl (by omega)
  · exact .inr ⟨by omega, plt_trans h3 h4⟩
theorem bef_ntrans {x y z : Ch} (h1 : ¬ bef x y) (h2 : ¬ bef y z) : ¬ bef x z := by
  unfold bef at *
  rintro (h | ⟨h, h3⟩)
  · by_cases h4 : ab y.2 < ab x.2
    · exact h1 (.inl h4)
    · by_cases h5 : ab z.2 < ab y.2
      · exact h2 (.inl h5)
      · omega
  · by_cases h4 : ab y.2 < ab x.2
    · exact h1 (.inl h4)
    · by_cases h5 : ab z.2 < ab y.2
      · exact h2 (.inl h5)
      · have e1 : ab y.2 = ab x.2 := by omega
        have e2 : ab z.2 = ab y.2 := by omega
        rcases plt_tri x.1 y.1 with h6 | h6 | h6
        · exact h1 (.inr ⟨e1, h6⟩)
        · rw [h6] at h3; exact h2 (.inr ⟨e2, h3⟩)
        · exact h2 (.inr ⟨e2, plt_trans h6 h3⟩)
theorem swoC {α : Type} (f : α → Ch) : Sort.SWO (Go.Proofs.ltOf fun x y : α => cfC (f x) (f y)) where
  irrefl x := by simp only [Go.Proofs.ltOf, decide_eq_false_iff_not]; rw [cfC_lt]; exact bef_irr _
  trans x y z h1 h2 := by
    simp only [Go.Proofs.ltOf, decide_eq_true_eq] at *
    rw [cfC_lt] at *
    exact bef_trans h1 h2
  ntrans x y z h1 h2 := by
    simp only [Go.Proofs.ltOf, decide_eq_false_iff_not] at *
    rw [cfC_lt] at *
    exact bef_ntrans h1 h2
set_option maxRecDepth 10000
set_option linter.unusedVariables false
attribute [local irreducible] Code.wpIn wpListIn Exit.then Exit.inBlock X.Out X.Back X.W X.Ev X.Con X.BinV X.Wh X.Wn X.Wq
theorem list_con (q : List Bs) (hq : VQ q) (S : SH) : Con Tryz.prog 39 #[.agg ((pad q).map strV).toArray] S [] (fun S' L' r => Le S S' ∧ Ows 9 r (toS q) L') := by
  refine con_of (args := [.agg ((pad q).map strV).toArray]) Tryz.func39 rfl Tryz.ntmps39 rfl fun w => ?_
  have hpl := pad_lenV hq.1
  have htl := toS_len q
  have hq12 := hq.1
  have hlc := fun S => plen_con (pad q) S (pad_len hq.1)
  rw [plen_pad hq, ← htl] at hlc
  (repeat (first | refine Jc ?_ | (apply s_evb; (case hg => rfl); (case hd => rfl); (case hn => rfl); (case he => ((apply ev_load_own_ag; (case hx => rfl); (case hm => (repeat (first | exact List.Mem.head _ | apply List.Mem.tail | apply List.mem_append_right))); (case hl => exact hpl))))) | (apply z_call; rfl; rfl; rfl; exact hlc _; rintro _ _ _ - ⟨rfl, rfl, rfl⟩) | (apply s_evb; (case hg => rfl); (case hd => rfl); (case hn => rfl); (case he => ((apply ev_slice_arr_hi; (case hx => rfl); (case hy => rfl); (case hm => omega))))) | refine Jo ?_ | intro _))
  rename_i b1
  refine W.freeze fun S1 hle1 hb1 => ?_
  have hat : At S1 (some ⟨b1, 0, none⟩) (toS q) := fun _ => ⟨_, rfl, by
    rw [toS_cells]
    exact pts_block hb1 (by rw [List.length_map]; simp [pad])⟩
  (repeat (first | refine Jc ?_ | (apply s_call; (case hg => rfl); (case hd => rfl); (case ha => rfl); (case hc => exact pfClone_con (toS q) _ _ _ hat (by omega)); (case hL => (repeat (first | exact pm_nil _ | exact pm_refl _ _ | exact pm_self _ | apply pm_cons | apply pm_app))); rintro S2 L2 v hle2 ⟨rfl, ho⟩) | refine Jo ?_ | intro _))
  exact o_ret (L' := L2) Tryz.results39 rfl sbL ⟨hle1, ho⟩
set_option maxHeartbeats 1600000 in
theorem dcmp_con (p q : List Bs) (m n : Int) (A B : Option Addr) (c d : Nat) (S : SH) (hA : At S A (toS p)) (hB : At S B (toS q)) (hp : p.length ≤ 1000000) (hq : q.length ≤ 1000000) (hm : -9223372036854775807 ≤ m ∧ m ≤ 9223372036854775807) (hn : -9223372036854775807 ≤ n ∧ n ≤ 9223372036854775807) :
    Con Tryz.prog 41 #[.agg [.slice A (toS p).length c, .int .i64 m].toArray, .agg [.slice B (toS q).length d, .int .i64 n].toArray] S [] (fun _ _ r => r = .int .i64 (cfC (p, m) (q, n))) := by
  refine con_of (args := [.agg [.slice A (toS p).length c, .int .i64 m].toArray, .agg [.slice B (toS q).length d, .int .i64 n].toArray]) Tryz.func41 rfl Tryz.ntmps41 rfl fun w => ?_
  (repeat (first | refine Jz ?_ | intro _))
  rename_i b2 b3
  ((apply c_held ([(b3, .cells [.slice B (toS q).length d, .int .i64 n].toArray 54 (0, 0)), (b2, .cells [.slice A (toS p).length c, .int .i64 m].toArray 54 (0, 0))]); (case hL => (exact sbT))); refine Jf 0 ?_; refine Jf 1 ?_; refine Jf 3 ?_; refine Jf 4 ?_; refine Jf 7 ?_; refine Jf 8 ?_; refine Jf 9 ?_; refine Jf 10 ?_; (apply h_one 2; (case hr => kernel_rfl)); (apply n_call; (case hi => rfl); (case i1 => infer_instance); (case hg => rfl); (case hd => rfl); (case ha => rfl); (case hc => exact size_con n _ hn); (case hL => (repeat (first | exact pm_nil _ | exact pm_refl _ _ | exact pm_self _ | apply pm_cons | apply pm_app))); (case hsub => (intros; (exact sbT))); rintro _ _ _ - ⟨rfl, rfl, rfl⟩); (apply h_one 5; (case hr => kernel_rfl)); (apply n_call; (case hi => rfl); (case i1 => infer_instance); (case hg => rfl); (case hd => rfl); (case ha => rfl); (case hc => exact size_con m _ hm); (case hL => (repeat (first | exact pm_nil _ | exact pm_refl _ _ | exact pm_self _ | apply pm_cons | apply pm_app))); (case hsub => (intros; (exact sbT))); rintro _ _ _ - ⟨rfl, rfl, rfl⟩); (apply h_one 6; (case hr => kernel_rfl)); (apply n_call; (case hi => rfl); (case i1 => infer_instance); (case hg => rfl); (case hd => rfl); (case ha => rfl); (case hc => exact cmpI_con (max n (-n)) (max m (-m)) _); (case hL => (repeat (first | exact pm_nil _ | exact pm_refl _ _ | exact pm_self _ | apply pm_cons | apply pm_app))); (case hsub => (intros; (exact sbT))); rintro _ _ _ - ⟨rfl, rfl, rfl⟩); (apply h_one 11; (case hr => kernel_rfl)); (apply n_call; (case hi => rfl); (case i1 => infer_instance); (case hg => rfl); (case hd => rfl); (case ha => rfl); (case hc => exact cmpP_con p q A B c d _ hA hB hp hq); (case hL => (repeat (first | exact pm_nil _ | exact pm_refl _ _ | exact pm_self _ | apply pm_cons | apply pm_app))); (case hsub => (intros; (exact sbT))); rintro _ _ _ - ⟨rfl, rfl, rfl⟩); (apply h_one 12; (case hr => kernel_rfl)); (apply n_buildSlice; (case hi => rfl); (case hg => rfl); (case hd => rfl); (case i1 => infer_instance); (case i2 => infer_instance); (case i3 => infer_instance); (case hp => rfl); (case hq => rfl); (case hm => rfl); (case hv => rfl); (case hl => rfl); intro bl); refine Wh.freezeOws (Ows.full (α := Int) (e := 3) (g := bl) (cs := ([Value.int .i64 (cmpI (max n (-n)) (max m (-m))), Value.int .i64 (cmpP p q)] : List Value).flatMap (fun x => x.cells.toList)) (l := [cmpI (max n (-n)) (max m (-m)), cmpP p q]) rfl (show 2 ≤ maxLen by decide)) (List.Perm.refl _) sbL fun S3 hle3 hs3 => ?_; obtain ⟨A3, c3, e3, hc3, hA3⟩ := hs3; injection e3 with e4 e5 e6; subst e4; subst e6; (apply h_one 13; (case hr => kernel_rfl)); (apply n_call; (case hi => rfl); (case i1 => infer_instance); (case hg => rfl); (case hd => rfl); (case ha => rfl); (case hc => exact or_con [cmpI (max n (-n)) (max m (-m)), cmpP p q] _ _ _ hA3 (show 2 ≤ 1000000 by decide)); (case hL => (repeat (first | exact pm_nil _ | exact pm_refl _ _ | exact pm_self _ | apply pm_cons | apply pm_app))); (case hsub => (intros; (exact sbT))); rintro _ _ _ - ⟨rfl, rfl, rfl⟩); refine Jf 14 ?_; (apply h_end; (case hr => kernel_rfl)))
  (repeat (first | refine Jz ?_ | intro _))
  exact o_ret Tryz.results41 rfl (List.nil_sublist _) rfl
end Go.Proofs.YtcnfchchanlepaaGreat
namespace Go.Proofs.YtcnfchchanlepaaGreat
open Go Go.X
set_option maxRecDepth 10000
set_option linter.unusedVariables false
attribute [local irreducible] Code.wpIn wpListIn Exit.then Exit.inBlock X.Out X.Back X.W X.Ev X.Con X.BinV X.Wh X.Wn X.Wq
theorem mapsAll_con (bm : Nat) (S : SH) : Con Tryz.prog 38 #[.map (some bm)] S [] (fun S' L' v => Le S S' ∧ L' = [] ∧ ∃ p, v = .func (.func 59) #[] #[.pointer (some p)] ∧ Pts S' p [.map (some bm)]) := by
  refine con_of (args := [.map (some bm)]) Tryz.func38 rfl Tryz.ntmps38 rfl fun w => ?_
  (repeat (first | refine Jz ?_ | intro _))
  refine W.freeze fun S1 hle1 hb1 => ?_
  exact o_ret Tryz.results38 rfl sbL ⟨hle1, rfl, _, rfl, pts_block hb1 (by simp)⟩
set_option maxHeartbeats 1600000 in
theorem mapsAll1_con {l r : Nat} {fn : FuncId} {tmps : Array Value} {ps : Array Tmp} {assign body : Code} (hps : ps.size = 2) (es : List (Pth × Int)) (hWE : WE es) (bm : Nat)
    (I : SH → List (Pth × Int) → Blocks → Prop) (hI : ∀ S x L, I S x L → ∃ L2, L = (l, rec0 fn tmps ps assign body r .ready none) :: (bm, mapGO (iE es)) :: L2) (S : SH) (p : Addr) (hp : Pts S p [.map (some bm)])
    (hR : ∀ S' x L e, Le S S' → I S' x L → e ∈ es → e.1 ∉ x.map (·.1) → x.length < es.length → RdR Tryz.prog l fn ((ps.zip #[.agg (e.1.l.map strV).toArray, .int .i64 e.2]).foldl (fun t (p : Tmp × Value) => t.setIfInBounds p.1 p.2) tmps) assign body S' L (fun S2 L2 => Le S' S2 ∧ I S2 (x ++ [e]) L2) true) (L0 : Blocks) (h0 : I S [] L0) :
    Con Tryz.prog 59 #[.func (.yield l) #[] #[], .pointer (some p)] S L0 (fun S' L' v => Le S S' ∧ ∃ x, x.Perm es ∧ I S' x L') := by
  refine con_of (args := [.func (.yield l) #[] #[], .pointer (some p)]) Tryz.func59 rfl Tryz.ntmps59 rfl fun w => ?_
  obtain ⟨LL, hLL⟩ := hI _ _ _ h0
  (repeat (first | refine Jc ?_ | (apply s_load1; (case hg => rfl); (case hd => rfl); (case hx => rfl); (case hv => exact hp)) | (apply s_rangeG (κ := Pth) (b := bm) (ent := iE es); (case hg => rfl); (case hd => rfl); (case hx => rfl); (case hm => (rw [hLL]; (repeat (first | exact List.Mem.head _ | apply List.Mem.tail | apply List.mem_append_right)))); intro ri) | refine Jo ?_ | intro _))
  refine c_loop (fun m S' L F => Le S S' ∧ ∃ (seen : List Nat) (L1 : Blocks), m = es.length - seen.length ∧ seen.Nodup ∧ (∀ i ∈ seen, i < es.length) ∧ I S' (selE es seen) L1 ∧ L = (ri, iterGO bm (iE es).length seen) :: L1 ∧
      F = [(0, .func (.yield l) #[] #[]), (6, .pointer (some ⟨ri, 0, none⟩))]) ⟨Le.refl _, [], L0, rfl, List.nodup_nil, (fun i h => absurd h List.not_mem_nil), h0, rfl, rfl⟩ sbF (List.Sublist.refl _) ?_
  rintro m S1 L F ⟨hle1, seen, L1, rfl, hsn, hsl, hi, rfl, rfl⟩
  obtain ⟨L2, rfl⟩ := hI _ _ _ hi
  (repeat (first | refine Jz ?_ | intro _))
  apply s_nextG (κ := Pth) (b := bm) (ent := iE es) (seen := seen) (L' := fun i => (ri, iterGO bm (iE es).length (seen ++ [i])) :: (l, rec0 fn tmps ps assign body r .ready none) :: (bm, mapGO (iE es)) :: L2); (case hg => rfl); (case hd => rfl); (case hx => rfl); (case hm => (repeat (first | exact List.Mem.head _ | apply List.Mem.tail | apply List.mem_append_right))); (case hL => (intro i; exact Upd.head))
  · intro hall
    have hpm := selE_all (es := es) hsn hsl (fun i hi => hall i (by rw [iE_len]; exact hi))
    (repeat (first | refine Jz ?_ | intro _))
    exact o_ret0 (.inr rfl) Tryz.results59 (List.sublist_cons_self _ _) ⟨hle1, _, hpm, hi⟩
  · intro i k v hni hat
    obtain ⟨nv, hat', rfl⟩ := iE_at hat
    have hmem := List.mem_of_getElem? hat'
    have hkl : k.l.length = 12 := hWE.ok _ hmem
    have hil := (List.getElem?_eq_some_iff.1 hat').1
    have hnk : k ∉ (selE es seen).map (·.1) := selE_none hWE.nodup hat' hni
    have hsel := selE_snoc (seen := seen) hat'
    have hlen : seen.length < es.length := by
      have h3 : (seen ++ [i]).Nodup := by rw [List.nodup_append]; exact ⟨hsn, by simp, fun a ha b hb e => hni (by simp at hb; subst hb; subst e; exact ha)⟩
      have h4 := nodup_lt es.length _ h3 (fun j hj => (List.mem_append.1 hj).elim (hsl j) (fun h => by simp at h; subst h; exact hil))
      simp at h4; omega
    have hrd := hR S1 (selE es seen) _ (k, nv) hle1 hi hmem hnk (by rw [selE_len hsl]; exact hlen)
    have hnd : (seen ++ [i]).Nodup := by rw [List.nodup_append]; exact ⟨hsn, by simp, fun a ha b hb e => hni (by simp at hb; subst hb; subst e; exact ha)⟩
    have hlts : ∀ j ∈ seen ++ [i], j < es.length := fun j hj => (List.mem_append.1 hj).elim (hsl j) (fun h => by simp at h; subst h; exact hil)
    (repeat (first | refine Jc ?_ | (apply s_evb; (case hg => rfl); (case hd => rfl); (case hn => rfl); (case he => ((apply ev_entryG (κ := Pth) (b := bm) (ent := iE es) (seen := seen) (i := i); (case hx => rfl); (case hm => (repeat (first | exact List.Mem.head _ | apply List.Mem.tail | apply List.mem_append_right))); (case hr => (repeat (first | exact List.Mem.head _ | apply List.Mem.tail | apply List.mem_append_right))); (case hi => exact hat))))) | (apply s_store_ag (vs := k.l.map strV); (case hg => rfl); (case hx => rfl); (case hy => rfl); (case h1 => exact strs_one _); (case hv => (rw [List.length_map]; exact hkl)); (case hL => (repeat (first | exact Upd.head | apply Upd.tail | apply Upd.app))); (case hu => rfl)) | (apply s_evb; (case hg => rfl); (case hd => rfl); (case hn => rfl); (case he => ((apply ev_load_own_ag; (case hx => rfl); (case hm => (repeat (first | exact List.Mem.head _ | apply List.Mem.tail | apply List.mem_append_right))); (case hl => (rw [List.length_map]; exact hkl)))))) | refine Jo ?_ | intro _))
    rename_i b3
    apply s_yieldR; (case hg => rfl); (case hd => rfl); (case hx => rfl); (case ha => rfl); (case hL => exact (List.perm_append_comm (l₁ := [_, _]))); (case hm => exact List.mem_cons_self); (case hp => exact hps.symm); (case hc => exact hrd); rintro S2 L3 ⟨hle2, hi2⟩
    rw [← hsel] at hi2
    (repeat (first | refine Jz ?_ | intro _))
    refine W.perm (L' := (ri, iterGO bm (iE es).length (seen ++ [i])) :: (L3 ++ [(b3, .cells (k.l.map strV).toArray 87 (0, 0))])) ?_ (pmc (fun p => by (repeat (first | rw [List.countP_append] | rw [List.countP_cons] | rw [List.countP_nil])); (all_goals (first | rfl | omega))))
    exact q_back (L' := (ri, iterGO bm (iE es).length (seen ++ [i])) :: L3) (m' := es.length - (seen ++ [i]).length) ⟨hle1.trans hle2, seen ++ [i], L3, rfl, hnd, hlts, hi2, rfl, rfl⟩ (by rw [List.length_append, List.length_singleton]; omega) sbF sbL
end Go.Proofs.YtcnfchchanlepaaGreat
namespace Go.Proofs.YtcnfchchanlepaaGreat
open Go Go.X
/-- A change as it lies in memory. -/
structure Cg where
  path : Sv
  by_ : Int
instance : Inhabited Cg := ⟨⟨⟨none, 0, 0⟩, 0⟩⟩
instance : Cl Cg := ⟨2, fun x => [.slice x.path.a x.path.m x.path.c, .int .i64 x.by_], fun _ => rfl, fun _ u hu => by simp at hu; rcases hu with rfl | rfl <;> rfl⟩
def cgR (S : SH) (x : Cg) (y : Ch) : Prop := x.by_ = y.2 ∧ x.path.m = (toS y.1).length ∧ (toS y.1).length ≤ x.path.c ∧ At S x.path.a (toS y.1)
def ChL (S : SH) (xs : List Cg) (ys : List Ch) : Prop := xs.length = ys.length ∧ ∀ (i : Nat) (x : Cg) (y : Ch), xs[i]? = some x → ys[i]? = some y → cgR S x y
theorem cgR.le {S T : SH} (h : Le S T) {x : Cg} {y : Ch} (k : cgR S x y) : cgR T x y := ⟨k.1, k.2.1, k.2.2.1, k.2.2.2.le h⟩
theorem ChL.le {S T : SH} (h : Le S T) {xs : List Cg} {ys : List Ch} (k : ChL S xs ys) : ChL T xs ys := ⟨k.1, fun i x y h1 h2 => (k.2 i x y h1 h2).le h⟩
theorem ChL.nil (S : SH) : ChL S [] [] := ⟨rfl, fun i x y h => by simp at h⟩
theorem ChL.cons {S : SH} {x : Cg} {y : Ch} {xs : List Cg} {ys : List Ch} (k : cgR S x y) (h : ChL S xs ys) : ChL S (x :: xs) (y :: ys) := by
  refine ⟨by rw [List.length_cons, List.length_cons, h.1], fun i x' y' h1 h2 => ?_⟩
  cases i with
  | zero =>
    simp only [List.getElem?_cons_zero, Option.some.injEq] at h1 h2
    subst h1; subst h2; exact k
  | succ i => exact h.2 i x' y' (by simpa using h1) (by simpa using h2)
theorem ChL.uncons {S : SH} {x : Cg} {y : Ch} {xs : List Cg} {ys : List Ch} (h : ChL S (x :: xs) (y :: ys)) : cgR S x y ∧ ChL S xs ys :=
  ⟨h.2 0 x y rfl rfl, by have := h.1; simpa using this, fun i x' y' h1 h2 => h.2 (i + 1) x' y' (by simpa using h1) (by simpa using h2)⟩
theorem ChL.snoc {S : SH} : ∀ {xs : List Cg} {ys : List Ch} {x : Cg} {y : Ch}, ChL S xs ys → cgR S x y → ChL S (xs ++ [x]) (ys ++ [y])
  | [], [], _, _, _, k => ChL.cons k (ChL.nil S)
  | [], _ :: _, _, _, h, _ => absurd h.1 (by simp)
  | _ :: _, [], _, _, h, _ => absurd h.1 (by simp)
  | _ :: _, _ :: _, _, _, h, k => ChL.cons h.uncons.1 (ChL.snoc h.uncons.2 k)
/-- A change, and the path that its slice holds for good. -/
structure ChX (S : SH) where
  g : Cg
  y : Ch
  r : cgR S g y
  l : y.1.length ≤ 12
  b : -9223372036854775807 ≤ y.2 ∧ y.2 ≤ 9223372036854775807
instance (S : SH) : Inhabited (ChX S) := ⟨⟨⟨⟨none, 0, 0⟩, 0⟩, ([], 0), ⟨rfl, rfl, Nat.le_refl _, At.nil _ _⟩, Nat.zero_le _, by simp⟩⟩
instance (S : SH) : Cl (ChX S) := ⟨2, fun x => Cl.cells x.g, fun x => Cl.len x.g, fun x u hu => Cl.one x.g u hu⟩
theorem chx_of {S : SH} : ∀ {xs : List Cg} {ys : List Ch}, ChL S xs ys → (∀ y ∈ ys, y.1.length ≤ 12 ∧ -9223372036854775807 ≤ y.2 ∧ y.2 ≤ 9223372036854775807) → ∃ zs : List (ChX S), zs.map ChX.g = xs ∧ zs.map ChX.y = ys
  | [], [], _, _ => ⟨[], rfl, rfl⟩
  | [], _ :: _, h, _ => absurd h.1 (by simp)
  | _ :: _, [], h, _ => absurd h.1 (by simp)
  | x :: xs, y :: ys, h, hb => by
    obtain ⟨zs, h1, h2⟩ := chx_of h.uncons.2 fun y hy => hb y (List.mem_cons_of_mem _ hy)
    obtain ⟨b1, b2⟩ := hb y List.mem_cons_self
    exact ⟨⟨x, y, h.uncons.1, b1, b2⟩ :: zs, by rw [List.map_cons, h1], by rw [List.map_cons, h2]⟩
theorem chl_of {S : SH} : ∀ (zs : List (ChX S)), ChL S (zs.map ChX.g) (zs.map ChX.y)
  | [] => ChL.nil S
  | z :: zs => ChL.cons z.r (chl_of zs)
theorem cells_chx {S : SH} : ∀ (zs : List (ChX S)), cellsOf zs = cellsOf (zs.map ChX.g)
  | [] => rfl
  | z :: zs => by rw [List.map_cons, cellsOf_cons, cellsOf_cons, cells_chx zs]; rfl
theorem ows_chx {S : SH} {e : TypeId} {v : Value} {zs : List (ChX S)} {ob : Blocks} : Ows e v zs ob ↔ Ows e v (zs.map ChX.g) ob := by
  have h1 : (zs.map ChX.g).length = zs.length := List.length_map _
  have h2 := cells_chx zs
  have h3 : Cl.size (ChX S) = Cl.size Cg := rfl
  unfold Ows
  rw [h1, h2, h3]
  constructor
  · rintro (⟨a, b, c⟩ | h)
    · exact .inl ⟨a, by rw [b]; rfl, c⟩
    · exact .inr h
  · rintro (⟨a, b, c⟩ | h)
    · exact .inl ⟨a, by simpa using b, c⟩
    · exact .inr h
theorem sortC_con {S : SH} {v : Value} {zs : List (ChX S)} {ob : Blocks} (ho : Ows 54 v zs ob) (hl : zs.length ≤ 1000000) :
    Con Tryz.prog 40 #[v, .func (.func 41) #[] #[]] S ob (fun S' L' r => S' = S ∧ r = .tuple #[] ∧ ∃ l', l'.Perm zs ∧ l'.Pairwise (fun x y => ¬ cfC y.y x.y < 0) ∧ Ows 54 v l' L') :=
  sortF_conS (cf := fun x y : ChX S => cfC x.y y.y) (fun blk cap d w h1 h2 h3 h4 => by
      have aE : ∀ w, (isAgg 54).run Tryz.prog w = .ok true w := fun w => run_isAgg Tryz.underlying54 rfl
      have zE : ∀ w, (Go.sizeOf 54).run Tryz.prog w = .ok 2 w := fun w => Go.X.run_sizeOf (Sz.size (P := Tryz.prog) (t := 54))
      exact AnyQ.slices_SortFunc Tryz.sortCells 2 aE zE Cl.cells Cl.len Cl.one _ (swoC ChX.y) 41 #[] blk 0 cap d w (fun args w => enters_of Tryz.func41 (by kernel_rfl) rfl args w) h1 h2 h3 h4)
    (fun p cap fv w => AnyF.slices_SortFunc_none { Tryz.sortCells with } p cap fv w) (fun x y => by
      obtain ⟨⟨⟨xa, xm, xc⟩, xb⟩, ⟨xp, xn⟩, ⟨r1, r2, r3, r4⟩, l1, b1⟩ := x
      obtain ⟨⟨⟨ya, ym, yc⟩, yb⟩, ⟨yp, yn⟩, ⟨s1, s2, s3, s4⟩, l2, b2⟩ := y
      simp only at r1 r2 r3 r4 l1 b1 s1 s2 s3 s4 l2 b2
      subst r1; subst r2; subst s1; subst s2
      exact dcmp_con xp yp xb yb xa ya xc yc S r4 s4 (by omega) (by omega) b1 b2) ho (by omega)
end Go.Proofs.YtcnfchchanlepaaGreat
namespace Go.Proofs.YtcnfchchanlepaaGreat
open Go Go.X
set_option linter.unusedVariables false
/-- A weight added to a list that is ordered by paths. -/
def addF : List Ch → List Bs → Int → List Ch
  | [], q, n => [(q, n)]
  | y :: l, q, n => if cmpP y.1 q < 0 then y :: addF l q n else if cmpP y.1 q = 0 then (y.1, y.2 + n) :: l else (q, n) :: y :: l
theorem addF_skip {q : List Bs} {n : Int} {l2 : List Ch} : ∀ {l1 : List Ch}, (∀ y ∈ l1, cmpP y.1 q < 0) → addF (l1 ++ l2) q n = l1 ++ addF l2 q n
  | [], _ => rfl
  | y :: l1, h => by
    rw [List.cons_append, addF, if_pos (h y List.mem_cons_self), addF_skip fun z hz => h z (List.mem_cons_of_mem _ hz)]; rfl
theorem addF_at {q : List Bs} {n : Int} {ys : List Ch} {k : Nat} (h : ∀ y ∈ ys.take k, cmpP y.1 q < 0) : addF ys q n = ys.take k ++ addF (ys.drop k) q n := by
  conv => lhs; rw [← List.take_append_drop k ys]
  exact addF_skip h
theorem drop_at {α : Type} {l : List α} {k : Nat} {x : α} (h : l[k]? = some x) : l.drop k = x :: l.drop (k + 1) := by
  obtain ⟨h1, rfl⟩ := List.getElem?_eq_some_iff.1 h
  exact List.drop_eq_getElem_cons h1
theorem addF_hit {q : List Bs} {n : Int} {ys : List Ch} {k : Nat} {y : Ch} (h : ∀ y ∈ ys.take k, cmpP y.1 q < 0) (hy : ys[k]? = some y) (hz : cmpP y.1 q = 0) : addF ys q n = ys.set k (y.1, y.2 + n) := by
  rw [addF_at h, drop_at hy, addF, if_neg (by omega), if_pos hz, List.set_eq_take_append_cons_drop, if_pos (List.getElem?_eq_some_iff.1 hy).1]
theorem addF_new {q : List Bs} {n : Int} {ys : List Ch} {k : Nat} (h : ∀ y ∈ ys.take k, cmpP y.1 q < 0) (h2 : ∀ y, ys[k]? = some y → 0 < cmpP y.1 q) : addF ys q n = ys.take k ++ (q, n) :: ys.drop k := by
  rw [addF_at h]
  cases hd : ys[k]? with
  | none =>
    have : ys.drop k = [] := List.drop_eq_nil_of_le (List.getElem?_eq_none_iff.1 hd)
    rw [this]; rfl
  | some y =>
    have := h2 y hd
    rw [drop_at hd, addF, if_neg (by omega), if_neg (by omega)]
theorem ChL.app {S : SH} {xs xs2 : List Cg} {ys ys2 : List Ch} (h : ChL S xs ys) (k : ChL S xs2 ys2) : ChL S (xs ++ xs2) (ys ++ ys2) := by
  refine ⟨by rw [List.length_append, List.length_append, h.1, k.1], fun i x' y' h1 h2 => ?_⟩
  by_cases hi : i < xs.length
  · rw [List.getElem?_append_left hi] at h1
    rw [List.getElem?_append_left (by rw [← h.1]; exact hi)] at h2
    exact h.2 i x' y' h1 h2
  · rw [List.getElem?_append_right (by omega)] at h1
    rw [List.getElem?_append_right (by rw [← h.1]; omega)] at h2
    rw [← h.1] at h2
    exact k.2 _ x' y' h1 h2
theorem ChL.take {S : SH} {xs : List Cg} {ys : List Ch} (h : ChL S xs ys) (k : Nat) : ChL S (xs.take k) (ys.take k) := by
  refine ⟨by rw [List.length_take, List.length_take, h.1], fun i x y h1 h2 => ?_⟩
  rw [List.getElem?_take] at h1 h2
  by_cases hi : i < k
  · rw [if_pos hi] at h1 h2; exact h.2 i x y h1 h2
  · rw [if_neg hi] at h1; cases h1
theorem ChL.drop {S : SH} {xs : List Cg} {ys : List Ch} (h : ChL S xs ys) (k : Nat) : ChL S (xs.drop k) (ys.drop k) := by
  refine ⟨by rw [List.length_drop, List.length_drop, h.1], fun i x y h1 h2 => ?_⟩
  rw [List.getElem?_drop] at h1 h2
  exact h.2 _ x y h1 h2
theorem ChL.set {S : SH} {xs : List Cg} {ys : List Ch} (h : ChL S xs ys) (k : Nat) {x : Cg} {y : Ch} (hx : cgR S x y) : ChL S (xs.set k x) (ys.set k y) := by
  refine ⟨by rw [List.length_set, List.length_set, h.1], fun i x' y' h1 h2 => ?_⟩
  rw [List.getElem?_set] at h1 h2
  by_cases hi : k = i
  · subst hi
    rw [if_pos rfl] at h1 h2
    split at h1
    · split at h2
      · obtain rfl := Option.some.inj h1
        obtain rfl := Option.some.inj h2
        exact hx
      · cases h2
    · cases h1
  · rw [if_neg hi] at h1 h2
    exact h.2 i x' y' h1 h2
theorem cg_cells {xs : List Cg} {k : Nat} {x : Cg} (h : xs[k]? = some x) (tl : List Value) : (cellsOf xs ++ tl)[k * 2 + 0]? = some (.slice x.path.a x.path.m x.path.c) ∧ (cellsOf xs ++ tl)[k * 2 + 1]? = some (.int .i64 x.by_) := by
  have h0 : (cellsOf xs)[k * 2 + 0]? = some (.slice x.path.a x.path.m x.path.c) := cellsOf_at xs k x h 0 (.slice x.path.a x.path.m x.path.c) rfl
  have h1 : (cellsOf xs)[k * 2 + 1]? = some (.int .i64 x.by_) := cellsOf_at xs k x h 1 (.int .i64 x.by_) rfl
  rw [List.getElem?_append_left (List.getElem?_eq_some_iff.1 h0).1, List.getElem?_append_left (List.getElem?_eq_some_iff.1 h1).1]
  exact ⟨h0, h1⟩
theorem cg_set (tl : List Value) {n : Int} : ∀ {xs : List Cg} {k : Nat} {x : Cg}, xs[k]? = some x → (cellsOf xs ++ tl).set (k * 2 + 1) (.int .i64 n) = cellsOf (xs.set k ⟨x.path, n⟩) ++ tl
  | a :: xs, 0, x, h => by
    obtain rfl : a = x := by simpa using h
    rfl
  | a :: xs, k + 1, x, h => by
    have h2 : xs[k]? = some x := by simpa using h
    have e : (k + 1) * 2 + 1 = (k * 2 + 1) + 1 + 1 := by omega
    rw [List.set_cons_succ, cellsOf_cons, cellsOf_cons, e]
    have e2 : (Cl.cells a ++ cellsOf xs ++ tl) = .slice a.path.a a.path.m a.path.c :: .int .i64 a.by_ :: (cellsOf xs ++ tl) := rfl
    rw [e2, List.set_cons_succ, List.set_cons_succ, cg_set tl h2]
    rfl
  | [], k, x, h => by simp at h
set_option maxRecDepth 10000
set_option linter.unusedVariables false
attribute [local irreducible] Code.wpIn wpListIn Exit.then Exit.inBlock X.Out X.Back X.W X.Ev X.Con X.BinV X.Wh X.Wn X.Wq
set_option maxHeartbeats 6400000 in
theorem radd_con (xs : List Cg) (ys : List Ch) (v : Value) (ob : Blocks) (q : List Bs) (A : Option Addr) (c : Nat) (n : Int) (S : SH) (ho : Ows 94 v xs ob) (hy : ChL S xs ys) (hl : xs.length ≤ 1000000) (hpl : ∀ y ∈ ys, y.1.length ≤ 1000000) (hq : q.length ≤ 1000000) (hA : At S A (toS q)) (hc : (toS q).length ≤ c)
    (hn : -1000000000000000000 ≤ n ∧ n ≤ 1000000000000000000) (hw : ∀ y ∈ ys, -1000000000000000000 ≤ y.2 ∧ y.2 ≤ 1000000000000000000) :
    Con Tryz.prog 23 #[v, .slice A (toS q).length c, .int .i64 n] S ob (fun S' L' r => Le S S' ∧ ∃ xs', Ows 94 r xs' L' ∧ ChL S' xs' (addF ys q n)) := by
  obtain ⟨Av, cv, hv⟩ := ho.form
  subst hv
  refine con_of (args := [.slice Av xs.length cv, .slice A (toS q).length c, .int .i64 n]) Tryz.func23 rfl Tryz.ntmps23 rfl fun w => ?_
  have tlq := toS_len q
  have hxy := hy.1
  (repeat (first | refine Jz ?_ | intro _))
  refine c_loop (fun m S' L F => S = S' ∧ L = ob ∧ ∃ (k : Nat), m = xs.length - k ∧ k ≤ xs.length ∧ (∀ y ∈ ys.take k, cmpP y.1 q < 0) ∧ F = [(0, .slice Av xs.length cv), (1, .slice A (toS q).length c), (2, .int .i64 n), (7, .int .i64 k)]) ⟨rfl, rfl, 0, rfl, by omega, (by simp), rfl⟩ sbF (List.Sublist.refl _) ?_
  rintro m S1 L F ⟨rfl, rfl, k, rfl, hk, hi, rfl⟩
  have hnew : ∀ (h2 : ∀ y, ys[k]? = some y → 0 < cmpP y.1 q), addF ys q n = (ys.take k ++ [(q, n)]) ++ ys.drop k := fun h2 => by rw [addF_new hi h2, List.append_assoc]; rfl
  have fin : ∀ {S2 : SH} {A2 : Option Addr}, Le S S2 → (∀ y, ys[k]? = some y → 0 < cmpP y.1 q) → ChL S2 ((xs.take k ++ [Cg.mk ⟨A, (toS q).length, c⟩ n]) ++ xs.drop k) (addF ys q n) := fun hle h2 => by
    rw [hnew h2]
    have h3 := hy.le hle
    exact ((h3.take k).app (ChL.cons ⟨rfl, rfl, hc, hA.le hle⟩ (ChL.nil _))).app (h3.drop k)
  by_cases hlt : k < xs.length
  rotate_left
  · have h2 : ∀ y, ys[k]? = some y → 0 < cmpP y.1 q := fun y hy' => by have := (List.getElem?_eq_some_iff.1 hy').1; omega
    refine W.freezeOws (L1 := []) ho (by simp) fun S2 hle2 hs2 => ?_
    obtain ⟨A2, c2, e2, hc2, hA2⟩ := hs2
    injection e2 with e3 e4 e5
    subst e3; subst e5
    have t1 : (xs.take k).length ≤ 1000000 := by rw [List.length_take]; omega
    have t2 : (xs.drop k).length ≤ 1000000 := by rw [List.length_drop]; omega
    (repeat (first | refine Jc ?_ | (apply s_slice_hi hA2; (case hg => rfl); (case hd => rfl); (case hx => rfl); (case hy => rfl); (case hm => rfl); (case hmc => omega); (case hj => omega); intro A3 hA3) | (apply s_append_st (ms := (xs.take k)) hA3; (case hg => rfl); (case hd => rfl); (case hx => rfl); (case ho => exact Ows.full (α := Cg) (l := []) rfl (by decide)); (case hL => (repeat (first | exact pm_nil _ | exact pm_refl _ _ | exact pm_self _ | apply pm_cons | apply pm_app))); (case hy => rfl); (case hm => first | rfl | simp); (case hzs => rfl); (case h0 => decide); (case hb => first | (simp; omega) | simp); (case h63 => first | (simp; omega) | simp); intro v7 ob7 ho7) | (apply s_evb; (case hg => rfl); (case hd => rfl); (case hn => rfl); (case he => (apply ev_buildS; (case hp => rfl); (case hz => rfl); (case h1 => rfl); (case hr => rfl)))) | (apply s_append (ms := [Cg.mk ⟨A, (toS q).length, c⟩ n]); (case hg => rfl); (case hd => rfl); (case hx => rfl); (case ho => exact ho7); (case hL => (repeat (first | exact pm_nil _ | exact pm_refl _ _ | exact pm_self _ | apply pm_cons | apply pm_app))); (case hy => rfl); (case hm => rfl); (case hs => (apply Src.own; (repeat (first | exact List.Mem.head _ | apply List.Mem.tail | apply List.mem_append_right)))); (case hzs => rfl); (case h0 => decide); (case hb => (simp; omega)); (case h63 => (simp; omega)); intro v8 ob8 ho8) | (apply s_slice_lo hA2; (case hg => rfl); (case hd => rfl); (case hx => rfl); (case hy => rfl); (case hm => rfl); (case hmc => omega); (case hj => omega); intro A4 hA4) | (apply s_append_st (ms := (xs.drop k)) hA4; (case hg => rfl); (case hd => rfl); (case hx => rfl); (case ho => exact ho8); (case hL => (repeat (first | exact pm_nil _ | exact pm_refl _ _ | exact pm_self _ | apply pm_cons | apply pm_app))); (case hy => rfl); (case hm => first | rfl | simp); (case hzs => rfl); (case h0 => decide); (case hb => first | (simp; omega) | simp); (case h63 => first | (simp; omega) | simp); intro v9 ob9 ho9) | refine Jo ?_ | intro _))
    exact o_ret (L' := ob9) Tryz.results23 rfl sbL ⟨hle2, _, ho9, fin (A2 := none) hle2 h2⟩
  obtain ⟨x, hx⟩ := at_lt hlt
  obtain ⟨y, hyk⟩ : ∃ y, ys[k]? = some y := at_lt (by omega)
  have hym := List.mem_of_getElem? hyk
  have hpy := hpl y hym
  have hwy := hw y hym
  obtain ⟨r0, r1, r2, r3⟩ := hy.2 k x y hx hyk
  obtain ⟨⟨xa, xm, xc⟩, xb⟩ := x
  obtain ⟨p, m⟩ := y
  simp only at r0 r1 r2 r3 hpy hwy
  subst r0; subst r1
  have tlp := toS_len p
  obtain ⟨z, hz⟩ : ∃ z, cmpP p q = z := ⟨_, rfl⟩
  have hcc := fun S hA hB => rCompare_con p q xa A xc c S hA hB hpy hq
  rw [hz] at hcc
  have hsk : ∀ (h : z < 0), ∀ y ∈ ys.take (k + 1), cmpP y.1 q < 0 := fun h y' hy' => by
    rw [take_at hyk] at hy'
    rcases List.mem_append.1 hy' with h2 | h2
    · exact hi y' h2
    · rw [List.mem_singleton.1 h2]; simp only; omega
  by_cases hz0 : 0 < z
  · have h2 : ∀ y, ys[k]? = some y → 0 < cmpP y.1 q := fun y hy' => by rw [hyk] at hy'; obtain rfl := Option.some.inj hy'; simp only; omega
    refine W.freezeOws (L1 := []) ho (by simp) fun S2 hle2 hs2 => ?_
    obtain ⟨A2, c2, e2, hc2, hA2⟩ := hs2
    injection e2 with e3 e4 e5
    subst e3; subst e5
    have t1 : (xs.take k).length ≤ 1000000 := by rw [List.length_take]; omega
    have t2 : (xs.drop k).length ≤ 1000000 := by rw [List.length_drop]; omega
    have r32 := r3.le hle2
    have hAq := hA.le hle2
    (repeat (first | refine Jc ?_ | (apply s_idx hA2; (case hg => rfl); (case hd => rfl); (case hx => rfl); (case hi => rfl); (case hm => rfl); (case hu => exact hx); intro u (hu : Pts _ u [.slice xa (toS p).length xc, .int .i64 xb])) | (apply s_load_f; (case hg => rfl); (case hd => rfl); (case hx => rfl); (case h => exact hu); (case hv => rfl)) | (apply s_call; (case hg => rfl); (case hd => rfl); (case ha => rfl); (case hc => exact hcc _ r32 hAq); (case hL => (repeat (first | exact pm_nil _ | exact pm_refl _ _ | exact pm_self _ | apply pm_cons | apply pm_app))); rintro _ _ _ - ⟨rfl, rfl, rfl⟩) | (apply s_slice_hi hA2; (case hg => rfl); (case hd => rfl); (case hx => rfl); (case hy => rfl); (case hm => rfl); (case hmc => omega); (case hj => omega); intro A3 hA3) | (apply s_append_st (ms := (xs.take k)) hA3; (case hg => rfl); (case hd => rfl); (case hx => rfl); (case ho => exact Ows.full (α := Cg) (l := []) rfl (by decide)); (case hL => (repeat (first | exact pm_nil _ | exact pm_refl _ _ | exact pm_self _ | apply pm_cons | apply pm_app))); (case hy => rfl); (case hm => first | rfl | simp); (case hzs => rfl); (case h0 => decide); (case hb => first | (simp; omega) | simp); (case h63 => first | (simp; omega) | simp); intro v7 ob7 ho7) | (apply s_evb; (case hg => rfl); (case hd => rfl); (case hn => rfl); (case he => (apply ev_buildS; (case hp => rfl); (case hz => rfl); (case h1 => rfl); (case hr => rfl)))) | (apply s_append (ms := [Cg.mk ⟨A, (toS q).length, c⟩ n]); (case hg => rfl); (case hd => rfl); (case hx => rfl); (case ho => exact ho7); (case hL => (repeat (first | exact pm_nil _ | exact pm_refl _ _ | exact pm_self _ | apply pm_cons | apply pm_app))); (case hy => rfl); (case hm => rfl); (case hs => (apply Src.own; (repeat (first | exact List.Mem.head _ | apply List.Mem.tail | apply List.mem_append_right)))); (case hzs => rfl); (case h0 => decide); (case hb => (simp; omega)); (case h63 => (simp; omega)); intro v8 ob8 ho8) | (apply s_slice_lo hA2; (case hg => rfl); (case hd => rfl); (case hx => rfl); (case hy => rfl); (case hm => rfl); (case hmc => omega); (case hj => omega); intro A4 hA4) | (apply s_append_st (ms := (xs.drop k)) hA4; (case hg => rfl); (case hd => rfl); (case hx => rfl); (case ho => exact ho8); (case hL => (repeat (first | exact pm_nil _ | exact pm_refl _ _ | exact pm_self _ | apply pm_cons | apply pm_app))); (case hy => rfl); (case hm => first | rfl | simp); (case hzs => rfl); (case h0 => decide); (case hb => first | (simp; omega) | simp); (case h63 => first | (simp; omega) | simp); intro v9 ob9 ho9) | refine Jo ?_ | intro _))
    exact o_ret (L' := ob9) Tryz.results23 rfl sbL ⟨hle2, _, ho9, fin (A2 := none) hle2 h2⟩
  obtain ⟨g, cap, tl, e1, rfl, u1, u2, u3⟩ := ho.rowed (by omega)
  injection e1 with e3 e4 e5
  subst e3; subst e5
  obtain ⟨hcl0, hcl1⟩ := cg_cells hx tl
  simp only at hcl0 hcl1
  by_cases hzn : z < 0
  · (repeat (first | refine Jc ?_ | (apply s_evb; (case hg => rfl); (case hd => rfl); (case hn => rfl); (case he => ((apply ev_idxo (j := k); (case hx => rfl); (case hi => rfl); (case hk => omega))))) | (apply s_evb; (case hg => rfl); (case hd => rfl); (case hn => rfl); (case he => ((apply ev_load_own; (case hx => rfl); (case hm => (repeat (first | exact List.Mem.head _ | apply List.Mem.tail | apply List.mem_append_right))); (case h => exact hcl0))))) | (apply s_call; (case hg => rfl); (case hd => rfl); (case ha => rfl); (case hc => exact hcc _ r3 hA); (case hL => (repeat (first | exact pm_nil _ | exact pm_refl _ _ | exact pm_self _ | apply pm_cons | apply pm_app))); rintro _ _ _ - ⟨rfl, rfl, rfl⟩) | refine Jo ?_ | intro _))
    exact q_back (L' := [(g, .cells (cellsOf xs ++ tl).toArray 94 (0, 0))]) (m' := xs.length - (k + 1)) ⟨rfl, rfl, k + 1, rfl, by omega, hsk hzn, rfl⟩ (by omega) sbF sbL
  · obtain rfl : z = 0 := by omega
    have hset := cg_set (n := xb + n) tl hx
    (repeat (first | refine Jc ?_ | (apply s_evb; (case hg => rfl); (case hd => rfl); (case hn => rfl); (case he => ((apply ev_idxo (j := k); (case hx => rfl); (case hi => rfl); (case hk => omega))))) | (apply s_evb; (case hg => rfl); (case hd => rfl); (case hn => rfl); (case he => ((apply ev_load_own; (case hx => rfl); (case hm => (repeat (first | exact List.Mem.head _ | apply List.Mem.tail | apply List.mem_append_right))); (case h => exact hcl0))))) | (apply s_call; (case hg => rfl); (case hd => rfl); (case ha => rfl); (case hc => exact hcc _ r3 hA); (case hL => (repeat (first | exact pm_nil _ | exact pm_refl _ _ | exact pm_self _ | apply pm_cons | apply pm_app))); rintro _ _ _ - ⟨rfl, rfl, rfl⟩) | (apply s_evb; (case hg => rfl); (case hd => rfl); (case hn => rfl); (case he => ((apply ev_load_own; (case hx => rfl); (case hm => (repeat (first | exact List.Mem.head _ | apply List.Mem.tail | apply List.mem_append_right))); (case h => exact hcl1))))) | (apply s_store; (case hg => rfl); (case hx => rfl); (case hy => rfl); (case h1 => rfl); (case hL => (repeat (first | exact Upd.head | apply Upd.tail | apply Upd.app))); (case hu => exact hcl1)) | refine Jo ?_ | intro _))
    have ex : (cellsOf (xs.set k ⟨⟨xa, (toS p).length, xc⟩, xb + n⟩) ++ tl).length = cv * Cl.size Cg := by rw [← hset, List.length_set]; exact u3
    rw [hset]
    exact o_ret (L' := [(g, .cells (cellsOf (xs.set k ⟨⟨xa, (toS p).length, xc⟩, xb + n⟩) ++ tl).toArray 94 (0, 0))]) Tryz.results23 rfl sbL ⟨Le.refl _, _, Ows.of_row (by rw [List.length_set]) u1 u2 ex, by rw [addF_hit hi hyk hz]; exact hy.set k ⟨rfl, rfl, r2, r3⟩⟩
end Go.Proofs.YtcnfchchanlepaaGreat
namespace Go.Proofs.YtcnfchchanlepaaGreat
open Go Go.X
set_option linter.unusedVariables false
theorem cmpP_neg {p q : List Bs} : cmpP p q < 0 ↔ p < q := by
  rw [cmpP_lt]
  rcases plt_tri p q with h | h | h
  · simp [h]
  · subst h; simp [plt_irr]
  · simp [h, plt_asymm h]
/-- What is laid at a path. -/
def valF (ys : List Ch) (p : List Bs) : Int := (ys.map fun y => if y.1 = p then y.2 else 0).sum
def KS (ys : List Ch) : Prop := ys.Pairwise fun a b => a.1 < b.1
theorem addF_cases (q : List Bs) (n : Int) : ∀ ys : List Ch, (∃ l y r, ys = l ++ y :: r ∧ y.1 = q ∧ (∀ x ∈ l, x.1 < q) ∧ addF ys q n = l ++ (q, y.2 + n) :: r) ∨ (∃ l r, ys = l ++ r ∧ (∀ x ∈ l, x.1 < q) ∧ (∀ y r', r = y :: r' → q < y.1) ∧ addF ys q n = l ++ (q, n) :: r)
  | [] => .inr ⟨[], [], rfl, by simp, by simp, rfl⟩
  | y :: ys => by
    by_cases h1 : cmpP y.1 q < 0
    · have h1' := cmpP_neg.1 h1
      have e : addF (y :: ys) q n = y :: addF ys q n := by rw [addF, if_pos h1]
      rcases addF_cases q n ys with ⟨l, z, r, rfl, h2, h3, h4⟩ | ⟨l, r, rfl, h2, h3, h4⟩
      · exact .inl ⟨y :: l, z, r, rfl, h2, fun x hx => (List.mem_cons.1 hx).elim (fun e => e ▸ h1') (h3 x), by rw [e, h4]; rfl⟩
      · exact .inr ⟨y :: l, r, rfl, fun x hx => (List.mem_cons.1 hx).elim (fun e => e ▸ h1') (h2 x), h3, by rw [e, h4]; rfl⟩
    · by_cases h2 : cmpP y.1 q = 0
      · have h2' := cmpP_eq0.1 h2
        exact .inl ⟨[], y, ys, rfl, h2', by simp, by rw [addF, if_neg h1, if_pos h2, h2']; rfl⟩
      · refine .inr ⟨[], y :: ys, rfl, by simp, fun z r' e => ?_, by rw [addF, if_neg h1, if_neg h2]; rfl⟩
        obtain ⟨rfl, rfl⟩ := List.cons.inj e
        rcases plt_tri y.1 q with h | h | h
        · exact absurd (cmpP_neg.2 h) h1
        · exact absurd (cmpP_eq0.2 h) h2
        · exact h
theorem addF_val (ys : List Ch) (q : List Bs) (n : Int) (p : List Bs) : valF (addF ys q n) p = valF ys p + if q = p then n else 0 := by
  unfold valF
  rcases addF_cases q n ys with ⟨l, y, r, rfl, h2, h3, h4⟩ | ⟨l, r, rfl, h2, h3, h4⟩
  · rw [h4]
    simp only [List.map_append, List.map_cons, List.sum_append, List.sum_cons, h2]
    split <;> omega
  · rw [h4]
    simp only [List.map_append, List.map_cons, List.sum_append, List.sum_cons]
    omega
theorem addF_keys (ys : List Ch) (q : List Bs) (n : Int) (p : List Bs) : p ∈ (addF ys q n).map (·.1) ↔ p = q ∨ p ∈ ys.map (·.1) := by
  rcases addF_cases q n ys with ⟨l, y, r, rfl, h2, h3, h4⟩ | ⟨l, r, rfl, h2, h3, h4⟩
  · rw [h4]
    simp only [List.map_append, List.map_cons, List.mem_append, List.mem_cons, h2]
    constructor
    · rintro (h | h | h)
      · exact .inr (.inl h)
      · exact .inl h
      · exact .inr (.inr (.inr h))
    · rintro (h | h | h | h)
      · exact .inr (.inl h)
      · exact .inl h
      · exact .inr (.inl h)
      · exact .inr (.inr h)
  · rw [h4]
    simp only [List.map_append, List.map_cons, List.mem_append, List.mem_cons]
    constructor
    · rintro (h | h | h)
      · exact .inr (.inl h)
      · exact .inl h
      · exact .inr (.inr h)
    · rintro (h | h | h)
      · exact .inr (.inl h)
      · exact .inl h
      · exact .inr (.inr h)
theorem addF_srt {ys : List Ch} (h : KS ys) (q : List Bs) (n : Int) : KS (addF ys q n) := by
  unfold KS at *
  rcases addF_cases q n ys with ⟨l, y, r, rfl, h2, h3, h4⟩ | ⟨l, r, rfl, h2, h3, h4⟩
  · rw [h4]
    rw [List.pairwise_append, List.pairwise_cons] at h ⊢
    obtain ⟨a, ⟨b, c⟩, d⟩ := h
    refine ⟨a, ⟨fun z hz => by have := b z hz; rw [h2] at this; exact this, c⟩, fun x hx z hz => ?_⟩
    rcases List.mem_cons.1 hz with e | e
    · rw [e]; exact h3 x hx
    · exact d x hx z (List.mem_cons_of_mem _ e)
  · rw [h4]
    rw [List.pairwise_append] at h ⊢
    obtain ⟨a, b, d⟩ := h
    have hq : ∀ z ∈ r, q < z.1 := fun z hz => by
      cases r with
      | nil => cases hz
      | cons y r' =>
        have := h3 y r' rfl
        rcases List.mem_cons.1 hz with e | e
        · rw [e]; exact this
        · exact plt_trans this ((List.pairwise_cons.1 b).1 z e)
    refine ⟨a, List.pairwise_cons.2 ⟨hq, b⟩, fun x hx z hz => ?_⟩
    rcases List.mem_cons.1 hz with e | e
    · rw [e]; exact h2 x hx
    · exact d x hx z e
theorem addF_mem {ys : List Ch} {q : List Bs} {n : Int} {z : Ch} (hz : z ∈ addF ys q n) : z.1 = q ∧ z.2 = n ∨ z ∈ ys ∨ ∃ y ∈ ys, z.1 = q ∧ z.2 = y.2 + n := by
  rcases addF_cases q n ys with ⟨l, y, r, rfl, h2, h3, h4⟩ | ⟨l, r, rfl, h2, h3, h4⟩
  · rw [h4] at hz
    rcases List.mem_append.1 hz with h | h
    · exact .inr (.inl (List.mem_append_left _ h))
    · rcases List.mem_cons.1 h with e | e
      · exact .inr (.inr ⟨y, List.mem_append_right _ List.mem_cons_self, by rw [e], by rw [e]⟩)
      · exact .inr (.inl (List.mem_append_right _ (List.mem_cons_of_mem _ e)))
  · rw [h4] at hz
    rcases List.mem_append.1 hz with h | h
    · exact .inr (.inl (List.mem_append_left _ h))
    · rcases List.mem_cons.1 h with e | e
      · exact .inl (by rw [e]; exact ⟨rfl, rfl⟩)
      · exact .inr (.inl (List.mem_append_right _ e))
theorem addF_len (ys : List Ch) (q : List Bs) (n : Int) : (addF ys q n).length ≤ ys.length + 1 := by
  rcases addF_cases q n ys with ⟨l, y, r, rfl, h2, h3, h4⟩ | ⟨l, r, rfl, h2, h3, h4⟩ <;> rw [h4] <;> simp <;> omega
theorem KS.one {ys : List Ch} (h : KS ys) {z : Ch} (hz : z ∈ ys) : valF ys z.1 = z.2 := by
  have hnd : ys.Nodup := h.imp fun hab e => by subst e; exact plt_irr _ hab
  unfold valF
  rw [sum_oneP (P := fun y : Ch => y.1 = z.1) (f := fun y : Ch => y.2) hnd hz fun c hc => ?_]
  constructor
  · intro e
    by_cases hcz : c = z
    · exact hcz
    · obtain ⟨i, hi, rfl⟩ := List.getElem_of_mem hc
      obtain ⟨j, hj, rfl⟩ := List.getElem_of_mem hz
      rcases Nat.lt_trichotomy i j with h1 | h1 | h1
      · have := List.pairwise_iff_getElem.1 h i j hi hj h1; rw [e] at this; exact absurd this (plt_irr _)
      · subst h1; rfl
      · have := List.pairwise_iff_getElem.1 h j i hj hi h1; rw [e] at this; exact absurd this (plt_irr _)
  · rintro rfl; rfl
/-- The list that Build makes: all paths that begin a path with a weight. -/
def preF (a : List Ch) (q : List Bs) (k : Nat) : List Ch := (List.range k).foldl (fun a j => addF a (q.take j) 0) a
def oneF (a : List Ch) (y : Ch) : List Ch := if 0 < y.2 then addF (preF a y.1 (y.1.length + 1)) y.1 y.2 else a
def allF (ys : List Ch) : List Ch := ys.foldl oneF [([], 0)]
theorem preF_succ (a : List Ch) (q : List Bs) (k : Nat) : preF a q (k + 1) = addF (preF a q k) (q.take k) 0 := by unfold preF; rw [List.range_succ, List.foldl_append]; rfl
theorem allF_snoc (ys : List Ch) (y : Ch) : allF (ys ++ [y]) = oneF (allF ys) y := by unfold allF; rw [List.foldl_append]; rfl
theorem preF_srt {a : List Ch} (h : KS a) (q : List Bs) : ∀ k, KS (preF a q k)
  | 0 => h
  | k + 1 => by rw [preF_succ]; exact addF_srt (preF_srt h q k) _ _
theorem preF_val (a : List Ch) (q p : List Bs) : ∀ k, valF (preF a q k) p = valF a p
  | 0 => rfl
  | k + 1 => by rw [preF_succ, addF_val, preF_val a q p k]; split <;> omega
theorem preF_keys (a : List Ch) (q p : List Bs) : ∀ k, p ∈ (preF a q k).map (·.1) ↔ (∃ j < k, p = q.take j) ∨ p ∈ a.map (·.1)
  | 0 => ⟨.inr, fun h => h.elim (fun ⟨j, hj, _⟩ => absurd hj (by omega)) id⟩
  | k + 1 => by
    rw [preF_succ, addF_keys, preF_keys a q p k]
    constructor
    · rintro (h | ⟨j, hj, h⟩ | h)
      · exact .inl ⟨k, by omega, h⟩
      · exact .inl ⟨j, by omega, h⟩
      · exact .inr h
    · rintro (⟨j, hj, h⟩ | h)
      · by_cases hjk : j = k
        · subst hjk; exact .inl h
        · exact .inr (.inl ⟨j, by omega, h⟩)
      · exact .inr (.inr h)
theorem preF_len (a : List Ch) (q : List Bs) : ∀ k, (preF a q k).length ≤ a.length + k
  | 0 => Nat.le_refl _
  | k + 1 => by rw [preF_succ]; have := addF_len (preF a q k) (q.take k) 0; have := preF_len a q k; omega
theorem preF_bd {a : List Ch} {q : List Bs} {B : Int} {N : Nat} (hB : 0 ≤ B) (hq : q.length ≤ N) (h : ∀ z ∈ a, 0 ≤ z.2 ∧ z.2 ≤ B ∧ z.1.length ≤ N) : ∀ k, ∀ z ∈ preF a q k, 0 ≤ z.2 ∧ z.2 ≤ B ∧ z.1.length ≤ N
  | 0 => h
  | k + 1 => fun z hz => by
    rw [preF_succ] at hz
    have ih := preF_bd hB hq h k
    have hl : (q.take k).length ≤ N := by rw [List.length_take]; omega
    rcases addF_mem hz with ⟨e1, e2⟩ | e | ⟨y, hy, e1, e2⟩
    · rw [e1, e2]; exact ⟨by omega, hB, hl⟩
    · exact ih z e
    · rw [e1, e2]; have := ih y hy; exact ⟨by omega, by omega, hl⟩
theorem oneF_bd {a : List Ch} {y : Ch} {B : Int} {N : Nat} (hB : 0 ≤ B) (hy0 : 0 ≤ y.2) (hq : y.1.length ≤ N) (h : ∀ z ∈ a, 0 ≤ z.2 ∧ z.2 ≤ B ∧ z.1.length ≤ N) : ∀ z ∈ oneF a y, 0 ≤ z.2 ∧ z.2 ≤ B + y.2 ∧ z.1.length ≤ N := fun z hz => by
  unfold oneF at hz
  split at hz
  · have ih := preF_bd hB hq h (y.1.length + 1)
    rcases addF_mem hz with ⟨e1, e2⟩ | e | ⟨x, hx, e1, e2⟩
    · rw [e1, e2]; exact ⟨hy0, by omega, hq⟩
    · have := ih z e; exact ⟨by omega, by omega, by omega⟩
    · rw [e1, e2]; have := ih x hx; exact ⟨by omega, by omega, hq⟩
  · have := h z hz; exact ⟨by omega, by omega, by omega⟩
theorem snoc_ind {α : Type} {P : List α → Prop} (h0 : P []) (h1 : ∀ l y, P l → P (l ++ [y])) : ∀ l, P l := fun l => by
  rw [← List.reverse_reverse l]
  induction l.reverse with
  | nil => exact h0
  | cons y r ih => rw [List.reverse_cons]; exact h1 _ _ ih
theorem all_snoc {α : Type} {P : α → Prop} {l : List α} {y : α} (h : ∀ x ∈ l ++ [y], P x) : (∀ x ∈ l, P x) ∧ P y := ⟨fun x hx => h x (List.mem_append_left _ hx), h y (List.mem_append_right _ List.mem_cons_self)⟩
theorem allF_bd {B : Int} (hB : 0 ≤ B) : ∀ (ys : List Ch), (∀ y ∈ ys, 0 ≤ y.2 ∧ y.2 ≤ B ∧ y.1.length ≤ 12) → (allF ys).length ≤ 1 + 14 * ys.length ∧ ∀ z ∈ allF ys, 0 ≤ z.2 ∧ z.2 ≤ B * ys.length ∧ z.1.length ≤ 12 := by
  refine snoc_ind (fun _ => ⟨by simp [allF], fun z hz => by simp [allF] at hz; subst hz; simp⟩) fun ys y ih h => ?_
  obtain ⟨ha, h1, h2, h3⟩ := all_snoc h
  obtain ⟨i1, i2⟩ := ih ha
  have hnn : 0 ≤ B * (ys.length : Int) := Int.mul_nonneg hB (by omega)
  rw [allF_snoc, List.length_append, List.length_singleton]
  constructor
  · unfold oneF
    split
    · have := addF_len (preF (allF ys) y.1 (y.1.length + 1)) y.1 y.2
      have := preF_len (allF ys) y.1 (y.1.length + 1)
      omega
    · omega
  · intro z hz
    obtain ⟨a, b, c⟩ := oneF_bd hnn h1 h3 i2 z hz
    have e : B * ((ys.length + 1 : Nat) : Int) = B * (ys.length : Int) + B := by rw [Int.natCast_add, Int.mul_add]; simp
    exact ⟨a, by omega, c⟩
theorem oneF_srt {a : List Ch} (h : KS a) (y : Ch) : KS (oneF a y) := by
  unfold oneF
  split
  · exact addF_srt (preF_srt h _ _) _ _
  · exact h
theorem allF_srt : ∀ ys, KS (allF ys) := snoc_ind (List.pairwise_singleton _ _) fun ys y ih => by rw [allF_snoc]; exact oneF_srt ih y
theorem valF_snoc (ys : List Ch) (y : Ch) (p : List Bs) : valF (ys ++ [y]) p = valF ys p + if y.1 = p then y.2 else 0 := by unfold valF; simp
theorem allF_val (p : List Bs) : ∀ ys : List Ch, (∀ y ∈ ys, 0 ≤ y.2) → valF (allF ys) p = valF ys p := by
  refine snoc_ind (fun _ => by simp [allF, valF]) fun ys y ih h => ?_
  obtain ⟨ha, h1⟩ := all_snoc h
  rw [allF_snoc, valF_snoc]
  unfold oneF
  by_cases h0 : 0 < y.2
  · rw [if_pos h0, addF_val, preF_val, ih ha]
  · rw [if_neg h0, ih ha]; split <;> omega
theorem allF_keys (p : List Bs) : ∀ ys : List Ch, p ∈ (allF ys).map (·.1) ↔ p = [] ∨ ∃ y ∈ ys, 0 < y.2 ∧ p <+: y.1 := by
  refine snoc_ind (by simp [allF]) fun ys y ih => ?_
  rw [allF_snoc]
  unfold oneF
  by_cases h0 : 0 < y.2
  · rw [if_pos h0, addF_keys, preF_keys, ih]
    constructor
    · rintro (h | ⟨j, hj, h⟩ | h | ⟨z, hz, h⟩)
      · exact .inr ⟨y, by simp, h0, by rw [h]; exact List.prefix_refl _⟩
      · exact .inr ⟨y, by simp, h0, by rw [h]; exact List.take_prefix _ _⟩
      · exact .inl h
      · exact .inr ⟨z, by simp [hz], h⟩
    · rintro (h | ⟨z, hz, h1, h2⟩)
      · exact .inr (.inr (.inl h))
      · rcases List.mem_append.1 hz with h3 | h3
        · exact .inr (.inr (.inr ⟨z, h3, h1, h2⟩))
        · rw [List.mem_singleton.1 h3] at h2
          exact .inr (.inl ⟨p.length, by have := h2.length_le; omega, List.prefix_iff_eq_take.1 h2⟩)
  · rw [if_neg h0, ih]
    constructor
    · rintro (h | ⟨z, hz, h⟩)
      · exact .inl h
      · exact .inr ⟨z, by simp [hz], h⟩
    · rintro (h | ⟨z, hz, h1, h2⟩)
      · exact .inl h
      · rcases List.mem_append.1 hz with h3 | h3
        · exact .inr ⟨z, h3, h1, h2⟩
        · rw [List.mem_singleton.1 h3] at h1; exact absurd h1 h0
theorem valF_pos {ys : List Ch} (h : ∀ y ∈ ys, 0 ≤ y.2) {y : Ch} (hy : y ∈ ys) : y.2 ≤ valF ys y.1 := by
  have h2 := sum_memP (f := fun x : Ch => if x.1 = y.1 then x.2 else 0) (c0 := y) (L := ys) (fun c hc => by
    show 0 ≤ if c.1 = y.1 then c.2 else 0
    split
    · exact h c hc
    · exact Int.le_refl _) hy
  simp only [if_pos] at h2
  exact h2
theorem valF_ex {ys : List Ch} {p : List Bs} (h : 0 < valF ys p) : ∃ y ∈ ys, y.1 = p ∧ 0 < y.2 := by
  by_cases hh : ∃ y ∈ ys, y.1 = p ∧ 0 < y.2
  · exact hh
  · have : valF ys p ≤ 0 := by
      unfold valF
      have h3 : ∀ l : List Ch, (∀ y ∈ l, y ∈ ys) → (l.map fun y => if y.1 = p then y.2 else 0).sum ≤ 0 := by
        intro l
        induction l with
        | nil => intro _; simp
        | cons a l ih =>
          intro hl
          have h4 := ih fun y hy => hl y (List.mem_cons_of_mem _ hy)
          rw [List.map_cons, List.sum_cons]
          split
          · rename_i e
            have : ¬ 0 < a.2 := fun h5 => hh ⟨a, hl a List.mem_cons_self, e, h5⟩
            omega
          · omega
      exact h3 ys fun _ h => h
    omega
theorem allF_can {ys : List Ch} (h0 : ∀ y ∈ ys, 0 ≤ y.2) (hv : ∀ y ∈ ys, VQ y.1) : Can (valF ys) ((allF ys).map (·.1)) := by
  refine ⟨List.pairwise_map.2 (allF_srt ys), fun p => ?_⟩
  rw [allF_keys]
  constructor
  · rintro (h | ⟨y, hy, h1, h2⟩)
    · exact .inl h
    · exact .inr ⟨y.1, hv y hy, by have := valF_pos h0 hy; omega, h2⟩
  · rintro (h | ⟨p', hp, h1, h2⟩)
    · exact .inl h
    · obtain ⟨y, hy, rfl, h3⟩ := valF_ex h1
      exact .inr ⟨y, hy, h3, h2⟩
theorem allF_eq {ys : List Ch} (h0 : ∀ y ∈ ys, 0 ≤ y.2) {z : Ch} (hz : z ∈ allF ys) : z.2 = valF ys z.1 := by rw [← allF_val z.1 ys h0, (allF_srt ys).one hz]
/-- Paths in order: those that begin with a path lie side by side. -/
theorem pre_le {p z : List Bs} (h : p <+: z) : ¬ z < p := by
  obtain ⟨t, rfl⟩ := h
  cases t with
  | nil => rw [List.append_nil]; exact plt_irr _
  | cons k t => exact plt_asymm (lt_app p k t)
theorem pre_mid : ∀ {p x z : List Bs}, p <+: z → p < x → x < z → p <+: x
  | [], x, z, _, _, _ => List.nil_prefix
  | a :: p, x, z, h, h1, h2 => by
    cases x with
    | nil => exact absurd h1 (List.not_lt_nil _)
    | cons b x =>
      cases z with
      | nil => exact absurd h2 (List.not_lt_nil _)
      | cons c z =>
        obtain ⟨rfl, h3⟩ := List.cons_prefix_cons.1 h
        rcases plt_cons.1 h1 with h4 | ⟨h4, h5⟩
        · rcases plt_cons.1 h2 with h6 | ⟨h6, _⟩
          · exact absurd h6 (List.lt_asymm h4)
          · subst h6; exact absurd h4 (List.lt_irrefl _)
        · subst h4
          rcases plt_cons.1 h2 with h6 | ⟨_, h6⟩
          · exact absurd h6 (List.lt_irrefl _)
          · exact List.cons_prefix_cons.2 ⟨rfl, pre_mid h3 h5 h6⟩
theorem tot_rest {w : List Bs → Int} {M : List (List Bs)} (hM : M.Pairwise (· < ·)) {i k : Nat} {p : List Bs} (hi : M[i]? = some p) (hk : i ≤ k) (hx : ∀ x, M[k]? = some x → ¬ p <+: x) : totL w (M.drop k) p = 0 :=
  totL_none fun z hz hpz => by
    obtain ⟨j, hj⟩ := List.mem_iff_getElem?.1 hz
    rw [List.getElem?_drop] at hj
    by_cases hj0 : j = 0
    · subst hj0; exact hx z hj hpz
    · obtain ⟨x, hxk⟩ : ∃ x, M[k]? = some x := at_lt (by have := (List.getElem?_eq_some_iff.1 hj).1; omega)
      have h1 := srt_lt hM hxk hj (by omega)
      by_cases hik : i = k
      · subst hik
        rw [hi] at hxk
        obtain rfl := Option.some.inj hxk
        exact hx p hi (List.prefix_refl _)
      · exact hx x hxk (pre_mid hpz (srt_lt hM hi hxk (by omega)) h1)
theorem tot_start {w : List Bs → Int} {M : List (List Bs)} (hM : M.Pairwise (· < ·)) {i : Nat} {p : List Bs} (hi : M[i]? = some p) : totL w (M.drop i) p = totL w M p := by
  have h0 : totL w (M.take i) p = 0 := totL_none fun z hz hpz => by
    obtain ⟨j, hj⟩ := List.mem_iff_getElem?.1 hz
    rw [List.getElem?_take] at hj
    split at hj
    · exact pre_le hpz (srt_lt hM hj hi (by omega))
    · cases hj
  have e := totL_app w (M.take i) (M.drop i) p
  rw [List.take_append_drop, h0, Int.zero_add] at e
  exact e.symm
end Go.Proofs.YtcnfchchanlepaaGreat
