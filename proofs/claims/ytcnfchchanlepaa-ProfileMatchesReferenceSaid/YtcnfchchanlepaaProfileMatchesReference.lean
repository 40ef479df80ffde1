/- ProfileMatchesReference returns true for every input, and each argument reads afterwards as it read before; no condition. -/
import Derived.Test.YtcnfchchanlepaaBc
import Derived.Test.YtcnfchchanlepaaBb
import Derived.Test.YtcnfchchanlepaaBd
import Derived.Test.YtcnfchchanlepaaXA
namespace Go.Proofs.Ytcnfchchanlepaa
open Go Go.X
set_option linter.unusedVariables false
set_option maxRecDepth 10000
set_option linter.unusedVariables false
attribute [local irreducible] Code.wpIn wpListIn Exit.then Exit.inBlock X.Out X.Back X.W X.Ev X.Con X.BinV X.Wh X.Wn X.Wq
theorem rin_con (n a b : Int) (S : SH) : Con Try.prog 62 #[.int .i64 n, .int .i64 a, .int .i64 b] S [] (X.Pure S (.bool (inB n a b))) := by
  refine con_of (args := [.int .i64 n, .int .i64 a, .int .i64 b]) Try.func62 rfl Try.ntmps62 rfl fun w => ?_
  unfold inB
  by_cases h1 : a ≤ n
  · by_cases h2 : n ≤ b
    · rw [decide_eq_true ⟨h1, h2⟩]
      (repeat (first | refine Jz ?_ | intro _))
      exact o_ret Try.results62 rfl (List.nil_sublist _) ⟨rfl, rfl, rfl⟩
    · rw [decide_eq_false fun h => h2 h.2]
      (repeat (first | refine Jz ?_ | intro _))
      exact o_ret Try.results62 rfl (List.nil_sublist _) ⟨rfl, rfl, rfl⟩
  · rw [decide_eq_false fun h => h1 h.1]
    (repeat (first | refine Jz ?_ | intro _))
    exact o_ret Try.results62 rfl (List.nil_sublist _) ⟨rfl, rfl, rfl⟩
theorem rin_t (n a b : Int) (S : SH) (r : Bool) (h : inB n a b = r) : Con Try.prog 62 #[.int .i64 n, .int .i64 a, .int .i64 b] S [] (X.Pure S (.bool r)) := h ▸ rin_con n a b S
set_option maxHeartbeats 1600000 in
theorem rfunction_con (s : Bs) (S : SH) : Con Try.prog 63 #[strV s] S [] (X.Pure S (.bool (nameB s))) := by
  refine con_of (args := [strV s]) Try.func63 rfl Try.ntmps63 rfl fun w => ?_
  unfold nameB
  by_cases h1 : 1 ≤ s.length
  rotate_left
  · rw [decide_eq_false (fun h => h1 h.1)]
    (repeat (first | refine Jc ?_ | (apply s_evb; (case hg => rfl); (case hd => rfl); (case hn => rfl); (case he => (apply ev_len_b; rfl))) | refine Jo ?_ | intro _))
    exact o_ret Try.results63 rfl (List.nil_sublist _) ⟨rfl, rfl, rfl⟩
  by_cases h2 : s.length ≤ 16
  rotate_left
  · rw [decide_eq_false (fun h => h2 h.2)]
    (repeat (first | refine Jc ?_ | (apply s_evb; (case hg => rfl); (case hd => rfl); (case hn => rfl); (case he => (apply ev_len_b; rfl))) | refine Jo ?_ | intro _))
    exact o_ret Try.results63 rfl (List.nil_sublist _) ⟨rfl, rfl, rfl⟩
  rw [decide_eq_true ⟨h1, h2⟩]
  (repeat (first | refine Jc ?_ | (apply s_evb; (case hg => rfl); (case hd => rfl); (case hn => rfl); (case he => (apply ev_len_b; rfl))) | refine Jo ?_ | intro _))
  refine c_loop (fun m S' L F => S' = S ∧ L = [] ∧ ∃ (k : Nat), m = s.length - k ∧ k ≤ s.length ∧ (s.take k).any isOther = false ∧ F = [(0, strV s), (3, .int .i64 k)]) ⟨rfl, rfl, 0, rfl, by omega, rfl, rfl⟩ sbF (List.nil_sublist _) ?_
  rintro m S' L F ⟨rfl, rfl, k, rfl, hk, hi, rfl⟩
  by_cases hlt : k < s.length
  rotate_left
  · rw [List.take_of_length_le (by omega)] at hi
    rw [hi]
    (repeat (first | refine Jc ?_ | (apply s_evb; (case hg => rfl); (case hd => rfl); (case hn => rfl); (case he => (apply ev_len_b; rfl))) | refine Jo ?_ | intro _))
    exact o_ret Try.results63 rfl (List.nil_sublist _) ⟨rfl, rfl, rfl⟩
  obtain ⟨c, hc⟩ := at_lt hlt
  have hs : (s.take (k + 1)).any isOther = isOther c := by rw [take_at hc, List.any_append, hi]; simp
  have hall : isOther c = true → s.any isOther = true := fun h => List.any_eq_true.2 ⟨c, List.mem_of_getElem? hc, h⟩
  cases hot : isOther c
  · rw [hot] at hs
    clear hall
    by_cases h3 : c.toNat < 97 <;> by_cases h4 : 122 < c.toNat <;> by_cases h5 : c.toNat < 48 <;> by_cases h6 : 57 < c.toNat
    all_goals first | (exfalso; revert hot; simp [isOther, h3, h4, h5, h6]; done) | (exfalso; omega) | ((repeat (first | refine Jc ?_ | (apply s_evb; (case hg => rfl); (case hd => rfl); (case hn => rfl); (case he => (apply ev_len_b; rfl))) | (apply s_evb; (case hg => rfl); (case hd => rfl); (case hn => rfl); (case he => ((apply ev_index_b (k := k); (case hx => rfl); (case hi => rfl); (case hu => exact hc))))) | refine Jo ?_ | intro _)); exact q_back (L' := []) (m' := s.length - (k + 1)) ⟨rfl, rfl, k + 1, rfl, by omega, hs, rfl⟩ (by omega) sbF (List.nil_sublist _))
  · rw [hall hot]
    by_cases h3 : c.toNat < 97 <;> by_cases h4 : 122 < c.toNat <;> by_cases h5 : c.toNat < 48 <;> by_cases h6 : 57 < c.toNat
    all_goals first | (exfalso; revert hot; simp [isOther, h3, h4, h5, h6]; done) | (exfalso; omega) | ((repeat (first | refine Jc ?_ | (apply s_evb; (case hg => rfl); (case hd => rfl); (case hn => rfl); (case he => (apply ev_len_b; rfl))) | (apply s_evb; (case hg => rfl); (case hd => rfl); (case hn => rfl); (case he => ((apply ev_index_b (k := k); (case hx => rfl); (case hi => rfl); (case hu => exact hc))))) | refine Jo ?_ | intro _)); exact o_ret Try.results63 rfl (List.nil_sublist _) ⟨rfl, rfl, rfl⟩)
theorem rfunction_t (s : Bs) (S : SH) (r : Bool) (h : nameB s = r) : Con Try.prog 63 #[strV s] S [] (X.Pure S (.bool r)) := h ▸ rfunction_con s S
theorem symOk_not {s : Sym} (h : ¬ symOk s) : inB s.version 0 9 = false ∨ (inB s.version 0 9 = true ∧ inB s.from_ 0 1000000 = false) ∨ (inB s.version 0 9 = true ∧ inB s.from_ 0 1000000 = true ∧ s.to ≤ s.from_) ∨ (inB s.version 0 9 = true ∧ inB s.from_ 0 1000000 = true ∧ s.from_ < s.to ∧ 1000000 < s.to) ∨ (inB s.version 0 9 = true ∧ inB s.from_ 0 1000000 = true ∧ s.from_ < s.to ∧ s.to ≤ 1000000 ∧ nameB s.name = false) := by
  unfold symOk at h
  cases h1 : inB s.version 0 9
  · exact .inl rfl
  cases h2 : inB s.from_ 0 1000000
  · exact .inr (.inl ⟨rfl, rfl⟩)
  by_cases h3 : s.to ≤ s.from_
  · exact .inr (.inr (.inl ⟨rfl, rfl, h3⟩))
  by_cases h4 : 1000000 < s.to
  · exact .inr (.inr (.inr (.inl ⟨rfl, rfl, by omega, h4⟩)))
  cases h5 : nameB s.name
  · exact .inr (.inr (.inr (.inr ⟨rfl, rfl, by omega, by omega, rfl⟩)))
  · exact absurd ⟨h1, h2, decide_eq_true (by omega), h5⟩ h
theorem symOk_yes {s : Sym} (h : symOk s) : inB s.version 0 9 = true ∧ inB s.from_ 0 1000000 = true ∧ s.from_ < s.to ∧ s.to ≤ 1000000 ∧ nameB s.name = true := by
  obtain ⟨h1, h2, h3, h4⟩ := h
  have := of_decide_eq_true h3
  exact ⟨h1, h2, by omega, by omega, h4⟩
theorem pairI_iff (p s : Sym) : 0 < pairI p s ↔ s.version < p.version ∨ s.version = p.version ∧ s.from_ < p.to := by
  have e : pairI p s = if cmpI p.version s.version = 0 then (if cmpI p.to s.from_ = 0 then 0 else cmpI p.to s.from_) else cmpI p.version s.version := rfl
  rw [e]
  unfold cmpI
  by_cases h1 : p.version < s.version
  · rw [if_pos h1, if_neg (by omega)]; omega
  · by_cases h2 : s.version < p.version
    · rw [if_neg h1, if_pos h2, if_neg (by omega)]; omega
    · rw [if_neg h1, if_neg h2, if_pos rfl]
      by_cases h3 : p.to < s.from_
      · rw [if_pos h3, if_neg (by omega)]; omega
      · by_cases h4 : s.from_ < p.to
        · rw [if_neg h3, if_pos h4, if_neg (by omega)]; omega
        · rw [if_neg h3, if_neg h4, if_pos rfl]; omega
set_option maxHeartbeats 6400000 in
theorem rSymbols_con (l : List Sym) (A : Option Addr) (c : Nat) (S : SH) (hA : At S A l) (hl : l.length ≤ 1000000) :
    Con Try.prog 32 #[.slice A l.length c] S [] (fun _ L' r => L' = [] ∧ ∃ b : Bool, r = .bool b ∧ (b = true ↔ SymsOk l)) := by
  refine con_of (args := [.slice A l.length c]) Try.func32 rfl Try.ntmps32 rfl fun w => ?_
  by_cases hl1 : l.length ≤ 100
  rotate_left
  · (repeat (first | refine Jz ?_ | intro _))
    exact o_ret Try.results32 rfl (List.nil_sublist _) ⟨rfl, false, rfl, (fun h => absurd h Bool.false_ne_true), fun h => absurd h.2 hl1⟩
  (repeat (first | refine Jz ?_ | intro _))
  refine c_loop (fun m S' L F => S = S' ∧ L = [] ∧ ∃ (k : Nat), m = l.length - k ∧ k ≤ l.length ∧ SymsTo l k ∧ F = [(0, .slice A l.length c), (3, .int .i64 k)]) ⟨rfl, rfl, 0, rfl, by omega, fun i s h => by omega, rfl⟩ sbF (List.nil_sublist _) ?_
  rintro m S1 L F ⟨rfl, rfl, k, rfl, hk, hi, rfl⟩
  by_cases hlt : k < l.length
  rotate_left
  · (repeat (first | refine Jz ?_ | intro _))
    exact o_ret Try.results32 rfl (List.nil_sublist _) ⟨rfl, true, rfl, fun _ => ⟨fun i s h => hi i s (by omega), hl1⟩, fun _ => rfl⟩
  obtain ⟨s, hs⟩ := at_lt hlt
  have hc1 := fun S r h => rin_t s.version 0 9 S r h
  have hc2 := fun S r h => rin_t s.from_ 0 1000000 S r h
  have hc5 := fun S r h => rfunction_t s.name S r h
  obtain ⟨v1, hv1⟩ : ∃ b, inB s.version 0 9 = b := ⟨_, rfl⟩
  obtain ⟨v2, hv2⟩ : ∃ b, inB s.from_ 0 1000000 = b := ⟨_, rfl⟩
  obtain ⟨v5, hv5⟩ : ∃ b, nameB s.name = b := ⟨_, rfl⟩
  by_cases hok : symOk s
  rotate_left
  · have hno : ¬ SymsOk l := fun h => hok (h.1 k s hlt hs).1
    have hf := symOk_not hok
    rw [hv1, hv2, hv5] at hf
    rcases hf with rfl | ⟨rfl, rfl⟩ | ⟨rfl, rfl, h3⟩ | ⟨rfl, rfl, h3, h4⟩ | ⟨rfl, rfl, h3, h4, rfl⟩
    · (repeat (first | refine Jz ?_ | intro _))
      ((apply c_held ([]); (case hL => (exact sbT))); refine Jf 0 ?_; refine Jf 1 ?_; (apply h_idx hA 2; (case hi => rfl); (case hr => kernel_rfl); (case hfr => kernel_rfl); (case hsel => kernel_rfl); (case hg => rfl); (case hd => rfl); (case i1 => infer_instance); (case i2 => infer_instance); (case hx => rfl); (case hy => rfl); (case hm => rfl); (case hu => exact hs); intro q1 (hq1 : Pts _ q1 [.int .i64 s.version, .int .i64 s.from_, .int .i64 s.to, strV s.name])); refine Jf 3 ?_; (apply h_first 4; (case hi => rfl); (case hr => kernel_rfl); (case hfr => kernel_rfl); (case hsel => kernel_rfl); (case hg => rfl); (case hd => rfl); (case he => (apply ev_load_f; (case hx => rfl); (case h => exact hq1); (case hv => rfl)))); (apply h_one 5; (case hr => kernel_rfl)); (apply n_call; (case hi => rfl); (case i1 => infer_instance); (case hg => rfl); (case hd => rfl); (case ha => rfl); (case hc => exact hc1 _ _ hv1); (case hL => (repeat (first | exact pm_nil _ | exact pm_refl _ _ | exact pm_self _ | apply pm_cons | apply pm_app))); (case hsub => (intros; (exact sbT))); rintro _ _ _ - ⟨rfl, rfl, rfl⟩); refine Jf 6 ?_; refine Jf 7 ?_; refine Jf 8 ?_; refine Jf 9 ?_; refine Jf 10 ?_; refine Jf 11 ?_; refine Jf 12 ?_; (apply h_one 13; (case hr => kernel_rfl)); (refine X.Jn ?_; try intro _); refine Jf 14 ?_; refine Jf 15 ?_; refine Jf 16 ?_; refine Jf 17 ?_; refine Jf 18 ?_; refine Jf 19 ?_; refine Jf 20 ?_; refine Jf 21 ?_; refine Jf 22 ?_; refine Jf 23 ?_; refine Jf 24 ?_; refine Jf 25 ?_; refine Jf 26 ?_; refine Jf 27 ?_; refine Jf 28 ?_; refine Jf 29 ?_; refine Jf 30 ?_; refine Jf 31 ?_; refine Jf 32 ?_; refine Jf 33 ?_; refine Jf 34 ?_; refine Jf 35 ?_; refine Jf 36 ?_; refine Jf 37 ?_; refine Jf 38 ?_; refine Jf 39 ?_; refine Jf 40 ?_; refine Jf 41 ?_; refine Jf 42 ?_; (apply h_one 43; (case hr => kernel_rfl)); (refine X.Jn ?_; try intro _); refine Jf 44 ?_; refine Jf 45 ?_; (apply h_end; (case hr => kernel_rfl)))
      (repeat (first | refine Jz ?_ | intro _))
      exact o_ret Try.results32 rfl (List.nil_sublist _) ⟨rfl, false, rfl, (fun h => absurd h Bool.false_ne_true), fun h => absurd h hno⟩
    · (repeat (first | refine Jz ?_ | intro _))
      ((apply c_held ([]); (case hL => (exact sbT))); refine Jf 0 ?_; refine Jf 1 ?_; (apply h_idx hA 2; (case hi => rfl); (case hr => kernel_rfl); (case hfr => kernel_rfl); (case hsel => kernel_rfl); (case hg => rfl); (case hd => rfl); (case i1 => infer_instance); (case i2 => infer_instance); (case hx => rfl); (case hy => rfl); (case hm => rfl); (case hu => exact hs); intro q1 (hq1 : Pts _ q1 [.int .i64 s.version, .int .i64 s.from_, .int .i64 s.to, strV s.name])); refine Jf 3 ?_; (apply h_first 4; (case hi => rfl); (case hr => kernel_rfl); (case hfr => kernel_rfl); (case hsel => kernel_rfl); (case hg => rfl); (case hd => rfl); (case he => (apply ev_load_f; (case hx => rfl); (case h => exact hq1); (case hv => rfl)))); (apply h_one 5; (case hr => kernel_rfl)); (apply n_call; (case hi => rfl); (case i1 => infer_instance); (case hg => rfl); (case hd => rfl); (case ha => rfl); (case hc => exact hc1 _ _ hv1); (case hL => (repeat (first | exact pm_nil _ | exact pm_refl _ _ | exact pm_self _ | apply pm_cons | apply pm_app))); (case hsub => (intros; (exact sbT))); rintro _ _ _ - ⟨rfl, rfl, rfl⟩); refine Jf 6 ?_; refine Jf 7 ?_; refine Jf 8 ?_; refine Jf 9 ?_; (apply h_idx hA 10; (case hi => rfl); (case hr => kernel_rfl); (case hfr => kernel_rfl); (case hsel => kernel_rfl); (case hg => rfl); (case hd => rfl); (case i1 => infer_instance); (case i2 => infer_instance); (case hx => rfl); (case hy => rfl); (case hm => rfl); (case hu => exact hs); intro q2 (hq2 : Pts _ q2 [.int .i64 s.version, .int .i64 s.from_, .int .i64 s.to, strV s.name])); refine Jf 11 ?_; (apply h_first 12; (case hi => rfl); (case hr => kernel_rfl); (case hfr => kernel_rfl); (case hsel => kernel_rfl); (case hg => rfl); (case hd => rfl); (case he => (apply ev_load_f; (case hx => rfl); (case h => exact hq2); (case hv => rfl)))); (apply h_one 13; (case hr => kernel_rfl)); (apply n_call; (case hi => rfl); (case i1 => infer_instance); (case hg => rfl); (case hd => rfl); (case ha => rfl); (case hc => exact hc2 _ _ hv2); (case hL => (repeat (first | exact pm_nil _ | exact pm_refl _ _ | exact pm_self _ | apply pm_cons | apply pm_app))); (case hsub => (intros; (exact sbT))); rintro _ _ _ - ⟨rfl, rfl, rfl⟩); refine Jf 14 ?_; refine Jf 15 ?_; refine Jf 16 ?_; refine Jf 17 ?_; refine Jf 18 ?_; refine Jf 19 ?_; refine Jf 20 ?_; refine Jf 21 ?_; refine Jf 22 ?_; refine Jf 23 ?_; refine Jf 24 ?_; refine Jf 25 ?_; refine Jf 26 ?_; refine Jf 27 ?_; refine Jf 28 ?_; refine Jf 29 ?_; refine Jf 30 ?_; refine Jf 31 ?_; refine Jf 32 ?_; refine Jf 33 ?_; refine Jf 34 ?_; refine Jf 35 ?_; refine Jf 36 ?_; refine Jf 37 ?_; refine Jf 38 ?_; refine Jf 39 ?_; refine Jf 40 ?_; refine Jf 41 ?_; refine Jf 42 ?_; (apply h_one 43; (case hr => kernel_rfl)); (refine X.Jn ?_; try intro _); refine Jf 44 ?_; refine Jf 45 ?_; (apply h_end; (case hr => kernel_rfl)))
      (repeat (first | refine Jz ?_ | intro _))
      exact o_ret Try.results32 rfl (List.nil_sublist _) ⟨rfl, false, rfl, (fun h => absurd h Bool.false_ne_true), fun h => absurd h hno⟩
    · (repeat (first | refine Jz ?_ | intro _))
      ((apply c_held ([]); (case hL => (exact sbT))); refine Jf 0 ?_; refine Jf 1 ?_; (apply h_idx hA 2; (case hi => rfl); (case hr => kernel_rfl); (case hfr => kernel_rfl); (case hsel => kernel_rfl); (case hg => rfl); (case hd => rfl); (case i1 => infer_instance); (case i2 => infer_instance); (case hx => rfl); (case hy => rfl); (case hm => rfl); (case hu => exact hs); intro q1 (hq1 : Pts _ q1 [.int .i64 s.version, .int .i64 s.from_, .int .i64 s.to, strV s.name])); refine Jf 3 ?_; (apply h_first 4; (case hi => rfl); (case hr => kernel_rfl); (case hfr => kernel_rfl); (case hsel => kernel_rfl); (case hg => rfl); (case hd => rfl); (case he => (apply ev_load_f; (case hx => rfl); (case h => exact hq1); (case hv => rfl)))); (apply h_one 5; (case hr => kernel_rfl)); (apply n_call; (case hi => rfl); (case i1 => infer_instance); (case hg => rfl); (case hd => rfl); (case ha => rfl); (case hc => exact hc1 _ _ hv1); (case hL => (repeat (first | exact pm_nil _ | exact pm_refl _ _ | exact pm_self _ | apply pm_cons | apply pm_app))); (case hsub => (intros; (exact sbT))); rintro _ _ _ - ⟨rfl, rfl, rfl⟩); refine Jf 6 ?_; refine Jf 7 ?_; refine Jf 8 ?_; refine Jf 9 ?_; (apply h_idx hA 10; (case hi => rfl); (case hr => kernel_rfl); (case hfr => kernel_rfl); (case hsel => kernel_rfl); (case hg => rfl); (case hd => rfl); (case i1 => infer_instance); (case i2 => infer_instance); (case hx => rfl); (case hy => rfl); (case hm => rfl); (case hu => exact hs); intro q2 (hq2 : Pts _ q2 [.int .i64 s.version, .int .i64 s.from_, .int .i64 s.to, strV s.name])); refine Jf 11 ?_; (apply h_first 12; (case hi => rfl); (case hr => kernel_rfl); (case hfr => kernel_rfl); (case hsel => kernel_rfl); (case hg => rfl); (case hd => rfl); (case he => (apply ev_load_f; (case hx => rfl); (case h => exact hq2); (case hv => rfl)))); (apply h_one 13; (case hr => kernel_rfl)); (apply n_call; (case hi => rfl); (case i1 => infer_instance); (case hg => rfl); (case hd => rfl); (case ha => rfl); (case hc => exact hc2 _ _ hv2); (case hL => (repeat (first | exact pm_nil _ | exact pm_refl _ _ | exact pm_self _ | apply pm_cons | apply pm_app))); (case hsub => (intros; (exact sbT))); rintro _ _ _ - ⟨rfl, rfl, rfl⟩); refine Jf 14 ?_; refine Jf 15 ?_; refine Jf 16 ?_; refine Jf 17 ?_; refine Jf 18 ?_; (apply h_idx hA 19; (case hi => rfl); (case hr => kernel_rfl); (case hfr => kernel_rfl); (case hsel => kernel_rfl); (case hg => rfl); (case hd => rfl); (case i1 => infer_instance); (case i2 => infer_instance); (case hx => rfl); (case hy => rfl); (case hm => rfl); (case hu => exact hs); intro q3 (hq3 : Pts _ q3 [.int .i64 s.version, .int .i64 s.from_, .int .i64 s.to, strV s.name])); refine Jf 20 ?_; (apply h_first 21; (case hi => rfl); (case hr => kernel_rfl); (case hfr => kernel_rfl); (case hsel => kernel_rfl); (case hg => rfl); (case hd => rfl); (case he => (apply ev_load_f; (case hx => rfl); (case h => exact hq3); (case hv => rfl)))); refine Jf 22 ?_; refine Jf 23 ?_; (apply h_idx hA 24; (case hi => rfl); (case hr => kernel_rfl); (case hfr => kernel_rfl); (case hsel => kernel_rfl); (case hg => rfl); (case hd => rfl); (case i1 => infer_instance); (case i2 => infer_instance); (case hx => rfl); (case hy => rfl); (case hm => rfl); (case hu => exact hs); intro q4 (hq4 : Pts _ q4 [.int .i64 s.version, .int .i64 s.from_, .int .i64 s.to, strV s.name])); refine Jf 25 ?_; (apply h_first 26; (case hi => rfl); (case hr => kernel_rfl); (case hfr => kernel_rfl); (case hsel => kernel_rfl); (case hg => rfl); (case hd => rfl); (case he => (apply ev_load_f; (case hx => rfl); (case h => exact hq4); (case hv => rfl)))); refine Jf 27 ?_; refine Jf 28 ?_; refine Jf 29 ?_; refine Jf 30 ?_; refine Jf 31 ?_; refine Jf 32 ?_; refine Jf 33 ?_; refine Jf 34 ?_; refine Jf 35 ?_; refine Jf 36 ?_; refine Jf 37 ?_; refine Jf 38 ?_; refine Jf 39 ?_; refine Jf 40 ?_; refine Jf 41 ?_; refine Jf 42 ?_; (apply h_one 43; (case hr => kernel_rfl)); (refine X.Jn ?_; try intro _); refine Jf 44 ?_; refine Jf 45 ?_; (apply h_end; (case hr => kernel_rfl)))
      (repeat (first | refine Jz ?_ | intro _))
      exact o_ret Try.results32 rfl (List.nil_sublist _) ⟨rfl, false, rfl, (fun h => absurd h Bool.false_ne_true), fun h => absurd h hno⟩
    · (repeat (first | refine Jz ?_ | intro _))
      ((apply c_held ([]); (case hL => (exact sbT))); refine Jf 0 ?_; refine Jf 1 ?_; (apply h_idx hA 2; (case hi => rfl); (case hr => kernel_rfl); (case hfr => kernel_rfl); (case hsel => kernel_rfl); (case hg => rfl); (case hd => rfl); (case i1 => infer_instance); (case i2 => infer_instance); (case hx => rfl); (case hy => rfl); (case hm => rfl); (case hu => exact hs); intro q1 (hq1 : Pts _ q1 [.int .i64 s.version, .int .i64 s.from_, .int .i64 s.to, strV s.name])); refine Jf 3 ?_; (apply h_first 4; (case hi => rfl); (case hr => kernel_rfl); (case hfr => kernel_rfl); (case hsel => kernel_rfl); (case hg => rfl); (case hd => rfl); (case he => (apply ev_load_f; (case hx => rfl); (case h => exact hq1); (case hv => rfl)))); (apply h_one 5; (case hr => kernel_rfl)); (apply n_call; (case hi => rfl); (case i1 => infer_instance); (case hg => rfl); (case hd => rfl); (case ha => rfl); (case hc => exact hc1 _ _ hv1); (case hL => (repeat (first | exact pm_nil _ | exact pm_refl _ _ | exact pm_self _ | apply pm_cons | apply pm_app))); (case hsub => (intros; (exact sbT))); rintro _ _ _ - ⟨rfl, rfl, rfl⟩); refine Jf 6 ?_; refine Jf 7 ?_; refine Jf 8 ?_; refine Jf 9 ?_; (apply h_idx hA 10; (case hi => rfl); (case hr => kernel_rfl); (case hfr => kernel_rfl); (case hsel => kernel_rfl); (case hg => rfl); (case hd => rfl); (case i1 => infer_instance); (case i2 => infer_instance); (case hx => rfl); (case hy => rfl); (case hm => rfl); (case hu => exact hs); intro q2 (hq2 : Pts _ q2 [.int .i64 s.version, .int .i64 s.from_, .int .i64 s.to, strV s.name])); refine Jf 11 ?_; (apply h_first 12; (case hi => rfl); (case hr => kernel_rfl); (case hfr => kernel_rfl); (case hsel => kernel_rfl); (case hg => rfl); (case hd => rfl); (case he => (apply ev_load_f; (case hx => rfl); (case h => exact hq2); (case hv => rfl)))); (apply h_one 13; (case hr => kernel_rfl)); (apply n_call; (case hi => rfl); (case i1 => infer_instance); (case hg => rfl); (case hd => rfl); (case ha => rfl); (case hc => exact hc2 _ _ hv2); (case hL => (repeat (first | exact pm_nil _ | exact pm_refl _ _ | exact pm_self _ | apply pm_cons | apply pm_app))); (case hsub => (intros; (exact sbT))); rintro _ _ _ - ⟨rfl, rfl, rfl⟩); refine Jf 14 ?_; refine Jf 15 ?_; refine Jf 16 ?_; refine Jf 17 ?_; refine Jf 18 ?_; (apply h_idx hA 19; (case hi => rfl); (case hr => kernel_rfl); (case hfr => kernel_rfl); (case hsel => kernel_rfl); (case hg => rfl); (case hd => rfl); (case i1 => infer_instance); (case i2 => infer_instance); (case hx => rfl); (case hy => rfl); (case hm => rfl); (case hu => exact hs); intro q3 (hq3 : Pts _ q3 [.int .i64 s.version, .int .i64 s.from_, .int .i64 s.to, strV s.name])); refine Jf 20 ?_; (apply h_first 21; (case hi => rfl); (case hr => kernel_rfl); (case hfr => kernel_rfl); (case hsel => kernel_rfl); (case hg => rfl); (case hd => rfl); (case he => (apply ev_load_f; (case hx => rfl); (case h => exact hq3); (case hv => rfl)))); refine Jf 22 ?_; refine Jf 23 ?_; (apply h_idx hA 24; (case hi => rfl); (case hr => kernel_rfl); (case hfr => kernel_rfl); (case hsel => kernel_rfl); (case hg => rfl); (case hd => rfl); (case i1 => infer_instance); (case i2 => infer_instance); (case hx => rfl); (case hy => rfl); (case hm => rfl); (case hu => exact hs); intro q4 (hq4 : Pts _ q4 [.int .i64 s.version, .int .i64 s.from_, .int .i64 s.to, strV s.name])); refine Jf 25 ?_; (apply h_first 26; (case hi => rfl); (case hr => kernel_rfl); (case hfr => kernel_rfl); (case hsel => kernel_rfl); (case hg => rfl); (case hd => rfl); (case he => (apply ev_load_f; (case hx => rfl); (case h => exact hq4); (case hv => rfl)))); refine Jf 27 ?_; refine Jf 28 ?_; refine Jf 29 ?_; refine Jf 30 ?_; refine Jf 31 ?_; (apply h_idx hA 32; (case hi => rfl); (case hr => kernel_rfl); (case hfr => kernel_rfl); (case hsel => kernel_rfl); (case hg => rfl); (case hd => rfl); (case i1 => infer_instance); (case i2 => infer_instance); (case hx => rfl); (case hy => rfl); (case hm => rfl); (case hu => exact hs); intro q5 (hq5 : Pts _ q5 [.int .i64 s.version, .int .i64 s.from_, .int .i64 s.to, strV s.name])); refine Jf 33 ?_; (apply h_first 34; (case hi => rfl); (case hr => kernel_rfl); (case hfr => kernel_rfl); (case hsel => kernel_rfl); (case hg => rfl); (case hd => rfl); (case he => (apply ev_load_f; (case hx => rfl); (case h => exact hq5); (case hv => rfl)))); refine Jf 35 ?_; refine Jf 36 ?_; refine Jf 37 ?_; refine Jf 38 ?_; refine Jf 39 ?_; refine Jf 40 ?_; refine Jf 41 ?_; refine Jf 42 ?_; (apply h_one 43; (case hr => kernel_rfl)); (refine X.Jn ?_; try intro _); refine Jf 44 ?_; refine Jf 45 ?_; (apply h_end; (case hr => kernel_rfl)))
      (repeat (first | refine Jz ?_ | intro _))
      exact o_ret Try.results32 rfl (List.nil_sublist _) ⟨rfl, false, rfl, (fun h => absurd h Bool.false_ne_true), fun h => absurd h hno⟩
    · (repeat (first | refine Jz ?_ | intro _))
      ((apply c_held ([]); (case hL => (exact sbT))); refine Jf 0 ?_; refine Jf 1 ?_; (apply h_idx hA 2; (case hi => rfl); (case hr => kernel_rfl); (case hfr => kernel_rfl); (case hsel => kernel_rfl); (case hg => rfl); (case hd => rfl); (case i1 => infer_instance); (case i2 => infer_instance); (case hx => rfl); (case hy => rfl); (case hm => rfl); (case hu => exact hs); intro q1 (hq1 : Pts _ q1 [.int .i64 s.version, .int .i64 s.from_, .int .i64 s.to, strV s.name])); refine Jf 3 ?_; (apply h_first 4; (case hi => rfl); (case hr => kernel_rfl); (case hfr => kernel_rfl); (case hsel => kernel_rfl); (case hg => rfl); (case hd => rfl); (case he => (apply ev_load_f; (case hx => rfl); (case h => exact hq1); (case hv => rfl)))); (apply h_one 5; (case hr => kernel_rfl)); (apply n_call; (case hi => rfl); (case i1 => infer_instance); (case hg => rfl); (case hd => rfl); (case ha => rfl); (case hc => exact hc1 _ _ hv1); (case hL => (repeat (first | exact pm_nil _ | exact pm_refl _ _ | exact pm_self _ | apply pm_cons | apply pm_app))); (case hsub => (intros; (exact sbT))); rintro _ _ _ - ⟨rfl, rfl, rfl⟩); refine Jf 6 ?_; refine Jf 7 ?_; refine Jf 8 ?_; refine Jf 9 ?_; (apply h_idx hA 10; (case hi => rfl); (case hr => kernel_rfl); (case hfr => kernel_rfl); (case hsel => kernel_rfl); (case hg => rfl); (case hd => rfl); (case i1 => infer_instance); (case i2 => infer_instance); (case hx => rfl); (case hy => rfl); (case hm => rfl); (case hu => exact hs); intro q2 (hq2 : Pts _ q2 [.int .i64 s.version, .int .i64 s.from_, .int .i64 s.to, strV s.name])); refine Jf 11 ?_; (apply h_first 12; (case hi => rfl); (case hr => kernel_rfl); (case hfr => kernel_rfl); (case hsel => kernel_rfl); (case hg => rfl); (case hd => rfl); (case he => (apply ev_load_f; (case hx => rfl); (case h => exact hq2); (case hv => rfl)))); (apply h_one 13; (case hr => kernel_rfl)); (apply n_call; (case hi => rfl); (case i1 => infer_instance); (case hg => rfl); (case hd => rfl); (case ha => rfl); (case hc => exact hc2 _ _ hv2); (case hL => (repeat (first | exact pm_nil _ | exact pm_refl _ _ | exact pm_self _ | apply pm_cons | apply pm_app))); (case hsub => (intros; (exact sbT))); rintro _ _ _ - ⟨rfl, rfl, rfl⟩); refine Jf 14 ?_; refine Jf 15 ?_; refine Jf 16 ?_; refine Jf 17 ?_; refine Jf 18 ?_; (apply h_idx hA 19; (case hi => rfl); (case hr => kernel_rfl); (case hfr => kernel_rfl); (case hsel => kernel_rfl); (case hg => rfl); (case hd => rfl); (case i1 => infer_instance); (case i2 => infer_instance); (case hx => rfl); (case hy => rfl); (case hm => rfl); (case hu => exact hs); intro q3 (hq3 : Pts _ q3 [.int .i64 s.version, .int .i64 s.from_, .int .i64 s.to, strV s.name])); refine Jf 20 ?_; (apply h_first 21; (case hi => rfl); (case hr => kernel_rfl); (case hfr => kernel_rfl); (case hsel => kernel_rfl); (case hg => rfl); (case hd => rfl); (case he => (apply ev_load_f; (case hx => rfl); (case h => exact hq3); (case hv => rfl)))); refine Jf 22 ?_; refine Jf 23 ?_; (apply h_idx hA 24; (case hi => rfl); (case hr => kernel_rfl); (case hfr => kernel_rfl); (case hsel => kernel_rfl); (case hg => rfl); (case hd => rfl); (case i1 => infer_instance); (case i2 => infer_instance); (case hx => rfl); (case hy => rfl); (case hm => rfl); (case hu => exact hs); intro q4 (hq4 : Pts _ q4 [.int .i64 s.version, .int .i64 s.from_, .int .i64 s.to, strV s.name])); refine Jf 25 ?_; (apply h_first 26; (case hi => rfl); (case hr => kernel_rfl); (case hfr => kernel_rfl); (case hsel => kernel_rfl); (case hg => rfl); (case hd => rfl); (case he => (apply ev_load_f; (case hx => rfl); (case h => exact hq4); (case hv => rfl)))); refine Jf 27 ?_; refine Jf 28 ?_; refine Jf 29 ?_; refine Jf 30 ?_; refine Jf 31 ?_; (apply h_idx hA 32; (case hi => rfl); (case hr => kernel_rfl); (case hfr => kernel_rfl); (case hsel => kernel_rfl); (case hg => rfl); (case hd => rfl); (case i1 => infer_instance); (case i2 => infer_instance); (case hx => rfl); (case hy => rfl); (case hm => rfl); (case hu => exact hs); intro q5 (hq5 : Pts _ q5 [.int .i64 s.version, .int .i64 s.from_, .int .i64 s.to, strV s.name])); refine Jf 33 ?_; (apply h_first 34; (case hi => rfl); (case hr => kernel_rfl); (case hfr => kernel_rfl); (case hsel => kernel_rfl); (case hg => rfl); (case hd => rfl); (case he => (apply ev_load_f; (case hx => rfl); (case h => exact hq5); (case hv => rfl)))); refine Jf 35 ?_; refine Jf 36 ?_; refine Jf 37 ?_; refine Jf 38 ?_; refine Jf 39 ?_; (apply h_idx hA 40; (case hi => rfl); (case hr => kernel_rfl); (case hfr => kernel_rfl); (case hsel => kernel_rfl); (case hg => rfl); (case hd => rfl); (case i1 => infer_instance); (case i2 => infer_instance); (case hx => rfl); (case hy => rfl); (case hm => rfl); (case hu => exact hs); intro q6 (hq6 : Pts _ q6 [.int .i64 s.version, .int .i64 s.from_, .int .i64 s.to, strV s.name])); refine Jf 41 ?_; (apply h_first 42; (case hi => rfl); (case hr => kernel_rfl); (case hfr => kernel_rfl); (case hsel => kernel_rfl); (case hg => rfl); (case hd => rfl); (case he => (apply ev_load_f; (case hx => rfl); (case h => exact hq6); (case hv => rfl)))); (apply h_one 43; (case hr => kernel_rfl)); (apply n_call; (case hi => rfl); (case i1 => infer_instance); (case hg => rfl); (case hd => rfl); (case ha => rfl); (case hc => exact hc5 _ _ hv5); (case hL => (repeat (first | exact pm_nil _ | exact pm_refl _ _ | exact pm_self _ | apply pm_cons | apply pm_app))); (case hsub => (intros; (exact sbT))); rintro _ _ _ - ⟨rfl, rfl, rfl⟩); refine Jf 44 ?_; refine Jf 45 ?_; (apply h_end; (case hr => kernel_rfl)))
      (repeat (first | refine Jz ?_ | intro _))
      exact o_ret Try.results32 rfl (List.nil_sublist _) ⟨rfl, false, rfl, (fun h => absurd h Bool.false_ne_true), fun h => absurd h hno⟩
  obtain ⟨rfl, rfl, h3, h4, rfl⟩ : v1 = true ∧ v2 = true ∧ s.from_ < s.to ∧ s.to ≤ 1000000 ∧ v5 = true := by
    obtain ⟨a, b, c', d, e⟩ := symOk_yes hok
    exact ⟨hv1.symm.trans a, hv2.symm.trans b, c', d, hv5.symm.trans e⟩
  (repeat (first | refine Jz ?_ | intro _))
  ((apply c_held ([]); (case hL => (exact sbT))); refine Jf 0 ?_; refine Jf 1 ?_; (apply h_idx hA 2; (case hi => rfl); (case hr => kernel_rfl); (case hfr => kernel_rfl); (case hsel => kernel_rfl); (case hg => rfl); (case hd => rfl); (case i1 => infer_instance); (case i2 => infer_instance); (case hx => rfl); (case hy => rfl); (case hm => rfl); (case hu => exact hs); intro q1 (hq1 : Pts _ q1 [.int .i64 s.version, .int .i64 s.from_, .int .i64 s.to, strV s.name])); refine Jf 3 ?_; (apply h_first 4; (case hi => rfl); (case hr => kernel_rfl); (case hfr => kernel_rfl); (case hsel => kernel_rfl); (case hg => rfl); (case hd => rfl); (case he => (apply ev_load_f; (case hx => rfl); (case h => exact hq1); (case hv => rfl)))); (apply h_one 5; (case hr => kernel_rfl)); (apply n_call; (case hi => rfl); (case i1 => infer_instance); (case hg => rfl); (case hd => rfl); (case ha => rfl); (case hc => exact hc1 _ _ hv1); (case hL => (repeat (first | exact pm_nil _ | exact pm_refl _ _ | exact pm_self _ | apply pm_cons | apply pm_app))); (case hsub => (intros; (exact sbT))); rintro _ _ _ - ⟨rfl, rfl, rfl⟩); refine Jf 6 ?_; refine Jf 7 ?_; refine Jf 8 ?_; refine Jf 9 ?_; (apply h_idx hA 10; (case hi => rfl); (case hr => kernel_rfl); (case hfr => kernel_rfl); (case hsel => kernel_rfl); (case hg => rfl); (case hd => rfl); (case i1 => infer_instance); (case i2 => infer_instance); (case hx => rfl); (case hy => rfl); (case hm => rfl); (case hu => exact hs); intro q2 (hq2 : Pts _ q2 [.int .i64 s.version, .int .i64 s.from_, .int .i64 s.to, strV s.name])); refine Jf 11 ?_; (apply h_first 12; (case hi => rfl); (case hr => kernel_rfl); (case hfr => kernel_rfl); (case hsel => kernel_rfl); (case hg => rfl); (case hd => rfl); (case he => (apply ev_load_f; (case hx => rfl); (case h => exact hq2); (case hv => rfl)))); (apply h_one 13; (case hr => kernel_rfl)); (apply n_call; (case hi => rfl); (case i1 => infer_instance); (case hg => rfl); (case hd => rfl); (case ha => rfl); (case hc => exact hc2 _ _ hv2); (case hL => (repeat (first | exact pm_nil _ | exact pm_refl _ _ | exact pm_self _ | apply pm_cons | apply pm_app))); (case hsub => (intros; (exact sbT))); rintro _ _ _ - ⟨rfl, rfl, rfl⟩); refine Jf 14 ?_; refine Jf 15 ?_; refine Jf 16 ?_; refine Jf 17 ?_; refine Jf 18 ?_; (apply h_idx hA 19; (case hi => rfl); (case hr => kernel_rfl); (case hfr => kernel_rfl); (case hsel => kernel_rfl); (case hg => rfl); (case hd => rfl); (case i1 => infer_instance); (case i2 => infer_instance); (case hx => rfl); (case hy => rfl); (case hm => rfl); (case hu => exact hs); intro q3 (hq3 : Pts _ q3 [.int .i64 s.version, .int .i64 s.from_, .int .i64 s.to, strV s.name])); refine Jf 20 ?_; (apply h_first 21; (case hi => rfl); (case hr => kernel_rfl); (case hfr => kernel_rfl); (case hsel => kernel_rfl); (case hg => rfl); (case hd => rfl); (case he => (apply ev_load_f; (case hx => rfl); (case h => exact hq3); (case hv => rfl)))); refine Jf 22 ?_; refine Jf 23 ?_; (apply h_idx hA 24; (case hi => rfl); (case hr => kernel_rfl); (case hfr => kernel_rfl); (case hsel => kernel_rfl); (case hg => rfl); (case hd => rfl); (case i1 => infer_instance); (case i2 => infer_instance); (case hx => rfl); (case hy => rfl); (case hm => rfl); (case hu => exact hs); intro q4 (hq4 : Pts _ q4 [.int .i64 s.version, .int .i64 s.from_, .int .i64 s.to, strV s.name])); refine Jf 25 ?_; (apply h_first 26; (case hi => rfl); (case hr => kernel_rfl); (case hfr => kernel_rfl); (case hsel => kernel_rfl); (case hg => rfl); (case hd => rfl); (case he => (apply ev_load_f; (case hx => rfl); (case h => exact hq4); (case hv => rfl)))); refine Jf 27 ?_; refine Jf 28 ?_; refine Jf 29 ?_; refine Jf 30 ?_; refine Jf 31 ?_; (apply h_idx hA 32; (case hi => rfl); (case hr => kernel_rfl); (case hfr => kernel_rfl); (case hsel => kernel_rfl); (case hg => rfl); (case hd => rfl); (case i1 => infer_instance); (case i2 => infer_instance); (case hx => rfl); (case hy => rfl); (case hm => rfl); (case hu => exact hs); intro q5 (hq5 : Pts _ q5 [.int .i64 s.version, .int .i64 s.from_, .int .i64 s.to, strV s.name])); refine Jf 33 ?_; (apply h_first 34; (case hi => rfl); (case hr => kernel_rfl); (case hfr => kernel_rfl); (case hsel => kernel_rfl); (case hg => rfl); (case hd => rfl); (case he => (apply ev_load_f; (case hx => rfl); (case h => exact hq5); (case hv => rfl)))); refine Jf 35 ?_; refine Jf 36 ?_; refine Jf 37 ?_; refine Jf 38 ?_; refine Jf 39 ?_; (apply h_idx hA 40; (case hi => rfl); (case hr => kernel_rfl); (case hfr => kernel_rfl); (case hsel => kernel_rfl); (case hg => rfl); (case hd => rfl); (case i1 => infer_instance); (case i2 => infer_instance); (case hx => rfl); (case hy => rfl); (case hm => rfl); (case hu => exact hs); intro q6 (hq6 : Pts _ q6 [.int .i64 s.version, .int .i64 s.from_, .int .i64 s.to, strV s.name])); refine Jf 41 ?_; (apply h_first 42; (case hi => rfl); (case hr => kernel_rfl); (case hfr => kernel_rfl); (case hsel => kernel_rfl); (case hg => rfl); (case hd => rfl); (case he => (apply ev_load_f; (case hx => rfl); (case h => exact hq6); (case hv => rfl)))); (apply h_one 43; (case hr => kernel_rfl)); (apply n_call; (case hi => rfl); (case i1 => infer_instance); (case hg => rfl); (case hd => rfl); (case ha => rfl); (case hc => exact hc5 _ _ hv5); (case hL => (repeat (first | exact pm_nil _ | exact pm_refl _ _ | exact pm_self _ | apply pm_cons | apply pm_app))); (case hsub => (intros; (exact sbT))); rintro _ _ _ - ⟨rfl, rfl, rfl⟩); refine Jf 44 ?_; refine Jf 45 ?_; (apply h_end; (case hr => kernel_rfl)))
  by_cases hk0 : k = 0
  · subst hk0
    have hto : SymsTo l (0 + 1) := fun i s' hi' hs' => by
      obtain rfl : i = 0 := by omega
      rw [hs] at hs'
      obtain rfl := Option.some.inj hs'
      exact ⟨hok, fun p h0 => absurd h0 (by omega)⟩
    (repeat (first | refine Jz ?_ | intro _))
    ((apply c_held ([]); (case hL => (exact sbT))); refine Jf 0 ?_; refine Jf 1 ?_; refine Jf 2 ?_; refine Jf 3 ?_; refine Jf 4 ?_; refine Jf 5 ?_; refine Jf 6 ?_; refine Jf 7 ?_; refine Jf 8 ?_; refine Jf 9 ?_; refine Jf 10 ?_; refine Jf 11 ?_; refine Jf 12 ?_; refine Jf 13 ?_; refine Jf 14 ?_; refine Jf 15 ?_; refine Jf 16 ?_; refine Jf 17 ?_; refine Jf 18 ?_; refine Jf 19 ?_; refine Jf 20 ?_; refine Jf 21 ?_; refine Jf 22 ?_; refine Jf 23 ?_; refine Jf 24 ?_; refine Jf 25 ?_; refine Jf 26 ?_; refine Jf 27 ?_; refine Jf 28 ?_; refine Jf 29 ?_; refine Jf 30 ?_; refine Jf 31 ?_; refine Jf 32 ?_; refine Jf 33 ?_; refine Jf 34 ?_; refine Jf 35 ?_; refine Jf 36 ?_; refine Jf 37 ?_; refine Jf 38 ?_; refine Jf 39 ?_; refine Jf 40 ?_; refine Jf 41 ?_; refine Jf 42 ?_; refine Jf 43 ?_; (apply h_end; (case hr => kernel_rfl)))
    (repeat (first | refine Jz ?_ | intro _))
    exact q_back (L' := []) (m' := l.length - (0 + 1)) ⟨rfl, rfl, 0 + 1, rfl, by omega, hto, rfl⟩ (by omega) sbF (List.nil_sublist _)
  obtain ⟨j, rfl⟩ : ∃ j, k = j + 1 := ⟨k - 1, by omega⟩
  obtain ⟨p, hp⟩ := at_lt (show j < l.length by omega)
  have hjj : ((j + 1 : Nat) : Int) - 1 = (j : Int) := by omega
  have hbad : 0 < pairI p s → ¬ SymsOk l := fun h h2 => (h2.1 (j + 1) s hlt hs).2 p (by omega) hp h
  have hgood : ¬ 0 < pairI p s → SymsTo l (j + 1 + 1) := fun h i s' hi' hs' => by
    by_cases hij : i < j + 1
    · exact hi i s' hij hs'
    · obtain rfl : i = j + 1 := by omega
      rw [hs] at hs'
      obtain rfl := Option.some.inj hs'
      refine ⟨hok, fun p' _ hp' => ?_⟩
      rw [Nat.add_sub_cancel, hp] at hp'
      obtain rfl := Option.some.inj hp'
      exact h
  rw [pairI_iff] at hbad hgood
  by_cases b1 : s.version < p.version
  · have hno := hbad (.inl b1)
    (repeat (first | refine Jz ?_ | intro _))
    ((apply c_held ([]); (case hL => (exact sbT))); refine Jf 0 ?_; refine Jf 1 ?_; refine Jf 2 ?_; refine Jf 3 ?_; refine Jf 4 ?_; (apply h_idx hA 5; (case hi => rfl); (case hr => kernel_rfl); (case hfr => kernel_rfl); (case hsel => kernel_rfl); (case hg => rfl); (case hd => rfl); (case i1 => infer_instance); (case i2 => infer_instance); (case hx => rfl); (case hy => rfl); (case hm => rfl); (case hu => exact hs); intro u1 (hu1 : Pts _ u1 [.int .i64 s.version, .int .i64 s.from_, .int .i64 s.to, strV s.name])); refine Jf 6 ?_; (apply h_first 7; (case hi => rfl); (case hr => kernel_rfl); (case hfr => kernel_rfl); (case hsel => kernel_rfl); (case hg => rfl); (case hd => rfl); (case he => (apply ev_load_f; (case hx => rfl); (case h => exact hu1); (case hv => rfl)))); refine Jf 8 ?_; refine Jf 9 ?_; (refine Jf 10 ?_; rw [hjj]); (apply h_idx hA 11; (case hi => rfl); (case hr => kernel_rfl); (case hfr => kernel_rfl); (case hsel => kernel_rfl); (case hg => rfl); (case hd => rfl); (case i1 => infer_instance); (case i2 => infer_instance); (case hx => rfl); (case hy => rfl); (case hm => rfl); (case hu => exact hp); intro u2 (hu2 : Pts _ u2 [.int .i64 p.version, .int .i64 p.from_, .int .i64 p.to, strV p.name])); refine Jf 12 ?_; (apply h_first 13; (case hi => rfl); (case hr => kernel_rfl); (case hfr => kernel_rfl); (case hsel => kernel_rfl); (case hg => rfl); (case hd => rfl); (case he => (apply ev_load_f; (case hx => rfl); (case h => exact hu2); (case hv => rfl)))); refine Jf 14 ?_; refine Jf 15 ?_; refine Jf 16 ?_; refine Jf 17 ?_; refine Jf 18 ?_; refine Jf 19 ?_; refine Jf 20 ?_; refine Jf 21 ?_; refine Jf 22 ?_; refine Jf 23 ?_; refine Jf 24 ?_; refine Jf 25 ?_; refine Jf 26 ?_; refine Jf 27 ?_; refine Jf 28 ?_; refine Jf 29 ?_; refine Jf 30 ?_; refine Jf 31 ?_; refine Jf 32 ?_; refine Jf 33 ?_; refine Jf 34 ?_; refine Jf 35 ?_; refine Jf 36 ?_; refine Jf 37 ?_; refine Jf 38 ?_; refine Jf 39 ?_; refine Jf 40 ?_; refine Jf 41 ?_; refine Jf 42 ?_; refine Jf 43 ?_; (apply h_end; (case hr => kernel_rfl)))
    (repeat (first | refine Jz ?_ | intro _))
    exact o_ret Try.results32 rfl (List.nil_sublist _) ⟨rfl, false, rfl, (fun h => absurd h Bool.false_ne_true), fun h => absurd h hno⟩
  by_cases b2 : s.version = p.version
  rotate_left
  · have hto := hgood (by omega)
    (repeat (first | refine Jz ?_ | intro _))
    ((apply c_held ([]); (case hL => (exact sbT))); refine Jf 0 ?_; refine Jf 1 ?_; refine Jf 2 ?_; refine Jf 3 ?_; refine Jf 4 ?_; (apply h_idx hA 5; (case hi => rfl); (case hr => kernel_rfl); (case hfr => kernel_rfl); (case hsel => kernel_rfl); (case hg => rfl); (case hd => rfl); (case i1 => infer_instance); (case i2 => infer_instance); (case hx => rfl); (case hy => rfl); (case hm => rfl); (case hu => exact hs); intro u1 (hu1 : Pts _ u1 [.int .i64 s.version, .int .i64 s.from_, .int .i64 s.to, strV s.name])); refine Jf 6 ?_; (apply h_first 7; (case hi => rfl); (case hr => kernel_rfl); (case hfr => kernel_rfl); (case hsel => kernel_rfl); (case hg => rfl); (case hd => rfl); (case he => (apply ev_load_f; (case hx => rfl); (case h => exact hu1); (case hv => rfl)))); refine Jf 8 ?_; refine Jf 9 ?_; (refine Jf 10 ?_; rw [hjj]); (apply h_idx hA 11; (case hi => rfl); (case hr => kernel_rfl); (case hfr => kernel_rfl); (case hsel => kernel_rfl); (case hg => rfl); (case hd => rfl); (case i1 => infer_instance); (case i2 => infer_instance); (case hx => rfl); (case hy => rfl); (case hm => rfl); (case hu => exact hp); intro u2 (hu2 : Pts _ u2 [.int .i64 p.version, .int .i64 p.from_, .int .i64 p.to, strV p.name])); refine Jf 12 ?_; (apply h_first 13; (case hi => rfl); (case hr => kernel_rfl); (case hfr => kernel_rfl); (case hsel => kernel_rfl); (case hg => rfl); (case hd => rfl); (case he => (apply ev_load_f; (case hx => rfl); (case h => exact hu2); (case hv => rfl)))); refine Jf 14 ?_; refine Jf 15 ?_; refine Jf 16 ?_; refine Jf 17 ?_; (apply h_idx hA 18; (case hi => rfl); (case hr => kernel_rfl); (case hfr => kernel_rfl); (case hsel => kernel_rfl); (case hg => rfl); (case hd => rfl); (case i1 => infer_instance); (case i2 => infer_instance); (case hx => rfl); (case hy => rfl); (case hm => rfl); (case hu => exact hs); intro u3 (hu3 : Pts _ u3 [.int .i64 s.version, .int .i64 s.from_, .int .i64 s.to, strV s.name])); refine Jf 19 ?_; (apply h_first 20; (case hi => rfl); (case hr => kernel_rfl); (case hfr => kernel_rfl); (case hsel => kernel_rfl); (case hg => rfl); (case hd => rfl); (case he => (apply ev_load_f; (case hx => rfl); (case h => exact hu3); (case hv => rfl)))); refine Jf 21 ?_; refine Jf 22 ?_; (refine Jf 23 ?_; rw [hjj]); (apply h_idx hA 24; (case hi => rfl); (case hr => kernel_rfl); (case hfr => kernel_rfl); (case hsel => kernel_rfl); (case hg => rfl); (case hd => rfl); (case i1 => infer_instance); (case i2 => infer_instance); (case hx => rfl); (case hy => rfl); (case hm => rfl); (case hu => exact hp); intro u4 (hu4 : Pts _ u4 [.int .i64 p.version, .int .i64 p.from_, .int .i64 p.to, strV p.name])); refine Jf 25 ?_; (apply h_first 26; (case hi => rfl); (case hr => kernel_rfl); (case hfr => kernel_rfl); (case hsel => kernel_rfl); (case hg => rfl); (case hd => rfl); (case he => (apply ev_load_f; (case hx => rfl); (case h => exact hu4); (case hv => rfl)))); refine Jf 27 ?_; refine Jf 28 ?_; refine Jf 29 ?_; refine Jf 30 ?_; refine Jf 31 ?_; refine Jf 32 ?_; refine Jf 33 ?_; refine Jf 34 ?_; refine Jf 35 ?_; refine Jf 36 ?_; refine Jf 37 ?_; refine Jf 38 ?_; refine Jf 39 ?_; refine Jf 40 ?_; refine Jf 41 ?_; refine Jf 42 ?_; refine Jf 43 ?_; (apply h_end; (case hr => kernel_rfl)))
    (repeat (first | refine Jz ?_ | intro _))
    exact q_back (L' := []) (m' := l.length - ((j + 1) + 1)) ⟨rfl, rfl, j + 1 + 1, rfl, by omega, hto, rfl⟩ (by omega) sbF (List.nil_sublist _)
  by_cases b3 : s.from_ < p.to
  · have hno := hbad (.inr ⟨b2, b3⟩)
    (repeat (first | refine Jz ?_ | intro _))
    ((apply c_held ([]); (case hL => (exact sbT))); refine Jf 0 ?_; refine Jf 1 ?_; refine Jf 2 ?_; refine Jf 3 ?_; refine Jf 4 ?_; (apply h_idx hA 5; (case hi => rfl); (case hr => kernel_rfl); (case hfr => kernel_rfl); (case hsel => kernel_rfl); (case hg => rfl); (case hd => rfl); (case i1 => infer_instance); (case i2 => infer_instance); (case hx => rfl); (case hy => rfl); (case hm => rfl); (case hu => exact hs); intro u1 (hu1 : Pts _ u1 [.int .i64 s.version, .int .i64 s.from_, .int .i64 s.to, strV s.name])); refine Jf 6 ?_; (apply h_first 7; (case hi => rfl); (case hr => kernel_rfl); (case hfr => kernel_rfl); (case hsel => kernel_rfl); (case hg => rfl); (case hd => rfl); (case he => (apply ev_load_f; (case hx => rfl); (case h => exact hu1); (case hv => rfl)))); refine Jf 8 ?_; refine Jf 9 ?_; (refine Jf 10 ?_; rw [hjj]); (apply h_idx hA 11; (case hi => rfl); (case hr => kernel_rfl); (case hfr => kernel_rfl); (case hsel => kernel_rfl); (case hg => rfl); (case hd => rfl); (case i1 => infer_instance); (case i2 => infer_instance); (case hx => rfl); (case hy => rfl); (case hm => rfl); (case hu => exact hp); intro u2 (hu2 : Pts _ u2 [.int .i64 p.version, .int .i64 p.from_, .int .i64 p.to, strV p.name])); refine Jf 12 ?_; (apply h_first 13; (case hi => rfl); (case hr => kernel_rfl); (case hfr => kernel_rfl); (case hsel => kernel_rfl); (case hg => rfl); (case hd => rfl); (case he => (apply ev_load_f; (case hx => rfl); (case h => exact hu2); (case hv => rfl)))); refine Jf 14 ?_; refine Jf 15 ?_; refine Jf 16 ?_; refine Jf 17 ?_; (apply h_idx hA 18; (case hi => rfl); (case hr => kernel_rfl); (case hfr => kernel_rfl); (case hsel => kernel_rfl); (case hg => rfl); (case hd => rfl); (case i1 => infer_instance); (case i2 => infer_instance); (case hx => rfl); (case hy => rfl); (case hm => rfl); (case hu => exact hs); intro u3 (hu3 : Pts _ u3 [.int .i64 s.version, .int .i64 s.from_, .int .i64 s.to, strV s.name])); refine Jf 19 ?_; (apply h_first 20; (case hi => rfl); (case hr => kernel_rfl); (case hfr => kernel_rfl); (case hsel => kernel_rfl); (case hg => rfl); (case hd => rfl); (case he => (apply ev_load_f; (case hx => rfl); (case h => exact hu3); (case hv => rfl)))); refine Jf 21 ?_; refine Jf 22 ?_; (refine Jf 23 ?_; rw [hjj]); (apply h_idx hA 24; (case hi => rfl); (case hr => kernel_rfl); (case hfr => kernel_rfl); (case hsel => kernel_rfl); (case hg => rfl); (case hd => rfl); (case i1 => infer_instance); (case i2 => infer_instance); (case hx => rfl); (case hy => rfl); (case hm => rfl); (case hu => exact hp); intro u4 (hu4 : Pts _ u4 [.int .i64 p.version, .int .i64 p.from_, .int .i64 p.to, strV p.name])); refine Jf 25 ?_; (apply h_first 26; (case hi => rfl); (case hr => kernel_rfl); (case hfr => kernel_rfl); (case hsel => kernel_rfl); (case hg => rfl); (case hd => rfl); (case he => (apply ev_load_f; (case hx => rfl); (case h => exact hu4); (case hv => rfl)))); refine Jf 27 ?_; refine Jf 28 ?_; refine Jf 29 ?_; refine Jf 30 ?_; (apply h_idx hA 31; (case hi => rfl); (case hr => kernel_rfl); (case hfr => kernel_rfl); (case hsel => kernel_rfl); (case hg => rfl); (case hd => rfl); (case i1 => infer_instance); (case i2 => infer_instance); (case hx => rfl); (case hy => rfl); (case hm => rfl); (case hu => exact hs); intro u5 (hu5 : Pts _ u5 [.int .i64 s.version, .int .i64 s.from_, .int .i64 s.to, strV s.name])); refine Jf 32 ?_; (apply h_first 33; (case hi => rfl); (case hr => kernel_rfl); (case hfr => kernel_rfl); (case hsel => kernel_rfl); (case hg => rfl); (case hd => rfl); (case he => (apply ev_load_f; (case hx => rfl); (case h => exact hu5); (case hv => rfl)))); refine Jf 34 ?_; refine Jf 35 ?_; (refine Jf 36 ?_; rw [hjj]); (apply h_idx hA 37; (case hi => rfl); (case hr => kernel_rfl); (case hfr => kernel_rfl); (case hsel => kernel_rfl); (case hg => rfl); (case hd => rfl); (case i1 => infer_instance); (case i2 => infer_instance); (case hx => rfl); (case hy => rfl); (case hm => rfl); (case hu => exact hp); intro u6 (hu6 : Pts _ u6 [.int .i64 p.version, .int .i64 p.from_, .int .i64 p.to, strV p.name])); refine Jf 38 ?_; (apply h_first 39; (case hi => rfl); (case hr => kernel_rfl); (case hfr => kernel_rfl); (case hsel => kernel_rfl); (case hg => rfl); (case hd => rfl); (case he => (apply ev_load_f; (case hx => rfl); (case h => exact hu6); (case hv => rfl)))); refine Jf 40 ?_; refine Jf 41 ?_; refine Jf 42 ?_; refine Jf 43 ?_; (apply h_end; (case hr => kernel_rfl)))
    (repeat (first | refine Jz ?_ | intro _))
    exact o_ret Try.results32 rfl (List.nil_sublist _) ⟨rfl, false, rfl, (fun h => absurd h Bool.false_ne_true), fun h => absurd h hno⟩
  · have hto := hgood (by omega)
    (repeat (first | refine Jz ?_ | intro _))
    ((apply c_held ([]); (case hL => (exact sbT))); refine Jf 0 ?_; refine Jf 1 ?_; refine Jf 2 ?_; refine Jf 3 ?_; refine Jf 4 ?_; (apply h_idx hA 5; (case hi => rfl); (case hr => kernel_rfl); (case hfr => kernel_rfl); (case hsel => kernel_rfl); (case hg => rfl); (case hd => rfl); (case i1 => infer_instance); (case i2 => infer_instance); (case hx => rfl); (case hy => rfl); (case hm => rfl); (case hu => exact hs); intro u1 (hu1 : Pts _ u1 [.int .i64 s.version, .int .i64 s.from_, .int .i64 s.to, strV s.name])); refine Jf 6 ?_; (apply h_first 7; (case hi => rfl); (case hr => kernel_rfl); (case hfr => kernel_rfl); (case hsel => kernel_rfl); (case hg => rfl); (case hd => rfl); (case he => (apply ev_load_f; (case hx => rfl); (case h => exact hu1); (case hv => rfl)))); refine Jf 8 ?_; refine Jf 9 ?_; (refine Jf 10 ?_; rw [hjj]); (apply h_idx hA 11; (case hi => rfl); (case hr => kernel_rfl); (case hfr => kernel_rfl); (case hsel => kernel_rfl); (case hg => rfl); (case hd => rfl); (case i1 => infer_instance); (case i2 => infer_instance); (case hx => rfl); (case hy => rfl); (case hm => rfl); (case hu => exact hp); intro u2 (hu2 : Pts _ u2 [.int .i64 p.version, .int .i64 p.from_, .int .i64 p.to, strV p.name])); refine Jf 12 ?_; (apply h_first 13; (case hi => rfl); (case hr => kernel_rfl); (case hfr => kernel_rfl); (case hsel => kernel_rfl); (case hg => rfl); (case hd => rfl); (case he => (apply ev_load_f; (case hx => rfl); (case h => exact hu2); (case hv => rfl)))); refine Jf 14 ?_; refine Jf 15 ?_; refine Jf 16 ?_; refine Jf 17 ?_; (apply h_idx hA 18; (case hi => rfl); (case hr => kernel_rfl); (case hfr => kernel_rfl); (case hsel => kernel_rfl); (case hg => rfl); (case hd => rfl); (case i1 => infer_instance); (case i2 => infer_instance); (case hx => rfl); (case hy => rfl); (case hm => rfl); (case hu => exact hs); intro u3 (hu3 : Pts _ u3 [.int .i64 s.version, .int .i64 s.from_, .int .i64 s.to, strV s.name])); refine Jf 19 ?_; (apply h_first 20; (case hi => rfl); (case hr => kernel_rfl); (case hfr => kernel_rfl); (case hsel => kernel_rfl); (case hg => rfl); (case hd => rfl); (case he => (apply ev_load_f; (case hx => rfl); (case h => exact hu3); (case hv => rfl)))); refine Jf 21 ?_; refine Jf 22 ?_; (refine Jf 23 ?_; rw [hjj]); (apply h_idx hA 24; (case hi => rfl); (case hr => kernel_rfl); (case hfr => kernel_rfl); (case hsel => kernel_rfl); (case hg => rfl); (case hd => rfl); (case i1 => infer_instance); (case i2 => infer_instance); (case hx => rfl); (case hy => rfl); (case hm => rfl); (case hu => exact hp); intro u4 (hu4 : Pts _ u4 [.int .i64 p.version, .int .i64 p.from_, .int .i64 p.to, strV p.name])); refine Jf 25 ?_; (apply h_first 26; (case hi => rfl); (case hr => kernel_rfl); (case hfr => kernel_rfl); (case hsel => kernel_rfl); (case hg => rfl); (case hd => rfl); (case he => (apply ev_load_f; (case hx => rfl); (case h => exact hu4); (case hv => rfl)))); refine Jf 27 ?_; refine Jf 28 ?_; refine Jf 29 ?_; refine Jf 30 ?_; (apply h_idx hA 31; (case hi => rfl); (case hr => kernel_rfl); (case hfr => kernel_rfl); (case hsel => kernel_rfl); (case hg => rfl); (case hd => rfl); (case i1 => infer_instance); (case i2 => infer_instance); (case hx => rfl); (case hy => rfl); (case hm => rfl); (case hu => exact hs); intro u5 (hu5 : Pts _ u5 [.int .i64 s.version, .int .i64 s.from_, .int .i64 s.to, strV s.name])); refine Jf 32 ?_; (apply h_first 33; (case hi => rfl); (case hr => kernel_rfl); (case hfr => kernel_rfl); (case hsel => kernel_rfl); (case hg => rfl); (case hd => rfl); (case he => (apply ev_load_f; (case hx => rfl); (case h => exact hu5); (case hv => rfl)))); refine Jf 34 ?_; refine Jf 35 ?_; (refine Jf 36 ?_; rw [hjj]); (apply h_idx hA 37; (case hi => rfl); (case hr => kernel_rfl); (case hfr => kernel_rfl); (case hsel => kernel_rfl); (case hg => rfl); (case hd => rfl); (case i1 => infer_instance); (case i2 => infer_instance); (case hx => rfl); (case hy => rfl); (case hm => rfl); (case hu => exact hp); intro u6 (hu6 : Pts _ u6 [.int .i64 p.version, .int .i64 p.from_, .int .i64 p.to, strV p.name])); refine Jf 38 ?_; (apply h_first 39; (case hi => rfl); (case hr => kernel_rfl); (case hfr => kernel_rfl); (case hsel => kernel_rfl); (case hg => rfl); (case hd => rfl); (case he => (apply ev_load_f; (case hx => rfl); (case h => exact hu6); (case hv => rfl)))); refine Jf 40 ?_; refine Jf 41 ?_; refine Jf 42 ?_; refine Jf 43 ?_; (apply h_end; (case hr => kernel_rfl)))
    (repeat (first | refine Jz ?_ | intro _))
    exact q_back (L' := []) (m' := l.length - ((j + 1) + 1)) ⟨rfl, rfl, j + 1 + 1, rfl, by omega, hto, rfl⟩ (by omega) sbF (List.nil_sublist _)
end Go.Proofs.Ytcnfchchanlepaa
namespace Go.Proofs.Ytcnfchchanlepaa
open Go Go.X
set_option linter.unusedVariables false
set_option maxRecDepth 10000
set_option linter.unusedVariables false
attribute [local irreducible] Code.wpIn wpListIn Exit.then Exit.inBlock X.Out X.Back X.W X.Ev X.Con X.BinV X.Wh X.Wn X.Wq
set_option maxHeartbeats 6400000 in
theorem rStacks_con (xs : List Stk) (ys : List Sk) (A : Option Addr) (c : Nat) (S : SH) (hA : At S A xs) (hl : xs.length ≤ 1000000) (hy : SkL S xs ys) :
    Con Try.prog 33 #[.slice A xs.length c] S [] (X.Pure S (.bool (sksB ys))) := by
  refine con_of (args := [.slice A xs.length c]) Try.func33 rfl Try.ntmps33 rfl fun w => ?_
  have hxy := hy.1
  unfold sksB
  by_cases hl1 : ys.length ≤ 100
  rotate_left
  · rw [decide_eq_false hl1, Bool.and_false]
    (repeat (first | refine Jz ?_ | intro _))
    exact o_ret Try.results33 rfl (List.nil_sublist _) ⟨rfl, rfl, rfl⟩
  rw [decide_eq_true hl1, Bool.and_true]
  (repeat (first | refine Jz ?_ | intro _))
  refine c_loop (fun m S' L F => S = S' ∧ L = [] ∧ ∃ (k : Nat), m = xs.length - k ∧ k ≤ xs.length ∧ (ys.take k).all skB = true ∧ F = [(0, .slice A xs.length c), (3, .int .i64 k)]) ⟨rfl, rfl, 0, rfl, by omega, rfl, rfl⟩ sbF (List.nil_sublist _) ?_
  rintro m S1 L F ⟨rfl, rfl, k, rfl, hk, hi, rfl⟩
  by_cases hlt : k < xs.length
  rotate_left
  · rw [List.take_of_length_le (by omega)] at hi
    rw [hi]
    (repeat (first | refine Jz ?_ | intro _))
    exact o_ret Try.results33 rfl (List.nil_sublist _) ⟨rfl, rfl, rfl⟩
  obtain ⟨x, hx⟩ := at_lt hlt
  obtain ⟨y, hyk⟩ : ∃ y, ys[k]? = some y := at_lt (by omega)
  have hym := List.mem_of_getElem? hyk
  obtain ⟨s1, s2, s3, s4, s5⟩ := hy.2 k x y hx hyk
  have hs : (ys.take (k + 1)).all skB = skB y := by rw [take_at hyk, List.all_append, hi]; simp
  have hall : skB y = false → ys.all skB = false := fun h => List.all_eq_false.2 ⟨y, hym, by rw [h]; decide⟩
  obtain ⟨xv, ⟨xa, xm, xc⟩, xw⟩ := x
  simp only at s1 s2 s3 s4 s5
  subst s1; subst s2; subst s3
  have hc1 := fun S r h => rin_t y.version 0 9 S r h
  have hc2 := fun S r h => rin_t y.weight 1 1000000 S r h
  obtain ⟨v1, hv1⟩ : ∃ b, inB y.version 0 9 = b := ⟨_, rfl⟩
  obtain ⟨v2, hv2⟩ : ∃ b, inB y.weight 1 1000000 = b := ⟨_, rfl⟩
  cases v1
  · rw [hall (by unfold skB; rw [hv1]; rfl)]
    (repeat (first | refine Jc ?_ | (apply s_idx hA; (case hg => rfl); (case hd => rfl); (case hx => rfl); (case hi => rfl); (case hm => rfl); (case hu => exact hx); intro q (hq : Pts _ q [.int .i64 y.version, .slice xa y.frames.length xc, .int .i64 y.weight])) | (apply s_load_f; (case hg => rfl); (case hd => rfl); (case hx => rfl); (case h => exact hq); (case hv => rfl)) | (apply z_call; rfl; rfl; rfl; exact hc1 _ _ hv1; rintro _ _ _ - ⟨rfl, rfl, rfl⟩) | (apply z_call; rfl; rfl; rfl; exact hc2 _ _ hv2; rintro _ _ _ - ⟨rfl, rfl, rfl⟩) | refine Jo ?_ | intro _))
    exact o_ret Try.results33 rfl (List.nil_sublist _) ⟨rfl, rfl, rfl⟩
  by_cases hf : y.frames.length ≤ 12
  rotate_left
  · rw [hall (by unfold skB; rw [hv1, decide_eq_false hf]; rfl)]
    (repeat (first | refine Jc ?_ | (apply s_idx hA; (case hg => rfl); (case hd => rfl); (case hx => rfl); (case hi => rfl); (case hm => rfl); (case hu => exact hx); intro q (hq : Pts _ q [.int .i64 y.version, .slice xa y.frames.length xc, .int .i64 y.weight])) | (apply s_load_f; (case hg => rfl); (case hd => rfl); (case hx => rfl); (case h => exact hq); (case hv => rfl)) | (apply z_call; rfl; rfl; rfl; exact hc1 _ _ hv1; rintro _ _ _ - ⟨rfl, rfl, rfl⟩) | (apply z_call; rfl; rfl; rfl; exact hc2 _ _ hv2; rintro _ _ _ - ⟨rfl, rfl, rfl⟩) | refine Jo ?_ | intro _))
    exact o_ret Try.results33 rfl (List.nil_sublist _) ⟨rfl, rfl, rfl⟩
  cases v2
  · rw [hall (by unfold skB; rw [hv1, hv2, decide_eq_true hf]; rfl)]
    (repeat (first | refine Jc ?_ | (apply s_idx hA; (case hg => rfl); (case hd => rfl); (case hx => rfl); (case hi => rfl); (case hm => rfl); (case hu => exact hx); intro q (hq : Pts _ q [.int .i64 y.version, .slice xa y.frames.length xc, .int .i64 y.weight])) | (apply s_load_f; (case hg => rfl); (case hd => rfl); (case hx => rfl); (case h => exact hq); (case hv => rfl)) | (apply z_call; rfl; rfl; rfl; exact hc1 _ _ hv1; rintro _ _ _ - ⟨rfl, rfl, rfl⟩) | (apply z_call; rfl; rfl; rfl; exact hc2 _ _ hv2; rintro _ _ _ - ⟨rfl, rfl, rfl⟩) | refine Jo ?_ | intro _))
    exact o_ret Try.results33 rfl (List.nil_sublist _) ⟨rfl, rfl, rfl⟩
  have hskb : skB y = !y.frames.any isOut := by unfold skB; rw [hv1, hv2, decide_eq_true hf]; rfl
  (repeat (first | refine Jc ?_ | (apply s_idx hA; (case hg => rfl); (case hd => rfl); (case hx => rfl); (case hi => rfl); (case hm => rfl); (case hu => exact hx); intro q (hq : Pts _ q [.int .i64 y.version, .slice xa y.frames.length xc, .int .i64 y.weight])) | (apply s_load_f; (case hg => rfl); (case hd => rfl); (case hx => rfl); (case h => exact hq); (case hv => rfl)) | (apply z_call; rfl; rfl; rfl; exact hc1 _ _ hv1; rintro _ _ _ - ⟨rfl, rfl, rfl⟩) | (apply z_call; rfl; rfl; rfl; exact hc2 _ _ hv2; rintro _ _ _ - ⟨rfl, rfl, rfl⟩) | refine Jo ?_ | intro _))
  refine c_loop (fun m S' L F => S = S' ∧ L = [] ∧ ∃ (j : Nat), m = y.frames.length - j ∧ j ≤ y.frames.length ∧ (y.frames.take j).any isOut = false ∧ F = [(0, .slice A xs.length c), (3, .int .i64 k), (4, .int .i64 j)]) ⟨rfl, rfl, 0, rfl, by omega, rfl, rfl⟩ sbF (List.nil_sublist _) ?_
  rintro m S1 L F ⟨rfl, rfl, j, rfl, hj, hij, rfl⟩
  by_cases hlj : j < y.frames.length
  rotate_left
  · rw [List.take_of_length_le (by omega)] at hij
    rw [hskb, hij] at hs
    (repeat (first | refine Jc ?_ | (apply s_idx hA; (case hg => rfl); (case hd => rfl); (case hx => rfl); (case hi => rfl); (case hm => rfl); (case hu => exact hx); intro q (hq : Pts _ q [.int .i64 y.version, .slice xa y.frames.length xc, .int .i64 y.weight])) | (apply s_load_f; (case hg => rfl); (case hd => rfl); (case hx => rfl); (case h => exact hq); (case hv => rfl)) | (apply z_call; rfl; rfl; rfl; exact hc1 _ _ hv1; rintro _ _ _ - ⟨rfl, rfl, rfl⟩) | (apply z_call; rfl; rfl; rfl; exact hc2 _ _ hv2; rintro _ _ _ - ⟨rfl, rfl, rfl⟩) | refine Jo ?_ | intro _))
    exact q_back (L' := []) (m' := xs.length - (k + 1)) ⟨rfl, rfl, k + 1, rfl, by omega, hs, rfl⟩ (by omega) sbF (List.nil_sublist _)
  obtain ⟨a, ha⟩ := at_lt hlj
  have hsj : (y.frames.take (j + 1)).any isOut = isOut a := by rw [take_at ha, List.any_append, hij]; simp
  cases hao : isOut a
  · rw [hao] at hsj
    have hva : inB a 0 1000000 = true := by unfold isOut at hao; simpa using hao
    (repeat (first | refine Jc ?_ | (apply s_idx hA; (case hg => rfl); (case hd => rfl); (case hx => rfl); (case hi => rfl); (case hm => rfl); (case hu => exact hx); intro q (hq : Pts _ q [.int .i64 y.version, .slice xa y.frames.length xc, .int .i64 y.weight])) | (apply s_load_f; (case hg => rfl); (case hd => rfl); (case hx => rfl); (case h => exact hq); (case hv => rfl)) | (apply s_idx s5; (case hg => rfl); (case hd => rfl); (case hx => rfl); (case hi => rfl); (case hm => rfl); (case hu => exact ha); intro q2 (hq2 : Pts _ q2 [.int .i64 a])) | (apply s_load1; (case hg => rfl); (case hd => rfl); (case hx => rfl); (case hv => exact hq2)) | (apply z_call; rfl; rfl; rfl; exact rin_t a 0 1000000 _ _ hva; rintro _ _ _ - ⟨rfl, rfl, rfl⟩) | refine Jo ?_ | intro _))
    exact q_back (L' := []) (m' := y.frames.length - (j + 1)) ⟨rfl, rfl, j + 1, rfl, by omega, hsj, rfl⟩ (by omega) sbF (List.nil_sublist _)
  · have hva : inB a 0 1000000 = false := by unfold isOut at hao; simpa using hao
    rw [hall (by rw [hskb, List.any_eq_true.2 ⟨a, List.mem_of_getElem? ha, hao⟩]; rfl)]
    (repeat (first | refine Jc ?_ | (apply s_idx hA; (case hg => rfl); (case hd => rfl); (case hx => rfl); (case hi => rfl); (case hm => rfl); (case hu => exact hx); intro q (hq : Pts _ q [.int .i64 y.version, .slice xa y.frames.length xc, .int .i64 y.weight])) | (apply s_load_f; (case hg => rfl); (case hd => rfl); (case hx => rfl); (case h => exact hq); (case hv => rfl)) | (apply s_idx s5; (case hg => rfl); (case hd => rfl); (case hx => rfl); (case hi => rfl); (case hm => rfl); (case hu => exact ha); intro q2 (hq2 : Pts _ q2 [.int .i64 a])) | (apply s_load1; (case hg => rfl); (case hd => rfl); (case hx => rfl); (case hv => exact hq2)) | (apply z_call; rfl; rfl; rfl; exact rin_t a 0 1000000 _ _ hva; rintro _ _ _ - ⟨rfl, rfl, rfl⟩) | refine Jo ?_ | intro _))
    exact o_ret Try.results33 rfl (List.nil_sublist _) ⟨rfl, rfl, rfl⟩
end Go.Proofs.Ytcnfchchanlepaa
namespace Go.Proofs.Ytcnfchchanlepaa
open Go Go.X
set_option linter.unusedVariables false
/-- A weight added to a list that is ordered by paths. -/
def addF : List Ch → List Bs → Int → List Ch
  | [], q, n => [(q, n)]
  | y :: l, q, n => if cmpP y.1 q < 0 then y :: addF l q n else if cmpP y.1 q = 0 then (y.1, y.2 + n) :: l else (q, n) :: y :: l
theorem addF_skip {q : List Bs} {n : Int} {l2 : List Ch} : ∀ {l1 : List Ch}, (∀ y ∈ l1, cmpP y.1 q < 0) → addF (l1 ++ l2) q n = l1 ++ addF l2 q n
  | [], _ => rfl
  | y :: l1, h => by
    rw [List.cons_append, addF, if_pos (h y List.mem_cons_self), addF_skip fun z hz => h z (List.mem_cons_of_mem _ hz)]; rfl
theorem addF_at {q : List Bs} {n : Int} {ys : List Ch} {k : Nat} (h : ∀ y ∈ ys.take k, cmpP y.1 q < 0) : addF ys q n = ys.take k ++ addF (ys.drop k) q n := by
  conv => lhs; rw [← List.take_append_drop k ys]
  exact addF_skip h
theorem drop_at {α : Type} {l : List α} {k : Nat} {x : α} (h : l[k]? = some x) : l.drop k = x :: l.drop (k + 1) := by
  obtain ⟨h1, rfl⟩ := List.getElem?_eq_some_iff.1 h
  exact List.drop_eq_getElem_cons h1
theorem addF_hit {q : List Bs} {n : Int} {ys : List Ch} {k : Nat} {y : Ch} (h : ∀ y ∈ ys.take k, cmpP y.1 q < 0) (hy : ys[k]? = some y) (hz : cmpP y.1 q = 0) : addF ys q n = ys.set k (y.1, y.2 + n) := by
  rw [addF_at h, drop_at hy, addF, if_neg (by omega), if_pos hz, List.set_eq_take_append_cons_drop, if_pos (List.getElem?_eq_some_iff.1 hy).1]
theorem addF_new {q : List Bs} {n : Int} {ys : List Ch} {k : Nat} (h : ∀ y ∈ ys.take k, cmpP y.1 q < 0) (h2 : ∀ y, ys[k]? = some y → 0 < cmpP y.1 q) : addF ys q n = ys.take k ++ (q, n) :: ys.drop k := by
  rw [addF_at h]
  cases hd : ys[k]? with
  | none =>
    have : ys.drop k = [] := List.drop_eq_nil_of_le (List.getElem?_eq_none_iff.1 hd)
    rw [this]; rfl
  | some y =>
    have := h2 y hd
    rw [drop_at hd, addF, if_neg (by omega), if_neg (by omega)]
theorem ChL.app {S : SH} {xs xs2 : List Cg} {ys ys2 : List Ch} (h : ChL S xs ys) (k : ChL S xs2 ys2) : ChL S (xs ++ xs2) (ys ++ ys2) := by
  refine ⟨by rw [List.length_append, List.length_append, h.1, k.1], fun i x' y' h1 h2 => ?_⟩
  by_cases hi : i < xs.length
  · rw [List.getElem?_append_left hi] at h1
    rw [List.getElem?_append_left (by rw [← h.1]; exact hi)] at h2
    exact h.2 i x' y' h1 h2
  · rw [List.getElem?_append_right (by omega)] at h1
    rw [List.getElem?_append_right (by rw [← h.1]; omega)] at h2
    rw [← h.1] at h2
    exact k.2 _ x' y' h1 h2
theorem ChL.take {S : SH} {xs : List Cg} {ys : List Ch} (h : ChL S xs ys) (k : Nat) : ChL S (xs.take k) (ys.take k) := by
  refine ⟨by rw [List.length_take, List.length_take, h.1], fun i x y h1 h2 => ?_⟩
  rw [List.getElem?_take] at h1 h2
  by_cases hi : i < k
  · rw [if_pos hi] at h1 h2; exact h.2 i x y h1 h2
  · rw [if_neg hi] at h1; cases h1
theorem ChL.drop {S : SH} {xs : List Cg} {ys : List Ch} (h : ChL S xs ys) (k : Nat) : ChL S (xs.drop k) (ys.drop k) := by
  refine ⟨by rw [List.length_drop, List.length_drop, h.1], fun i x y h1 h2 => ?_⟩
  rw [List.getElem?_drop] at h1 h2
  exact h.2 _ x y h1 h2
theorem ChL.set {S : SH} {xs : List Cg} {ys : List Ch} (h : ChL S xs ys) (k : Nat) {x : Cg} {y : Ch} (hx : cgR S x y) : ChL S (xs.set k x) (ys.set k y) := by
  refine ⟨by rw [List.length_set, List.length_set, h.1], fun i x' y' h1 h2 => ?_⟩
  rw [List.getElem?_set] at h1 h2
  by_cases hi : k = i
  · subst hi
    rw [if_pos rfl] at h1 h2
    split at h1
    · split at h2
      · obtain rfl := Option.some.inj h1
        obtain rfl := Option.some.inj h2
        exact hx
      · cases h2
    · cases h1
  · rw [if_neg hi] at h1 h2
    exact h.2 i x' y' h1 h2
theorem cg_cells {xs : List Cg} {k : Nat} {x : Cg} (h : xs[k]? = some x) (tl : List Value) : (cellsOf xs ++ tl)[k * 2 + 0]? = some (.slice x.path.a x.path.m x.path.c) ∧ (cellsOf xs ++ tl)[k * 2 + 1]? = some (.int .i64 x.by_) := by
  have h0 : (cellsOf xs)[k * 2 + 0]? = some (.slice x.path.a x.path.m x.path.c) := cellsOf_at xs k x h 0 (.slice x.path.a x.path.m x.path.c) rfl
  have h1 : (cellsOf xs)[k * 2 + 1]? = some (.int .i64 x.by_) := cellsOf_at xs k x h 1 (.int .i64 x.by_) rfl
  rw [List.getElem?_append_left (List.getElem?_eq_some_iff.1 h0).1, List.getElem?_append_left (List.getElem?_eq_some_iff.1 h1).1]
  exact ⟨h0, h1⟩
theorem cg_set (tl : List Value) {n : Int} : ∀ {xs : List Cg} {k : Nat} {x : Cg}, xs[k]? = some x → (cellsOf xs ++ tl).set (k * 2 + 1) (.int .i64 n) = cellsOf (xs.set k ⟨x.path, n⟩) ++ tl
  | a :: xs, 0, x, h => by
    obtain rfl : a = x := by simpa using h
    rfl
  | a :: xs, k + 1, x, h => by
    have h2 : xs[k]? = some x := by simpa using h
    have e : (k + 1) * 2 + 1 = (k * 2 + 1) + 1 + 1 := by omega
    rw [List.set_cons_succ, cellsOf_cons, cellsOf_cons, e]
    have e2 : (Cl.cells a ++ cellsOf xs ++ tl) = .slice a.path.a a.path.m a.path.c :: .int .i64 a.by_ :: (cellsOf xs ++ tl) := rfl
    rw [e2, List.set_cons_succ, List.set_cons_succ, cg_set tl h2]
    rfl
  | [], k, x, h => by simp at h
set_option maxRecDepth 10000
set_option linter.unusedVariables false
attribute [local irreducible] Code.wpIn wpListIn Exit.then Exit.inBlock X.Out X.Back X.W X.Ev X.Con X.BinV X.Wh X.Wn X.Wq
set_option maxHeartbeats 6400000 in
theorem radd_con (xs : List Cg) (ys : List Ch) (v : Value) (ob : Blocks) (q : List Bs) (A : Option Addr) (c : Nat) (n : Int) (S : SH) (ho : Ows 113 v xs ob) (hy : ChL S xs ys) (hl : xs.length ≤ 1000000) (hpl : ∀ y ∈ ys, y.1.length ≤ 1000000) (hq : q.length ≤ 1000000) (hA : At S A (toS q)) (hc : (toS q).length ≤ c)
    (hn : -1000000000000000000 ≤ n ∧ n ≤ 1000000000000000000) (hw : ∀ y ∈ ys, -1000000000000000000 ≤ y.2 ∧ y.2 ≤ 1000000000000000000) :
    Con Try.prog 34 #[v, .slice A (toS q).length c, .int .i64 n] S ob (fun S' L' r => Le S S' ∧ ∃ xs', Ows 113 r xs' L' ∧ ChL S' xs' (addF ys q n)) := by
  obtain ⟨Av, cv, hv⟩ := ho.form
  subst hv
  refine con_of (args := [.slice Av xs.length cv, .slice A (toS q).length c, .int .i64 n]) Try.func34 rfl Try.ntmps34 rfl fun w => ?_
  have tlq := toS_len q
  have hxy := hy.1
  (repeat (first | refine Jz ?_ | intro _))
  refine c_loop (fun m S' L F => S = S' ∧ L = ob ∧ ∃ (k : Nat), m = xs.length - k ∧ k ≤ xs.length ∧ (∀ y ∈ ys.take k, cmpP y.1 q < 0) ∧ F = [(0, .slice Av xs.length cv), (1, .slice A (toS q).length c), (2, .int .i64 n), (7, .int .i64 k)]) ⟨rfl, rfl, 0, rfl, by omega, (by simp), rfl⟩ sbF (List.Sublist.refl _) ?_
  rintro m S1 L F ⟨rfl, rfl, k, rfl, hk, hi, rfl⟩
  have hnew : ∀ (h2 : ∀ y, ys[k]? = some y → 0 < cmpP y.1 q), addF ys q n = (ys.take k ++ [(q, n)]) ++ ys.drop k := fun h2 => by rw [addF_new hi h2, List.append_assoc]; rfl
  have fin : ∀ {S2 : SH} {A2 : Option Addr}, Le S S2 → (∀ y, ys[k]? = some y → 0 < cmpP y.1 q) → ChL S2 ((xs.take k ++ [Cg.mk ⟨A, (toS q).length, c⟩ n]) ++ xs.drop k) (addF ys q n) := fun hle h2 => by
    rw [hnew h2]
    have h3 := hy.le hle
    exact ((h3.take k).app (ChL.cons ⟨rfl, rfl, hc, hA.le hle⟩ (ChL.nil _))).app (h3.drop k)
  by_cases hlt : k < xs.length
  rotate_left
  · have h2 : ∀ y, ys[k]? = some y → 0 < cmpP y.1 q := fun y hy' => by have := (List.getElem?_eq_some_iff.1 hy').1; omega
    refine W.freezeOws (L1 := []) ho (by simp) fun S2 hle2 hs2 => ?_
    obtain ⟨A2, c2, e2, hc2, hA2⟩ := hs2
    injection e2 with e3 e4 e5
    subst e3; subst e5
    have t1 : (xs.take k).length ≤ 1000000 := by rw [List.length_take]; omega
    have t2 : (xs.drop k).length ≤ 1000000 := by rw [List.length_drop]; omega
    (repeat (first | refine Jc ?_ | (apply s_slice_hi hA2; (case hg => rfl); (case hd => rfl); (case hx => rfl); (case hy => rfl); (case hm => rfl); (case hmc => omega); (case hj => omega); intro A3 hA3) | (apply s_append_st (ms := (xs.take k)) hA3; (case hg => rfl); (case hd => rfl); (case hx => rfl); (case ho => exact Ows.full (α := Cg) (l := []) rfl (by decide)); (case hL => (repeat (first | exact pm_nil _ | exact pm_refl _ _ | exact pm_self _ | apply pm_cons | apply pm_app))); (case hy => rfl); (case hm => first | rfl | simp); (case hzs => rfl); (case h0 => decide); (case hb => first | (simp; omega) | simp); (case h63 => first | (simp; omega) | simp); intro v7 ob7 ho7) | (apply s_evb; (case hg => rfl); (case hd => rfl); (case hn => rfl); (case he => (apply ev_buildS; (case hp => rfl); (case hz => rfl); (case h1 => rfl); (case hr => rfl)))) | (apply s_append (ms := [Cg.mk ⟨A, (toS q).length, c⟩ n]); (case hg => rfl); (case hd => rfl); (case hx => rfl); (case ho => exact ho7); (case hL => (repeat (first | exact pm_nil _ | exact pm_refl _ _ | exact pm_self _ | apply pm_cons | apply pm_app))); (case hy => rfl); (case hm => rfl); (case hs => (apply Src.own; (repeat (first | exact List.Mem.head _ | apply List.Mem.tail | apply List.mem_append_right)))); (case hzs => rfl); (case h0 => decide); (case hb => (simp; omega)); (case h63 => (simp; omega)); intro v8 ob8 ho8) | (apply s_slice_lo hA2; (case hg => rfl); (case hd => rfl); (case hx => rfl); (case hy => rfl); (case hm => rfl); (case hmc => omega); (case hj => omega); intro A4 hA4) | (apply s_append_st (ms := (xs.drop k)) hA4; (case hg => rfl); (case hd => rfl); (case hx => rfl); (case ho => exact ho8); (case hL => (repeat (first | exact pm_nil _ | exact pm_refl _ _ | exact pm_self _ | apply pm_cons | apply pm_app))); (case hy => rfl); (case hm => first | rfl | simp); (case hzs => rfl); (case h0 => decide); (case hb => first | (simp; omega) | simp); (case h63 => first | (simp; omega) | simp); intro v9 ob9 ho9) | refine Jo ?_ | intro _))
    exact o_ret (L' := ob9) Try.results34 rfl sbL ⟨hle2, _, ho9, fin (A2 := none) hle2 h2⟩
  obtain ⟨x, hx⟩ := at_lt hlt
  obtain ⟨y, hyk⟩ : ∃ y, ys[k]? = some y := at_lt (by omega)
  have hym := List.mem_of_getElem? hyk
  have hpy := hpl y hym
  have hwy := hw y hym
  obtain ⟨r0, r1, r2, r3⟩ := hy.2 k x y hx hyk
  obtain ⟨⟨xa, xm, xc⟩, xb⟩ := x
  obtain ⟨p, m⟩ := y
  simp only at r0 r1 r2 r3 hpy hwy
  subst r0; subst r1
  have tlp := toS_len p
  obtain ⟨z, hz⟩ : ∃ z, cmpP p q = z := ⟨_, rfl⟩
  have hcc := fun S hA hB => rCompare_con p q xa A xc c S hA hB hpy hq
  rw [hz] at hcc
  have hsk : ∀ (h : z < 0), ∀ y ∈ ys.take (k + 1), cmpP y.1 q < 0 := fun h y' hy' => by
    rw [take_at hyk] at hy'
    rcases List.mem_append.1 hy' with h2 | h2
    · exact hi y' h2
    · rw [List.mem_singleton.1 h2]; simp only; omega
  by_cases hz0 : 0 < z
  · have h2 : ∀ y, ys[k]? = some y → 0 < cmpP y.1 q := fun y hy' => by rw [hyk] at hy'; obtain rfl := Option.some.inj hy'; simp only; omega
    refine W.freezeOws (L1 := []) ho (by simp) fun S2 hle2 hs2 => ?_
    obtain ⟨A2, c2, e2, hc2, hA2⟩ := hs2
    injection e2 with e3 e4 e5
    subst e3; subst e5
    have t1 : (xs.take k).length ≤ 1000000 := by rw [List.length_take]; omega
    have t2 : (xs.drop k).length ≤ 1000000 := by rw [List.length_drop]; omega
    have r32 := r3.le hle2
    have hAq := hA.le hle2
    (repeat (first | refine Jc ?_ | (apply s_idx hA2; (case hg => rfl); (case hd => rfl); (case hx => rfl); (case hi => rfl); (case hm => rfl); (case hu => exact hx); intro u (hu : Pts _ u [.slice xa (toS p).length xc, .int .i64 xb])) | (apply s_load_f; (case hg => rfl); (case hd => rfl); (case hx => rfl); (case h => exact hu); (case hv => rfl)) | (apply s_call; (case hg => rfl); (case hd => rfl); (case ha => rfl); (case hc => exact hcc _ r32 hAq); (case hL => (repeat (first | exact pm_nil _ | exact pm_refl _ _ | exact pm_self _ | apply pm_cons | apply pm_app))); rintro _ _ _ - ⟨rfl, rfl, rfl⟩) | (apply s_slice_hi hA2; (case hg => rfl); (case hd => rfl); (case hx => rfl); (case hy => rfl); (case hm => rfl); (case hmc => omega); (case hj => omega); intro A3 hA3) | (apply s_append_st (ms := (xs.take k)) hA3; (case hg => rfl); (case hd => rfl); (case hx => rfl); (case ho => exact Ows.full (α := Cg) (l := []) rfl (by decide)); (case hL => (repeat (first | exact pm_nil _ | exact pm_refl _ _ | exact pm_self _ | apply pm_cons | apply pm_app))); (case hy => rfl); (case hm => first | rfl | simp); (case hzs => rfl); (case h0 => decide); (case hb => first | (simp; omega) | simp); (case h63 => first | (simp; omega) | simp); intro v7 ob7 ho7) | (apply s_evb; (case hg => rfl); (case hd => rfl); (case hn => rfl); (case he => (apply ev_buildS; (case hp => rfl); (case hz => rfl); (case h1 => rfl); (case hr => rfl)))) | (apply s_append (ms := [Cg.mk ⟨A, (toS q).length, c⟩ n]); (case hg => rfl); (case hd => rfl); (case hx => rfl); (case ho => exact ho7); (case hL => (repeat (first | exact pm_nil _ | exact pm_refl _ _ | exact pm_self _ | apply pm_cons | apply pm_app))); (case hy => rfl); (case hm => rfl); (case hs => (apply Src.own; (repeat (first | exact List.Mem.head _ | apply List.Mem.tail | apply List.mem_append_right)))); (case hzs => rfl); (case h0 => decide); (case hb => (simp; omega)); (case h63 => (simp; omega)); intro v8 ob8 ho8) | (apply s_slice_lo hA2; (case hg => rfl); (case hd => rfl); (case hx => rfl); (case hy => rfl); (case hm => rfl); (case hmc => omega); (case hj => omega); intro A4 hA4) | (apply s_append_st (ms := (xs.drop k)) hA4; (case hg => rfl); (case hd => rfl); (case hx => rfl); (case ho => exact ho8); (case hL => (repeat (first | exact pm_nil _ | exact pm_refl _ _ | exact pm_self _ | apply pm_cons | apply pm_app))); (case hy => rfl); (case hm => first | rfl | simp); (case hzs => rfl); (case h0 => decide); (case hb => first | (simp; omega) | simp); (case h63 => first | (simp; omega) | simp); intro v9 ob9 ho9) | refine Jo ?_ | intro _))
    exact o_ret (L' := ob9) Try.results34 rfl sbL ⟨hle2, _, ho9, fin (A2 := none) hle2 h2⟩
  obtain ⟨g, cap, tl, e1, rfl, u1, u2, u3⟩ := ho.rowed (by omega)
  injection e1 with e3 e4 e5
  subst e3; subst e5
  obtain ⟨hcl0, hcl1⟩ := cg_cells hx tl
  simp only at hcl0 hcl1
  by_cases hzn : z < 0
  · (repeat (first | refine Jc ?_ | (apply s_evb; (case hg => rfl); (case hd => rfl); (case hn => rfl); (case he => ((apply ev_idxo (j := k); (case hx => rfl); (case hi => rfl); (case hk => omega))))) | (apply s_evb; (case hg => rfl); (case hd => rfl); (case hn => rfl); (case he => ((apply ev_load_own; (case hx => rfl); (case hm => (repeat (first | exact List.Mem.head _ | apply List.Mem.tail | apply List.mem_append_right))); (case h => exact hcl0))))) | (apply s_call; (case hg => rfl); (case hd => rfl); (case ha => rfl); (case hc => exact hcc _ r3 hA); (case hL => (repeat (first | exact pm_nil _ | exact pm_refl _ _ | exact pm_self _ | apply pm_cons | apply pm_app))); rintro _ _ _ - ⟨rfl, rfl, rfl⟩) | refine Jo ?_ | intro _))
    exact q_back (L' := [(g, .cells (cellsOf xs ++ tl).toArray 113 (0, 0))]) (m' := xs.length - (k + 1)) ⟨rfl, rfl, k + 1, rfl, by omega, hsk hzn, rfl⟩ (by omega) sbF sbL
  · obtain rfl : z = 0 := by omega
    have hset := cg_set (n := xb + n) tl hx
    (repeat (first | refine Jc ?_ | (apply s_evb; (case hg => rfl); (case hd => rfl); (case hn => rfl); (case he => ((apply ev_idxo (j := k); (case hx => rfl); (case hi => rfl); (case hk => omega))))) | (apply s_evb; (case hg => rfl); (case hd => rfl); (case hn => rfl); (case he => ((apply ev_load_own; (case hx => rfl); (case hm => (repeat (first | exact List.Mem.head _ | apply List.Mem.tail | apply List.mem_append_right))); (case h => exact hcl0))))) | (apply s_call; (case hg => rfl); (case hd => rfl); (case ha => rfl); (case hc => exact hcc _ r3 hA); (case hL => (repeat (first | exact pm_nil _ | exact pm_refl _ _ | exact pm_self _ | apply pm_cons | apply pm_app))); rintro _ _ _ - ⟨rfl, rfl, rfl⟩) | (apply s_evb; (case hg => rfl); (case hd => rfl); (case hn => rfl); (case he => ((apply ev_load_own; (case hx => rfl); (case hm => (repeat (first | exact List.Mem.head _ | apply List.Mem.tail | apply List.mem_append_right))); (case h => exact hcl1))))) | (apply s_store; (case hg => rfl); (case hx => rfl); (case hy => rfl); (case h1 => rfl); (case hL => (repeat (first | exact Upd.head | apply Upd.tail | apply Upd.app))); (case hu => exact hcl1)) | refine Jo ?_ | intro _))
    have ex : (cellsOf (xs.set k ⟨⟨xa, (toS p).length, xc⟩, xb + n⟩) ++ tl).length = cv * Cl.size Cg := by rw [← hset, List.length_set]; exact u3
    rw [hset]
    exact o_ret (L' := [(g, .cells (cellsOf (xs.set k ⟨⟨xa, (toS p).length, xc⟩, xb + n⟩) ++ tl).toArray 113 (0, 0))]) Try.results34 rfl sbL ⟨Le.refl _, _, Ows.of_row (by rw [List.length_set]) u1 u2 ex, by rw [addF_hit hi hyk hz]; exact hy.set k ⟨rfl, rfl, r2, r3⟩⟩
end Go.Proofs.Ytcnfchchanlepaa
namespace Go.Proofs.Ytcnfchchanlepaa
open Go Go.X
set_option linter.unusedVariables false
theorem cmpP_neg {p q : List Bs} : cmpP p q < 0 ↔ p < q := by
  rw [cmpP_lt]
  rcases plt_tri p q with h | h | h
  · simp [h]
  · subst h; simp [plt_irr]
  · simp [h, plt_asymm h]
/-- What is laid at a path. -/
def valF (ys : List Ch) (p : List Bs) : Int := (ys.map fun y => if y.1 = p then y.2 else 0).sum
def KS (ys : List Ch) : Prop := ys.Pairwise fun a b => a.1 < b.1
theorem addF_cases (q : List Bs) (n : Int) : ∀ ys : List Ch, (∃ l y r, ys = l ++ y :: r ∧ y.1 = q ∧ (∀ x ∈ l, x.1 < q) ∧ addF ys q n = l ++ (q, y.2 + n) :: r) ∨ (∃ l r, ys = l ++ r ∧ (∀ x ∈ l, x.1 < q) ∧ (∀ y r', r = y :: r' → q < y.1) ∧ addF ys q n = l ++ (q, n) :: r)
  | [] => .inr ⟨[], [], rfl, by simp, by simp, rfl⟩
  | y :: ys => by
    by_cases h1 : cmpP y.1 q < 0
    · have h1' := cmpP_neg.1 h1
      have e : addF (y :: ys) q n = y :: addF ys q n := by rw [addF, if_pos h1]
      rcases addF_cases q n ys with ⟨l, z, r, rfl, h2, h3, h4⟩ | ⟨l, r, rfl, h2, h3, h4⟩
      · exact .inl ⟨y :: l, z, r, rfl, h2, fun x hx => (List.mem_cons.1 hx).elim (fun e => e ▸ h1') (h3 x), by rw [e, h4]; rfl⟩
      · exact .inr ⟨y :: l, r, rfl, fun x hx => (List.mem_cons.1 hx).elim (fun e => e ▸ h1') (h2 x), h3, by rw [e, h4]; rfl⟩
    · by_cases h2 : cmpP y.1 q = 0
      · have h2' := cmpP_eq0.1 h2
        exact .inl ⟨[], y, ys, rfl, h2', by simp, by rw [addF, if_neg h1, if_pos h2, h2']; rfl⟩
      · refine .inr ⟨[], y :: ys, rfl, by simp, fun z r' e => ?_, by rw [addF, if_neg h1, if_neg h2]; rfl⟩
        obtain ⟨rfl, rfl⟩ := List.cons.inj e
        rcases plt_tri y.1 q with h | h | h
        · exact absurd (cmpP_neg.2 h) h1
        · exact absurd (cmpP_eq0.2 h) h2
        · exact h
theorem addF_val (ys : List Ch) (q : List Bs) (n : Int) (p : List Bs) : valF (addF ys q n) p = valF ys p + if q = p then n else 0 := by
  unfold valF
  rcases addF_cases q n ys with ⟨l, y, r, rfl, h2, h3, h4⟩ | ⟨l, r, rfl, h2, h3, h4⟩
  · rw [h4]
    simp only [List.map_append, List.map_cons, List.sum_append, List.sum_cons, h2]
    split <;> omega
  · rw [h4]
    simp only [List.map_append, List.map_cons, List.sum_append, List.sum_cons]
    omega
theorem addF_keys (ys : List Ch) (q : List Bs) (n : Int) (p : List Bs) : p ∈ (addF ys q n).map (·.1) ↔ p = q ∨ p ∈ ys.map (·.1) := by
  rcases addF_cases q n ys with ⟨l, y, r, rfl, h2, h3, h4⟩ | ⟨l, r, rfl, h2, h3, h4⟩
  · rw [h4]
    simp only [List.map_append, List.map_cons, List.mem_append, List.mem_cons, h2]
    constructor
    · rintro (h | h | h)
      · exact .inr (.inl h)
      · exact .inl h
      · exact .inr (.inr (.inr h))
    · rintro (h | h | h | h)
      · exact .inr (.inl h)
      · exact .inl h
      · exact .inr (.inl h)
      · exact .inr (.inr h)
  · rw [h4]
    simp only [List.map_append, List.map_cons, List.mem_append, List.mem_cons]
    constructor
    · rintro (h | h | h)
      · exact .inr (.inl h)
      · exact .inl h
      · exact .inr (.inr h)
    · rintro (h | h | h)
      · exact .inr (.inl h)
      · exact .inl h
      · exact .inr (.inr h)
theorem addF_srt {ys : List Ch} (h : KS ys) (q : List Bs) (n : Int) : KS (addF ys q n) := by
  unfold KS at *
  rcases addF_cases q n ys with ⟨l, y, r, rfl, h2, h3, h4⟩ | ⟨l, r, rfl, h2, h3, h4⟩
  · rw [h4]
    rw [List.pairwise_append, List.pairwise_cons] at h ⊢
    obtain ⟨a, ⟨b, c⟩, d⟩ := h
    refine ⟨a, ⟨fun z hz => by have := b z hz; rw [h2] at this; exact this, c⟩, fun x hx z hz => ?_⟩
    rcases List.mem_cons.1 hz with e | e
    · rw [e]; exact h3 x hx
    · exact d x hx z (List.mem_cons_of_mem _ e)
  · rw [h4]
    rw [List.pairwise_append] at h ⊢
    obtain ⟨a, b, d⟩ := h
    have hq : ∀ z ∈ r, q < z.1 := fun z hz => by
      cases r with
      | nil => cases hz
      | cons y r' =>
        have := h3 y r' rfl
        rcases List.mem_cons.1 hz with e | e
        · rw [e]; exact this
        · exact plt_trans this ((List.pairwise_cons.1 b).1 z e)
    refine ⟨a, List.pairwise_cons.2 ⟨hq, b⟩, fun x hx z hz => ?_⟩
    rcases List.mem_cons.1 hz with e | e
    · rw [e]; exact h2 x hx
    · exact d x hx z e
theorem addF_mem {ys : List Ch} {q : List Bs} {n : Int} {z : Ch} (hz : z ∈ addF ys q n) : z.1 = q ∧ z.2 = n ∨ z ∈ ys ∨ ∃ y ∈ ys, z.1 = q ∧ z.2 = y.2 + n := by
  rcases addF_cases q n ys with ⟨l, y, r, rfl, h2, h3, h4⟩ | ⟨l, r, rfl, h2, h3, h4⟩
  · rw [h4] at hz
    rcases List.mem_append.1 hz with h | h
    · exact .inr (.inl (List.mem_append_left _ h))
    · rcases List.mem_cons.1 h with e | e
      · exact .inr (.inr ⟨y, List.mem_append_right _ List.mem_cons_self, by rw [e], by rw [e]⟩)
      · exact .inr (.inl (List.mem_append_right _ (List.mem_cons_of_mem _ e)))
  · rw [h4] at hz
    rcases List.mem_append.1 hz with h | h
    · exact .inr (.inl (List.mem_append_left _ h))
    · rcases List.mem_cons.1 h with e | e
      · exact .inl (by rw [e]; exact ⟨rfl, rfl⟩)
      · exact .inr (.inl (List.mem_append_right _ e))
theorem addF_len (ys : List Ch) (q : List Bs) (n : Int) : (addF ys q n).length ≤ ys.length + 1 := by
  rcases addF_cases q n ys with ⟨l, y, r, rfl, h2, h3, h4⟩ | ⟨l, r, rfl, h2, h3, h4⟩ <;> rw [h4] <;> simp <;> omega
theorem KS.one {ys : List Ch} (h : KS ys) {z : Ch} (hz : z ∈ ys) : valF ys z.1 = z.2 := by
  have hnd : ys.Nodup := h.imp fun hab e => by subst e; exact plt_irr _ hab
  unfold valF
  rw [sum_oneP (P := fun y : Ch => y.1 = z.1) (f := fun y : Ch => y.2) hnd hz fun c hc => ?_]
  constructor
  · intro e
    by_cases hcz : c = z
    · exact hcz
    · obtain ⟨i, hi, rfl⟩ := List.getElem_of_mem hc
      obtain ⟨j, hj, rfl⟩ := List.getElem_of_mem hz
      rcases Nat.lt_trichotomy i j with h1 | h1 | h1
      · have := List.pairwise_iff_getElem.1 h i j hi hj h1; rw [e] at this; exact absurd this (plt_irr _)
      · subst h1; rfl
      · have := List.pairwise_iff_getElem.1 h j i hj hi h1; rw [e] at this; exact absurd this (plt_irr _)
  · rintro rfl; rfl
/-- The list that Build makes: all paths that begin a path with a weight. -/
def preF (a : List Ch) (q : List Bs) (k : Nat) : List Ch := (List.range k).foldl (fun a j => addF a (q.take j) 0) a
def oneF (a : List Ch) (y : Ch) : List Ch := if 0 < y.2 then addF (preF a y.1 (y.1.length + 1)) y.1 y.2 else a
def allF (ys : List Ch) : List Ch := ys.foldl oneF [([], 0)]
theorem preF_succ (a : List Ch) (q : List Bs) (k : Nat) : preF a q (k + 1) = addF (preF a q k) (q.take k) 0 := by unfold preF; rw [List.range_succ, List.foldl_append]; rfl
theorem allF_snoc (ys : List Ch) (y : Ch) : allF (ys ++ [y]) = oneF (allF ys) y := by unfold allF; rw [List.foldl_append]; rfl
theorem preF_srt {a : List Ch} (h : KS a) (q : List Bs) : ∀ k, KS (preF a q k)
  | 0 => h
  | k + 1 => by rw [preF_succ]; exact addF_srt (preF_srt h q k) _ _
theorem preF_val (a : List Ch) (q p : List Bs) : ∀ k, valF (preF a q k) p = valF a p
  | 0 => rfl
  | k + 1 => by rw [preF_succ, addF_val, preF_val a q p k]; split <;> omega
theorem preF_keys (a : List Ch) (q p : List Bs) : ∀ k, p ∈ (preF a q k).map (·.1) ↔ (∃ j < k, p = q.take j) ∨ p ∈ a.map (·.1)
  | 0 => ⟨.inr, fun h => h.elim (fun ⟨j, hj, _⟩ => absurd hj (by omega)) id⟩
  | k + 1 => by
    rw [preF_succ, addF_keys, preF_keys a q p k]
    constructor
    · rintro (h | ⟨j, hj, h⟩ | h)
      · exact .inl ⟨k, by omega, h⟩
      · exact .inl ⟨j, by omega, h⟩
      · exact .inr h
    · rintro (⟨j, hj, h⟩ | h)
      · by_cases hjk : j = k
        · subst hjk; exact .inl h
        · exact .inr (.inl ⟨j, by omega, h⟩)
      · exact .inr (.inr h)
theorem preF_len (a : List Ch) (q : List Bs) : ∀ k, (preF a q k).length ≤ a.length + k
  | 0 => Nat.le_refl _
  | k + 1 => by rw [preF_succ]; have := addF_len (preF a q k) (q.take k) 0; have := preF_len a q k; omega
theorem preF_bd {a : List Ch} {q : List Bs} {B : Int} {N : Nat} (hB : 0 ≤ B) (hq : q.length ≤ N) (h : ∀ z ∈ a, 0 ≤ z.2 ∧ z.2 ≤ B ∧ z.1.length ≤ N) : ∀ k, ∀ z ∈ preF a q k, 0 ≤ z.2 ∧ z.2 ≤ B ∧ z.1.length ≤ N
  | 0 => h
  | k + 1 => fun z hz => by
    rw [preF_succ] at hz
    have ih := preF_bd hB hq h k
    have hl : (q.take k).length ≤ N := by rw [List.length_take]; omega
    rcases addF_mem hz with ⟨e1, e2⟩ | e | ⟨y, hy, e1, e2⟩
    · rw [e1, e2]; exact ⟨by omega, hB, hl⟩
    · exact ih z e
    · rw [e1, e2]; have := ih y hy; exact ⟨by omega, by omega, hl⟩
theorem oneF_bd {a : List Ch} {y : Ch} {B : Int} {N : Nat} (hB : 0 ≤ B) (hy0 : 0 ≤ y.2) (hq : y.1.length ≤ N) (h : ∀ z ∈ a, 0 ≤ z.2 ∧ z.2 ≤ B ∧ z.1.length ≤ N) : ∀ z ∈ oneF a y, 0 ≤ z.2 ∧ z.2 ≤ B + y.2 ∧ z.1.length ≤ N := fun z hz => by
  unfold oneF at hz
  split at hz
  · have ih := preF_bd hB hq h (y.1.length + 1)
    rcases addF_mem hz with ⟨e1, e2⟩ | e | ⟨x, hx, e1, e2⟩
    · rw [e1, e2]; exact ⟨hy0, by omega, hq⟩
    · have := ih z e; exact ⟨by omega, by omega, by omega⟩
    · rw [e1, e2]; have := ih x hx; exact ⟨by omega, by omega, hq⟩
  · have := h z hz; exact ⟨by omega, by omega, by omega⟩
theorem snoc_ind {α : Type} {P : List α → Prop} (h0 : P []) (h1 : ∀ l y, P l → P (l ++ [y])) : ∀ l, P l := fun l => by
  rw [← List.reverse_reverse l]
  induction l.reverse with
  | nil => exact h0
  | cons y r ih => rw [List.reverse_cons]; exact h1 _ _ ih
theorem all_snoc {α : Type} {P : α → Prop} {l : List α} {y : α} (h : ∀ x ∈ l ++ [y], P x) : (∀ x ∈ l, P x) ∧ P y := ⟨fun x hx => h x (List.mem_append_left _ hx), h y (List.mem_append_right _ List.mem_cons_self)⟩
theorem allF_bd {B : Int} (hB : 0 ≤ B) : ∀ (ys : List Ch), (∀ y ∈ ys, 0 ≤ y.2 ∧ y.2 ≤ B ∧ y.1.length ≤ 12) → (allF ys).length ≤ 1 + 14 * ys.length ∧ ∀ z ∈ allF ys, 0 ≤ z.2 ∧ z.2 ≤ B * ys.length ∧ z.1.length ≤ 12 := by
  refine snoc_ind (fun _ => ⟨by simp [allF], fun z hz => by simp [allF] at hz; subst hz; simp⟩) fun ys y ih h => ?_
  obtain ⟨ha, h1, h2, h3⟩ := all_snoc h
  obtain ⟨i1, i2⟩ := ih ha
  have hnn : 0 ≤ B * (ys.length : Int) := Int.mul_nonneg hB (by omega)
  rw [allF_snoc, List.length_append, List.length_singleton]
  constructor
  · unfold oneF
    split
    · have := addF_len (preF (allF ys) y.1 (y.1.length + 1)) y.1 y.2
      have := preF_len (allF ys) y.1 (y.1.length + 1)
      omega
    · omega
  · intro z hz
    obtain ⟨a, b, c⟩ := oneF_bd hnn h1 h3 i2 z hz
    have e : B * ((ys.length + 1 : Nat) : Int) = B * (ys.length : Int) + B := by rw [Int.natCast_add, Int.mul_add]; simp
    exact ⟨a, by omega, c⟩
theorem oneF_srt {a : List Ch} (h : KS a) (y : Ch) : KS (oneF a y) := by
  unfold oneF
  split
  · exact addF_srt (preF_srt h _ _) _ _
  · exact h
theorem allF_srt : ∀ ys, KS (allF ys) := snoc_ind (List.pairwise_singleton _ _) fun ys y ih => by rw [allF_snoc]; exact oneF_srt ih y
theorem valF_snoc (ys : List Ch) (y : Ch) (p : List Bs) : valF (ys ++ [y]) p = valF ys p + if y.1 = p then y.2 else 0 := by unfold valF; simp
theorem allF_val (p : List Bs) : ∀ ys : List Ch, (∀ y ∈ ys, 0 ≤ y.2) → valF (allF ys) p = valF ys p := by
  refine snoc_ind (fun _ => by simp [allF, valF]) fun ys y ih h => ?_
  obtain ⟨ha, h1⟩ := all_snoc h
  rw [allF_snoc, valF_snoc]
  unfold oneF
  by_cases h0 : 0 < y.2
  · rw [if_pos h0, addF_val, preF_val, ih ha]
  · rw [if_neg h0, ih ha]; split <;> omega
theorem allF_keys (p : List Bs) : ∀ ys : List Ch, p ∈ (allF ys).map (·.1) ↔ p = [] ∨ ∃ y ∈ ys, 0 < y.2 ∧ p <+: y.1 := by
  refine snoc_ind (by simp [allF]) fun ys y ih => ?_
  rw [allF_snoc]
  unfold oneF
  by_cases h0 : 0 < y.2
  · rw [if_pos h0, addF_keys, preF_keys, ih]
    constructor
    · rintro (h | ⟨j, hj, h⟩ | h | ⟨z, hz, h⟩)
      · exact .inr ⟨y, by simp, h0, by rw [h]; exact List.prefix_refl _⟩
      · exact .inr ⟨y, by simp, h0, by rw [h]; exact List.take_prefix _ _⟩
      · exact .inl h
      · exact .inr ⟨z, by simp [hz], h⟩
    · rintro (h | ⟨z, hz, h1, h2⟩)
      · exact .inr (.inr (.inl h))
      · rcases List.mem_append.1 hz with h3 | h3
        · exact .inr (.inr (.inr ⟨z, h3, h1, h2⟩))
        · rw [List.mem_singleton.1 h3] at h2
          exact .inr (.inl ⟨p.length, by have := h2.length_le; omega, List.prefix_iff_eq_take.1 h2⟩)
  · rw [if_neg h0, ih]
    constructor
    · rintro (h | ⟨z, hz, h⟩)
      · exact .inl h
      · exact .inr ⟨z, by simp [hz], h⟩
    · rintro (h | ⟨z, hz, h1, h2⟩)
      · exact .inl h
      · rcases List.mem_append.1 hz with h3 | h3
        · exact .inr ⟨z, h3, h1, h2⟩
        · rw [List.mem_singleton.1 h3] at h1; exact absurd h1 h0
theorem valF_pos {ys : List Ch} (h : ∀ y ∈ ys, 0 ≤ y.2) {y : Ch} (hy : y ∈ ys) : y.2 ≤ valF ys y.1 := by
  have h2 := sum_memP (f := fun x : Ch => if x.1 = y.1 then x.2 else 0) (c0 := y) (L := ys) (fun c hc => by
    show 0 ≤ if c.1 = y.1 then c.2 else 0
    split
    · exact h c hc
    · exact Int.le_refl _) hy
  simp only [if_pos] at h2
  exact h2
theorem valF_ex {ys : List Ch} {p : List Bs} (h : 0 < valF ys p) : ∃ y ∈ ys, y.1 = p ∧ 0 < y.2 := by
  by_cases hh : ∃ y ∈ ys, y.1 = p ∧ 0 < y.2
  · exact hh
  · have : valF ys p ≤ 0 := by
      unfold valF
      have h3 : ∀ l : List Ch, (∀ y ∈ l, y ∈ ys) → (l.map fun y => if y.1 = p then y.2 else 0).sum ≤ 0 := by
        intro l
        induction l with
        | nil => intro _; simp
        | cons a l ih =>
          intro hl
          have h4 := ih fun y hy => hl y (List.mem_cons_of_mem _ hy)
          rw [List.map_cons, List.sum_cons]
          split
          · rename_i e
            have : ¬ 0 < a.2 := fun h5 => hh ⟨a, hl a List.mem_cons_self, e, h5⟩
            omega
          · omega
      exact h3 ys fun _ h => h
    omega
theorem allF_can {ys : List Ch} (h0 : ∀ y ∈ ys, 0 ≤ y.2) (hv : ∀ y ∈ ys, VQ y.1) : Can (valF ys) ((allF ys).map (·.1)) := by
  refine ⟨List.pairwise_map.2 (allF_srt ys), fun p => ?_⟩
  rw [allF_keys]
  constructor
  · rintro (h | ⟨y, hy, h1, h2⟩)
    · exact .inl h
    · exact .inr ⟨y.1, hv y hy, by have := valF_pos h0 hy; omega, h2⟩
  · rintro (h | ⟨p', hp, h1, h2⟩)
    · exact .inl h
    · obtain ⟨y, hy, rfl, h3⟩ := valF_ex h1
      exact .inr ⟨y, hy, h3, h2⟩
theorem allF_eq {ys : List Ch} (h0 : ∀ y ∈ ys, 0 ≤ y.2) {z : Ch} (hz : z ∈ allF ys) : z.2 = valF ys z.1 := by rw [← allF_val z.1 ys h0, (allF_srt ys).one hz]
/-- Paths in order: those that begin with a path lie side by side. -/
theorem pre_le {p z : List Bs} (h : p <+: z) : ¬ z < p := by
  obtain ⟨t, rfl⟩ := h
  cases t with
  | nil => rw [List.append_nil]; exact plt_irr _
  | cons k t => exact plt_asymm (lt_app p k t)
theorem pre_mid : ∀ {p x z : List Bs}, p <+: z → p < x → x < z → p <+: x
  | [], x, z, _, _, _ => List.nil_prefix
  | a :: p, x, z, h, h1, h2 => by
    cases x with
    | nil => exact absurd h1 (List.not_lt_nil _)
    | cons b x =>
      cases z with
      | nil => exact absurd h2 (List.not_lt_nil _)
      | cons c z =>
        obtain ⟨rfl, h3⟩ := List.cons_prefix_cons.1 h
        rcases plt_cons.1 h1 with h4 | ⟨h4, h5⟩
        · rcases plt_cons.1 h2 with h6 | ⟨h6, _⟩
          · exact absurd h6 (List.lt_asymm h4)
          · subst h6; exact absurd h4 (List.lt_irrefl _)
        · subst h4
          rcases plt_cons.1 h2 with h6 | ⟨_, h6⟩
          · exact absurd h6 (List.lt_irrefl _)
          · exact List.cons_prefix_cons.2 ⟨rfl, pre_mid h3 h5 h6⟩
theorem tot_rest {w : List Bs → Int} {M : List (List Bs)} (hM : M.Pairwise (· < ·)) {i k : Nat} {p : List Bs} (hi : M[i]? = some p) (hk : i ≤ k) (hx : ∀ x, M[k]? = some x → ¬ p <+: x) : totL w (M.drop k) p = 0 :=
  totL_none fun z hz hpz => by
    obtain ⟨j, hj⟩ := List.mem_iff_getElem?.1 hz
    rw [List.getElem?_drop] at hj
    by_cases hj0 : j = 0
    · subst hj0; exact hx z hj hpz
    · obtain ⟨x, hxk⟩ : ∃ x, M[k]? = some x := at_lt (by have := (List.getElem?_eq_some_iff.1 hj).1; omega)
      have h1 := srt_lt hM hxk hj (by omega)
      by_cases hik : i = k
      · subst hik
        rw [hi] at hxk
        obtain rfl := Option.some.inj hxk
        exact hx p hi (List.prefix_refl _)
      · exact hx x hxk (pre_mid hpz (srt_lt hM hi hxk (by omega)) h1)
theorem tot_start {w : List Bs → Int} {M : List (List Bs)} (hM : M.Pairwise (· < ·)) {i : Nat} {p : List Bs} (hi : M[i]? = some p) : totL w (M.drop i) p = totL w M p := by
  have h0 : totL w (M.take i) p = 0 := totL_none fun z hz hpz => by
    obtain ⟨j, hj⟩ := List.mem_iff_getElem?.1 hz
    rw [List.getElem?_take] at hj
    split at hj
    · exact pre_le hpz (srt_lt hM hj hi (by omega))
    · cases hj
  have e := totL_app w (M.take i) (M.drop i) p
  rw [List.take_append_drop, h0, Int.zero_add] at e
  exact e.symm
end Go.Proofs.Ytcnfchchanlepaa
namespace Go.Proofs.Ytcnfchchanlepaa
open Go Go.X
set_option linter.unusedVariables false
def BuildR (ys : List Ch) (v : Value) (ok : Bool) (L' : Blocks) : Prop :=
  (∃ y ∈ ys, y.2 < 0) ∧ ok = false ∧ v = .slice none 0 0 ∧ L' = [] ∨ (∀ y ∈ ys, 0 ≤ y.2) ∧ ∃ M, Can (valF ys) M ∧ (fits (valF ys) M ∧ ok = true ∧ Ows 53 v (nodesC (valF ys) M) L' ∨ ¬ fits (valF ys) M ∧ ok = false ∧ v = .slice none 0 0 ∧ L' = [])
set_option maxRecDepth 10000
set_option linter.unusedVariables false
attribute [local irreducible] Code.wpIn wpListIn Exit.then Exit.inBlock X.Out X.Back X.W X.Ev X.Con X.BinV X.Wh X.Wn X.Wq
set_option maxHeartbeats 6400000 in
theorem rBuild_con (xs : List Cg) (ys : List Ch) (A : Option Addr) (c : Nat) (S : SH) (hA : At S A xs) (hy : ChL S xs ys) (hl : xs.length ≤ 800) (hv : ∀ y ∈ ys, VQ y.1) (hb : ∀ y ∈ ys, -1125899906842624 ≤ y.2 ∧ y.2 ≤ 1125899906842624) :
    Con Try.prog 35 #[.slice A xs.length c] S [] (fun S' L' r => ∃ v ok, r = .tuple #[.agg #[v], .bool ok] ∧ BuildR ys v ok L') := by
  refine con_of (args := [.slice A xs.length c]) Try.func35 rfl Try.ntmps35 rfl fun w => ?_
  have hxy := hy.1
  (repeat (first | refine Jc ?_ | (apply s_evb; (case hg => rfl); (case hd => rfl); (case hn => rfl); (case he => (apply ev_buildS; (case hp => rfl); (case hz => rfl); (case h1 => rfl); (case hr => rfl)))) | refine Jo ?_ | intro _))
  rename_i b2 b4
  refine c_loop (fun m S' L F => Le S S' ∧ ∃ (i : Nat) (v : Value) (rs : List Cg) (ob : Blocks), m = xs.length - i ∧ i ≤ xs.length ∧ (∀ y ∈ ys.take i, 0 ≤ y.2) ∧ Ows 113 v rs ob ∧ ChL S' rs (allF (ys.take i)) ∧ L = ob ++ [(b2, .cells [.slice none 0 0].toArray 36 (0, 0))] ∧
      F = [(0, .slice A xs.length c), (2, .pointer (some ⟨b2, 0, none⟩)), (4, v), (5, .int .i64 i)]) ⟨Le.refl _, 0, _, [⟨⟨none, 0, 0⟩, 0⟩], [(b4, _)], rfl, by omega, (by simp), Ows.full (α := Cg) rfl (by decide), ⟨rfl, fun i x y h1 h2 => ?_⟩, rfl, rfl⟩ sbF sbL ?_
  · cases i with
    | zero =>
      obtain rfl : x = ⟨⟨none, 0, 0⟩, 0⟩ := by simpa using h1.symm
      obtain rfl : y = ([], 0) := by simpa [allF] using h2.symm
      exact ⟨rfl, rfl, Nat.le_refl _, At.nil _ _⟩
    | succ i => simp at h1
  rintro m S1 L F ⟨h1, i, v, rs, ob, rfl, hi, hnn, ho, hrs, rfl, rfl⟩
  have hA1 := hA.le h1
  have hbd := allF_bd (B := 1125899906842624) (by decide) (ys.take i) (fun y hy => ⟨hnn y hy, (hb y (List.mem_of_mem_take hy)).2, (hv y (List.mem_of_mem_take hy)).1⟩)
  have hrl := hrs.1
  have htl : (ys.take i).length = i := by rw [List.length_take]; omega
  rw [htl] at hbd
  by_cases hil : i < xs.length
  · obtain ⟨x, hx⟩ := at_lt hil
    obtain ⟨y, hyk⟩ : ∃ y, ys[i]? = some y := at_lt (by omega)
    have hym := List.mem_of_getElem? hyk
    have hby := hb y hym
    have hvy := (hv y hym).1
    obtain ⟨r0, r1, r2, r3⟩ := hy.2 i x y hx hyk
    have hsn := allF_snoc (ys.take i) y
    rw [← take_at hyk] at hsn
    have hnn2 : 0 ≤ y.2 → ∀ z ∈ ys.take (i + 1), 0 ≤ z.2 := fun h z hz => by
      rw [take_at hyk] at hz
      rcases List.mem_append.1 hz with h2 | h2
      · exact hnn z h2
      · rw [List.mem_singleton.1 h2]; exact h
    obtain ⟨⟨xa, xm, xc⟩, xb⟩ := x
    obtain ⟨p, n⟩ := y
    simp only at r0 r1 r2 r3 hby hvy hnn2
    subst r0; subst r1
    have tlp := toS_len p
    by_cases hneg : xb < 0
    · (repeat (first | refine Jc ?_ | (apply s_idx hA1; (case hg => rfl); (case hd => rfl); (case hx => rfl); (case hi => rfl); (case hm => rfl); (case hu => exact hx); intro u (hu : Pts _ u [.slice xa (toS p).length xc, .int .i64 xb])) | (apply s_load_f; (case hg => rfl); (case hd => rfl); (case hx => rfl); (case h => exact hu); (case hv => rfl)) | (apply s_evb; (case hg => rfl); (case hd => rfl); (case hn => rfl); (case he => (apply ev_buildS; (case hp => rfl); (case hz => rfl); (case h1 => rfl); (case hr => rfl)))) | refine Jo ?_ | intro _))
      exact o_ret_c2 (L' := []) (sz := 1) (cs := [.slice none 0 0]) Try.results35 rfl rfl (by (repeat (first | exact List.Mem.head _ | apply List.Mem.tail | apply List.mem_append_right))) rfl (List.nil_sublist _) ⟨_, _, rfl, .inl ⟨⟨_, hym, hneg⟩, rfl, rfl, rfl⟩⟩
    have hsn2 := hnn2 (by omega)
    (repeat (first | refine Jc ?_ | (apply s_idx hA1; (case hg => rfl); (case hd => rfl); (case hx => rfl); (case hi => rfl); (case hm => rfl); (case hu => exact hx); intro u (hu : Pts _ u [.slice xa (toS p).length xc, .int .i64 xb])) | (apply s_load_f; (case hg => rfl); (case hd => rfl); (case hx => rfl); (case h => exact hu); (case hv => rfl)) | refine Jo ?_ | intro _))
    refine c_loop (fun m S' L F => Le S1 S' ∧ ∃ (k : Nat) (v : Value) (rs : List Cg) (ob : Blocks), m = p.length + 1 - k ∧ k ≤ p.length + 1 ∧ (0 < xb ∨ k = 0) ∧ Ows 113 v rs ob ∧ ChL S' rs (preF (allF (ys.take i)) p k) ∧ L = ob ++ [(b2, .cells [.slice none 0 0].toArray 36 (0, 0))] ∧
        F = [(0, .slice A xs.length c), (2, .pointer (some ⟨b2, 0, none⟩)), (4, v), (5, .int .i64 i), (6, .int .i64 k)]) ⟨Le.refl _, 0, v, rs, ob, rfl, by omega, .inr rfl, ho, hrs, rfl, rfl⟩ sbF sbL ?_
    rintro m S2 L F ⟨h2, k, v, rs, ob, rfl, hk, hk0, ho, hrs, rfl, rfl⟩
    have hA2 := hA1.le h2
    have r32 := (r3.le h1).le h2
    have hpb := preF_bd (q := p) (by omega) hvy hbd.2 k
    have hpl := preF_len (allF (ys.take i)) p k
    have hrl := hrs.1
    have hpl2 : ∀ y ∈ preF (allF (ys.take i)) p k, y.1.length ≤ 1000000 := fun y hy => by have := (hpb y hy).2.2; omega
    have hpw : ∀ y ∈ preF (allF (ys.take i)) p k, -1000000000000000000 ≤ y.2 ∧ y.2 ≤ 1000000000000000000 := fun y hy => by have := hpb y hy; omega
    by_cases hpos : 0 < xb
    rotate_left
    · obtain rfl : k = 0 := by omega
      have e : oneF (allF (ys.take i)) (p, xb) = allF (ys.take i) := by unfold oneF; rw [if_neg hpos]
      (repeat (first | refine Jc ?_ | (apply s_idx hA2; (case hg => rfl); (case hd => rfl); (case hx => rfl); (case hi => rfl); (case hm => rfl); (case hu => exact hx); intro u (hu : Pts _ u [.slice xa (toS p).length xc, .int .i64 xb])) | (apply s_load_f; (case hg => rfl); (case hd => rfl); (case hx => rfl); (case h => exact hu); (case hv => rfl)) | refine Jo ?_ | intro _))
      exact q_back (L' := ob ++ [(b2, .cells [.slice none 0 0].toArray 36 (0, 0))]) (m' := xs.length - (i + 1)) ⟨h1.trans h2, i + 1, v, rs, ob, rfl, by omega, hsn2, ho, by rw [hsn, e]; exact hrs, rfl, rfl⟩ (by omega) sbF sbL
    by_cases hkl : k ≤ p.length
    · (repeat (first | refine Jc ?_ | (apply s_idx hA2; (case hg => rfl); (case hd => rfl); (case hx => rfl); (case hi => rfl); (case hm => rfl); (case hu => exact hx); intro u (hu : Pts _ u [.slice xa (toS p).length xc, .int .i64 xb])) | (apply s_load_f; (case hg => rfl); (case hd => rfl); (case hx => rfl); (case h => exact hu); (case hv => rfl)) | (apply s_slice_hi r32; (case hg => rfl); (case hd => rfl); (case hx => rfl); (case hy => rfl); (case hm => rfl); (case hmc => omega); (case hj => omega); intro A3 hA3); rw [toS_take] at hA3 ⊢ | (apply s_call; (case hg => rfl); (case hd => rfl); (case ha => rfl); (case hc => exact radd_con rs _ v ob (p.take k) A3 xc 0 _ ho hrs (by omega) hpl2 (by rw [List.length_take]; omega) hA3 (by rw [toS_len, List.length_take]; omega) (by omega) hpw); (case hL => (repeat (first | exact pm_nil _ | exact pm_refl _ _ | exact pm_self _ | apply pm_cons | apply pm_app))); rintro S3 L3 v3 h3 ⟨-, rs3, ho3, hrs3⟩) | refine Jo ?_ | intro _))
      exact q_back (L' := L3 ++ [(b2, .cells [.slice none 0 0].toArray 36 (0, 0))]) (m' := p.length + 1 - (k + 1)) ⟨h2.trans h3, k + 1, v3, rs3, L3, rfl, by omega, .inl hpos, ho3, by rw [preF_succ]; exact hrs3, rfl, rfl⟩ (by omega) sbF sbL
    obtain rfl : k = p.length + 1 := by omega
    have e : oneF (allF (ys.take i)) (p, xb) = addF (preF (allF (ys.take i)) p (p.length + 1)) p xb := by unfold oneF; rw [if_pos hpos]
    (repeat (first | refine Jc ?_ | (apply s_idx hA2; (case hg => rfl); (case hd => rfl); (case hx => rfl); (case hi => rfl); (case hm => rfl); (case hu => exact hx); intro u (hu : Pts _ u [.slice xa (toS p).length xc, .int .i64 xb])) | (apply s_load_f; (case hg => rfl); (case hd => rfl); (case hx => rfl); (case h => exact hu); (case hv => rfl)) | refine Jo ?_ | intro _))
    ((apply c_held ([]); (case hL => (exact sbT))); refine Jf 0 ?_; refine Jf 1 ?_; refine Jf 2 ?_; (apply h_idx hA2 3; (case hi => rfl); (case hr => kernel_rfl); (case hfr => kernel_rfl); (case hsel => kernel_rfl); (case hg => rfl); (case hd => rfl); (case i1 => infer_instance); (case i2 => infer_instance); (case hx => rfl); (case hy => rfl); (case hm => rfl); (case hu => exact hx); intro u1 (hu1 : Pts _ u1 [.slice xa (toS p).length xc, .int .i64 xb])); refine Jf 4 ?_; (apply h_first 5; (case hi => rfl); (case hr => kernel_rfl); (case hfr => kernel_rfl); (case hsel => kernel_rfl); (case hg => rfl); (case hd => rfl); (case he => (apply ev_load_f; (case hx => rfl); (case h => exact hu1); (case hv => rfl)))); refine Jf 6 ?_; refine Jf 7 ?_; (apply h_idx hA2 8; (case hi => rfl); (case hr => kernel_rfl); (case hfr => kernel_rfl); (case hsel => kernel_rfl); (case hg => rfl); (case hd => rfl); (case i1 => infer_instance); (case i2 => infer_instance); (case hx => rfl); (case hy => rfl); (case hm => rfl); (case hu => exact hx); intro u2 (hu2 : Pts _ u2 [.slice xa (toS p).length xc, .int .i64 xb])); refine Jf 9 ?_; (apply h_first 10; (case hi => rfl); (case hr => kernel_rfl); (case hfr => kernel_rfl); (case hsel => kernel_rfl); (case hg => rfl); (case hd => rfl); (case he => (apply ev_load_f; (case hx => rfl); (case h => exact hu2); (case hv => rfl)))); (apply h_one 11; (case hr => kernel_rfl)); (apply n_call; (case hi => rfl); (case i1 => infer_instance); (case hg => rfl); (case hd => rfl); (case ha => rfl); (case hc => exact radd_con rs _ v ob p xa xc xb _ ho hrs (by omega) hpl2 (by omega) r32 r2 (by omega) hpw); (case hL => (repeat (first | exact pm_nil _ | exact pm_refl _ _ | exact pm_self _ | apply pm_cons | apply pm_app))); (case hsub => (intros; (exact sbT))); rintro S3 L3 v3 h3 ⟨-, rs3, ho3, hrs3⟩); refine Jf 12 ?_; (apply h_end; (case hr => kernel_rfl)); ((((repeat (first | refine Jz ?_ | intro _))); exact q_back (L' := L3 ++ [(b2, .cells [.slice none 0 0].toArray 36 (0, 0))]) (m' := xs.length - (i + 1)) ⟨(h1.trans h2).trans h3, i + 1, v3, rs3, L3, rfl, by omega, hsn2, ho3, by rw [hsn, e]; exact hrs3, rfl, rfl⟩ (by omega) sbF sbL)))
  rw [List.take_of_length_le (by omega)] at hnn hrs hbd hrl
  have h0 := hnn
  have hcan := allF_can h0 hv
  obtain ⟨w, hw⟩ : ∃ w, valF ys = w := ⟨_, rfl⟩
  obtain ⟨M, hM⟩ : ∃ M, (allF ys).map (·.1) = M := ⟨_, rfl⟩
  have haw : ∀ (j : Nat) (z : Ch), (allF ys)[j]? = some z → M[j]? = some z.1 ∧ z.2 = w z.1 ∧ 0 ≤ z.2 ∧ z.2 ≤ 1125899906842624 * 800 ∧ z.1.length ≤ 12 := fun j z hz => by
    have hm := List.mem_of_getElem? hz
    have hz2 := hbd.2 z hm
    exact ⟨by rw [← hM, List.getElem?_map, hz]; rfl, by rw [← hw]; exact allF_eq h0 hm, by omega, by omega, by omega⟩
  have hml : M.length = (allF ys).length := by rw [← hM, List.length_map]
  rw [hM, hw] at hcan
  have hw0 : ∀ p ∈ M, 0 ≤ w p := fun p hp => by
    obtain ⟨j, hj⟩ := List.mem_iff_getElem?.1 hp
    obtain ⟨z, hz⟩ : ∃ z, (allF ys)[j]? = some z := at_lt (by have := (List.getElem?_eq_some_iff.1 hj).1; omega)
    obtain ⟨e1, e2, e3, _⟩ := haw j z hz
    rw [hj] at e1
    obtain rfl := Option.some.inj e1
    omega
  have hM1 : 1 ≤ M.length := List.length_pos_of_mem hcan.root
  unfold BuildR
  rw [hw]
  refine W.freezeOws (L1 := [(b2, .cells [.slice none 0 0].toArray 36 (0, 0))]) ho (List.Perm.refl _) fun S7 h7 hs7 => ?_
  obtain ⟨A7, c7, rfl, hc7, hA7⟩ := hs7
  have hrs7 := hrs.le h7
  by_cases hbig : 2000 < rs.length
  · have hnf : ¬ fits w M := fun h => by have := h.2; omega
    (repeat (first | refine Jc ?_ | (apply s_evb; (case hg => rfl); (case hd => rfl); (case hn => rfl); (case he => (apply ev_buildS; (case hp => rfl); (case hz => rfl); (case h1 => rfl); (case hr => rfl)))) | refine Jo ?_ | intro _))
    exact o_ret_c2 (L' := []) (sz := 1) (cs := [.slice none 0 0]) Try.results35 rfl rfl (by (repeat (first | exact List.Mem.head _ | apply List.Mem.tail | apply List.mem_append_right))) rfl sbL ⟨_, _, rfl, .inr ⟨h0, _, hcan, .inr ⟨hnf, rfl, rfl, rfl⟩⟩⟩
  (repeat (first | refine Jc ?_ | (apply s_evb; (case hg => rfl); (case hd => rfl); (case hn => rfl); (case he => (apply ev_buildS; (case hp => rfl); (case hz => rfl); (case h1 => rfl); (case hr => rfl)))) | refine Jo ?_ | intro _))
  rename_i b7
  refine c_loop (fun m S' L F => Le S7 S' ∧ ∃ (i : Nat) (vn : Value) (obn : Blocks), m = rs.length - i ∧ i ≤ rs.length ∧ Ows 53 vn ((nodesC w M).take i) obn ∧ (0 < i → sumL w M ≤ 1125899906842624) ∧ L = obn ++ [(b7, .cells [vn].toArray 36 (0, 0)), (b2, .cells [.slice none 0 0].toArray 36 (0, 0))] ∧
      F = [(2, .pointer (some ⟨b2, 0, none⟩)), (4, .slice A7 rs.length c7), (7, .pointer (some ⟨b7, 0, none⟩)), (8, .int .i64 i)]) ⟨Le.refl _, 0, _, [], rfl, by omega, Ows.nil _, (fun h => absurd h (by omega)), rfl, rfl⟩ sbF sbL ?_
  rintro m S8 L F ⟨h8, i, vn, obn, rfl, hi2, hon, hsm, rfl, rfl⟩
  by_cases hil2 : i < rs.length
  rotate_left
  · rw [List.take_of_length_le (by rw [nodesC_len]; omega)] at hon
    obtain ⟨An, cn, rfl⟩ := hon.form
    (repeat (first | refine Jz ?_ | intro _))
    exact o_ret_c2 (L' := obn) (sz := 1) (cs := [.slice An (nodesC w M).length cn]) Try.results35 rfl rfl (by (repeat (first | exact List.Mem.head _ | apply List.Mem.tail | apply List.mem_append_right))) rfl sbL ⟨_, _, rfl, .inr ⟨h0, _, hcan, .inl ⟨⟨hsm (by omega), by omega⟩, rfl, hon⟩⟩⟩
  obtain ⟨x, hx⟩ := at_lt hil2
  obtain ⟨z, hz⟩ : ∃ z, (allF ys)[i]? = some z := at_lt (by omega)
  obtain ⟨e1, e2, e3, e4, e5⟩ := haw i z hz
  obtain ⟨r0, r1, r2, r3⟩ := hrs7.2 i x z hx hz
  obtain ⟨⟨xa, xm, xc⟩, xb⟩ := x
  obtain ⟨p, n⟩ := z
  simp only at e1 e2 e3 e4 e5 r0 r1 r2 r3
  subst r0; subst r1
  have tlp := toS_len p
  have hpM := List.mem_of_getElem? e1
  have hne : 0 < i → p ≠ [] := fun h0 e => by
    have := srt_lt hcan.srt hcan.head e1 h0
    rw [e] at this
    exact plt_irr _ this
  have he0 : i = 0 → p = [] := fun h0 => by subst h0; exact Option.some.inj (e1.symm.trans hcan.head)
  have hst := tot_start (w := w) hcan.srt e1
  have hnode : (nodesC w M)[i]? = some (nodeC w M p) := by unfold nodesC; rw [List.getElem?_map, e1]; rfl
  have hntake := take_at hnode
  have hnl : ((nodesC w M).take i).length = i := by rw [List.length_take, nodesC_len]; omega
  obtain ⟨T, hT⟩ : ∃ T, totL w M p = T := ⟨_, rfl⟩
  have hTs : T ≤ sumL w M := hT ▸ totL_le hw0 p
  have hwd : ∀ k, ∀ q ∈ M.drop k, 0 ≤ w q := fun k q hq => hw0 q (List.mem_of_mem_drop hq)
  rw [hT] at hst
  have hA8 := hA7.le h8
  (repeat (first | refine Jc ?_ | (apply s_idx hA8; (case hg => rfl); (case hd => rfl); (case hx => rfl); (case hi => rfl); (case hm => rfl); (case hu => exact hx); intro u (hu : Pts _ u [.slice xa (toS p).length xc, .int .i64 xb])) | (apply s_load_f; (case hg => rfl); (case hd => rfl); (case hx => rfl); (case h => exact hu); (case hv => rfl)) | (apply s_evb; (case hg => rfl); (case hd => rfl); (case hn => rfl); (case he => (apply ev_buildS; (case hp => rfl); (case hz => rfl); (case h1 => rfl); (case hr => rfl)))) | refine Jo ?_ | intro _))
  rename_i b9
  refine c_loop (fun m S' L F => Le S8 S' ∧ ∃ (k : Nat) (t : Int), m = rs.length - k ∧ i ≤ k ∧ k ≤ rs.length ∧ 0 ≤ t ∧ t ≤ 1125899906842624 ∧ totL w (M.drop k) p + t = T ∧ L = (b9, .cells [.int .i64 (-1), strV [], .int .i64 xb, .int .i64 t].toArray 53 (0, 0)) :: (obn ++ [(b7, .cells [vn].toArray 36 (0, 0)), (b2, .cells [.slice none 0 0].toArray 36 (0, 0))]) ∧
      F = [(2, .pointer (some ⟨b2, 0, none⟩)), (4, .slice A7 rs.length c7), (7, .pointer (some ⟨b7, 0, none⟩)), (8, .int .i64 i), (9, .pointer (some ⟨b9, 0, none⟩)), (10, .int .i64 k)]) ⟨Le.refl _, i, 0, rfl, by omega, by omega, by omega, by omega, by omega, rfl, rfl⟩ sbF sbL ?_
  rintro m S9 L F ⟨h9, k, t, rfl, hk1, hk2, ht0, ht1, hti, rfl, rfl⟩
  have hA9 := hA8.le h9
  have r39 := (r3.le h8).le h9
  have hrs9 := (hrs7.le h8).le h9
  by_cases hgo : ∃ q, M[k]? = some q ∧ p <+: q
  · obtain ⟨q, hq, hpq⟩ := hgo
    have hkm := (List.getElem?_eq_some_iff.1 hq).1
    obtain ⟨y, hyk⟩ := at_lt (show k < rs.length by omega)
    obtain ⟨zk, hzk⟩ : ∃ z, (allF ys)[k]? = some z := at_lt (by omega)
    obtain ⟨d1, d2, d3, d4, d5⟩ := haw k zk hzk
    obtain ⟨s0, s1, s2, s3⟩ := hrs9.2 k y zk hyk hzk
    rw [hq] at d1
    obtain ⟨⟨ya, ym, yc⟩, yb⟩ := y
    obtain ⟨q', n'⟩ := zk
    simp only at d1 d2 d3 d4 d5 s0 s1 s2 s3
    obtain rfl := Option.some.inj d1
    subst s0; subst s1
    have tlq := toS_len q
    have hdr : totL w (M.drop k) p = yb + totL w (M.drop (k + 1)) p := by rw [drop_at hq, totL_cons, if_pos hpq, d2]
    have hr0 := totL_pos (hwd (k + 1)) p
    (repeat (first | refine Jz ?_ | intro _))
    ((apply c_held ([]); (case hL => (exact sbT))); refine Jf 0 ?_; refine Jf 1 ?_; refine Jf 2 ?_; refine Jf 3 ?_; refine Jf 4 ?_; refine Jf 5 ?_; refine Jf 6 ?_; (apply h_idx hA9 7; (case hi => rfl); (case hr => kernel_rfl); (case hfr => kernel_rfl); (case hsel => kernel_rfl); (case hg => rfl); (case hd => rfl); (case i1 => infer_instance); (case i2 => infer_instance); (case hx => rfl); (case hy => rfl); (case hm => rfl); (case hu => exact hyk); intro u1 (hu1 : Pts _ u1 [.slice ya (toS q).length yc, .int .i64 yb])); refine Jf 8 ?_; (apply h_first 9; (case hi => rfl); (case hr => kernel_rfl); (case hfr => kernel_rfl); (case hsel => kernel_rfl); (case hg => rfl); (case hd => rfl); (case he => (apply ev_load_f; (case hx => rfl); (case h => exact hu1); (case hv => rfl)))); refine Jf 10 ?_; refine Jf 11 ?_; (apply h_idx hA9 12; (case hi => rfl); (case hr => kernel_rfl); (case hfr => kernel_rfl); (case hsel => kernel_rfl); (case hg => rfl); (case hd => rfl); (case i1 => infer_instance); (case i2 => infer_instance); (case hx => rfl); (case hy => rfl); (case hm => rfl); (case hu => exact hx); intro u2 (hu2 : Pts _ u2 [.slice xa (toS p).length xc, .int .i64 xb])); refine Jf 13 ?_; (apply h_first 14; (case hi => rfl); (case hr => kernel_rfl); (case hfr => kernel_rfl); (case hsel => kernel_rfl); (case hg => rfl); (case hd => rfl); (case he => (apply ev_load_f; (case hx => rfl); (case h => exact hu2); (case hv => rfl)))); (apply h_one 15; (case hr => kernel_rfl)); (apply n_call; (case hi => rfl); (case i1 => infer_instance); (case hg => rfl); (case hd => rfl); (case ha => rfl); (case hc => exact rStarts_con q p ya xa yc xc _ s3 r39 s2 (by omega) (by omega) true ⟨fun _ => hpq, fun _ => rfl⟩); (case hL => (repeat (first | exact pm_nil _ | exact pm_refl _ _ | exact pm_self _ | apply pm_cons | apply pm_app))); (case hsub => (intros; (exact sbT))); rintro _ _ _ - ⟨rfl, rfl, rfl⟩); refine Jf 16 ?_; (apply h_end; (case hr => kernel_rfl)))
    (repeat (first | refine Jz ?_ | intro _))
    ((apply c_held ([]); (case hL => (exact sbT))); refine Jf 0 ?_; refine Jf 2 ?_; refine Jf 3 ?_; (apply h_idx hA9 4; (case hi => rfl); (case hr => kernel_rfl); (case hfr => kernel_rfl); (case hsel => kernel_rfl); (case hg => rfl); (case hd => rfl); (case i1 => infer_instance); (case i2 => infer_instance); (case hx => rfl); (case hy => rfl); (case hm => rfl); (case hu => exact hyk); intro u3 (hu3 : Pts _ u3 [.slice ya (toS q).length yc, .int .i64 yb])); refine Jf 5 ?_; (apply h_first 6; (case hi => rfl); (case hr => kernel_rfl); (case hfr => kernel_rfl); (case hsel => kernel_rfl); (case hg => rfl); (case hd => rfl); (case he => (apply ev_load_f; (case hx => rfl); (case h => exact hu3); (case hv => rfl)))); (apply h_one 1; (case hr => kernel_rfl)); (apply n_ev; (case hi => rfl); (case hg => rfl); (case hd => rfl); (case he => (apply ev_load_own; (case hx => rfl); (case hm => (repeat (first | exact List.Mem.head _ | apply List.Mem.tail | apply List.mem_append_right))); (case h => rfl)))); refine Jf 7 ?_; refine Jf 8 ?_; (apply h_one 9; (case hr => kernel_rfl)); (apply n_store; (case hi => rfl); (case i1 => infer_instance); (case hg => rfl); (case hx => rfl); (case hy => rfl); (case h1 => rfl); (case hL => (repeat (first | exact Upd.head | apply Upd.tail | apply Upd.app))); (case hu => rfl); (case hsub => (intro _; (exact sbT)))); (apply h_end; (case hr => kernel_rfl)))
    by_cases hbg : 1125899906842624 < t + yb
    · have hnf : ¬ fits w M := fun h => by have := h.1; omega
      (repeat (first | refine Jc ?_ | (apply s_evb; (case hg => rfl); (case hd => rfl); (case hn => rfl); (case he => (apply ev_buildS; (case hp => rfl); (case hz => rfl); (case h1 => rfl); (case hr => rfl)))) | refine Jo ?_ | intro _))
      exact o_ret_c2 (L' := []) (sz := 1) (cs := [.slice none 0 0]) Try.results35 rfl rfl (by (repeat (first | exact List.Mem.head _ | apply List.Mem.tail | apply List.mem_append_right))) rfl sbL ⟨_, _, rfl, .inr ⟨h0, _, hcan, .inr ⟨hnf, rfl, rfl, rfl⟩⟩⟩
    · (repeat (first | refine Jz ?_ | intro _))
      exact q_back (L' := (b9, .cells [.int .i64 (-1), strV [], .int .i64 xb, .int .i64 (t + yb)].toArray 53 (0, 0)) :: (obn ++ [(b7, .cells [vn].toArray 36 (0, 0)), (b2, .cells [.slice none 0 0].toArray 36 (0, 0))])) (m' := rs.length - (k + 1)) ⟨h9, k + 1, t + yb, rfl, by omega, by omega, by omega, by omega, by omega, rfl, rfl⟩ (by omega) sbF sbL
  have hend := tot_rest (w := w) hcan.srt e1 hk1 fun q hq hpq => hgo ⟨q, hq, hpq⟩
  obtain rfl : t = T := by omega
  have hpar : ∀ (j : Nat) (q : List Bs), j < i → M[j]? = some q → (((q.length : Int) = (p.length : Int) - 1 ∧ q <+: p) ↔ j = M.idxOf p.dropLast) := fun j q hj hq => by
    have hp0 : p ≠ [] := hne (by omega)
    have hlp : 0 < p.length := List.length_pos_iff.2 hp0
    have hdl : p.dropLast.length = p.length - 1 := List.length_dropLast
    constructor
    · rintro ⟨h1, h2⟩
      have e : q = p.dropLast := by
        have h3 := List.prefix_iff_eq_take.1 h2
        rw [h3, List.dropLast_eq_take]
        congr 1; omega
      subst e
      have hjl := (List.getElem?_eq_some_iff.1 hq).1
      have := (List.getElem?_eq_some_iff.1 hq).2
      rw [← this]
      exact ((srt_nodup hcan.srt).idxOf_getElem j hjl).symm
    · intro e
      have hdm : p.dropLast ∈ M := hcan.closed p hpM _ (List.dropLast_prefix _)
      have hj2 : M[M.idxOf p.dropLast]? = some p.dropLast := by rw [List.getElem?_eq_getElem (List.idxOf_lt_length_iff.2 hdm), List.getElem_idxOf]
      rw [← e, hq] at hj2
      obtain rfl := Option.some.inj hj2
      exact ⟨by omega, List.dropLast_prefix _⟩
  obtain ⟨jd, hjd⟩ : ∃ jd, M.idxOf p.dropLast = jd := ⟨_, rfl⟩
  rw [hjd] at hpar
  have hjdi : 0 < i → jd < i := fun h0 => by
    have hdm : p.dropLast ∈ M := hcan.closed p hpM _ (List.dropLast_prefix _)
    have hj2 : M[jd]? = some p.dropLast := by rw [← hjd, List.getElem?_eq_getElem (List.idxOf_lt_length_iff.2 hdm), List.getElem_idxOf]
    exact srt_idx hcan.srt hj2 e1 (drop_lt (hne h0))
  by_cases hkl : k < rs.length
  case' pos =>
    obtain ⟨y, hyk⟩ := at_lt hkl
    obtain ⟨zk, hzk⟩ : ∃ z, (allF ys)[k]? = some z := at_lt (by omega)
    obtain ⟨d1, d2, d3, d4, d5⟩ := haw k zk hzk
    obtain ⟨s0, s1, s2, s3⟩ := hrs9.2 k y zk hyk hzk
    obtain ⟨⟨ya, ym, yc⟩, yb⟩ := y
    obtain ⟨q, n'⟩ := zk
    simp only at d1 d2 d3 d4 d5 s0 s1 s2 s3
    subst s0; subst s1
    have tlq := toS_len q
    (repeat (first | refine Jz ?_ | intro _))
    ((apply c_held ([]); (case hL => (exact sbT))); refine Jf 0 ?_; refine Jf 1 ?_; refine Jf 2 ?_; refine Jf 3 ?_; refine Jf 4 ?_; refine Jf 5 ?_; refine Jf 6 ?_; (apply h_idx hA9 7; (case hi => rfl); (case hr => kernel_rfl); (case hfr => kernel_rfl); (case hsel => kernel_rfl); (case hg => rfl); (case hd => rfl); (case i1 => infer_instance); (case i2 => infer_instance); (case hx => rfl); (case hy => rfl); (case hm => rfl); (case hu => exact hyk); intro u1 (hu1 : Pts _ u1 [.slice ya (toS q).length yc, .int .i64 yb])); refine Jf 8 ?_; (apply h_first 9; (case hi => rfl); (case hr => kernel_rfl); (case hfr => kernel_rfl); (case hsel => kernel_rfl); (case hg => rfl); (case hd => rfl); (case he => (apply ev_load_f; (case hx => rfl); (case h => exact hu1); (case hv => rfl)))); refine Jf 10 ?_; refine Jf 11 ?_; (apply h_idx hA9 12; (case hi => rfl); (case hr => kernel_rfl); (case hfr => kernel_rfl); (case hsel => kernel_rfl); (case hg => rfl); (case hd => rfl); (case i1 => infer_instance); (case i2 => infer_instance); (case hx => rfl); (case hy => rfl); (case hm => rfl); (case hu => exact hx); intro u2 (hu2 : Pts _ u2 [.slice xa (toS p).length xc, .int .i64 xb])); refine Jf 13 ?_; (apply h_first 14; (case hi => rfl); (case hr => kernel_rfl); (case hfr => kernel_rfl); (case hsel => kernel_rfl); (case hg => rfl); (case hd => rfl); (case he => (apply ev_load_f; (case hx => rfl); (case h => exact hu2); (case hv => rfl)))); (apply h_one 15; (case hr => kernel_rfl)); (apply n_call; (case hi => rfl); (case i1 => infer_instance); (case hg => rfl); (case hd => rfl); (case ha => rfl); (case hc => exact rStarts_con q p ya xa yc xc _ s3 r39 s2 (by omega) (by omega) false ⟨fun h => absurd h Bool.false_ne_true, fun h => absurd ⟨q, d1, h⟩ hgo⟩); (case hL => (repeat (first | exact pm_nil _ | exact pm_refl _ _ | exact pm_self _ | apply pm_cons | apply pm_app))); (case hsub => (intros; (exact sbT))); rintro _ _ _ - ⟨rfl, rfl, rfl⟩); refine Jf 16 ?_; (apply h_end; (case hr => kernel_rfl)))
    (repeat (first | refine Jz ?_ | intro _))
  case' neg =>
    (repeat (first | refine Jz ?_ | intro _))
    ((apply c_held ([]); (case hL => (exact sbT))); refine Jf 0 ?_; refine Jf 1 ?_; refine Jf 2 ?_; refine Jf 3 ?_; refine Jf 4 ?_; refine Jf 5 ?_; refine Jf 6 ?_; refine Jf 7 ?_; refine Jf 8 ?_; refine Jf 9 ?_; refine Jf 10 ?_; refine Jf 11 ?_; refine Jf 12 ?_; refine Jf 13 ?_; refine Jf 14 ?_; (apply h_one 15; (case hr => kernel_rfl)); (refine X.Jn ?_; try intro _); refine Jf 16 ?_; (apply h_end; (case hr => kernel_rfl)))
    (repeat (first | refine Jz ?_ | intro _))
  all_goals (
    clear hkl
    refine c_loop (fun m S' L F => S9 = S' ∧ ∃ (k3 : Nat), m = i - k3 ∧ k3 ≤ i ∧ L = (b9, .cells [.int .i64 (if jd < k3 then (jd : Int) else -1), strV [], .int .i64 xb, .int .i64 t].toArray 53 (0, 0)) :: (obn ++ [(b7, .cells [vn].toArray 36 (0, 0)), (b2, .cells [.slice none 0 0].toArray 36 (0, 0))]) ∧
        F = [(2, .pointer (some ⟨b2, 0, none⟩)), (4, .slice A7 rs.length c7), (7, .pointer (some ⟨b7, 0, none⟩)), (8, .int .i64 i), (9, .pointer (some ⟨b9, 0, none⟩)), (11, .int .i64 k3)]) ⟨rfl, 0, rfl, by omega, rfl, rfl⟩ sbF sbL ?_
    rintro m S10 L F ⟨rfl, k3, rfl, hk3, rfl, rfl⟩
    by_cases hk3i : k3 < i
    rotate_left
    · obtain rfl : i = k3 := by omega
      have hsmI : 0 < i + 1 → sumL w M ≤ 1125899906842624 := fun _ => by
        by_cases hi0 : 0 < i
        · exact hsm hi0
        · have e : p = [] := he0 (by omega)
          have e3 : totL w M p = sumL w M := totL_all fun z hz => by rw [e]; exact List.nil_prefix
          omega
      by_cases hi0 : 0 < i
      · have hp0 := hne hi0
        have hjl := hjdi hi0
        have hlp : 0 < p.length := List.length_pos_iff.2 hp0
        have en : nodeC w M p = Nd.mk (jd : Int) (nameOf p) xb t := by unfold nodeC; rw [if_neg hp0, hjd, hT, ← e2]
        have hlast : ((toS p).length : Int) - 1 = ((p.length - 1 : Nat) : Int) := by omega
        have hlq : p[p.length - 1]? = some (nameOf p) := by
          unfold nameOf
          rw [← List.getLast?_eq_getElem?, List.getLast?_eq_some_getLast hp0]; rfl
        rw [if_pos hjl]
        (repeat (first | refine Jz ?_ | intro _))
        ((apply c_held ([]); (case hL => (exact sbT))); refine Jf 0 ?_; refine Jf 1 ?_; (apply h_idx hA9 2; (case hi => rfl); (case hr => kernel_rfl); (case hfr => kernel_rfl); (case hsel => kernel_rfl); (case hg => rfl); (case hd => rfl); (case i1 => infer_instance); (case i2 => infer_instance); (case hx => rfl); (case hy => rfl); (case hm => rfl); (case hu => exact hx); intro u1 (hu1 : Pts _ u1 [.slice xa (toS p).length xc, .int .i64 xb])); refine Jf 3 ?_; (apply h_first 4; (case hi => rfl); (case hr => kernel_rfl); (case hfr => kernel_rfl); (case hsel => kernel_rfl); (case hg => rfl); (case hd => rfl); (case he => (apply ev_load_f; (case hx => rfl); (case h => exact hu1); (case hv => rfl)))); refine Jf 5 ?_; refine Jf 6 ?_; (apply h_idx hA9 7; (case hi => rfl); (case hr => kernel_rfl); (case hfr => kernel_rfl); (case hsel => kernel_rfl); (case hg => rfl); (case hd => rfl); (case i1 => infer_instance); (case i2 => infer_instance); (case hx => rfl); (case hy => rfl); (case hm => rfl); (case hu => exact hx); intro u2 (hu2 : Pts _ u2 [.slice xa (toS p).length xc, .int .i64 xb])); refine Jf 8 ?_; (apply h_first 9; (case hi => rfl); (case hr => kernel_rfl); (case hfr => kernel_rfl); (case hsel => kernel_rfl); (case hg => rfl); (case hd => rfl); (case he => (apply ev_load_f; (case hx => rfl); (case h => exact hu2); (case hv => rfl)))); refine Jf 10 ?_; (refine Jf 11 ?_; rw [hlast]); (apply h_idx r39 12; (case hi => rfl); (case hr => kernel_rfl); (case hfr => kernel_rfl); (case hsel => kernel_rfl); (case hg => rfl); (case hd => rfl); (case i1 => infer_instance); (case i2 => infer_instance); (case hx => rfl); (case hy => rfl); (case hm => rfl); (case hu => exact (toS_at hlq)); intro u5 (hu5 : Pts _ u5 [strV (nameOf p)])); (apply h_first 13; (case hi => rfl); (case hr => kernel_rfl); (case hfr => kernel_rfl); (case hsel => kernel_rfl); (case hg => rfl); (case hd => rfl); (case he => (apply ev_load1; (case hx => rfl); (case h => exact hu5)))); refine Jf 14 ?_; (apply h_one 15; (case hr => kernel_rfl)); (apply n_store; (case hi => rfl); (case i1 => infer_instance); (case hg => rfl); (case hx => rfl); (case hy => rfl); (case h1 => rfl); (case hL => (repeat (first | exact Upd.head | apply Upd.tail | apply Upd.app))); (case hu => rfl); (case hsub => (intro _; (exact sbT)))); (apply h_end; (case hr => kernel_rfl)))
        (repeat (first | refine Jc ?_ | ((apply s_append (ms := [Nd.mk (jd : Int) (nameOf p) xb t]); (case hg => rfl); (case hd => rfl); (case hx => rfl); (case ho => exact hon); (case hL => (repeat (first | exact pm_nil _ | exact pm_refl _ _ | exact pm_self _ | apply pm_cons | apply pm_app))); (case hy => rfl); (case hm => rfl); (case hs => (apply Src.own; (repeat (first | exact List.Mem.head _ | apply List.Mem.tail | apply List.mem_append_right)))); (case hzs => rfl); (case h0 => decide); (case hb => (simp; omega)); (case h63 => (simp; omega)); intro v5 ob5 hob5); obtain ⟨A5, c5, rfl⟩ := hob5.form) | refine Jo ?_ | intro _))
        rw [← en] at hob5 ⊢
        exact q_back (L' := ob5 ++ [(b7, .cells [.slice A5 ((nodesC w M).take i ++ [nodeC w M p]).length c5].toArray 36 (0, 0)), (b2, .cells [.slice none 0 0].toArray 36 (0, 0))]) (m' := rs.length - (i + 1)) ⟨h8.trans h9, i + 1, _, ob5, rfl, by omega, by rw [hntake]; exact hob5, hsmI, rfl, rfl⟩ (by omega) sbF sbL
      · have e : p = [] := he0 (by omega)
        have en : nodeC w M p = Nd.mk (-1) [] xb t := by unfold nodeC; rw [if_pos e, hT, ← e2, e]; rfl
        rw [if_neg (by omega)]
        (repeat (first | refine Jc ?_ | ((apply s_append (ms := [Nd.mk (-1) [] xb t]); (case hg => rfl); (case hd => rfl); (case hx => rfl); (case ho => exact hon); (case hL => (repeat (first | exact pm_nil _ | exact pm_refl _ _ | exact pm_self _ | apply pm_cons | apply pm_app))); (case hy => rfl); (case hm => rfl); (case hs => (apply Src.own; (repeat (first | exact List.Mem.head _ | apply List.Mem.tail | apply List.mem_append_right)))); (case hzs => rfl); (case h0 => decide); (case hb => (simp; omega)); (case h63 => (simp; omega)); intro v5 ob5 hob5); obtain ⟨A5, c5, rfl⟩ := hob5.form) | refine Jo ?_ | intro _))
        rw [← en] at hob5 ⊢
        exact q_back (L' := ob5 ++ [(b7, .cells [.slice A5 ((nodesC w M).take i ++ [nodeC w M p]).length c5].toArray 36 (0, 0)), (b2, .cells [.slice none 0 0].toArray 36 (0, 0))]) (m' := rs.length - (i + 1)) ⟨h8.trans h9, i + 1, _, ob5, rfl, by omega, by rw [hntake]; exact hob5, hsmI, rfl, rfl⟩ (by omega) sbF sbL
    obtain ⟨y, hyk⟩ := at_lt (show k3 < rs.length by omega)
    obtain ⟨zk, hzk⟩ : ∃ z, (allF ys)[k3]? = some z := at_lt (by omega)
    obtain ⟨d1, d2, d3, d4, d5⟩ := haw k3 zk hzk
    obtain ⟨s0, s1, s2, s3⟩ := hrs9.2 k3 y zk hyk hzk
    obtain ⟨⟨ya, ym, yc⟩, yb⟩ := y
    obtain ⟨q, n'⟩ := zk
    simp only at d1 d2 d3 d4 d5 s0 s1 s2 s3
    subst s0; subst s1
    have tlq := toS_len q
    have hpq := hpar k3 q hk3i d1
    by_cases hlq : (q.length : Int) = (p.length : Int) - 1
    rotate_left
    · have hnk : k3 ≠ jd := fun h => hlq (hpq.2 h).1
      have e6 : (if jd < k3 + 1 then (jd : Int) else -1) = if jd < k3 then (jd : Int) else -1 := by by_cases h : jd < k3; rw [if_pos h, if_pos (by omega)]; rw [if_neg h, if_neg (by omega)]
      (repeat (first | refine Jz ?_ | intro _))
      ((apply c_held ([]); (case hL => (exact sbT))); refine Jf 0 ?_; refine Jf 1 ?_; (apply h_idx hA9 2; (case hi => rfl); (case hr => kernel_rfl); (case hfr => kernel_rfl); (case hsel => kernel_rfl); (case hg => rfl); (case hd => rfl); (case i1 => infer_instance); (case i2 => infer_instance); (case hx => rfl); (case hy => rfl); (case hm => rfl); (case hu => exact hyk); intro u1 (hu1 : Pts _ u1 [.slice ya (toS q).length yc, .int .i64 yb])); refine Jf 3 ?_; (apply h_first 4; (case hi => rfl); (case hr => kernel_rfl); (case hfr => kernel_rfl); (case hsel => kernel_rfl); (case hg => rfl); (case hd => rfl); (case he => (apply ev_load_f; (case hx => rfl); (case h => exact hu1); (case hv => rfl)))); refine Jf 5 ?_; refine Jf 6 ?_; refine Jf 7 ?_; (apply h_idx hA9 8; (case hi => rfl); (case hr => kernel_rfl); (case hfr => kernel_rfl); (case hsel => kernel_rfl); (case hg => rfl); (case hd => rfl); (case i1 => infer_instance); (case i2 => infer_instance); (case hx => rfl); (case hy => rfl); (case hm => rfl); (case hu => exact hx); intro u2 (hu2 : Pts _ u2 [.slice xa (toS p).length xc, .int .i64 xb])); refine Jf 9 ?_; (apply h_first 10; (case hi => rfl); (case hr => kernel_rfl); (case hfr => kernel_rfl); (case hsel => kernel_rfl); (case hg => rfl); (case hd => rfl); (case he => (apply ev_load_f; (case hx => rfl); (case h => exact hu2); (case hv => rfl)))); refine Jf 11 ?_; refine Jf 12 ?_; refine Jf 13 ?_; refine Jf 14 ?_; refine Jf 15 ?_; refine Jf 16 ?_; refine Jf 17 ?_; refine Jf 18 ?_; refine Jf 19 ?_; refine Jf 20 ?_; refine Jf 21 ?_; refine Jf 22 ?_; refine Jf 23 ?_; refine Jf 24 ?_; (apply h_one 25; (case hr => kernel_rfl)); (refine X.Jn ?_; try intro _); refine Jf 26 ?_; (apply h_end; (case hr => kernel_rfl)))
      (repeat (first | refine Jz ?_ | intro _))
      exact q_back (L' := (b9, .cells [.int .i64 (if jd < k3 then (jd : Int) else -1), strV [], .int .i64 xb, .int .i64 t].toArray 53 (0, 0)) :: (obn ++ [(b7, .cells [vn].toArray 36 (0, 0)), (b2, .cells [.slice none 0 0].toArray 36 (0, 0))])) (m' := i - (k3 + 1)) ⟨rfl, k3 + 1, rfl, by omega, by rw [e6], rfl⟩ (by omega) sbF sbL
    by_cases hqp : q <+: p
    · obtain rfl := hpq.1 ⟨hlq, hqp⟩
      have e6 : (if k3 < k3 + 1 then (k3 : Int) else -1) = (k3 : Int) := if_pos (by omega)
      (repeat (first | refine Jz ?_ | intro _))
      ((apply c_held ([]); (case hL => (exact sbT))); refine Jf 0 ?_; refine Jf 1 ?_; (apply h_idx hA9 2; (case hi => rfl); (case hr => kernel_rfl); (case hfr => kernel_rfl); (case hsel => kernel_rfl); (case hg => rfl); (case hd => rfl); (case i1 => infer_instance); (case i2 => infer_instance); (case hx => rfl); (case hy => rfl); (case hm => rfl); (case hu => exact hyk); intro u1 (hu1 : Pts _ u1 [.slice ya (toS q).length yc, .int .i64 yb])); refine Jf 3 ?_; (apply h_first 4; (case hi => rfl); (case hr => kernel_rfl); (case hfr => kernel_rfl); (case hsel => kernel_rfl); (case hg => rfl); (case hd => rfl); (case he => (apply ev_load_f; (case hx => rfl); (case h => exact hu1); (case hv => rfl)))); refine Jf 5 ?_; refine Jf 6 ?_; refine Jf 7 ?_; (apply h_idx hA9 8; (case hi => rfl); (case hr => kernel_rfl); (case hfr => kernel_rfl); (case hsel => kernel_rfl); (case hg => rfl); (case hd => rfl); (case i1 => infer_instance); (case i2 => infer_instance); (case hx => rfl); (case hy => rfl); (case hm => rfl); (case hu => exact hx); intro u2 (hu2 : Pts _ u2 [.slice xa (toS p).length xc, .int .i64 xb])); refine Jf 9 ?_; (apply h_first 10; (case hi => rfl); (case hr => kernel_rfl); (case hfr => kernel_rfl); (case hsel => kernel_rfl); (case hg => rfl); (case hd => rfl); (case he => (apply ev_load_f; (case hx => rfl); (case h => exact hu2); (case hv => rfl)))); refine Jf 11 ?_; refine Jf 12 ?_; refine Jf 13 ?_; refine Jf 14 ?_; refine Jf 15 ?_; refine Jf 16 ?_; (apply h_idx hA9 17; (case hi => rfl); (case hr => kernel_rfl); (case hfr => kernel_rfl); (case hsel => kernel_rfl); (case hg => rfl); (case hd => rfl); (case i1 => infer_instance); (case i2 => infer_instance); (case hx => rfl); (case hy => rfl); (case hm => rfl); (case hu => exact hx); intro u3 (hu3 : Pts _ u3 [.slice xa (toS p).length xc, .int .i64 xb])); refine Jf 18 ?_; (apply h_first 19; (case hi => rfl); (case hr => kernel_rfl); (case hfr => kernel_rfl); (case hsel => kernel_rfl); (case hg => rfl); (case hd => rfl); (case he => (apply ev_load_f; (case hx => rfl); (case h => exact hu3); (case hv => rfl)))); refine Jf 20 ?_; refine Jf 21 ?_; (apply h_idx hA9 22; (case hi => rfl); (case hr => kernel_rfl); (case hfr => kernel_rfl); (case hsel => kernel_rfl); (case hg => rfl); (case hd => rfl); (case i1 => infer_instance); (case i2 => infer_instance); (case hx => rfl); (case hy => rfl); (case hm => rfl); (case hu => exact hyk); intro u4 (hu4 : Pts _ u4 [.slice ya (toS q).length yc, .int .i64 yb])); refine Jf 23 ?_; (apply h_first 24; (case hi => rfl); (case hr => kernel_rfl); (case hfr => kernel_rfl); (case hsel => kernel_rfl); (case hg => rfl); (case hd => rfl); (case he => (apply ev_load_f; (case hx => rfl); (case h => exact hu4); (case hv => rfl)))); (apply h_one 25; (case hr => kernel_rfl)); (apply n_call; (case hi => rfl); (case i1 => infer_instance); (case hg => rfl); (case hd => rfl); (case ha => rfl); (case hc => exact rStarts_con p q xa ya xc yc _ r39 s3 r2 (by omega) (by omega) true ⟨fun _ => hqp, fun _ => rfl⟩); (case hL => (repeat (first | exact pm_nil _ | exact pm_refl _ _ | exact pm_self _ | apply pm_cons | apply pm_app))); (case hsub => (intros; (exact sbT))); rintro _ _ _ - ⟨rfl, rfl, rfl⟩); refine Jf 26 ?_; (apply h_end; (case hr => kernel_rfl)))
      (repeat (first | refine Jz ?_ | intro _))
      exact q_back (L' := (b9, .cells [.int .i64 (k3 : Int), strV [], .int .i64 xb, .int .i64 t].toArray 53 (0, 0)) :: (obn ++ [(b7, .cells [vn].toArray 36 (0, 0)), (b2, .cells [.slice none 0 0].toArray 36 (0, 0))])) (m' := i - (k3 + 1)) ⟨rfl, k3 + 1, rfl, by omega, by rw [e6], rfl⟩ (by omega) sbF sbL
    · have hnk : k3 ≠ jd := fun h => hqp (hpq.2 h).2
      have e6 : (if jd < k3 + 1 then (jd : Int) else -1) = if jd < k3 then (jd : Int) else -1 := by by_cases h : jd < k3; rw [if_pos h, if_pos (by omega)]; rw [if_neg h, if_neg (by omega)]
      (repeat (first | refine Jz ?_ | intro _))
      ((apply c_held ([]); (case hL => (exact sbT))); refine Jf 0 ?_; refine Jf 1 ?_; (apply h_idx hA9 2; (case hi => rfl); (case hr => kernel_rfl); (case hfr => kernel_rfl); (case hsel => kernel_rfl); (case hg => rfl); (case hd => rfl); (case i1 => infer_instance); (case i2 => infer_instance); (case hx => rfl); (case hy => rfl); (case hm => rfl); (case hu => exact hyk); intro u1 (hu1 : Pts _ u1 [.slice ya (toS q).length yc, .int .i64 yb])); refine Jf 3 ?_; (apply h_first 4; (case hi => rfl); (case hr => kernel_rfl); (case hfr => kernel_rfl); (case hsel => kernel_rfl); (case hg => rfl); (case hd => rfl); (case he => (apply ev_load_f; (case hx => rfl); (case h => exact hu1); (case hv => rfl)))); refine Jf 5 ?_; refine Jf 6 ?_; refine Jf 7 ?_; (apply h_idx hA9 8; (case hi => rfl); (case hr => kernel_rfl); (case hfr => kernel_rfl); (case hsel => kernel_rfl); (case hg => rfl); (case hd => rfl); (case i1 => infer_instance); (case i2 => infer_instance); (case hx => rfl); (case hy => rfl); (case hm => rfl); (case hu => exact hx); intro u2 (hu2 : Pts _ u2 [.slice xa (toS p).length xc, .int .i64 xb])); refine Jf 9 ?_; (apply h_first 10; (case hi => rfl); (case hr => kernel_rfl); (case hfr => kernel_rfl); (case hsel => kernel_rfl); (case hg => rfl); (case hd => rfl); (case he => (apply ev_load_f; (case hx => rfl); (case h => exact hu2); (case hv => rfl)))); refine Jf 11 ?_; refine Jf 12 ?_; refine Jf 13 ?_; refine Jf 14 ?_; refine Jf 15 ?_; refine Jf 16 ?_; (apply h_idx hA9 17; (case hi => rfl); (case hr => kernel_rfl); (case hfr => kernel_rfl); (case hsel => kernel_rfl); (case hg => rfl); (case hd => rfl); (case i1 => infer_instance); (case i2 => infer_instance); (case hx => rfl); (case hy => rfl); (case hm => rfl); (case hu => exact hx); intro u3 (hu3 : Pts _ u3 [.slice xa (toS p).length xc, .int .i64 xb])); refine Jf 18 ?_; (apply h_first 19; (case hi => rfl); (case hr => kernel_rfl); (case hfr => kernel_rfl); (case hsel => kernel_rfl); (case hg => rfl); (case hd => rfl); (case he => (apply ev_load_f; (case hx => rfl); (case h => exact hu3); (case hv => rfl)))); refine Jf 20 ?_; refine Jf 21 ?_; (apply h_idx hA9 22; (case hi => rfl); (case hr => kernel_rfl); (case hfr => kernel_rfl); (case hsel => kernel_rfl); (case hg => rfl); (case hd => rfl); (case i1 => infer_instance); (case i2 => infer_instance); (case hx => rfl); (case hy => rfl); (case hm => rfl); (case hu => exact hyk); intro u4 (hu4 : Pts _ u4 [.slice ya (toS q).length yc, .int .i64 yb])); refine Jf 23 ?_; (apply h_first 24; (case hi => rfl); (case hr => kernel_rfl); (case hfr => kernel_rfl); (case hsel => kernel_rfl); (case hg => rfl); (case hd => rfl); (case he => (apply ev_load_f; (case hx => rfl); (case h => exact hu4); (case hv => rfl)))); (apply h_one 25; (case hr => kernel_rfl)); (apply n_call; (case hi => rfl); (case i1 => infer_instance); (case hg => rfl); (case hd => rfl); (case ha => rfl); (case hc => exact rStarts_con p q xa ya xc yc _ r39 s3 r2 (by omega) (by omega) false ⟨fun h => absurd h Bool.false_ne_true, fun h => absurd h hqp⟩); (case hL => (repeat (first | exact pm_nil _ | exact pm_refl _ _ | exact pm_self _ | apply pm_cons | apply pm_app))); (case hsub => (intros; (exact sbT))); rintro _ _ _ - ⟨rfl, rfl, rfl⟩); refine Jf 26 ?_; (apply h_end; (case hr => kernel_rfl)))
      (repeat (first | refine Jz ?_ | intro _))
      exact q_back (L' := (b9, .cells [.int .i64 (if jd < k3 then (jd : Int) else -1), strV [], .int .i64 xb, .int .i64 t].toArray 53 (0, 0)) :: (obn ++ [(b7, .cells [vn].toArray 36 (0, 0)), (b2, .cells [.slice none 0 0].toArray 36 (0, 0))])) (m' := i - (k3 + 1)) ⟨rfl, k3 + 1, rfl, by omega, by rw [e6], rfl⟩ (by omega) sbF sbL)
end Go.Proofs.Ytcnfchchanlepaa
namespace Go.Proofs.Ytcnfchchanlepaa
open Go Go.X
/-- The name of an address, as the reference implementation finds it: the last symbol that fits. -/
def rnStep (v a : Int) (nm : Bs) (s : Sym) : Bs := if symB v a s = true then s.name else nm
def rnamed (l : List Sym) (v a : Int) : Bs := l.foldl (rnStep v a) [63]
theorem symB_iff {v a : Int} {s : Sym} : symB v a s = true ↔ s.version = v ∧ s.from_ ≤ a ∧ a < s.to := by
  unfold symB
  simp only [Bool.and_eq_true, decide_eq_true_eq]
  exact ⟨fun h => ⟨h.1.1, h.1.2, h.2⟩, fun h => ⟨⟨h.1, h.2.1⟩, h.2.2⟩⟩
theorem pairI_le {p s : Sym} (h : ¬ 0 < pairI p s) : p.version < s.version ∨ p.version = s.version ∧ p.to ≤ s.from_ := by
  rcases Int.lt_trichotomy p.version s.version with h1 | h1 | h1
  · exact .inl h1
  · refine .inr ⟨h1, ?_⟩
    by_cases h2 : p.to ≤ s.from_
    · exact h2
    · have e1 : cmpI p.version s.version = 0 := by unfold cmpI; rw [if_neg (by omega), if_neg (by omega)]
      have e2 : cmpI p.to s.from_ = 1 := by unfold cmpI; rw [if_neg (by omega), if_pos (by omega)]
      exact absurd (by unfold pairI; simp [orI, e1, e2]) h
  · have e1 : cmpI p.version s.version = 1 := by unfold cmpI; rw [if_neg (by omega), if_pos (by omega)]
    exact absurd (by unfold pairI; simp [orI, e1]) h
theorem sym_at {l : List Sym} (h : SymsOk l) {i : Nat} {s : Sym} (hs : l[i]? = some s) : symOk s ∧ ∀ p, 0 < i → l[i - 1]? = some p → ¬ 0 < pairI p s := h.1 i s (List.getElem?_eq_some_iff.1 hs).1 hs
theorem sym_lt {s : Sym} (h : symOk s) : s.from_ < s.to := by
  have := h.2.2.1
  unfold inB at this
  simp only [decide_eq_true_eq] at this
  omega
theorem sym_mono {l : List Sym} (h : SymsOk l) {i : Nat} {a : Sym} (ha : l[i]? = some a) : ∀ (k : Nat) (b : Sym), l[i + 1 + k]? = some b → a.version < b.version ∨ a.version = b.version ∧ a.to ≤ b.from_
  | 0, b, hb => pairI_le ((sym_at h hb).2 a (Nat.succ_pos i) (by simpa using ha))
  | k + 1, b, hb => by
    obtain ⟨c, hc⟩ := at_lt (l := l) (k := i + 1 + k) (by have := (List.getElem?_eq_some_iff.1 hb).1; omega)
    have h1 := sym_mono h ha k c hc
    have h2 := pairI_le ((sym_at h hb).2 c (by omega) (by rw [show i + 1 + (k + 1) - 1 = i + 1 + k by omega]; exact hc))
    have h3 := sym_lt (sym_at h hc).1
    omega
theorem sym_one {l : List Sym} (h : SymsOk l) (v a : Int) : l.Pairwise fun x y => ¬ (symB v a x = true ∧ symB v a y = true) := by
  rw [List.pairwise_iff_getElem]
  intro i j hi hj hij ⟨h1, h2⟩
  obtain ⟨k, rfl⟩ : ∃ k, j = i + 1 + k := ⟨j - (i + 1), by omega⟩
  have hm := sym_mono h (List.getElem?_eq_getElem hi) k _ (List.getElem?_eq_getElem hj)
  rw [symB_iff] at h1 h2
  omega
theorem rn_fold (v a : Int) : ∀ (l : List Sym) (nm : Bs), (l.Pairwise fun x y => ¬ (symB v a x = true ∧ symB v a y = true)) → l.foldl (rnStep v a) nm = match l.find? (symB v a) with | some s => s.name | none => nm
  | [], _, _ => rfl
  | s :: r, nm, h => by
    obtain ⟨h1, h2⟩ := List.pairwise_cons.1 h
    rw [List.foldl_cons, rn_fold v a r _ h2, List.find?_cons]
    cases hs : symB v a s with
    | false =>
      have e : rnStep v a nm s = nm := by unfold rnStep; rw [hs, if_neg (by decide)]
      rw [e]
    | true =>
      have e : rnStep v a nm s = s.name := by unfold rnStep; rw [hs, if_pos rfl]
      have hn : r.find? (symB v a) = none := List.find?_eq_none.2 fun x hx hpx => h1 x hx ⟨hs, hpx⟩
      rw [e, hn]
theorem rnamed_eq {l : List Sym} (h : SymsOk l) (v a : Int) : rnamed l v a = namedV l v a := rn_fold v a l [63] (sym_one h v a)
set_option maxRecDepth 10000
set_option linter.unusedVariables false
attribute [local irreducible] Code.wpIn wpListIn Exit.then Exit.inBlock X.Out X.Back X.W X.Ev X.Con X.BinV X.Wh X.Wn X.Wq
set_option maxHeartbeats 1600000 in
theorem rPath_con (l : List Sym) (A : Option Addr) (c : Nat) (v : Int) (fr : List Int) (B : Option Addr) (d : Nat) (wt : Int) (S : SH) (hA : At S A l) (hl : l.length ≤ 1000000) (hB : At S B fr) (hf : fr.length ≤ 1000000) :
    Con Try.prog 20 #[.slice A l.length c, .agg #[.int .i64 v, .slice B fr.length d, .int .i64 wt]] S [] (fun S' L' r => S' = S ∧ Ows 9 r (toS (fr.map (rnamed l v))) L') := by
  refine con_of (args := [.slice A l.length c, .agg #[.int .i64 v, .slice B fr.length d, .int .i64 wt]]) Try.func20 rfl Try.ntmps20 rfl fun w => ?_
  (repeat (first | refine Jz ?_ | intro _))
  rename_i b3
  refine c_loop (fun m S' L F => S' = S ∧ ∃ (k : Nat) (v1 : Value) (ob : Blocks), m = fr.length - k ∧ k ≤ fr.length ∧ Ows 9 v1 (toS ((fr.take k).map (rnamed l v))) ob ∧
      L = ob ++ [(b3, .cells [.int .i64 v, .slice B fr.length d, .int .i64 wt].toArray 29 (0, 0))] ∧
      F = [(0, .slice A l.length c), (3, .pointer (some ⟨b3, 0, none⟩)), (5, v1), (6, .int .i64 k)]) ⟨rfl, 0, _, [], rfl, by omega, Ows.nil _, rfl, rfl⟩ sbF (List.Sublist.refl _) ?_
  rintro m S' L F ⟨rfl, k, v1, ob, rfl, hk, ho, rfl, rfl⟩
  by_cases hlt : k < fr.length
  rotate_left
  · rw [List.take_of_length_le (by omega)] at ho
    (repeat (first | refine Jz ?_ | intro _))
    exact o_ret (L' := ob) Try.results20 rfl (List.sublist_append_left _ _) ⟨rfl, ho⟩
  obtain ⟨a, ha⟩ := at_lt hlt
  (repeat (first | refine Jz ?_ | intro _))
  refine c_loop (fun m S2 L F => S2 = S' ∧ ∃ (j : Nat), m = l.length - j ∧ j ≤ l.length ∧
      L = ob ++ [(b3, .cells [.int .i64 v, .slice B fr.length d, .int .i64 wt].toArray 29 (0, 0))] ∧
      F = [(0, .slice A l.length c), (3, .pointer (some ⟨b3, 0, none⟩)), (5, v1), (6, .int .i64 k), (7, strV ((l.take j).foldl (rnStep v a) [63])), (8, .int .i64 j)]) ⟨rfl, 0, rfl, by omega, rfl, rfl⟩ sbF (List.Sublist.refl _) ?_
  rintro m S2 L F ⟨rfl, j, rfl, hj, rfl, rfl⟩
  by_cases hjl : j < l.length
  rotate_left
  · rw [List.take_of_length_le (by omega)]
    have hkl : (toS ((fr.take k).map (rnamed l v))).length = k := by rw [toS_len]; simp; omega
    have hsn : toS ((fr.take (k + 1)).map (rnamed l v)) = toS ((fr.take k).map (rnamed l v)) ++ [Str.mk (rnamed l v a)] := by rw [take_at ha]; simp [toS]
    obtain ⟨ls, hls⟩ : ∃ ls, ls = toS ((fr.take k).map (rnamed l v)) := ⟨_, rfl⟩
    rw [← hls] at ho hkl hsn
    have hnm : l.foldl (rnStep v a) [63] = (Str.mk (rnamed l v a)).b := rfl
    rw [hnm]
    (repeat (first | refine Jc ?_ | (apply s_append (ms := [Str.mk (rnamed l v a)]); (case hg => rfl); (case hd => rfl); (case hx => rfl); (case ho => exact ho); (case hL => (repeat (first | exact pm_nil _ | exact pm_refl _ _ | exact pm_self _ | apply pm_cons | apply pm_app))); (case hy => rfl); (case hm => rfl); (case hs => (apply Src.own; (repeat (first | exact List.Mem.head _ | apply List.Mem.tail | apply List.mem_append_right)))); (case hzs => rfl); (case h0 => decide); (case hb => (simp; omega)); (case h63 => (simp; omega)); intro v' ob' ho') | refine Jo ?_ | intro _))
    rw [← hsn] at ho'
    exact q_back (L' := ob' ++ [(b3, .cells [.int .i64 v, .slice B fr.length d, .int .i64 wt].toArray 29 (0, 0))]) (m' := fr.length - (k + 1)) ⟨rfl, k + 1, v', ob', rfl, by omega, ho', rfl, rfl⟩ (by omega) sbF sbL
  obtain ⟨s, hs⟩ := at_lt hjl
  have hfo : (l.take (j + 1)).foldl (rnStep v a) [63] = rnStep v a ((l.take j).foldl (rnStep v a) [63]) s := by rw [take_at hs, List.foldl_append]; rfl
  generalize (l.take j).foldl (rnStep v a) [63] = nm at hfo
  by_cases h1 : s.version = v
  · by_cases h2 : s.from_ ≤ a
    · by_cases h3 : a < s.to
      · have e : rnStep v a nm s = s.name := by unfold rnStep; rw [if_pos (symB_iff.2 ⟨h1, h2, h3⟩)]
        rw [e] at hfo
        (repeat (first | refine Jz ?_ | intro _))
        (repeat (first | (apply q_idx hA; (case hg => rfl); (case hd => rfl); (case hx => rfl); (case hi => rfl); (case hm => rfl); (case hu => exact hs); intro q (hq : Pts _ q [.int .i64 s.version, .int .i64 s.from_, .int .i64 s.to, strV s.name])) | (apply q_idx hB; (case hg => rfl); (case hd => rfl); (case hx => rfl); (case hi => rfl); (case hm => rfl); (case hu => exact ha); intro q2 (hq2 : Pts _ q2 [.int .i64 a])) | (apply q_ev; (case hg => rfl); (case hd => rfl); (case he => (apply ev_load_f; (case hx => rfl); (case h => exact hq); (case hv => rfl)))) | (apply q_ev; (case hg => rfl); (case hd => rfl); (case he => (apply ev_load1; (case hx => rfl); (case h => exact hq2)))) | refine Jd ?_))
        (repeat (first | refine Jc ?_ | (apply s_idx hA; (case hg => rfl); (case hd => rfl); (case hx => rfl); (case hi => rfl); (case hm => rfl); (case hu => exact hs); intro q3 (hq3 : Pts _ q3 [.int .i64 s.version, .int .i64 s.from_, .int .i64 s.to, strV s.name])) | (apply s_load_f; (case hg => rfl); (case hd => rfl); (case hx => rfl); (case h => exact hq3); (case hv => rfl)) | refine Jo ?_ | intro _))
        exact q_back (L' := ob ++ [(b3, .cells [.int .i64 v, .slice B fr.length d, .int .i64 wt].toArray 29 (0, 0))]) (m' := l.length - (j + 1)) ⟨rfl, j + 1, rfl, by omega, rfl, by rw [hfo]⟩ (by omega) sbF (List.Sublist.refl _)
      · have e : rnStep v a nm s = nm := by unfold rnStep; rw [if_neg fun h => h3 (symB_iff.1 h).2.2]
        rw [e] at hfo
        (repeat (first | refine Jz ?_ | intro _))
        (repeat (first | (apply q_idx hA; (case hg => rfl); (case hd => rfl); (case hx => rfl); (case hi => rfl); (case hm => rfl); (case hu => exact hs); intro q (hq : Pts _ q [.int .i64 s.version, .int .i64 s.from_, .int .i64 s.to, strV s.name])) | (apply q_idx hB; (case hg => rfl); (case hd => rfl); (case hx => rfl); (case hi => rfl); (case hm => rfl); (case hu => exact ha); intro q2 (hq2 : Pts _ q2 [.int .i64 a])) | (apply q_ev; (case hg => rfl); (case hd => rfl); (case he => (apply ev_load_f; (case hx => rfl); (case h => exact hq); (case hv => rfl)))) | (apply q_ev; (case hg => rfl); (case hd => rfl); (case he => (apply ev_load1; (case hx => rfl); (case h => exact hq2)))) | refine Jd ?_))
        (repeat (first | refine Jz ?_ | intro _))
        exact q_back (L' := ob ++ [(b3, .cells [.int .i64 v, .slice B fr.length d, .int .i64 wt].toArray 29 (0, 0))]) (m' := l.length - (j + 1)) ⟨rfl, j + 1, rfl, by omega, rfl, by rw [hfo]⟩ (by omega) sbF (List.Sublist.refl _)
    · have e : rnStep v a nm s = nm := by unfold rnStep; rw [if_neg fun h => h2 (symB_iff.1 h).2.1]
      rw [e] at hfo
      (repeat (first | refine Jz ?_ | intro _))
      (repeat (first | (apply q_idx hA; (case hg => rfl); (case hd => rfl); (case hx => rfl); (case hi => rfl); (case hm => rfl); (case hu => exact hs); intro q (hq : Pts _ q [.int .i64 s.version, .int .i64 s.from_, .int .i64 s.to, strV s.name])) | (apply q_idx hB; (case hg => rfl); (case hd => rfl); (case hx => rfl); (case hi => rfl); (case hm => rfl); (case hu => exact ha); intro q2 (hq2 : Pts _ q2 [.int .i64 a])) | (apply q_ev; (case hg => rfl); (case hd => rfl); (case he => (apply ev_load_f; (case hx => rfl); (case h => exact hq); (case hv => rfl)))) | (apply q_ev; (case hg => rfl); (case hd => rfl); (case he => (apply ev_load1; (case hx => rfl); (case h => exact hq2)))) | refine Jd ?_))
      (repeat (first | refine Jz ?_ | intro _))
      exact q_back (L' := ob ++ [(b3, .cells [.int .i64 v, .slice B fr.length d, .int .i64 wt].toArray 29 (0, 0))]) (m' := l.length - (j + 1)) ⟨rfl, j + 1, rfl, by omega, rfl, by rw [hfo]⟩ (by omega) sbF (List.Sublist.refl _)
  · have e : rnStep v a nm s = nm := by unfold rnStep; rw [if_neg fun h => h1 (symB_iff.1 h).1]
    rw [e] at hfo
    (repeat (first | refine Jz ?_ | intro _))
    (repeat (first | (apply q_idx hA; (case hg => rfl); (case hd => rfl); (case hx => rfl); (case hi => rfl); (case hm => rfl); (case hu => exact hs); intro q (hq : Pts _ q [.int .i64 s.version, .int .i64 s.from_, .int .i64 s.to, strV s.name])) | (apply q_idx hB; (case hg => rfl); (case hd => rfl); (case hx => rfl); (case hi => rfl); (case hm => rfl); (case hu => exact ha); intro q2 (hq2 : Pts _ q2 [.int .i64 a])) | (apply q_ev; (case hg => rfl); (case hd => rfl); (case he => (apply ev_load_f; (case hx => rfl); (case h => exact hq); (case hv => rfl)))) | (apply q_ev; (case hg => rfl); (case hd => rfl); (case he => (apply ev_load1; (case hx => rfl); (case h => exact hq2)))) | refine Jd ?_))
    (repeat (first | refine Jz ?_ | intro _))
    exact q_back (L' := ob ++ [(b3, .cells [.int .i64 v, .slice B fr.length d, .int .i64 wt].toArray 29 (0, 0))]) (m' := l.length - (j + 1)) ⟨rfl, j + 1, rfl, by omega, rfl, by rw [hfo]⟩ (by omega) sbF (List.Sublist.refl _)
end Go.Proofs.Ytcnfchchanlepaa
namespace Go.Proofs.Ytcnfchchanlepaa
open Go Go.X
/-- Rows of paths, each of them stable. -/
def prR (S : SH) (x : Sv) (p : List Bs) : Prop := x.m = (toS p).length ∧ (toS p).length ≤ x.c ∧ At S x.a (toS p)
def PthL (S : SH) (xs : List Sv) (ps : List (List Bs)) : Prop := xs.length = ps.length ∧ ∀ (i : Nat) (x : Sv) (p : List Bs), xs[i]? = some x → ps[i]? = some p → prR S x p
theorem prR.le {S T : SH} (h : Le S T) {x : Sv} {p : List Bs} (k : prR S x p) : prR T x p := ⟨k.1, k.2.1, k.2.2.le h⟩
theorem PthL.le {S T : SH} (h : Le S T) {xs : List Sv} {ps : List (List Bs)} (k : PthL S xs ps) : PthL T xs ps := ⟨k.1, fun i x p h1 h2 => (k.2 i x p h1 h2).le h⟩
theorem PthL.nil (S : SH) : PthL S [] [] := ⟨rfl, fun i x y h => by simp at h⟩
theorem PthL.snoc {S : SH} {xs : List Sv} {ys : List (List Bs)} {x : Sv} {y : List Bs} (h : PthL S xs ys) (k : prR S x y) : PthL S (xs ++ [x]) (ys ++ [y]) := by
  refine ⟨by rw [List.length_append, List.length_append, h.1]; rfl, fun i x' y' h1 h2 => ?_⟩
  by_cases hi : i < xs.length
  · rw [List.getElem?_append_left hi] at h1
    rw [List.getElem?_append_left (by rw [← h.1]; exact hi)] at h2
    exact h.2 i x' y' h1 h2
  · rw [List.getElem?_append_right (by omega)] at h1
    rw [List.getElem?_append_right (by rw [← h.1]; omega)] at h2
    rw [← h.1] at h2
    cases hj : i - xs.length with
    | zero =>
      rw [hj] at h1 h2
      simp only [List.getElem?_cons_zero, Option.some.injEq] at h1 h2
      subst h1; subst h2; exact k
    | succ j =>
      rw [hj] at h1
      simp at h1
/-- The paths as the reference implementation reads them. -/
def rpN (i : Nat) (n : Nd) (ps : List (List Bs)) : Option (List (List Bs)) :=
  if i = 0 then (if n.parent ≠ -1 ∨ n.name ≠ [] then none else some (ps ++ [[]]))
  else if n.parent < 0 ∨ (i : Int) ≤ n.parent then none else some (ps ++ [ps.getD n.parent.toNat [] ++ [n.name]])
def rpA : List Nd → Nat → List (List Bs) → Option (List (List Bs))
  | [], _, ps => some ps
  | n :: r, i, ps => (rpN i n ps).bind fun q => rpA r (i + 1) q
def rpF (ns : List Nd) : Option (List (List Bs)) := rpA ns 0 []
def PathsR (ns : List Nd) (S : SH) (r : Value) (L' : Blocks) : Prop :=
  rpF ns = none ∧ r = .tuple #[.slice none 0 0, .bool false] ∧ L' = [] ∨ ∃ ps v xs, rpF ns = some ps ∧ r = .tuple #[v, .bool true] ∧ Ows 48 v xs L' ∧ PthL S xs ps ∧ ps.length = ns.length
set_option maxRecDepth 10000
set_option linter.unusedVariables false
attribute [local irreducible] Code.wpIn wpListIn Exit.then Exit.inBlock X.Out X.Back X.W X.Ev X.Con X.BinV X.Wh X.Wn X.Wq
end Go.Proofs.Ytcnfchchanlepaa
namespace Go.Proofs.Ytcnfchchanlepaa
open Go Go.X
set_option linter.unusedVariables false
section
variable {w : List Bs → Int} {L : List (List Bs)}
end
/-- What stacks weigh below a path, and at it. -/
def totS (l : List Sym) (ys : List Sk) (q : List Bs) : Int := (ys.map fun y => if q <+: pathOf l y then y.weight else 0).sum
def ownS (l : List Sym) (ys : List Sk) (q : List Bs) : Int := (ys.map fun y => if pathOf l y = q then y.weight else 0).sum
section
variable {l : List Sym}
theorem ownS_eq {ys : List Sk} (hv : ∀ y ∈ ys, VQ (pathOf l y)) {q : List Bs} (hq : VQ q) : wS l ys q = ownS l ys q := by
  unfold wS wI stkE ownS
  rw [List.map_map]
  refine sum_congrP fun y hy => ?_
  simp only [Function.comp_apply]
  by_cases h : pathOf l y = q
  · rw [if_pos h, if_pos (by rw [h])]
  · rw [if_neg h, if_neg fun e => h (pth_inj (hv y hy) hq e)]
end
section
variable {l : List Sym} {ys : List Sk}
theorem Gd.vq (h : Gd l ys) : ∀ y ∈ ys, VQ (pathOf l y) := fun y hy => pathOf_vq h.1 h.2 hy
end
theorem pathOf_rn {l : List Sym} (h : SymsOk l) (y : Sk) : y.frames.map (rnamed l y.version) = pathOf l y := by
  unfold pathOf
  exact List.map_congr_left fun a _ => rnamed_eq h _ a
end Go.Proofs.Ytcnfchchanlepaa
namespace Go.Proofs.Ytcnfchchanlepaa
open Go Go.X
set_option linter.unusedVariables false
/-- The list of own weights that Fold makes. -/
def stF (l : List Sym) (ys : List Sk) : List Ch := ys.foldl (fun a y => addF a (pathOf l y) y.weight) []
theorem stF_snoc (l : List Sym) (ys : List Sk) (y : Sk) : stF l (ys ++ [y]) = addF (stF l ys) (pathOf l y) y.weight := by unfold stF; rw [List.foldl_append]; rfl
theorem stF_val (l : List Sym) (p : List Bs) : ∀ ys, valF (stF l ys) p = ownS l ys p :=
  snoc_ind (by simp [stF, valF, ownS]) fun ys y ih => by rw [stF_snoc, addF_val, ih]; simp [ownS]
theorem stF_bd (l : List Sym) : ∀ ys : List Sk, (∀ y ∈ ys, 1 ≤ y.weight ∧ y.weight ≤ 1000000) → (stF l ys).length ≤ ys.length ∧ ∀ z ∈ stF l ys, (∃ y ∈ ys, z.1 = pathOf l y) ∧ 0 ≤ z.2 ∧ z.2 ≤ 1000000 * ys.length := by
  refine snoc_ind (fun _ => ⟨Nat.le_refl _, fun z hz => by simp [stF] at hz⟩) fun ys y ih h => ?_
  obtain ⟨ha, h1, h2⟩ := all_snoc h
  obtain ⟨i1, i2⟩ := ih ha
  rw [stF_snoc]
  have := addF_len (stF l ys) (pathOf l y) y.weight
  rw [List.length_append, List.length_singleton]
  refine ⟨by omega, fun z hz => ?_⟩
  rcases addF_mem hz with ⟨e1, e2⟩ | e | ⟨x, hx, e1, e2⟩
  · exact ⟨⟨y, by simp, e1⟩, by omega, by omega⟩
  · obtain ⟨⟨y', hy', e3⟩, b, c⟩ := i2 z e
    exact ⟨⟨y', by simp [hy'], e3⟩, b, by omega⟩
  · obtain ⟨_, b, c⟩ := i2 x hx
    exact ⟨⟨y, by simp, e1⟩, by omega, by omega⟩
theorem sks_wt {ys : List Sk} (h : sksB ys = true) : ∀ y ∈ ys, 1 ≤ y.weight ∧ y.weight ≤ 1000000 := fun y hy => by
  obtain ⟨_, h1, h2⟩ := sks_at h hy
  exact ⟨by omega, by omega⟩
theorem rBuildT {l : List Sym} {ys : List Sk} (h : Gd l ys) (rs : List Cg) (A : Option Addr) (c : Nat) (S : SH) (hA : At S A rs) (hr : ChL S rs (stF l ys)) :
    Con Try.prog 35 #[.slice A rs.length c] S [] (fun _ L' r => ∃ v, r = .tuple #[.agg #[v], .bool true] ∧ Ows 53 v (nF l ys) L') := by
  have hb := stF_bd l ys (sks_wt h.2)
  have hlen := sks_len h.2
  refine (rBuild_con rs (stF l ys) A c S hA hr (by have := hr.1; omega) (fun z hz => ?_) (fun z hz => by have := (hb.2 z hz).2; omega)).mono fun S' L' r _ hh => ?_
  · obtain ⟨⟨y, hy, e⟩, _⟩ := hb.2 z hz
    rw [e]; exact h.vq y hy
  · have hval : ∀ p, VQ p → valF (stF l ys) p = wS l ys p := fun p hp => by rw [stF_val, ownS_eq h.vq hp]
    obtain ⟨v, ok, hr, hB⟩ := hh
    rcases hB with ⟨⟨z, hz, h1⟩, _⟩ | ⟨h0, M, hM, hB⟩
    · have := (hb.2 z hz).2.1; omega
    · have hM2 := hM.congr hval
      have hG := fold_gt h.1 h.2 hM2
      have e : nodesC (valF (stF l ys)) M = nF l ys := by
        rw [nodesC_congr fun p hp => hval p (hM.vq p hp)]
        exact (nF_eq h hM2 fun _ _ => rfl).symm
      have hf : fits (valF (stF l ys)) M := by
        unfold fits
        rw [sumL_congr fun p hp => hval p (hM.vq p hp)]
        exact hG.fit
      rcases hB with ⟨_, rfl, ho⟩ | ⟨hn, _⟩
      · exact ⟨v, hr, e ▸ ho⟩
      · exact absurd hf hn
end Go.Proofs.Ytcnfchchanlepaa
namespace Go.Proofs.Ytcnfchchanlepaa
open Go Go.X
set_option linter.unusedVariables false
set_option maxRecDepth 10000
set_option linter.unusedVariables false
attribute [local irreducible] Code.wpIn wpListIn Exit.then Exit.inBlock X.Out X.Back X.W X.Ev X.Con X.BinV X.Wh X.Wn X.Wq
set_option maxHeartbeats 6400000 in
theorem rFold_con (l : List Sym) (xs : List Stk) (ys : List Sk) (A B : Option Addr) (c d : Nat) (S : SH) (hA : At S A l) (hl : l.length ≤ 1000000) (hB : At S B xs) (hx : xs.length ≤ 1000000) (hy : SkL S xs ys) :
    Con Try.prog 14 #[.slice A l.length c, .slice B xs.length d] S [] (fun _ L' r => ∃ v ec, r = .tuple #[.agg #[v], .int .i64 ec] ∧ FoldR l ys v ec L') := by
  refine con_of (args := [.slice A l.length c, .slice B xs.length d]) Try.func14 rfl Try.ntmps14 rfl fun w => ?_
  have hxy := hy.1
  by_cases hs : SymsOk l
  rotate_left
  · (repeat (first | refine Jc ?_ | ((apply s_call; (case hg => rfl); (case hd => rfl); (case ha => rfl); (case hc => exact rSymbols_con l A c _ hA hl); (case hL => (repeat (first | exact pm_nil _ | exact pm_refl _ _ | exact pm_self _ | apply pm_cons | apply pm_app))); rintro S1 L1 v1 h1 ⟨rfl, b1, rfl, hb1⟩); obtain rfl : b1 = false := (by cases b1; rfl; exact absurd (hb1.1 rfl) hs)) | (apply s_evb; (case hg => rfl); (case hd => rfl); (case hn => rfl); (case he => (apply ev_buildS; (case hp => rfl); (case hz => rfl); (case h1 => rfl); (case hr => rfl)))) | refine Jo ?_ | intro _))
    exact o_ret_c2 (L' := []) (sz := 1) (cs := [.slice none 0 0]) Try.results14 rfl rfl (by (repeat (first | exact List.Mem.head _ | apply List.Mem.tail | apply List.mem_append_right))) rfl (List.nil_sublist _) ⟨_, _, rfl, .inr ⟨fun h => hs h.1, rfl, rfl, rfl⟩⟩
  cases hk : sksB ys
  · (repeat (first | refine Jc ?_ | ((apply s_call; (case hg => rfl); (case hd => rfl); (case ha => rfl); (case hc => exact rSymbols_con l A c _ hA hl); (case hL => (repeat (first | exact pm_nil _ | exact pm_refl _ _ | exact pm_self _ | apply pm_cons | apply pm_app))); rintro S1 L1 v1 h1 ⟨rfl, b1, rfl, hb1⟩); obtain rfl : b1 = true := hb1.2 hs; have hcS := rStacks_con xs ys B d _ (hB.le h1) hx (hy.le h1); rw [hk] at hcS) | (apply s_call; (case hg => rfl); (case hd => rfl); (case ha => rfl); (case hc => exact hcS); (case hL => (repeat (first | exact pm_nil _ | exact pm_refl _ _ | exact pm_self _ | apply pm_cons | apply pm_app))); rintro _ _ _ - ⟨rfl, rfl, rfl⟩) | (apply s_evb; (case hg => rfl); (case hd => rfl); (case hn => rfl); (case he => (apply ev_buildS; (case hp => rfl); (case hz => rfl); (case h1 => rfl); (case hr => rfl)))) | refine Jo ?_ | intro _))
    exact o_ret_c2 (L' := []) (sz := 1) (cs := [.slice none 0 0]) Try.results14 rfl rfl (by (repeat (first | exact List.Mem.head _ | apply List.Mem.tail | apply List.mem_append_right))) rfl (List.nil_sublist _) ⟨_, _, rfl, .inr ⟨fun h => (by have h2 := h.2; rw [hk] at h2; exact Bool.false_ne_true h2), rfl, rfl, rfl⟩⟩
  have hg : Gd l ys := ⟨hs, hk⟩
  have hlen := sks_len hk
  (repeat (first | refine Jc ?_ | ((apply s_call; (case hg => rfl); (case hd => rfl); (case ha => rfl); (case hc => exact rSymbols_con l A c _ hA hl); (case hL => (repeat (first | exact pm_nil _ | exact pm_refl _ _ | exact pm_self _ | apply pm_cons | apply pm_app))); rintro S1 L1 v1 h1 ⟨rfl, b1, rfl, hb1⟩); obtain rfl : b1 = true := hb1.2 hs; have hcS := rStacks_con xs ys B d _ (hB.le h1) hx (hy.le h1); rw [hk] at hcS) | (apply s_call; (case hg => rfl); (case hd => rfl); (case ha => rfl); (case hc => exact hcS); (case hL => (repeat (first | exact pm_nil _ | exact pm_refl _ _ | exact pm_self _ | apply pm_cons | apply pm_app))); rintro _ _ _ - ⟨rfl, rfl, rfl⟩) | refine Jo ?_ | intro _))
  rename_i b4
  refine c_loop (fun m S' L F => Le S1 S' ∧ ∃ (k : Nat) (v : Value) (rs : List Cg) (ob : Blocks), m = xs.length - k ∧ k ≤ xs.length ∧ Ows 113 v rs ob ∧ ChL S' rs (stF l (ys.take k)) ∧ L = ob ++ [(b4, .cells [.slice none 0 0].toArray 36 (0, 0))] ∧
      F = [(0, .slice A l.length c), (1, .slice B xs.length d), (4, .pointer (some ⟨b4, 0, none⟩)), (6, v), (7, .int .i64 k)]) ⟨Le.refl _, 0, _, [], [], rfl, by omega, Ows.nil _, ChL.nil _, rfl, rfl⟩ sbF sbL ?_
  rintro m S2 L F ⟨h2, k, v, rs, ob, rfl, hk1, ho, hrs, rfl, rfl⟩
  have h12 := h1.trans h2
  have hA2 := hA.le h12
  have hB2 := hB.le h12
  by_cases hlt : k < xs.length
  rotate_left
  · rw [List.take_of_length_le (by omega)] at hrs
    refine W.freezeOws (L1 := [(b4, .cells [.slice none 0 0].toArray 36 (0, 0))]) ho (List.Perm.refl _) fun S3 h3 hs3 => ?_
    obtain ⟨A3, c3, rfl, hc3, hA3⟩ := hs3
    (repeat (first | refine Jc ?_ | ((apply s_call; (case hg => rfl); (case hd => rfl); (case ha => rfl); (case hc => exact rBuildT hg rs A3 c3 _ hA3 (hrs.le h3)); (case hL => (repeat (first | exact pm_nil _ | exact pm_refl _ _ | exact pm_self _ | apply pm_cons | apply pm_app))); rintro S4 L4 v4 h4 ⟨v, rfl, ho4⟩); obtain ⟨A4, c4, rfl⟩ := ho4.form) | refine Jo ?_ | intro _))
    exact o_ret_c2 (L' := L4) (sz := 1) (cs := [.slice A4 (nF l ys).length c4]) Try.results14 rfl rfl (by (repeat (first | exact List.Mem.head _ | apply List.Mem.tail | apply List.mem_append_right))) rfl sbL ⟨_, _, rfl, .inl ⟨hg, rfl, _, (mF_gt hg).can, ho4⟩⟩
  obtain ⟨x, hxk⟩ := at_lt hlt
  obtain ⟨y, hyk⟩ : ∃ y, ys[k]? = some y := at_lt (by omega)
  have hym := List.mem_of_getElem? hyk
  obtain ⟨w1, w2, w3⟩ := sks_at hk hym
  have hst := stF_snoc l (ys.take k) y
  rw [← take_at hyk] at hst
  have hbd := stF_bd l (ys.take k) (fun y hy => sks_wt hk y (List.mem_of_mem_take hy))
  rw [List.length_take] at hbd
  have hrl := hrs.1
  have hpl : ∀ z ∈ stF l (ys.take k), z.1.length ≤ 1000000 := fun z hz => by
    obtain ⟨⟨y', hy', e⟩, _⟩ := hbd.2 z hz
    have := (hg.vq y' (List.mem_of_mem_take hy')).1
    rw [e]; omega
  have hpw : ∀ z ∈ stF l (ys.take k), -1000000000000000000 ≤ z.2 ∧ z.2 ≤ 1000000000000000000 := fun z hz => by have := (hbd.2 z hz).2; omega
  have hpq := (hg.vq y hym).1
  obtain ⟨s1, s2, s3, s4, s5⟩ := (hy.le h12).2 k x y hxk hyk
  obtain ⟨xv, ⟨xa, xm, xc⟩, xw⟩ := x
  simp only at s1 s2 s3 s4 s5
  subst s1; subst s2; subst s3
  have hcP := fun S hA hB => rPath_con l A c y.version y.frames xa xc y.weight S hA hl hB (by omega)
  rw [pathOf_rn hs y] at hcP
  have tlp := toS_len (pathOf l y)
  (repeat (first | refine Jz ?_ | intro _))
  ((apply c_held ([]); (case hL => (exact sbT))); refine Jf 0 ?_; refine Jf 1 ?_; refine Jf 2 ?_; refine Jf 3 ?_; (apply h_idx hB2 4; (case hi => rfl); (case hr => kernel_rfl); (case hfr => kernel_rfl); (case hsel => kernel_rfl); (case hg => rfl); (case hd => rfl); (case i1 => infer_instance); (case i2 => infer_instance); (case hx => rfl); (case hy => rfl); (case hm => rfl); (case hu => exact hxk); intro q1 (hq1 : Pts _ q1 [.int .i64 y.version, .slice xa y.frames.length xc, .int .i64 y.weight])); (apply h_first 5; (case hi => rfl); (case hr => kernel_rfl); (case hfr => kernel_rfl); (case hsel => kernel_rfl); (case hg => rfl); (case hd => rfl); (case he => (apply ev_load_ag; (case hx => rfl); (case h => exact hq1); (case hl => rfl)))); refine Jf 7 ?_; refine Jf 8 ?_; (apply h_idx hB2 9; (case hi => rfl); (case hr => kernel_rfl); (case hfr => kernel_rfl); (case hsel => kernel_rfl); (case hg => rfl); (case hd => rfl); (case i1 => infer_instance); (case i2 => infer_instance); (case hx => rfl); (case hy => rfl); (case hm => rfl); (case hu => exact hxk); intro q2 (hq2 : Pts _ q2 [.int .i64 y.version, .slice xa y.frames.length xc, .int .i64 y.weight])); refine Jf 10 ?_; (apply h_first 11; (case hi => rfl); (case hr => kernel_rfl); (case hfr => kernel_rfl); (case hsel => kernel_rfl); (case hg => rfl); (case hd => rfl); (case he => (apply ev_load_f; (case hx => rfl); (case h => exact hq2); (case hv => rfl)))); (apply h_one 6; (case hr => kernel_rfl)); ((apply n_call; (case hi => rfl); (case i1 => infer_instance); (case hg => rfl); (case hd => rfl); (case ha => rfl); (case hc => exact hcP _ hA2 s5); (case hL => (repeat (first | exact pm_nil _ | exact pm_refl _ _ | exact pm_self _ | apply pm_cons | apply pm_app))); (case hsub => (intros; (exact sbT))); rintro S3 L3 v3 h3 ⟨-, ho3⟩); refine Wh.freezeOws ho3 (List.Perm.refl _) sbL fun S4 h4 hs4 => ?_; obtain ⟨A4, c4, rfl, hc4, hA4⟩ := hs4); (apply h_one 12; (case hr => kernel_rfl)); (apply n_call; (case hi => rfl); (case i1 => infer_instance); (case hg => rfl); (case hd => rfl); (case ha => rfl); (case hc => exact radd_con rs _ v ob (pathOf l y) A4 c4 y.weight _ ho ((hrs.le h3).le h4) (by omega) hpl (by omega) hA4 hc4 (by omega) hpw); (case hL => (repeat (first | exact pm_nil _ | exact pm_refl _ _ | exact pm_self _ | apply pm_cons | apply pm_app))); (case hsub => (intros; (exact sbT))); rintro S5 L5 v5 h5 ⟨-, rs5, ho5, hrs5⟩); refine Jf 13 ?_; (apply h_end; (case hr => kernel_rfl)); ((((repeat (first | refine Jz ?_ | intro _))); exact q_back (L' := L5 ++ [(b4, .cells [.slice none 0 0].toArray 36 (0, 0))]) (m' := xs.length - (k + 1)) ⟨((h2.trans h3).trans h4).trans h5, k + 1, v5, rs5, L5, rfl, by omega, ho5, by rw [hst]; exact hrs5, rfl, rfl⟩ (by omega) sbF sbL)))
set_option maxHeartbeats 3200000 in
theorem rSame_con (a b : List Nd) (A B : Option Addr) (c d : Nat) (S : SH) (hA : At S A a) (hB : At S B b) (ha : a.length ≤ 1000000) (hb : b.length ≤ 1000000) (r : Bool) (hr : r = true ↔ a = b) :
    Con Try.prog 15 #[.agg #[.slice A a.length c], .agg #[.slice B b.length d]] S [] (X.Pure S (.bool r)) := by
  refine con_of (args := [.agg #[.slice A a.length c], .agg #[.slice B b.length d]]) Try.func15 rfl Try.ntmps15 rfl fun w => ?_
  by_cases hl : a.length = b.length
  rotate_left
  · obtain rfl : r = false := by cases r; rfl; exact absurd (congrArg List.length (hr.1 rfl)) hl
    (repeat (first | refine Jz ?_ | intro _))
    exact o_ret Try.results15 rfl (List.nil_sublist _) ⟨rfl, rfl, rfl⟩
  (repeat (first | refine Jz ?_ | intro _))
  rename_i b2 b3
  refine c_loop (fun m S' L F => S = S' ∧ L = [(b3, .cells [.slice B b.length d].toArray 36 (0, 0)), (b2, .cells [.slice A a.length c].toArray 36 (0, 0))] ∧ ∃ (k : Nat), m = a.length - k ∧ k ≤ a.length ∧ a.take k = b.take k ∧
      F = [(2, .pointer (some ⟨b2, 0, none⟩)), (3, .pointer (some ⟨b3, 0, none⟩)), (5, .int .i64 k)]) ⟨rfl, rfl, 0, rfl, by omega, rfl, rfl⟩ sbF sbL ?_
  rintro m S' L F ⟨rfl, rfl, k, rfl, hk, hi, rfl⟩
  by_cases hlt : k < a.length
  rotate_left
  · obtain rfl : r = true := hr.2 (by rw [List.take_of_length_le (by omega), List.take_of_length_le (by omega)] at hi; exact hi)
    (repeat (first | refine Jz ?_ | intro _))
    exact o_ret Try.results15 rfl (List.nil_sublist _) ⟨rfl, rfl, rfl⟩
  obtain ⟨x, hx⟩ := at_lt hlt
  obtain ⟨y, hy⟩ : ∃ y, b[k]? = some y := at_lt (by omega)
  cases he : ndB x y
  all_goals (repeat (first | refine Jz ?_ | intro _))
  all_goals ((apply c_held ([(b3, .cells [.slice B b.length d].toArray 36 (0, 0)), (b2, .cells [.slice A a.length c].toArray 36 (0, 0))]); (case hL => (exact sbT))); refine Jf 0 ?_; refine Jf 1 ?_; refine Jf 2 ?_; (apply h_idx hA 3; (case hi => rfl); (case hr => kernel_rfl); (case hfr => kernel_rfl); (case hsel => kernel_rfl); (case hg => rfl); (case hd => rfl); (case i1 => infer_instance); (case i2 => infer_instance); (case hx => rfl); (case hy => rfl); (case hm => rfl); (case hu => exact hx); intro q (hq : Pts _ q [.int .i64 x.parent, strV x.name, .int .i64 x.own, .int .i64 x.total])); (apply h_first 4; (case hi => rfl); (case hr => kernel_rfl); (case hfr => kernel_rfl); (case hsel => kernel_rfl); (case hg => rfl); (case hd => rfl); (case he => (apply ev_load_ag; (case hx => rfl); (case h => exact hq); (case hl => rfl)))); refine Jf 5 ?_; refine Jf 6 ?_; refine Jf 7 ?_; (apply h_idx hB 8; (case hi => rfl); (case hr => kernel_rfl); (case hfr => kernel_rfl); (case hsel => kernel_rfl); (case hg => rfl); (case hd => rfl); (case i1 => infer_instance); (case i2 => infer_instance); (case hx => rfl); (case hy => rfl); (case hm => rfl); (case hu => exact hy); intro q2 (hq2 : Pts _ q2 [.int .i64 y.parent, strV y.name, .int .i64 y.own, .int .i64 y.total])); (apply h_first 9; (case hi => rfl); (case hr => kernel_rfl); (case hfr => kernel_rfl); (case hsel => kernel_rfl); (case hg => rfl); (case hd => rfl); (case he => (apply ev_load_ag; (case hx => rfl); (case h => exact hq2); (case hl => rfl)))); (apply h_first 10; (case hi => rfl); (case hr => kernel_rfl); (case hfr => kernel_rfl); (case hsel => kernel_rfl); (case hg => rfl); (case hd => rfl); (case he => (apply ev_neq4; (case hx => rfl); (case hy => rfl); (case hr => (rw [show eq4 x.parent x.name x.own x.total y.parent y.name y.own y.total = _ from he]))))); (apply h_end; (case hr => kernel_rfl)))
  all_goals (repeat (first | refine Jz ?_ | intro _))
  · obtain rfl : r = false := by
      cases r; rfl
      have hab := hr.1 rfl
      rw [hab, hy] at hx
      exact absurd ((ndB_iff x y).2 (Option.some.inj hx).symm) (by rw [he]; exact Bool.false_ne_true)
    exact o_ret Try.results15 rfl (List.nil_sublist _) ⟨rfl, rfl, rfl⟩
  · exact q_back (L' := [(b3, .cells [.slice B b.length d].toArray 36 (0, 0)), (b2, .cells [.slice A a.length c].toArray 36 (0, 0))]) (m' := a.length - (k + 1)) ⟨rfl, rfl, k + 1, rfl, by omega, by rw [take_at hx, take_at hy, hi, (ndB_iff x y).1 he], rfl⟩ (by omega) sbF sbL
end Go.Proofs.Ytcnfchchanlepaa
namespace Go.Proofs.Ytcnfchchanlepaa
open Go Go.X
set_option linter.unusedVariables false
open Classical in
/-- What both Folds answer. -/
noncomputable def nX (l : List Sym) (ys : List Sk) : List Nd := if Gd l ys then nF l ys else []
open Classical in
noncomputable def eX (l : List Sym) (ys : List Sk) : Int := if Gd l ys then 0 else 180
theorem foldR_X {l : List Sym} {ys : List Sk} {v : Value} {ec : Int} {L' : Blocks} (h : FoldR l ys v ec L') : ec = eX l ys ∧ Ows 53 v (nX l ys) L' := by
  unfold eX nX
  rcases h with ⟨hg, rfl, M, hM, ho⟩ | ⟨hg, rfl, rfl, rfl⟩
  · have hG : Gd l ys := hg
    rw [if_pos hG, if_pos hG]
    exact ⟨rfl, by rw [nF_eq hG hM fun _ _ => rfl]; exact ho⟩
  · have hG : ¬ Gd l ys := hg
    rw [if_neg hG, if_neg hG]
    exact ⟨rfl, Ows.nil _⟩
theorem nX_len (l : List Sym) (ys : List Sk) : (nX l ys).length ≤ 1000000 := by
  unfold nX
  split
  · rename_i h; exact nF_len h
  · simp
theorem foldX (l : List Sym) (xs : List Stk) (ys : List Sk) (A B : Option Addr) (c d : Nat) (S : SH) (hA : At S A l) (hl : l.length ≤ 1000000) (hB : At S B xs) (hx : xs.length ≤ 1000000) (hy : SkL S xs ys) (ec : Int) (he : eX l ys = ec) :
    Con Try.prog 13 #[.slice A l.length c, .slice B xs.length d] S [] (fun _ L' r => ∃ v, r = .tuple #[.agg #[v], .int .i64 ec] ∧ Ows 53 v (nX l ys) L') :=
  (fold_con l xs ys A B c d S hA hl hB hx hy).mono fun S' L' r _ ⟨v, ec', hr, hf⟩ => by
    obtain ⟨h1, h2⟩ := foldR_X hf
    rw [h1, he] at hr
    exact ⟨v, hr, h2⟩
theorem rfoldX (l : List Sym) (xs : List Stk) (ys : List Sk) (A B : Option Addr) (c d : Nat) (S : SH) (hA : At S A l) (hl : l.length ≤ 1000000) (hB : At S B xs) (hx : xs.length ≤ 1000000) (hy : SkL S xs ys) (ec : Int) (he : eX l ys = ec) :
    Con Try.prog 14 #[.slice A l.length c, .slice B xs.length d] S [] (fun _ L' r => ∃ v, r = .tuple #[.agg #[v], .int .i64 ec] ∧ Ows 53 v (nX l ys) L') :=
  (rFold_con l xs ys A B c d S hA hl hB hx hy).mono fun S' L' r _ ⟨v, ec', hr, hf⟩ => by
    obtain ⟨h1, h2⟩ := foldR_X hf
    rw [h1, he] at hr
    exact ⟨v, hr, h2⟩
theorem take_map2 {α β : Type} {f : α → β} {l : List α} {k : Nat} {x : α} (h : l[k]? = some x) : (l.take (k + 1)).map f = (l.take k).map f ++ [f x] := by rw [take_at h]; simp
def cutK (y : Sk) : Sk := ⟨y.version, y.frames.take (min y.frames.length 13), y.weight⟩
set_option maxRecDepth 10000
set_option linter.unusedVariables false
attribute [local irreducible] Code.wpIn wpListIn Exit.then Exit.inBlock X.Out X.Back X.W X.Ev X.Con X.BinV X.Wh X.Wn X.Wq
set_option maxHeartbeats 6400000 in
theorem matches_law (l : List Sym) (A : Option Addr) (c : Nat) (ss : List Stk) (ys : List Sk) (B : Option Addr) (d : Nat) (xs : List A3) (D : Option Addr) (e : Nat) (ls : List A6) (E : Option Addr) (f : Nat) (S : SH) (hA : At S A l) (hlc : l.length ≤ c) (hB : At S B ss) (hy : SkL S ss ys) (hD : At S D xs) (hx : ∀ x ∈ xs, i64A x) (hE : At S E ls) (hl : ∀ x ∈ ls, i64B x) :
    Con Try.prog 3 #[.slice A l.length c, .slice B ss.length d, .slice D xs.length e, .slice E ls.length f] S [] (fun _ L' r => L' = [] ∧ r = .bool true) := by
  refine con_of (args := [.slice A l.length c, .slice B ss.length d, .slice D xs.length e, .slice E ls.length f]) Try.func3 rfl Try.ntmps3 rfl fun w => ?_
  have hsy := hy.1
  (repeat (first | refine Jc ?_ | (apply s_call; (case hg => rfl); (case hd => rfl); (case ha => rfl); (case hc => exact sane_con _); (case hL => (repeat (first | exact pm_nil _ | exact pm_refl _ _ | exact pm_self _ | apply pm_cons | apply pm_app))); rintro S1 _ _ h1 ⟨rfl, rfl⟩) | refine Jo ?_ | intro _))
  refine c_loop (fun m S' L F => Le S1 S' ∧ ∃ (k : Nat) (v : Value) (rs : List Stk), m = 8 - k ∧ k ≤ ss.length ∧ k ≤ 8 ∧ Ows 29 v rs L ∧ SkL S' rs ((ys.take k).map cutK) ∧
      F = [(0, .slice A l.length c), (1, .slice B ss.length d), (2, .slice D xs.length e), (3, .slice E ls.length f), (9, .bool true), (10, v), (11, .int .i64 k)]) ⟨Le.refl _, 0, _, [], rfl, by omega, by omega, Ows.nil _, SkL.nil _, rfl⟩ sbF sbL ?_
  rintro m S2 ob F ⟨h2, k, v, rs, rfl, hk1, hk2, ho, hrs, rfl⟩
  have h12 := h1.trans h2
  by_cases hgo : k < ss.length ∧ k < 8
  · obtain ⟨hk3, hk4⟩ := hgo
    obtain ⟨x, hxk⟩ := at_lt hk3
    obtain ⟨y, hyk⟩ : ∃ y, ys[k]? = some y := at_lt (by omega)
    obtain ⟨s1, s2, s3, s4, s5⟩ := (hy.le h12).2 k x y hxk hyk
    obtain ⟨xv, ⟨xa, xm, xc⟩, xw⟩ := x
    simp only at s1 s2 s3 s4 s5
    subst s1; subst s2; subst s3
    have hB2 := hB.le h12
    have em := take_map2 (f := cutK) hyk
    have q1 : rs.length ≤ 8 := by rw [hrs.1, List.length_map, List.length_take]; omega
    (repeat (first | refine Jc ?_ | (apply s_idx hB2; (case hg => rfl); (case hd => rfl); (case hx => rfl); (case hi => rfl); (case hm => rfl); (case hu => exact hxk); intro q (hq : Pts _ q [.int .i64 y.version, .slice xa y.frames.length xc, .int .i64 y.weight])) | (apply s_load_ag; (case hg => rfl); (case hd => rfl); (case hx => rfl); (case hv => exact hq); (case hl => rfl)) | (apply s_minn (j := 13); (case hg => rfl); (case hd => rfl); (case hx => rfl); (case hy => rfl)) | (apply s_slice_hi s5; (case hg => rfl); (case hd => rfl); (case hx => rfl); (case hy => rfl); (case hm => rfl); (case hmc => omega); (case hj => omega); intro A5 hA5) | (apply s_append (ms := [Stk.mk y.version ⟨A5, (y.frames.take (min y.frames.length 13)).length, xc⟩ y.weight]); (case hg => rfl); (case hd => rfl); (case hx => rfl); (case ho => exact ho); (case hL => (repeat (first | exact pm_nil _ | exact pm_refl _ _ | exact pm_self _ | apply pm_cons | apply pm_app))); (case hy => rfl); (case hm => rfl); (case hs => (apply Src.own; (repeat (first | exact List.Mem.head _ | apply List.Mem.tail | apply List.mem_append_right)))); (case hzs => rfl); (case h0 => decide); (case hb => (simp; omega)); (case h63 => (simp; omega)); intro v6 ob6 hob6) | refine Jo ?_ | intro _))
    exact q_back (L' := ob6) (m' := 8 - (k + 1)) ⟨h2, k + 1, v6, _, rfl, by omega, by omega, hob6, by rw [em]; exact hrs.snoc ⟨rfl, rfl, rfl, (show (y.frames.take (min y.frames.length 13)).length ≤ xc from by rw [List.length_take]; omega), hA5⟩, rfl⟩ (by omega) sbF sbL
  have hrl : rs.length ≤ 8 := by rw [hrs.1, List.length_map, List.length_take]; omega
  refine W.freezeOws (L1 := []) ho (by simp) fun S3 h3 hs3 => ?_
  obtain ⟨A3_, c3, rfl, hc3, hA3⟩ := hs3
  have h13 := h12.trans h3
  have hrs3 := hrs.le h3
  generalize (ys.take k).map cutK = yq at *
  have hAl := hA.le h13
  have hex : ¬ k < ss.length ∨ (k < ss.length ∧ ¬ k < 8) := by omega
  rcases hex with hz | ⟨hz1, hz2⟩
  all_goals (
    (repeat (first | refine Jz ?_ | intro _))
    ((apply c_held ([]); (case hL => (exact sbT))); refine Jf 0 ?_; refine Jf 1 ?_; refine Jf 2 ?_; (apply h_first 3; (case hi => rfl); (case hr => kernel_rfl); (case hfr => kernel_rfl); (case hsel => kernel_rfl); (case hg => rfl); (case hd => rfl); (case he => (apply ev_minn (j := 8); (case hx => rfl); (case hy => rfl)))); (apply h_slice_hi hAl 4; (case hi => rfl); (case hr => kernel_rfl); (case hfr => kernel_rfl); (case hsel => kernel_rfl); (case hg => rfl); (case hd => rfl); (case i1 => infer_instance); (case i2 => infer_instance); (case hx => rfl); (case hy => rfl); (case hm => rfl); (case hmc => omega); (case hj => omega); intro A4 hA4); refine Jf 5 ?_; refine Jf 9 ?_; (apply h_one 6; (case hr => kernel_rfl)); ((apply n_call; (case hi => rfl); (case i1 => infer_instance); (case hg => rfl); (case hd => rfl); (case ha => rfl); (case hc => exact rTable_con xs D e _ (hD.le h13) hx); (case hL => (repeat (first | exact pm_nil _ | exact pm_refl _ _ | exact pm_self _ | apply pm_cons | apply pm_app))); (case hsub => (intros; (exact sbT))); rintro S4 L4 v4 h4 ⟨-, ho4⟩); refine Wh.freezeOws ho4 (List.Perm.refl _) sbL fun S5 h5 hs5 => ?_; obtain ⟨A5, c5, rfl, hc5, hA5⟩ := hs5); (apply h_one 7; (case hr => kernel_rfl)); (apply n_buildSlice; (case hi => rfl); (case hg => rfl); (case hd => rfl); (case i1 => infer_instance); (case i2 => infer_instance); (case i3 => infer_instance); (case hp => rfl); (case hq => rfl); (case hm => rfl); (case hv => rfl); (case hl => rfl); intro b55); refine Jf 8 ?_; (apply h_end; (case hr => kernel_rfl)))
    have hA45 := (hA4.le h4).le h5
    have ht15 := tableF_len xs
    have hp : ∀ i < 2, ∃ (lp : List Sym) (Ap : Option Addr) (cp : Nat), [Value.slice A4 (l.take (min l.length 8)).length c, .slice A5 (tableF xs).length c5][i]? = some (.slice Ap lp.length cp) ∧ At S5 Ap lp ∧ lp.length ≤ 1000000 := fun i hi => by
      match i, hi with
      | 0, _ => exact ⟨_, _, _, rfl, hA45, by rw [List.length_take]; omega⟩
      | 1, _ => exact ⟨_, _, _, rfl, hA5, by omega⟩
    have h35 := h4.trans h5
    (repeat (first | refine Jz ?_ | intro _))
    refine c_loop (fun m S' L F => Le S5 S' ∧ ∃ (i : Nat), m = 2 - i ∧ i ≤ 2 ∧ L = [(b55, .cells [.slice A4 (l.take (min l.length 8)).length c, .slice A5 (tableF xs).length c5].toArray 22 (0, 0))] ∧ F = [(3, .slice E ls.length f), (9, .bool true), (10, .slice A3_ rs.length c3), (55, .slice (some ⟨b55, 0, none⟩) 2 2), (56, .int .i64 2), (57, .int .i64 i)]) ⟨Le.refl _, 0, rfl, by omega, rfl, rfl⟩ sbF sbL ?_
    rintro m S6 L F ⟨h6, i, rfl, hi, rfl, rfl⟩
    by_cases hi2 : i < 2
    rotate_left
    · (repeat (first | refine Jz ?_ | intro _))
      exact o_ret (L' := []) Try.results3 rfl (List.nil_sublist _) ⟨rfl, rfl⟩
    obtain ⟨lp, Ap, cp, hcp, hAp, hlp⟩ := hp i hi2
    have h16 := (h13.trans h35).trans h6
    (repeat (first | refine Jc ?_ | (apply s_evb; (case hg => rfl); (case hd => rfl); (case hn => rfl); (case he => ((apply ev_idxo1 (j := i); (case hx => rfl); (case hi => rfl); (case hk => omega))))) | (apply s_evb; (case hg => rfl); (case hd => rfl); (case hn => rfl); (case he => ((apply ev_load_own; (case hx => rfl); (case hm => (repeat (first | exact List.Mem.head _ | apply List.Mem.tail | apply List.mem_append_right))); (case h => exact hcp))))) | ((apply s_call; (case hg => rfl); (case hd => rfl); (case ha => rfl); (case hc => exact rMade_con ls E f _ (hE.le h16) hl); (case hL => (repeat (first | exact pm_nil _ | exact pm_refl _ _ | exact pm_self _ | apply pm_cons | apply pm_app))); rintro S7 L7 v7 h7 ⟨-, xm, ho7, km⟩); refine W.freezeOws ho7 (List.Perm.refl _) fun S8 h8 hs8 => ?_; obtain ⟨A9, c9, rfl, hc9, hA9⟩ := hs8) | refine Jo ?_ | intro _))
    rename_i b64
    have h78 := h7.trans h8
    have hAp8 := (hAp.le h6).le h78
    have hl10 := madeF_len ls
    have km1 := km.1
    have hq : ∀ j < 2, ∃ (xq : List Stk) (yq' : List Sk) (Aq : Option Addr) (cq : Nat), [Value.slice A3_ rs.length c3, .slice A9 xm.length c9][j]? = some (.slice Aq xq.length cq) ∧ At S8 Aq xq ∧ xq.length ≤ 1000000 ∧ SkL S8 xq yq' := fun j hj => by
      match j, hj with
      | 0, _ => exact ⟨_, _, _, _, rfl, ((hA3.le h35).le h6).le h78, by omega, ((hrs3.le h35).le h6).le h78⟩
      | 1, _ => exact ⟨_, _, _, _, rfl, hA9, by omega, km.le h8⟩
    refine c_loop (fun m S' L F => Le S8 S' ∧ ∃ (j : Nat), m = 2 - j ∧ j ≤ 2 ∧ L = [(b64, .cells [.slice A3_ rs.length c3, .slice A9 xm.length c9].toArray 23 (0, 0)), (b55, .cells [.slice A4 (l.take (min l.length 8)).length c, .slice A5 (tableF xs).length c5].toArray 22 (0, 0))] ∧ F = [(3, .slice E ls.length f), (9, .bool true), (10, .slice A3_ rs.length c3), (55, .slice (some ⟨b55, 0, none⟩) 2 2), (56, .int .i64 2), (57, .int .i64 i), (14, .slice Ap lp.length cp), (64, .slice (some ⟨b64, 0, none⟩) 2 2), (65, .int .i64 2), (66, .int .i64 j)]) ⟨Le.refl _, 0, rfl, by omega, rfl, rfl⟩ sbF sbL ?_
    rintro m S9 L F ⟨h9, j, rfl, hj, rfl, rfl⟩
    by_cases hj2 : j < 2
    rotate_left
    · (repeat (first | refine Jz ?_ | intro _))
      exact q_back (L' := [(b55, .cells [.slice A4 (l.take (min l.length 8)).length c, .slice A5 (tableF xs).length c5].toArray 22 (0, 0))]) (m' := 2 - (i + 1)) ⟨(h6.trans h78).trans h9, i + 1, rfl, by omega, rfl, rfl⟩ (by omega) sbF sbL
    obtain ⟨xq, yq', Aq, cq, hcq, hAq, hxq, kq⟩ := hq j hj2
    have hAp9 := hAp8.le h9
    have hAq9 := hAq.le h9
    have kq9 := kq.le h9
    obtain ⟨ec, hec⟩ : ∃ ec, eX lp yq' = ec := ⟨_, rfl⟩
    have hnx := nX_len lp yq'
    (repeat (first | refine Jc ?_ | (apply s_evb; (case hg => rfl); (case hd => rfl); (case hn => rfl); (case he => ((apply ev_idxo1 (j := j); (case hx => rfl); (case hi => rfl); (case hk => omega))))) | (apply s_evb; (case hg => rfl); (case hd => rfl); (case hn => rfl); (case he => ((apply ev_load_own; (case hx => rfl); (case hm => (repeat (first | exact List.Mem.head _ | apply List.Mem.tail | apply List.mem_append_right))); (case h => exact hcq))))) | ((apply s_call; (case hg => rfl); (case hd => rfl); (case ha => rfl); (case hc => exact foldX lp xq yq' _ _ _ _ _ hAp9 hlp hAq9 hxq kq9 ec hec); (case hL => (repeat (first | exact pm_nil _ | exact pm_refl _ _ | exact pm_self _ | apply pm_cons | apply pm_app))); rintro S10 L10 _ h10 ⟨v10, rfl, ho10⟩); refine W.freezeOws ho10 (List.Perm.refl _) fun S11 h11 hs11 => ?_; obtain ⟨A11, c11, rfl, _, hA11⟩ := hs11) | refine Jo ?_ | intro _))
    have h1011 := h10.trans h11
    (repeat (first | refine Jc ?_ | ((apply s_call; (case hg => rfl); (case hd => rfl); (case ha => rfl); (case hc => exact rfoldX lp xq yq' _ _ _ _ _ (hAp9.le h1011) hlp (hAq9.le h1011) hxq (kq9.le h1011) ec hec); (case hL => (repeat (first | exact pm_nil _ | exact pm_refl _ _ | exact pm_self _ | apply pm_cons | apply pm_app))); rintro S12 L12 _ h12 ⟨v12, rfl, ho12⟩); refine W.freezeOws ho12 (List.Perm.refl _) fun S13 h13' hs13 => ?_; obtain ⟨A13, c13, rfl, _, hA13⟩ := hs13) | (apply s_call; (case hg => rfl); (case hd => rfl); (case ha => rfl); (case hc => exact rSame_con _ _ _ _ _ _ _ ((hA11.le h12).le h13') hA13 hnx hnx true ⟨fun _ => rfl, fun _ => rfl⟩); (case hL => (repeat (first | exact pm_nil _ | exact pm_refl _ _ | exact pm_self _ | apply pm_cons | apply pm_app))); rintro _ _ _ - ⟨rfl, rfl, rfl⟩) | refine Jo ?_ | intro _))
    exact q_back (L' := [(b64, .cells [.slice A3_ rs.length c3, .slice A9 xm.length c9].toArray 23 (0, 0)), (b55, .cells [.slice A4 (l.take (min l.length 8)).length c, .slice A5 (tableF xs).length c5].toArray 22 (0, 0))]) (m' := 2 - (j + 1)) ⟨((h9.trans h1011).trans h12).trans h13', j + 1, rfl, by omega, rfl, rfl⟩ (by omega) sbF sbL)
end Go.Proofs.Ytcnfchchanlepaa
namespace Go.Proofs.Ytcnfchchanlepaa
open Go Go.X
set_option linter.unusedVariables false
theorem rdb_Sym : Rdb (α := Sym) Try.prog 60 (fun _ _ => True) := fun H enc w fuel cs x h => by
  have hl : cs.length = 4 := len_s (by kernel_rfl) Try.underlying60 h
  match cs, hl with
  | [c0, c1, c2, c3], _ =>
  obtain ⟨a0, e0, o0⟩ := (rdb_int Try.underlying3).at_ (part_f 0 h)
  obtain ⟨a1, e1, o1⟩ := (rdb_int Try.underlying3).at_ (part_f 1 h)
  obtain ⟨a2, e2, o2⟩ := (rdb_int Try.underlying3).at_ (part_f 2 h)
  obtain ⟨a3, e3, o3⟩ := (rdb_str Try.underlying9).at_ (part_f 3 h)
  simp [Cl.cells] at e0 e1 e2 e3
  subst e0 e1 e2 e3
  exact ⟨⟨a0, a1, a2, a3.b⟩, rfl, trivial⟩
def okK (S : SH) (x : Stk) : Prop := ∃ fr : List Int, x.frames.m = fr.length ∧ fr.length ≤ x.frames.c ∧ At S x.frames.a fr
theorem rdb_Stk : Rdb (α := Stk) Try.prog 29 okK := fun H enc w fuel cs x h => by
  have hl : cs.length = 3 := len_s (by kernel_rfl) Try.underlying29 h
  match cs, hl with
  | [c0, c1, c2], _ =>
  obtain ⟨a0, e0, o0⟩ := (rdb_int Try.underlying3).at_ (part_f 0 h)
  obtain ⟨a1, e1, o1⟩ := (rdb_slice Try.underlying27 (by kernel_rfl) (rdb_int Try.underlying3)).at_ (part_f 1 h)
  obtain ⟨a2, e2, o2⟩ := (rdb_int Try.underlying3).at_ (part_f 2 h)
  simp [Cl.cells] at e0 e1 e2
  subst e0 e1 e2
  obtain ⟨fr, h1, h2, h3, _⟩ := o1
  exact ⟨⟨a0, a1, a2⟩, rfl, fr, h1, h2, h3⟩
theorem skl_of {S : SH} {xs : List Stk} (h : ∀ x ∈ xs, okK S x) : ∃ ys, SkL S xs ys := by
  induction xs with
  | nil => exact ⟨[], SkL.nil _⟩
  | cons x xs ih =>
    obtain ⟨ys, hy⟩ := ih fun y hy => h y (List.mem_cons_of_mem _ hy)
    obtain ⟨fr, h1, h2, h3⟩ := h x List.mem_cons_self
    refine ⟨⟨x.version, fr, x.weight⟩ :: ys, by rw [List.length_cons, List.length_cons, hy.1], fun i x' y' e1 e2 => ?_⟩
    cases i with
    | zero =>
      obtain rfl : x = x' := by simpa using e1
      obtain rfl : _ = y' := by simpa using e2
      exact ⟨rfl, rfl, h1, h2, h3⟩
    | succ i => exact hy.2 i x' y' (by simpa using e1) (by simpa using e2)
end Go.Proofs.Ytcnfchchanlepaa
namespace Go.Proofs.Ytcnfchchanlepaa
open Go Go.X
set_option linter.unusedVariables false
theorem matches_fr (l : List Sym) (A : Option Addr) (c : Nat) (ss : List Stk) (B : Option Addr) (d : Nat) (xs : List A3) (D : Option Addr) (e : Nat) (ls : List A6) (E : Option Addr) (f : Nat) (S : SH) (hlc : l.length ≤ c) (hA : At S A l) (_ : ∀ x ∈ l, True) (hB : At S B ss) (hk : ∀ x ∈ ss, okK S x) (hD : At S D xs) (hx : ∀ x ∈ xs, i64A x) (hE : At S E ls) (hl : ∀ x ∈ ls, i64B x) :
    Con Try.prog 3 #[.slice A l.length c, .slice B ss.length d, .slice D xs.length e, .slice E ls.length f] S [] (fun _ L' r => L' = [] ∧ r = .bool true) := by
  obtain ⟨ys, hy⟩ := skl_of hk
  exact matches_law l A c ss ys B d xs D e ls E f S hA hlc hB hy hD hx hE hl
end Go.Proofs.Ytcnfchchanlepaa
namespace Go.Proofs.Ytcnfchchanlepaa
open Go Go.X
open Go.ChangeShapes Go.WideShapes Go.ChangeAt Go.RowKit
set_option linter.unusedVariables false
set_option maxRecDepth 100000 in
theorem liftedProfileMatchesReference (os : Os) (started : os.Started) (H : Type) (enc : TypeId × Value → H) :
    ReturnsInHanded {} Try.checked os 3 .any (Rows.profileMatchesReferenceSpec.pre6 enc Try.prog Try.f3 Rows.profileMatchesReferenceRow.domain false) (Rows.profileMatchesReferenceSpec.post enc Try.prog Try.f3 false true false false) := by
  refine returnsInHanded_of_change (C := Try.checked) own started (by kernel_rfl) Try.func3
    (ChangeSpec.witness6 (enc := enc) (C := Try.checked) false ⟨#[], #[.slice none 0 0, .slice none 0 0, .slice none 0 0, .slice none 0 0], []⟩ 8 (by kernel_rfl) (by kernel_rfl) (by kernel_rfl) (by kernel_rfl)) ?_
  intro W base args ds gs before hval0 hW hcnd _
  have hval : ∀ (j : Nat) t v, Try.f3.params[j]? = some t → args[j]? = some v → Value.okWide Try.prog W .any base t v := hval0
  have hW' := hW
  obtain ⟨p, q, hA0, hV, rfl, hfz, hnd⟩ := hW
  have hA : DataW.TrodAll enc Try.prog W 0 (fun _ => true) true Try.f3.params.toList args.toList ds p := hA0
  rw [Try.params3] at hA hval
  obtain ⟨v0, vs0, d0, ds0, p0, q0, hargs, rfl, rfl, h0, r0⟩ := trodAll_cons hA
  obtain ⟨v1, vs1, d1, ds1, p1, q1, rfl, rfl, rfl, h1, r1⟩ := trodAll_cons r0
  obtain ⟨v2, vs2, d2, ds2, p2, q2, rfl, rfl, rfl, h2, r2⟩ := trodAll_cons r1
  obtain ⟨v3, vs3, d3, ds3, p3, q3, rfl, rfl, rfl, h3, r3⟩ := trodAll_cons r2
  obtain ⟨rfl, rfl, rfl⟩ := trodAll_nil r3
  obtain rfl : args = #[v0, v1, v2, v3] := by cases args; simp_all
  obtain ⟨rfl, rfl⟩ := trodVars_none hV
  have k0 := h0
  have lt0 : ∀ x ∈ p0, x.block < W.heap.size := by obtain ⟨m, hm⟩ := k0; exact DataW.trod_lt m _ _ _ hm
  have k1 := h1
  have lt1 : ∀ x ∈ p1, x.block < W.heap.size := by obtain ⟨m, hm⟩ := k1; exact DataW.trod_lt m _ _ _ hm
  have k2 := h2
  have lt2 : ∀ x ∈ p2, x.block < W.heap.size := by obtain ⟨m, hm⟩ := k2; exact DataW.trod_lt m _ _ _ hm
  have k3 := h3
  have lt3 : ∀ x ∈ p3, x.block < W.heap.size := by obtain ⟨m, hm⟩ := k3; exact DataW.trod_lt m _ _ _ hm
  obtain ⟨a0, len0, cap0, rfl⟩ := okWide_slice Try.underlying22 (hval 0 22 v0 rfl rfl)
  obtain ⟨xs0, rfl, gl0, gA0, gx0⟩ := open_sl (α := Sym) Try.underlying22 (by kernel_rfl) rdb_Sym rfl h0
  obtain ⟨a1, len1, cap1, rfl⟩ := okWide_slice Try.underlying23 (hval 1 23 v1 rfl rfl)
  obtain ⟨xs1, rfl, gl1, gA1, gx1⟩ := open_sl (α := Stk) Try.underlying23 (by kernel_rfl) rdb_Stk rfl h1
  obtain ⟨a2, len2, cap2, rfl⟩ := okWide_slice Try.underlying24 (hval 2 24 v2 rfl rfl)
  obtain ⟨xs2, rfl, gl2, gA2, gx2⟩ := open_sl (α := A3) Try.underlying24 (by kernel_rfl) rdb_A3 rfl h2
  obtain ⟨a3, len3, cap3, rfl⟩ := okWide_slice Try.underlying25 (hval 3 25 v3 rfl rfl)
  obtain ⟨xs3, rfl, gl3, gA3, gx3⟩ := open_sl (α := A6) Try.underlying25 (by kernel_rfl) rdb_A6 rfl h3
  refine (calls_of_con (matches_fr xs0 a0 cap0 xs1 a1 cap1 xs2 a2 cap2 xs3 a3 cap3 (allOf W) gl0 gA0 gx0 gA1 gx1 gA2 gx2 gA3 gx3) fun _ _ _ h => h.2).mono fun e W' ⟨he, bel⟩ => ?_
  subst he
  exact ⟨_, rfl, _, _, _, [], _, [], hW', trodAll_mk1 (shut_bool Try.underlying4 _), (trodAll_cons_mk (Below.trod laidOut (by kernel_rfl) (of_decide_eq_true (by kernel_rfl)) k0 bel lt0) (trodAll_cons_mk (Below.trod laidOut (by kernel_rfl) (of_decide_eq_true (by kernel_rfl)) k1 bel lt1) (trodAll_cons_mk (Below.trod laidOut (by kernel_rfl) (of_decide_eq_true (by kernel_rfl)) k2 bel lt2) (trodAll_cons_mk (Below.trod laidOut (by kernel_rfl) (of_decide_eq_true (by kernel_rfl)) k3 bel lt3) trodAll_mk0)))), rfl, bel.frame _, fun h => by cases h⟩
theorem overProfileMatchesReference : Rows.profileMatchesReferenceRow.holds Try.pinned (OpenSpec.ofChange Rows.profileMatchesReferenceSpec) :=
  OpenClaim.holds_of_wide 3 Try.f3 rfl rfl rfl rfl rfl rfl rfl ⟨rfl, rfl, rfl, rfl, rfl⟩ rfl rfl rfl rfl rfl (by kernel_rfl) Try.func3 (by kernel_rfl)
    (of_decide_eq_true (by kernel_rfl)) (by unfold Func.isWrapper; rw [if_neg (of_decide_eq_false (by kernel_rfl))]; exact ⟨rfl, rfl⟩)
    (fun os started H enc _ => liftedProfileMatchesReference os started H enc)
theorem profileMatchesReference_holds : Rows.ProfileMatchesReferenceSaid := overProfileMatchesReference
#print axioms profileMatchesReference_holds
end Go.Proofs.Ytcnfchchanlepaa
