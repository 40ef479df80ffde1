/- Contracts of functions of this program, each proved by a walk through its code, and plain lemmas on what they compute; on no condition beyond those that each theorem states. -/
import Derived.Test.YtcnfchchanlepaaBc
import Derived.Test.YtcnfchchanlepaaXA
import Derived.Test.YtcnfchchanlepaaXB
import Derived.Test.YtcnfchchanlepaaRows
import Derived.Deep.DeepHandedRow
import Derived.OpenShut
import Derived.ProofKit
namespace Go.Proofs.Ytcnfchchanlepaa
open Go Go.X
/-- A change as it lies in memory. -/
structure Cg where
  path : Sv
  by_ : Int
instance : Inhabited Cg := ⟨⟨⟨none, 0, 0⟩, 0⟩⟩
instance : Cl Cg := ⟨2, fun x => [.slice x.path.a x.path.m x.path.c, .int .i64 x.by_], fun _ => rfl, fun _ u hu => by simp at hu; rcases hu with rfl | rfl <;> rfl⟩
def cgR (S : SH) (x : Cg) (y : Ch) : Prop := x.by_ = y.2 ∧ x.path.m = (toS y.1).length ∧ (toS y.1).length ≤ x.path.c ∧ At S x.path.a (toS y.1)
def ChL (S : SH) (xs : List Cg) (ys : List Ch) : Prop := xs.length = ys.length ∧ ∀ (i : Nat) (x : Cg) (y : Ch), xs[i]? = some x → ys[i]? = some y → cgR S x y
theorem cgR.le {S T : SH} (h : Le S T) {x : Cg} {y : Ch} (k : cgR S x y) : cgR T x y := ⟨k.1, k.2.1, k.2.2.1, k.2.2.2.le h⟩
theorem ChL.le {S T : SH} (h : Le S T) {xs : List Cg} {ys : List Ch} (k : ChL S xs ys) : ChL T xs ys := ⟨k.1, fun i x y h1 h2 => (k.2 i x y h1 h2).le h⟩
theorem ChL.nil (S : SH) : ChL S [] [] := ⟨rfl, fun i x y h => by simp at h⟩
theorem ChL.cons {S : SH} {x : Cg} {y : Ch} {xs : List Cg} {ys : List Ch} (k : cgR S x y) (h : ChL S xs ys) : ChL S (x :: xs) (y :: ys) := by
  refine ⟨by rw [List.length_cons, List.length_cons, h.1], fun i x' y' h1 h2 => ?_⟩
  cases i with
  | zero =>
    simp only [List.getElem?_cons_zero, Option.some.injEq] at h1 h2
    subst h1; subst h2; exact k
  | succ i => exact h.2 i x' y' (by simpa using h1) (by simpa using h2)
theorem ChL.uncons {S : SH} {x : Cg} {y : Ch} {xs : List Cg} {ys : List Ch} (h : ChL S (x :: xs) (y :: ys)) : cgR S x y ∧ ChL S xs ys :=
  ⟨h.2 0 x y rfl rfl, by have := h.1; simpa using this, fun i x' y' h1 h2 => h.2 (i + 1) x' y' (by simpa using h1) (by simpa using h2)⟩
theorem ChL.snoc {S : SH} : ∀ {xs : List Cg} {ys : List Ch} {x : Cg} {y : Ch}, ChL S xs ys → cgR S x y → ChL S (xs ++ [x]) (ys ++ [y])
  | [], [], _, _, _, k => ChL.cons k (ChL.nil S)
  | [], _ :: _, _, _, h, _ => absurd h.1 (by simp)
  | _ :: _, [], _, _, h, _ => absurd h.1 (by simp)
  | _ :: _, _ :: _, _, _, h, k => ChL.cons h.uncons.1 (ChL.snoc h.uncons.2 k)
/-- A change, and the path that its slice holds for good. -/
structure ChX (S : SH) where
  g : Cg
  y : Ch
  r : cgR S g y
  l : y.1.length ≤ 12
  b : -9223372036854775807 ≤ y.2 ∧ y.2 ≤ 9223372036854775807
instance (S : SH) : Inhabited (ChX S) := ⟨⟨⟨⟨none, 0, 0⟩, 0⟩, ([], 0), ⟨rfl, rfl, Nat.le_refl _, At.nil _ _⟩, Nat.zero_le _, by simp⟩⟩
instance (S : SH) : Cl (ChX S) := ⟨2, fun x => Cl.cells x.g, fun x => Cl.len x.g, fun x u hu => Cl.one x.g u hu⟩
theorem chx_of {S : SH} : ∀ {xs : List Cg} {ys : List Ch}, ChL S xs ys → (∀ y ∈ ys, y.1.length ≤ 12 ∧ -9223372036854775807 ≤ y.2 ∧ y.2 ≤ 9223372036854775807) → ∃ zs : List (ChX S), zs.map ChX.g = xs ∧ zs.map ChX.y = ys
  | [], [], _, _ => ⟨[], rfl, rfl⟩
  | [], _ :: _, h, _ => absurd h.1 (by simp)
  | _ :: _, [], h, _ => absurd h.1 (by simp)
  | x :: xs, y :: ys, h, hb => by
    obtain ⟨zs, h1, h2⟩ := chx_of h.uncons.2 fun y hy => hb y (List.mem_cons_of_mem _ hy)
    obtain ⟨b1, b2⟩ := hb y List.mem_cons_self
    exact ⟨⟨x, y, h.uncons.1, b1, b2⟩ :: zs, by rw [List.map_cons, h1], by rw [List.map_cons, h2]⟩
theorem chl_of {S : SH} : ∀ (zs : List (ChX S)), ChL S (zs.map ChX.g) (zs.map ChX.y)
  | [] => ChL.nil S
  | z :: zs => ChL.cons z.r (chl_of zs)
theorem cells_chx {S : SH} : ∀ (zs : List (ChX S)), cellsOf zs = cellsOf (zs.map ChX.g)
  | [] => rfl
  | z :: zs => by rw [List.map_cons, cellsOf_cons, cellsOf_cons, cells_chx zs]; rfl
theorem ows_chx {S : SH} {e : TypeId} {v : Value} {zs : List (ChX S)} {ob : Blocks} : Ows e v zs ob ↔ Ows e v (zs.map ChX.g) ob := by
  have h1 : (zs.map ChX.g).length = zs.length := List.length_map _
  have h2 := cells_chx zs
  have h3 : Cl.size (ChX S) = Cl.size Cg := rfl
  unfold Ows
  rw [h1, h2, h3]
  constructor
  · rintro (⟨a, b, c⟩ | h)
    · exact .inl ⟨a, by rw [b]; rfl, c⟩
    · exact .inr h
  · rintro (⟨a, b, c⟩ | h)
    · exact .inl ⟨a, by simpa using b, c⟩
    · exact .inr h
theorem sortC_con {S : SH} {v : Value} {zs : List (ChX S)} {ob : Blocks} (ho : Ows 66 v zs ob) (hl : zs.length ≤ 1000000) :
    Con Try.prog 45 #[v, .func (.func 46) #[] #[]] S ob (fun S' L' r => S' = S ∧ r = .tuple #[] ∧ ∃ l', l'.Perm zs ∧ l'.Pairwise (fun x y => ¬ cfC y.y x.y < 0) ∧ Ows 66 v l' L') :=
  sortF_conS (cf := fun x y : ChX S => cfC x.y y.y) (fun blk cap d w h1 h2 h3 h4 => by
      have aE : ∀ w, (isAgg 66).run Try.prog w = .ok true w := fun w => run_isAgg Try.underlying66 rfl
      have zE : ∀ w, (Go.sizeOf 66).run Try.prog w = .ok 2 w := fun w => Go.X.run_sizeOf (Sz.size (P := Try.prog) (t := 66))
      exact AnyQ.slices_SortFunc Try.sortCells 2 aE zE Cl.cells Cl.len Cl.one _ (swoC ChX.y) 46 #[] blk 0 cap d w (fun args w => enters_of Try.func46 (by kernel_rfl) rfl args w) h1 h2 h3 h4)
    (fun p cap fv w => AnyF.slices_SortFunc_none { Try.sortCells with } p cap fv w) (fun x y => by
      obtain ⟨⟨⟨xa, xm, xc⟩, xb⟩, ⟨xp, xn⟩, ⟨r1, r2, r3, r4⟩, l1, b1⟩ := x
      obtain ⟨⟨⟨ya, ym, yc⟩, yb⟩, ⟨yp, yn⟩, ⟨s1, s2, s3, s4⟩, l2, b2⟩ := y
      simp only at r1 r2 r3 r4 l1 b1 s1 s2 s3 s4 l2 b2
      subst r1; subst r2; subst s1; subst s2
      exact dcmp_con xp yp xb yb xa ya xc yc S r4 s4 (by omega) (by omega) b1 b2) ho (by omega)
end Go.Proofs.Ytcnfchchanlepaa
namespace Go.Proofs.Ytcnfchchanlepaa
open Go Go.X
/-- The changes of entries. -/
def chOf (x : List (Pth × Int)) : List Ch := (x.filter fun e => e.2 != 0).map fun e => (strip e.1, e.2)
theorem chOf_app (x y : List (Pth × Int)) : chOf (x ++ y) = chOf x ++ chOf y := by simp [chOf]
theorem chOf_one (e : Pth × Int) : chOf [e] = if e.2 = 0 then [] else [(strip e.1, e.2)] := by
  unfold chOf
  by_cases h : e.2 = 0
  · simp [h]
  · simp [h]
theorem chOf_len (x : List (Pth × Int)) : (chOf x).length ≤ x.length := by
  unfold chOf
  rw [List.length_map]
  exact List.length_filter_le _ _
def DiffR (ns ms : List Nd) (S : SH) (v : Value) (ec : Int) (L' : Blocks) : Prop :=
  ¬(validB ns = true ∧ validB ms = true) ∧ ec = 180 ∧ v = .slice none 0 0 ∧ L' = [] ∨ (validB ns = true ∧ validB ms = true) ∧ ec = 0 ∧ ∃ xs ch, Ows 66 v xs L' ∧ ChL S xs ch ∧ Chs (fun p => wT Nd.total ms p - wT Nd.total ns p) ch
theorem chs_of {es : List (Pth × Int)} (hW : WE es) (hP : PE es) {d : List Bs → Int} (hd : ∀ p, VQ p → wI (pth p) es = d p) {x : List (Pth × Int)} (hx : x.Perm es) {ch : List Ch} (hc : ch.Perm (chOf x)) (hs : ch.Pairwise fun a b => ¬ cfC b a < 0) : Chs d ch := by
  have hmem : ∀ y, y ∈ ch ↔ VQ y.1 ∧ y.2 = d y.1 ∧ y.2 ≠ 0 := fun y => by
    rw [hc.mem_iff]
    unfold chOf
    constructor
    · intro h
      obtain ⟨e, he, rfl⟩ := List.mem_map.1 h
      obtain ⟨h1, h2⟩ := List.mem_filter.1 he
      have h3 := hx.mem_iff.1 h1
      obtain ⟨q, hq, e1⟩ := hP e h3
      obtain ⟨k, n⟩ := e
      simp only at e1
      subst e1
      simp only at h2 ⊢
      rw [strip_pth hq]
      exact ⟨hq, by rw [← hd q hq, wI_mem hW.nodup h3], by simpa using h2⟩
    · rintro ⟨h1, h2, h3⟩
      obtain ⟨p, n⟩ := y
      simp only at h1 h2 h3
      rw [← hd p h1] at h2
      have hk : pth p ∈ es.map (·.1) := by
        by_cases hk : pth p ∈ es.map (·.1)
        · exact hk
        · rw [wI_none hk] at h2; exact absurd h2 h3
      obtain ⟨⟨k, n'⟩, he, hk'⟩ := List.mem_map.1 hk
      simp only at hk'
      subst hk'
      rw [wI_mem hW.nodup he] at h2
      subst h2
      exact List.mem_map.2 ⟨(pth p, n), List.mem_filter.2 ⟨hx.mem_iff.2 he, by simpa using h3⟩, by rw [strip_pth h1]⟩
  have hnd : (ch.map (·.1)).Nodup := by
    have h1 : (x.map (·.1)).Nodup := (hx.map _).nodup_iff.2 hW.nodup
    have h2 : ((chOf x).map (·.1)).Nodup := by
      unfold chOf
      rw [List.map_map]
      have h3 : ((x.filter fun e => e.2 != 0).map (·.1)).Nodup := h1.sublist (List.filter_sublist.map _)
      rw [List.nodup_iff_pairwise_ne, List.pairwise_map] at h3 ⊢
      refine h3.imp_of_mem fun {a b} ha hb hab e => hab ?_
      obtain ⟨q1, hq1, e1⟩ := hP a (hx.mem_iff.1 (List.mem_filter.1 ha).1)
      obtain ⟨q2, hq2, e2⟩ := hP b (hx.mem_iff.1 (List.mem_filter.1 hb).1)
      simp only [Function.comp_apply] at e
      rw [e1, e2, strip_pth hq1, strip_pth hq2] at e
      rw [e1, e2, e]
    exact (hc.map _).nodup_iff.2 h2
  refine ⟨?_, hmem⟩
  rw [List.nodup_iff_pairwise_ne, List.pairwise_map] at hnd
  refine (hs.and hnd).imp ?_
  rintro a b ⟨h1, h2⟩
  rw [cfC_lt] at h1
  exact (bef_tri h2).resolve_right h1
theorem weightsT {f : FuncId} (hf : f = 42) (ns : List Nd) (A : Option Addr) (c : Nat) (S : SH) (hA : At S A ns) (hl : ns.length ≤ 1000000) (r : Bool) (hr : validB ns = r) (es : List (Pth × Int)) (he : wF Nd.total ns = es) :
    Con Try.prog 41 #[.agg #[.slice A ns.length c], .func (.func f) #[] #[]] S [] (fun _ L' x => ∃ bm, x = .tuple #[.map (some bm), .bool r] ∧ L' = [(bm, mapGO (iE es))]) := by
  subst hf
  subst he
  exact weights_t Nd.total (fun n S => total_con n S) ns A c S hA hl r hr
set_option maxRecDepth 10000
set_option linter.unusedVariables false
attribute [local irreducible] Code.wpIn wpListIn Exit.then Exit.inBlock X.Out X.Back X.W X.Ev X.Con X.BinV X.Wh X.Wn X.Wq
set_option maxHeartbeats 3200000 in
theorem diff_con (ns ms : List Nd) (A B : Option Addr) (c d : Nat) (S : SH) (hA : At S A ns) (hB : At S B ms) (hn : ns.length ≤ 1000000) (hm : ms.length ≤ 1000000) :
    Con Try.prog 26 #[.agg #[.slice A ns.length c], .agg #[.slice B ms.length d]] S [] (fun S' L' r => Le S S' ∧ ∃ v ec, r = .tuple #[v, .int .i64 ec] ∧ DiffR ns ms S' v ec L') := by
  refine con_of (args := [.agg #[.slice A ns.length c], .agg #[.slice B ms.length d]]) Try.func26 rfl Try.ntmps26 rfl fun w => ?_
  have hx := wF_ok Nd.total ns
  have hy := wF_ok Nd.total ms
  have hxb := fun k => wI_rng hx.1 (wF_total (ns := ns)) (by omega) k
  have hyb := fun k => wI_rng hy.1 (wF_total (ns := ms)) (by omega) k
  have hc := fun (b1 b2 : Nat) (S : SH) => with_minus b1 b2 (wF Nd.total ms) (wF Nd.total ns) S hy.1 hx.1 (by omega) (fun x hxm => by
    have h3 := wF_total x hxm
    have h4 := hyb x.1
    unfold i64
    omega)
  have hd : ∀ p, wT Nd.total ms p - wT Nd.total ns p = wI (pth p) (wF Nd.total ms) + -1 * wI (pth p) (wF Nd.total ns) := fun p => by unfold wT; omega
  obtain ⟨es, hes⟩ : ∃ es, wF Nd.total ns = es := ⟨_, rfl⟩
  obtain ⟨fs, hfs⟩ : ∃ fs, wF Nd.total ms = fs := ⟨_, rfl⟩
  rw [hes] at hx hc hxb
  rw [hfs] at hy hc hyb
  simp only [hes, hfs] at hd
  cases h1 : validB ns
  · cases h2 : validB ms
    · (repeat (first | refine Jc ?_ | (apply s_call; (case hg => rfl); (case hd => rfl); (case ha => rfl); (case hc => exact weightsT rfl ns A c _ hA hn _ h1 es hes); (case hL => (repeat (first | exact pm_nil _ | exact pm_refl _ _ | exact pm_self _ | apply pm_cons | apply pm_app))); rintro S2 L2 _ hle2 ⟨x1, rfl, rfl⟩) | refine Jo ?_ | intro _))
      (repeat (first | refine Jc ?_ | (apply s_call; (case hg => rfl); (case hd => rfl); (case ha => rfl); (case hc => exact weightsT rfl ms B d _ (hB.le hle2) hm _ h2 fs hfs); (case hL => (repeat (first | exact pm_nil _ | exact pm_refl _ _ | exact pm_self _ | apply pm_cons | apply pm_app))); rintro S3 L3 _ hle3 ⟨x2, rfl, rfl⟩) | refine Jo ?_ | intro _))
      exact o_ret2 (L' := []) Try.results26 rfl rfl (List.nil_sublist _) ⟨hle2.trans hle3, _, _, rfl, .inl ⟨fun h => by rw [h1, h2] at h; simp at h, rfl, rfl, rfl⟩⟩
    · (repeat (first | refine Jc ?_ | (apply s_call; (case hg => rfl); (case hd => rfl); (case ha => rfl); (case hc => exact weightsT rfl ns A c _ hA hn _ h1 es hes); (case hL => (repeat (first | exact pm_nil _ | exact pm_refl _ _ | exact pm_self _ | apply pm_cons | apply pm_app))); rintro S2 L2 _ hle2 ⟨x1, rfl, rfl⟩) | refine Jo ?_ | intro _))
      (repeat (first | refine Jc ?_ | (apply s_call; (case hg => rfl); (case hd => rfl); (case ha => rfl); (case hc => exact weightsT rfl ms B d _ (hB.le hle2) hm _ h2 fs hfs); (case hL => (repeat (first | exact pm_nil _ | exact pm_refl _ _ | exact pm_self _ | apply pm_cons | apply pm_app))); rintro S3 L3 _ hle3 ⟨x2, rfl, rfl⟩) | refine Jo ?_ | intro _))
      exact o_ret2 (L' := []) Try.results26 rfl rfl (List.nil_sublist _) ⟨hle2.trans hle3, _, _, rfl, .inl ⟨fun h => by rw [h1, h2] at h; simp at h, rfl, rfl, rfl⟩⟩
  · cases h2 : validB ms
    · (repeat (first | refine Jc ?_ | (apply s_call; (case hg => rfl); (case hd => rfl); (case ha => rfl); (case hc => exact weightsT rfl ns A c _ hA hn _ h1 es hes); (case hL => (repeat (first | exact pm_nil _ | exact pm_refl _ _ | exact pm_self _ | apply pm_cons | apply pm_app))); rintro S2 L2 _ hle2 ⟨x1, rfl, rfl⟩) | refine Jo ?_ | intro _))
      (repeat (first | refine Jc ?_ | (apply s_call; (case hg => rfl); (case hd => rfl); (case ha => rfl); (case hc => exact weightsT rfl ms B d _ (hB.le hle2) hm _ h2 fs hfs); (case hL => (repeat (first | exact pm_nil _ | exact pm_refl _ _ | exact pm_self _ | apply pm_cons | apply pm_app))); rintro S3 L3 _ hle3 ⟨x2, rfl, rfl⟩) | refine Jo ?_ | intro _))
      exact o_ret2 (L' := []) Try.results26 rfl rfl (List.nil_sublist _) ⟨hle2.trans hle3, _, _, rfl, .inl ⟨fun h => by rw [h1, h2] at h; simp at h, rfl, rfl, rfl⟩⟩
    (repeat (first | refine Jc ?_ | (apply s_call; (case hg => rfl); (case hd => rfl); (case ha => rfl); (case hc => exact weightsT rfl ns A c _ hA hn _ h1 es hes); (case hL => (repeat (first | exact pm_nil _ | exact pm_refl _ _ | exact pm_self _ | apply pm_cons | apply pm_app))); rintro S2 L2 _ hle2 ⟨x1, rfl, rfl⟩) | refine Jo ?_ | intro _))
    (repeat (first | refine Jc ?_ | (apply s_call; (case hg => rfl); (case hd => rfl); (case ha => rfl); (case hc => exact weightsT rfl ms B d _ (hB.le hle2) hm _ h2 fs hfs); (case hL => (repeat (first | exact pm_nil _ | exact pm_refl _ _ | exact pm_self _ | apply pm_cons | apply pm_app))); rintro S3 L3 _ hle3 ⟨x2, rfl, rfl⟩) | refine Jo ?_ | intro _))
    (repeat (first | refine Jc ?_ | (apply s_call; (case hg => rfl); (case hd => rfl); (case ha => rfl); (case hc => exact hc x2 x1 _); (case hL => exact List.Perm.refl _); rintro S4 _ _ hle4 ⟨rfl, rfl, es2, rfl, hWe, hwe, hlen, hko⟩) | refine Jo ?_ | intro _))
    (repeat (first | refine Jc ?_ | (apply s_call; (case hg => rfl); (case hd => rfl); (case ha => rfl); (case hc => exact mapsAll_con x2 _); (case hL => (repeat (first | exact pm_nil _ | exact pm_refl _ _ | exact pm_self _ | apply pm_cons | apply pm_app))); rintro S5 _ _ hle5 ⟨-, rfl, p, rfl, hp⟩) | refine Jo ?_ | intro _))
    rename_i b10
    have hPe : PE es2 := fun x hxm => by
      rcases hko x hxm with h | h
      · obtain ⟨y, hy1, e⟩ := List.mem_map.1 h
        rw [← e]; exact hy.2.1 y hy1
      · obtain ⟨y, hy1, e⟩ := List.mem_map.1 h
        rw [← e]; exact hx.2.1 y hy1
    have hbb : ∀ e ∈ es2, -1125899906842624 ≤ e.2 ∧ e.2 ≤ 1125899906842624 := fun e he => by
      have e1 : wI e.1 es2 = e.2 := wI_mem hWe.nodup he
      rw [hwe] at e1
      have h3 := hxb e.1
      have h4 := hyb e.1
      omega
    have hes2 : es2.length ≤ 4000 := by omega
    refine W.trim (F' := [(10, .pointer (some ⟨b10, 0, none⟩)), (33, .func (.func 66) #[] #[.pointer (some p)])]) (L' := [(b10, .cells [.slice none 0 0].toArray 62 (0, 0)), (x2, mapGO (iE es2))]) sbF sbL ?_
    refine c_rangeFunc (caps := [.pointer (some p)]) rfl rfl fun r l fn tmps hfm => ?_
    generalize hrec : rec0 fn tmps _ _ _ r LoopState.ready none = o
    obtain ⟨I, hI⟩ : ∃ I : SH → List (Pth × Int) → Blocks → Prop, I = fun S x L => ∃ v xs ob, Ows 66 v xs ob ∧ ChL S xs (chOf x) ∧ L = (l, o) :: (x2, mapGO (iE es2)) :: (b10, .cells [v].toArray 62 (0, 0)) :: ob := ⟨_, rfl⟩
    have hmem : ∀ S x L, I S x L → ∃ L2, L = (l, o) :: (x2, mapGO (iE es2)) :: L2 := fun S x L h => by rw [hI] at h; obtain ⟨v, xs, ob, -, -, rfl⟩ := h; exact ⟨_, rfl⟩
    rw [← hrec] at hmem
    refine ⟨(l, o) :: (x2, mapGO (iE es2)) :: (b10, .cells [.slice none 0 0].toArray 62 (0, 0)) :: [], [(r, .deferred (some []))], fun S' L' v => Le S5 S' ∧ ∃ x, x.Perm es2 ∧ I S' x L', ?_, ?_, ?_⟩
    · exact (pmc (fun p => by (repeat (first | rw [List.countP_append] | rw [List.countP_cons] | rw [List.countP_nil])); (all_goals (first | rfl | omega))))
    · refine mapsAll1_con rfl es2 hWe x2 I hmem S5 p hp ?_ _ (by rw [hI]; exact ⟨_, _, _, Ows.nil 66, ChL.nil _, rfl⟩)
      intro S6 x L e hle6 hi hee hnx hxl
      rw [hI] at hi
      obtain ⟨v, xs, ob, ho, hch, rfl⟩ := hi
      obtain ⟨q, hq, hek⟩ := hPe e hee
      obtain ⟨ek, en⟩ := e
      simp only at hek
      subst hek
      have hpl := pad_lenV hq.1
      have hfm' := (hfm.put (d := 34) (.agg ((pad q).map strV).toArray) rfl).put (d := 35) (.int .i64 en) rfl
      have hfm2 : Fm 48 { tmps := (#[34, 35].zip #[.agg ((pad q).map strV).toArray, .int .i64 en]).foldl (fun t (p : Tmp × Value) => t.setIfInBounds p.1 p.2) tmps, defers := [] } [(35, .int .i64 en), (34, .agg ((pad q).map strV).toArray), (10, .pointer (some ⟨b10, 0, none⟩)), (33, .func (.func 66) #[] #[.pointer (some p)])] := by simpa [Act.put] using hfm'
      have hsx : strip (pth q) = q := strip_pth hq
      have hxs : xs.length ≤ 4000 := by have := hch.1; have := chOf_len x; omega
      rw [← hrec]
      refine rd_ofR hfm2 fun w' => ?_
      by_cases hz : en = 0
      · (repeat (first | refine Jc ?_ | (apply s_store_ag (vs := (pad q).map strV); (case hg => rfl); (case hx => rfl); (case hy => rfl); (case h1 => exact strs_one _); (case hv => exact hpl); (case hL => (repeat (first | exact Upd.head | apply Upd.tail | apply Upd.app))); (case hu => rfl)) | refine Jo ?_ | intro _))
        refine W.trim (F' := [(10, .pointer (some ⟨b10, 0, none⟩)), (12, .int .i64 en)]) (L' := (l, _) :: (x2, mapGO (iE es2)) :: (b10, .cells [v].toArray 62 (0, 0)) :: ob) sbF sbL ?_
        apply r_begin
        (repeat (first | refine Jz ?_ | intro _))
        refine r_end (L' := (x2, mapGO (iE es2)) :: (b10, .cells [v].toArray 62 (0, 0)) :: ob) (List.Sublist.refl _) fun w'' hs => ⟨rfl, S6, _, ⟨Le.refl _, by rw [hI]; exact ⟨v, xs, ob, ho, by rw [chOf_app, chOf_one, if_pos hz, List.append_nil]; exact hch, rfl⟩⟩, ?_⟩
        rw [hrec] at hs
        exact hs
      · (repeat (first | refine Jc ?_ | (apply s_store_ag (vs := (pad q).map strV); (case hg => rfl); (case hx => rfl); (case hy => rfl); (case h1 => exact strs_one _); (case hv => exact hpl); (case hL => (repeat (first | exact Upd.head | apply Upd.tail | apply Upd.app))); (case hu => rfl)) | refine Jo ?_ | intro _))
        rename_i b11
        refine W.perm ?_ (List.Perm.swap _ _ _)
        apply r_begin
        (repeat (first | refine Jz ?_ | intro _))
        ((apply c_heldR ([(b11, .cells ((pad q).map strV).toArray 74 (0, 0))]); (case hL => (exact sbT)); (case hdef => rfl); (case hQ => (intro _ _ h; first | exact h | (simp only [Exit.inBlock, roundPost] at h; exact h) | (simp [Exit.inBlock, roundPost] at h)))); (apply h_first 1; (case hi => rfl); (case hr => kernel_rfl); (case hfr => kernel_rfl); (case hsel => kernel_rfl); (case hg => rfl); (case hd => rfl); (case he => (apply ev_load_own_ag; (case hx => rfl); (case hm => (repeat (first | exact List.Mem.head _ | apply List.Mem.tail | apply List.mem_append_right))); (case hl => exact hpl)))); refine Jf 3 ?_; (apply h_two 0 2; (case hr => kernel_rfl)); (case k1 => ((apply n_ev; (case hi => rfl); (case hg => rfl); (case hd => rfl); (case he => (apply ev_load_own; (case hx => rfl); (case hm => (repeat (first | exact List.Mem.head _ | apply List.Mem.tail | apply List.mem_append_right))); (case h => rfl)))); (apply h_one 2; (case hr => kernel_rfl)); ((apply n_call; (case hi => rfl); (case i1 => infer_instance); (case hg => rfl); (case hd => rfl); (case ha => rfl); (case hc => exact list_con q hq _); (case hL => (repeat (first | exact pm_nil _ | exact pm_refl _ _ | exact pm_self _ | apply pm_cons | apply pm_app))); (case hsub => (intros; (exact sbT))); rintro S7 L7 v7 hle7 ⟨-, ho7⟩); refine Wh.freezeOws ho7 (List.Perm.refl _) sbL fun S8 hle8 hs8 => ?_; obtain ⟨A8, c8, rfl, hc8, hA8⟩ := hs8); refine Jf 4 ?_; (apply h_one 5; (case hr => kernel_rfl)); (refine X.Jn ?_; try intro _); (apply h_one 6; (case hr => kernel_rfl)); ((apply n_append (ms := [Cg.mk ⟨A8, (toS q).length, c8⟩ en]); (case hi => rfl); (case hT => infer_instance); (case hsz => infer_instance); (case hz => infer_instance); (case hby => infer_instance); (case hg => rfl); (case hd => rfl); (case hx => rfl); (case ho => exact ho); (case hL => (repeat (first | exact pm_nil _ | exact pm_refl _ _ | exact pm_self _ | apply pm_cons | apply pm_app))); (case hy => rfl); (case hm => rfl); (case hs => (apply Src.own; (repeat (first | exact List.Mem.head _ | apply List.Mem.tail | apply List.mem_append_right)))); (case hzs => rfl); (case h0 => decide); (case hb => (simp; omega)); (case h63 => (simp; omega)); (case hsub => (intros; (exact sbT))); intro v9 ob9 ho9); obtain ⟨A9, c9, rfl⟩ := ho9.form); (apply h_one 7; (case hr => kernel_rfl)); (apply n_store; (case hi => rfl); (case i1 => infer_instance); (case hg => rfl); (case hx => rfl); (case hy => rfl); (case h1 => rfl); (case hL => (repeat (first | exact Upd.head | apply Upd.tail | apply Upd.app))); (case hu => rfl); (case hsub => (intro _; (exact sbT)))); (apply h_end; (case hr => kernel_rfl)); ((((repeat (first | refine Jz ?_ | intro _))); refine W.trim (F' := []) (L' := ob9 ++ [(l, _), (x2, mapGO (iE es2)), (b10, _)]) sbF sbL ?_; refine W.perm ?_ List.perm_append_comm; refine r_end (L' := (x2, mapGO (iE es2)) :: (b10, .cells [.slice A9 (xs ++ [Cg.mk ⟨A8, (toS q).length, c8⟩ en]).length c9].toArray 62 (0, 0)) :: ob9) (List.Sublist.refl _) fun w'' hs => ⟨rfl, S8, _, ⟨hle7.trans hle8, by rw [hI]; exact ⟨_, _, ob9, ho9, by rw [chOf_app, chOf_one, if_neg hz, hsx]; exact (hch.le (hle7.trans hle8)).snoc ⟨rfl, rfl, hc8, hA8⟩, rfl⟩⟩, ?_⟩; rw [hrec] at hs; exact hs)))); (case k2 => (((apply n_call; (case hi => rfl); (case i1 => infer_instance); (case hg => rfl); (case hd => rfl); (case ha => rfl); (case hc => exact list_con q hq _); (case hL => (repeat (first | exact pm_nil _ | exact pm_refl _ _ | exact pm_self _ | apply pm_cons | apply pm_app))); (case hsub => (intros; (exact sbT))); rintro S7 L7 v7 hle7 ⟨-, ho7⟩); refine Wh.freezeOws ho7 (List.Perm.refl _) sbL fun S8 hle8 hs8 => ?_; obtain ⟨A8, c8, rfl, hc8, hA8⟩ := hs8); refine Jf 4 ?_; (apply h_two 0 5; (case hr => kernel_rfl)); (case k1 => ((apply n_ev; (case hi => rfl); (case hg => rfl); (case hd => rfl); (case he => (apply ev_load_own; (case hx => rfl); (case hm => (repeat (first | exact List.Mem.head _ | apply List.Mem.tail | apply List.mem_append_right))); (case h => rfl)))); (apply h_one 5; (case hr => kernel_rfl)); (refine X.Jn ?_; try intro _); (apply h_one 6; (case hr => kernel_rfl)); ((apply n_append (ms := [Cg.mk ⟨A8, (toS q).length, c8⟩ en]); (case hi => rfl); (case hT => infer_instance); (case hsz => infer_instance); (case hz => infer_instance); (case hby => infer_instance); (case hg => rfl); (case hd => rfl); (case hx => rfl); (case ho => exact ho); (case hL => (repeat (first | exact pm_nil _ | exact pm_refl _ _ | exact pm_self _ | apply pm_cons | apply pm_app))); (case hy => rfl); (case hm => rfl); (case hs => (apply Src.own; (repeat (first | exact List.Mem.head _ | apply List.Mem.tail | apply List.mem_append_right)))); (case hzs => rfl); (case h0 => decide); (case hb => (simp; omega)); (case h63 => (simp; omega)); (case hsub => (intros; (exact sbT))); intro v9 ob9 ho9); obtain ⟨A9, c9, rfl⟩ := ho9.form); (apply h_one 7; (case hr => kernel_rfl)); (apply n_store; (case hi => rfl); (case i1 => infer_instance); (case hg => rfl); (case hx => rfl); (case hy => rfl); (case h1 => rfl); (case hL => (repeat (first | exact Upd.head | apply Upd.tail | apply Upd.app))); (case hu => rfl); (case hsub => (intro _; (exact sbT)))); (apply h_end; (case hr => kernel_rfl)); ((((repeat (first | refine Jz ?_ | intro _))); refine W.trim (F' := []) (L' := ob9 ++ [(l, _), (x2, mapGO (iE es2)), (b10, _)]) sbF sbL ?_; refine W.perm ?_ List.perm_append_comm; refine r_end (L' := (x2, mapGO (iE es2)) :: (b10, .cells [.slice A9 (xs ++ [Cg.mk ⟨A8, (toS q).length, c8⟩ en]).length c9].toArray 62 (0, 0)) :: ob9) (List.Sublist.refl _) fun w'' hs => ⟨rfl, S8, _, ⟨hle7.trans hle8, by rw [hI]; exact ⟨_, _, ob9, ho9, by rw [chOf_app, chOf_one, if_neg hz, hsx]; exact (hch.le (hle7.trans hle8)).snoc ⟨rfl, rfl, hc8, hA8⟩, rfl⟩⟩, ?_⟩; rw [hrec] at hs; exact hs)))); (case k2 => ((refine X.Jn ?_; try intro _); (apply h_one 0; (case hr => kernel_rfl)); (apply n_ev; (case hi => rfl); (case hg => rfl); (case hd => rfl); (case he => (apply ev_load_own; (case hx => rfl); (case hm => (repeat (first | exact List.Mem.head _ | apply List.Mem.tail | apply List.mem_append_right))); (case h => rfl)))); (apply h_one 6; (case hr => kernel_rfl)); ((apply n_append (ms := [Cg.mk ⟨A8, (toS q).length, c8⟩ en]); (case hi => rfl); (case hT => infer_instance); (case hsz => infer_instance); (case hz => infer_instance); (case hby => infer_instance); (case hg => rfl); (case hd => rfl); (case hx => rfl); (case ho => exact ho); (case hL => (repeat (first | exact pm_nil _ | exact pm_refl _ _ | exact pm_self _ | apply pm_cons | apply pm_app))); (case hy => rfl); (case hm => rfl); (case hs => (apply Src.own; (repeat (first | exact List.Mem.head _ | apply List.Mem.tail | apply List.mem_append_right)))); (case hzs => rfl); (case h0 => decide); (case hb => (simp; omega)); (case h63 => (simp; omega)); (case hsub => (intros; (exact sbT))); intro v9 ob9 ho9); obtain ⟨A9, c9, rfl⟩ := ho9.form); (apply h_one 7; (case hr => kernel_rfl)); (apply n_store; (case hi => rfl); (case i1 => infer_instance); (case hg => rfl); (case hx => rfl); (case hy => rfl); (case h1 => rfl); (case hL => (repeat (first | exact Upd.head | apply Upd.tail | apply Upd.app))); (case hu => rfl); (case hsub => (intro _; (exact sbT)))); (apply h_end; (case hr => kernel_rfl)); ((((repeat (first | refine Jz ?_ | intro _))); refine W.trim (F' := []) (L' := ob9 ++ [(l, _), (x2, mapGO (iE es2)), (b10, _)]) sbF sbL ?_; refine W.perm ?_ List.perm_append_comm; refine r_end (L' := (x2, mapGO (iE es2)) :: (b10, .cells [.slice A9 (xs ++ [Cg.mk ⟨A8, (toS q).length, c8⟩ en]).length c9].toArray 62 (0, 0)) :: ob9) (List.Sublist.refl _) fun w'' hs => ⟨rfl, S8, _, ⟨hle7.trans hle8, by rw [hI]; exact ⟨_, _, ob9, ho9, by rw [chOf_app, chOf_one, if_neg hz, hsx]; exact (hch.le (hle7.trans hle8)).snoc ⟨rfl, rfl, hc8, hA8⟩, rfl⟩⟩, ?_⟩; rw [hrec] at hs; exact hs)))))))
    · rintro S' L1' v hle ⟨-, x, hxp, hi⟩
      rw [hI] at hi
      obtain ⟨v1, xs, ob, ho, hch, rfl⟩ := hi
      rw [← hrec]
      refine ⟨.ready, none, (x2, mapGO (iE es2)) :: (b10, .cells [v1].toArray 62 (0, 0)) :: (ob ++ [(r, .deferred (some []))]), List.Perm.refl _, by decide, ?_⟩
      have hchb : ∀ y ∈ chOf x, y.1.length ≤ 12 ∧ -9223372036854775807 ≤ y.2 ∧ y.2 ≤ 9223372036854775807 := fun y hy => by
        obtain ⟨e, he, rfl⟩ := List.mem_map.1 hy
        have he2 := hxp.mem_iff.1 (List.mem_filter.1 he).1
        obtain ⟨q, hq, e1⟩ := hPe e he2
        have hb := hbb e he2
        simp only
        rw [e1, strip_pth hq]
        exact ⟨hq.1, by omega, by omega⟩
      obtain ⟨zs, hz1, hz2⟩ := chx_of hch hchb
      have ho2 : Ows 66 v1 zs ob := ows_chx.2 (by rw [hz1]; exact ho)
      have hzl : zs.length ≤ 1000000 := by
        have h1 : zs.length = xs.length := by rw [← hz1, List.length_map]
        have h2 := hch.1
        have h3 := chOf_len x
        have h4 := hxp.length_eq
        omega
      obtain ⟨A1, c1, rfl⟩ := ho2.form
      (repeat (first | refine Jc ?_ | (apply s_call; (case hg => rfl); (case hd => rfl); (case ha => rfl); (case hc => exact sortC_con ho2 hzl); (case hL => (repeat (first | exact pm_nil _ | exact pm_refl _ _ | exact pm_self _ | apply pm_cons | apply pm_app))); rintro S7 L7 _ hle7 ⟨rfl, rfl, zs2, hzp, hzs, ho3⟩) | refine Jo ?_ | intro _))
      exact o_ret2m (L' := L7) (L1 := L7 ++ [(x2, mapGO (iE es2)), (b10, .cells [.slice A1 zs.length c1].toArray 62 (0, 0))]) Try.results26 rfl rfl rfl (pmc (fun p => by (repeat (first | rw [List.countP_append] | rw [List.countP_cons] | rw [List.countP_nil])); (all_goals (first | rfl | omega)))) (List.sublist_append_left _ _) ⟨((hle2.trans hle3).trans hle5).trans hle, _, _, rfl, .inr ⟨⟨h1, h2⟩, rfl, _, _, ows_chx.1 ho3, chl_of zs2, chs_of hWe hPe (fun p _ => by rw [hd, hwe]) hxp ((hzp.map ChX.y).trans (by rw [hz2])) (List.pairwise_map.2 hzs)⟩⟩
end Go.Proofs.Ytcnfchchanlepaa
namespace Go.Proofs.Ytcnfchchanlepaa
open Go Go.X
theorem exA_gt : GT (wS exL [exY1, exY2]) exA := fold_gt exL_ok exS12 exA_can
theorem exB_gt : GT (wS exL [exY1, exY2, exY3]) exB := fold_gt exL_ok exS exB_can
theorem exC_gt : GT (wS exL [exY3]) exC := fold_gt exL_ok exS3 exC_can
theorem exA_fold {v : Value} {ec : Int} {L' : Blocks} (h : FoldR exL [exY1, exY2] v ec L') : ec = 0 ∧ Ows 53 v exNA L' := exNA_eq ▸ fold_ok exL_ok exS12 exA_gt h
theorem exB_fold {v : Value} {ec : Int} {L' : Blocks} (h : FoldR exL [exY1, exY2, exY3] v ec L') : ec = 0 ∧ Ows 53 v exNB L' := exNB_eq ▸ fold_ok exL_ok exS exB_gt h
theorem exC_fold {v : Value} {ec : Int} {L' : Blocks} (h : FoldR exL [exY3] v ec L') : ec = 0 ∧ Ows 53 v exNC L' := exNC_eq ▸ fold_ok exL_ok exS3 exC_gt h
theorem ex_sum (p : List Bs) : wS exL [exY1, exY2, exY3] p = wS exL [exY1, exY2] p + wS exL [exY3] p := wS_app [exY1, exY2] [exY3] p
theorem exAC_comb {v : Value} {ec : Int} {L' : Blocks} (h : CombR 1 exNA exNC v ec L') : ec = 0 ∧ Ows 53 v exNB L' := by
  rw [← exNA_eq, ← exNC_eq] at h
  rw [← exNB_eq]
  exact comb_ok exA_gt exC_gt (fun p _ => wS_pos exS12 p) (fun p _ => wS_pos exS3 p) exB_gt (fun p _ => wS_pos exS p) (fun p _ => by rw [ex_sum]; omega) h
theorem exBC_comb {v : Value} {ec : Int} {L' : Blocks} (h : CombR (-1) exNB exNC v ec L') : ec = 0 ∧ Ows 53 v exNA L' := by
  rw [← exNB_eq, ← exNC_eq] at h
  rw [← exNA_eq]
  exact comb_ok exB_gt exC_gt (fun p _ => wS_pos exS p) (fun p _ => wS_pos exS3 p) exA_gt (fun p _ => wS_pos exS12 p) (fun p _ => by rw [ex_sum]; omega) h
theorem exAC_no {v : Value} {ec : Int} {L' : Blocks} (h : CombR (-1) exNA exNC v ec L') : ec = 180 ∧ v = .slice none 0 0 ∧ L' = [] := by
  rw [← exNA_eq, ← exNC_eq] at h
  exact comb_no exA_gt exC_gt (fun p _ => wS_pos exS12 p) (fun p _ => wS_pos exS3 p) (p := [[109, 97, 105, 110], [63]]) ⟨by decide, by decide⟩ (by
    rw [show wS exL [exY1, exY2] [[109, 97, 105, 110], [63]] = 0 by kernel_rfl, show wS exL [exY3] [[109, 97, 105, 110], [63]] = 2 by kernel_rfl]; decide) h
theorem exAB_diff {S : SH} {v : Value} {ec : Int} {L' : Blocks} (h : DiffR exNA exNB S v ec L') : ec = 0 ∧ ∃ xs, Ows 66 v xs L' ∧ ChL S xs exCh := by
  rw [← exNA_eq, ← exNB_eq] at h
  rcases h with ⟨h, _⟩ | ⟨_, h1, xs, ch, h2, h3, h4⟩
  · exact absurd ⟨validB_C exA_gt, validB_C exB_gt⟩ h
  · have e := Chs.eq h4 (ex_diff fun p hp => by rw [wT_total exB_gt hp, wT_total exA_gt hp]) fun _ _ => rfl
    subst e
    exact ⟨h1, xs, h2, h3⟩
theorem exNA_valid : validB exNA = true := exNA_eq ▸ validB_C exA_gt
theorem exNil_valid : validB [] = false := by decide
set_option maxRecDepth 10000
set_option linter.unusedVariables false
attribute [local irreducible] Code.wpIn wpListIn Exit.then Exit.inBlock X.Out X.Back X.W X.Ev X.Con X.BinV X.Wh X.Wn X.Wq
set_option maxHeartbeats 3200000 in
theorem sane_con (S : SH) : Con Try.prog 10 #[] S [] (fun S' L' r => L' = [] ∧ r = .bool true) := by
  refine con_of (args := []) Try.func10 rfl Try.ntmps10 rfl fun w => ?_
  (repeat (first | refine Jc ?_ | (apply s_evb; (case hg => rfl); (case hd => rfl); (case hn => rfl); (case he => (apply ev_buildS; (case hp => rfl); (case hz => rfl); (case h1 => rfl); (case hr => rfl)))) | (apply s_evb; (case hg => rfl); (case hd => rfl); (case hn => rfl); (case he => ((apply ev_slice_hi0; (case hx => rfl); (case hy => rfl); (case hj => decide))))) | refine Jo ?_ | intro _))
  rename_i bs f1 f2 f3 bk
  refine W.freeze fun S1 l1 q1 => W.freeze fun S2 l2 q2 => W.freeze fun S3 l3 q3 => W.freeze fun S4 l4 q4 => W.freeze fun S5 l5 q5 => ?_
  have hS : At S5 (some ⟨bs, 0, none⟩) exL := fun _ => ⟨_, rfl, pts_block q5 rfl⟩
  obtain ⟨x1, hx1⟩ : ∃ x1 : Stk, x1 = ⟨1, ⟨some ⟨f1, 0, none⟩, 2, 2⟩, 4⟩ := ⟨_, rfl⟩
  obtain ⟨x2, hx2⟩ : ∃ x2 : Stk, x2 = ⟨1, ⟨some ⟨f2, 0, none⟩, 1, 1⟩, 1⟩ := ⟨_, rfl⟩
  obtain ⟨x3, hx3⟩ : ∃ x3 : Stk, x3 = ⟨2, ⟨some ⟨f3, 0, none⟩, 2, 2⟩, 2⟩ := ⟨_, rfl⟩
  have hK : At S5 (some ⟨bk, 0, none⟩) [x1, x2, x3] := fun _ => ⟨_, rfl, pts_block (l5 _ _ (l4 _ _ (l3 _ _ (l2 _ _ q1)))) (by subst hx1; subst hx2; subst hx3; rfl)⟩
  have r1 : skR S5 x1 exY1 := by subst hx1; exact ⟨rfl, rfl, rfl, Nat.le_refl _, fun _ => ⟨_, rfl, pts_block (l5 _ _ q4) rfl⟩⟩
  have r2 : skR S5 x2 exY2 := by subst hx2; exact ⟨rfl, rfl, rfl, Nat.le_refl _, fun _ => ⟨_, rfl, pts_block (l5 _ _ (l4 _ _ q3)) rfl⟩⟩
  have r3 : skR S5 x3 exY3 := by subst hx3; exact ⟨rfl, rfl, rfl, Nat.le_refl _, fun _ => ⟨_, rfl, pts_block (l5 _ _ (l4 _ _ (l3 _ _ q2))) rfl⟩⟩
  have k12 : SkL S5 [x1, x2] [exY1, exY2] := ((SkL.nil S5).snoc r1).snoc r2
  have k123 : SkL S5 [x1, x2, x3] [exY1, exY2, exY3] := k12.snoc r3
  have k3 : SkL S5 [x3] [exY3] := (SkL.nil S5).snoc r3
  have hK2 : At S5 (some ⟨bk, 0, none⟩) [x1, x2] := fun _ => by
    obtain ⟨p, e, hp⟩ := hK (by simp)
    exact ⟨p, e, pts_pre hp (by rw [show ([x1, x2, x3] : List Stk) = [x1, x2] ++ [x3] from rfl, cellsOf_append]; exact List.prefix_append _ _)⟩
  refine W.trim (F' := [(0, .bool false), (1, .slice (some ⟨bs, 0, none⟩) 3 3), (2, .slice (some ⟨bk, 0, none⟩) 3 3), (31, .slice (some ⟨bs, 0, none⟩) 3 3), (33, .slice (some ⟨bk, 0, none⟩) 2 3)]) (L' := []) sbF sbL ?_
  (repeat (first | refine Jc ?_ | ((apply s_call; (case hg => rfl); (case hd => rfl); (case ha => rfl); (case hc => exact fold_con exL [x1, x2] [exY1, exY2] _ _ 3 3 _ hS (by decide) hK2 (show 2 ≤ 1000000 by decide) k12); (case hL => (repeat (first | exact pm_nil _ | exact pm_refl _ _ | exact pm_self _ | apply pm_cons | apply pm_app))); rintro S6 L6 _ h6 ⟨v6, ec6, rfl, hr6⟩); obtain ⟨rfl, ho6⟩ := exA_fold hr6; refine W.freezeOws ho6 (List.Perm.refl _) fun S7 h7 hs7 => ?_; obtain ⟨Aa, ca, rfl, hca, hAa⟩ := hs7) | refine Jo ?_ | intro _))
  rename_i b3
  have hS7 := (hS.le h6).le h7
  have hK7 := (hK.le h6).le h7
  have k7 := (k123.le h6).le h7
  (repeat (first | refine Jc ?_ | ((apply s_call; (case hg => rfl); (case hd => rfl); (case ha => rfl); (case hc => exact fold_con exL [x1, x2, x3] [exY1, exY2, exY3] _ _ 3 3 _ hS7 (by decide) hK7 (show 3 ≤ 1000000 by decide) k7); (case hL => (repeat (first | exact pm_nil _ | exact pm_refl _ _ | exact pm_self _ | apply pm_cons | apply pm_app))); rintro S8 L8 _ h8 ⟨v8, ec8, rfl, hr8⟩); obtain ⟨rfl, ho8⟩ := exB_fold hr8; refine W.freezeOws ho8 (List.Perm.refl _) fun S9 h9 hs9 => ?_; obtain ⟨Ab, cb, rfl, hcb, hAb⟩ := hs9) | refine Jo ?_ | intro _))
  rename_i b5
  have hS9 := (hS7.le h8).le h9
  have hK9 := (hK7.le h8).le h9
  have k9 := (k3.le ((h6.trans h7).trans h8)).le h9
  have hA9 := (hAa.le h8).le h9
  (repeat (first | refine Jc ?_ | (apply s_slice_lo hK9; (case hg => rfl); (case hd => rfl); (case hx => rfl); (case hy => rfl); (case hm => rfl); (case hmc => exact (show 3 ≤ 3 by decide)); (case hj => exact (show 2 ≤ 3 by decide)); intro A10 hA10) | ((apply s_call; (case hg => rfl); (case hd => rfl); (case ha => rfl); (case hc => exact fold_con exL [x3] [exY3] _ _ 3 1 _ hS9 (by decide) hA10 (show 1 ≤ 1000000 by decide) k9); (case hL => (repeat (first | exact pm_nil _ | exact pm_refl _ _ | exact pm_self _ | apply pm_cons | apply pm_app))); rintro S10 L10 _ h10 ⟨v10, ec10, rfl, hr10⟩); obtain ⟨rfl, ho10⟩ := exC_fold hr10; refine W.freezeOws ho10 (List.Perm.refl _) fun S11 h11 hs11 => ?_; obtain ⟨Ac, cc, rfl, hcc, hAc⟩ := hs11) | refine Jo ?_ | intro _))
  rename_i b7
  have hA11 := (hA9.le h10).le h11
  have hB11 := (hAb.le h10).le h11
  (repeat (first | refine Jc ?_ | ((apply s_call; (case hg => rfl); (case hd => rfl); (case ha => rfl); (case hc => exact diff_con exNA exNB _ _ _ _ _ hA11 hB11 (by decide) (by decide)); (case hL => (repeat (first | exact pm_nil _ | exact pm_refl _ _ | exact pm_self _ | apply pm_cons | apply pm_app))); rintro S12 L12 _ h12 ⟨-, v12, ec12, rfl, hr12⟩); obtain ⟨rfl, xs, ho12, hch12⟩ := exAB_diff hr12; refine W.freezeOws ho12 (List.Perm.refl _) fun S13 h13 hs13 => ?_; obtain ⟨Ad, cd, rfl, hcd, hAd⟩ := hs13) | refine Jo ?_ | intro _))
  have hA13 := (hA11.le h12).le h13
  have hB13 := (hB11.le h12).le h13
  have hC13 := (hAc.le h12).le h13
  (repeat (first | refine Jc ?_ | ((apply s_call; (case hg => rfl); (case hd => rfl); (case ha => rfl); (case hc => exact merge_con exNA exNC _ _ _ _ _ hA13 hC13 (by decide) (by decide)); (case hL => (repeat (first | exact pm_nil _ | exact pm_refl _ _ | exact pm_self _ | apply pm_cons | apply pm_app))); rintro S14 L14 _ h14 ⟨v14, ec14, rfl, hr14⟩); obtain ⟨rfl, ho14⟩ := exAC_comb hr14; refine W.freezeOws ho14 (List.Perm.refl _) fun S15 h15 hs15 => ?_; obtain ⟨Am, cm, rfl, hcm, hAm⟩ := hs15) | refine Jo ?_ | intro _))
  rename_i b11
  have hA15 := (hA13.le h14).le h15
  have hB15 := (hB13.le h14).le h15
  have hC15 := (hC13.le h14).le h15
  (repeat (first | refine Jc ?_ | ((apply s_call; (case hg => rfl); (case hd => rfl); (case ha => rfl); (case hc => exact sub_con exNB exNC _ _ _ _ _ hB15 hC15 (by decide) (by decide)); (case hL => (repeat (first | exact pm_nil _ | exact pm_refl _ _ | exact pm_self _ | apply pm_cons | apply pm_app))); rintro S16 L16 _ h16 ⟨v16, ec16, rfl, hr16⟩); obtain ⟨rfl, ho16⟩ := exBC_comb hr16; refine W.freezeOws ho16 (List.Perm.refl _) fun S17 h17 hs17 => ?_; obtain ⟨As, cs, rfl, hcs, hAs⟩ := hs17) | refine Jo ?_ | intro _))
  rename_i b13
  have hA17 := (hA15.le h16).le h17
  have hB17 := (hB15.le h16).le h17
  have hC17 := (hC15.le h16).le h17
  have hm17 := (hAm.le h16).le h17
  have hd17 := (((hAd.le h14).le h15).le h16).le h17
  have hch17 := ((((hch12.le h13).le h14).le h15).le h16).le h17
  have e1 : exNA.length = 3 := rfl
  have e2 : exNB.length = 4 := rfl
  have e3 : xs.length = 3 := hch17.1
  obtain ⟨g0, hg0⟩ := at_lt (l := xs) (k := 0) (by omega)
  obtain ⟨g2, hg2⟩ := at_lt (l := xs) (k := 2) (by omega)
  have r0 := hch17.2 0 g0 _ hg0 rfl
  have r2 := hch17.2 2 g2 _ hg2 rfl
  have m0 : g0.path.m = 0 := r0.2.1
  have m2 : g2.path.m = 2 := r2.2.1
  have n0 : g0.by_ = 2 := r0.1
  (repeat (first | refine Jc ?_ | ((apply s_call; (case hg => rfl); (case hd => rfl); (case ha => rfl); (case hc => exact sub_con exNA exNC _ _ _ _ _ hA17 hC17 (by decide) (by decide)); (case hL => (repeat (first | exact pm_nil _ | exact pm_refl _ _ | exact pm_self _ | apply pm_cons | apply pm_app))); rintro S18 L18 _ h18 ⟨v18, ec18, rfl, hr18⟩); obtain ⟨rfl, rfl, rfl⟩ := exAC_no hr18) | refine Jo ?_ | intro _))
  have hA18 := hA17.le h18
  have hB18 := hB17.le h18
  have hM18 := hm17.le h18
  have hs18 := hAs.le h18
  have hd18 := hd17.le h18
  have z0 : exNA[0]? = some ⟨-1, [], 0, 5⟩ := rfl
  have z1 : exNA[1]? = some ⟨0, [109, 97, 105, 110], 1, 5⟩ := rfl
  have z2 : exNA[2]? = some ⟨1, [114, 101, 97, 100], 4, 4⟩ := rfl
  have y1 : exNB[1]? = some ⟨0, [109, 97, 105, 110], 1, 7⟩ := rfl
  have y2 : exNB[2]? = some ⟨1, [63], 2, 2⟩ := rfl
  have hvA := fun S (h : At S Aa exNA) => valid_con exNA Aa ca S h (by decide)
  rw [exNA_valid] at hvA
  have hvN := fun S => valid_con [] none 0 S (At.nil _ _) (by decide)
  rw [exNil_valid] at hvN
  (repeat (first | refine Jc ?_ | (apply s_evb; (case hg => rfl); (case hd => rfl); (case hn => rfl); (case he => (apply ev_buildS; (case hp => rfl); (case hz => rfl); (case h1 => rfl); (case hr => rfl)))) | (apply s_idx hA18; (case hg => rfl); (case hd => rfl); (case hx => rfl); (case hi => rfl); (case hm => rfl); (case hu => exact z0); intro q (hq : Pts _ q [.int .i64 (-1), strV [], .int .i64 0, .int .i64 5])) | (apply s_idx hA18; (case hg => rfl); (case hd => rfl); (case hx => rfl); (case hi => rfl); (case hm => rfl); (case hu => exact z1); intro q (hq : Pts _ q [.int .i64 0, strV [109, 97, 105, 110], .int .i64 1, .int .i64 5])) | (apply s_idx hA18; (case hg => rfl); (case hd => rfl); (case hx => rfl); (case hi => rfl); (case hm => rfl); (case hu => exact z2); intro q (hq : Pts _ q [.int .i64 1, strV [114, 101, 97, 100], .int .i64 4, .int .i64 4])) | (apply s_idx hB18; (case hg => rfl); (case hd => rfl); (case hx => rfl); (case hi => rfl); (case hm => rfl); (case hu => exact y1); intro q (hq : Pts _ q [.int .i64 0, strV [109, 97, 105, 110], .int .i64 1, .int .i64 7])) | (apply s_idx hB18; (case hg => rfl); (case hd => rfl); (case hx => rfl); (case hi => rfl); (case hm => rfl); (case hu => exact y2); intro q (hq : Pts _ q [.int .i64 1, strV [63], .int .i64 2, .int .i64 2])) | (apply s_idx hd18; (case hg => rfl); (case hd => rfl); (case hx => rfl); (case hi => rfl); (case hm => rfl); (case hu => exact hg0); intro q (hq : Pts _ q [.slice g0.path.a g0.path.m g0.path.c, .int .i64 g0.by_])) | (apply s_idx hd18; (case hg => rfl); (case hd => rfl); (case hx => rfl); (case hi => rfl); (case hm => rfl); (case hu => exact hg2); intro q (hq : Pts _ q [.slice g2.path.a g2.path.m g2.path.c, .int .i64 g2.by_])) | (apply s_load_f; (case hg => rfl); (case hd => rfl); (case hx => rfl); (case h => exact hq); (case hv => rfl)) | (apply s_load_ag; (case hg => rfl); (case hd => rfl); (case hx => rfl); (case hv => exact hq); (case hl => rfl)) | (apply s_evb; (case hg => rfl); (case hd => rfl); (case hn => rfl); (case he => ((apply ev_eql4 (p := -1) (s := []) (o := 0) (u := 5) (p' := -1) (s' := []) (o' := 0) (u' := 5) (r := true); (case hx => rfl); (case hy => rfl); (case hr => decide))))) | (apply s_evb; (case hg => rfl); (case hd => rfl); (case hn => rfl); (case he => ((apply ev_eql4 (p := 0) (s := [109, 97, 105, 110]) (o := 1) (u := 5) (p' := 0) (s' := [109, 97, 105, 110]) (o' := 1) (u' := 5) (r := true); (case hx => rfl); (case hy => rfl); (case hr => decide))))) | (apply s_evb; (case hg => rfl); (case hd => rfl); (case hn => rfl); (case he => ((apply ev_eql4 (p := 1) (s := [114, 101, 97, 100]) (o := 4) (u := 4) (p' := 1) (s' := [114, 101, 97, 100]) (o' := 4) (u' := 4) (r := true); (case hx => rfl); (case hy => rfl); (case hr => decide))))) | (apply s_evb; (case hg => rfl); (case hd => rfl); (case hn => rfl); (case he => ((apply ev_eql4 (p := 1) (s := [63]) (o := 2) (u := 2) (p' := 1) (s' := [63]) (o' := 2) (u' := 2) (r := true); (case hx => rfl); (case hy => rfl); (case hr => decide))))) | ((apply s_call; (case hg => rfl); (case hd => rfl); (case ha => rfl); (case hc => exact same_con exNB exNB _ _ _ _ _ hM18 hB18 (by decide) (by decide) true ⟨fun _ => rfl, fun _ => rfl⟩); (case hL => (repeat (first | exact pm_nil _ | exact pm_refl _ _ | exact pm_self _ | apply pm_cons | apply pm_app))); rintro _ _ _ - ⟨rfl, rfl, rfl⟩)) | ((apply s_call; (case hg => rfl); (case hd => rfl); (case ha => rfl); (case hc => exact same_con exNA exNA _ _ _ _ _ hs18 hA18 (by decide) (by decide) true ⟨fun _ => rfl, fun _ => rfl⟩); (case hL => (repeat (first | exact pm_nil _ | exact pm_refl _ _ | exact pm_self _ | apply pm_cons | apply pm_app))); rintro _ _ _ - ⟨rfl, rfl, rfl⟩)) | refine Jo ?_ | intro _))
  (repeat (first | refine Jc ?_ | ((apply s_call; (case hg => rfl); (case hd => rfl); (case ha => rfl); (case hc => exact hvA _ hA18); (case hL => (repeat (first | exact pm_nil _ | exact pm_refl _ _ | exact pm_self _ | apply pm_cons | apply pm_app))); rintro S19 _ _ h19 ⟨rfl, rfl⟩)) | ((apply s_call; (case hg => rfl); (case hd => rfl); (case ha => rfl); (case hc => exact hvN _); (case hL => (repeat (first | exact pm_nil _ | exact pm_refl _ _ | exact pm_self _ | apply pm_cons | apply pm_app))); rintro S20 _ _ h20 ⟨rfl, rfl⟩)) | (apply s_evb; (case hg => rfl); (case hd => rfl); (case hn => rfl); (case he => (apply ev_buildS; (case hp => rfl); (case hz => rfl); (case h1 => rfl); (case hr => rfl)))) | refine Jo ?_ | intro _))
  have hA20 := (hA18.le h19).le h20
  have hB20 := (hB18.le h19).le h20
  (repeat (first | refine Jc ?_ | ((apply s_call; (case hg => rfl); (case hd => rfl); (case ha => rfl); (case hc => exact same_con exNA exNB _ _ _ _ _ hA20 hB20 (by decide) (by decide) false ⟨fun h => absurd h Bool.false_ne_true, fun h => absurd (congrArg List.length h) (by decide)⟩); (case hL => (repeat (first | exact pm_nil _ | exact pm_refl _ _ | exact pm_self _ | apply pm_cons | apply pm_app))); rintro _ _ _ - ⟨rfl, rfl, rfl⟩)) | refine Jo ?_ | intro _))
  exact o_ret (L' := []) Try.results10 rfl (List.nil_sublist _) ⟨rfl, rfl⟩
end Go.Proofs.Ytcnfchchanlepaa
namespace Go.Proofs.Ytcnfchchanlepaa
open Go Go.X
/-- The nodes of the tree of stacks. -/
def Gd (l : List Sym) (ys : List Sk) : Prop := SymsOk l ∧ sksB ys = true
open Classical in
noncomputable def mF (l : List Sym) (ys : List Sk) : List (List Bs) := if h : Gd l ys then (fold_ex h.1 h.2).choose else [[]]
noncomputable def nF (l : List Sym) (ys : List Sk) : List Nd := nodesC (wS l ys) (mF l ys)
section
variable {l : List Sym} {ys zs : List Sk}
theorem mF_gt (h : Gd l ys) : GT (wS l ys) (mF l ys) := by
  unfold mF
  rw [dif_pos h]
  exact (fold_ex h.1 h.2).choose_spec
theorem nF_eq (h : Gd l ys) {w : List Bs → Int} {M : List (List Bs)} (hM : Can w M) (hw : ∀ p, VQ p → w p = wS l ys p) : nF l ys = nodesC w M := GT.uniq (fun p hp => (hw p hp).symm) (mF_gt h).can hM
theorem nF_len (h : Gd l ys) : (nF l ys).length ≤ 1000000 := by
  unfold nF
  rw [nodesC_len]
  have := (mF_gt h).fit.2
  omega
theorem Gd.app (h : Gd l ys) (k : Gd l zs) (hl : ys.length + zs.length ≤ 100) : Gd l (ys ++ zs) := ⟨h.1, sks_app h.2 k.2 hl⟩
end
theorem SkL.app {S : SH} {xs xs2 : List Stk} {ys ys2 : List Sk} (h : SkL S xs ys) (k : SkL S xs2 ys2) : SkL S (xs ++ xs2) (ys ++ ys2) := by
  refine ⟨by rw [List.length_append, List.length_append, h.1, k.1], fun i x' y' h1 h2 => ?_⟩
  by_cases hi : i < xs.length
  · rw [List.getElem?_append_left hi] at h1
    rw [List.getElem?_append_left (by rw [← h.1]; exact hi)] at h2
    exact h.2 i x' y' h1 h2
  · rw [List.getElem?_append_right (by omega)] at h1
    rw [List.getElem?_append_right (by rw [← h.1]; omega)] at h2
    rw [← h.1] at h2
    exact k.2 _ x' y' h1 h2
set_option maxRecDepth 10000
set_option linter.unusedVariables false
attribute [local irreducible] Code.wpIn wpListIn Exit.then Exit.inBlock X.Out X.Back X.W X.Ev X.Con X.BinV X.Wh X.Wn X.Wq
end Go.Proofs.Ytcnfchchanlepaa
namespace Go.Proofs.Ytcnfchchanlepaa
open Go Go.X
theorem own : ownKnob Try.prog.godebug = none := by kernel_rfl
theorem laidOut : laidOutB Try.prog = true := by kernel_rfl
theorem rdb_A3 : Rdb (α := A3) Try.prog 67 (fun _ x => i64A x) := fun H enc w fuel cs x h => by
  have hl : cs.length = 3 := len_a (by kernel_rfl) Try.underlying67 h
  match cs, hl with
  | [c0, c1, c2], _ =>
  obtain ⟨a0, e0, o0⟩ := (rdb_int Try.underlying3).at_ (part_a 0 h (by decide))
  obtain ⟨a1, e1, o1⟩ := (rdb_int Try.underlying3).at_ (part_a 1 h (by decide))
  obtain ⟨a2, e2, o2⟩ := (rdb_int Try.underlying3).at_ (part_a 2 h (by decide))
  simp [Cl.cells] at e0 e1 e2
  subst e0 e1 e2
  exact ⟨⟨a0, a1, a2⟩, rfl, o0, o1, o2⟩
theorem rdb_A6 : Rdb (α := A6) Try.prog 68 (fun _ x => i64B x) := fun H enc w fuel cs x h => by
  have hl : cs.length = 6 := len_a (by kernel_rfl) Try.underlying68 h
  match cs, hl with
  | [c0, c1, c2, c3, c4, c5], _ =>
  obtain ⟨a0, e0, o0⟩ := (rdb_int Try.underlying3).at_ (part_a 0 h (by decide))
  obtain ⟨a1, e1, o1⟩ := (rdb_int Try.underlying3).at_ (part_a 1 h (by decide))
  obtain ⟨a2, e2, o2⟩ := (rdb_int Try.underlying3).at_ (part_a 2 h (by decide))
  obtain ⟨a3, e3, o3⟩ := (rdb_int Try.underlying3).at_ (part_a 3 h (by decide))
  obtain ⟨a4, e4, o4⟩ := (rdb_int Try.underlying3).at_ (part_a 4 h (by decide))
  obtain ⟨a5, e5, o5⟩ := (rdb_int Try.underlying3).at_ (part_a 5 h (by decide))
  simp [Cl.cells] at e0 e1 e2 e3 e4 e5
  subst e0 e1 e2 e3 e4 e5
  exact ⟨⟨a0, a1, a2, a3, a4, a5⟩, rfl, o0, o1, o2, o3, o4, o5⟩
end Go.Proofs.Ytcnfchchanlepaa
