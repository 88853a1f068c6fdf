/- What is rolled up of the windows' buckets of drawn samples is what is made of the samples at once, for all byte lists: proved of the printed functions without conditions beyond the statement's own. -/
import Derived.Test.YtammbicoegggcaaPFnDownx9
namespace Go.Proofs.Ytammbicoegggcaa.Pure
open Go.RowKit Go.Proofs.Ytammbicoegggcaa.PFnDown Go.Proofs.YtammbicoegggcaaW.PrintWords Go.Proofs.YtammbicoegggcaaW.PrintLast Go.Proofs.YtammbicoegggcaaW.PrintMore
/-! ### numbers -/
theorem w64 {n : Int} (h1 : -9223372036854775808 ≤ n) (h2 : n ≤ 9223372036854775807) : wrap64 n = n := by unfold wrap64; omega
theorem ite_and_some (a b : Prop) [Decidable a] [Decidable b] : (if a then some (decide b) else some false) = some (decide (a ∧ b)) := by
  by_cases ha : a <;> by_cases hb : b <;> simp [ha, hb]

/-! ### aggregates -/
abbrev Ag := Int × Int × Int × Int × Int × Int
def zag : Ag := (0, 0, 0, 0, 0, 0)
def one (v : Int) : Ag := (1, v, v, v, v, v)
def mrg (a b : Ag) : Ag :=
  if a.1 = 0 then b else if b.1 = 0 then a else (a.1 + b.1, a.2.1 + b.2.1, mn a.2.2.1 b.2.2.1, mx a.2.2.2.1 b.2.2.2.1, a.2.2.2.2.1, b.2.2.2.2.2)
def agg (l : List Int) : Ag := l.foldl (fun a v => mrg a (one v)) zag
/-- Of nothing, or with what a right one has. -/
def AgR (a : Ag) : Prop := 1 ≤ a.1 ∧ -1000000 ≤ a.2.2.1 ∧ a.2.2.2.1 ≤ 1000000 ∧ a.2.2.1 ≤ a.2.2.2.2.1 ∧ a.2.2.2.2.1 ≤ a.2.2.2.1 ∧ a.2.2.1 ≤ a.2.2.2.2.2 ∧ a.2.2.2.2.2 ≤ a.2.2.2.1 ∧ a.1 * a.2.2.1 ≤ a.2.1 ∧ a.2.1 ≤ a.1 * a.2.2.2.1
theorem mrg_zag_l (a : Ag) : mrg zag a = a := by simp [mrg, zag]
theorem mrg_zag_r (a : Ag) (hz : a.1 = 0 → a = zag) : mrg a zag = a := by
  unfold mrg
  by_cases h0 : a.1 = 0
  · rw [if_pos h0, hz h0]
  · rw [if_neg h0, if_pos (by rfl)]
theorem mn_assoc (a b c : Int) : mn (mn a b) c = mn a (mn b c) := by unfold mn; repeat' split <;> omega
theorem mx_assoc (a b c : Int) : mx (mx a b) c = mx a (mx b c) := by unfold mx; repeat' split <;> omega
theorem mrg_fst (a b : Ag) : (mrg a b).1 = a.1 + b.1 := by
  unfold mrg
  by_cases h0 : a.1 = 0
  · rw [if_pos h0]; omega
  · rw [if_neg h0]
    by_cases h1 : b.1 = 0
    · rw [if_pos h1]; omega
    · rw [if_neg h1]
theorem mrg_assoc (a b c : Ag) (ha : 0 ≤ a.1) (hb : 0 ≤ b.1) (hc : 0 ≤ c.1) : mrg (mrg a b) c = mrg a (mrg b c) := by
  by_cases h0 : a.1 = 0
  · have e1 : mrg a b = b := by simp [mrg, h0]
    have e2 : mrg a (mrg b c) = mrg b c := by simp [mrg, h0]
    rw [e1, e2]
  · by_cases h1 : b.1 = 0
    · have e1 : mrg a b = a := by simp [mrg, h0, h1]
      have e2 : mrg b c = c := by simp [mrg, h1]
      rw [e1, e2]
    · by_cases h2 : c.1 = 0
      · have e1 : mrg b c = b := by simp [mrg, h1, h2]
        have e2 : mrg (mrg a b) c = mrg a b := by
          have := mrg_fst a b
          unfold mrg at this ⊢
          simp only [if_neg h0, if_neg h1, if_pos h2] at this ⊢
          rw [if_neg (by omega)]
        rw [e1, e2]
      · unfold mrg
        simp only [if_neg h0, if_neg h1, if_neg h2]
        rw [if_neg (show ¬ a.1 + b.1 = 0 by omega), if_neg (show ¬ b.1 + c.1 = 0 by omega)]
        simp only [mn_assoc, mx_assoc, Prod.mk.injEq, and_true]
        omega
theorem one_fst (v : Int) : (one v).1 = 1 := rfl
theorem fold_fst (l : List Int) : ∀ a : Ag, 0 ≤ a.1 → (l.foldl (fun a v => mrg a (one v)) a).1 = a.1 + l.length := by
  induction l with
  | nil => intro a _; simp
  | cons v l ih =>
    intro a ha
    have h1 := mrg_fst a (one v)
    rw [one_fst] at h1
    rw [List.foldl_cons, ih _ (by omega), h1, List.length_cons]
    omega
theorem agg_fst (l : List Int) : (agg l).1 = l.length := by
  have := fold_fst l zag (by simp [zag])
  unfold agg
  rw [this]
  simp [zag]
theorem fold_agg (l : List Int) : ∀ a : Ag, 0 ≤ a.1 → (a.1 = 0 → a = zag) → l.foldl (fun a v => mrg a (one v)) a = mrg a (agg l) := by
  induction l with
  | nil => intro a ha hz; exact (mrg_zag_r a hz).symm
  | cons v l ih =>
    intro a ha hz
    have h1 := mrg_fst a (one v)
    rw [one_fst] at h1
    have e1 : agg (v :: l) = mrg (one v) (agg l) := by
      have := ih (mrg zag (one v)) (by rw [mrg_zag_l, one_fst]; omega) (by rw [mrg_zag_l, one_fst]; intro h; omega)
      rw [mrg_zag_l] at this
      unfold agg at this ⊢
      rw [List.foldl_cons, mrg_zag_l]
      exact this
    rw [List.foldl_cons, ih _ (by omega) (by intro h; omega), e1, mrg_assoc _ _ _ ha (by rw [one_fst]; omega) (by rw [agg_fst]; omega)]
theorem agg_nil : agg [] = zag := rfl
theorem agg_append (l m : List Int) : agg (l ++ m) = mrg (agg l) (agg m) := by
  have h := fold_agg m (agg l) (by rw [agg_fst]; omega) (by
    intro h; rw [agg_fst] at h
    have : l = [] := List.eq_nil_of_length_eq_zero (by omega)
    rw [this]; rfl)
  unfold agg at h ⊢
  rw [List.foldl_append]
  exact h
theorem agg_snoc (l : List Int) (v : Int) : agg (l ++ [v]) = mrg (agg l) (one v) := by
  rw [agg_append]; congr 1
theorem agR_one (v : Int) (h1 : -1000000 ≤ v) (h2 : v ≤ 1000000) : AgR (one v) := by
  refine ⟨by simp [one], ?_, ?_, ?_, ?_, ?_, ?_, ?_, ?_⟩ <;> simp [one] <;> omega
theorem agR_mrg (a b : Ag) (ha : AgR a) (hb : AgR b) : AgR (mrg a b) := by
  obtain ⟨a1, a2, a3, a4, a5, a6, a7, a8, a9⟩ := ha
  obtain ⟨b1, b2, b3, b4, b5, b6, b7, b8, b9⟩ := hb
  have e : mrg a b = (a.1 + b.1, a.2.1 + b.2.1, mn a.2.2.1 b.2.2.1, mx a.2.2.2.1 b.2.2.2.1, a.2.2.2.2.1, b.2.2.2.2.2) := by
    unfold mrg; rw [if_neg (by omega), if_neg (by omega)]
  have m1 : mn a.2.2.1 b.2.2.1 ≤ a.2.2.1 ∧ mn a.2.2.1 b.2.2.1 ≤ b.2.2.1 ∧ -1000000 ≤ mn a.2.2.1 b.2.2.1 := by unfold mn; split <;> omega
  have m2 : a.2.2.2.1 ≤ mx a.2.2.2.1 b.2.2.2.1 ∧ b.2.2.2.1 ≤ mx a.2.2.2.1 b.2.2.2.1 ∧ mx a.2.2.2.1 b.2.2.2.1 ≤ 1000000 := by unfold mx; split <;> omega
  rw [e]
  have p1 : a.1 * mn a.2.2.1 b.2.2.1 ≤ a.1 * a.2.2.1 := Int.mul_le_mul_of_nonneg_left m1.1 (by omega)
  have p2 : b.1 * mn a.2.2.1 b.2.2.1 ≤ b.1 * b.2.2.1 := Int.mul_le_mul_of_nonneg_left m1.2.1 (by omega)
  have p3 : a.1 * a.2.2.2.1 ≤ a.1 * mx a.2.2.2.1 b.2.2.2.1 := Int.mul_le_mul_of_nonneg_left m2.1 (by omega)
  have p4 : b.1 * b.2.2.2.1 ≤ b.1 * mx a.2.2.2.1 b.2.2.2.1 := Int.mul_le_mul_of_nonneg_left m2.2.1 (by omega)
  refine ⟨by show 1 ≤ a.1 + b.1; omega, m1.2.2, m2.2.2, ?_, ?_, ?_, ?_, ?_, ?_⟩
  · exact Int.le_trans m1.1 a4
  · exact Int.le_trans a5 m2.1
  · exact Int.le_trans m1.2.1 b6
  · exact Int.le_trans b7 m2.2.1
  · show (a.1 + b.1) * mn a.2.2.1 b.2.2.1 ≤ a.2.1 + b.2.1
    rw [Int.add_mul]; omega
  · show a.2.1 + b.2.1 ≤ (a.1 + b.1) * mx a.2.2.2.1 b.2.2.2.1
    rw [Int.add_mul]; omega
theorem agR_agg (l : List Int) (h : ∀ v ∈ l, -1000000 ≤ v ∧ v ≤ 1000000) (hn : l ≠ []) : AgR (agg l) := by
  induction l with
  | nil => exact absurd rfl hn
  | cons v l ih =>
    have h1 := agR_one v (h v List.mem_cons_self).1 (h v List.mem_cons_self).2
    have e : agg (v :: l) = mrg (one v) (agg l) := by
      rw [show v :: l = [v] ++ l from rfl, agg_append]; congr 1
    rw [e]
    by_cases hl : l = []
    · subst hl; rw [agg_nil, mrg_zag_r _ (by rw [one_fst]; intro h; omega)]; exact h1
    · exact agR_mrg _ _ h1 (ih (fun v hv => h v (List.mem_cons_of_mem _ hv)) hl)
/-- The sum's bound. -/
theorem agR_sum (a : Ag) (h : AgR a) (n : Int) (hn : a.1 ≤ n) : -(n * 1000000) ≤ a.2.1 ∧ a.2.1 ≤ n * 1000000 := by
  obtain ⟨a1, a2, a3, a4, a5, a6, a7, a8, a9⟩ := h
  have p1 : a.1 * (-1000000) ≤ a.1 * a.2.2.1 := Int.mul_le_mul_of_nonneg_left a2 (by omega)
  have p2 : a.1 * a.2.2.2.1 ≤ a.1 * 1000000 := Int.mul_le_mul_of_nonneg_left a3 (by omega)
  omega
/-! ### samples -/
abbrev Smp := S43
abbrev AgS := S32
abbrev Bkt := S50
def toAg (s : AgS) : Ag := (s.f0, s.f1, s.f2, s.f3, s.f4, s.f5)
def ofAg (a : Ag) : AgS := ⟨a.1, a.2.1, a.2.2.1, a.2.2.2.1, a.2.2.2.2.1, a.2.2.2.2.2⟩
theorem rdS_at (l : List Smp) (i : Nat) (h : i < l.length) : rd_T43 l (i : Int) = l[i] := by
  simp [rd_T43, List.getD_eq_getElem?_getD, List.getElem?_eq_getElem h]
theorem rdB_at (l : List Bkt) (i : Nat) (h : i < l.length) : rd_T50 l (i : Int) = l[i] := by
  simp [rd_T50, List.getD_eq_getElem?_getD, List.getElem?_eq_getElem h]
/-- Right samples: their times rise. -/
def Gs (l : List Smp) : Prop := l.Pairwise (fun a b => a.f0 < b.f0) ∧ ∀ s ∈ l, 0 ≤ s.f0 ∧ s.f0 ≤ 99999 ∧ -1000000 ≤ s.f1 ∧ s.f1 ≤ 1000000
theorem within_eq (a b c : Int) : impl_within.f a b c = some (decide (b ≤ a ∧ a ≤ c)) := by unfold impl_within.f; exact ite_and_some _ _
theorem l01In_eq (a b c : Int) : spec_l01In.f a b c = some (decide (b ≤ a ∧ a ≤ c)) := by unfold spec_l01In.f; exact ite_and_some _ _
theorem moment_eq (a : Int) : impl_isMoment.f a = some (decide (0 ≤ a ∧ a ≤ 99999)) := by unfold impl_isMoment.f; rw [within_eq]; rfl
theorem value_eq (a : Int) : impl_isValue.f a = some (decide (-1000000 ≤ a ∧ a ≤ 1000000)) := by unfold impl_isValue.f; rw [within_eq]; rfl
theorem isRange_eq (a b : Int) : impl_isRange.f a b = some (decide (0 ≤ a ∧ a ≤ b ∧ b ≤ 100000)) := by
  unfold impl_isRange.f
  by_cases h1 : 0 ≤ a <;> by_cases h2 : a ≤ b <;> by_cases h3 : b ≤ 100000 <;> simp [h1, h2, h3]
theorem l04Range_eq (a b : Int) : spec_l04Range.f a b = some (decide (0 ≤ a ∧ a ≤ b ∧ b ≤ 100000)) := by
  unfold spec_l04Range.f
  rw [l01In_eq, l01In_eq]
  by_cases h1 : 0 ≤ a <;> by_cases h2 : a ≤ b <;> by_cases h3 : b ≤ 100000 <;> by_cases h4 : a ≤ 100000 <;> simp [h1, h2, h3, h4] <;> omega
theorem l02Sample_eq (a b : Int) : spec_l02Sample.f a b = some (decide ((0 ≤ a ∧ a ≤ 99999) ∧ (-1000000 ≤ b ∧ b ≤ 1000000))) := by
  unfold spec_l02Sample.f
  rw [l01In_eq, l01In_eq]
  by_cases h1 : 0 ≤ a ∧ a ≤ 99999 <;> by_cases h2 : -1000000 ≤ b ∧ b ≤ 1000000 <;> simp [h1, h2]
theorem Gs.lt {l : List Smp} (h : Gs l) {i j : Nat} (hij : i < j) (hj : j < l.length) : (l[i]'(by omega)).f0 < l[j].f0 :=
  (List.pairwise_iff_getElem.1 h.1) i j (by omega) hj hij

theorem sok_loop (l : List Smp) (h : Gs l) (hl : l.length ≤ 4096) : ∀ d i : Nat, l.length - i = d → i ≤ l.length → Ev (fun k => impl_SamplesOK.l0 k l l (l.length : Int) (i : Int)) true := by
  intro d
  induction d with
  | zero =>
    intro i hd hi
    refine Ev.step (f := fun _ => some true) (fun k => ?_) (Ev.now _)
    simp only [impl_SamplesOK.l0]; rw [if_neg (by omega)]
  | succ d ih =>
    intro i hd hi
    have hlt : i < l.length := by omega
    have ih' := ih (i + 1) (by omega) (by omega)
    refine Ev.step (f := fun k => impl_SamplesOK.l0 k l l (l.length : Int) ((i + 1 : Nat) : Int)) (fun k => ?_) ih'
    have hs := h.2 l[i] (List.getElem_mem hlt)
    simp only [impl_SamplesOK.l0]
    rw [if_pos (by omega), if_pos (by omega), if_pos (by omega), rdS_at l i hlt, moment_eq, value_eq, decide_eq_true (show 0 ≤ l[i].f0 ∧ l[i].f0 ≤ 99999 by omega), decide_eq_true (show -1000000 ≤ l[i].f1 ∧ l[i].f1 ≤ 1000000 by omega)]
    simp only [Option.bind_some, if_true]
    rw [w64 (n := (i : Int) + 1) (by omega) (by omega)]
    by_cases hi0 : 0 < i
    · rw [if_pos (by omega), w64 (n := (i : Int) - 1) (by omega) (by omega), if_pos (by omega), if_pos (by omega)]
      rw [show ((i : Int) - 1) = ((i - 1 : Nat) : Int) by omega, rdS_at l (i - 1) (by omega)]
      have := h.lt (show i - 1 < i by omega) hlt
      rw [if_neg (by omega)]; rfl
    · rw [if_neg (by omega)]; rfl
theorem sok (l : List Smp) (h : Gs l) (hl : l.length ≤ 4096) : Ev (fun k => impl_SamplesOK.f k l) true := by
  unfold impl_SamplesOK.f impl_Sample.f
  simp only [Option.bind_some]
  rw [decide_eq_false (by omega)]
  exact sok_loop l h hl _ 0 rfl (by omega)
theorem ssok_loop (l : List Smp) (h : Gs l) (hl : l.length ≤ 4096) : ∀ d i : Nat, l.length - i = d → i ≤ l.length → Ev (fun k => spec_SamplesOK.l0 k l (i : Int)) true := by
  intro d
  induction d with
  | zero =>
    intro i hd hi
    refine Ev.step (f := fun _ => some true) (fun k => ?_) (Ev.now _)
    simp only [spec_SamplesOK.l0]; rw [if_neg (by omega)]
  | succ d ih =>
    intro i hd hi
    have hlt : i < l.length := by omega
    have ih' := ih (i + 1) (by omega) (by omega)
    refine Ev.step (f := fun k => spec_SamplesOK.l0 k l ((i + 1 : Nat) : Int)) (fun k => ?_) ih'
    have hs := h.2 l[i] (List.getElem_mem hlt)
    simp only [spec_SamplesOK.l0]
    rw [if_pos (by omega), if_pos (by omega), rdS_at l i hlt, l02Sample_eq, decide_eq_true (show (0 ≤ l[i].f0 ∧ l[i].f0 ≤ 99999) ∧ (-1000000 ≤ l[i].f1 ∧ l[i].f1 ≤ 1000000) by omega)]
    simp only [Option.bind_some, if_true]
    rw [w64 (n := (i : Int) + 1) (by omega) (by omega)]
    by_cases hi0 : 0 < i
    · rw [if_pos (by omega), w64 (n := (i : Int) - 1) (by omega) (by omega), if_pos (by omega), if_pos (by omega)]
      rw [show ((i : Int) - 1) = ((i - 1 : Nat) : Int) by omega, rdS_at l (i - 1) (by omega)]
      have := h.lt (show i - 1 < i by omega) hlt
      rw [if_neg (by omega)]; rfl
    · rw [if_neg (by omega)]; rfl
theorem ssok (l : List Smp) (h : Gs l) (hl : l.length ≤ 4096) : Ev (fun k => spec_SamplesOK.f k l) true := by
  unfold spec_SamplesOK.f
  simp only [if_neg (show ¬ (l.length : Int) > 4096 by omega)]
  exact ssok_loop l h hl _ 0 rfl (by omega)

/-! ### the aggregate of samples -/
def vals (l : List Smp) : List Int := l.map (·.f1)
theorem merged_eq (a b : Ag) (h1 : a.1 + b.1 ≤ 9000000000000000000) (h2 : -9000000000000000000 ≤ a.1 + b.1) (h3 : a.2.1 + b.2.1 ≤ 9000000000000000000) (h4 : -9000000000000000000 ≤ a.2.1 + b.2.1) :
    impl_Agg_merged.f a.1 a.2.1 a.2.2.1 a.2.2.2.1 a.2.2.2.2.1 a.2.2.2.2.2 b.1 b.2.1 b.2.2.1 b.2.2.2.1 b.2.2.2.2.1 b.2.2.2.2.2 = some (mrg a b) := by
  unfold impl_Agg_merged.f mrg
  by_cases h0 : a.1 = 0
  · rw [if_pos h0, if_pos h0]
  · rw [if_neg h0, if_neg h0]
    by_cases h5 : b.1 = 0
    · rw [if_pos h5, if_pos h5]
    · rw [if_neg h5, if_neg h5, w64 (by omega) (by omega), w64 (by omega) (by omega)]
theorem smerge_eq (a b : Ag) (h1 : a.1 + b.1 ≤ 9000000000000000000) (h2 : -9000000000000000000 ≤ a.1 + b.1) (h3 : a.2.1 + b.2.1 ≤ 9000000000000000000) (h4 : -9000000000000000000 ≤ a.2.1 + b.2.1) :
    spec_l02Merge.f a.1 a.2.1 a.2.2.1 a.2.2.2.1 a.2.2.2.2.1 a.2.2.2.2.2 b.1 b.2.1 b.2.2.1 b.2.2.2.1 b.2.2.2.2.1 b.2.2.2.2.2 = some (mrg a b) := by
  unfold spec_l02Merge.f mrg
  by_cases h0 : a.1 = 0
  · rw [if_pos h0, if_pos h0]
  · rw [if_neg h0, if_neg h0]
    by_cases h5 : b.1 = 0
    · rw [if_pos h5, if_pos h5]
    · rw [if_neg h5, if_neg h5, w64 (by omega) (by omega), w64 (by omega) (by omega)]
theorem agg_bound (l : List Int) (h : ∀ v ∈ l, -1000000 ≤ v ∧ v ≤ 1000000) : (agg l).1 = l.length ∧ -((l.length : Int) * 1000000) ≤ (agg l).2.1 ∧ (agg l).2.1 ≤ (l.length : Int) * 1000000 := by
  refine ⟨agg_fst l, ?_⟩
  by_cases hn : l = []
  · subst hn; simp [agg_nil, zag]
  · exact agR_sum _ (agR_agg l h hn) _ (by rw [agg_fst]; exact Int.le_refl _)
theorem vals_bound {l : List Smp} (h : ∀ s ∈ l, -1000000 ≤ s.f1 ∧ s.f1 ≤ 1000000) : ∀ v ∈ vals l, -1000000 ≤ v ∧ v ≤ 1000000 := by
  intro v hv
  obtain ⟨s, hs, rfl⟩ := List.mem_map.1 hv
  exact h s hs
theorem vals_length (l : List Smp) : (vals l).length = l.length := List.length_map ..
theorem take_succ (l : List Smp) (i : Nat) (h : i < l.length) : l.take (i + 1) = l.take i ++ [l[i]] := by
  rw [List.take_succ_eq_append_getElem h]
theorem aggOf_loop (l : List Smp) (h : ∀ s ∈ l, -1000000 ≤ s.f1 ∧ s.f1 ≤ 1000000) (hl : l.length ≤ 100000) : ∀ d i : Nat, l.length - i = d → i ≤ l.length → ∀ a : Ag, a = agg (vals (l.take i)) →
    Ev (fun k => impl_aggOf.l0 k l (l.length : Int) (i : Int) a.1 a.2.1 a.2.2.1 a.2.2.2.1 a.2.2.2.2.1 a.2.2.2.2.2) (agg (vals l)) := by
  intro d
  induction d with
  | zero =>
    intro i hd hi a ha
    refine Ev.step (f := fun _ => some (agg (vals l))) (fun k => ?_) (Ev.now _)
    simp only [impl_aggOf.l0]; rw [if_neg (by omega), ha, List.take_of_length_le (by omega)]
  | succ d ih =>
    intro i hd hi a ha
    have hlt : i < l.length := by omega
    have hs := h l[i] (List.getElem_mem hlt)
    have hb := agg_bound (vals (l.take i)) (vals_bound (fun s hs => h s (List.mem_of_mem_take hs)))
    rw [vals_length, List.length_take, ← ha] at hb
    have e : mrg a (one l[i].f1) = agg (vals (l.take (i + 1))) := by
      rw [take_succ l i hlt, ha]; unfold vals; rw [List.map_append]; exact (agg_snoc _ _).symm
    have ih' := ih (i + 1) (by omega) (by omega) _ e
    refine Ev.step (fun k => ?_) ih'
    simp only [impl_aggOf.l0]
    rw [if_pos (by omega), if_pos (by omega), if_pos (by omega), rdS_at l i hlt]
    rw [show impl_Agg_merged.f a.1 a.2.1 a.2.2.1 a.2.2.2.1 a.2.2.2.2.1 a.2.2.2.2.2 1 l[i].f1 l[i].f1 l[i].f1 l[i].f1 l[i].f1 = some (mrg a (one l[i].f1)) from merged_eq a (one l[i].f1) (by rw [one_fst]; omega) (by rw [one_fst]; omega) (by show a.2.1 + l[i].f1 ≤ _; omega) (by show _ ≤ a.2.1 + l[i].f1; omega)]
    simp only [Option.bind_some]
    rw [w64 (n := (i : Int) + 1) (by omega) (by omega)]; rfl
theorem aggOf_ev (l : List Smp) (h : ∀ s ∈ l, -1000000 ≤ s.f1 ∧ s.f1 ≤ 1000000) (hl : l.length ≤ 100000) : Ev (fun k => impl_aggOf.f k l) (agg (vals l)) := by
  have := aggOf_loop l h hl _ 0 rfl (by omega) zag (by simp [vals, agg_nil])
  exact this
theorem l02Of_loop (l : List Smp) (h : ∀ s ∈ l, -1000000 ≤ s.f1 ∧ s.f1 ≤ 1000000) (hl : l.length ≤ 100000) : ∀ d i : Nat, l.length - i = d → i ≤ l.length → ∀ a : Ag, a = agg (vals (l.take i)) →
    Ev (fun k => spec_l02Of.l0 k l (i : Int) a.1 a.2.1 a.2.2.1 a.2.2.2.1 a.2.2.2.2.1 a.2.2.2.2.2) (agg (vals l)) := by
  intro d
  induction d with
  | zero =>
    intro i hd hi a ha
    refine Ev.step (f := fun _ => some (agg (vals l))) (fun k => ?_) (Ev.now _)
    simp only [spec_l02Of.l0]; rw [if_neg (by omega), ha, List.take_of_length_le (by omega)]
  | succ d ih =>
    intro i hd hi a ha
    have hlt : i < l.length := by omega
    have hs := h l[i] (List.getElem_mem hlt)
    have hb := agg_bound (vals (l.take i)) (vals_bound (fun s hs => h s (List.mem_of_mem_take hs)))
    rw [vals_length, List.length_take, ← ha] at hb
    have e : mrg a (one l[i].f1) = agg (vals (l.take (i + 1))) := by
      rw [take_succ l i hlt, ha]; unfold vals; rw [List.map_append]; exact (agg_snoc _ _).symm
    have ih' := ih (i + 1) (by omega) (by omega) _ e
    refine Ev.step (fun k => ?_) ih'
    simp only [spec_l02Of.l0]
    rw [if_pos (by omega), if_pos (by omega), rdS_at l i hlt]
    rw [show spec_l02Merge.f a.1 a.2.1 a.2.2.1 a.2.2.2.1 a.2.2.2.2.1 a.2.2.2.2.2 1 l[i].f1 l[i].f1 l[i].f1 l[i].f1 l[i].f1 = some (mrg a (one l[i].f1)) from smerge_eq a (one l[i].f1) (by rw [one_fst]; omega) (by rw [one_fst]; omega) (by show a.2.1 + l[i].f1 ≤ _; omega) (by show _ ≤ a.2.1 + l[i].f1; omega)]
    simp only [Option.bind_some]
    rw [w64 (n := (i : Int) + 1) (by omega) (by omega)]; rfl
theorem l02Of_ev (l : List Smp) (h : ∀ s ∈ l, -1000000 ≤ s.f1 ∧ s.f1 ≤ 1000000) (hl : l.length ≤ 100000) : Ev (fun k => spec_l02Of.f k l) (agg (vals l)) := by
  have := l02Of_loop l h hl _ 0 rfl (by omega) zag (by simp [vals, agg_nil])
  exact this

/-! ### the samples of a range -/
def inR (a b : Int) (l : List Smp) : List Smp := l.filter (fun s => decide (a ≤ s.f0 ∧ s.f0 ≤ b - 1))
theorem samplesIn_loop (l : List Smp) (a b : Int) (hb0 : 0 ≤ b) (hb : b ≤ 1000000) (hl : l.length ≤ 100000) : ∀ d i : Nat, l.length - i = d → i ≤ l.length →
    Ev (fun k => impl_samplesIn.l0 k a b (inR a b (l.take i)) l (l.length : Int) (i : Int)) (inR a b l) := by
  intro d
  induction d with
  | zero =>
    intro i hd hi
    refine Ev.step (f := fun _ => some (inR a b l)) (fun k => ?_) (Ev.now _)
    simp only [impl_samplesIn.l0]; rw [if_neg (by omega), List.take_of_length_le (by omega)]
  | succ d ih =>
    intro i hd hi
    have hlt : i < l.length := by omega
    have ih' := ih (i + 1) (by omega) (by omega)
    refine Ev.step (fun k => ?_) ih'
    have hln : (inR a b (l.take i)).length ≤ 100000 := Nat.le_trans (List.length_filter_le _ _) (by rw [List.length_take]; omega)
    simp only [impl_samplesIn.l0]
    rw [if_pos (by omega), if_pos (by omega), if_pos (by omega), rdS_at l i hlt, w64 (n := b - 1) (by omega) (by omega), within_eq]
    simp only [Option.bind_some]
    rw [w64 (n := (i : Int) + 1) (by omega) (by omega), take_succ l i hlt]
    unfold inR at hln ⊢
    rw [List.filter_append]
    by_cases hc : a ≤ l[i].f0 ∧ l[i].f0 ≤ b - 1
    · rw [decide_eq_true hc, if_pos rfl, if_pos (by omega), List.filter_cons_of_pos (by simpa using hc)]; rfl
    · rw [decide_eq_false hc, if_neg (by simp), List.filter_cons_of_neg (by simpa using hc)]; simp
theorem samplesIn_ev (l : List Smp) (a b : Int) (hb0 : 0 ≤ b) (hb : b ≤ 1000000) (hl : l.length ≤ 100000) : Ev (fun k => impl_samplesIn.f k l a b) (inR a b l) := by
  exact samplesIn_loop l a b hb0 hb hl _ 0 rfl (by omega)
/-- A bucket, if it is not of nothing. -/
def bktOf (a : Int) (l : List Smp) : List Bkt := if l = [] then [] else [⟨a, ofAg (agg (vals l))⟩]
theorem bucketOf_eq (a : Int) (l : List Smp) (g : Ag) (hg : g = agg (vals l)) : impl_bucketOf.f a g.1 g.2.1 g.2.2.1 g.2.2.2.1 g.2.2.2.2.1 g.2.2.2.2.2 = some (bktOf a l) := by
  have h1 : g.1 = l.length := by rw [hg, agg_fst, vals_length]
  unfold impl_bucketOf.f bktOf
  by_cases h : l = []
  · rw [if_pos h, if_pos (by rw [h1, h]; rfl)]
  · rw [if_neg h, if_neg (by rw [h1]; intro h0; exact h (List.eq_nil_of_length_eq_zero (by omega))), hg]; rfl
theorem first_eq (l : List AnyV) (h : l.length ≤ 1000) : impl_first.f l = some (firstV l) := if_pos h
theorem down_ev (l : List Smp) (h : Gs l) (hl : l.length ≤ 4096) (a b : Int) (h0 : 0 ≤ a) (hab : a ≤ b) (hb : b ≤ 100000) : Ev (fun k => impl_Downsample.f k l a b) (bktOf a (inR a b l), 0) := by
  unfold impl_Downsample.f impl_Sample.f
  simp only [Option.bind_some]
  refine Ev.bind (sok l h hl) ?_
  rw [isRange_eq, decide_eq_false (show ¬ (l.length : Int) > 4096 by omega), decide_eq_true (show 0 ≤ a ∧ a ≤ b ∧ b ≤ 100000 by omega)]
  simp only [Option.bind_some]
  rw [first_eq _ (by simp)]
  simp only [firstV, yesV, Option.bind_some, Bool.not_true, Bool.false_eq_true, if_false, if_true]
  have hv : ∀ s ∈ inR a b l, -1000000 ≤ s.f1 ∧ s.f1 ≤ 1000000 := fun s hs => by have := h.2 s ((List.mem_filter.1 hs).1); omega
  refine Ev.bind (samplesIn_ev l a b (by omega) (by omega) (by omega)) ?_
  refine Ev.bind (aggOf_ev _ hv (Nat.le_trans (List.length_filter_le _ _) (by omega))) ?_
  rw [bucketOf_eq a (inR a b l) _ rfl]
  exact Ev.now _
theorem sdown_loop (l : List Smp) (a b : Int) (hb0 : 0 ≤ b) (hb : b ≤ 1000000) (hl : l.length ≤ 100000) (hv : ∀ s ∈ l, -1000000 ≤ s.f1 ∧ s.f1 ≤ 1000000) : ∀ d i : Nat, l.length - i = d → i ≤ l.length →
    Ev (fun k => spec_l04Down.l0 k l a b (inR a b (l.take i)) (i : Int)) (bktOf a (inR a b l)) := by
  intro d
  induction d with
  | zero =>
    intro i hd hi
    have hln : (inR a b l).length ≤ 100000 := Nat.le_trans (List.length_filter_le _ _) (by omega)
    refine Ev.step (f := fun k => if ((inR a b l).length : Int) = 0 then some [] else (spec_l02Of.f k (inR a b l)).bind fun t => some [⟨a, ofAg t⟩]) (fun k => ?_) ?_
    · simp only [spec_l04Down.l0]; rw [if_neg (by omega), List.take_of_length_le (by omega)]; rfl
    · unfold bktOf
      by_cases hn : inR a b l = []
      · rw [if_pos hn, hn]; exact Ev.now _
      · rw [if_neg hn]
        simp only [if_neg (show ¬ ((inR a b l).length : Int) = 0 by intro h0; exact hn (List.eq_nil_of_length_eq_zero (by omega)))]
        exact Ev.bind (l02Of_ev _ (fun s hs => hv s ((List.mem_filter.1 hs).1)) hln) (Ev.now _)
  | succ d ih =>
    intro i hd hi
    have hlt : i < l.length := by omega
    have ih' := ih (i + 1) (by omega) (by omega)
    refine Ev.step (fun k => ?_) ih'
    have hln : (inR a b (l.take i)).length ≤ 100000 := Nat.le_trans (List.length_filter_le _ _) (by rw [List.length_take]; omega)
    simp only [spec_l04Down.l0]
    rw [if_pos (by omega), if_pos (by omega), rdS_at l i hlt, w64 (n := b - 1) (by omega) (by omega), l01In_eq]
    simp only [Option.bind_some]
    rw [w64 (n := (i : Int) + 1) (by omega) (by omega), take_succ l i hlt]
    unfold inR at hln ⊢
    rw [List.filter_append]
    by_cases hc : a ≤ l[i].f0 ∧ l[i].f0 ≤ b - 1
    · rw [decide_eq_true hc, if_pos rfl, if_pos (by omega), List.filter_cons_of_pos (by simpa using hc)]; rfl
    · rw [decide_eq_false hc, if_neg (by simp), List.filter_cons_of_neg (by simpa using hc)]; simp
theorem sdown_ev (l : List Smp) (h : Gs l) (hl : l.length ≤ 4096) (a b : Int) (h0 : 0 ≤ a) (hab : a ≤ b) (hb : b ≤ 100000) : Ev (fun k => spec_Downsample.f k l a b) (bktOf a (inR a b l), 0) := by
  unfold spec_Downsample.f
  simp only [if_neg (show ¬ (l.length : Int) > 4096 by omega)]
  refine Ev.bind (ssok l h hl) ?_
  rw [l04Range_eq, decide_eq_true (show 0 ≤ a ∧ a ≤ b ∧ b ≤ 100000 by omega)]
  simp only [Option.bind_some, if_true]
  refine Ev.bind (sdown_loop l a b (by omega) (by omega) (by omega) (fun s hs => by have := h.2 s hs; omega) _ 0 rfl (by omega)) (Ev.now _)
/-! ### buckets -/
theorem same_loop (l : List Bkt) (hl : l.length ≤ 100000) : ∀ d i : Nat, l.length - i = d → i ≤ l.length → Ev (fun k => laws_sameBuckets.l0 k l l (i : Int)) true := by
  intro d
  induction d with
  | zero =>
    intro i hd hi
    refine Ev.step (f := fun _ => some true) (fun k => ?_) (Ev.now _)
    simp only [laws_sameBuckets.l0]; rw [if_neg (by omega)]
  | succ d ih =>
    intro i hd hi
    refine Ev.step (fun k => ?_) (ih (i + 1) (by omega) (by omega))
    simp only [laws_sameBuckets.l0]
    rw [if_pos (by omega), if_pos (by omega), if_pos (by omega), if_neg (by simp), w64 (n := (i : Int) + 1) (by omega) (by omega)]; rfl
theorem same_ev (l : List Bkt) (hl : l.length ≤ 100000) : Ev (fun k => laws_sameBuckets.f k l l) true := by
  unfold laws_sameBuckets.f
  simp only [if_true]
  exact same_loop l hl _ 0 rfl (by omega)
theorem aggOK_of (a : Ag) (h : AgR a) (hc : a.1 ≤ 100000) : impl_AggOK.f a.1 a.2.1 a.2.2.1 a.2.2.2.1 a.2.2.2.2.1 a.2.2.2.2.2 = some true := by
  have hs := h
  obtain ⟨a1, a2, a3, a4, a5, a6, a7, a8, a9⟩ := h
  have q1 : a.1 * (-1000000) ≤ a.1 * a.2.2.1 := Int.mul_le_mul_of_nonneg_left a2 (by omega)
  have q2 : a.1 * a.2.2.2.1 ≤ a.1 * 1000000 := Int.mul_le_mul_of_nonneg_left a3 (by omega)
  have q3 : a.1 * a.2.2.1 ≤ a.1 * a.2.2.2.1 := Int.mul_le_mul_of_nonneg_left (by omega) (by omega)
  unfold impl_AggOK.f
  rw [if_neg (by simp; omega), within_eq, value_eq, value_eq, within_eq, within_eq, within_eq, w64 (n := a.1 * a.2.2.1) (by omega) (by omega), w64 (n := a.1 * a.2.2.2.1) (by omega) (by omega)]
  rw [decide_eq_true (show 1 ≤ a.1 ∧ a.1 ≤ 100000 by omega), decide_eq_true (show -1000000 ≤ a.2.2.1 ∧ a.2.2.1 ≤ 1000000 by omega), decide_eq_true (show -1000000 ≤ a.2.2.2.1 ∧ a.2.2.2.1 ≤ 1000000 by omega), decide_eq_true (show a.2.2.1 ≤ a.2.2.2.2.1 ∧ a.2.2.2.2.1 ≤ a.2.2.2.1 by omega), decide_eq_true (show a.2.2.1 ≤ a.2.2.2.2.2 ∧ a.2.2.2.2.2 ≤ a.2.2.2.1 by omega), decide_eq_true (show a.1 * a.2.2.1 ≤ a.2.1 ∧ a.2.1 ≤ a.1 * a.2.2.2.1 by omega)]
  rfl
/-- Right buckets: their beginnings rise, none is of nothing. -/
def Gb (l : List Bkt) : Prop := l.Pairwise (fun a b => a.f0 < b.f0) ∧ ∀ b ∈ l, 0 ≤ b.f0 ∧ b.f0 ≤ 99999 ∧ AgR (toAg b.f1) ∧ b.f1.f0 ≤ 100000
theorem bok_loop (l : List Bkt) (h : Gb l) (hl : l.length ≤ 8) : ∀ d i : Nat, l.length - i = d → i ≤ l.length → Ev (fun k => impl_BucketsOK.l0 k l l (l.length : Int) (i : Int)) true := by
  intro d
  induction d with
  | zero =>
    intro i hd hi
    refine Ev.step (f := fun _ => some true) (fun k => ?_) (Ev.now _)
    simp only [impl_BucketsOK.l0]; rw [if_neg (by omega)]
  | succ d ih =>
    intro i hd hi
    have hlt : i < l.length := by omega
    refine Ev.step (fun k => ?_) (ih (i + 1) (by omega) (by omega))
    obtain ⟨h1, h2, h3, h4⟩ := h.2 l[i] (List.getElem_mem hlt)
    have h5 : 1 ≤ l[i].f1.f0 := h3.1
    simp only [impl_BucketsOK.l0]
    rw [if_pos (by omega), if_pos (by omega), if_pos (by omega), if_neg (by omega), rdB_at l i hlt, moment_eq, decide_eq_true (show 0 ≤ l[i].f0 ∧ l[i].f0 ≤ 99999 by omega)]
    rw [show impl_AggOK.f l[i].f1.f0 l[i].f1.f1 l[i].f1.f2 l[i].f1.f3 l[i].f1.f4 l[i].f1.f5 = some true from aggOK_of (toAg l[i].f1) h3 h4]
    simp only [Option.bind_some, if_true]
    rw [if_neg (by omega), w64 (n := (i : Int) + 1) (by omega) (by omega)]
    by_cases hi0 : 0 < i
    · rw [if_pos (by omega), w64 (n := (i : Int) - 1) (by omega) (by omega), if_pos (by omega), if_pos (by omega)]
      rw [show ((i : Int) - 1) = ((i - 1 : Nat) : Int) by omega, rdB_at l (i - 1) (by omega)]
      have := (List.pairwise_iff_getElem.1 h.1) (i - 1) i (by omega) hlt (by omega)
      rw [if_neg (by omega)]; rfl
    · rw [if_neg (by omega)]; rfl
theorem bok (l : List Bkt) (h : Gb l) (hl : l.length ≤ 8) : Ev (fun k => impl_BucketsOK.f k l) true := bok_loop l h hl _ 0 rfl (by omega)
/-- What buckets make together. -/
def mrgs (l : List Bkt) : Ag := l.foldl (fun a b => mrg a (toAg b.f1)) zag
def cnts (l : List Bkt) : Int := l.foldl (fun n b => n + b.f1.f0) 0
/-- All partial results are small. -/
def Small (l : List Bkt) : Prop := ∀ i, i ≤ l.length → (0 ≤ (mrgs (l.take i)).1 ∧ (mrgs (l.take i)).1 ≤ 200000 ∧ -1000000000000 ≤ (mrgs (l.take i)).2.1 ∧ (mrgs (l.take i)).2.1 ≤ 1000000000000) ∧ 0 ≤ cnts (l.take i) ∧ cnts (l.take i) ≤ 100000
theorem takeB_succ (l : List Bkt) (i : Nat) (h : i < l.length) : l.take (i + 1) = l.take i ++ [l[i]] := by
  rw [List.take_succ_eq_append_getElem h]
theorem fold_loop (l : List Bkt) (a b : Int) (hb0 : 0 ≤ b) (hb : b ≤ 1000000) (h : Gb l) (hl : l.length ≤ 8) (hr : ∀ x ∈ l, a ≤ x.f0 ∧ x.f0 ≤ b - 1) (hs : Small l) : ∀ d i : Nat, l.length - i = d → i ≤ l.length → ∀ (g : Ag) (n : Int), g = mrgs (l.take i) → n = cnts (l.take i) →
    Ev (fun k => impl_fold.l0 k a b n l (l.length : Int) (i : Int) g.1 g.2.1 g.2.2.1 g.2.2.2.1 g.2.2.2.2.1 g.2.2.2.2.2) ((mrgs l).1, (mrgs l).2.1, (mrgs l).2.2.1, (mrgs l).2.2.2.1, (mrgs l).2.2.2.2.1, (mrgs l).2.2.2.2.2, 0) := by
  intro d
  induction d with
  | zero =>
    intro i hd hi g n hg hn
    obtain ⟨_, h2, h3⟩ := hs i hi
    refine Ev.step (f := fun _ => some ((mrgs l).1, (mrgs l).2.1, (mrgs l).2.2.1, (mrgs l).2.2.2.1, (mrgs l).2.2.2.2.1, (mrgs l).2.2.2.2.2, 0)) (fun k => ?_) (Ev.now _)
    simp only [impl_fold.l0]; rw [if_neg (by omega), if_neg (by omega), hg, List.take_of_length_le (by omega)]
  | succ d ih =>
    intro i hd hi g n hg hn
    have hlt : i < l.length := by omega
    have e1 : mrg g (toAg l[i].f1) = mrgs (l.take (i + 1)) := by rw [takeB_succ l i hlt, hg]; unfold mrgs; rw [List.foldl_append]; rfl
    have e2 : n + l[i].f1.f0 = cnts (l.take (i + 1)) := by rw [takeB_succ l i hlt, hn]; unfold cnts; rw [List.foldl_append]; rfl
    obtain ⟨h1, h2, h3⟩ := hs i hi
    obtain ⟨_, h2', h3'⟩ := hs (i + 1) (by omega)
    rw [← hg] at h1; rw [← hn] at h2 h3; rw [← e2] at h2' h3'
    obtain ⟨b1, b2, b3, b4⟩ := h.2 l[i] (List.getElem_mem hlt)
    have b5 : 1 ≤ l[i].f1.f0 := b3.1
    have b6 := agR_sum _ b3 100000 b4
    have b6' : -100000000000 ≤ l[i].f1.f1 ∧ l[i].f1.f1 ≤ 100000000000 := b6
    have hr' := hr l[i] (List.getElem_mem hlt)
    refine Ev.step (fun k => ?_) (ih (i + 1) (by omega) (by omega) _ _ e1 e2)
    simp only [impl_fold.l0]
    rw [if_pos (by omega), if_pos (by omega), if_pos (by omega), rdB_at l i hlt, w64 (n := b - 1) (by omega) (by omega), within_eq, decide_eq_true (show a ≤ l[i].f0 ∧ l[i].f0 ≤ b - 1 by omega)]
    simp only [Option.bind_some, if_true]
    rw [show impl_Agg_merged.f g.1 g.2.1 g.2.2.1 g.2.2.2.1 g.2.2.2.2.1 g.2.2.2.2.2 l[i].f1.f0 l[i].f1.f1 l[i].f1.f2 l[i].f1.f3 l[i].f1.f4 l[i].f1.f5 = some (mrg g (toAg l[i].f1)) from merged_eq g (toAg l[i].f1) (by show g.1 + l[i].f1.f0 ≤ _; omega) (by show _ ≤ g.1 + l[i].f1.f0; omega) (by show g.2.1 + l[i].f1.f1 ≤ _; omega) (by show _ ≤ g.2.1 + l[i].f1.f1; omega)]
    simp only [Option.bind_some]
    rw [w64 (n := (i : Int) + 1) (by omega) (by omega), w64 (n := n + l[i].f1.f0) (by omega) (by omega)]; rfl
theorem foldRange_ev (l : List Bkt) (a b : Int) (h0 : 0 ≤ a) (hab : a ≤ b) (hb : b ≤ 100000) (h : Gb l) (hl : l.length ≤ 8) (hr : ∀ x ∈ l, a ≤ x.f0 ∧ x.f0 ≤ b - 1) (hs : Small l) :
    Ev (fun k => impl_FoldRange.f k l a b) ((mrgs l).1, (mrgs l).2.1, (mrgs l).2.2.1, (mrgs l).2.2.2.1, (mrgs l).2.2.2.2.1, (mrgs l).2.2.2.2.2, 0) := by
  unfold impl_FoldRange.f impl_Bucket.f
  simp only [Option.bind_some]
  refine Ev.bind (bok l h hl) ?_
  rw [isRange_eq, decide_eq_false (show ¬ (l.length : Int) > 4096 by omega), decide_eq_true (show 0 ≤ a ∧ a ≤ b ∧ b ≤ 100000 by omega)]
  simp only [Option.bind_some]
  rw [first_eq _ (by simp)]
  simp only [firstV, yesV, Option.bind_some, Bool.not_true, Bool.false_eq_true, if_false, if_true]
  exact Ev.bind (fold_loop l a b (by omega) (by omega) h hl hr hs _ 0 rfl (by omega) zag 0 rfl rfl) (Ev.now _)
theorem modelFold_ev (l : List Smp) (h : Gs l) (hl : l.length ≤ 4096) (a b : Int) (h0 : 0 ≤ a) (hab : a ≤ b) (hb : b ≤ 100000) :
    Ev (fun k => impl_ModelFold.f k l a b) ((agg (vals (inR a b l))).1, (agg (vals (inR a b l))).2.1, (agg (vals (inR a b l))).2.2.1, (agg (vals (inR a b l))).2.2.2.1, (agg (vals (inR a b l))).2.2.2.2.1, (agg (vals (inR a b l))).2.2.2.2.2, 0) := by
  have hc : Ev (fun k => impl_modelCode.f k l a b) 0 := by
    unfold impl_modelCode.f impl_Sample.f
    simp only [Option.bind_some]
    refine Ev.bind (sok l h hl) ?_
    rw [isRange_eq, decide_eq_false (show ¬ (l.length : Int) > 4096 by omega), decide_eq_true (show 0 ≤ a ∧ a ≤ b ∧ b ≤ 100000 by omega)]
    simp only [Option.bind_some]
    rw [first_eq _ (by simp)]
    simp only [firstV, yesV, Option.bind_some, Bool.not_true, Bool.false_eq_true, if_false]
    exact Ev.now _
  unfold impl_ModelFold.f
  refine Ev.bind hc ?_
  simp only [if_true]
  refine Ev.bind (samplesIn_ev l a b (by omega) (by omega) (by omega)) ?_
  exact Ev.bind (aggOf_ev _ (fun s hs => by have := h.2 s (List.mem_filter.1 hs).1; omega) (Nat.le_trans (List.length_filter_le _ _) (by omega))) (Ev.now _)
/-! ### what is drawn -/
def Bytes (l : List Int) : Prop := ∀ x ∈ l, 0 ≤ x ∧ x ≤ 255
theorem bytes_of_wf (l : List Int) (h : ∀ x ∈ l, (Lit.int .u8 x).wf = true) : Bytes l := by
  intro x hx
  have := h x hx
  simp [Lit.wf] at this
  first | exact this | (simp [IntKind.holds, IntKind.min, IntKind.max] at this; omega) | omega
theorem rd_bytes {l : List Int} (h : Bytes l) (i : Int) : 0 ≤ rd l i ∧ rd l i ≤ 255 := by
  unfold rd
  rw [List.getD_eq_getElem?_getD]
  rcases Nat.lt_or_ge i.toNat l.length with hi | hi
  · rw [List.getElem?_eq_getElem hi]; exact h _ (List.getElem_mem hi)
  · rw [List.getElem?_eq_none hi]; simp
/-- A source's state is sound. -/
def St (a s m : Int) : Prop := 0 ≤ a ∧ a ≤ m ∧ 0 ≤ s ∧ s < 2147483648
theorem byte_ok (l : List Int) (h : Bytes l) (a s m : Int) (hs : St a s m) (hm : m < 1000000000000) : ∃ r a' s', spec_l00Src_byte.f l a s = some (r, a', s') ∧ 0 ≤ r ∧ r ≤ 255 ∧ St a' s' (m + 1) := by
  obtain ⟨h1, h2, h3, h4⟩ := hs
  have hr := rd_bytes h a
  unfold spec_l00Src_byte.f St
  rw [if_pos ⟨by omega, by omega, by omega, by omega, by omega, by omega⟩]
  by_cases c1 : a < (l.length : Int)
  · rw [if_pos c1]; exact ⟨_, _, _, rfl, by omega, by omega, by omega, by omega, by omega, by omega⟩
  · rw [if_neg c1]
    by_cases c2 : a < 3000
    · rw [if_pos c2]; exact ⟨_, _, _, rfl, by omega, by omega, by omega, by omega, by omega, by omega⟩
    · rw [if_neg c2]; exact ⟨_, _, _, rfl, by omega, by omega, by omega, by omega, by omega, by omega⟩
theorem next_ok (l : List Int) (h : Bytes l) (a s m n : Int) (hs : St a s m) (hm : m < 1000000000) (hn : 1 ≤ n) (hn2 : n ≤ 256) : ∃ r a' s', spec_l00Src_next.f l a s n = some (r, a', s') ∧ 0 ≤ r ∧ r < n ∧ St a' s' (m + 1) := by
  unfold spec_l00Src_next.f
  by_cases c1 : n ≤ 1
  · rw [if_pos c1]; exact ⟨_, _, _, rfl, by omega, by omega, hs.1, by have := hs.2.1; omega, hs.2.2⟩
  · rw [if_neg c1, if_pos hn2]
    obtain ⟨r, a', s', e, r1, r2, hs'⟩ := byte_ok l h a s m hs (by omega)
    rw [e]
    simp only [Option.bind_some]
    rw [if_neg (by omega), Int.tmod_eq_emod_of_nonneg r1]
    exact ⟨_, _, _, rfl, Int.emod_nonneg _ (by omega), Int.emod_lt_of_pos _ (by omega), hs'⟩
theorem at_ok (l : List Int) (h : Bytes l) (hl : l.length ≤ 1048576) (a n : Int) (ha : 0 ≤ a) (ha2 : a ≤ 1000) (hn : 2 ≤ n) (hn2 : n ≤ 1000000) : ∃ r, laws_at.f l a n = some r ∧ 0 ≤ r ∧ r < n := by
  unfold laws_at.f
  rw [if_neg (by omega)]
  by_cases c1 : (l.length : Int) = 0
  · rw [if_pos c1, if_neg (by omega), w64 (n := a * 7) (by omega) (by omega), Int.tmod_eq_emod_of_nonneg (by omega)]
    exact ⟨_, rfl, Int.emod_nonneg _ (by omega), Int.emod_lt_of_pos _ (by omega)⟩
  · rw [if_neg c1, w64 (n := a + 1) (by omega) (by omega), Int.tmod_eq_emod_of_nonneg ha, Int.tmod_eq_emod_of_nonneg (show 0 ≤ a + 1 by omega)]
    have q1 := Int.emod_nonneg a c1
    have q2 := Int.emod_lt_of_pos a (show (0 : Int) < l.length by omega)
    have q3 := Int.emod_nonneg (a + 1) c1
    have q4 := Int.emod_lt_of_pos (a + 1) (show (0 : Int) < l.length by omega)
    have b1 := rd_bytes h (a % (l.length : Int))
    have b2 := rd_bytes h ((a + 1) % (l.length : Int))
    have b3 : 0 ≤ Int.tdiv a (l.length : Int) := Int.tdiv_nonneg ha (by omega)
    have b4 : Int.tdiv a (l.length : Int) ≤ a := by
      rw [Int.tdiv_eq_ediv_of_nonneg ha]; exact Int.ediv_le_self _ ha
    rw [if_pos q1, if_pos q2, if_pos q3, if_pos q4, if_neg (by omega)]
    generalize rd l (a % (l.length : Int)) = x at *
    generalize rd l ((a + 1) % (l.length : Int)) = y at *
    generalize Int.tdiv a (l.length : Int) = z at *
    rw [w64 (n := x) (by omega) (by omega), w64 (n := x * 31) (by omega) (by omega), w64 (n := y) (by omega) (by omega), w64 (n := x * 31 + y) (by omega) (by omega), w64 (n := z) (by omega) (by omega), w64 (by omega) (by omega), Int.tmod_eq_emod_of_nonneg (by omega)]
    exact ⟨_, rfl, Int.emod_nonneg _ (by omega), Int.emod_lt_of_pos _ (by omega)⟩
/-- Drawn samples: they rise from lo on, below hi. -/
def Rise (lo hi : Int) (l : List Smp) : Prop := l.Pairwise (fun a b => a.f0 < b.f0) ∧ ∀ s ∈ l, lo ≤ s.f0 ∧ s.f0 < hi ∧ -1000000 ≤ s.f1 ∧ s.f1 ≤ 1000000
theorem rise_cons (lo hi : Int) (s : Smp) (l : List Smp) (h1 : lo ≤ s.f0) (h2 : s.f0 < hi) (h3 : -1000000 ≤ s.f1) (h4 : s.f1 ≤ 1000000) (h : Rise (s.f0 + 1) hi l) : Rise lo hi (s :: l) := by
  refine ⟨List.pairwise_cons.2 ⟨fun b hb => by have := (h.2 b hb).1; omega, h.1⟩, fun x hx => ?_⟩
  rcases List.mem_cons.1 hx with rfl | hx
  · exact ⟨h1, h2, h3, h4⟩
  · have := h.2 x hx; omega
theorem pick3 (x i : Int) (h0 : 0 ≤ i) (h1 : i < 3) (hx : -1000000 ≤ x) (hx2 : x ≤ 1000000) : -1000000 ≤ rd [x, 1000000, -1000000] i ∧ rd [x, 1000000, -1000000] i ≤ 1000000 := by
  have : i = 0 ∨ i = 1 ∨ i = 2 := by omega
  rcases this with rfl | rfl | rfl <;> simp [rd] <;> omega
theorem samples_loop (l : List Int) (h : Bytes l) : ∀ (d : Nat) (lo a s m : Int) (acc : List Smp), d ≤ 100 → 0 ≤ lo → lo + 4 * d ≤ 2000000 → acc.length ≤ 100000 - d → St a s m → m + 4 * d < 1000000000 →
    ∃ new a' s', Ev (fun k => spec_l00Src_samples.l0 k lo acc (d : Int) l a s) (acc ++ new, a', s') ∧ Rise lo (lo + 4 * d) new ∧ new.length = d ∧ St a' s' (m + 4 * d) := by
  intro d
  induction d with
  | zero =>
    intro lo a s m acc _ _ _ _ hs _
    refine ⟨[], a, s, Ev.step (f := fun _ => some (acc ++ [], a, s)) (fun k => ?_) (Ev.now _), ⟨List.Pairwise.nil, fun s hs => by simp at hs⟩, rfl, ?_⟩
    · simp only [spec_l00Src_samples.l0]; rw [if_neg (by omega), List.append_nil]
    · simpa using hs
  | succ d ih =>
    intro lo a s m acc hd hlo hlo2 hacc hs hm
    obtain ⟨r1, a1, s1, e1, g1, g1', t1⟩ := next_ok l h a s m 4 hs (by omega) (by omega) (by omega)
    obtain ⟨r2, a2, s2, e2, g2, g2', t2⟩ := next_ok l h a1 s1 (m + 1) 40 t1 (by omega) (by omega) (by omega)
    obtain ⟨r3, a3, s3, e3, g3, g3', t3⟩ := next_ok l h a2 s2 (m + 1 + 1) 12 t2 (by omega) (by omega) (by omega)
    obtain ⟨r4, a4, s4, e4, g4, g4', t4⟩ := next_ok l h a3 s3 (m + 1 + 1 + 1) 2 t3 (by omega) (by omega) (by omega)
    have hq : Int.tdiv r3 10 = r3 / 10 := Int.tdiv_eq_ediv_of_nonneg g3
    obtain ⟨q, hqe, hq0, hq3⟩ : ∃ q : Int, r3 / 10 * (1 + r4) = q ∧ 0 ≤ q ∧ q < 3 := by
      have : r3 / 10 = 0 ∨ r3 / 10 = 1 := by omega
      have h4 : r4 = 0 ∨ r4 = 1 := by omega
      rcases this with e | e <;> rcases h4 with e' | e' <;> rw [e, e'] <;> exact ⟨_, rfl, by omega, by omega⟩
    have hp := pick3 (r2 - 10) q hq0 hq3 (by omega) (by omega)
    obtain ⟨new, a', s', hev, hr, hlen, hst⟩ := ih (lo + r1 + 1) a4 s4 (m + 4) (acc ++ [⟨lo + r1, rd [r2 - 10, 1000000, -1000000] q⟩]) (by omega) (by omega) (by omega) (by rw [List.length_append]; simp; omega) (by have := t4; rw [show m + 1 + 1 + 1 + 1 = m + 4 by omega] at this; exact this) (by omega)
    refine ⟨⟨lo + r1, rd [r2 - 10, 1000000, -1000000] q⟩ :: new, a', s', ?_, ?_, by simp [hlen], ?_⟩
    · rw [List.append_cons]
      refine Ev.step (fun k => ?_) hev
      simp only [spec_l00Src_samples.l0]
      rw [if_pos (by omega), e1]
      simp only [Option.bind_some, e2, e3, e4]
      rw [w64 (n := r2 - 10) (by omega) (by omega), hq, w64 (n := r3 / 10) (by omega) (by omega), w64 (n := 1 + r4) (by omega) (by omega), hqe, w64 (n := q) (by omega) (by omega), if_pos hq0, if_pos (by simp; omega), if_pos (by omega), w64 (n := lo + r1) (by omega) (by omega), w64 (n := lo + r1 + 1) (by omega) (by omega), w64 (by omega) (by omega)]
      rw [show ((d + 1 : Nat) : Int) - 1 = (d : Int) by omega]
    · refine rise_cons _ _ _ _ ?_ ?_ hp.1 hp.2 ?_
      · show lo ≤ lo + r1; omega
      · show lo + r1 < _; omega
      · refine ⟨hr.1, fun x hx => ?_⟩
        have := hr.2 x hx
        exact ⟨this.1, by omega, this.2.2⟩
    · rw [show m + 4 * ((d + 1 : Nat) : Int) = m + 4 + 4 * (d : Int) by omega]; exact hst
theorem samples_ok (l : List Int) (h : Bytes l) (lo a s m n : Int) (hn : 0 ≤ n) (hn2 : n ≤ 100) (hlo : 0 ≤ lo) (hlo2 : lo ≤ 1000000) (hs : St a s m) (hm : m < 100000000) :
    ∃ new a' s', Ev (fun k => spec_l00Src_samples.f k l a s lo n) (new, a', s') ∧ Rise lo (lo + 4 * n) new ∧ (new.length : Int) ≤ n ∧ St a' s' (m + 1 + 4 * n) := by
  obtain ⟨r, a1, s1, e, g1, g2, t⟩ := next_ok l h a s m (n + 1) hs (by omega) (by omega) (by omega)
  obtain ⟨d, rfl⟩ := Int.eq_ofNat_of_zero_le g1
  obtain ⟨new, a', s', hev, hr, hlen, hst⟩ := samples_loop l h d lo a1 s1 (m + 1) [] (by omega) hlo (by omega) (by simp) t (by omega)
  refine ⟨new, a', s', ?_, ⟨hr.1, fun x hx => by have := hr.2 x hx; exact ⟨this.1, by omega, this.2.2⟩⟩, by omega, ⟨hst.1, by have := hst.2.1; omega, hst.2.2⟩⟩
  unfold spec_l00Src_samples.f
  rw [w64 (n := n + 1) (by omega) (by omega), e]
  exact hev
theorem samplesOf_ok (l : List Int) (h : Bytes l) (lo n : Int) (hn : 0 ≤ n) (hn2 : n ≤ 100) (hlo : 0 ≤ lo) (hlo2 : lo ≤ 1000000) :
    ∃ new, Ev (fun k => spec_SamplesOf.f k l lo n) new ∧ Rise lo (lo + 4 * n) new ∧ (new.length : Int) ≤ n := by
  obtain ⟨new, a', s', hev, hr, hlen, _⟩ := samples_ok l h lo 0 ((l.length : Int) % 1000) 0 n hn hn2 hlo hlo2 ⟨by omega, by omega, by omega, by omega⟩ (by omega)
  refine ⟨new, ?_, hr, hlen⟩
  unfold spec_SamplesOf.f spec_l00Source.f
  simp only [Option.bind_some]
  exact Ev.bind hev (Ev.now _)
/-! ### the law -/
theorem inR_split (a b c : Int) (hab : a ≤ b) (hbc : b ≤ c) (l : List Smp) (h : l.Pairwise (fun x y => x.f0 < y.f0)) : inR a c l = inR a b l ++ inR b c l := by
  induction l with
  | nil => rfl
  | cons s l ih =>
    have ih' := ih (List.pairwise_cons.1 h).2
    have hlt := (List.pairwise_cons.1 h).1
    unfold inR at ih' ⊢
    by_cases c1 : a ≤ s.f0 ∧ s.f0 ≤ b - 1
    · rw [List.filter_cons_of_pos (by simp; omega), List.filter_cons_of_pos (by simpa using c1), List.filter_cons_of_neg (by simp; omega), ih']; rfl
    · by_cases c2 : b ≤ s.f0 ∧ s.f0 ≤ c - 1
      · have e : l.filter (fun s => decide (a ≤ s.f0 ∧ s.f0 ≤ b - 1)) = [] := by
          rw [List.filter_eq_nil_iff]; intro x hx; have := hlt x hx; simp; omega
        rw [List.filter_cons_of_pos (by simp; omega), List.filter_cons_of_neg (by simpa using c1), List.filter_cons_of_pos (by simpa using c2), ih', e]; rfl
      · rw [List.filter_cons_of_neg (by simp; omega), List.filter_cons_of_neg (by simpa using c1), List.filter_cons_of_neg (by simpa using c2), ih']
theorem agg_z (l : List Int) (h : (agg l).1 = 0) : agg l = zag := by
  rw [agg_fst] at h
  rw [List.eq_nil_of_length_eq_zero (show l.length = 0 by omega)]; rfl
theorem toAg_ofAg (a : Ag) : toAg (ofAg a) = a := rfl
theorem mrgs_append (P : List Bkt) (a : Int) (l : List Smp) (m : List Smp) (hP : mrgs P = agg (vals m)) : mrgs (P ++ bktOf a l) = agg (vals (m ++ l)) := by
  unfold vals at hP ⊢
  rw [List.map_append, agg_append, ← hP]
  unfold bktOf
  by_cases h : l = []
  · rw [if_pos h, h]
    show _ = mrg (mrgs P) zag
    rw [List.append_nil, mrg_zag_r _ (by rw [hP]; exact agg_z _)]
  · rw [if_neg h]; unfold mrgs; rw [List.foldl_append]; rfl
theorem small_gen (l : List Bkt) (h : ∀ b ∈ l, AgR (toAg b.f1) ∧ b.f1.f0 ≤ 1000) : ∀ (g : Ag) (n : Int), 0 ≤ g.1 →
    let g' := l.foldl (fun a b => mrg a (toAg b.f1)) g
    (0 ≤ g'.1 ∧ g'.1 ≤ g.1 + 1000 * l.length) ∧ (g'.2.1 ≤ (if 0 ≤ g.2.1 then g.2.1 else -g.2.1) + 1000000000 * l.length ∧ -((if 0 ≤ g.2.1 then g.2.1 else -g.2.1) + 1000000000 * l.length) ≤ g'.2.1) ∧ n ≤ l.foldl (fun n b => n + b.f1.f0) n ∧ l.foldl (fun n b => n + b.f1.f0) n ≤ n + 1000 * l.length := by
  induction l with
  | nil => intro g n hg; simp; omega
  | cons b l ih =>
    intro g n hg
    obtain ⟨hb, hb2⟩ := h b List.mem_cons_self
    have hb1 : 1 ≤ b.f1.f0 := hb.1
    have hs := agR_sum _ hb 1000 hb2
    have hs' : -1000000000 ≤ b.f1.f1 ∧ b.f1.f1 ≤ 1000000000 := hs
    have hf := mrg_fst g (toAg b.f1)
    have hf' : (mrg g (toAg b.f1)).1 = g.1 + b.f1.f0 := hf
    have hsum : (mrg g (toAg b.f1)).2.1 = (if g.1 = 0 then b.f1.f1 else g.2.1 + b.f1.f1) := by
      unfold mrg
      by_cases h0 : g.1 = 0
      · rw [if_pos h0, if_pos h0]; rfl
      · rw [if_neg h0, if_neg h0, if_neg (by show ¬ b.f1.f0 = 0; omega)]; rfl
    have := ih (fun b hb => h b (List.mem_cons_of_mem _ hb)) (mrg g (toAg b.f1)) (n + b.f1.f0) (by omega)
    simp only [List.foldl_cons, List.length_cons] at this ⊢
    rw [hf', hsum] at this
    split at this <;> split at this <;> split <;> omega
theorem small_of (l : List Bkt) (hl : l.length ≤ 8) (h : ∀ b ∈ l, AgR (toAg b.f1) ∧ b.f1.f0 ≤ 1000) : Small l := by
  intro i hi
  have := small_gen (l.take i) (fun b hb => h b (List.mem_of_mem_take hb)) zag 0 (by simp [zag])
  rw [List.length_take] at this
  simp only [zag] at this
  unfold mrgs cnts zag
  simp only [Int.le_refl, if_true] at this
  omega
theorem bktOf_mem (a : Int) (l : List Smp) (b : Bkt) (hb : b ∈ bktOf a l) : b.f0 = a ∧ l ≠ [] ∧ b.f1 = ofAg (agg (vals l)) := by
  unfold bktOf at hb
  by_cases h : l = []
  · rw [if_pos h] at hb; simp at hb
  · rw [if_neg h] at hb
    have := List.mem_singleton.1 hb
    subst this
    exact ⟨rfl, h, rfl⟩
theorem bktOf_len (a : Int) (l : List Smp) : (bktOf a l).length ≤ 1 := by
  unfold bktOf; split <;> simp
/-- The first i windows' buckets. -/
def parts (a : Int) (l : List Smp) : Nat → List Bkt
  | 0 => []
  | i + 1 => parts a l i ++ bktOf (a + 5 * i) (inR (a + 5 * i) (a + 5 * i + 5) l)
theorem parts_ok (a : Int) (h0 : 0 ≤ a) (ha : a ≤ 1000) (l : List Smp) (h : Gs l) (hl : l.length ≤ 1000) : ∀ i : Nat, i ≤ 4 → mrgs (parts a l i) = agg (vals (inR a (a + 5 * i) l)) ∧ Gb (parts a l i) ∧ (parts a l i).length ≤ i ∧ ∀ b ∈ parts a l i, a ≤ b.f0 ∧ b.f0 ≤ a + 5 * i - 1 ∧ b.f1.f0 ≤ 1000 := by
  intro i
  induction i with
  | zero =>
    intro _
    refine ⟨?_, ⟨List.Pairwise.nil, fun b hb => by simp [parts] at hb⟩, by simp [parts], fun b hb => by simp [parts] at hb⟩
    have e : inR a (a + 5 * (0 : Nat)) l = [] := by
      unfold inR; rw [List.filter_eq_nil_iff]; intro x _; simp; omega
    rw [e]; rfl
  | succ i ih =>
    intro hi
    obtain ⟨i1, i2, i3, i4⟩ := ih (by omega)
    have hsub : ∀ s ∈ inR (a + 5 * i) (a + 5 * i + 5) l, -1000000 ≤ s.f1 ∧ s.f1 ≤ 1000000 := fun s hs => by have := h.2 s (List.mem_filter.1 hs).1; omega
    have hlen : (inR (a + 5 * i) (a + 5 * i + 5) l).length ≤ 1000 := Nat.le_trans (List.length_filter_le _ _) hl
    have hbk : ∀ b ∈ bktOf (a + 5 * i) (inR (a + 5 * i) (a + 5 * i + 5) l), b.f0 = a + 5 * i ∧ AgR (toAg b.f1) ∧ b.f1.f0 ≤ 1000 := by
      intro b hb
      obtain ⟨b1, b2, b3⟩ := bktOf_mem _ _ _ hb
      refine ⟨b1, ?_, ?_⟩
      · rw [b3, toAg_ofAg]; exact agR_agg _ (vals_bound hsub) (by unfold vals; simpa using b2)
      · rw [b3]; show (agg _).1 ≤ 1000; rw [agg_fst, vals_length]; omega
    refine ⟨?_, ⟨?_, ?_⟩, ?_, ?_⟩
    · show mrgs (parts a l i ++ _) = _
      rw [mrgs_append _ _ _ _ i1, show a + 5 * ((i + 1 : Nat) : Int) = a + 5 * i + 5 by omega, ← inR_split _ _ _ (by omega) (by omega) l h.1]
    · show List.Pairwise _ (parts a l i ++ _)
      rw [List.pairwise_append]
      refine ⟨i2.1, ?_, fun x hx y hy => ?_⟩
      · unfold bktOf; split <;> simp
      · have := i4 x hx; have := hbk y hy; omega
    · intro b hb
      rcases List.mem_append.1 hb with hb | hb
      · exact i2.2 b hb
      · obtain ⟨b1, b2, b3⟩ := hbk b hb
        exact ⟨by omega, by omega, b2, by omega⟩
    · show (parts a l i ++ _).length ≤ _
      rw [List.length_append]; have := bktOf_len (a + 5 * i) (inR (a + 5 * i) (a + 5 * i + 5) l); omega
    · intro b hb
      rcases List.mem_append.1 hb with hb | hb
      · have := i4 b hb; omega
      · obtain ⟨b1, b2, b3⟩ := hbk b hb; omega
theorem law_loop (l : List Smp) (h : Gs l) (hl : l.length ≤ 1000) (a : Int) (h0 : 0 ≤ a) (ha : a ≤ 1000) : ∀ d i : Nat, 4 - i = d → i ≤ 4 → Ev (fun k => laws_FnDown.l0 k l a (parts a l i) (i : Int)) true := by
  intro d
  induction d with
  | zero =>
    intro i hd hi
    obtain rfl : i = 4 := by omega
    obtain ⟨i1, i2, i3, i4⟩ := parts_ok a h0 ha l h hl 4 (by omega)
    have hin : ∀ x ∈ parts a l 4, a ≤ x.f0 ∧ x.f0 ≤ a + 20 - 1 := fun x hx => by have := i4 x hx; omega
    have hsm := small_of (parts a l 4) (by omega) (fun b hb => ⟨(i2.2 b hb).2.2.1, (i4 b hb).2.2⟩)
    have hfold := foldRange_ev (parts a l 4) a (a + 20) h0 (by omega) (by omega) i2 (by omega) hin hsm
    have e20 : a + 5 * ((4 : Nat) : Int) = a + 20 := by omega
    rw [e20] at i1
    refine Ev.step (f := fun k => (impl_RollUp.f k (parts a l 4) a (a + 20)).bind fun bt353 => ((impl_Downsample.f k l a (a + 20)).bind fun bt357 => ((impl_FoldRange.f k (parts a l 4) a (a + 20)).bind fun bt361 => ((impl_ModelFold.f k l a (a + 20)).bind fun bt369 => (if bt353.2 = 0 then (if bt357.2 = 0 then ((laws_sameBuckets.f k bt353.1 bt357.1).bind fun t377 => (if t377 = true then (if bt361.2.2.2.2.2.2 = 0 then (if bt369.2.2.2.2.2.2 = 0 then (some (bt361.1 == bt369.1 && (bt361.2.1 == bt369.2.1 && (bt361.2.2.1 == bt369.2.2.1 && (bt361.2.2.2.1 == bt369.2.2.2.1 && (bt361.2.2.2.2.1 == bt369.2.2.2.2.1 && (bt361.2.2.2.2.2.1 == bt369.2.2.2.2.2.1))))))) else (some false)) else (some false)) else (some false))) else (some false)) else (some false)))))) (fun k => ?_) ?_
    · simp only [laws_FnDown.l0]
      rw [if_neg (by omega), w64 (n := a + 20) (by omega) (by omega)]
    · have hroll : Ev (fun k => impl_RollUp.f k (parts a l 4) a (a + 20)) (bktOf a (inR a (a + 20) l), 0) := by
        unfold impl_RollUp.f
        refine Ev.bind hfold ?_
        simp only [if_true]
        rw [bucketOf_eq a (inR a (a + 20) l) (mrgs (parts a l 4)) i1]
        exact Ev.now _
      refine Ev.bind hroll ?_
      refine Ev.bind (down_ev l h (by omega) a (a + 20) h0 (by omega) (by omega)) ?_
      refine Ev.bind hfold ?_
      refine Ev.bind (modelFold_ev l h (by omega) a (a + 20) h0 (by omega) (by omega)) ?_
      simp only [if_true]
      refine Ev.bind (same_ev _ (by have := bktOf_len a (inR a (a + 20) l); omega)) ?_
      rw [i1]
      simp only [if_true, beq_self_eq_true, Bool.and_self]
      exact Ev.now _
  | succ d ih =>
    intro i hd hi
    obtain ⟨i1, i2, i3, i4⟩ := parts_ok a h0 ha l h hl i (by omega)
    refine Ev.step (f := fun k => (impl_Downsample.f k l (a + 5 * i) (a + 5 * i + 5)).bind fun bt341 => ((spec_Downsample.f k l (a + 5 * i) (a + 5 * i + 5)).bind fun bt345 => (if bt341.2 = 0 then ((laws_sameBuckets.f k bt341.1 bt345.1).bind fun t349 => (if t349 = true then (if (parts a l i).length + bt341.1.length < 2513169434916 then (laws_FnDown.l0 k l a (parts a l i ++ bt341.1) ((i + 1 : Nat) : Int)) else (none)) else (some false))) else (some false)))) (fun k => ?_) ?_
    · simp only [laws_FnDown.l0]
      rw [if_pos (by omega), w64 (n := 5 * (i : Int)) (by omega) (by omega), w64 (n := a + 5 * (i : Int)) (by omega) (by omega), w64 (n := a + 5 * (i : Int) + 5) (by omega) (by omega), w64 (n := (i : Int) + 1) (by omega) (by omega)]; rfl
    · refine Ev.bind (down_ev l h (by omega) (a + 5 * i) (a + 5 * i + 5) (by omega) (by omega) (by omega)) ?_
      refine Ev.bind (sdown_ev l h (by omega) (a + 5 * i) (a + 5 * i + 5) (by omega) (by omega) (by omega)) ?_
      have hb := bktOf_len (a + 5 * i) (inR (a + 5 * i) (a + 5 * i + 5) l)
      simp only [if_true]
      refine Ev.bind (same_ev _ (by omega)) ?_
      simp only [if_true]
      simp only [if_pos (show (parts a l i).length + (bktOf (a + 5 * i) (inR (a + 5 * i) (a + 5 * i + 5) l)).length < 2513169434916 by omega)]
      exact ih (i + 1) (by omega) (by omega)
theorem FnDown : laws_FnDown.Pure := by
  intro l0 l1 _ _ hw0 _ _ hw1
  refine Ev.rounds ?_
  have hb0 := bytes_of_wf l0 hw0
  have hb1 := bytes_of_wf l1 hw1
  by_cases c0 : (l0.length : Int) > 1048576
  · refine Ev.congr (f := fun k => laws_FnDown.j0 k l0 l1 true) (fun k => by unfold laws_FnDown.f; rw [if_pos c0]) ?_
    exact Ev.step (f := fun _ => some true) (fun k => by simp [laws_FnDown.j0]) (Ev.now _)
  · by_cases c1 : (l1.length : Int) > 1048576
    · refine Ev.congr (f := fun k => laws_FnDown.j0 k l0 l1 true) (fun k => by unfold laws_FnDown.f; rw [if_neg c0, decide_eq_true c1]) ?_
      exact Ev.step (f := fun _ => some true) (fun k => by simp [laws_FnDown.j0]) (Ev.now _)
    · refine Ev.congr (f := fun k => laws_FnDown.j0 k l0 l1 false) (fun k => by unfold laws_FnDown.f; rw [if_neg c0, decide_eq_false c1]) ?_
      obtain ⟨m0, e0, r0, n0⟩ := samplesOf_ok l0 hb0 0 5 (by omega) (by omega) (by omega) (by omega)
      obtain ⟨m1, e1, r1, n1⟩ := samplesOf_ok l1 hb1 20 5 (by omega) (by omega) (by omega) (by omega)
      obtain ⟨t, e2, t1, t2⟩ := at_ok l1 hb1 (by omega) 0 2 (by omega) (by omega) (by omega) (by omega)
      have hg : Gs (m0 ++ m1) := by
        refine ⟨List.pairwise_append.2 ⟨r0.1, r1.1, fun x hx y hy => ?_⟩, fun s hs => ?_⟩
        · have := r0.2 x hx; have := r1.2 y hy; omega
        · rcases List.mem_append.1 hs with hs | hs
          · have := r0.2 s hs; omega
          · have := r1.2 s hs; omega
      refine Ev.step (f := fun k => (spec_SamplesOf.f k l0 0 5).bind fun t328 => ((spec_SamplesOf.f k l1 20 5).bind fun t331 => (if t328.length + t331.length < 8796093022208 then ((laws_at.f l1 0 2).bind fun t337 => (laws_FnDown.l0 k (t328 ++ t331) (wrap64 (20 * t337)) [] 0)) else (none)))) (fun k => by simp [laws_FnDown.j0]) ?_
      refine Ev.bind e0 ?_
      refine Ev.bind e1 ?_
      simp only [if_pos (show m0.length + m1.length < 8796093022208 by omega), e2, Option.bind_some]
      rw [w64 (n := 20 * t) (by omega) (by omega)]
      exact law_loop (m0 ++ m1) hg (by rw [List.length_append]; omega) (20 * t) (by omega) (by omega) _ 0 rfl (by omega)
end Go.Proofs.Ytammbicoegggcaa.Pure
