/- The law's plain proof: no program in sight; this session's own text. -/
import Derived.Test.YtmhbkgbgajpahaaGreatDoorPFnWindowx10
namespace Go.Proofs.YtmhbkgbgajpahaaGreatDoor.Pure
open Go.RowKit Go.Proofs.YtmhbkgbgajpahaaGreatDoor.PFnWindow Go.Proofs.YtmhbkgbgajpahaaGreatDoorW.PrintWords Go.Proofs.YtmhbkgbgajpahaaGreatDoorW.PrintLast Go.Proofs.YtmhbkgbgajpahaaGreatDoorW.PrintMore
set_option linter.unusedVariables false
theorem w64 {n : Int} (h1 : -9223372036854775808 ≤ n) (h2 : n ≤ 9223372036854775807) : wrap64 n = n := by unfold wrap64; omega
theorem ite_and_some (a b : Prop) [Decidable a] [Decidable b] : (if a then some (decide b) else some false) = some (decide (a ∧ b)) := by
  by_cases ha : a <;> by_cases hb : b <;> simp [ha, hb]

abbrev Ag := Int × Int × Int × Int × Int × Int
def zag : Ag := (0, 0, 0, 0, 0, 0)
def one (v : Int) : Ag := (1, v, v, v, v, v)
def mrg (a b : Ag) : Ag :=
  if a.1 = 0 then b else if b.1 = 0 then a else (a.1 + b.1, a.2.1 + b.2.1, mn a.2.2.1 b.2.2.1, mx a.2.2.2.1 b.2.2.2.1, a.2.2.2.2.1, b.2.2.2.2.2)
def agg (l : List Int) : Ag := l.foldl (fun a v => mrg a (one v)) zag
/-- Of nothing, or with what a right one has. -/
def AgR (a : Ag) : Prop := 1 ≤ a.1 ∧ -1000000 ≤ a.2.2.1 ∧ a.2.2.2.1 ≤ 1000000 ∧ a.2.2.1 ≤ a.2.2.2.2.1 ∧ a.2.2.2.2.1 ≤ a.2.2.2.1 ∧ a.2.2.1 ≤ a.2.2.2.2.2 ∧ a.2.2.2.2.2 ≤ a.2.2.2.1 ∧ a.1 * a.2.2.1 ≤ a.2.1 ∧ a.2.1 ≤ a.1 * a.2.2.2.1
theorem mrg_zag_l (a : Ag) : mrg zag a = a := by simp [mrg, zag]
theorem mrg_zag_r (a : Ag) (hz : a.1 = 0 → a = zag) : mrg a zag = a := by
  unfold mrg
  by_cases h0 : a.1 = 0
  · rw [if_pos h0, hz h0]
  · rw [if_neg h0, if_pos (by rfl)]
theorem mn_assoc (a b c : Int) : mn (mn a b) c = mn a (mn b c) := by unfold mn; repeat' split <;> omega
theorem mx_assoc (a b c : Int) : mx (mx a b) c = mx a (mx b c) := by unfold mx; repeat' split <;> omega
theorem mrg_fst (a b : Ag) : (mrg a b).1 = a.1 + b.1 := by
  unfold mrg
  by_cases h0 : a.1 = 0
  · rw [if_pos h0]; omega
  · rw [if_neg h0]
    by_cases h1 : b.1 = 0
    · rw [if_pos h1]; omega
    · rw [if_neg h1]
theorem mrg_assoc (a b c : Ag) (ha : 0 ≤ a.1) (hb : 0 ≤ b.1) (hc : 0 ≤ c.1) : mrg (mrg a b) c = mrg a (mrg b c) := by
  by_cases h0 : a.1 = 0
  · have e1 : mrg a b = b := by simp [mrg, h0]
    have e2 : mrg a (mrg b c) = mrg b c := by simp [mrg, h0]
    rw [e1, e2]
  · by_cases h1 : b.1 = 0
    · have e1 : mrg a b = a := by simp [mrg, h0, h1]
      have e2 : mrg b c = c := by simp [mrg, h1]
      rw [e1, e2]
    · by_cases h2 : c.1 = 0
      · have e1 : mrg b c = b := by simp [mrg, h1, h2]
        have e2 : mrg (mrg a b) c = mrg a b := by
          have := mrg_fst a b
          unfold mrg at this ⊢
          simp only [if_neg h0, if_neg h1, if_pos h2] at this ⊢
          rw [if_neg (by omega)]
        rw [e1, e2]
      · unfold mrg
        simp only [if_neg h0, if_neg h1, if_neg h2]
        rw [if_neg (show ¬ a.1 + b.1 = 0 by omega), if_neg (show ¬ b.1 + c.1 = 0 by omega)]
        simp only [mn_assoc, mx_assoc, Prod.mk.injEq, and_true]
        omega
theorem one_fst (v : Int) : (one v).1 = 1 := rfl
theorem fold_fst (l : List Int) : ∀ a : Ag, 0 ≤ a.1 → (l.foldl (fun a v => mrg a (one v)) a).1 = a.1 + l.length := by
  induction l with
  | nil => intro a _; simp
  | cons v l ih =>
    intro a ha
    have h1 := mrg_fst a (one v)
    rw [one_fst] at h1
    rw [List.foldl_cons, ih _ (by omega), h1, List.length_cons]
    omega
theorem agg_fst (l : List Int) : (agg l).1 = l.length := by
  have := fold_fst l zag (by simp [zag])
  unfold agg
  rw [this]
  simp [zag]
theorem fold_agg (l : List Int) : ∀ a : Ag, 0 ≤ a.1 → (a.1 = 0 → a = zag) → l.foldl (fun a v => mrg a (one v)) a = mrg a (agg l) := by
  induction l with
  | nil => intro a ha hz; exact (mrg_zag_r a hz).symm
  | cons v l ih =>
    intro a ha hz
    have h1 := mrg_fst a (one v)
    rw [one_fst] at h1
    have e1 : agg (v :: l) = mrg (one v) (agg l) := by
      have := ih (mrg zag (one v)) (by rw [mrg_zag_l, one_fst]; omega) (by rw [mrg_zag_l, one_fst]; intro h; omega)
      rw [mrg_zag_l] at this
      unfold agg at this ⊢
      rw [List.foldl_cons, mrg_zag_l]
      exact this
    rw [List.foldl_cons, ih _ (by omega) (by intro h; omega), e1, mrg_assoc _ _ _ ha (by rw [one_fst]; omega) (by rw [agg_fst]; omega)]
theorem agg_nil : agg [] = zag := rfl
theorem agg_append (l m : List Int) : agg (l ++ m) = mrg (agg l) (agg m) := by
  have h := fold_agg m (agg l) (by rw [agg_fst]; omega) (by
    intro h; rw [agg_fst] at h
    have : l = [] := List.eq_nil_of_length_eq_zero (by omega)
    rw [this]; rfl)
  unfold agg at h ⊢
  rw [List.foldl_append]
  exact h
theorem agg_snoc (l : List Int) (v : Int) : agg (l ++ [v]) = mrg (agg l) (one v) := by
  rw [agg_append]; congr 1
theorem agR_one (v : Int) (h1 : -1000000 ≤ v) (h2 : v ≤ 1000000) : AgR (one v) := by
  refine ⟨by simp [one], ?_, ?_, ?_, ?_, ?_, ?_, ?_, ?_⟩ <;> simp [one] <;> omega
theorem agR_mrg (a b : Ag) (ha : AgR a) (hb : AgR b) : AgR (mrg a b) := by
  obtain ⟨a1, a2, a3, a4, a5, a6, a7, a8, a9⟩ := ha
  obtain ⟨b1, b2, b3, b4, b5, b6, b7, b8, b9⟩ := hb
  have e : mrg a b = (a.1 + b.1, a.2.1 + b.2.1, mn a.2.2.1 b.2.2.1, mx a.2.2.2.1 b.2.2.2.1, a.2.2.2.2.1, b.2.2.2.2.2) := by
    unfold mrg; rw [if_neg (by omega), if_neg (by omega)]
  have m1 : mn a.2.2.1 b.2.2.1 ≤ a.2.2.1 ∧ mn a.2.2.1 b.2.2.1 ≤ b.2.2.1 ∧ -1000000 ≤ mn a.2.2.1 b.2.2.1 := by unfold mn; split <;> omega
  have m2 : a.2.2.2.1 ≤ mx a.2.2.2.1 b.2.2.2.1 ∧ b.2.2.2.1 ≤ mx a.2.2.2.1 b.2.2.2.1 ∧ mx a.2.2.2.1 b.2.2.2.1 ≤ 1000000 := by unfold mx; split <;> omega
  rw [e]
  have p1 : a.1 * mn a.2.2.1 b.2.2.1 ≤ a.1 * a.2.2.1 := Int.mul_le_mul_of_nonneg_left m1.1 (by omega)
  have p2 : b.1 * mn a.2.2.1 b.2.2.1 ≤ b.1 * b.2.2.1 := Int.mul_le_mul_of_nonneg_left m1.2.1 (by omega)
  have p3 : a.1 * a.2.2.2.1 ≤ a.1 * mx a.2.2.2.1 b.2.2.2.1 := Int.mul_le_mul_of_nonneg_left m2.1 (by omega)
  have p4 : b.1 * b.2.2.2.1 ≤ b.1 * mx a.2.2.2.1 b.2.2.2.1 := Int.mul_le_mul_of_nonneg_left m2.2.1 (by omega)
  refine ⟨by show 1 ≤ a.1 + b.1; omega, m1.2.2, m2.2.2, ?_, ?_, ?_, ?_, ?_, ?_⟩
  · exact Int.le_trans m1.1 a4
  · exact Int.le_trans a5 m2.1
  · exact Int.le_trans m1.2.1 b6
  · exact Int.le_trans b7 m2.2.1
  · show (a.1 + b.1) * mn a.2.2.1 b.2.2.1 ≤ a.2.1 + b.2.1
    rw [Int.add_mul]; omega
  · show a.2.1 + b.2.1 ≤ (a.1 + b.1) * mx a.2.2.2.1 b.2.2.2.1
    rw [Int.add_mul]; omega
theorem agR_agg (l : List Int) (h : ∀ v ∈ l, -1000000 ≤ v ∧ v ≤ 1000000) (hn : l ≠ []) : AgR (agg l) := by
  induction l with
  | nil => exact absurd rfl hn
  | cons v l ih =>
    have h1 := agR_one v (h v List.mem_cons_self).1 (h v List.mem_cons_self).2
    have e : agg (v :: l) = mrg (one v) (agg l) := by
      rw [show v :: l = [v] ++ l from rfl, agg_append]; congr 1
    rw [e]
    by_cases hl : l = []
    · subst hl; rw [agg_nil, mrg_zag_r _ (by rw [one_fst]; intro h; omega)]; exact h1
    · exact agR_mrg _ _ h1 (ih (fun v hv => h v (List.mem_cons_of_mem _ hv)) hl)
/-- The sum's bound. -/
theorem agR_sum (a : Ag) (h : AgR a) (n : Int) (hn : a.1 ≤ n) : -(n * 1000000) ≤ a.2.1 ∧ a.2.1 ≤ n * 1000000 := by
  obtain ⟨a1, a2, a3, a4, a5, a6, a7, a8, a9⟩ := h
  have p1 : a.1 * (-1000000) ≤ a.1 * a.2.2.1 := Int.mul_le_mul_of_nonneg_left a2 (by omega)
  have p2 : a.1 * a.2.2.2.1 ≤ a.1 * 1000000 := Int.mul_le_mul_of_nonneg_left a3 (by omega)
  omega
abbrev Smp := S62
theorem rdS_at (l : List Smp) (i : Nat) (h : i < l.length) : rd_T62 l (i : Int) = l[i] := by
  simp [rd_T62, List.getD_eq_getElem?_getD, List.getElem?_eq_getElem h]
/-- Right samples: their times rise. -/
def Gs (l : List Smp) : Prop := l.Pairwise (fun a b => a.f0 < b.f0) ∧ ∀ s ∈ l, 0 ≤ s.f0 ∧ s.f0 ≤ 99999 ∧ -1000000 ≤ s.f1 ∧ s.f1 ≤ 1000000
theorem within_eq (a b c : Int) : impl_within.f a b c = some (decide (b ≤ a ∧ a ≤ c)) := by unfold impl_within.f; exact ite_and_some _ _
theorem moment_eq (a : Int) : impl_isMoment.f a = some (decide (0 ≤ a ∧ a ≤ 99999)) := by unfold impl_isMoment.f; rw [within_eq]; rfl
theorem value_eq (a : Int) : impl_isValue.f a = some (decide (-1000000 ≤ a ∧ a ≤ 1000000)) := by unfold impl_isValue.f; rw [within_eq]; rfl
theorem isRange_eq (a b : Int) : impl_isRange.f a b = some (decide (0 ≤ a ∧ a ≤ b ∧ b ≤ 100000)) := by
  unfold impl_isRange.f
  by_cases h1 : 0 ≤ a <;> by_cases h2 : a ≤ b <;> by_cases h3 : b ≤ 100000 <;> simp [h1, h2, h3]
theorem Gs.lt {l : List Smp} (h : Gs l) {i j : Nat} (hij : i < j) (hj : j < l.length) : (l[i]'(by omega)).f0 < l[j].f0 :=
  (List.pairwise_iff_getElem.1 h.1) i j (by omega) hj hij

theorem sok_loop (l : List Smp) (h : Gs l) (hl : l.length ≤ 4096) : ∀ d i : Nat, l.length - i = d → i ≤ l.length → Ev (fun k => impl_SamplesOK.l0 k l l (l.length : Int) (i : Int)) true := by
  intro d
  induction d with
  | zero =>
    intro i hd hi
    refine Ev.step (f := fun _ => some true) (fun k => ?_) (Ev.now _)
    simp only [impl_SamplesOK.l0]; rw [if_neg (by omega)]
  | succ d ih =>
    intro i hd hi
    have hlt : i < l.length := by omega
    have ih' := ih (i + 1) (by omega) (by omega)
    refine Ev.step (f := fun k => impl_SamplesOK.l0 k l l (l.length : Int) ((i + 1 : Nat) : Int)) (fun k => ?_) ih'
    have hs := h.2 l[i] (List.getElem_mem hlt)
    simp only [impl_SamplesOK.l0]
    rw [if_pos (by omega), if_pos (by omega), if_pos (by omega), rdS_at l i hlt, moment_eq, value_eq, decide_eq_true (show 0 ≤ l[i].f0 ∧ l[i].f0 ≤ 99999 by omega), decide_eq_true (show -1000000 ≤ l[i].f1 ∧ l[i].f1 ≤ 1000000 by omega)]
    simp only [Option.bind_some, if_true]
    rw [w64 (n := (i : Int) + 1) (by omega) (by omega)]
    by_cases hi0 : 0 < i
    · rw [if_pos (by omega), w64 (n := (i : Int) - 1) (by omega) (by omega), if_pos (by omega), if_pos (by omega)]
      rw [show ((i : Int) - 1) = ((i - 1 : Nat) : Int) by omega, rdS_at l (i - 1) (by omega)]
      have := h.lt (show i - 1 < i by omega) hlt
      rw [if_neg (by omega)]; rfl
    · rw [if_neg (by omega)]; rfl
theorem sok (l : List Smp) (h : Gs l) (hl : l.length ≤ 4096) : Ev (fun k => impl_SamplesOK.f k l) true := by
  unfold impl_SamplesOK.f impl_Sample.f
  simp only [Option.bind_some]
  rw [decide_eq_false (by omega)]
  exact sok_loop l h hl _ 0 rfl (by omega)
def vals (l : List Smp) : List Int := l.map (·.f1)
theorem merged_eq (a b : Ag) (h1 : a.1 + b.1 ≤ 9000000000000000000) (h2 : -9000000000000000000 ≤ a.1 + b.1) (h3 : a.2.1 + b.2.1 ≤ 9000000000000000000) (h4 : -9000000000000000000 ≤ a.2.1 + b.2.1) :
    impl_Agg_merged.f a.1 a.2.1 a.2.2.1 a.2.2.2.1 a.2.2.2.2.1 a.2.2.2.2.2 b.1 b.2.1 b.2.2.1 b.2.2.2.1 b.2.2.2.2.1 b.2.2.2.2.2 = some (mrg a b) := by
  unfold impl_Agg_merged.f mrg
  by_cases h0 : a.1 = 0
  · rw [if_pos h0, if_pos h0]
  · rw [if_neg h0, if_neg h0]
    by_cases h5 : b.1 = 0
    · rw [if_pos h5, if_pos h5]
    · rw [if_neg h5, if_neg h5, w64 (by omega) (by omega), w64 (by omega) (by omega)]
theorem agg_bound (l : List Int) (h : ∀ v ∈ l, -1000000 ≤ v ∧ v ≤ 1000000) : (agg l).1 = l.length ∧ -((l.length : Int) * 1000000) ≤ (agg l).2.1 ∧ (agg l).2.1 ≤ (l.length : Int) * 1000000 := by
  refine ⟨agg_fst l, ?_⟩
  by_cases hn : l = []
  · subst hn; simp [agg_nil, zag]
  · exact agR_sum _ (agR_agg l h hn) _ (by rw [agg_fst]; exact Int.le_refl _)
theorem vals_bound {l : List Smp} (h : ∀ s ∈ l, -1000000 ≤ s.f1 ∧ s.f1 ≤ 1000000) : ∀ v ∈ vals l, -1000000 ≤ v ∧ v ≤ 1000000 := by
  intro v hv
  obtain ⟨s, hs, rfl⟩ := List.mem_map.1 hv
  exact h s hs
theorem vals_length (l : List Smp) : (vals l).length = l.length := List.length_map ..
theorem take_succ (l : List Smp) (i : Nat) (h : i < l.length) : l.take (i + 1) = l.take i ++ [l[i]] := by
  rw [List.take_succ_eq_append_getElem h]
theorem aggOf_loop (l : List Smp) (h : ∀ s ∈ l, -1000000 ≤ s.f1 ∧ s.f1 ≤ 1000000) (hl : l.length ≤ 100000) : ∀ d i : Nat, l.length - i = d → i ≤ l.length → ∀ a : Ag, a = agg (vals (l.take i)) →
    Ev (fun k => impl_aggOf.l0 k l (l.length : Int) (i : Int) a.1 a.2.1 a.2.2.1 a.2.2.2.1 a.2.2.2.2.1 a.2.2.2.2.2) (agg (vals l)) := by
  intro d
  induction d with
  | zero =>
    intro i hd hi a ha
    refine Ev.step (f := fun _ => some (agg (vals l))) (fun k => ?_) (Ev.now _)
    simp only [impl_aggOf.l0]; rw [if_neg (by omega), ha, List.take_of_length_le (by omega)]
  | succ d ih =>
    intro i hd hi a ha
    have hlt : i < l.length := by omega
    have hs := h l[i] (List.getElem_mem hlt)
    have hb := agg_bound (vals (l.take i)) (vals_bound (fun s hs => h s (List.mem_of_mem_take hs)))
    rw [vals_length, List.length_take, ← ha] at hb
    have e : mrg a (one l[i].f1) = agg (vals (l.take (i + 1))) := by
      rw [take_succ l i hlt, ha]; unfold vals; rw [List.map_append]; exact (agg_snoc _ _).symm
    have ih' := ih (i + 1) (by omega) (by omega) _ e
    refine Ev.step (fun k => ?_) ih'
    simp only [impl_aggOf.l0]
    rw [if_pos (by omega), if_pos (by omega), if_pos (by omega), rdS_at l i hlt]
    rw [show impl_Agg_merged.f a.1 a.2.1 a.2.2.1 a.2.2.2.1 a.2.2.2.2.1 a.2.2.2.2.2 1 l[i].f1 l[i].f1 l[i].f1 l[i].f1 l[i].f1 = some (mrg a (one l[i].f1)) from merged_eq a (one l[i].f1) (by rw [one_fst]; omega) (by rw [one_fst]; omega) (by show a.2.1 + l[i].f1 ≤ _; omega) (by show _ ≤ a.2.1 + l[i].f1; omega)]
    simp only [Option.bind_some]
    rw [w64 (n := (i : Int) + 1) (by omega) (by omega)]; rfl
theorem aggOf_ev (l : List Smp) (h : ∀ s ∈ l, -1000000 ≤ s.f1 ∧ s.f1 ≤ 1000000) (hl : l.length ≤ 100000) : Ev (fun k => impl_aggOf.f k l) (agg (vals l)) := by
  have := aggOf_loop l h hl _ 0 rfl (by omega) zag (by simp [vals, agg_nil])
  exact this
def inR (a b : Int) (l : List Smp) : List Smp := l.filter (fun s => decide (a ≤ s.f0 ∧ s.f0 ≤ b - 1))
theorem samplesIn_loop (l : List Smp) (a b : Int) (hb0 : 0 ≤ b) (hb : b ≤ 1000000) (hl : l.length ≤ 100000) : ∀ d i : Nat, l.length - i = d → i ≤ l.length →
    Ev (fun k => impl_samplesIn.l0 k a b (inR a b (l.take i)) l (l.length : Int) (i : Int)) (inR a b l) := by
  intro d
  induction d with
  | zero =>
    intro i hd hi
    refine Ev.step (f := fun _ => some (inR a b l)) (fun k => ?_) (Ev.now _)
    simp only [impl_samplesIn.l0]; rw [if_neg (by omega), List.take_of_length_le (by omega)]
  | succ d ih =>
    intro i hd hi
    have hlt : i < l.length := by omega
    have ih' := ih (i + 1) (by omega) (by omega)
    refine Ev.step (fun k => ?_) ih'
    have hln : (inR a b (l.take i)).length ≤ 100000 := Nat.le_trans (List.length_filter_le _ _) (by rw [List.length_take]; omega)
    simp only [impl_samplesIn.l0]
    rw [if_pos (by omega), if_pos (by omega), if_pos (by omega), rdS_at l i hlt, w64 (n := b - 1) (by omega) (by omega), within_eq]
    simp only [Option.bind_some]
    rw [w64 (n := (i : Int) + 1) (by omega) (by omega), take_succ l i hlt]
    unfold inR at hln ⊢
    rw [List.filter_append]
    by_cases hc : a ≤ l[i].f0 ∧ l[i].f0 ≤ b - 1
    · rw [decide_eq_true hc, if_pos rfl, if_pos (by omega), List.filter_cons_of_pos (by simpa using hc)]; rfl
    · rw [decide_eq_false hc, if_neg (by simp), List.filter_cons_of_neg (by simpa using hc)]; simp
theorem samplesIn_ev (l : List Smp) (a b : Int) (hb0 : 0 ≤ b) (hb : b ≤ 1000000) (hl : l.length ≤ 100000) : Ev (fun k => impl_samplesIn.f k l a b) (inR a b l) := by
  exact samplesIn_loop l a b hb0 hb hl _ 0 rfl (by omega)
theorem first_eq (l : List AnyV) (h : l.length ≤ 1000) : impl_first.f l = some (firstV l) := if_pos h
def Bytes (l : List Int) : Prop := ∀ x ∈ l, 0 ≤ x ∧ x ≤ 255
theorem bytes_of_wf (l : List Int) (h : ∀ x ∈ l, (Lit.int .u8 x).wf = true) : Bytes l := by
  intro x hx
  have := h x hx
  simp [Lit.wf] at this
  first | exact this | (simp [IntKind.holds, IntKind.min, IntKind.max] at this; omega) | omega
theorem rd_bytes {l : List Int} (h : Bytes l) (i : Int) : 0 ≤ rd l i ∧ rd l i ≤ 255 := by
  unfold rd
  rw [List.getD_eq_getElem?_getD]
  rcases Nat.lt_or_ge i.toNat l.length with hi | hi
  · rw [List.getElem?_eq_getElem hi]; exact h _ (List.getElem_mem hi)
  · rw [List.getElem?_eq_none hi]; simp
/-- A source's state is sound. -/
def St (a s m : Int) : Prop := 0 ≤ a ∧ a ≤ m ∧ 0 ≤ s ∧ s < 2147483648
theorem byte_ok (l : List Int) (h : Bytes l) (a s m : Int) (hs : St a s m) (hm : m < 1000000000000) : ∃ r a' s', spec_l00Src_byte.f l a s = some (r, a', s') ∧ 0 ≤ r ∧ r ≤ 255 ∧ St a' s' (m + 1) := by
  obtain ⟨h1, h2, h3, h4⟩ := hs
  have hr := rd_bytes h a
  unfold spec_l00Src_byte.f St
  rw [if_pos ⟨by omega, by omega, by omega, by omega, by omega, by omega⟩]
  by_cases c1 : a < (l.length : Int)
  · rw [if_pos c1]; exact ⟨_, _, _, rfl, by omega, by omega, by omega, by omega, by omega, by omega⟩
  · rw [if_neg c1]
    by_cases c2 : a < 3000
    · rw [if_pos c2]; exact ⟨_, _, _, rfl, by omega, by omega, by omega, by omega, by omega, by omega⟩
    · rw [if_neg c2]; exact ⟨_, _, _, rfl, by omega, by omega, by omega, by omega, by omega, by omega⟩
theorem next_ok (l : List Int) (h : Bytes l) (a s m n : Int) (hs : St a s m) (hm : m < 1000000000) (hn : 1 ≤ n) (hn2 : n ≤ 256) : ∃ r a' s', spec_l00Src_next.f l a s n = some (r, a', s') ∧ 0 ≤ r ∧ r < n ∧ St a' s' (m + 1) := by
  unfold spec_l00Src_next.f
  by_cases c1 : n ≤ 1
  · rw [if_pos c1]; exact ⟨_, _, _, rfl, by omega, by omega, hs.1, by have := hs.2.1; omega, hs.2.2⟩
  · rw [if_neg c1, if_pos hn2]
    obtain ⟨r, a', s', e, r1, r2, hs'⟩ := byte_ok l h a s m hs (by omega)
    rw [e]
    simp only [Option.bind_some]
    rw [if_neg (by omega), Int.tmod_eq_emod_of_nonneg r1]
    exact ⟨_, _, _, rfl, Int.emod_nonneg _ (by omega), Int.emod_lt_of_pos _ (by omega), hs'⟩
theorem at_ok (l : List Int) (h : Bytes l) (hl : l.length ≤ 1048576) (a n : Int) (ha : 0 ≤ a) (ha2 : a ≤ 1000) (hn : 2 ≤ n) (hn2 : n ≤ 1000000) : ∃ r, laws_at.f l a n = some r ∧ 0 ≤ r ∧ r < n := by
  unfold laws_at.f
  rw [if_neg (by omega)]
  by_cases c1 : (l.length : Int) = 0
  · rw [if_pos c1, if_neg (by omega), w64 (n := a * 7) (by omega) (by omega), Int.tmod_eq_emod_of_nonneg (by omega)]
    exact ⟨_, rfl, Int.emod_nonneg _ (by omega), Int.emod_lt_of_pos _ (by omega)⟩
  · rw [if_neg c1, w64 (n := a + 1) (by omega) (by omega), Int.tmod_eq_emod_of_nonneg ha, Int.tmod_eq_emod_of_nonneg (show 0 ≤ a + 1 by omega)]
    have q1 := Int.emod_nonneg a c1
    have q2 := Int.emod_lt_of_pos a (show (0 : Int) < l.length by omega)
    have q3 := Int.emod_nonneg (a + 1) c1
    have q4 := Int.emod_lt_of_pos (a + 1) (show (0 : Int) < l.length by omega)
    have b1 := rd_bytes h (a % (l.length : Int))
    have b2 := rd_bytes h ((a + 1) % (l.length : Int))
    have b3 : 0 ≤ Int.tdiv a (l.length : Int) := Int.tdiv_nonneg ha (by omega)
    have b4 : Int.tdiv a (l.length : Int) ≤ a := by
      rw [Int.tdiv_eq_ediv_of_nonneg ha]; exact Int.ediv_le_self _ ha
    rw [if_pos q1, if_pos q2, if_pos q3, if_pos q4, if_neg (by omega)]
    generalize rd l (a % (l.length : Int)) = x at *
    generalize rd l ((a + 1) % (l.length : Int)) = y at *
    generalize Int.tdiv a (l.length : Int) = z at *
    rw [w64 (n := x) (by omega) (by omega), w64 (n := x * 31) (by omega) (by omega), w64 (n := y) (by omega) (by omega), w64 (n := x * 31 + y) (by omega) (by omega), w64 (n := z) (by omega) (by omega), w64 (by omega) (by omega), Int.tmod_eq_emod_of_nonneg (by omega)]
    exact ⟨_, rfl, Int.emod_nonneg _ (by omega), Int.emod_lt_of_pos _ (by omega)⟩
/-- Drawn samples: they rise from lo on, below hi. -/
def Rise (lo hi : Int) (l : List Smp) : Prop := l.Pairwise (fun a b => a.f0 < b.f0) ∧ ∀ s ∈ l, lo ≤ s.f0 ∧ s.f0 < hi ∧ -1000000 ≤ s.f1 ∧ s.f1 ≤ 1000000
theorem rise_cons (lo hi : Int) (s : Smp) (l : List Smp) (h1 : lo ≤ s.f0) (h2 : s.f0 < hi) (h3 : -1000000 ≤ s.f1) (h4 : s.f1 ≤ 1000000) (h : Rise (s.f0 + 1) hi l) : Rise lo hi (s :: l) := by
  refine ⟨List.pairwise_cons.2 ⟨fun b hb => by have := (h.2 b hb).1; omega, h.1⟩, fun x hx => ?_⟩
  rcases List.mem_cons.1 hx with rfl | hx
  · exact ⟨h1, h2, h3, h4⟩
  · have := h.2 x hx; omega
theorem pick3 (x i : Int) (h0 : 0 ≤ i) (h1 : i < 3) (hx : -1000000 ≤ x) (hx2 : x ≤ 1000000) : -1000000 ≤ rd [x, 1000000, -1000000] i ∧ rd [x, 1000000, -1000000] i ≤ 1000000 := by
  have : i = 0 ∨ i = 1 ∨ i = 2 := by omega
  rcases this with rfl | rfl | rfl <;> simp [rd] <;> omega
theorem samples_loop (l : List Int) (h : Bytes l) : ∀ (d : Nat) (lo a s m : Int) (acc : List Smp), d ≤ 100 → 0 ≤ lo → lo + 4 * d ≤ 2000000 → acc.length ≤ 100000 - d → St a s m → m + 4 * d < 1000000000 →
    ∃ new a' s', Ev (fun k => spec_l00Src_samples.l0 k lo acc (d : Int) l a s) (acc ++ new, a', s') ∧ Rise lo (lo + 4 * d) new ∧ new.length = d ∧ St a' s' (m + 4 * d) := by
  intro d
  induction d with
  | zero =>
    intro lo a s m acc _ _ _ _ hs _
    refine ⟨[], a, s, Ev.step (f := fun _ => some (acc ++ [], a, s)) (fun k => ?_) (Ev.now _), ⟨List.Pairwise.nil, fun s hs => by simp at hs⟩, rfl, ?_⟩
    · simp only [spec_l00Src_samples.l0]; rw [if_neg (by omega), List.append_nil]
    · simpa using hs
  | succ d ih =>
    intro lo a s m acc hd hlo hlo2 hacc hs hm
    obtain ⟨r1, a1, s1, e1, g1, g1', t1⟩ := next_ok l h a s m 4 hs (by omega) (by omega) (by omega)
    obtain ⟨r2, a2, s2, e2, g2, g2', t2⟩ := next_ok l h a1 s1 (m + 1) 40 t1 (by omega) (by omega) (by omega)
    obtain ⟨r3, a3, s3, e3, g3, g3', t3⟩ := next_ok l h a2 s2 (m + 1 + 1) 12 t2 (by omega) (by omega) (by omega)
    obtain ⟨r4, a4, s4, e4, g4, g4', t4⟩ := next_ok l h a3 s3 (m + 1 + 1 + 1) 2 t3 (by omega) (by omega) (by omega)
    have hq : Int.tdiv r3 10 = r3 / 10 := Int.tdiv_eq_ediv_of_nonneg g3
    obtain ⟨q, hqe, hq0, hq3⟩ : ∃ q : Int, r3 / 10 * (1 + r4) = q ∧ 0 ≤ q ∧ q < 3 := by
      have : r3 / 10 = 0 ∨ r3 / 10 = 1 := by omega
      have h4 : r4 = 0 ∨ r4 = 1 := by omega
      rcases this with e | e <;> rcases h4 with e' | e' <;> rw [e, e'] <;> exact ⟨_, rfl, by omega, by omega⟩
    have hp := pick3 (r2 - 10) q hq0 hq3 (by omega) (by omega)
    obtain ⟨new, a', s', hev, hr, hlen, hst⟩ := ih (lo + r1 + 1) a4 s4 (m + 4) (acc ++ [⟨lo + r1, rd [r2 - 10, 1000000, -1000000] q⟩]) (by omega) (by omega) (by omega) (by rw [List.length_append]; simp; omega) (by have := t4; rw [show m + 1 + 1 + 1 + 1 = m + 4 by omega] at this; exact this) (by omega)
    refine ⟨⟨lo + r1, rd [r2 - 10, 1000000, -1000000] q⟩ :: new, a', s', ?_, ?_, by simp [hlen], ?_⟩
    · rw [List.append_cons]
      refine Ev.step (fun k => ?_) hev
      simp only [spec_l00Src_samples.l0]
      rw [if_pos (by omega), e1]
      simp only [Option.bind_some, e2, e3, e4]
      rw [w64 (n := r2 - 10) (by omega) (by omega), hq, w64 (n := r3 / 10) (by omega) (by omega), w64 (n := 1 + r4) (by omega) (by omega), hqe, w64 (n := q) (by omega) (by omega), if_pos hq0, if_pos (by simp; omega), if_pos (by omega), w64 (n := lo + r1) (by omega) (by omega), w64 (n := lo + r1 + 1) (by omega) (by omega), w64 (by omega) (by omega)]
      rw [show ((d + 1 : Nat) : Int) - 1 = (d : Int) by omega]
    · refine rise_cons _ _ _ _ ?_ ?_ hp.1 hp.2 ?_
      · show lo ≤ lo + r1; omega
      · show lo + r1 < _; omega
      · refine ⟨hr.1, fun x hx => ?_⟩
        have := hr.2 x hx
        exact ⟨this.1, by omega, this.2.2⟩
    · rw [show m + 4 * ((d + 1 : Nat) : Int) = m + 4 + 4 * (d : Int) by omega]; exact hst
theorem samples_ok (l : List Int) (h : Bytes l) (lo a s m n : Int) (hn : 0 ≤ n) (hn2 : n ≤ 100) (hlo : 0 ≤ lo) (hlo2 : lo ≤ 1000000) (hs : St a s m) (hm : m < 100000000) :
    ∃ new a' s', Ev (fun k => spec_l00Src_samples.f k l a s lo n) (new, a', s') ∧ Rise lo (lo + 4 * n) new ∧ (new.length : Int) ≤ n ∧ St a' s' (m + 1 + 4 * n) := by
  obtain ⟨r, a1, s1, e, g1, g2, t⟩ := next_ok l h a s m (n + 1) hs (by omega) (by omega) (by omega)
  obtain ⟨d, rfl⟩ := Int.eq_ofNat_of_zero_le g1
  obtain ⟨new, a', s', hev, hr, hlen, hst⟩ := samples_loop l h d lo a1 s1 (m + 1) [] (by omega) hlo (by omega) (by simp) t (by omega)
  refine ⟨new, a', s', ?_, ⟨hr.1, fun x hx => by have := hr.2 x hx; exact ⟨this.1, by omega, this.2.2⟩⟩, by omega, ⟨hst.1, by have := hst.2.1; omega, hst.2.2⟩⟩
  unfold spec_l00Src_samples.f
  rw [w64 (n := n + 1) (by omega) (by omega), e]
  exact hev
theorem samplesOf_ok (l : List Int) (h : Bytes l) (lo n : Int) (hn : 0 ≤ n) (hn2 : n ≤ 100) (hlo : 0 ≤ lo) (hlo2 : lo ≤ 1000000) :
    ∃ new, Ev (fun k => spec_SamplesOf.f k l lo n) new ∧ Rise lo (lo + 4 * n) new ∧ (new.length : Int) ≤ n := by
  obtain ⟨new, a', s', hev, hr, hlen, _⟩ := samples_ok l h lo 0 ((l.length : Int) % 1000) 0 n hn hn2 hlo hlo2 ⟨by omega, by omega, by omega, by omega⟩ (by omega)
  refine ⟨new, ?_, hr, hlen⟩
  unfold spec_SamplesOf.f spec_l00Source.f
  simp only [Option.bind_some]
  exact Ev.bind hev (Ev.now _)
def bs (l : List UInt8) : ByteArray := ⟨l.toArray⟩
theorem bs_data (l : List UInt8) : (bs l).data.toList = l := rfl
theorem bs_of (b : ByteArray) : bs b.data.toList = b := by obtain ⟨⟨l⟩⟩ := b; rfl
theorem bs_size (l : List UInt8) : (bs l).size = l.length := rfl
theorem bs_append (a b : List UInt8) : bs a ++ bs b = bs (a ++ b) := by
  have h : (bs a ++ bs b).data.toList = a ++ b := by simp [bs]
  rw [← bs_of (bs a ++ bs b), h]
theorem index_miss (c : UInt8) : ∀ s : List UInt8, c ∉ s → Lib.index s [c] = -1
  | [], _ => by simp [Lib.index]
  | b :: l, h => by
    have h1 : ¬ c = b := fun e => h (by rw [e]; exact List.mem_cons_self)
    have h2 := index_miss c l (fun m => h (List.mem_cons_of_mem _ m))
    unfold Lib.index
    rw [if_neg (by simp [List.isPrefixOf, h1]), h2]; rfl
theorem index_hit (c : UInt8) (r : List UInt8) : ∀ a : List UInt8, c ∉ a → Lib.index (a ++ c :: r) [c] = a.length
  | [], _ => by simp [Lib.index, List.isPrefixOf]
  | b :: l, h => by
    have h1 : ¬ c = b := fun e => h (by rw [e]; exact List.mem_cons_self)
    have h2 := index_hit c r l (fun m => h (List.mem_cons_of_mem _ m))
    rw [List.cons_append]
    unfold Lib.index
    rw [if_neg (by simp [List.isPrefixOf, h1]), h2, if_neg (by simp)]
    simp
theorem join_cons2 (x y : List UInt8) (r : List (List UInt8)) (c : UInt8) : Lib.join (x :: y :: r) [c] = x ++ c :: Lib.join (y :: r) [c] := by
  simp [Lib.join, List.intercalate, List.intersperse]
theorem splitK_join (c : UInt8) : ∀ (ps : List (List UInt8)) (k : Nat), ps ≠ [] → ps.length ≤ k + 1 → (∀ p ∈ ps, c ∉ p) → Lib.splitK [c] 0 k (Lib.join ps [c]) = ps
  | [], _, h, _, _ => absurd rfl h
  | [p], k, _, _, h => by
    rw [Lib.join_one]
    cases k with
    | zero => rfl
    | succ k => unfold Lib.splitK; rw [if_pos (by rw [index_miss c p (h p List.mem_cons_self)]; rfl)]
  | p :: q :: r, 0, _, hl, _ => by simp at hl
  | p :: q :: r, k + 1, _, hl, h => by
    have ih := splitK_join c (q :: r) k (by simp) (by simpa using hl) (fun x hx => h x (List.mem_cons_of_mem _ hx))
    have hi := index_hit c (Lib.join (q :: r) [c]) p (h p List.mem_cons_self)
    rw [join_cons2]
    unfold Lib.splitK
    rw [hi, if_neg (by simp)]
    have e1 : ((p.length : Int)).toNat = p.length := Int.toNat_natCast _
    rw [e1, Nat.add_zero, List.take_left, List.length_singleton]
    have e2 : (p ++ c :: Lib.join (q :: r) [c]).drop (p.length + 1) = Lib.join (q :: r) [c] := by
      rw [List.drop_append]; simp
    rw [e2, ih]
theorem splitB_join (c : UInt8) (ps : List (List UInt8)) (k : Nat) (hn : ps ≠ []) (hl : ps.length ≤ k + 1) (h : ∀ p ∈ ps, c ∉ p) : Lib.splitB (bs [c]) 0 k (bs (Lib.join ps [c])) = ps.map bs := by
  have := Lib.splitB_data (bs [c]) 0 k (bs (Lib.join ps [c]))
  rw [show (bs [c]).data.toList = [c] from rfl, show (bs (Lib.join ps [c])).data.toList = Lib.join ps [c] from rfl, splitK_join c ps k hn hl h] at this
  have h2 : ∀ L : List ByteArray, (L.map (·.data.toList)).map bs = L := by
    intro L; rw [List.map_map]; conv => rhs; rw [← List.map_id L]
    exact List.map_congr_left (fun b _ => bs_of b)
  rw [← h2 (Lib.splitB _ _ _ _), this]
theorem join_length (c : UInt8) : ∀ ps : List (List UInt8), ps ≠ [] → ps.length ≤ (Lib.join ps [c]).length + 1
  | [], h => absurd rfl h
  | [p], _ => by simp
  | p :: q :: r, _ => by
    have := join_length c (q :: r) (by simp)
    rw [join_cons2, List.length_append, List.length_cons]
    simp only [List.length_cons] at this ⊢
    omega
theorem join_length_le (c : UInt8) (m : Nat) : ∀ ps : List (List UInt8), (∀ p ∈ ps, p.length ≤ m) → (Lib.join ps [c]).length ≤ ps.length * (m + 1)
  | [], _ => by simp [Lib.join, List.intercalate]
  | [p], h => by rw [Lib.join_one]; have := h p List.mem_cons_self; simp; omega
  | p :: q :: r, h => by
    have := join_length_le c m (q :: r) (fun x hx => h x (List.mem_cons_of_mem _ hx))
    have h1 := h p List.mem_cons_self
    rw [join_cons2, List.length_append, List.length_cons]
    rw [show (p :: q :: r).length = (q :: r).length + 1 from rfl, Nat.add_mul, Nat.one_mul]
    omega
/-- What a numeral is made of. -/
def NumByte (b : UInt8) : Prop := b = 45 ∨ 48 ≤ b.toNat ∧ b.toNat ≤ 57
theorem digit_byte (d : Nat) (h : d < 10) : (UInt8.ofNat (48 + d)).toNat = 48 + d := by
  rw [UInt8.toNat_ofNat']; omega
theorem decDigits_bytes (u : Nat) : ∀ b ∈ Lib.decDigits u, 48 ≤ b.toNat ∧ b.toNat ≤ 57 := by
  induction u using Nat.strongRecOn with
  | _ u ih =>
    intro b hb
    rw [Lib.decDigits] at hb
    split at hb
    · rw [List.mem_singleton] at hb; subst hb; rw [digit_byte u (by omega)]; omega
    · rcases List.mem_append.1 hb with hb | hb
      · exact ih (u / 10) (by omega) b hb
      · rw [List.mem_singleton] at hb; subst hb; rw [digit_byte (u % 10) (by omega)]; omega
theorem decDigits_ne (u : Nat) : Lib.decDigits u ≠ [] := by
  rw [Lib.decDigits]; split <;> simp
theorem itoa_bytes (n : Int) : ∀ b ∈ Lib.itoa n, NumByte b := by
  intro b hb
  unfold Lib.itoa at hb
  split at hb
  · rcases List.mem_cons.1 hb with rfl | hb
    · exact .inl rfl
    · exact .inr (decDigits_bytes _ b hb)
  · exact .inr (decDigits_bytes _ b hb)
theorem itoa_free (n : Int) (c : UInt8) (h : ¬ NumByte c) : c ∉ Lib.itoa n := fun hm => h (itoa_bytes n c hm)
theorem nDigits_le (u : Nat) (h : u < 1000000000000000000) : Lib.nDigits u ≤ 18 := by
  rcases Nat.lt_or_ge (Lib.nDigits u) 19 with h1 | h1
  · omega
  · exfalso
    have key : ∀ k u, u < 10 ^ k → 1 ≤ k → Lib.nDigits u ≤ k := by
      intro k
      induction k with
      | zero => intro u _ hk; omega
      | succ k ih =>
        intro u hu _
        by_cases h10 : u < 10
        · rw [Lib.nDigits_small h10]; omega
        · rw [Lib.nDigits_big h10]
          rw [Nat.pow_succ] at hu
          by_cases hk : 1 ≤ k
          · have := ih (u / 10) (by omega) hk; omega
          · obtain rfl : k = 0 := by omega
            simp at hu; omega
    have := key 18 u (by simpa using h) (by omega)
    omega
theorem itoa_length (n : Int) (h1 : -1000000000000000000 < n) (h2 : n < 1000000000000000000) : (Lib.itoa n).length ≤ 19 := by
  unfold Lib.itoa
  split
  · rw [List.length_cons, Lib.decDigits_length]; have := nDigits_le n.natAbs (by omega); omega
  · rw [Lib.decDigits_length]; have := nDigits_le n.toNat (by omega); omega
theorem parse_digits (u : Nat) : ∀ (r : List UInt8), u < 1000000000000000000 → Lib.parseUint10 0 (Lib.decDigits u ++ r) = Lib.parseUint10 u r := by
  induction u using Nat.strongRecOn with
  | _ u ih =>
    intro r hu
    rw [Lib.decDigits]
    split
    · rename_i h10
      have hb := digit_byte u h10
      rw [List.singleton_append, Lib.parseUint10, if_pos (by omega), if_neg (by omega), if_neg (by omega)]
      congr 1; omega
    · rename_i h10
      have hb := digit_byte (u % 10) (by omega)
      rw [List.append_assoc, ih (u / 10) (by omega) _ (by omega), List.singleton_append, Lib.parseUint10, if_pos (by omega), if_neg (by omega), if_neg (by omega)]
      congr 1; omega
theorem decDigits_head (u : Nat) (r : List UInt8) : ∃ c l, Lib.decDigits u ++ r = c :: l ∧ 48 ≤ c.toNat ∧ c.toNat ≤ 57 := by
  have h := decDigits_ne u
  have hb := decDigits_bytes u
  match hd : Lib.decDigits u with
  | [] => exact absurd hd h
  | c :: l => rw [hd] at hb; exact ⟨c, l ++ r, rfl, hb c List.mem_cons_self⟩
theorem atoi_pos (u : Nat) (r : List UInt8) (hu : u < 1000000000000000000) : Lib.atoiAll (Lib.decDigits u ++ r) = match Lib.parseUint10 u r with | .range => .range | .ok v => if 9223372036854775808 ≤ v then .range else .ok (v : Int) | _ => Lib.atoiAll [] := by
  obtain ⟨c, l, e, h1, h2⟩ := decDigits_head u r
  have hp := parse_digits u r hu
  rw [e] at hp ⊢
  unfold Lib.atoiAll
  dsimp only
  rw [if_neg (by omega)]
  unfold Lib.parseMag
  rw [if_neg (by simp), hp]
  cases Lib.parseUint10 u r with
  | range => rfl
  | ok v =>
    dsimp only
    have hn : ¬ c.toNat = 45 := by omega
    by_cases hv : 9223372036854775808 ≤ v
    · rw [if_pos ⟨hn, hv⟩, if_pos hv]
    · rw [if_neg (fun h => hv h.2), if_neg (fun h => hn h.1), if_neg hn, if_neg hv]
  | _ => rfl
theorem atoi_neg (u : Nat) (r : List UInt8) (hu : u < 1000000000000000000) : Lib.atoiAll (45 :: (Lib.decDigits u ++ r)) = match Lib.parseUint10 u r with | .range => .range | .ok v => if 9223372036854775808 < v then .range else .ok (-(v : Int)) | _ => Lib.atoiAll [] := by
  obtain ⟨c, l, e, h1, h2⟩ := decDigits_head u r
  have hp := parse_digits u r hu
  have h45 : (45 : UInt8).toNat = 45 := rfl
  unfold Lib.atoiAll
  dsimp only
  rw [if_pos (.inr h45)]
  unfold Lib.parseMag
  rw [if_neg (by rw [e]; simp), hp]
  cases Lib.parseUint10 u r with
  | range => rfl
  | ok v =>
    dsimp only
    rw [if_neg (fun h => h.1 h45)]
    by_cases hv : 9223372036854775808 < v
    · rw [if_pos ⟨h45, hv⟩, if_pos hv]
    · rw [if_neg (fun h => hv h.2), if_pos h45, if_neg hv]
  | _ => rfl
theorem atoi_itoa (n : Int) (h1 : -1000000000000000000 < n) (h2 : n < 1000000000000000000) : Lib.atoiAll (Lib.itoa n) = .ok n := by
  unfold Lib.itoa
  split
  · have := atoi_neg n.natAbs [] (by omega)
    rw [List.append_nil] at this
    rw [this]
    simp only [Lib.parseUint10]
    rw [if_neg (by omega)]
    congr 1; omega
  · have := atoi_pos n.toNat [] (by omega)
    rw [List.append_nil] at this
    rw [this]
    simp only [Lib.parseUint10]
    rw [if_neg (by omega)]
    congr 1; omega
theorem atoi_bad (n : Int) (h1 : -1000000000000000000 < n) (h2 : n < 1000000000000000000) : Lib.atoiAll (Lib.itoa n ++ [120]) = Lib.atoiAll [] := by
  have hb : ∀ u, Lib.parseUint10 u [120] = Lib.parseMag [] := by
    intro u; rw [Lib.parseUint10, if_neg (by decide)]; rfl
  unfold Lib.itoa
  split
  · rw [List.cons_append, atoi_neg n.natAbs [120] (by omega), hb]; rfl
  · rw [atoi_pos n.toNat [120] (by omega), hb]; rfl
theorem number_ok (n : Int) (h1 : -1000000000000000000 < n) (h2 : n < 1000000000000000000) : impl_number.f (bs (Lib.itoa n)) = some (n, true) := by
  unfold impl_number.f
  rw [if_pos (by rw [bs_size]; have := itoa_length n h1 h2; omega)]
  unfold numV
  rw [bs_data, atoi_itoa n h1 h2]
  simp only [decide_true, Bool.true_and, Option.some.injEq, Prod.mk.injEq, true_and]
  exact decide_eq_true (by omega)
theorem number_bad (n : Int) (h1 : -1000000000000000000 < n) (h2 : n < 1000000000000000000) : impl_number.f (bs (Lib.itoa n ++ [120])) = some (0, false) := by
  unfold impl_number.f
  rw [if_pos (by rw [bs_size, List.length_append]; have := itoa_length n h1 h2; simp; omega)]
  unfold numV
  rw [bs_data, atoi_bad n h1 h2]; rfl
theorem rdB_bytes (l : List ByteArray) (i : Nat) (h : i < l.length) : rdOf ByteArray.empty l (i : Int) = l[i] := by
  simp [rdOf, List.getD_eq_getElem?_getD, List.getElem?_eq_getElem h]
/-- Numerals that are parted by a sign are read. -/
theorem numbers_loop (ns : List Int) (hb : ∀ n ∈ ns, -1000000000000000000 < n ∧ n < 1000000000000000000) (hl : ns.length ≤ 1000) : ∀ d i : Nat, ns.length - i = d → i ≤ ns.length →
    Ev (fun k => impl_numbers.l0 k (ns.take i) (ns.map (fun n => bs (Lib.itoa n))) ((ns.map (fun n => bs (Lib.itoa n))).length : Int) (i : Int)) (ns, true) := by
  intro d
  induction d with
  | zero =>
    intro i hd hi
    refine Ev.step (f := fun _ => some (ns, true)) (fun k => ?_) (Ev.now _)
    simp only [impl_numbers.l0]; rw [if_neg (by rw [List.length_map]; omega), List.take_of_length_le (by omega)]
  | succ d ih =>
    intro i hd hi
    have hlt : i < ns.length := by omega
    refine Ev.step (fun k => ?_) (ih (i + 1) (by omega) (by omega))
    have hbn := hb ns[i] (List.getElem_mem hlt)
    simp only [impl_numbers.l0]
    rw [if_pos (by rw [List.length_map]; omega), if_pos (by omega), if_pos (by rw [List.length_map]; omega), rdB_bytes _ i (by rw [List.length_map]; exact hlt), List.getElem_map, number_ok _ hbn.1 hbn.2]
    simp only [Option.bind_some, if_true]
    rw [if_pos (by rw [List.length_take]; omega), w64 (n := (i : Int) + 1) (by omega) (by omega), List.take_succ_eq_append_getElem hlt]; rfl
theorem splitN_join (c : UInt8) (ps : List (List UInt8)) (n : Int) (hn : ps ≠ []) (hl : (ps.length : Int) ≤ n) (hn2 : n ≤ 100000) (h : ∀ p ∈ ps, c ∉ p) (hs : (Lib.join ps [c]).length ≤ 1000000) : strings_SplitN.f (bs (Lib.join ps [c])) (bs [c]) n = some (ps.map bs) := by
  have h0 : 1 ≤ ps.length := by cases ps with | nil => exact absurd rfl hn | cons => simp
  have hj := join_length c ps hn
  unfold strings_SplitN.f
  rw [if_pos ⟨by rw [bs_size]; omega, by rw [bs_size]; simp, by omega, by omega⟩, splitB_join c ps _ hn (by rw [bs_size]; omega) h]
theorem numbers_ok (c : UInt8) (hc : ¬ NumByte c) (ns : List Int) (hb : ∀ n ∈ ns, -1000000000000000000 < n ∧ n < 1000000000000000000) (hn : ns ≠ []) (hl : ns.length ≤ 1000) :
    Ev (fun k => impl_numbers.f k (bs (Lib.join (ns.map Lib.itoa) [c])) (bs [c]) (ns.length : Int)) (ns, true) := by
  have hj : (Lib.join (ns.map Lib.itoa) [c]).length ≤ 1000000 := by
    have := join_length_le c 19 (ns.map Lib.itoa) (fun p hp => by
      obtain ⟨n, hn, rfl⟩ := List.mem_map.1 hp
      exact itoa_length n (hb n hn).1 (hb n hn).2)
    rw [List.length_map] at this; omega
  have hsp := splitN_join c (ns.map Lib.itoa) (wrap64 ((ns.length : Int) + 1)) (by simpa using hn) (by rw [List.length_map, w64 (by omega) (by omega)]; omega) (by rw [w64 (by omega) (by omega)]; omega) (fun p hp => by
    obtain ⟨n, _, rfl⟩ := List.mem_map.1 hp
    exact itoa_free n c hc) hj
  unfold impl_numbers.f
  rw [hsp]
  simp only [Option.bind_some, List.map_map, List.length_map, if_true]
  have := numbers_loop ns hb hl _ 0 rfl (by omega)
  rw [List.length_map] at this
  exact this
theorem itoa_f (n : Int) (h1 : -9223372036854775808 ≤ n) (h2 : n ≤ 9223372036854775807) : strconv_Itoa.f n = some (bs (Lib.itoa n)) := by unfold strconv_Itoa.f; rw [if_pos ⟨h1, h2⟩]; rfl
theorem joined_ints (c : UInt8) (ns : List Int) (hb : ∀ n ∈ ns, -1000000000000000000 < n ∧ n < 1000000000000000000) (hl : ns.length ≤ 1000) :
    impl_joined.f (bs [c]) (ns.map fun n => Sum.inr (Sum.inl n)) = some (bs (Lib.join (ns.map Lib.itoa) [c])) := by
  have hs : strsOf (ns.map fun n => (Sum.inr (Sum.inl n) : AnyV)) = ns.map fun n => bs (Lib.itoa n) := by
    unfold strsOf
    rw [List.filterMap_map]
    clear hb hl
    induction ns with
    | nil => rfl
    | cons n ns ih => rw [List.filterMap_cons]; simp only [Function.comp, strOf] at ih ⊢; rw [ih]; rfl
  have hj : (Lib.join (ns.map Lib.itoa) [c]).length ≤ 1000000 := by
    have := join_length_le c 19 (ns.map Lib.itoa) (fun p hp => by
      obtain ⟨n, hn, rfl⟩ := List.mem_map.1 hp
      exact itoa_length n (hb n hn).1 (hb n hn).2)
    rw [List.length_map] at this; omega
  unfold impl_joined.f
  rw [if_pos ⟨by rw [List.length_map]; omega, by
    rw [List.all_map, List.all_eq_true]; intro n hn; have := hb n hn; simp only [Function.comp, intOk]; exact decide_eq_true (by omega)⟩, hs]
  unfold strings_Join.f
  have e : (List.map (fun x : ByteArray => x.data.toList) (ns.map fun n => bs (Lib.itoa n))) = ns.map Lib.itoa := by rw [List.map_map]; rfl
  rw [e]
  rw [if_pos ⟨by rw [List.length_map]; omega, by show (Lib.join _ [c]).length ≤ _; omega⟩]; rfl
theorem said_strs (ps : List (List UInt8)) (hl : ps.length ≤ 1000) (hj : (Lib.join ps [32]).length ≤ 1000000) :
    impl_said.f (ps.map fun p => Sum.inr (Sum.inr (bs p))) = some (bs (Lib.join ps [32])) := by
  have hs : strsOf (ps.map fun p => (Sum.inr (Sum.inr (bs p)) : AnyV)) = ps.map bs := by
    unfold strsOf
    rw [List.filterMap_map]
    clear hl hj
    induction ps with
    | nil => rfl
    | cons n ns ih => rw [List.filterMap_cons]; simp only [Function.comp, strOf] at ih ⊢; rw [ih]; rfl
  unfold impl_said.f impl_joined.f
  rw [if_pos ⟨by rw [List.length_map]; omega, by rw [List.all_map, List.all_eq_true]; intro n hn; rfl⟩, hs]
  unfold strings_Join.f
  have e : (List.map (fun x : ByteArray => x.data.toList) (ps.map bs)) = ps := by
    rw [List.map_map]; conv => rhs; rw [← List.map_id ps]
    rfl
  rw [e, if_pos ⟨by rw [List.length_map]; omega, by show (Lib.join _ [32]).length ≤ _; omega⟩]; rfl
theorem modelFold_ev (l : List Smp) (h : Gs l) (hl : l.length ≤ 4096) (a b : Int) (h0 : 0 ≤ a) (hab : a ≤ b) (hb : b ≤ 100000) :
    Ev (fun k => impl_ModelFold.f k l a b) ((agg (vals (inR a b l))).1, (agg (vals (inR a b l))).2.1, (agg (vals (inR a b l))).2.2.1, (agg (vals (inR a b l))).2.2.2.1, (agg (vals (inR a b l))).2.2.2.2.1, (agg (vals (inR a b l))).2.2.2.2.2, 0) := by
  have hc : Ev (fun k => impl_modelCode.f k l a b) 0 := by
    unfold impl_modelCode.f impl_Sample.f
    simp only [Option.bind_some]
    refine Ev.bind (sok l h hl) ?_
    rw [isRange_eq, decide_eq_false (show ¬ (l.length : Int) > 4096 by omega), decide_eq_true (show 0 ≤ a ∧ a ≤ b ∧ b ≤ 100000 by omega)]
    simp only [Option.bind_some]
    rw [first_eq _ (by simp)]
    simp only [firstV, yesV, Option.bind_some, Bool.not_true, Bool.false_eq_true, if_false]
    exact Ev.now _
  unfold impl_ModelFold.f
  refine Ev.bind hc ?_
  simp only [if_true]
  refine Ev.bind (samplesIn_ev l a b (by omega) (by omega) (by omega)) ?_
  exact Ev.bind (aggOf_ev _ (fun s hs => by have := h.2 s (List.mem_filter.1 hs).1; omega) (Nat.le_trans (List.length_filter_le _ _) (by omega))) (Ev.now _)
def pt (s : Smp) : List UInt8 := Lib.join [Lib.itoa s.f0, Lib.itoa s.f1] [61]
def txt (l : List Smp) : List UInt8 := Lib.join (l.map pt) [32]
theorem pt_length (s : Smp) (h : 0 ≤ s.f0 ∧ s.f0 ≤ 99999 ∧ -1000000 ≤ s.f1 ∧ s.f1 ≤ 1000000) : (pt s).length ≤ 40 :=
  join_length_le 61 19 [Lib.itoa s.f0, Lib.itoa s.f1] (fun p hp => by
    rcases List.mem_cons.1 hp with rfl | hp
    · exact itoa_length _ (by omega) (by omega)
    · rw [List.mem_singleton] at hp; subst hp; exact itoa_length _ (by omega) (by omega))
theorem txt_length (l : List Smp) (h : Gs l) (hl : l.length ≤ 8) : (txt l).length ≤ 1000 := by
  have := join_length_le 32 40 (l.map pt) (fun p hp => by
    obtain ⟨s, hs, rfl⟩ := List.mem_map.1 hp
    exact pt_length s (h.2 s hs))
  rw [List.length_map] at this
  show (Lib.join (l.map pt) [32]).length ≤ 1000
  omega
theorem pt_joined (s : Smp) (h : 0 ≤ s.f0 ∧ s.f0 ≤ 99999 ∧ -1000000 ≤ s.f1 ∧ s.f1 ≤ 1000000) : impl_joined.f (⟨#[61]⟩ : ByteArray) [(Sum.inr (Sum.inl s.f0) : AnyV), Sum.inr (Sum.inl s.f1)] = some (bs (pt s)) :=
  joined_ints 61 [s.f0, s.f1] (fun n hn => by
    rcases List.mem_cons.1 hn with rfl | hn
    · omega
    · rw [List.mem_singleton] at hn; subst hn; omega) (by simp)
theorem samplesText_loop (l : List Smp) (h : Gs l) (hl : l.length ≤ 8) : ∀ d i : Nat, l.length - i = d → i ≤ l.length →
    Ev (fun k => impl_samplesText.l0 k (((l.take i).map pt).map fun p => Sum.inr (Sum.inr (bs p))) l (l.length : Int) (i : Int)) (bs (txt l)) := by
  intro d
  induction d with
  | zero =>
    intro i hd hi
    refine Ev.step (f := fun _ => some (bs (txt l))) (fun k => ?_) (Ev.now _)
    simp only [impl_samplesText.l0]
    rw [if_neg (by omega), List.take_of_length_le (by omega), said_strs _ (by rw [List.length_map]; omega) (by have := txt_length l h hl; unfold txt at this; omega)]; rfl
  | succ d ih =>
    intro i hd hi
    have hlt : i < l.length := by omega
    refine Ev.step (fun k => ?_) (ih (i + 1) (by omega) (by omega))
    simp only [impl_samplesText.l0]
    rw [if_pos (by omega), if_pos (by omega), if_pos (by omega), rdS_at l i hlt, pt_joined _ (h.2 _ (List.getElem_mem hlt))]
    simp only [Option.bind_some]
    rw [if_pos (by rw [List.length_map, List.length_map, List.length_take]; omega), w64 (n := (i : Int) + 1) (by omega) (by omega), List.take_succ_eq_append_getElem hlt, List.map_append, List.map_append]; rfl
theorem samplesText_ev (l : List Smp) (h : Gs l) (hl : l.length ≤ 8) : Ev (fun k => impl_SamplesText.f k l) (bs (txt l), 0) := by
  unfold impl_SamplesText.f impl_Sample.f
  simp only [Option.bind_some]
  refine Ev.bind (sok l h (by omega)) ?_
  rw [decide_eq_false (show ¬ (l.length : Int) > 4096 by omega), decide_eq_false (show ¬ (l.length : Int) > 8 by omega), first_eq _ (by simp)]
  simp only [firstV, yesV, Option.bind_some, Bool.not_true, Bool.false_eq_true, if_false, if_true]
  have e : Ev (fun k => impl_samplesText.f k l) (bs (txt l)) := samplesText_loop l h hl _ 0 rfl (by omega)
  exact Ev.bind e (Ev.now _)
theorem pt_numbers (s : Smp) (h : 0 ≤ s.f0 ∧ s.f0 ≤ 99999 ∧ -1000000 ≤ s.f1 ∧ s.f1 ≤ 1000000) : Ev (fun k => impl_numbers.f k (bs (pt s)) (⟨#[61]⟩ : ByteArray) 2) ([s.f0, s.f1], true) :=
  numbers_ok 61 (by unfold NumByte; decide) [s.f0, s.f1] (fun n hn => by
    rcases List.mem_cons.1 hn with rfl | hn
    · omega
    · rw [List.mem_singleton] at hn; subst hn; omega) (by simp) (by simp)
theorem pt_free (s : Smp) : (32 : UInt8) ∉ pt s := by
  intro hm
  unfold pt at hm
  rw [join_cons2, Lib.join_one] at hm
  rcases List.mem_append.1 hm with hm | hm
  · exact itoa_free _ 32 (by unfold NumByte; decide) hm
  · rcases List.mem_cons.1 hm with hm | hm
    · exact absurd hm (by decide)
    · exact itoa_free _ 32 (by unfold NumByte; decide) hm
theorem pt_ne (s : Smp) : pt s ≠ [] := by
  unfold pt; rw [join_cons2]; simp
theorem parts_eq (ps : List (List UInt8)) (hn : Lib.join ps [32] ≠ []) (hl : ps.length ≤ 8) (h : ∀ p ∈ ps, (32 : UInt8) ∉ p) (hs : (Lib.join ps [32]).length ≤ 1000000) : impl_parts.f (bs (Lib.join ps [32])) = some (ps.map bs) := by
  have hp : ps ≠ [] := fun e => hn (by subst e; rfl)
  unfold impl_parts.f
  rw [if_neg (by rw [Go.ByteArray.toList_eq]; exact hn)]
  have := splitN_join 32 ps 9 hp (by omega) (by omega) h hs
  rw [show (⟨#[32]⟩ : ByteArray) = bs [32] from rfl, this]; rfl
theorem txt_ne (s : Smp) (l : List Smp) : txt (s :: l) ≠ [] := by
  unfold txt
  cases l with
  | nil => rw [List.map_cons, List.map_nil, Lib.join_one]; exact pt_ne s
  | cons b l => rw [List.map_cons, List.map_cons, join_cons2]; simp
theorem txt_parts (l : List Smp) (h : Gs l) (hl : l.length ≤ 8) : impl_parts.f (bs (txt l)) = some ((l.map pt).map bs) := by
  cases l with
  | nil => unfold impl_parts.f; rw [if_pos (by rw [Go.ByteArray.toList_eq]; rfl)]; rfl
  | cons s l =>
    have := txt_length (s :: l) h hl
    exact parts_eq ((s :: l).map pt) (txt_ne s l) (by rw [List.length_map]; omega) (fun p hp => by
      obtain ⟨x, _, rfl⟩ := List.mem_map.1 hp
      exact pt_free x) (by unfold txt at this; omega)
theorem readSamples_loop (l : List Smp) (h : Gs l) (hl : l.length ≤ 8) (qs : List ByteArray) (hq : qs.length ≤ 8) (he : ∀ (i : Nat) (hi : i < l.length), qs[i]? = some (bs (pt l[i]))) (hle : l.length ≤ qs.length) (r : List Smp × Bool)
    (hr : Ev (fun k => impl_readSamples.l0 k l qs (qs.length : Int) (l.length : Int)) r) : ∀ d i : Nat, l.length - i = d → i ≤ l.length →
    Ev (fun k => impl_readSamples.l0 k (l.take i) qs (qs.length : Int) (i : Int)) r := by
  intro d
  induction d with
  | zero =>
    intro i hd hi
    obtain rfl : i = l.length := by omega
    rw [List.take_of_length_le (by omega)]; exact hr
  | succ d ih =>
    intro i hd hi
    have hlt : i < l.length := by omega
    have hb := h.2 _ (List.getElem_mem hlt)
    have hqi : rdOf ByteArray.empty qs (i : Int) = bs (pt l[i]) := by
      rw [rdB_bytes qs i (by omega)]
      have := he i hlt
      rw [List.getElem?_eq_getElem (by omega)] at this
      exact Option.some.inj this
    refine Ev.step (f := fun k => (impl_numbers.f k (bs (pt l[i])) (⟨#[61]⟩ : ByteArray) 2).bind fun bt => (if bt.2 = true then (if 0 < (bt.1.length : Int) then (if 1 < (bt.1.length : Int) then (if (l.take i).length < 8796093022208 then (impl_readSamples.l0 k (l.take i ++ [(⟨rd bt.1 0, rd bt.1 1⟩ : Smp)]) qs (qs.length : Int) ((i + 1 : Nat) : Int)) else (none)) else (none)) else (none)) else (some (([] : List Smp), false)))) (fun k => ?_) ?_
    · simp only [impl_readSamples.l0]
      rw [if_pos (by omega), if_pos (by omega), if_pos (by omega), hqi, w64 (n := (i : Int) + 1) (by omega) (by omega)]; rfl
    · refine Ev.bind (pt_numbers l[i] hb) ?_
      simp only [if_true, if_pos (show (0 : Int) < ((([l[i].f0, l[i].f1] : List Int).length : Nat) : Int) from by show (0 : Int) < ((2 : Nat) : Int); decide), if_pos (show (1 : Int) < ((([l[i].f0, l[i].f1] : List Int).length : Nat) : Int) from by show (1 : Int) < ((2 : Nat) : Int); decide), if_pos (show (l.take i).length < 8796093022208 by rw [List.length_take]; omega)]
      have := ih (i + 1) (by omega) (by omega)
      rw [List.take_succ_eq_append_getElem hlt] at this
      exact this
theorem readSamples_ok (l : List Smp) (h : Gs l) (hl : l.length ≤ 8) : Ev (fun k => impl_readSamples.f k (bs (txt l))) (l, true) := by
  have hlm : ((l.map pt).map bs).length = l.length := by rw [List.length_map, List.length_map]
  have hr : Ev (fun k => impl_readSamples.l0 k l ((l.map pt).map bs) (((l.map pt).map bs).length : Int) (l.length : Int)) (l, true) := by
    refine Ev.step (f := fun k => (impl_SamplesOK.f k l).bind fun t258 => (if t258 = true then (some (l, decide ((l.length : Int) ≤ 8))) else (some (l, false)))) (fun k => ?_) ?_
    · simp only [impl_readSamples.l0]
      rw [if_neg (by rw [hlm]; omega)]
    · refine Ev.bind (sok l h (by omega)) ?_
      rw [if_pos rfl, decide_eq_true (by omega)]; exact Ev.now _
  unfold impl_readSamples.f
  rw [txt_parts l h hl]
  exact readSamples_loop l h hl _ (by rw [hlm]; omega) (fun i hi => by rw [List.getElem?_map, List.getElem?_map, List.getElem?_eq_getElem hi]; rfl) (by rw [hlm]; omega) _ hr _ 0 rfl (by omega)
/-- A sign more at the end, and the text is not one of samples. -/
theorem x_numbers_bad (s : Smp) (h : 0 ≤ s.f0 ∧ s.f0 ≤ 99999 ∧ -1000000 ≤ s.f1 ∧ s.f1 ≤ 1000000) : ∃ n, Ev (fun k => impl_numbers.f k (bs (pt s ++ [120])) (⟨#[61]⟩ : ByteArray) 2) (n, false) := by
  have e : pt s ++ [120] = Lib.join [Lib.itoa s.f0, Lib.itoa s.f1 ++ [120]] [61] := by
    unfold pt; rw [join_cons2, join_cons2, Lib.join_one, Lib.join_one, List.append_assoc, List.cons_append]
  have hsz := pt_length s h
  have hsp := splitN_join 61 [Lib.itoa s.f0, Lib.itoa s.f1 ++ [120]] (wrap64 (2 + 1)) (by simp) (by rw [w64 (by omega) (by omega)]; simp) (by rw [w64 (by omega) (by omega)]; omega) (fun p hp => by
    rcases List.mem_cons.1 hp with rfl | hp
    · exact itoa_free _ 61 (by unfold NumByte; decide)
    · rw [List.mem_singleton] at hp; subst hp; intro hm
      rcases List.mem_append.1 hm with hm | hm
      · exact itoa_free _ 61 (by unfold NumByte; decide) hm
      · exact absurd (List.mem_singleton.1 hm) (by decide)) (by rw [← e, List.length_append]; simp; omega)
  refine ⟨[], ?_⟩
  unfold impl_numbers.f
  rw [e, show (⟨#[61]⟩ : ByteArray) = bs [61] from rfl, hsp]
  refine Ev.congr (f := fun k => impl_numbers.l0 k [] [bs (Lib.itoa s.f0), bs (Lib.itoa s.f1 ++ [120])] 2 0) (fun k => by rw [Option.bind_some]; exact if_pos rfl) ?_
  refine Ev.step (f := fun k => impl_numbers.l0 k [s.f0] [bs (Lib.itoa s.f0), bs (Lib.itoa s.f1 ++ [120])] 2 1) (fun k => ?_) (Ev.step (f := fun _ => some ([], false)) (fun k => ?_) (Ev.now _))
  · simp only [impl_numbers.l0]
    rw [if_pos (by decide), if_pos (by decide), if_pos (by simp), show rdOf ByteArray.empty [bs (Lib.itoa s.f0), bs (Lib.itoa s.f1 ++ [120])] 0 = bs (Lib.itoa s.f0) from rfl, number_ok _ (by omega) (by omega), Option.bind_some, if_pos rfl, if_pos (by decide), w64 (by omega) (by omega)]
    rfl
  · simp only [impl_numbers.l0]
    rw [if_pos (by decide), if_pos (by decide), if_pos (by simp), show rdOf ByteArray.empty [bs (Lib.itoa s.f0), bs (Lib.itoa s.f1 ++ [120])] 1 = bs (Lib.itoa s.f1 ++ [120]) from rfl, number_bad _ (by omega) (by omega)]
    rfl
theorem x_empty : Ev (fun k => impl_readSamples.f k (bs ([] ++ [120]))) ([], false) := by
  unfold impl_readSamples.f
  have hp := parts_eq [[120]] (by decide) (by decide) (by decide) (by decide)
  rw [Lib.join_one] at hp
  rw [List.nil_append, hp]
  refine Ev.step (f := fun k => (impl_numbers.f k (bs [120]) (⟨#[61]⟩ : ByteArray) 2).bind fun bt => (if bt.2 = true then (if 0 < (bt.1.length : Int) then (if 1 < (bt.1.length : Int) then (if ([] : List Smp).length < 8796093022208 then (impl_readSamples.l0 k (([] : List Smp) ++ [(⟨rd bt.1 0, rd bt.1 1⟩ : Smp)]) [bs [120]] 1 1) else (none)) else (none)) else (none)) else (some (([] : List Smp), false)))) (fun k => ?_) ?_
  · simp only [impl_readSamples.l0]
    rw [Option.bind_some, if_pos (by decide), if_pos (by decide), if_pos (by decide), w64 (n := 0 + 1) (by omega) (by omega)]; rfl
  · have hn : Ev (fun k => impl_numbers.f k (bs [120]) (⟨#[61]⟩ : ByteArray) 2) ([], false) := by
      have hsp := splitN_join 61 [[120]] (wrap64 (2 + 1)) (by decide) (by rw [w64 (by omega) (by omega)]; decide) (by rw [w64 (by omega) (by omega)]; omega) (by decide) (by decide)
      rw [Lib.join_one] at hsp
      unfold impl_numbers.f
      rw [show (⟨#[61]⟩ : ByteArray) = bs [61] from rfl, hsp]
      exact Ev.now _
    exact Ev.bind hn (Ev.now _)
theorem join_last (c x : UInt8) (a : List UInt8) : ∀ ps : List (List UInt8), Lib.join (ps ++ [a]) [c] ++ [x] = Lib.join (ps ++ [a ++ [x]]) [c]
  | [] => by rw [List.nil_append, List.nil_append, Lib.join_one, Lib.join_one]
  | [p] => by
    show Lib.join [p, a] [c] ++ [x] = Lib.join [p, a ++ [x]] [c]
    rw [join_cons2, join_cons2, Lib.join_one, Lib.join_one, List.append_assoc, List.cons_append]
  | p :: q :: r => by
    have := join_last c x a (q :: r)
    simp only [List.cons_append] at this ⊢
    rw [join_cons2, join_cons2, List.append_assoc, List.cons_append, this]
theorem readSamples_bad (l : List Smp) (h : Gs l) (hl : l.length ≤ 8) : ∃ m, Ev (fun k => impl_readSamples.f k (bs (txt l ++ [120]))) (m, false) := by
  rcases List.eq_nil_or_concat l with rfl | ⟨m, s, rfl⟩
  · exact ⟨[], x_empty⟩
  · rw [List.concat_eq_append] at h hl ⊢
    have hl' : m.length ≤ 7 := by rw [List.length_append, List.length_singleton] at hl; omega
    have hgm : Gs m := ⟨(List.pairwise_append.1 h.1).1, fun x hx => h.2 x (List.mem_append.2 (.inl hx))⟩
    have hs := h.2 s (List.mem_append.2 (.inr (List.mem_singleton.2 rfl)))
    have hlen := txt_length (m ++ [s]) h hl
    have e : txt (m ++ [s]) ++ [120] = Lib.join (m.map pt ++ [pt s ++ [120]]) [32] := by
      unfold txt; rw [List.map_append]; exact join_last 32 120 (pt s) (m.map pt)
    have hp : impl_parts.f (bs (txt (m ++ [s]) ++ [120])) = some ((m.map pt ++ [pt s ++ [120]]).map bs) := by
      rw [e]
      refine parts_eq _ (by rw [← e]; simp) (by rw [List.length_append, List.length_map]; show m.length + 1 ≤ 8; omega) (fun p hp => ?_) (by rw [← e, List.length_append]; simp; omega)
      rcases List.mem_append.1 hp with hp | hp
      · obtain ⟨x, _, rfl⟩ := List.mem_map.1 hp; exact pt_free x
      · rw [List.mem_singleton] at hp; subst hp; intro hm
        rcases List.mem_append.1 hm with hm | hm
        · exact pt_free s hm
        · exact absurd (List.mem_singleton.1 hm) (by decide)
    refine ⟨[], ?_⟩
    unfold impl_readSamples.f
    rw [hp]
    have hql : ((m.map pt ++ [pt s ++ [120]]).map bs).length = m.length + 1 := by rw [List.length_map, List.length_append, List.length_map]; rfl
    refine readSamples_loop m hgm (by omega) _ (by omega) (fun i hi => ?_) (by omega) ([], false) ?_ _ 0 rfl (by omega)
    · rw [List.getElem?_map, List.getElem?_append_left (by rw [List.length_map]; exact hi), List.getElem?_map, List.getElem?_eq_getElem hi]; rfl
    · obtain ⟨n, hn⟩ := x_numbers_bad s hs
      have hqi : rdOf ByteArray.empty ((m.map pt ++ [pt s ++ [120]]).map bs) (m.length : Int) = bs (pt s ++ [120]) := by
        rw [rdB_bytes _ m.length (by omega)]
        apply Option.some.inj
        rw [← List.getElem?_eq_getElem, List.getElem?_map, List.getElem?_append_right (by rw [List.length_map]; omega), List.length_map]; simp
      refine Ev.step (f := fun k => (impl_numbers.f k (bs (pt s ++ [120])) (⟨#[61]⟩ : ByteArray) 2).bind fun bt => (if bt.2 = true then (if 0 < (bt.1.length : Int) then (if 1 < (bt.1.length : Int) then (if m.length < 8796093022208 then (impl_readSamples.l0 k (m ++ [(⟨rd bt.1 0, rd bt.1 1⟩ : Smp)]) ((m.map pt ++ [pt s ++ [120]]).map bs) (((m.map pt ++ [pt s ++ [120]]).map bs).length : Int) (wrap64 ((m.length : Int) + 1))) else (none)) else (none)) else (none)) else (some (([] : List Smp), false)))) (fun k => ?_) ?_
      · simp only [impl_readSamples.l0]
        rw [if_pos (by omega), if_pos (by omega), if_pos (by omega), hqi]
      · exact Ev.bind hn (Ev.now _)
def key12 : ByteArray := bs [114, 97, 119, 47, 48, 48, 48, 48, 48, 49, 45, 48, 48, 48, 48, 48, 50]
theorem itoa_a : Lib.itoa 1000001 = [49, 48, 48, 48, 48, 48, 49] := by simp [Lib.itoa, Lib.decDigits]
theorem itoa_b : Lib.itoa 1000002 = [49, 48, 48, 48, 48, 48, 50] := by simp [Lib.itoa, Lib.decDigits]
theorem six_a : impl_six.f 1 = some (bs [48, 48, 48, 48, 48, 49]) := by
  unfold impl_six.f
  rw [w64 (n := 1000000 + 1) (by omega) (by omega), show (1000000 : Int) + 1 = 1000001 from rfl, itoa_f _ (by omega) (by omega), itoa_a]; rfl
theorem six_b : impl_six.f 2 = some (bs [48, 48, 48, 48, 48, 50]) := by
  unfold impl_six.f
  rw [w64 (n := 1000000 + 2) (by omega) (by omega), show (1000000 : Int) + 2 = 1000002 from rfl, itoa_f _ (by omega) (by omega), itoa_b]; rfl
theorem dataKey_eq : impl_DataKey.f 0 1 2 = some (key12, 0) := by
  unfold impl_DataKey.f impl_isTier.f impl_isSix.f impl_dataKey.f
  simp only [within_eq, Option.bind_some]
  rw [six_a, six_b]; rfl
theorem readSix_a : impl_readSix.f (bs [48, 48, 48, 48, 48, 49]) = some (1, true) := by
  unfold impl_readSix.f
  rw [if_pos (by decide)]
  unfold sixV
  rw [bs_data, show Lib.atoiAll [48, 48, 48, 48, 48, 49] = .ok 1 by decide]
  simp only
  rw [if_pos (by decide), six_a]; simp
theorem readSix_b : impl_readSix.f (bs [48, 48, 48, 48, 48, 50]) = some (2, true) := by
  unfold impl_readSix.f
  rw [if_pos (by decide)]
  unfold sixV
  rw [bs_data, show Lib.atoiAll [48, 48, 48, 48, 48, 50] = .ok 2 by decide]
  simp only
  rw [if_pos (by decide), six_b]; simp
theorem cut12 : strings_CutPrefix.f key12 (⟨#[114, 97, 119, 47]⟩ : ByteArray) = some (bs [48, 48, 48, 48, 48, 49, 45, 48, 48, 48, 48, 48, 50], true) := by rfl
theorem readDataKey_eq : Ev (fun k => impl_readDataKey.f k key12) (0, 1, 2, true) := by
  unfold impl_readDataKey.f impl_dataPrefixes.f
  simp only [Option.bind_some]
  refine Ev.step (f := fun k => impl_readDataKey.j1 k key12 0 (bs [48, 48, 48, 48, 48, 49, 45, 48, 48, 48, 48, 48, 50]) [(⟨#[114, 97, 119, 47]⟩ : ByteArray), ⟨#[116, 49, 47]⟩, ⟨#[116, 50, 47]⟩] 3 0 true) (fun k => ?_) (Ev.step (f := fun _ => some (0, 1, 2, true)) (fun k => ?_) (Ev.now _))
  · simp only [impl_readDataKey.l0]
    rw [if_pos (by decide), if_pos (by decide), if_pos (by decide), show rdOf ByteArray.empty [(⟨#[114, 97, 119, 47]⟩ : ByteArray), ⟨#[116, 49, 47]⟩, ⟨#[116, 50, 47]⟩] 0 = ⟨#[114, 97, 119, 47]⟩ from rfl, cut12]
    simp only [Option.bind_some, if_true]
    rw [if_pos (by decide), if_pos (by decide)]; rfl
  · simp only [impl_readDataKey.j1, if_true]
    rw [if_pos (by decide), if_pos (by decide), show (bs [48, 48, 48, 48, 48, 49, 45, 48, 48, 48, 48, 48, 50]).extract 0 6 = bs [48, 48, 48, 48, 48, 49] from rfl, readSix_a]
    simp only [Option.bind_some, if_true]
    rw [if_pos (by decide), show (bs [48, 48, 48, 48, 48, 49, 45, 48, 48, 48, 48, 48, 50]).extract 7 (bs [48, 48, 48, 48, 48, 49, 45, 48, 48, 48, 48, 48, 50]).size = bs [48, 48, 48, 48, 48, 50] from rfl, readSix_b]
    rfl
theorem entryOK_ev : Ev (fun k => impl_entryOK.f k 0 0 60 key12) true := by
  unfold impl_entryOK.f
  refine Ev.bind readDataKey_eq ?_
  simp only [if_true]
  rw [isRange_eq]
  exact Ev.now _
def aggT (g : Ag) (c : Int) : Int × Int × Int × Int × Int × Int × Int := (g.1, g.2.1, g.2.2.1, g.2.2.2.1, g.2.2.2.2.1, g.2.2.2.2.2, c)
theorem windowOf_of (b : List UInt8) (hb : b.length ≤ 60000) (f t : Int) (h0 : 0 ≤ f) (hft : f ≤ t) (ht : t ≤ 100000) (r : Int × Int × Int × Int × Int × Int × Int)
    (hr : Ev (fun k => impl_windowOf.f k 0 0 60 key12 (bs b) f t) r) : Ev (fun k => impl_WindowOf.f k 0 0 60 key12 (bs b) f t) r := by
  have hlong : impl_isLong.f [bs b] = some false := by
    unfold impl_isLong.f
    rw [if_pos (by simp)]
    have : tooLong (bs b) = false := decide_eq_false (by rw [bs_size]; omega)
    simp [this]
  unfold impl_WindowOf.f
  rw [hlong]
  simp only [Option.bind_some]
  refine Ev.bind entryOK_ev ?_
  rw [isRange_eq, decide_eq_true (show 0 ≤ f ∧ f ≤ t ∧ t ≤ 100000 by omega)]
  simp only [Option.bind_some]
  rw [first_eq _ (by simp)]
  simp only [firstV, yesV, Option.bind_some, Bool.not_true, Bool.false_eq_true, if_false, if_true]
  exact Ev.bind hr (Ev.now _)
theorem windowOf_ok (l : List Smp) (h : Gs l) (hl : l.length ≤ 8) (f t : Int) (h0 : 0 ≤ f) (hft : f ≤ t) (ht : t ≤ 100000) :
    Ev (fun k => impl_WindowOf.f k 0 0 60 key12 (bs (txt l)) f t) (aggT (agg (vals (inR f t l))) 0) := by
  refine windowOf_of (txt l) (by have := txt_length l h hl; omega) f t h0 hft ht _ ?_
  unfold impl_windowOf.f
  simp only [if_true]
  refine Ev.bind (readSamples_ok l h hl) ?_
  simp only [if_true]
  refine Ev.bind (samplesIn_ev l f t (by omega) (by omega) (by omega)) ?_
  refine Ev.bind (aggOf_ev _ (fun s hs => by have := h.2 s (List.mem_filter.1 hs).1; omega) (Nat.le_trans (List.length_filter_le _ _) (by omega))) ?_
  exact Ev.now _
theorem windowOf_bad (l : List Smp) (h : Gs l) (hl : l.length ≤ 8) (f t : Int) (h0 : 0 ≤ f) (hft : f ≤ t) (ht : t ≤ 100000) :
    Ev (fun k => impl_WindowOf.f k 0 0 60 key12 (bs (txt l ++ [120])) f t) (0, 0, 0, 0, 0, 0, 17) := by
  refine windowOf_of (txt l ++ [120]) (by have := txt_length l h hl; rw [List.length_append]; simp; omega) f t h0 hft ht _ ?_
  unfold impl_windowOf.f
  simp only [if_true]
  obtain ⟨m, hm⟩ := readSamples_bad l h hl
  exact Ev.bind hm (Ev.now _)
theorem FnWindow : laws_FnWindow.Pure := by
  intro l0 l1 _ _ hw0 _ _ hw1
  refine Ev.rounds ?_
  have hb0 := bytes_of_wf l0 hw0
  have hb1 := bytes_of_wf l1 hw1
  by_cases c0 : (l0.length : Int) > 1048576
  · refine Ev.congr (f := fun k => laws_FnWindow.j0 k l0 l1 true) (fun k => by unfold laws_FnWindow.f; rw [if_pos c0]) ?_
    exact Ev.step (f := fun _ => some true) (fun k => by simp [laws_FnWindow.j0]) (Ev.now _)
  · by_cases c1 : (l1.length : Int) > 1048576
    · refine Ev.congr (f := fun k => laws_FnWindow.j0 k l0 l1 true) (fun k => by unfold laws_FnWindow.f; rw [if_neg c0, decide_eq_true c1]) ?_
      exact Ev.step (f := fun _ => some true) (fun k => by simp [laws_FnWindow.j0]) (Ev.now _)
    · refine Ev.congr (f := fun k => laws_FnWindow.j0 k l0 l1 false) (fun k => by unfold laws_FnWindow.f; rw [if_neg c0, decide_eq_false c1]) ?_
      obtain ⟨m, e0, r0, n0⟩ := samplesOf_ok l0 hb0 0 8 (by omega) (by omega) (by omega) (by omega)
      obtain ⟨f, e1, f0, f1⟩ := at_ok l1 hb1 (by omega) 0 20 (by omega) (by omega) (by omega) (by omega)
      obtain ⟨t, e2, t0, t1⟩ := at_ok l1 hb1 (by omega) 1 20 (by omega) (by omega) (by omega) (by omega)
      have hg : Gs m := ⟨r0.1, fun s hs => by have := r0.2 s hs; omega⟩
      have hl : m.length ≤ 8 := by omega
      have hx := txt_length m hg hl
      refine Ev.step (f := fun k => (spec_SamplesOf.f k l0 0 8).bind fun t383 => ((impl_SamplesText.f k t383).bind fun bt386 => ((impl_WindowOf.f k 0 0 60 key12 bt386.1 f (f + t)).bind fun bt392 => ((impl_ModelFold.f k t383 f (f + t)).bind fun bt400 => (if bt386.1.size + 1 ≤ 9223372036854775807 then ((impl_WindowOf.f k 0 0 60 key12 (bt386.1 ++ (⟨#[120]⟩ : ByteArray)) f (f + t)).bind fun bt408 => (if bt386.2 = 0 then (if bt392.2.2.2.2.2.2 = 0 then (if bt400.2.2.2.2.2.2 = 0 then (if (bt392.1 == bt400.1 && (bt392.2.1 == bt400.2.1 && (bt392.2.2.1 == bt400.2.2.1 && (bt392.2.2.2.1 == bt400.2.2.2.1 && (bt392.2.2.2.2.1 == bt400.2.2.2.2.1 && (bt392.2.2.2.2.2.1 == bt400.2.2.2.2.2.1)))))) = true then (some (bt408.2.2.2.2.2.2 == 17)) else (some false)) else (some false)) else (some false)) else (some false))) else (none)))))) (fun k => ?_) ?_
      · simp only [laws_FnWindow.j0, e1, e2, dataKey_eq, Option.bind_some, Bool.false_eq_true, if_false, if_true]
        rw [w64 (n := f + t) (by omega) (by omega)]
      · refine Ev.bind e0 ?_
        refine Ev.bind (samplesText_ev m hg hl) ?_
        refine Ev.bind (windowOf_ok m hg hl f (f + t) f0 (by omega) (by omega)) ?_
        refine Ev.bind (modelFold_ev m hg (by omega) f (f + t) f0 (by omega) (by omega)) ?_
        simp only [if_pos (show (bs (txt m)).size + 1 ≤ 9223372036854775807 by rw [bs_size]; omega), show bs (txt m) ++ (⟨#[120]⟩ : ByteArray) = bs (txt m ++ [120]) from bs_append _ _]
        refine Ev.bind (windowOf_bad m hg hl f (f + t) f0 (by omega) (by omega)) ?_
        simp only [aggT, if_true, beq_self_eq_true, Bool.and_self]
        exact Ev.now _

end Go.Proofs.YtmhbkgbgajpahaaGreatDoor.Pure
