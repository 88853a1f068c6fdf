/- Written by this session's own printer: functions of the program as plain functions, and that each call comes to what its plain function says; no conditions but those in each statement. -/
import Derived.Test.YtmhbkgbgajpahaaGreatDoorPFnWindowx0
import Derived.Test.YtmhbkgbgajpahaaGreatDoorPFnWindowx2
import Derived.Test.YtmhbkgbgajpahaaGreatDoorPFnWindowx3
import Derived.Test.YtmhbkgbgajpahaaGreatDoorPFnWindowx4
import Derived.Test.YtmhbkgbgajpahaaGreatDoorPFnWindowx8
namespace Go.Proofs.YtmhbkgbgajpahaaGreatDoor.PFnWindow
open Go.RowKit Go.Proofs.YtmhbkgbgajpahaaGreatDoorW.PrintWords Go.Proofs.YtmhbkgbgajpahaaGreatDoorW.PrintLast Go.Proofs.YtmhbkgbgajpahaaGreatDoorW.PrintMore
attribute [local go_sem] max2_int min2_int max_two min_two max_three min_three max_four min_four   -- for this text's walks alone
set_option linter.unusedVariables false
set_option linter.unusedSimpArgs false

/-! ### impl_WindowOf: function 10 -/
def impl_WindowOf.f (k : Nat) (a0_0 : Int) (a0_1 : Int) (a0_2 : Int) (a0_3 : ByteArray) (a1 : ByteArray) (a2 : Int) (a3 : Int) : Option (Int × Int × Int × Int × Int × Int × Int) := (impl_isLong.f (([a1] : List ByteArray))).bind fun t351 => ((impl_entryOK.f k a0_0 a0_1 a0_2 a0_3).bind fun t352 => ((impl_isRange.f a2 a3).bind fun t353 => ((impl_first.f (([(Sum.inl (t351) : AnyV), (Sum.inr (Sum.inl (2)) : AnyV), (Sum.inl (!t352) : AnyV), (Sum.inr (Sum.inl (1)) : AnyV), (Sum.inl (!t353) : AnyV), (Sum.inr (Sum.inl (4)) : AnyV)] : List AnyV))).bind fun t357 => (if t357 = 0 then ((impl_windowOf.f k a0_0 a0_1 a0_2 a0_3 a1 a2 a3).bind fun bt358 => (some (bt358.1, bt358.2.1, bt358.2.2.1, bt358.2.2.2.1, bt358.2.2.2.2.1, bt358.2.2.2.2.2.1, bt358.2.2.2.2.2.2))) else (some (0, 0, 0, 0, 0, 0, t357))))))
theorem impl_WindowOf.mono : ∀ a0 a1 a2 a3 a4 a5 a6 k, LeO (impl_WindowOf.f k a0 a1 a2 a3 a4 a5 a6) (impl_WindowOf.f (k + 1) a0 a1 a2 a3 a4 a5 a6) := by
 intro a0 a1 a2 a3 a4 a5 a6 k
 unfold impl_WindowOf.f
 repeat' first
   | (with_reducible exact impl_entryOK.mono _ _ _ _ _)
   | (with_reducible exact impl_windowOf.mono _ _ _ _ _ _ _ _)
   | (with_reducible exact LeO.refl _)
   | (with_reducible exact LeO.none _)
   | (with_reducible refine LeO.ite ?_ ?_)
   | (with_reducible refine LeO.bind ?_ (fun _ => ?_))
   | exact impl_entryOK.mono _ _ _ _ _
   | exact impl_windowOf.mono _ _ _ _ _ _ _ _
   | exact LeO.none _
   | refine LeO.ite ?_ ?_
   | refine LeO.bind ?_ (fun _ => ?_)
def impl_WindowOf.T1 : Bool × List (List Nat × List Nat) := (true, [([], []), ([0], [0]), ([1], [1]), ([2], [2]), ([], []), ([], []), ([5, 2], [5]), ([6], [6]), ([7], [7]), ([], []), ([], []), ([], []), ([10, 11, 6], [10, 11]), ([12], [12]), ([13], [13]), ([], []), ([3, 4, 8, 9, 14, 15], [3, 4, 8, 9, 14, 15]), ([16, 12], [16]), ([17, 17, 0, 1, 2, 3, 4, 5, 6, 7, 8, 9, 10, 11, 12, 13, 14, 15, 16, 17], [17])])
def impl_WindowOf.B1 : List Nat := [0, 1, 3, 7, 0, 0, 39, 103, 231, 0, 0, 0, 3175, 7271, 15463, 0, 65535, 131071, 262143]
theorem impl_WindowOf.tab1 : rtab .any (opsOf Tryz.f10 1) = impl_WindowOf.T1 := by kernel_rfl
theorem impl_WindowOf.bits1 : waitsOk impl_WindowOf.T1.2 impl_WindowOf.B1 = true := by kernel_rfl
set_option maxHeartbeats 8000000 in
set_option maxRecDepth 100000 in
theorem impl_WindowOf.calls (k : Nat) (a0_0 : Int) (a0_1 : Int) (a0_2 : Int) (a0_3 : ByteArray) (a1 : ByteArray) (a2 : Int) (a3 : Int) (r1 : Int) (r2 : Int) (r3 : Int) (r4 : Int) (r5 : Int) (r6 : Int) (r7 : Int) (w : World) (hG : Gl w) (h : impl_WindowOf.f k a0_0 a0_1 a0_2 a0_3 a1 a2 a3 = some (r1, r2, r3, r4, r5, r6, r7)) :
  Calls Tryz.prog 10 #[.agg #[.int .i64 a0_0, .int .i64 a0_1, .int .i64 a0_2, .string a0_3], .string a1, .int .i64 a2, .int .i64 a3] w fun e w' => e = .returned (.tuple #[.agg #[.int .i64 r1, .int .i64 r2, .int .i64 r3, .int .i64 r4, .int .i64 r5, .int .i64 r6], .int .i64 r7]) ∧ Below w.heap.size w w' := by
 have hu34 := Tryz.underlying34
 have hu30 := Tryz.underlying30
 have HB := Aside0.mk (Below.refl w.heap.size w)
 have HG := Aside0.mk hG
 clear hG
 have H : ((impl_isLong.f (([a1] : List ByteArray))).bind fun t351 => ((impl_entryOK.f k a0_0 a0_1 a0_2 a0_3).bind fun t352 => ((impl_isRange.f a2 a3).bind fun t353 => ((impl_first.f (([(Sum.inl (t351) : AnyV), (Sum.inr (Sum.inl (2)) : AnyV), (Sum.inl (!t352) : AnyV), (Sum.inr (Sum.inl (1)) : AnyV), (Sum.inl (!t353) : AnyV), (Sum.inr (Sum.inl (4)) : AnyV)] : List AnyV))).bind fun t357 => (if t357 = 0 then ((impl_windowOf.f k a0_0 a0_1 a0_2 a0_3 a1 a2 a3).bind fun bt358 => (some (bt358.1, bt358.2.1, bt358.2.2.1, bt358.2.2.2.1, bt358.2.2.2.2.1, bt358.2.2.2.2.2.1, bt358.2.2.2.2.2.2))) else (some (0, 0, 0, 0, 0, 0, t357))))))) = some (r1, r2, r3, r4, r5, r6, r7) := h
 clear h
 obtain ⟨y348, hy348⟩ : ∃ y_ : List ByteArray, y_ = (([a1] : List ByteArray)) := ⟨_, rfl⟩
 replace H : ((impl_isLong.f y348).bind fun t351 => ((impl_entryOK.f k a0_0 a0_1 a0_2 a0_3).bind fun t352 => ((impl_isRange.f a2 a3).bind fun t353 => ((impl_first.f (([(Sum.inl (t351) : AnyV), (Sum.inr (Sum.inl (2)) : AnyV), (Sum.inl (!t352) : AnyV), (Sum.inr (Sum.inl (1)) : AnyV), (Sum.inl (!t353) : AnyV), (Sum.inr (Sum.inl (4)) : AnyV)] : List AnyV))).bind fun t357 => (if t357 = 0 then ((impl_windowOf.f k a0_0 a0_1 a0_2 a0_3 a1 a2 a3).bind fun bt358 => (some (bt358.1, bt358.2.1, bt358.2.2.1, bt358.2.2.2.1, bt358.2.2.2.2.1, bt358.2.2.2.2.2.1, bt358.2.2.2.2.2.2))) else (some (0, 0, 0, 0, 0, 0, t357))))))) = some (r1, r2, r3, r4, r5, r6, r7) := by first | (rw [hy348]; with_reducible exact H) | (have H2_ := (Option.bind_some _ _).symm.trans H; rw [hy348]; with_reducible exact H2_) | (have H2_ := (Option.bind_some _ _).symm.trans H; with_reducible exact H2_) | with_reducible exact H | (rw [hy348]; exact H) | exact H
 have Ny348 := Aside0.mk hy348
 clear hy348
 replace H := Option.bind_eq_some_iff.mp H
 obtain ⟨t351, A50, H⟩ := H
 replace H : ((impl_entryOK.f k a0_0 a0_1 a0_2 a0_3).bind fun t352 => ((impl_isRange.f a2 a3).bind fun t353 => ((impl_first.f (([(Sum.inl (t351) : AnyV), (Sum.inr (Sum.inl (2)) : AnyV), (Sum.inl (!t352) : AnyV), (Sum.inr (Sum.inl (1)) : AnyV), (Sum.inl (!t353) : AnyV), (Sum.inr (Sum.inl (4)) : AnyV)] : List AnyV))).bind fun t357 => (if t357 = 0 then ((impl_windowOf.f k a0_0 a0_1 a0_2 a0_3 a1 a2 a3).bind fun bt358 => (some (bt358.1, bt358.2.1, bt358.2.2.1, bt358.2.2.2.1, bt358.2.2.2.2.1, bt358.2.2.2.2.2.1, bt358.2.2.2.2.2.2))) else (some (0, 0, 0, 0, 0, 0, t357)))))) = some (r1, r2, r3, r4, r5, r6, r7) := H
 have A5 := Aside0.mk A50
 clear A50
 replace H := Option.bind_eq_some_iff.mp H
 obtain ⟨t352, A60, H⟩ := H
 replace H : ((impl_isRange.f a2 a3).bind fun t353 => ((impl_first.f (([(Sum.inl (t351) : AnyV), (Sum.inr (Sum.inl (2)) : AnyV), (Sum.inl (!t352) : AnyV), (Sum.inr (Sum.inl (1)) : AnyV), (Sum.inl (!t353) : AnyV), (Sum.inr (Sum.inl (4)) : AnyV)] : List AnyV))).bind fun t357 => (if t357 = 0 then ((impl_windowOf.f k a0_0 a0_1 a0_2 a0_3 a1 a2 a3).bind fun bt358 => (some (bt358.1, bt358.2.1, bt358.2.2.1, bt358.2.2.2.1, bt358.2.2.2.2.1, bt358.2.2.2.2.2.1, bt358.2.2.2.2.2.2))) else (some (0, 0, 0, 0, 0, 0, t357))))) = some (r1, r2, r3, r4, r5, r6, r7) := H
 have A6 := Aside0.mk A60
 clear A60
 replace H := Option.bind_eq_some_iff.mp H
 obtain ⟨t353, A70, H⟩ := H
 replace H : ((impl_first.f (([(Sum.inl (t351) : AnyV), (Sum.inr (Sum.inl (2)) : AnyV), (Sum.inl (!t352) : AnyV), (Sum.inr (Sum.inl (1)) : AnyV), (Sum.inl (!t353) : AnyV), (Sum.inr (Sum.inl (4)) : AnyV)] : List AnyV))).bind fun t357 => (if t357 = 0 then ((impl_windowOf.f k a0_0 a0_1 a0_2 a0_3 a1 a2 a3).bind fun bt358 => (some (bt358.1, bt358.2.1, bt358.2.2.1, bt358.2.2.2.1, bt358.2.2.2.2.1, bt358.2.2.2.2.2.1, bt358.2.2.2.2.2.2))) else (some (0, 0, 0, 0, 0, 0, t357)))) = some (r1, r2, r3, r4, r5, r6, r7) := H
 have A7 := Aside0.mk A70
 clear A70
 obtain ⟨y354, hy354⟩ : ∃ y_ : List AnyV, y_ = (([(Sum.inl (t351) : AnyV), (Sum.inr (Sum.inl (2)) : AnyV), (Sum.inl (!t352) : AnyV), (Sum.inr (Sum.inl (1)) : AnyV), (Sum.inl (!t353) : AnyV), (Sum.inr (Sum.inl (4)) : AnyV)] : List AnyV)) := ⟨_, rfl⟩
 replace H : ((impl_first.f y354).bind fun t357 => (if t357 = 0 then ((impl_windowOf.f k a0_0 a0_1 a0_2 a0_3 a1 a2 a3).bind fun bt358 => (some (bt358.1, bt358.2.1, bt358.2.2.1, bt358.2.2.2.1, bt358.2.2.2.2.1, bt358.2.2.2.2.2.1, bt358.2.2.2.2.2.2))) else (some (0, 0, 0, 0, 0, 0, t357)))) = some (r1, r2, r3, r4, r5, r6, r7) := by first | (rw [hy354]; with_reducible exact H) | (have H2_ := (Option.bind_some _ _).symm.trans H; rw [hy354]; with_reducible exact H2_) | (have H2_ := (Option.bind_some _ _).symm.trans H; with_reducible exact H2_) | with_reducible exact H | (rw [hy354]; exact H) | exact H
 have Ny354 := Aside0.mk hy354
 clear hy354
 replace H := Option.bind_eq_some_iff.mp H
 obtain ⟨t357, A80, H⟩ := H
 replace H : (if t357 = 0 then ((impl_windowOf.f k a0_0 a0_1 a0_2 a0_3 a1 a2 a3).bind fun bt358 => (some (bt358.1, bt358.2.1, bt358.2.2.1, bt358.2.2.2.1, bt358.2.2.2.2.1, bt358.2.2.2.2.2.1, bt358.2.2.2.2.2.2))) else (some (0, 0, 0, 0, 0, 0, t357))) = some (r1, r2, r3, r4, r5, r6, r7) := H
 have A8 := Aside0.mk A80
 clear A80
 by_cases c9 : t357 = 0
 ·rw [if_pos c9] at H
  have c9b0 : (t357 == 0) = true := beq_iff_eq.mpr c9
  have c9b1 : (t357 != 0) = false := bne_eq_false_iff_eq.mpr c9
  clear c9
  replace H := Option.bind_eq_some_iff.mp H
  obtain ⟨⟨t358, t359, t360, t361, t362, t363, t364⟩, A100, H⟩ := H
  replace H : (some (t358, t359, t360, t361, t362, t363, t364)) = some (r1, r2, r3, r4, r5, r6, r7) := H
  have A10 := Aside0.mk A100
  clear A100
  simp only [Option.some.injEq, Prod.mk.injEq] at H
  obtain ⟨rfl, rfl, rfl, rfl, rfl, rfl, rfl⟩ := H
  go_enter Tryz.func10, Tryz.ntmps10
  try go_wp2_with (first | ((with_reducible refine gate_dst (N := 4) rfl ?_); refine box_event ?hg (N := 4) ?hd (cs := #[.int .i64 a0_0, .int .i64 a0_1, .int .i64 a0_2, .string a0_3]) (t := 34) ?hr ?_; (case hd => rfl); (case hg => rfl); (case hr => first | (go_simp; done) | (go_simp; rfl)); intro gb346 hg w11 hbox hb; have n0_ := Aside0.mk (below_step (bel_) hb); have n1_ := Aside0.mk (hbox); have n2_ := Aside0.mk ((by rw [hg]; exact (below_size (bel_)) : w.heap.size ≤ gb346)); have n3_ := Aside0.mk ((by rw [hg]; exact (below_size (bel_)) : w.heap.size ≤ gb346)); clear HB; have HB := n0_; have BK346 := n1_; have GW346 := n2_; have GE346 := n3_; clear n0_ n1_ n2_ n3_; clear hb hbox hg) | ((with_reducible refine gate_dst (N := 8) rfl ?_); refine box_event ?hg (N := 8) ?hd (cs := #[.int .i64 0, .int .i64 0, .int .i64 0, .int .i64 0, .int .i64 0, .int .i64 0]) (t := 30) ?hr ?_; (case hd => rfl); (case hg => rfl); (case hr => first | (go_simp; done) | (go_simp; rfl)); intro gb347 hg w12 hbox hb; have n0_ := Aside0.mk (blk_below (g := gb346) (o := .cells #[.int .i64 a0_0, .int .i64 a0_1, .int .i64 a0_2, .string a0_3] 34 (0, 0)) (by (with_reducible repeat (first | refine blk_drewN ?_ _ | refine blk_drew ?_ | refine blk_alloc ?_ _)); exact BK346.out) hb); have n1_ := Aside0.mk (below_step (bel_) hb); have n2_ := Aside0.mk (hbox); have n3_ := Aside0.mk ((by rw [hg]; exact (below_size (bel_)) : w.heap.size ≤ gb347)); have n4_ := Aside0.mk ((by rw [hg]; exact (below_size (bel_)) : w.heap.size ≤ gb347)); have n5_ := Aside0.mk ((by rw [hg]; exact Nat.ne_of_lt (blk_lt (g := gb346) (o := .cells #[.int .i64 a0_0, .int .i64 a0_1, .int .i64 a0_2, .string a0_3] 34 (0, 0)) (by (with_reducible repeat (first | refine blk_drewN ?_ _ | refine blk_drew ?_ | refine blk_alloc ?_ _)); exact BK346.out)) : gb346 ≠ gb347)); have n6_ := Aside0.mk ((by rw [hg]; exact Nat.ne_of_gt (blk_lt (g := gb346) (o := .cells #[.int .i64 a0_0, .int .i64 a0_1, .int .i64 a0_2, .string a0_3] 34 (0, 0)) (by (with_reducible repeat (first | refine blk_drewN ?_ _ | refine blk_drew ?_ | refine blk_alloc ?_ _)); exact BK346.out)) : gb347 ≠ gb346)); clear BK346; clear HB; have BK346 := n0_; have HB := n1_; have BK347 := n2_; have GW347 := n3_; have GE347 := n4_; have NB346_347 := n5_; have NB347_346 := n6_; clear n0_ n1_ n2_ n3_ n4_ n5_ n6_; clear hb hbox hg))
  have n0_ := Aside0.mk (blk_drew BK346.out)
  have n1_ := Aside0.mk (blk_drew BK347.out)
  have n2_ := Aside0.mk (below_drew1 HB.out)
  clear BK346
  clear BK347
  clear HB
  have BK346 := n0_
  have BK347 := n1_
  have HB := n2_
  clear n0_ n1_ n2_
  refine start_ (n := 19) (S := fun w' => w'.cell? ⟨gb346, 0, none⟩ = some (.int .i64 a0_0) ∧ w'.cell? ⟨gb346, 1, none⟩ = some (.int .i64 a0_1) ∧ w'.cell? ⟨gb346, 2, none⟩ = some (.int .i64 a0_2) ∧ w'.cell? ⟨gb346, 3, none⟩ = some (.string a0_3)) (ds := []) (Bz 19 0) (by kernel_rfl) rfl (by kernel_rfl) ⟨(blk_cell BK346.out 0).trans rfl, (blk_cell BK346.out 1).trans rfl, (blk_cell BK346.out 2).trans rfl, (blk_cell BK346.out 3).trans rfl⟩ (fun hHeld => ?_); refine with_tabW impl_WindowOf.tab1 impl_WindowOf.bits1 (fun HT_ HW_ => ?_)
  generalize w12.drew = w13 at BK346 BK347 HB hHeld ⊢
  refine pv_ 0 (some 11) (Bz 19 1) ?_
  refine pv_ 4 (some 15) (Bz 19 17) ?_
  refine pv_ 9 (some 20) (Bz 19 529) ?_
  refine pv_ 10 (some 21) (Bz 19 1553) ?_
  refine pv_ 11 (some 22) (Bz 19 3601) ?_
  refine pv_ 15 (some 26) (Bz 19 36369) ?_
  refine tv_ 5 (some 16) (Bz 19 36401) ?_
  refine on_ 1 (some 12) (Bz 19 36403) (fun K hK => ?_)
  refine Kd.R_lit_step Kd.string _ 9 ?hg (N := 12) ?hd (xs := ([a1] : List ByteArray)) (inner := [.string a1]) (ok := fun _ => True) (okp := fun _ => True) ?hr ?hp (fun _ hk => hk) trivial (Below.refl _ _) (Nat.le_refl _) (by simp) ?_; (case hd => rfl); (case hg => rfl); (case hr => first | (go_simp; done) | (go_simp; rfl)); (case hp => exact (Reps.one (show Kd.M Kd.string _ _ _ a1 [.string a1] from rfl) (Reps.none _ _)))
  intro v349 w14 ho15 hb hg_ hnew_
  clear hg_ hnew_
  (first | rw [← Ny348.out] at ho15 | (simp only [Int.reduceToNat] at ho15; rw [← Ny348.out] at ho15))
  have n0_ := Aside0.mk (Kd.R_lower ho15 (below_size (bel_)))
  have n1_ := Aside0.mk (blk_below (g := gb346) (o := .cells #[.int .i64 a0_0, .int .i64 a0_1, .int .i64 a0_2, .string a0_3] 34 (0, 0)) (by (with_reducible repeat (first | refine blk_drewN ?_ _ | refine blk_drew ?_ | refine blk_alloc ?_ _)); exact BK346.out) hb)
  have n2_ := Aside0.mk (blk_below (g := gb347) (o := .cells #[.int .i64 0, .int .i64 0, .int .i64 0, .int .i64 0, .int .i64 0, .int .i64 0] 30 (0, 0)) (by (with_reducible repeat (first | refine blk_drewN ?_ _ | refine blk_drew ?_ | refine blk_alloc ?_ _)); exact BK347.out) hb)
  have n3_ := Aside0.mk (below_step (bel_) hb)
  clear BK346
  clear BK347
  clear HB
  have HO350 := n0_
  have BK346 := n1_
  have BK347 := n2_
  have HB := n3_
  clear n0_ n1_ n2_ n3_
  clear hb ho15
  obtain ⟨Ao16, co16, eo16⟩ := Kd.R_slice HO350.out
  (first | subst eo16 | (injection eo16 with f1_ f2_ f3_; have f4_ := f1_.symm; have f5_ := f3_.symm; clear f1_ f2_ f3_; subst f4_; subst f5_))
  refine hK.out _ _ ⟨(blk_cell BK346.out 0).trans rfl, (blk_cell BK346.out 1).trans rfl, (blk_cell BK346.out 2).trans rfl, (blk_cell BK346.out 3).trans rfl⟩ (fun hHeld => ?_)
  clear hK K
  refine norm_ (a' := ?_) ?_ ?_
  rotate_left
  ·show Act.put _ (some 12) _ = _
   simp only [Act.put, List.setIfInBounds_toArray, List.set_cons_zero, List.set_cons_succ, i64_w, i32_w]
   rfl
  refine on_ 2 (some 13) (Bz 19 36407) (fun K hK => ?_)
  refine goes_ Tryz.func37 (by kernel_rfl) rfl #[.slice Ao16 y348.length co16] (by rfl) rfl rfl maps_ ?_
  with_reducible refine (impl_isLong.calls _ _ y348 t351 _ ?side1 ?side2 A5.out).mono ?_
  (case side1 => repeat (first | exact (Kd.R_reads' HO350.out).2.2 | (with_reducible refine Kd.C_alloc ?_ _) | (with_reducible refine Kd.C_drewN ?_ _) | (with_reducible refine Kd.C_drew ?_)))
  (case side2 => exact (Kd.R_reads' HO350.out).2.1)
  rintro e w17 ⟨rfl, hb⟩
  refine ⟨_, rfl, ?_⟩
  have n0_ := Aside0.mk (Kd.R_below (by (with_reducible repeat (first | apply Kd.R_alloc | apply Kd.R_drewN | apply Kd.R_drew)); exact HO350.out) hb)
  have n1_ := Aside0.mk (blk_below (g := gb346) (o := .cells #[.int .i64 a0_0, .int .i64 a0_1, .int .i64 a0_2, .string a0_3] 34 (0, 0)) (by (with_reducible repeat (first | refine blk_drewN ?_ _ | refine blk_drew ?_ | refine blk_alloc ?_ _)); exact BK346.out) hb)
  have n2_ := Aside0.mk (blk_below (g := gb347) (o := .cells #[.int .i64 0, .int .i64 0, .int .i64 0, .int .i64 0, .int .i64 0, .int .i64 0] 30 (0, 0)) (by (with_reducible repeat (first | refine blk_drewN ?_ _ | refine blk_drew ?_ | refine blk_alloc ?_ _)); exact BK347.out) hb)
  have n3_ := Aside0.mk (below_step (bel_) hb)
  clear HO350
  clear BK346
  clear BK347
  clear HB
  have HO350 := n0_
  have BK346 := n1_
  have BK347 := n2_
  have HB := n3_
  clear n0_ n1_ n2_ n3_
  (try clear hb)
  (try clear hb2)
  (try clear hk)
  (try clear hi)
  refine hK.out _ _ ⟨(blk_cell BK346.out 0).trans rfl, (blk_cell BK346.out 1).trans rfl, (blk_cell BK346.out 2).trans rfl, (blk_cell BK346.out 3).trans rfl⟩ (fun hHeld => ?_)
  clear hK K
  refine norm_ (a' := ?_) ?_ ?_
  rotate_left
  ·show Act.put _ (some 13) _ = _
   simp only [Act.put, List.setIfInBounds_toArray, List.set_cons_zero, List.set_cons_succ, i64_w, i32_w]
   rfl
  refine pv_ 3 (some 14) (Bz 19 36415) ?_
  refine on_ 6 (some 17) (Bz 19 36479) (fun K hK => ?_)
  refine goes_ Tryz.func38 (by kernel_rfl) rfl #[.agg #[.int .i64 a0_0, .int .i64 a0_1, .int .i64 a0_2, .string a0_3]] (by rfl) rfl rfl maps_ ?_
  with_reducible refine (impl_entryOK.calls k a0_0 a0_1 a0_2 a0_3 t352 _ ?side1 A6.out).mono ?_
  (case side1 => exact Gl.below HG.out (bel_))
  rintro e w18 ⟨rfl, hb⟩
  refine ⟨_, rfl, ?_⟩
  have n0_ := Aside0.mk (Kd.R_below (by (with_reducible repeat (first | apply Kd.R_alloc | apply Kd.R_drewN | apply Kd.R_drew)); exact HO350.out) hb)
  have n1_ := Aside0.mk (blk_below (g := gb346) (o := .cells #[.int .i64 a0_0, .int .i64 a0_1, .int .i64 a0_2, .string a0_3] 34 (0, 0)) (by (with_reducible repeat (first | refine blk_drewN ?_ _ | refine blk_drew ?_ | refine blk_alloc ?_ _)); exact BK346.out) hb)
  have n2_ := Aside0.mk (blk_below (g := gb347) (o := .cells #[.int .i64 0, .int .i64 0, .int .i64 0, .int .i64 0, .int .i64 0, .int .i64 0] 30 (0, 0)) (by (with_reducible repeat (first | refine blk_drewN ?_ _ | refine blk_drew ?_ | refine blk_alloc ?_ _)); exact BK347.out) hb)
  have n3_ := Aside0.mk (below_step (bel_) hb)
  clear HO350
  clear BK346
  clear BK347
  clear HB
  have HO350 := n0_
  have BK346 := n1_
  have BK347 := n2_
  have HB := n3_
  clear n0_ n1_ n2_ n3_
  (try clear hb)
  (try clear hb2)
  (try clear hk)
  (try clear hi)
  refine hK.out _ _ ⟨(blk_cell BK346.out 0).trans rfl, (blk_cell BK346.out 1).trans rfl, (blk_cell BK346.out 2).trans rfl, (blk_cell BK346.out 3).trans rfl⟩ (fun hHeld => ?_)
  clear hK K
  refine norm_ (a' := ?_) ?_ ?_
  rotate_left
  ·show Act.put _ (some 17) _ = _
   simp only [Act.put, List.setIfInBounds_toArray, List.set_cons_zero, List.set_cons_succ, i64_w, i32_w]
   rfl
  refine pv_ 7 (some 18) (Bz 19 36607) ?_
  refine pv_ 8 (some 19) (Bz 19 36863) ?_
  refine on_ 12 (some 23) (Bz 19 40959) (fun K hK => ?_)
  refine goes_ Tryz.func39 (by kernel_rfl) rfl #[.int .i64 a2, .int .i64 a3] (by rfl) rfl rfl maps_ ?_
  with_reducible refine (impl_isRange.calls a2 a3 t353 _ A7.out).mono ?_
  rintro e w' ⟨rfl, ⟨nd, rfl⟩⟩
  refine ⟨_, rfl, ?_⟩
  refine hK.out _ _ ⟨(blk_cell BK346.out 0).trans rfl, (blk_cell BK346.out 1).trans rfl, (blk_cell BK346.out 2).trans rfl, (blk_cell BK346.out 3).trans rfl⟩ (fun hHeld => ?_)
  clear hK K
  refine norm_ (a' := ?_) ?_ ?_
  rotate_left
  ·show Act.put _ (some 23) _ = _
   simp only [Act.put, List.setIfInBounds_toArray, List.set_cons_zero, List.set_cons_succ, i64_w, i32_w]
   rfl
  refine pv_ 13 (some 24) (Bz 19 49151) ?_
  refine pv_ 14 (some 25) (Bz 19 65535) ?_
  refine on_ 16 (some 27) (Bz 19 131071) (fun K hK => ?_)
  refine Kd.R_lit_step kAny _ 20 ?hg (N := 27) ?hd (xs := ([(Sum.inl (t351) : AnyV), (Sum.inr (Sum.inl (2)) : AnyV), (Sum.inl (!t352) : AnyV), (Sum.inr (Sum.inl (1)) : AnyV), (Sum.inl (!t353) : AnyV), (Sum.inr (Sum.inl (4)) : AnyV)] : List AnyV)) (inner := [.iface 4 (.bool t351), .iface 3 (.int .i64 2), .iface 4 (.bool (!t352)), .iface 3 (.int .i64 1), .iface 4 (.bool (!t353)), .iface 3 (.int .i64 4)]) (ok := fun _ => True) (okp := fun _ => True) ?hr ?hp (fun _ hk => hk) trivial (Below.refl _ _) (Nat.le_refl _) (by simp) ?_; (case hd => rfl); (case hg => rfl); (case hr => first | (go_simp; done) | (go_simp; rfl)); (case hp => exact (Reps.one (show Kd.M kAny _ _ _ (Sum.inl (t351) : AnyV) [.iface 4 (.bool t351)] from rfl) (Reps.one (show Kd.M kAny _ _ _ (Sum.inr (Sum.inl (2)) : AnyV) [.iface 3 (.int .i64 2)] from rfl) (Reps.one (show Kd.M kAny _ _ _ (Sum.inl (!t352) : AnyV) [.iface 4 (.bool (!t352))] from rfl) (Reps.one (show Kd.M kAny _ _ _ (Sum.inr (Sum.inl (1)) : AnyV) [.iface 3 (.int .i64 1)] from rfl) (Reps.one (show Kd.M kAny _ _ _ (Sum.inl (!t353) : AnyV) [.iface 4 (.bool (!t353))] from rfl) (Reps.one (show Kd.M kAny _ _ _ (Sum.inr (Sum.inl (4)) : AnyV) [.iface 3 (.int .i64 4)] from rfl) (Reps.none _ _))))))))
  intro v355 w19 ho20 hb hg_ hnew_
  clear hg_ hnew_
  (first | rw [← Ny354.out] at ho20 | (simp only [Int.reduceToNat] at ho20; rw [← Ny354.out] at ho20))
  have n0_ := Aside0.mk (Kd.R_below (by (with_reducible repeat (first | apply Kd.R_alloc | apply Kd.R_drewN | apply Kd.R_drew)); exact HO350.out) hb)
  have n1_ := Aside0.mk (Kd.R_lower ho20 (below_size (bel_)))
  have n2_ := Aside0.mk (blk_below (g := gb346) (o := .cells #[.int .i64 a0_0, .int .i64 a0_1, .int .i64 a0_2, .string a0_3] 34 (0, 0)) (by (with_reducible repeat (first | refine blk_drewN ?_ _ | refine blk_drew ?_ | refine blk_alloc ?_ _)); exact BK346.out) hb)
  have n3_ := Aside0.mk (blk_below (g := gb347) (o := .cells #[.int .i64 0, .int .i64 0, .int .i64 0, .int .i64 0, .int .i64 0, .int .i64 0] 30 (0, 0)) (by (with_reducible repeat (first | refine blk_drewN ?_ _ | refine blk_drew ?_ | refine blk_alloc ?_ _)); exact BK347.out) hb)
  have n4_ := Aside0.mk (below_step (bel_) hb)
  clear HO350
  clear BK346
  clear BK347
  clear HB
  have HO350 := n0_
  have HO356 := n1_
  have BK346 := n2_
  have BK347 := n3_
  have HB := n4_
  clear n0_ n1_ n2_ n3_ n4_
  clear hb ho20
  obtain ⟨Ao21, co21, eo21⟩ := Kd.R_slice HO356.out
  (first | subst eo21 | (injection eo21 with f1_ f2_ f3_; have f4_ := f1_.symm; have f5_ := f3_.symm; clear f1_ f2_ f3_; subst f4_; subst f5_))
  refine hK.out _ _ ⟨(blk_cell BK346.out 0).trans rfl, (blk_cell BK346.out 1).trans rfl, (blk_cell BK346.out 2).trans rfl, (blk_cell BK346.out 3).trans rfl⟩ (fun hHeld => ?_)
  clear hK K
  refine norm_ (a' := ?_) ?_ ?_
  rotate_left
  ·show Act.put _ (some 27) _ = _
   simp only [Act.put, List.setIfInBounds_toArray, List.set_cons_zero, List.set_cons_succ, i64_w, i32_w]
   rfl
  refine on_ 17 (some 28) (Bz 19 262143) (fun K hK => ?_)
  refine goes_ Tryz.func30 (by kernel_rfl) rfl #[.slice Ao21 y354.length co21] (by rfl) rfl rfl maps_ ?_
  with_reducible refine (impl_first.calls _ _ y354 t357 _ ?side1 ?side2 A8.out).mono ?_
  (case side1 => repeat (first | exact (Kd.R_reads' HO356.out).2.2 | (with_reducible refine Kd.C_alloc ?_ _) | (with_reducible refine Kd.C_drewN ?_ _) | (with_reducible refine Kd.C_drew ?_)))
  (case side2 => exact (Kd.R_reads' HO356.out).2.1)
  rintro e w' ⟨rfl, ⟨nd, rfl⟩⟩
  refine ⟨_, rfl, ?_⟩
  refine hK.out _ _ ⟨(blk_cell BK346.out 0).trans rfl, (blk_cell BK346.out 1).trans rfl, (blk_cell BK346.out 2).trans rfl, (blk_cell BK346.out 3).trans rfl⟩ (fun hHeld => ?_)
  clear hK K
  refine norm_ (a' := ?_) ?_ ?_
  rotate_left
  ·show Act.put _ (some 28) _ = _
   simp only [Act.put, List.setIfInBounds_toArray, List.set_cons_zero, List.set_cons_succ, i64_w, i32_w]
   rfl
  refine pv_ 18 (some 10) (Bz 19 524287) ?_
  refine done_ (done_of HT_.out (by kernel_rfl)) ?_
  have hnb22 := NB346_347.out
  have hnc22 := NB347_346.out
  have hcz23_0 : w19.cell? ⟨gb346, 0, none⟩ = some (.int .i64 a0_0) := (blk_cell BK346.out 0).trans rfl
  have hcz23_1 : w19.cell? ⟨gb346, 1, none⟩ = some (.int .i64 a0_1) := (blk_cell BK346.out 1).trans rfl
  have hcz23_2 : w19.cell? ⟨gb346, 2, none⟩ = some (.int .i64 a0_2) := (blk_cell BK346.out 2).trans rfl
  have hcz23_3 : w19.cell? ⟨gb346, 3, none⟩ = some (.string a0_3) := (blk_cell BK346.out 3).trans rfl
  have hfz23_0 := blk_frozen BK346.out 0
  have hfz23_1 := blk_frozen BK346.out 1
  have hfz23_2 := blk_frozen BK346.out 2
  have hfz23_3 := blk_frozen BK346.out 3
  try go_wp2_with (first | ((with_reducible refine gate_callee (f := 40) rfl ?_); refine goesL_ (some 37) rfl rfl Tryz.func40 (by kernel_rfl) rfl #[.agg #[.int .i64 a0_0, .int .i64 a0_1, .int .i64 a0_2, .string a0_3], .string a1, .int .i64 a2, .int .i64 a3] rfl maps_ ?_; (with_reducible refine (impl_windowOf.calls k a0_0 a0_1 a0_2 a0_3 a1 a2 a3 t358 t359 t360 t361 t362 t363 t364 _ ?side1 A10.out).mono ?_); (case side1 => exact Gl.below HG.out (bel_)); rintro e w24 ⟨rfl, hb⟩; refine ⟨_, rfl, ?_⟩; have n0_ := Aside0.mk (Kd.R_below (by (with_reducible repeat (first | apply Kd.R_alloc | apply Kd.R_drewN | apply Kd.R_drew)); exact HO350.out) hb); have n1_ := Aside0.mk (Kd.R_below (by (with_reducible repeat (first | apply Kd.R_alloc | apply Kd.R_drewN | apply Kd.R_drew)); exact HO356.out) hb); have n2_ := Aside0.mk (blk_below (g := gb346) (o := .cells #[.int .i64 a0_0, .int .i64 a0_1, .int .i64 a0_2, .string a0_3] 34 (0, 0)) (by (with_reducible repeat (first | refine blk_drewN ?_ _ | refine blk_drew ?_ | refine blk_alloc ?_ _)); exact BK346.out) hb); have n3_ := Aside0.mk (blk_below (g := gb347) (o := .cells #[.int .i64 0, .int .i64 0, .int .i64 0, .int .i64 0, .int .i64 0, .int .i64 0] 30 (0, 0)) (by (with_reducible repeat (first | refine blk_drewN ?_ _ | refine blk_drew ?_ | refine blk_alloc ?_ _)); exact BK347.out) hb); have n4_ := Aside0.mk (below_step (bel_) hb); clear HO350; clear HO356; clear BK346; clear BK347; clear HB; have HO350 := n0_; have HO356 := n1_; have BK346 := n2_; have BK347 := n3_; have HB := n4_; clear n0_ n1_ n2_ n3_ n4_; (try clear hb); (try clear hb2); (try clear hk); (try clear hi); have hcz25_0 : w24.cell? ⟨gb347, 0, none⟩ = some (.int .i64 0) := (blk_cell BK347.out 0).trans rfl; have hcz25_1 : w24.cell? ⟨gb347, 1, none⟩ = some (.int .i64 0) := (blk_cell BK347.out 1).trans rfl; have hcz25_2 : w24.cell? ⟨gb347, 2, none⟩ = some (.int .i64 0) := (blk_cell BK347.out 2).trans rfl; have hcz25_3 : w24.cell? ⟨gb347, 3, none⟩ = some (.int .i64 0) := (blk_cell BK347.out 3).trans rfl; have hcz25_4 : w24.cell? ⟨gb347, 4, none⟩ = some (.int .i64 0) := (blk_cell BK347.out 4).trans rfl; have hcz25_5 : w24.cell? ⟨gb347, 5, none⟩ = some (.int .i64 0) := (blk_cell BK347.out 5).trans rfl; have hfz25_0 := blk_frozen BK347.out 0; have hfz25_1 := blk_frozen BK347.out 1; have hfz25_2 := blk_frozen BK347.out 2; have hfz25_3 := blk_frozen BK347.out 3; have hfz25_4 := blk_frozen BK347.out 4; have hfz25_5 := blk_frozen BK347.out 5))
  refine bodyPost_ret (results_ct rfl _ _ gb347 30 #[.int .i64 t358, .int .i64 t359, .int .i64 t360, .int .i64 t361, .int .i64 t362, .int .i64 t363] (0, 0) _ rfl (by (with_reducible repeat (first | refine blk_drewN ?_ _ | refine blk_drew ?_ | refine blk_alloc ?_ _)); refine blk_put (cs := #[.int .i64 t358, .int .i64 t359, .int .i64 t360, .int .i64 t361, .int .i64 t362, .int .i64 0]) ?_ 5 _ rfl; (with_reducible repeat (first | refine blk_drewN ?_ _ | refine blk_drew ?_ | refine blk_alloc ?_ _)); refine blk_put (cs := #[.int .i64 t358, .int .i64 t359, .int .i64 t360, .int .i64 t361, .int .i64 0, .int .i64 0]) ?_ 4 _ rfl; (with_reducible repeat (first | refine blk_drewN ?_ _ | refine blk_drew ?_ | refine blk_alloc ?_ _)); refine blk_put (cs := #[.int .i64 t358, .int .i64 t359, .int .i64 t360, .int .i64 0, .int .i64 0, .int .i64 0]) ?_ 3 _ rfl; (with_reducible repeat (first | refine blk_drewN ?_ _ | refine blk_drew ?_ | refine blk_alloc ?_ _)); refine blk_put (cs := #[.int .i64 t358, .int .i64 t359, .int .i64 0, .int .i64 0, .int .i64 0, .int .i64 0]) ?_ 2 _ rfl; (with_reducible repeat (first | refine blk_drewN ?_ _ | refine blk_drew ?_ | refine blk_alloc ?_ _)); refine blk_put (cs := #[.int .i64 t358, .int .i64 0, .int .i64 0, .int .i64 0, .int .i64 0, .int .i64 0]) ?_ 1 _ rfl; (with_reducible repeat (first | refine blk_drewN ?_ _ | refine blk_drew ?_ | refine blk_alloc ?_ _)); refine blk_put (cs := #[.int .i64 0, .int .i64 0, .int .i64 0, .int .i64 0, .int .i64 0, .int .i64 0]) ?_ 0 _ rfl; (with_reducible repeat (first | refine blk_drewN ?_ _ | refine blk_drew ?_ | refine blk_alloc ?_ _)); exact BK347.out) Tryz.underlying30 rfl (by kernel_rfl)) rfl ?_
  exact ⟨by first | rfl | (simp [errW_none, errW_some] <;> rfl) | (simp [*, errW_none, errW_some] <;> rfl), bel_⟩
 ·rw [if_neg c9] at H
  have c9b0 : (t357 == 0) = false := beq_eq_false_iff_ne.mpr c9
  have c9b1 : (t357 != 0) = true := bne_iff_ne.mpr c9
  simp only [Option.some.injEq, Prod.mk.injEq] at H
  obtain ⟨rfl, rfl, rfl, rfl, rfl, rfl, rfl⟩ := H
  go_enter Tryz.func10, Tryz.ntmps10
  try go_wp2_with (first | ((with_reducible refine gate_dst (N := 4) rfl ?_); refine box_event ?hg (N := 4) ?hd (cs := #[.int .i64 a0_0, .int .i64 a0_1, .int .i64 a0_2, .string a0_3]) (t := 34) ?hr ?_; (case hd => rfl); (case hg => rfl); (case hr => first | (go_simp; done) | (go_simp; rfl)); intro gb346 hg w26 hbox hb; have n0_ := Aside0.mk (below_step (bel_) hb); have n1_ := Aside0.mk (hbox); have n2_ := Aside0.mk ((by rw [hg]; exact (below_size (bel_)) : w.heap.size ≤ gb346)); have n3_ := Aside0.mk ((by rw [hg]; exact (below_size (bel_)) : w.heap.size ≤ gb346)); clear HB; have HB := n0_; have BK346 := n1_; have GW346 := n2_; have GE346 := n3_; clear n0_ n1_ n2_ n3_; clear hb hbox hg) | ((with_reducible refine gate_dst (N := 8) rfl ?_); refine box_event ?hg (N := 8) ?hd (cs := #[.int .i64 0, .int .i64 0, .int .i64 0, .int .i64 0, .int .i64 0, .int .i64 0]) (t := 30) ?hr ?_; (case hd => rfl); (case hg => rfl); (case hr => first | (go_simp; done) | (go_simp; rfl)); intro gb347 hg w27 hbox hb; have n0_ := Aside0.mk (blk_below (g := gb346) (o := .cells #[.int .i64 a0_0, .int .i64 a0_1, .int .i64 a0_2, .string a0_3] 34 (0, 0)) (by (with_reducible repeat (first | refine blk_drewN ?_ _ | refine blk_drew ?_ | refine blk_alloc ?_ _)); exact BK346.out) hb); have n1_ := Aside0.mk (below_step (bel_) hb); have n2_ := Aside0.mk (hbox); have n3_ := Aside0.mk ((by rw [hg]; exact (below_size (bel_)) : w.heap.size ≤ gb347)); have n4_ := Aside0.mk ((by rw [hg]; exact (below_size (bel_)) : w.heap.size ≤ gb347)); have n5_ := Aside0.mk ((by rw [hg]; exact Nat.ne_of_lt (blk_lt (g := gb346) (o := .cells #[.int .i64 a0_0, .int .i64 a0_1, .int .i64 a0_2, .string a0_3] 34 (0, 0)) (by (with_reducible repeat (first | refine blk_drewN ?_ _ | refine blk_drew ?_ | refine blk_alloc ?_ _)); exact BK346.out)) : gb346 ≠ gb347)); have n6_ := Aside0.mk ((by rw [hg]; exact Nat.ne_of_gt (blk_lt (g := gb346) (o := .cells #[.int .i64 a0_0, .int .i64 a0_1, .int .i64 a0_2, .string a0_3] 34 (0, 0)) (by (with_reducible repeat (first | refine blk_drewN ?_ _ | refine blk_drew ?_ | refine blk_alloc ?_ _)); exact BK346.out)) : gb347 ≠ gb346)); clear BK346; clear HB; have BK346 := n0_; have HB := n1_; have BK347 := n2_; have GW347 := n3_; have GE347 := n4_; have NB346_347 := n5_; have NB347_346 := n6_; clear n0_ n1_ n2_ n3_ n4_ n5_ n6_; clear hb hbox hg))
  have n0_ := Aside0.mk (blk_drew BK346.out)
  have n1_ := Aside0.mk (blk_drew BK347.out)
  have n2_ := Aside0.mk (below_drew1 HB.out)
  clear BK346
  clear BK347
  clear HB
  have BK346 := n0_
  have BK347 := n1_
  have HB := n2_
  clear n0_ n1_ n2_
  refine start_ (n := 19) (S := fun w' => w'.cell? ⟨gb346, 0, none⟩ = some (.int .i64 a0_0) ∧ w'.cell? ⟨gb346, 1, none⟩ = some (.int .i64 a0_1) ∧ w'.cell? ⟨gb346, 2, none⟩ = some (.int .i64 a0_2) ∧ w'.cell? ⟨gb346, 3, none⟩ = some (.string a0_3)) (ds := []) (Bz 19 0) (by kernel_rfl) rfl (by kernel_rfl) ⟨(blk_cell BK346.out 0).trans rfl, (blk_cell BK346.out 1).trans rfl, (blk_cell BK346.out 2).trans rfl, (blk_cell BK346.out 3).trans rfl⟩ (fun hHeld => ?_); refine with_tabW impl_WindowOf.tab1 impl_WindowOf.bits1 (fun HT_ HW_ => ?_)
  generalize w27.drew = w28 at BK346 BK347 HB hHeld ⊢
  refine pv_ 0 (some 11) (Bz 19 1) ?_
  refine pv_ 4 (some 15) (Bz 19 17) ?_
  refine pv_ 9 (some 20) (Bz 19 529) ?_
  refine pv_ 10 (some 21) (Bz 19 1553) ?_
  refine pv_ 11 (some 22) (Bz 19 3601) ?_
  refine pv_ 15 (some 26) (Bz 19 36369) ?_
  refine tv_ 5 (some 16) (Bz 19 36401) ?_
  refine on_ 1 (some 12) (Bz 19 36403) (fun K hK => ?_)
  refine Kd.R_lit_step Kd.string _ 9 ?hg (N := 12) ?hd (xs := ([a1] : List ByteArray)) (inner := [.string a1]) (ok := fun _ => True) (okp := fun _ => True) ?hr ?hp (fun _ hk => hk) trivial (Below.refl _ _) (Nat.le_refl _) (by simp) ?_; (case hd => rfl); (case hg => rfl); (case hr => first | (go_simp; done) | (go_simp; rfl)); (case hp => exact (Reps.one (show Kd.M Kd.string _ _ _ a1 [.string a1] from rfl) (Reps.none _ _)))
  intro v349 w29 ho30 hb hg_ hnew_
  clear hg_ hnew_
  (first | rw [← Ny348.out] at ho30 | (simp only [Int.reduceToNat] at ho30; rw [← Ny348.out] at ho30))
  have n0_ := Aside0.mk (Kd.R_lower ho30 (below_size (bel_)))
  have n1_ := Aside0.mk (blk_below (g := gb346) (o := .cells #[.int .i64 a0_0, .int .i64 a0_1, .int .i64 a0_2, .string a0_3] 34 (0, 0)) (by (with_reducible repeat (first | refine blk_drewN ?_ _ | refine blk_drew ?_ | refine blk_alloc ?_ _)); exact BK346.out) hb)
  have n2_ := Aside0.mk (blk_below (g := gb347) (o := .cells #[.int .i64 0, .int .i64 0, .int .i64 0, .int .i64 0, .int .i64 0, .int .i64 0] 30 (0, 0)) (by (with_reducible repeat (first | refine blk_drewN ?_ _ | refine blk_drew ?_ | refine blk_alloc ?_ _)); exact BK347.out) hb)
  have n3_ := Aside0.mk (below_step (bel_) hb)
  clear BK346
  clear BK347
  clear HB
  have HO350 := n0_
  have BK346 := n1_
  have BK347 := n2_
  have HB := n3_
  clear n0_ n1_ n2_ n3_
  clear hb ho30
  obtain ⟨Ao31, co31, eo31⟩ := Kd.R_slice HO350.out
  (first | subst eo31 | (injection eo31 with f1_ f2_ f3_; have f4_ := f1_.symm; have f5_ := f3_.symm; clear f1_ f2_ f3_; subst f4_; subst f5_))
  refine hK.out _ _ ⟨(blk_cell BK346.out 0).trans rfl, (blk_cell BK346.out 1).trans rfl, (blk_cell BK346.out 2).trans rfl, (blk_cell BK346.out 3).trans rfl⟩ (fun hHeld => ?_)
  clear hK K
  refine norm_ (a' := ?_) ?_ ?_
  rotate_left
  ·show Act.put _ (some 12) _ = _
   simp only [Act.put, List.setIfInBounds_toArray, List.set_cons_zero, List.set_cons_succ, i64_w, i32_w]
   rfl
  refine on_ 2 (some 13) (Bz 19 36407) (fun K hK => ?_)
  refine goes_ Tryz.func37 (by kernel_rfl) rfl #[.slice Ao31 y348.length co31] (by rfl) rfl rfl maps_ ?_
  with_reducible refine (impl_isLong.calls _ _ y348 t351 _ ?side1 ?side2 A5.out).mono ?_
  (case side1 => repeat (first | exact (Kd.R_reads' HO350.out).2.2 | (with_reducible refine Kd.C_alloc ?_ _) | (with_reducible refine Kd.C_drewN ?_ _) | (with_reducible refine Kd.C_drew ?_)))
  (case side2 => exact (Kd.R_reads' HO350.out).2.1)
  rintro e w32 ⟨rfl, hb⟩
  refine ⟨_, rfl, ?_⟩
  have n0_ := Aside0.mk (Kd.R_below (by (with_reducible repeat (first | apply Kd.R_alloc | apply Kd.R_drewN | apply Kd.R_drew)); exact HO350.out) hb)
  have n1_ := Aside0.mk (blk_below (g := gb346) (o := .cells #[.int .i64 a0_0, .int .i64 a0_1, .int .i64 a0_2, .string a0_3] 34 (0, 0)) (by (with_reducible repeat (first | refine blk_drewN ?_ _ | refine blk_drew ?_ | refine blk_alloc ?_ _)); exact BK346.out) hb)
  have n2_ := Aside0.mk (blk_below (g := gb347) (o := .cells #[.int .i64 0, .int .i64 0, .int .i64 0, .int .i64 0, .int .i64 0, .int .i64 0] 30 (0, 0)) (by (with_reducible repeat (first | refine blk_drewN ?_ _ | refine blk_drew ?_ | refine blk_alloc ?_ _)); exact BK347.out) hb)
  have n3_ := Aside0.mk (below_step (bel_) hb)
  clear HO350
  clear BK346
  clear BK347
  clear HB
  have HO350 := n0_
  have BK346 := n1_
  have BK347 := n2_
  have HB := n3_
  clear n0_ n1_ n2_ n3_
  (try clear hb)
  (try clear hb2)
  (try clear hk)
  (try clear hi)
  refine hK.out _ _ ⟨(blk_cell BK346.out 0).trans rfl, (blk_cell BK346.out 1).trans rfl, (blk_cell BK346.out 2).trans rfl, (blk_cell BK346.out 3).trans rfl⟩ (fun hHeld => ?_)
  clear hK K
  refine norm_ (a' := ?_) ?_ ?_
  rotate_left
  ·show Act.put _ (some 13) _ = _
   simp only [Act.put, List.setIfInBounds_toArray, List.set_cons_zero, List.set_cons_succ, i64_w, i32_w]
   rfl
  refine pv_ 3 (some 14) (Bz 19 36415) ?_
  refine on_ 6 (some 17) (Bz 19 36479) (fun K hK => ?_)
  refine goes_ Tryz.func38 (by kernel_rfl) rfl #[.agg #[.int .i64 a0_0, .int .i64 a0_1, .int .i64 a0_2, .string a0_3]] (by rfl) rfl rfl maps_ ?_
  with_reducible refine (impl_entryOK.calls k a0_0 a0_1 a0_2 a0_3 t352 _ ?side1 A6.out).mono ?_
  (case side1 => exact Gl.below HG.out (bel_))
  rintro e w33 ⟨rfl, hb⟩
  refine ⟨_, rfl, ?_⟩
  have n0_ := Aside0.mk (Kd.R_below (by (with_reducible repeat (first | apply Kd.R_alloc | apply Kd.R_drewN | apply Kd.R_drew)); exact HO350.out) hb)
  have n1_ := Aside0.mk (blk_below (g := gb346) (o := .cells #[.int .i64 a0_0, .int .i64 a0_1, .int .i64 a0_2, .string a0_3] 34 (0, 0)) (by (with_reducible repeat (first | refine blk_drewN ?_ _ | refine blk_drew ?_ | refine blk_alloc ?_ _)); exact BK346.out) hb)
  have n2_ := Aside0.mk (blk_below (g := gb347) (o := .cells #[.int .i64 0, .int .i64 0, .int .i64 0, .int .i64 0, .int .i64 0, .int .i64 0] 30 (0, 0)) (by (with_reducible repeat (first | refine blk_drewN ?_ _ | refine blk_drew ?_ | refine blk_alloc ?_ _)); exact BK347.out) hb)
  have n3_ := Aside0.mk (below_step (bel_) hb)
  clear HO350
  clear BK346
  clear BK347
  clear HB
  have HO350 := n0_
  have BK346 := n1_
  have BK347 := n2_
  have HB := n3_
  clear n0_ n1_ n2_ n3_
  (try clear hb)
  (try clear hb2)
  (try clear hk)
  (try clear hi)
  refine hK.out _ _ ⟨(blk_cell BK346.out 0).trans rfl, (blk_cell BK346.out 1).trans rfl, (blk_cell BK346.out 2).trans rfl, (blk_cell BK346.out 3).trans rfl⟩ (fun hHeld => ?_)
  clear hK K
  refine norm_ (a' := ?_) ?_ ?_
  rotate_left
  ·show Act.put _ (some 17) _ = _
   simp only [Act.put, List.setIfInBounds_toArray, List.set_cons_zero, List.set_cons_succ, i64_w, i32_w]
   rfl
  refine pv_ 7 (some 18) (Bz 19 36607) ?_
  refine pv_ 8 (some 19) (Bz 19 36863) ?_
  refine on_ 12 (some 23) (Bz 19 40959) (fun K hK => ?_)
  refine goes_ Tryz.func39 (by kernel_rfl) rfl #[.int .i64 a2, .int .i64 a3] (by rfl) rfl rfl maps_ ?_
  with_reducible refine (impl_isRange.calls a2 a3 t353 _ A7.out).mono ?_
  rintro e w' ⟨rfl, ⟨nd, rfl⟩⟩
  refine ⟨_, rfl, ?_⟩
  refine hK.out _ _ ⟨(blk_cell BK346.out 0).trans rfl, (blk_cell BK346.out 1).trans rfl, (blk_cell BK346.out 2).trans rfl, (blk_cell BK346.out 3).trans rfl⟩ (fun hHeld => ?_)
  clear hK K
  refine norm_ (a' := ?_) ?_ ?_
  rotate_left
  ·show Act.put _ (some 23) _ = _
   simp only [Act.put, List.setIfInBounds_toArray, List.set_cons_zero, List.set_cons_succ, i64_w, i32_w]
   rfl
  refine pv_ 13 (some 24) (Bz 19 49151) ?_
  refine pv_ 14 (some 25) (Bz 19 65535) ?_
  refine on_ 16 (some 27) (Bz 19 131071) (fun K hK => ?_)
  refine Kd.R_lit_step kAny _ 20 ?hg (N := 27) ?hd (xs := ([(Sum.inl (t351) : AnyV), (Sum.inr (Sum.inl (2)) : AnyV), (Sum.inl (!t352) : AnyV), (Sum.inr (Sum.inl (1)) : AnyV), (Sum.inl (!t353) : AnyV), (Sum.inr (Sum.inl (4)) : AnyV)] : List AnyV)) (inner := [.iface 4 (.bool t351), .iface 3 (.int .i64 2), .iface 4 (.bool (!t352)), .iface 3 (.int .i64 1), .iface 4 (.bool (!t353)), .iface 3 (.int .i64 4)]) (ok := fun _ => True) (okp := fun _ => True) ?hr ?hp (fun _ hk => hk) trivial (Below.refl _ _) (Nat.le_refl _) (by simp) ?_; (case hd => rfl); (case hg => rfl); (case hr => first | (go_simp; done) | (go_simp; rfl)); (case hp => exact (Reps.one (show Kd.M kAny _ _ _ (Sum.inl (t351) : AnyV) [.iface 4 (.bool t351)] from rfl) (Reps.one (show Kd.M kAny _ _ _ (Sum.inr (Sum.inl (2)) : AnyV) [.iface 3 (.int .i64 2)] from rfl) (Reps.one (show Kd.M kAny _ _ _ (Sum.inl (!t352) : AnyV) [.iface 4 (.bool (!t352))] from rfl) (Reps.one (show Kd.M kAny _ _ _ (Sum.inr (Sum.inl (1)) : AnyV) [.iface 3 (.int .i64 1)] from rfl) (Reps.one (show Kd.M kAny _ _ _ (Sum.inl (!t353) : AnyV) [.iface 4 (.bool (!t353))] from rfl) (Reps.one (show Kd.M kAny _ _ _ (Sum.inr (Sum.inl (4)) : AnyV) [.iface 3 (.int .i64 4)] from rfl) (Reps.none _ _))))))))
  intro v355 w34 ho35 hb hg_ hnew_
  clear hg_ hnew_
  (first | rw [← Ny354.out] at ho35 | (simp only [Int.reduceToNat] at ho35; rw [← Ny354.out] at ho35))
  have n0_ := Aside0.mk (Kd.R_below (by (with_reducible repeat (first | apply Kd.R_alloc | apply Kd.R_drewN | apply Kd.R_drew)); exact HO350.out) hb)
  have n1_ := Aside0.mk (Kd.R_lower ho35 (below_size (bel_)))
  have n2_ := Aside0.mk (blk_below (g := gb346) (o := .cells #[.int .i64 a0_0, .int .i64 a0_1, .int .i64 a0_2, .string a0_3] 34 (0, 0)) (by (with_reducible repeat (first | refine blk_drewN ?_ _ | refine blk_drew ?_ | refine blk_alloc ?_ _)); exact BK346.out) hb)
  have n3_ := Aside0.mk (blk_below (g := gb347) (o := .cells #[.int .i64 0, .int .i64 0, .int .i64 0, .int .i64 0, .int .i64 0, .int .i64 0] 30 (0, 0)) (by (with_reducible repeat (first | refine blk_drewN ?_ _ | refine blk_drew ?_ | refine blk_alloc ?_ _)); exact BK347.out) hb)
  have n4_ := Aside0.mk (below_step (bel_) hb)
  clear HO350
  clear BK346
  clear BK347
  clear HB
  have HO350 := n0_
  have HO356 := n1_
  have BK346 := n2_
  have BK347 := n3_
  have HB := n4_
  clear n0_ n1_ n2_ n3_ n4_
  clear hb ho35
  obtain ⟨Ao36, co36, eo36⟩ := Kd.R_slice HO356.out
  (first | subst eo36 | (injection eo36 with f1_ f2_ f3_; have f4_ := f1_.symm; have f5_ := f3_.symm; clear f1_ f2_ f3_; subst f4_; subst f5_))
  refine hK.out _ _ ⟨(blk_cell BK346.out 0).trans rfl, (blk_cell BK346.out 1).trans rfl, (blk_cell BK346.out 2).trans rfl, (blk_cell BK346.out 3).trans rfl⟩ (fun hHeld => ?_)
  clear hK K
  refine norm_ (a' := ?_) ?_ ?_
  rotate_left
  ·show Act.put _ (some 27) _ = _
   simp only [Act.put, List.setIfInBounds_toArray, List.set_cons_zero, List.set_cons_succ, i64_w, i32_w]
   rfl
  refine on_ 17 (some 28) (Bz 19 262143) (fun K hK => ?_)
  refine goes_ Tryz.func30 (by kernel_rfl) rfl #[.slice Ao36 y354.length co36] (by rfl) rfl rfl maps_ ?_
  with_reducible refine (impl_first.calls _ _ y354 t357 _ ?side1 ?side2 A8.out).mono ?_
  (case side1 => repeat (first | exact (Kd.R_reads' HO356.out).2.2 | (with_reducible refine Kd.C_alloc ?_ _) | (with_reducible refine Kd.C_drewN ?_ _) | (with_reducible refine Kd.C_drew ?_)))
  (case side2 => exact (Kd.R_reads' HO356.out).2.1)
  rintro e w' ⟨rfl, ⟨nd, rfl⟩⟩
  refine ⟨_, rfl, ?_⟩
  refine hK.out _ _ ⟨(blk_cell BK346.out 0).trans rfl, (blk_cell BK346.out 1).trans rfl, (blk_cell BK346.out 2).trans rfl, (blk_cell BK346.out 3).trans rfl⟩ (fun hHeld => ?_)
  clear hK K
  refine norm_ (a' := ?_) ?_ ?_
  rotate_left
  ·show Act.put _ (some 28) _ = _
   simp only [Act.put, List.setIfInBounds_toArray, List.set_cons_zero, List.set_cons_succ, i64_w, i32_w]
   rfl
  refine pv_ 18 (some 10) (Bz 19 524287) ?_
  refine done_ (done_of HT_.out (by kernel_rfl)) ?_
  have hnb37 := NB347_346.out
  have hnc37 := NB346_347.out
  have hcz38_0 : w34.cell? ⟨gb347, 0, none⟩ = some (.int .i64 0) := (blk_cell BK347.out 0).trans rfl
  have hcz38_1 : w34.cell? ⟨gb347, 1, none⟩ = some (.int .i64 0) := (blk_cell BK347.out 1).trans rfl
  have hcz38_2 : w34.cell? ⟨gb347, 2, none⟩ = some (.int .i64 0) := (blk_cell BK347.out 2).trans rfl
  have hcz38_3 : w34.cell? ⟨gb347, 3, none⟩ = some (.int .i64 0) := (blk_cell BK347.out 3).trans rfl
  have hcz38_4 : w34.cell? ⟨gb347, 4, none⟩ = some (.int .i64 0) := (blk_cell BK347.out 4).trans rfl
  have hcz38_5 : w34.cell? ⟨gb347, 5, none⟩ = some (.int .i64 0) := (blk_cell BK347.out 5).trans rfl
  have hfz38_0 := blk_frozen BK347.out 0
  have hfz38_1 := blk_frozen BK347.out 1
  have hfz38_2 := blk_frozen BK347.out 2
  have hfz38_3 := blk_frozen BK347.out 3
  have hfz38_4 := blk_frozen BK347.out 4
  have hfz38_5 := blk_frozen BK347.out 5
  try go_wp2
  refine bodyPost_ret (results_ct rfl _ _ gb347 30 #[.int .i64 0, .int .i64 0, .int .i64 0, .int .i64 0, .int .i64 0, .int .i64 0] (0, 0) _ rfl (by (with_reducible repeat (first | refine blk_drewN ?_ _ | refine blk_drew ?_ | refine blk_alloc ?_ _)); refine blk_put (cs := #[.int .i64 0, .int .i64 0, .int .i64 0, .int .i64 0, .int .i64 0, .int .i64 0]) ?_ 5 _ rfl; (with_reducible repeat (first | refine blk_drewN ?_ _ | refine blk_drew ?_ | refine blk_alloc ?_ _)); refine blk_put (cs := #[.int .i64 0, .int .i64 0, .int .i64 0, .int .i64 0, .int .i64 0, .int .i64 0]) ?_ 4 _ rfl; (with_reducible repeat (first | refine blk_drewN ?_ _ | refine blk_drew ?_ | refine blk_alloc ?_ _)); refine blk_put (cs := #[.int .i64 0, .int .i64 0, .int .i64 0, .int .i64 0, .int .i64 0, .int .i64 0]) ?_ 3 _ rfl; (with_reducible repeat (first | refine blk_drewN ?_ _ | refine blk_drew ?_ | refine blk_alloc ?_ _)); refine blk_put (cs := #[.int .i64 0, .int .i64 0, .int .i64 0, .int .i64 0, .int .i64 0, .int .i64 0]) ?_ 2 _ rfl; (with_reducible repeat (first | refine blk_drewN ?_ _ | refine blk_drew ?_ | refine blk_alloc ?_ _)); refine blk_put (cs := #[.int .i64 0, .int .i64 0, .int .i64 0, .int .i64 0, .int .i64 0, .int .i64 0]) ?_ 1 _ rfl; (with_reducible repeat (first | refine blk_drewN ?_ _ | refine blk_drew ?_ | refine blk_alloc ?_ _)); refine blk_put (cs := #[.int .i64 0, .int .i64 0, .int .i64 0, .int .i64 0, .int .i64 0, .int .i64 0]) ?_ 0 _ rfl; (with_reducible repeat (first | refine blk_drewN ?_ _ | refine blk_drew ?_ | refine blk_alloc ?_ _)); exact BK347.out) Tryz.underlying30 rfl (by kernel_rfl)) rfl ?_
  exact ⟨by first | rfl | (simp [errW_none, errW_some] <;> rfl) | (simp [*, errW_none, errW_some] <;> rfl), bel_⟩

/-! ### impl_modelCode: function 41 -/
def impl_modelCode.f (k : Nat) (l0 : List (S62)) (a1 : Int) (a2 : Int) : Option (Int) := (impl_Sample.f l0).bind fun t365 => ((impl_SamplesOK.f k l0).bind fun t366 => ((impl_isRange.f a1 a2).bind fun t367 => ((impl_first.f (([(Sum.inl (t365) : AnyV), (Sum.inr (Sum.inl (2)) : AnyV), (Sum.inl (!t366) : AnyV), (Sum.inr (Sum.inl (1)) : AnyV), (Sum.inl (!t367) : AnyV), (Sum.inr (Sum.inl (4)) : AnyV)] : List AnyV))).bind fun t371 => (some t371))))
theorem impl_modelCode.mono : ∀ a0 a1 a2 k, LeO (impl_modelCode.f k a0 a1 a2) (impl_modelCode.f (k + 1) a0 a1 a2) := by
 intro a0 a1 a2 k
 unfold impl_modelCode.f
 repeat' first
   | (with_reducible exact impl_SamplesOK.mono _ _)
   | (with_reducible exact LeO.refl _)
   | (with_reducible exact LeO.none _)
   | (with_reducible refine LeO.ite ?_ ?_)
   | (with_reducible refine LeO.bind ?_ (fun _ => ?_))
   | exact impl_SamplesOK.mono _ _
   | exact LeO.none _
   | refine LeO.ite ?_ ?_
   | refine LeO.bind ?_ (fun _ => ?_)
set_option maxHeartbeats 8000000 in
set_option maxRecDepth 100000 in
theorem impl_modelCode.calls (k : Nat) (A0 : Option Addr) (c0 : Nat) (l0 : List (S62)) (a1 : Int) (a2 : Int) (r : Int) (w : World) (hr0 : Kd.C k62 w A0 l0.length l0) (hc0 : l0.length ≤ c0) (h : impl_modelCode.f k l0 a1 a2 = some r) :
  Calls Tryz.prog 41 #[.slice A0 l0.length c0, .int .i64 a1, .int .i64 a2] w fun e w' => e = .returned (.int .i64 r) ∧ Below w.heap.size w w' := by
 have HR0 := Aside0.mk hr0
 have HC0 := Aside0.mk hc0
 clear hr0 hc0
 have HB := Aside0.mk (Below.refl w.heap.size w)
 have H : ((impl_Sample.f l0).bind fun t365 => ((impl_SamplesOK.f k l0).bind fun t366 => ((impl_isRange.f a1 a2).bind fun t367 => ((impl_first.f (([(Sum.inl (t365) : AnyV), (Sum.inr (Sum.inl (2)) : AnyV), (Sum.inl (!t366) : AnyV), (Sum.inr (Sum.inl (1)) : AnyV), (Sum.inl (!t367) : AnyV), (Sum.inr (Sum.inl (4)) : AnyV)] : List AnyV))).bind fun t371 => (some t371))))) = some r := h
 clear h
 replace H := Option.bind_eq_some_iff.mp H
 obtain ⟨t365, A40, H⟩ := H
 replace H : ((impl_SamplesOK.f k l0).bind fun t366 => ((impl_isRange.f a1 a2).bind fun t367 => ((impl_first.f (([(Sum.inl (t365) : AnyV), (Sum.inr (Sum.inl (2)) : AnyV), (Sum.inl (!t366) : AnyV), (Sum.inr (Sum.inl (1)) : AnyV), (Sum.inl (!t367) : AnyV), (Sum.inr (Sum.inl (4)) : AnyV)] : List AnyV))).bind fun t371 => (some t371)))) = some r := H
 have A4 := Aside0.mk A40
 clear A40
 replace H := Option.bind_eq_some_iff.mp H
 obtain ⟨t366, A50, H⟩ := H
 replace H : ((impl_isRange.f a1 a2).bind fun t367 => ((impl_first.f (([(Sum.inl (t365) : AnyV), (Sum.inr (Sum.inl (2)) : AnyV), (Sum.inl (!t366) : AnyV), (Sum.inr (Sum.inl (1)) : AnyV), (Sum.inl (!t367) : AnyV), (Sum.inr (Sum.inl (4)) : AnyV)] : List AnyV))).bind fun t371 => (some t371))) = some r := H
 have A5 := Aside0.mk A50
 clear A50
 replace H := Option.bind_eq_some_iff.mp H
 obtain ⟨t367, A60, H⟩ := H
 replace H : ((impl_first.f (([(Sum.inl (t365) : AnyV), (Sum.inr (Sum.inl (2)) : AnyV), (Sum.inl (!t366) : AnyV), (Sum.inr (Sum.inl (1)) : AnyV), (Sum.inl (!t367) : AnyV), (Sum.inr (Sum.inl (4)) : AnyV)] : List AnyV))).bind fun t371 => (some t371)) = some r := H
 have A6 := Aside0.mk A60
 clear A60
 obtain ⟨y368, hy368⟩ : ∃ y_ : List AnyV, y_ = (([(Sum.inl (t365) : AnyV), (Sum.inr (Sum.inl (2)) : AnyV), (Sum.inl (!t366) : AnyV), (Sum.inr (Sum.inl (1)) : AnyV), (Sum.inl (!t367) : AnyV), (Sum.inr (Sum.inl (4)) : AnyV)] : List AnyV)) := ⟨_, rfl⟩
 replace H : ((impl_first.f y368).bind fun t371 => (some t371)) = some r := by first | (rw [hy368]; with_reducible exact H) | (have H2_ := (Option.bind_some _ _).symm.trans H; rw [hy368]; with_reducible exact H2_) | (have H2_ := (Option.bind_some _ _).symm.trans H; with_reducible exact H2_) | with_reducible exact H | (rw [hy368]; exact H) | exact H
 have Ny368 := Aside0.mk hy368
 clear hy368
 replace H := Option.bind_eq_some_iff.mp H
 obtain ⟨t371, A70, H⟩ := H
 replace H : (some t371) = some r := H
 have A7 := Aside0.mk A70
 clear A70
 obtain rfl := Option.some.inj H
 go_enter Tryz.func41, Tryz.ntmps41
 go_wp2_with (first | ((with_reducible refine gate_callee (f := 31) rfl ?_); refine goesL_ (some 8) rfl rfl Tryz.func31 (by kernel_rfl) rfl #[.slice A0 l0.length c0] rfl maps_ ?_; (with_reducible refine (impl_Sample.calls _ _ l0 t365 _ ?side1 ?side2 A4.out).mono ?_); (case side1 => repeat (first | exact HR0.out | (with_reducible refine Kd.C_alloc ?_ _) | (with_reducible refine Kd.C_drewN ?_ _) | (with_reducible refine Kd.C_drew ?_))); (case side2 => exact HC0.out); rintro e w' ⟨rfl, ⟨nd, rfl⟩⟩; refine ⟨_, rfl, ?_⟩) | ((with_reducible refine gate_callee (f := 32) rfl ?_); refine goesL_ (some 12) rfl rfl Tryz.func32 (by kernel_rfl) rfl #[.slice A0 l0.length c0] rfl maps_ ?_; (with_reducible refine (impl_SamplesOK.calls k _ _ l0 t366 _ ?side1 ?side2 A5.out).mono ?_); (case side1 => repeat (first | exact HR0.out | (with_reducible refine Kd.C_alloc ?_ _) | (with_reducible refine Kd.C_drewN ?_ _) | (with_reducible refine Kd.C_drew ?_))); (case side2 => exact HC0.out); rintro e w8 ⟨rfl, hb⟩; refine ⟨_, rfl, ?_⟩; have n0_ := Aside0.mk (below_step (bel_) hb); clear HB; have HB := n0_; clear n0_; (try clear hb); (try clear hb2); (try clear hk); (try clear hi)) | ((with_reducible refine gate_callee (f := 39) rfl ?_); refine goesL_ (some 18) rfl rfl Tryz.func39 (by kernel_rfl) rfl #[.int .i64 a1, .int .i64 a2] rfl maps_ ?_; (with_reducible refine (impl_isRange.calls a1 a2 t367 _ A6.out).mono ?_); rintro e w' ⟨rfl, ⟨nd, rfl⟩⟩; refine ⟨_, rfl, ?_⟩) | ((with_reducible refine gate_dst (N := 22) rfl ?_); refine Kd.R_lit kAny _ 20 ?hg (N := 22) ?hd (xs := ([(Sum.inl (t365) : AnyV), (Sum.inr (Sum.inl (2)) : AnyV), (Sum.inl (!t366) : AnyV), (Sum.inr (Sum.inl (1)) : AnyV), (Sum.inl (!t367) : AnyV), (Sum.inr (Sum.inl (4)) : AnyV)] : List AnyV)) (inner := [.iface 4 (.bool t365), .iface 3 (.int .i64 2), .iface 4 (.bool (!t366)), .iface 3 (.int .i64 1), .iface 4 (.bool (!t367)), .iface 3 (.int .i64 4)]) (ok := fun _ => True) (okp := fun _ => True) ?hr ?hp (fun _ hk => hk) trivial (Below.refl _ _) (Nat.le_refl _) (by simp) ?_; (case hd => rfl); (case hg => rfl); (case hr => first | (go_simp; done) | (go_simp; rfl)); (case hp => exact (Reps.one (show Kd.M kAny _ _ _ (Sum.inl (t365) : AnyV) [.iface 4 (.bool t365)] from rfl) (Reps.one (show Kd.M kAny _ _ _ (Sum.inr (Sum.inl (2)) : AnyV) [.iface 3 (.int .i64 2)] from rfl) (Reps.one (show Kd.M kAny _ _ _ (Sum.inl (!t366) : AnyV) [.iface 4 (.bool (!t366))] from rfl) (Reps.one (show Kd.M kAny _ _ _ (Sum.inr (Sum.inl (1)) : AnyV) [.iface 3 (.int .i64 1)] from rfl) (Reps.one (show Kd.M kAny _ _ _ (Sum.inl (!t367) : AnyV) [.iface 4 (.bool (!t367))] from rfl) (Reps.one (show Kd.M kAny _ _ _ (Sum.inr (Sum.inl (4)) : AnyV) [.iface 3 (.int .i64 4)] from rfl) (Reps.none _ _)))))))); intro v369 w9 ho10 hb hg_ hnew_; clear hg_ hnew_; (first | rw [← Ny368.out] at ho10 | (simp only [Int.reduceToNat] at ho10; rw [← Ny368.out] at ho10)); have n0_ := Aside0.mk (Kd.R_lower ho10 (below_size (bel_))); have n1_ := Aside0.mk (below_step (bel_) hb); clear HB; have HO370 := n0_; have HB := n1_; clear n0_ n1_; clear hb ho10; obtain ⟨Ao11, co11, eo11⟩ := Kd.R_slice HO370.out; subst eo11) | ((with_reducible refine gate_callee (f := 30) rfl ?_); refine goesL_ (some 23) rfl rfl Tryz.func30 (by kernel_rfl) rfl #[.slice Ao11 y368.length co11] rfl maps_ ?_; (with_reducible refine (impl_first.calls _ _ y368 t371 _ ?side1 ?side2 A7.out).mono ?_); (case side1 => repeat (first | exact (Kd.R_reads' HO370.out).2.2 | (with_reducible refine Kd.C_alloc ?_ _) | (with_reducible refine Kd.C_drewN ?_ _) | (with_reducible refine Kd.C_drew ?_))); (case side2 => exact (Kd.R_reads' HO370.out).2.1); rintro e w' ⟨rfl, ⟨nd, rfl⟩⟩; refine ⟨_, rfl, ?_⟩))
 go_ret
 exact ⟨by first | rfl | (simp [errW_none, errW_some] <;> rfl) | (simp [*, errW_none, errW_some] <;> rfl), bel_⟩

/-! ### impl_ModelFold: function 11 -/
def impl_ModelFold.f (k : Nat) (l0 : List (S62)) (a1 : Int) (a2 : Int) : Option (Int × Int × Int × Int × Int × Int × Int) := (impl_modelCode.f k l0 a1 a2).bind fun t373 => (if t373 = 0 then ((impl_samplesIn.f k l0 a1 a2).bind fun t374 => ((impl_aggOf.f k t374).bind fun bt377 => (some (bt377.1, bt377.2.1, bt377.2.2.1, bt377.2.2.2.1, bt377.2.2.2.2.1, bt377.2.2.2.2.2, 0)))) else (some (0, 0, 0, 0, 0, 0, t373)))
theorem impl_ModelFold.mono : ∀ a0 a1 a2 k, LeO (impl_ModelFold.f k a0 a1 a2) (impl_ModelFold.f (k + 1) a0 a1 a2) := by
 intro a0 a1 a2 k
 unfold impl_ModelFold.f
 repeat' first
   | (with_reducible exact impl_aggOf.mono _ _)
   | (with_reducible exact impl_modelCode.mono _ _ _ _)
   | (with_reducible exact impl_samplesIn.mono _ _ _ _)
   | (with_reducible exact LeO.refl _)
   | (with_reducible exact LeO.none _)
   | (with_reducible refine LeO.ite ?_ ?_)
   | (with_reducible refine LeO.bind ?_ (fun _ => ?_))
   | exact impl_aggOf.mono _ _
   | exact impl_modelCode.mono _ _ _ _
   | exact impl_samplesIn.mono _ _ _ _
   | exact LeO.none _
   | refine LeO.ite ?_ ?_
   | refine LeO.bind ?_ (fun _ => ?_)
set_option maxHeartbeats 8000000 in
set_option maxRecDepth 100000 in
theorem impl_ModelFold.calls (k : Nat) (A0 : Option Addr) (c0 : Nat) (l0 : List (S62)) (a1 : Int) (a2 : Int) (r1 : Int) (r2 : Int) (r3 : Int) (r4 : Int) (r5 : Int) (r6 : Int) (r7 : Int) (w : World) (hr0 : Kd.C k62 w A0 l0.length l0) (hc0 : l0.length ≤ c0) (h : impl_ModelFold.f k l0 a1 a2 = some (r1, r2, r3, r4, r5, r6, r7)) :
  Calls Tryz.prog 11 #[.slice A0 l0.length c0, .int .i64 a1, .int .i64 a2] w fun e w' => e = .returned (.tuple #[.agg #[.int .i64 r1, .int .i64 r2, .int .i64 r3, .int .i64 r4, .int .i64 r5, .int .i64 r6], .int .i64 r7]) ∧ Below w.heap.size w w' := by
 have hu30 := Tryz.underlying30
 have HR0 := Aside0.mk hr0
 have HC0 := Aside0.mk hc0
 clear hr0 hc0
 have HB := Aside0.mk (Below.refl w.heap.size w)
 have H : ((impl_modelCode.f k l0 a1 a2).bind fun t373 => (if t373 = 0 then ((impl_samplesIn.f k l0 a1 a2).bind fun t374 => ((impl_aggOf.f k t374).bind fun bt377 => (some (bt377.1, bt377.2.1, bt377.2.2.1, bt377.2.2.2.1, bt377.2.2.2.2.1, bt377.2.2.2.2.2, 0)))) else (some (0, 0, 0, 0, 0, 0, t373)))) = some (r1, r2, r3, r4, r5, r6, r7) := h
 clear h
 replace H := Option.bind_eq_some_iff.mp H
 obtain ⟨t373, A40, H⟩ := H
 replace H : (if t373 = 0 then ((impl_samplesIn.f k l0 a1 a2).bind fun t374 => ((impl_aggOf.f k t374).bind fun bt377 => (some (bt377.1, bt377.2.1, bt377.2.2.1, bt377.2.2.2.1, bt377.2.2.2.2.1, bt377.2.2.2.2.2, 0)))) else (some (0, 0, 0, 0, 0, 0, t373))) = some (r1, r2, r3, r4, r5, r6, r7) := H
 have A4 := Aside0.mk A40
 clear A40
 by_cases c5 : t373 = 0
 ·rw [if_pos c5] at H
  have c5b0 : (t373 == 0) = true := beq_iff_eq.mpr c5
  have c5b1 : (t373 != 0) = false := bne_eq_false_iff_eq.mpr c5
  clear c5
  replace H := Option.bind_eq_some_iff.mp H
  obtain ⟨t374, A60, H⟩ := H
  replace H : ((impl_aggOf.f k t374).bind fun bt377 => (some (bt377.1, bt377.2.1, bt377.2.2.1, bt377.2.2.2.1, bt377.2.2.2.2.1, bt377.2.2.2.2.2, 0))) = some (r1, r2, r3, r4, r5, r6, r7) := H
  have A6 := Aside0.mk A60
  clear A60
  replace H := Option.bind_eq_some_iff.mp H
  obtain ⟨⟨t377, t378, t379, t380, t381, t382⟩, A70, H⟩ := H
  replace H : (some (t377, t378, t379, t380, t381, t382, 0)) = some (r1, r2, r3, r4, r5, r6, r7) := H
  have A7 := Aside0.mk A70
  clear A70
  simp only [Option.some.injEq, Prod.mk.injEq] at H
  obtain ⟨rfl, rfl, rfl, rfl, rfl, rfl, rfl⟩ := H
  go_enter Tryz.func11, Tryz.ntmps11
  go_wp2_with (first | ((with_reducible refine gate_dst (N := 6) rfl ?_); refine box_event ?hg (N := 6) ?hd (cs := #[.int .i64 0, .int .i64 0, .int .i64 0, .int .i64 0, .int .i64 0, .int .i64 0]) (t := 30) ?hr ?_; (case hd => rfl); (case hg => rfl); (case hr => first | (go_simp; done) | (go_simp; rfl)); intro gb372 hg w8 hbox hb; have n0_ := Aside0.mk (below_step (bel_) hb); have n1_ := Aside0.mk (hbox); have n2_ := Aside0.mk ((by rw [hg]; exact (below_size (bel_)) : w.heap.size ≤ gb372)); have n3_ := Aside0.mk ((by rw [hg]; exact (below_size (bel_)) : w.heap.size ≤ gb372)); clear HB; have HB := n0_; have BK372 := n1_; have GW372 := n2_; have GE372 := n3_; clear n0_ n1_ n2_ n3_; clear hb hbox hg) | ((with_reducible refine gate_callee (f := 41) rfl ?_); refine goesL_ (some 12) rfl rfl Tryz.func41 (by kernel_rfl) rfl #[.slice A0 l0.length c0, .int .i64 a1, .int .i64 a2] rfl maps_ ?_; (with_reducible refine (impl_modelCode.calls k _ _ l0 a1 a2 t373 _ ?side1 ?side2 A4.out).mono ?_); (case side1 => repeat (first | exact (Kd.C_below HR0.out HB.out) | (with_reducible refine Kd.C_alloc ?_ _) | (with_reducible refine Kd.C_drewN ?_ _) | (with_reducible refine Kd.C_drew ?_))); (case side2 => exact HC0.out); rintro e w9 ⟨rfl, hb⟩; refine ⟨_, rfl, ?_⟩; have n0_ := Aside0.mk (blk_below (g := gb372) (o := .cells #[.int .i64 0, .int .i64 0, .int .i64 0, .int .i64 0, .int .i64 0, .int .i64 0] 30 (0, 0)) (by (with_reducible repeat (first | refine blk_drewN ?_ _ | refine blk_drew ?_ | refine blk_alloc ?_ _)); exact BK372.out) hb); have n1_ := Aside0.mk (below_step (bel_) hb); clear BK372; clear HB; have BK372 := n0_; have HB := n1_; clear n0_ n1_; (try clear hb); (try clear hb2); (try clear hk); (try clear hi)) | ((with_reducible refine gate_callee (f := 43) rfl ?_); refine goesL_ (some 20) rfl rfl Tryz.func43 (by kernel_rfl) rfl #[.slice A0 l0.length c0, .int .i64 a1, .int .i64 a2] rfl maps_ ?_; (with_reducible refine (impl_samplesIn.calls k _ _ l0 a1 a2 t374 _ ?side1 ?side2 A6.out).mono ?_); (case side1 => repeat (first | exact (Kd.C_below HR0.out HB.out) | (with_reducible refine Kd.C_alloc ?_ _) | (with_reducible refine Kd.C_drewN ?_ _) | (with_reducible refine Kd.C_drew ?_))); (case side2 => exact HC0.out); rintro e w10 ⟨v375, rfl, ho0, hb⟩; refine ⟨_, rfl, ?_⟩; have n0_ := Aside0.mk (Kd.R_lower ho0 (below_size (bel_))); have n1_ := Aside0.mk (blk_below (g := gb372) (o := .cells #[.int .i64 0, .int .i64 0, .int .i64 0, .int .i64 0, .int .i64 0, .int .i64 0] 30 (0, 0)) (by (with_reducible repeat (first | refine blk_drewN ?_ _ | refine blk_drew ?_ | refine blk_alloc ?_ _)); exact BK372.out) hb); have n2_ := Aside0.mk (below_step (bel_) hb); clear BK372; clear HB; have HO376 := n0_; have BK372 := n1_; have HB := n2_; clear n0_ n1_ n2_; (try clear hb); (try clear hb2); (try clear hk); (try clear hi); (try clear ho0); obtain ⟨Ao11, co11, eo11⟩ := Kd.R_slice HO376.out; subst eo11) | ((with_reducible refine gate_callee (f := 42) rfl ?_); refine goesL_ (some 21) rfl rfl Tryz.func42 (by kernel_rfl) rfl #[.slice Ao11 t374.length co11] rfl maps_ ?_; (with_reducible refine (impl_aggOf.calls k _ _ t374 t377 t378 t379 t380 t381 t382 _ ?side1 ?side2 A7.out).mono ?_); (case side1 => repeat (first | exact (Kd.R_reads' HO376.out).2.2 | (with_reducible refine Kd.C_alloc ?_ _) | (with_reducible refine Kd.C_drewN ?_ _) | (with_reducible refine Kd.C_drew ?_))); (case side2 => exact (Kd.R_reads' HO376.out).2.1); rintro e w12 ⟨rfl, hb⟩; refine ⟨_, rfl, ?_⟩; have n0_ := Aside0.mk (Kd.R_below (by (with_reducible repeat (first | apply Kd.R_alloc | apply Kd.R_drewN | apply Kd.R_drew)); exact HO376.out) hb); have n1_ := Aside0.mk (blk_below (g := gb372) (o := .cells #[.int .i64 0, .int .i64 0, .int .i64 0, .int .i64 0, .int .i64 0, .int .i64 0] 30 (0, 0)) (by (with_reducible repeat (first | refine blk_drewN ?_ _ | refine blk_drew ?_ | refine blk_alloc ?_ _)); exact BK372.out) hb); have n2_ := Aside0.mk (below_step (bel_) hb); clear HO376; clear BK372; clear HB; have HO376 := n0_; have BK372 := n1_; have HB := n2_; clear n0_ n1_ n2_; (try clear hb); (try clear hb2); (try clear hk); (try clear hi); have hcz13_0 : w12.cell? ⟨gb372, 0, none⟩ = some (.int .i64 0) := (blk_cell BK372.out 0).trans rfl; have hcz13_1 : w12.cell? ⟨gb372, 1, none⟩ = some (.int .i64 0) := (blk_cell BK372.out 1).trans rfl; have hcz13_2 : w12.cell? ⟨gb372, 2, none⟩ = some (.int .i64 0) := (blk_cell BK372.out 2).trans rfl; have hcz13_3 : w12.cell? ⟨gb372, 3, none⟩ = some (.int .i64 0) := (blk_cell BK372.out 3).trans rfl; have hcz13_4 : w12.cell? ⟨gb372, 4, none⟩ = some (.int .i64 0) := (blk_cell BK372.out 4).trans rfl; have hcz13_5 : w12.cell? ⟨gb372, 5, none⟩ = some (.int .i64 0) := (blk_cell BK372.out 5).trans rfl; have hfz13_0 := blk_frozen BK372.out 0; have hfz13_1 := blk_frozen BK372.out 1; have hfz13_2 := blk_frozen BK372.out 2; have hfz13_3 := blk_frozen BK372.out 3; have hfz13_4 := blk_frozen BK372.out 4; have hfz13_5 := blk_frozen BK372.out 5))
  refine bodyPost_ret (results_ct rfl _ _ gb372 30 #[.int .i64 t377, .int .i64 t378, .int .i64 t379, .int .i64 t380, .int .i64 t381, .int .i64 t382] (0, 0) _ rfl (by (with_reducible repeat (first | refine blk_drewN ?_ _ | refine blk_drew ?_ | refine blk_alloc ?_ _)); refine blk_put (cs := #[.int .i64 t377, .int .i64 t378, .int .i64 t379, .int .i64 t380, .int .i64 t381, .int .i64 0]) ?_ 5 _ rfl; (with_reducible repeat (first | refine blk_drewN ?_ _ | refine blk_drew ?_ | refine blk_alloc ?_ _)); refine blk_put (cs := #[.int .i64 t377, .int .i64 t378, .int .i64 t379, .int .i64 t380, .int .i64 0, .int .i64 0]) ?_ 4 _ rfl; (with_reducible repeat (first | refine blk_drewN ?_ _ | refine blk_drew ?_ | refine blk_alloc ?_ _)); refine blk_put (cs := #[.int .i64 t377, .int .i64 t378, .int .i64 t379, .int .i64 0, .int .i64 0, .int .i64 0]) ?_ 3 _ rfl; (with_reducible repeat (first | refine blk_drewN ?_ _ | refine blk_drew ?_ | refine blk_alloc ?_ _)); refine blk_put (cs := #[.int .i64 t377, .int .i64 t378, .int .i64 0, .int .i64 0, .int .i64 0, .int .i64 0]) ?_ 2 _ rfl; (with_reducible repeat (first | refine blk_drewN ?_ _ | refine blk_drew ?_ | refine blk_alloc ?_ _)); refine blk_put (cs := #[.int .i64 t377, .int .i64 0, .int .i64 0, .int .i64 0, .int .i64 0, .int .i64 0]) ?_ 1 _ rfl; (with_reducible repeat (first | refine blk_drewN ?_ _ | refine blk_drew ?_ | refine blk_alloc ?_ _)); refine blk_put (cs := #[.int .i64 0, .int .i64 0, .int .i64 0, .int .i64 0, .int .i64 0, .int .i64 0]) ?_ 0 _ rfl; (with_reducible repeat (first | refine blk_drewN ?_ _ | refine blk_drew ?_ | refine blk_alloc ?_ _)); exact BK372.out) Tryz.underlying30 rfl (by kernel_rfl)) rfl ?_
  exact ⟨by first | rfl | (simp [errW_none, errW_some] <;> rfl) | (simp [*, errW_none, errW_some] <;> rfl), bel_⟩
 ·rw [if_neg c5] at H
  have c5b0 : (t373 == 0) = false := beq_eq_false_iff_ne.mpr c5
  have c5b1 : (t373 != 0) = true := bne_iff_ne.mpr c5
  simp only [Option.some.injEq, Prod.mk.injEq] at H
  obtain ⟨rfl, rfl, rfl, rfl, rfl, rfl, rfl⟩ := H
  go_enter Tryz.func11, Tryz.ntmps11
  go_wp2_with (first | ((with_reducible refine gate_dst (N := 6) rfl ?_); refine box_event ?hg (N := 6) ?hd (cs := #[.int .i64 0, .int .i64 0, .int .i64 0, .int .i64 0, .int .i64 0, .int .i64 0]) (t := 30) ?hr ?_; (case hd => rfl); (case hg => rfl); (case hr => first | (go_simp; done) | (go_simp; rfl)); intro gb372 hg w14 hbox hb; have n0_ := Aside0.mk (below_step (bel_) hb); have n1_ := Aside0.mk (hbox); have n2_ := Aside0.mk ((by rw [hg]; exact (below_size (bel_)) : w.heap.size ≤ gb372)); have n3_ := Aside0.mk ((by rw [hg]; exact (below_size (bel_)) : w.heap.size ≤ gb372)); clear HB; have HB := n0_; have BK372 := n1_; have GW372 := n2_; have GE372 := n3_; clear n0_ n1_ n2_ n3_; clear hb hbox hg) | ((with_reducible refine gate_callee (f := 41) rfl ?_); refine goesL_ (some 12) rfl rfl Tryz.func41 (by kernel_rfl) rfl #[.slice A0 l0.length c0, .int .i64 a1, .int .i64 a2] rfl maps_ ?_; (with_reducible refine (impl_modelCode.calls k _ _ l0 a1 a2 t373 _ ?side1 ?side2 A4.out).mono ?_); (case side1 => repeat (first | exact (Kd.C_below HR0.out HB.out) | (with_reducible refine Kd.C_alloc ?_ _) | (with_reducible refine Kd.C_drewN ?_ _) | (with_reducible refine Kd.C_drew ?_))); (case side2 => exact HC0.out); rintro e w15 ⟨rfl, hb⟩; refine ⟨_, rfl, ?_⟩; have n0_ := Aside0.mk (blk_below (g := gb372) (o := .cells #[.int .i64 0, .int .i64 0, .int .i64 0, .int .i64 0, .int .i64 0, .int .i64 0] 30 (0, 0)) (by (with_reducible repeat (first | refine blk_drewN ?_ _ | refine blk_drew ?_ | refine blk_alloc ?_ _)); exact BK372.out) hb); have n1_ := Aside0.mk (below_step (bel_) hb); clear BK372; clear HB; have BK372 := n0_; have HB := n1_; clear n0_ n1_; (try clear hb); (try clear hb2); (try clear hk); (try clear hi); have hcz16_0 : w15.cell? ⟨gb372, 0, none⟩ = some (.int .i64 0) := (blk_cell BK372.out 0).trans rfl; have hcz16_1 : w15.cell? ⟨gb372, 1, none⟩ = some (.int .i64 0) := (blk_cell BK372.out 1).trans rfl; have hcz16_2 : w15.cell? ⟨gb372, 2, none⟩ = some (.int .i64 0) := (blk_cell BK372.out 2).trans rfl; have hcz16_3 : w15.cell? ⟨gb372, 3, none⟩ = some (.int .i64 0) := (blk_cell BK372.out 3).trans rfl; have hcz16_4 : w15.cell? ⟨gb372, 4, none⟩ = some (.int .i64 0) := (blk_cell BK372.out 4).trans rfl; have hcz16_5 : w15.cell? ⟨gb372, 5, none⟩ = some (.int .i64 0) := (blk_cell BK372.out 5).trans rfl; have hfz16_0 := blk_frozen BK372.out 0; have hfz16_1 := blk_frozen BK372.out 1; have hfz16_2 := blk_frozen BK372.out 2; have hfz16_3 := blk_frozen BK372.out 3; have hfz16_4 := blk_frozen BK372.out 4; have hfz16_5 := blk_frozen BK372.out 5))
  refine bodyPost_ret (results_ct rfl _ _ gb372 30 #[.int .i64 0, .int .i64 0, .int .i64 0, .int .i64 0, .int .i64 0, .int .i64 0] (0, 0) _ rfl (by (with_reducible repeat (first | refine blk_drewN ?_ _ | refine blk_drew ?_ | refine blk_alloc ?_ _)); refine blk_put (cs := #[.int .i64 0, .int .i64 0, .int .i64 0, .int .i64 0, .int .i64 0, .int .i64 0]) ?_ 5 _ rfl; (with_reducible repeat (first | refine blk_drewN ?_ _ | refine blk_drew ?_ | refine blk_alloc ?_ _)); refine blk_put (cs := #[.int .i64 0, .int .i64 0, .int .i64 0, .int .i64 0, .int .i64 0, .int .i64 0]) ?_ 4 _ rfl; (with_reducible repeat (first | refine blk_drewN ?_ _ | refine blk_drew ?_ | refine blk_alloc ?_ _)); refine blk_put (cs := #[.int .i64 0, .int .i64 0, .int .i64 0, .int .i64 0, .int .i64 0, .int .i64 0]) ?_ 3 _ rfl; (with_reducible repeat (first | refine blk_drewN ?_ _ | refine blk_drew ?_ | refine blk_alloc ?_ _)); refine blk_put (cs := #[.int .i64 0, .int .i64 0, .int .i64 0, .int .i64 0, .int .i64 0, .int .i64 0]) ?_ 2 _ rfl; (with_reducible repeat (first | refine blk_drewN ?_ _ | refine blk_drew ?_ | refine blk_alloc ?_ _)); refine blk_put (cs := #[.int .i64 0, .int .i64 0, .int .i64 0, .int .i64 0, .int .i64 0, .int .i64 0]) ?_ 1 _ rfl; (with_reducible repeat (first | refine blk_drewN ?_ _ | refine blk_drew ?_ | refine blk_alloc ?_ _)); refine blk_put (cs := #[.int .i64 0, .int .i64 0, .int .i64 0, .int .i64 0, .int .i64 0, .int .i64 0]) ?_ 0 _ rfl; (with_reducible repeat (first | refine blk_drewN ?_ _ | refine blk_drew ?_ | refine blk_alloc ?_ _)); exact BK372.out) Tryz.underlying30 rfl (by kernel_rfl)) rfl ?_
  exact ⟨by first | rfl | (simp [errW_none, errW_some] <;> rfl) | (simp [*, errW_none, errW_some] <;> rfl), bel_⟩

end Go.Proofs.YtmhbkgbgajpahaaGreatDoor.PFnWindow
