/- Written by this session's own printer: functions of the program as plain functions, and that each call comes to what its plain function says; no conditions but those in each statement. -/
import Derived.Test.YtmhbkgbgajpahaaGreatDoorPFnWindowx0
import Derived.Test.YtmhbkgbgajpahaaGreatDoorPFnWindowx4
import Derived.Test.YtmhbkgbgajpahaaGreatDoorPFnWindowx5
import Derived.Test.YtmhbkgbgajpahaaGreatDoorPFnWindowx6
namespace Go.Proofs.YtmhbkgbgajpahaaGreatDoor.PFnWindow
open Go.RowKit Go.Proofs.YtmhbkgbgajpahaaGreatDoorW.PrintWords Go.Proofs.YtmhbkgbgajpahaaGreatDoorW.PrintLast Go.Proofs.YtmhbkgbgajpahaaGreatDoorW.PrintMore
attribute [local go_sem] max2_int min2_int max_two min_two max_three min_three max_four min_four   -- for this text's walks alone
set_option linter.unusedVariables false
set_option linter.unusedSimpArgs false

/-! ### strings_Cut: function 96 (by hand) -/
def strings_Cut.f (s sep : ByteArray) : Option (ByteArray × ByteArray × Bool) := if s.size < 4294967281 then some (⟨(Lib.cut s.data.toList sep.data.toList).1.toArray⟩, ⟨(Lib.cut s.data.toList sep.data.toList).2.1.toArray⟩, (Lib.cut s.data.toList sep.data.toList).2.2) else none
theorem strings_Cut.calls (a0 a1 : ByteArray) (r1 r2 : ByteArray) (r3 : Bool) (w : World) (hG : Gl w) (h : strings_Cut.f a0 a1 = some (r1, r2, r3)) :
  Calls Tryz.prog 96 #[.string a0, .string a1] w fun e w' => e = .returned (.tuple #[.string r1, .string r2, .bool r3]) ∧ Below w.heap.size w w' := by
 unfold strings_Cut.f at h
 split at h
 case isFalse => cases h
 rename_i hc
 simp only [Option.some.injEq, Prod.mk.injEq] at h
 obtain ⟨rfl, rfl, rfl⟩ := h
 obtain ⟨⟨m, hm⟩, _⟩ := hG
 refine (Tryz.strings_Cut a0 a1 m w hc hm).mono ?_
 rintro e w' ⟨rfl, n, rfl⟩
 exact ⟨rfl, pw_below_drewN (Below.refl _ _) _⟩

/-! ### impl_readAgg: function 97 -/
def impl_readAgg.f (k : Nat) (a0 : ByteArray) : Option (Int × Int × Int × Int × Int × Int × Bool) := (impl_numbers.f k a0 (⟨#[44]⟩ : ByteArray) 6).bind fun bt272 => (if bt272.2 = true then (if 0 < (bt272.1.length : Int) then (if 1 < (bt272.1.length : Int) then (if 2 < (bt272.1.length : Int) then (if 3 < (bt272.1.length : Int) then (if 4 < (bt272.1.length : Int) then (if 5 < (bt272.1.length : Int) then ((impl_AggOK.f (rd bt272.1 0) (rd bt272.1 1) (rd bt272.1 2) (rd bt272.1 3) (rd bt272.1 4) (rd bt272.1 5)).bind fun t283 => (some (rd bt272.1 0, rd bt272.1 1, rd bt272.1 2, rd bt272.1 3, rd bt272.1 4, rd bt272.1 5, t283))) else (none)) else (none)) else (none)) else (none)) else (none)) else (none)) else (some (0, 0, 0, 0, 0, 0, false)))
theorem impl_readAgg.mono : ∀ a0 k, LeO (impl_readAgg.f k a0) (impl_readAgg.f (k + 1) a0) := by
 intro a0 k
 unfold impl_readAgg.f
 repeat' first
   | (with_reducible exact impl_numbers.mono _ _ _ _)
   | (with_reducible exact LeO.refl _)
   | (with_reducible exact LeO.none _)
   | (with_reducible refine LeO.ite ?_ ?_)
   | (with_reducible refine LeO.bind ?_ (fun _ => ?_))
   | exact impl_numbers.mono _ _ _ _
   | exact LeO.none _
   | refine LeO.ite ?_ ?_
   | refine LeO.bind ?_ (fun _ => ?_)
def impl_readAgg.T4 : Bool × List (List Nat × List Nat) := (true, [([], []), ([0], [0]), ([1], [1]), ([], []), ([3], [3]), ([4], [4]), ([], []), ([6], [6]), ([7], [7]), ([], []), ([9], [9]), ([10], [10]), ([], []), ([12], [12]), ([13], [13]), ([], []), ([15], [15]), ([16], [16]), ([2, 5, 8, 11, 14, 17], [2, 5, 8, 11, 14, 17]), ([], []), ([19, 18, 0, 1, 2, 3, 4, 5, 6, 7, 8, 9, 10, 11, 12, 13, 14, 15, 16, 17, 18, 19], [18, 19])])
def impl_readAgg.B4 : List Nat := [0, 1, 3, 0, 8, 24, 0, 64, 192, 0, 512, 1536, 0, 4096, 12288, 0, 32768, 98304, 262143, 0, 1048575]
theorem impl_readAgg.tab4 : rtab .any (opsOf Tryz.f97 4) = impl_readAgg.T4 := by kernel_rfl
theorem impl_readAgg.bits4 : waitsOk impl_readAgg.T4.2 impl_readAgg.B4 = true := by kernel_rfl
set_option maxHeartbeats 8000000 in
set_option maxRecDepth 100000 in
theorem impl_readAgg.calls (k : Nat) (a0 : ByteArray) (r1 : Int) (r2 : Int) (r3 : Int) (r4 : Int) (r5 : Int) (r6 : Int) (r7 : Bool) (w : World) (hG : Gl w) (h : impl_readAgg.f k a0 = some (r1, r2, r3, r4, r5, r6, r7)) :
  Calls Tryz.prog 97 #[.string a0] w fun e w' => e = .returned (.tuple #[.agg #[.int .i64 r1, .int .i64 r2, .int .i64 r3, .int .i64 r4, .int .i64 r5, .int .i64 r6], .bool r7]) ∧ Below w.heap.size w w' := by
 have hu30 := Tryz.underlying30
 have HB := Aside0.mk (Below.refl w.heap.size w)
 have HG := Aside0.mk hG
 clear hG
 have H : ((impl_numbers.f k a0 (⟨#[44]⟩ : ByteArray) 6).bind fun bt272 => (if bt272.2 = true then (if 0 < (bt272.1.length : Int) then (if 1 < (bt272.1.length : Int) then (if 2 < (bt272.1.length : Int) then (if 3 < (bt272.1.length : Int) then (if 4 < (bt272.1.length : Int) then (if 5 < (bt272.1.length : Int) then ((impl_AggOK.f (rd bt272.1 0) (rd bt272.1 1) (rd bt272.1 2) (rd bt272.1 3) (rd bt272.1 4) (rd bt272.1 5)).bind fun t283 => (some (rd bt272.1 0, rd bt272.1 1, rd bt272.1 2, rd bt272.1 3, rd bt272.1 4, rd bt272.1 5, t283))) else (none)) else (none)) else (none)) else (none)) else (none)) else (none)) else (some (0, 0, 0, 0, 0, 0, false)))) = some (r1, r2, r3, r4, r5, r6, r7) := h
 clear h
 replace H := Option.bind_eq_some_iff.mp H
 obtain ⟨⟨t272, t273⟩, A20, H⟩ := H
 replace H : (if t273 = true then (if 0 < (t272.length : Int) then (if 1 < (t272.length : Int) then (if 2 < (t272.length : Int) then (if 3 < (t272.length : Int) then (if 4 < (t272.length : Int) then (if 5 < (t272.length : Int) then ((impl_AggOK.f (rd t272 0) (rd t272 1) (rd t272 2) (rd t272 3) (rd t272 4) (rd t272 5)).bind fun t283 => (some (rd t272 0, rd t272 1, rd t272 2, rd t272 3, rd t272 4, rd t272 5, t283))) else (none)) else (none)) else (none)) else (none)) else (none)) else (none)) else (some (0, 0, 0, 0, 0, 0, false))) = some (r1, r2, r3, r4, r5, r6, r7) := H
 have A2 := Aside0.mk A20
 clear A20
 by_cases c3 : t273 = true
 ·subst c3
  have H1 : (if 0 < (t272.length : Int) then (if 1 < (t272.length : Int) then (if 2 < (t272.length : Int) then (if 3 < (t272.length : Int) then (if 4 < (t272.length : Int) then (if 5 < (t272.length : Int) then ((impl_AggOK.f (rd t272 0) (rd t272 1) (rd t272 2) (rd t272 3) (rd t272 4) (rd t272 5)).bind fun t283 => (some (rd t272 0, rd t272 1, rd t272 2, rd t272 3, rd t272 4, rd t272 5, t283))) else (none)) else (none)) else (none)) else (none)) else (none)) else (none)) = some (r1, r2, r3, r4, r5, r6, r7) := by rw [if_pos rfl] at H; exact H
  clear H
  have H := H1
  clear H1
  by_cases c4 : 0 < (t272.length : Int)
  ·rw [if_pos c4] at H
   have c4b0 : decide (0 < (t272.length : Int)) = true := decide_eq_true c4
   have c4b1 : decide (0 < t272.length) = true := decide_eq_true (by omega)
   clear c4
   by_cases c5 : 1 < (t272.length : Int)
   ·rw [if_pos c5] at H
    have c5b0 : decide (1 < (t272.length : Int)) = true := decide_eq_true c5
    have c5b1 : decide (1 < t272.length) = true := decide_eq_true (by omega)
    clear c5
    by_cases c6 : 2 < (t272.length : Int)
    ·rw [if_pos c6] at H
     have c6b0 : decide (2 < (t272.length : Int)) = true := decide_eq_true c6
     have c6b1 : decide (2 < t272.length) = true := decide_eq_true (by omega)
     clear c6
     by_cases c7 : 3 < (t272.length : Int)
     ·rw [if_pos c7] at H
      have c7b0 : decide (3 < (t272.length : Int)) = true := decide_eq_true c7
      have c7b1 : decide (3 < t272.length) = true := decide_eq_true (by omega)
      clear c7
      by_cases c8 : 4 < (t272.length : Int)
      ·rw [if_pos c8] at H
       have c8b0 : decide (4 < (t272.length : Int)) = true := decide_eq_true c8
       have c8b1 : decide (4 < t272.length) = true := decide_eq_true (by omega)
       clear c8
       by_cases c9 : 5 < (t272.length : Int)
       ·rw [if_pos c9] at H
        have c9b0 : decide (5 < (t272.length : Int)) = true := decide_eq_true c9
        have c9b1 : decide (5 < t272.length) = true := decide_eq_true (by omega)
        clear c9
        replace H := Option.bind_eq_some_iff.mp H
        obtain ⟨t283, A100, H⟩ := H
        replace H : (some (rd t272 0, rd t272 1, rd t272 2, rd t272 3, rd t272 4, rd t272 5, t283)) = some (r1, r2, r3, r4, r5, r6, r7) := H
        have A10 := Aside0.mk A100
        clear A100
        simp only [Option.some.injEq, Prod.mk.injEq] at H
        obtain ⟨rfl, rfl, rfl, rfl, rfl, rfl, rfl⟩ := H
        go_enter Tryz.func97, Tryz.ntmps97
        try go_wp2_with (first | ((with_reducible refine gate_dst (N := 2) rfl ?_); refine box_event ?hg (N := 2) ?hd (cs := #[.int .i64 0, .int .i64 0, .int .i64 0, .int .i64 0, .int .i64 0, .int .i64 0]) (t := 30) ?hr ?_; (case hd => rfl); (case hg => rfl); (case hr => first | (go_simp; done) | (go_simp; rfl)); intro gb271 hg w11 hbox hb; have n0_ := Aside0.mk (below_step (bel_) hb); have n1_ := Aside0.mk (hbox); have n2_ := Aside0.mk ((by rw [hg]; exact (below_size (bel_)) : w.heap.size ≤ gb271)); have n3_ := Aside0.mk ((by rw [hg]; exact (below_size (bel_)) : w.heap.size ≤ gb271)); clear HB; have HB := n0_; have BK271 := n1_; have GW271 := n2_; have GE271 := n3_; clear n0_ n1_ n2_ n3_; clear hb hbox hg) | ((with_reducible refine gate_callee (f := 83) rfl ?_); refine goesL_ (some 9) rfl rfl Tryz.func83 (by kernel_rfl) rfl #[.string a0, .string (⟨#[44]⟩ : ByteArray), .int .i64 6] rfl maps_ ?_; (with_reducible refine (impl_numbers.calls k a0 (⟨#[44]⟩ : ByteArray) 6 t272 true _ ?side1 A2.out).mono ?_); (case side1 => exact Gl.below HG.out (bel_)); rintro e w12 ⟨v274, rfl, ho0, hb⟩; refine ⟨_, rfl, ?_⟩; have n0_ := Aside0.mk (Kd.R_lower ho0 (below_size (bel_))); have n1_ := Aside0.mk (blk_below (g := gb271) (o := .cells #[.int .i64 0, .int .i64 0, .int .i64 0, .int .i64 0, .int .i64 0, .int .i64 0] 30 (0, 0)) (by (with_reducible repeat (first | refine blk_drewN ?_ _ | refine blk_drew ?_ | refine blk_alloc ?_ _)); exact BK271.out) hb); have n2_ := Aside0.mk (below_step (bel_) hb); clear BK271; clear HB; have HO275 := n0_; have BK271 := n1_; have HB := n2_; clear n0_ n1_ n2_; (try clear hb); (try clear hb2); (try clear hk); (try clear hi); (try clear ho0)))
        have n0_ := Aside0.mk (Kd.R_drew HO275.out)
        have n1_ := Aside0.mk (blk_drew BK271.out)
        have n2_ := Aside0.mk (below_drew1 HB.out)
        clear HO275
        clear BK271
        clear HB
        have HO275 := n0_
        have BK271 := n1_
        have HB := n2_
        clear n0_ n1_ n2_
        obtain ⟨Ao14, co14, eo14⟩ := Kd.R_slice HO275.out
        (first | subst eo14 | (injection eo14 with f1_ f2_ f3_; have f4_ := f1_.symm; have f5_ := f3_.symm; clear f1_ f2_ f3_; subst f4_; subst f5_))
        have p276 : 0 ≤ (0 : Int) := (by omega)
        have q276 : 0 < (t272.length : Int) := of_decide_eq_true (by first | (with_reducible assumption) | assumption)
        obtain ⟨ad276, e276, hx276_0⟩ := Kd.at_int (Kd.R_reads' HO275.out).2.2 0 p276 q276
        cases e276
        have qi276 : (0 < t272.length) = True := eq_true (by omega)
        (try rw [show ((0 : Int)).toNat = 0 from rfl] at hx276_0)
        (try rw [Addr.add_zero'] at hx276_0)
        replace p276 := eq_true p276
        replace q276 := eq_true q276
        have p277 : 0 ≤ (1 : Int) := (by omega)
        have q277 : 1 < (t272.length : Int) := of_decide_eq_true (by first | (with_reducible assumption) | assumption)
        obtain ⟨ad277, e277, hx277_0⟩ := Kd.at_int (Kd.R_reads' HO275.out).2.2 1 p277 q277
        obtain rfl : ad276 = ad277 := (by injection e277)
        (try simp only [show (1 : Int).toNat = 1 from rfl, Nat.reduceMul, Nat.reduceEqDiff, Go.Addr.add, ↓reduceIte] at hx277_0)
        have qi277 : (1 < t272.length) = True := eq_true (by omega)
        (try rw [show ((1 : Int)).toNat = 1 from rfl] at hx277_0)
        replace p277 := eq_true p277
        replace q277 := eq_true q277
        have p278 : 0 ≤ (2 : Int) := (by omega)
        have q278 : 2 < (t272.length : Int) := of_decide_eq_true (by first | (with_reducible assumption) | assumption)
        obtain ⟨ad278, e278, hx278_0⟩ := Kd.at_int (Kd.R_reads' HO275.out).2.2 2 p278 q278
        obtain rfl : ad276 = ad278 := (by injection e278)
        (try simp only [show (2 : Int).toNat = 2 from rfl, Nat.reduceMul, Nat.reduceEqDiff, Go.Addr.add, ↓reduceIte] at hx278_0)
        have qi278 : (2 < t272.length) = True := eq_true (by omega)
        (try rw [show ((2 : Int)).toNat = 2 from rfl] at hx278_0)
        replace p278 := eq_true p278
        replace q278 := eq_true q278
        have p279 : 0 ≤ (3 : Int) := (by omega)
        have q279 : 3 < (t272.length : Int) := of_decide_eq_true (by first | (with_reducible assumption) | assumption)
        obtain ⟨ad279, e279, hx279_0⟩ := Kd.at_int (Kd.R_reads' HO275.out).2.2 3 p279 q279
        obtain rfl : ad276 = ad279 := (by injection e279)
        (try simp only [show (3 : Int).toNat = 3 from rfl, Nat.reduceMul, Nat.reduceEqDiff, Go.Addr.add, ↓reduceIte] at hx279_0)
        have qi279 : (3 < t272.length) = True := eq_true (by omega)
        (try rw [show ((3 : Int)).toNat = 3 from rfl] at hx279_0)
        replace p279 := eq_true p279
        replace q279 := eq_true q279
        have p280 : 0 ≤ (4 : Int) := (by omega)
        have q280 : 4 < (t272.length : Int) := of_decide_eq_true (by first | (with_reducible assumption) | assumption)
        obtain ⟨ad280, e280, hx280_0⟩ := Kd.at_int (Kd.R_reads' HO275.out).2.2 4 p280 q280
        obtain rfl : ad276 = ad280 := (by injection e280)
        (try simp only [show (4 : Int).toNat = 4 from rfl, Nat.reduceMul, Nat.reduceEqDiff, Go.Addr.add, ↓reduceIte] at hx280_0)
        have qi280 : (4 < t272.length) = True := eq_true (by omega)
        (try rw [show ((4 : Int)).toNat = 4 from rfl] at hx280_0)
        replace p280 := eq_true p280
        replace q280 := eq_true q280
        have p281 : 0 ≤ (5 : Int) := (by omega)
        have q281 : 5 < (t272.length : Int) := of_decide_eq_true (by first | (with_reducible assumption) | assumption)
        obtain ⟨ad281, e281, hx281_0⟩ := Kd.at_int (Kd.R_reads' HO275.out).2.2 5 p281 q281
        obtain rfl : ad276 = ad281 := (by injection e281)
        (try simp only [show (5 : Int).toNat = 5 from rfl, Nat.reduceMul, Nat.reduceEqDiff, Go.Addr.add, ↓reduceIte] at hx281_0)
        have qi281 : (5 < t272.length) = True := eq_true (by omega)
        (try rw [show ((5 : Int)).toNat = 5 from rfl] at hx281_0)
        replace p281 := eq_true p281
        replace q281 := eq_true q281
        refine start_ (n := 21) (S := fun w' => w'.cell? ad276 = some (.int .i64 (rd t272 0)) ∧ w'.cell? ⟨ad276.block, ad276.off + 1, none⟩ = some (.int .i64 (rd t272 1)) ∧ w'.cell? ⟨ad276.block, ad276.off + 2, none⟩ = some (.int .i64 (rd t272 2)) ∧ w'.cell? ⟨ad276.block, ad276.off + 3, none⟩ = some (.int .i64 (rd t272 3)) ∧ w'.cell? ⟨ad276.block, ad276.off + 4, none⟩ = some (.int .i64 (rd t272 4)) ∧ w'.cell? ⟨ad276.block, ad276.off + 5, none⟩ = some (.int .i64 (rd t272 5))) (ds := []) (Bz 21 0) (by kernel_rfl) rfl (by kernel_rfl) ⟨hx276_0, hx277_0, hx278_0, hx279_0, hx280_0, hx281_0⟩ (fun hHeld => ?_); refine with_tabW impl_readAgg.tab4 impl_readAgg.bits4 (fun HT_ HW_ => ?_)
        generalize w12.drew = w13 at HO275 BK271 HB hx276_0 hx277_0 hx278_0 hx279_0 hx280_0 hx281_0 hHeld ⊢
        refine pv_ 0 (some 15) (Bz 21 1) ?_
        refine pv_ 1 (some 16) (Bz 21 3) ?_
        refine pv_ 3 (some 18) (Bz 21 11) ?_
        refine pv_ 4 (some 19) (Bz 21 27) ?_
        refine pv_ 6 (some 21) (Bz 21 91) ?_
        refine pv_ 7 (some 22) (Bz 21 219) ?_
        refine pv_ 9 (some 24) (Bz 21 731) ?_
        refine pv_ 10 (some 25) (Bz 21 1755) ?_
        refine pv_ 12 (some 27) (Bz 21 5851) ?_
        refine pv_ 13 (some 28) (Bz 21 14043) ?_
        refine pv_ 15 (some 30) (Bz 21 46811) ?_
        refine pv_ 16 (some 31) (Bz 21 112347) ?_
        refine tv_ 2 (some 17) (Bz 21 112351) ?_
        refine tv_ 5 (some 20) (Bz 21 112383) ?_
        refine tv_ 8 (some 23) (Bz 21 112639) ?_
        refine tv_ 11 (some 26) (Bz 21 114687) ?_
        refine tv_ 14 (some 29) (Bz 21 131071) ?_
        refine tv_ 17 (some 32) (Bz 21 262143) ?_
        refine pv_ 18 (some 33) (Bz 21 524287) ?_
        refine on_ 19 (some 6) (Bz 21 1048575) (fun K hK => ?_)
        refine box_step ?hg (N := 6) ?hd (cs := #[.int .i64 0, .int .i64 0, .int .i64 0, .int .i64 0, .int .i64 0, .int .i64 0]) (t := 30) ?hr ?_; (case hd => rfl); (case hg => rfl); (case hr => first | (go_simp; done) | (go_simp; rfl))
        intro gb282 hg w15 hbox hb
        have HS0_ := (hb.cell (World.block_lt_of_cell? _ _ (hHeld.1))).trans (hHeld.1)
        have HS1_ := (hb.cell (World.block_lt_of_cell? _ _ (hHeld.2.1))).trans (hHeld.2.1)
        have HS2_ := (hb.cell (World.block_lt_of_cell? _ _ (hHeld.2.2.1))).trans (hHeld.2.2.1)
        have HS3_ := (hb.cell (World.block_lt_of_cell? _ _ (hHeld.2.2.2.1))).trans (hHeld.2.2.2.1)
        have HS4_ := (hb.cell (World.block_lt_of_cell? _ _ (hHeld.2.2.2.2.1))).trans (hHeld.2.2.2.2.1)
        have HS5_ := (hb.cell (World.block_lt_of_cell? _ _ (hHeld.2.2.2.2.2))).trans (hHeld.2.2.2.2.2)
        have n0_ := Aside0.mk (Kd.R_below (by (with_reducible repeat (first | apply Kd.R_alloc | apply Kd.R_drewN | apply Kd.R_drew)); exact HO275.out) hb)
        have n1_ := Aside0.mk (blk_below (g := gb271) (o := .cells #[.int .i64 0, .int .i64 0, .int .i64 0, .int .i64 0, .int .i64 0, .int .i64 0] 30 (0, 0)) (by (with_reducible repeat (first | refine blk_drewN ?_ _ | refine blk_drew ?_ | refine blk_alloc ?_ _)); exact BK271.out) hb)
        have n2_ := Aside0.mk (below_step (bel_) hb)
        have n3_ := Aside0.mk (hbox)
        have n4_ := Aside0.mk ((by rw [hg]; exact (below_size (bel_)) : w.heap.size ≤ gb282))
        have n5_ := Aside0.mk ((by rw [hg]; exact (below_size (bel_)) : w.heap.size ≤ gb282))
        have n6_ := Aside0.mk ((by rw [hg]; exact Nat.ne_of_lt (blk_lt (g := gb271) (o := .cells #[.int .i64 0, .int .i64 0, .int .i64 0, .int .i64 0, .int .i64 0, .int .i64 0] 30 (0, 0)) (by (with_reducible repeat (first | refine blk_drewN ?_ _ | refine blk_drew ?_ | refine blk_alloc ?_ _)); exact BK271.out)) : gb271 ≠ gb282))
        have n7_ := Aside0.mk ((by rw [hg]; exact Nat.ne_of_gt (blk_lt (g := gb271) (o := .cells #[.int .i64 0, .int .i64 0, .int .i64 0, .int .i64 0, .int .i64 0, .int .i64 0] 30 (0, 0)) (by (with_reducible repeat (first | refine blk_drewN ?_ _ | refine blk_drew ?_ | refine blk_alloc ?_ _)); exact BK271.out)) : gb282 ≠ gb271))
        clear HO275
        clear BK271
        clear HB
        have HO275 := n0_
        have BK271 := n1_
        have HB := n2_
        have BK282 := n3_
        have GW282 := n4_
        have GE282 := n5_
        have NB271_282 := n6_
        have NB282_271 := n7_
        clear n0_ n1_ n2_ n3_ n4_ n5_ n6_ n7_
        clear hb hbox hg
        refine hK.out _ _ ⟨HS0_, HS1_, HS2_, HS3_, HS4_, HS5_⟩ (fun hHeld => ?_)
        clear hK K
        refine norm_ (a' := ?_) ?_ ?_
        rotate_left
        ·show Act.put _ (some 6) _ = _
         simp only [Act.put, List.setIfInBounds_toArray, List.set_cons_zero, List.set_cons_succ, i64_w, i32_w]
         rfl
        refine on_ 20 none (Bz 21 2097151) (fun K hK => ?_)
        have hs16 : w15.cell? ⟨gb282, 0, none⟩ = some (.int .i64 0) := (blk_cell BK282.out 0).trans rfl
        have hfs16 := blk_frozen BK282.out 0
        have hns16_0 := NB271_282.out
        have hms16_0 := NB282_271.out
        have hs17 : w15.cell? ⟨gb282, 1, none⟩ = some (.int .i64 0) := (blk_cell BK282.out 1).trans rfl
        have hfs17 := blk_frozen BK282.out 1
        have hns17_0 := NB271_282.out
        have hms17_0 := NB282_271.out
        have hs18 : w15.cell? ⟨gb282, 2, none⟩ = some (.int .i64 0) := (blk_cell BK282.out 2).trans rfl
        have hfs18 := blk_frozen BK282.out 2
        have hns18_0 := NB271_282.out
        have hms18_0 := NB282_271.out
        have hs19 : w15.cell? ⟨gb282, 3, none⟩ = some (.int .i64 0) := (blk_cell BK282.out 3).trans rfl
        have hfs19 := blk_frozen BK282.out 3
        have hns19_0 := NB271_282.out
        have hms19_0 := NB282_271.out
        have hs20 : w15.cell? ⟨gb282, 4, none⟩ = some (.int .i64 0) := (blk_cell BK282.out 4).trans rfl
        have hfs20 := blk_frozen BK282.out 4
        have hns20_0 := NB271_282.out
        have hms20_0 := NB282_271.out
        have hs21 : w15.cell? ⟨gb282, 5, none⟩ = some (.int .i64 0) := (blk_cell BK282.out 5).trans rfl
        have hfs21 := blk_frozen BK282.out 5
        have hns21_0 := NB271_282.out
        have hms21_0 := NB282_271.out
        refine skip_ (w1 := ?_) (by rfl) rfl ?_ ?_
        rotate_left
        ·go_simp
         rfl
        refine hK.out _ _ ⟨((cell_far (p := ⟨gb282, _, none⟩) (by first | exact Kd.own_blk (Kd.R_ne HO275.out BK282.out (by decide)) | (rw [add_block]; exact Kd.own_blk (Kd.R_ne HO275.out BK282.out (by decide))) | (show (Addr.add _ _).block ≠ _; rw [add_block]; exact Kd.own_blk (Kd.R_ne HO275.out BK282.out (by decide))) | (dsimp only; exact Kd.own_blk (Kd.R_ne HO275.out BK282.out (by decide)))) _).trans (((cell_far (p := ⟨gb282, _, none⟩) (by first | exact Kd.own_blk (Kd.R_ne HO275.out BK282.out (by decide)) | (rw [add_block]; exact Kd.own_blk (Kd.R_ne HO275.out BK282.out (by decide))) | (show (Addr.add _ _).block ≠ _; rw [add_block]; exact Kd.own_blk (Kd.R_ne HO275.out BK282.out (by decide))) | (dsimp only; exact Kd.own_blk (Kd.R_ne HO275.out BK282.out (by decide)))) _).trans (((cell_far (p := ⟨gb282, _, none⟩) (by first | exact Kd.own_blk (Kd.R_ne HO275.out BK282.out (by decide)) | (rw [add_block]; exact Kd.own_blk (Kd.R_ne HO275.out BK282.out (by decide))) | (show (Addr.add _ _).block ≠ _; rw [add_block]; exact Kd.own_blk (Kd.R_ne HO275.out BK282.out (by decide))) | (dsimp only; exact Kd.own_blk (Kd.R_ne HO275.out BK282.out (by decide)))) _).trans (((cell_far (p := ⟨gb282, _, none⟩) (by first | exact Kd.own_blk (Kd.R_ne HO275.out BK282.out (by decide)) | (rw [add_block]; exact Kd.own_blk (Kd.R_ne HO275.out BK282.out (by decide))) | (show (Addr.add _ _).block ≠ _; rw [add_block]; exact Kd.own_blk (Kd.R_ne HO275.out BK282.out (by decide))) | (dsimp only; exact Kd.own_blk (Kd.R_ne HO275.out BK282.out (by decide)))) _).trans (((cell_far (p := ⟨gb282, _, none⟩) (by first | exact Kd.own_blk (Kd.R_ne HO275.out BK282.out (by decide)) | (rw [add_block]; exact Kd.own_blk (Kd.R_ne HO275.out BK282.out (by decide))) | (show (Addr.add _ _).block ≠ _; rw [add_block]; exact Kd.own_blk (Kd.R_ne HO275.out BK282.out (by decide))) | (dsimp only; exact Kd.own_blk (Kd.R_ne HO275.out BK282.out (by decide)))) _).trans (((cell_far (p := ⟨gb282, _, none⟩) (by first | exact Kd.own_blk (Kd.R_ne HO275.out BK282.out (by decide)) | (rw [add_block]; exact Kd.own_blk (Kd.R_ne HO275.out BK282.out (by decide))) | (show (Addr.add _ _).block ≠ _; rw [add_block]; exact Kd.own_blk (Kd.R_ne HO275.out BK282.out (by decide))) | (dsimp only; exact Kd.own_blk (Kd.R_ne HO275.out BK282.out (by decide)))) _).trans (hHeld.1)))))))))))), ((cell_far (p := ⟨gb282, _, none⟩) (by first | exact Kd.own_blk (Kd.R_ne HO275.out BK282.out (by decide)) | (rw [add_block]; exact Kd.own_blk (Kd.R_ne HO275.out BK282.out (by decide))) | (show (Addr.add _ _).block ≠ _; rw [add_block]; exact Kd.own_blk (Kd.R_ne HO275.out BK282.out (by decide))) | (dsimp only; exact Kd.own_blk (Kd.R_ne HO275.out BK282.out (by decide)))) _).trans (((cell_far (p := ⟨gb282, _, none⟩) (by first | exact Kd.own_blk (Kd.R_ne HO275.out BK282.out (by decide)) | (rw [add_block]; exact Kd.own_blk (Kd.R_ne HO275.out BK282.out (by decide))) | (show (Addr.add _ _).block ≠ _; rw [add_block]; exact Kd.own_blk (Kd.R_ne HO275.out BK282.out (by decide))) | (dsimp only; exact Kd.own_blk (Kd.R_ne HO275.out BK282.out (by decide)))) _).trans (((cell_far (p := ⟨gb282, _, none⟩) (by first | exact Kd.own_blk (Kd.R_ne HO275.out BK282.out (by decide)) | (rw [add_block]; exact Kd.own_blk (Kd.R_ne HO275.out BK282.out (by decide))) | (show (Addr.add _ _).block ≠ _; rw [add_block]; exact Kd.own_blk (Kd.R_ne HO275.out BK282.out (by decide))) | (dsimp only; exact Kd.own_blk (Kd.R_ne HO275.out BK282.out (by decide)))) _).trans (((cell_far (p := ⟨gb282, _, none⟩) (by first | exact Kd.own_blk (Kd.R_ne HO275.out BK282.out (by decide)) | (rw [add_block]; exact Kd.own_blk (Kd.R_ne HO275.out BK282.out (by decide))) | (show (Addr.add _ _).block ≠ _; rw [add_block]; exact Kd.own_blk (Kd.R_ne HO275.out BK282.out (by decide))) | (dsimp only; exact Kd.own_blk (Kd.R_ne HO275.out BK282.out (by decide)))) _).trans (((cell_far (p := ⟨gb282, _, none⟩) (by first | exact Kd.own_blk (Kd.R_ne HO275.out BK282.out (by decide)) | (rw [add_block]; exact Kd.own_blk (Kd.R_ne HO275.out BK282.out (by decide))) | (show (Addr.add _ _).block ≠ _; rw [add_block]; exact Kd.own_blk (Kd.R_ne HO275.out BK282.out (by decide))) | (dsimp only; exact Kd.own_blk (Kd.R_ne HO275.out BK282.out (by decide)))) _).trans (((cell_far (p := ⟨gb282, _, none⟩) (by first | exact Kd.own_blk (Kd.R_ne HO275.out BK282.out (by decide)) | (rw [add_block]; exact Kd.own_blk (Kd.R_ne HO275.out BK282.out (by decide))) | (show (Addr.add _ _).block ≠ _; rw [add_block]; exact Kd.own_blk (Kd.R_ne HO275.out BK282.out (by decide))) | (dsimp only; exact Kd.own_blk (Kd.R_ne HO275.out BK282.out (by decide)))) _).trans (hHeld.2.1)))))))))))), ((cell_far (p := ⟨gb282, _, none⟩) (by first | exact Kd.own_blk (Kd.R_ne HO275.out BK282.out (by decide)) | (rw [add_block]; exact Kd.own_blk (Kd.R_ne HO275.out BK282.out (by decide))) | (show (Addr.add _ _).block ≠ _; rw [add_block]; exact Kd.own_blk (Kd.R_ne HO275.out BK282.out (by decide))) | (dsimp only; exact Kd.own_blk (Kd.R_ne HO275.out BK282.out (by decide)))) _).trans (((cell_far (p := ⟨gb282, _, none⟩) (by first | exact Kd.own_blk (Kd.R_ne HO275.out BK282.out (by decide)) | (rw [add_block]; exact Kd.own_blk (Kd.R_ne HO275.out BK282.out (by decide))) | (show (Addr.add _ _).block ≠ _; rw [add_block]; exact Kd.own_blk (Kd.R_ne HO275.out BK282.out (by decide))) | (dsimp only; exact Kd.own_blk (Kd.R_ne HO275.out BK282.out (by decide)))) _).trans (((cell_far (p := ⟨gb282, _, none⟩) (by first | exact Kd.own_blk (Kd.R_ne HO275.out BK282.out (by decide)) | (rw [add_block]; exact Kd.own_blk (Kd.R_ne HO275.out BK282.out (by decide))) | (show (Addr.add _ _).block ≠ _; rw [add_block]; exact Kd.own_blk (Kd.R_ne HO275.out BK282.out (by decide))) | (dsimp only; exact Kd.own_blk (Kd.R_ne HO275.out BK282.out (by decide)))) _).trans (((cell_far (p := ⟨gb282, _, none⟩) (by first | exact Kd.own_blk (Kd.R_ne HO275.out BK282.out (by decide)) | (rw [add_block]; exact Kd.own_blk (Kd.R_ne HO275.out BK282.out (by decide))) | (show (Addr.add _ _).block ≠ _; rw [add_block]; exact Kd.own_blk (Kd.R_ne HO275.out BK282.out (by decide))) | (dsimp only; exact Kd.own_blk (Kd.R_ne HO275.out BK282.out (by decide)))) _).trans (((cell_far (p := ⟨gb282, _, none⟩) (by first | exact Kd.own_blk (Kd.R_ne HO275.out BK282.out (by decide)) | (rw [add_block]; exact Kd.own_blk (Kd.R_ne HO275.out BK282.out (by decide))) | (show (Addr.add _ _).block ≠ _; rw [add_block]; exact Kd.own_blk (Kd.R_ne HO275.out BK282.out (by decide))) | (dsimp only; exact Kd.own_blk (Kd.R_ne HO275.out BK282.out (by decide)))) _).trans (((cell_far (p := ⟨gb282, _, none⟩) (by first | exact Kd.own_blk (Kd.R_ne HO275.out BK282.out (by decide)) | (rw [add_block]; exact Kd.own_blk (Kd.R_ne HO275.out BK282.out (by decide))) | (show (Addr.add _ _).block ≠ _; rw [add_block]; exact Kd.own_blk (Kd.R_ne HO275.out BK282.out (by decide))) | (dsimp only; exact Kd.own_blk (Kd.R_ne HO275.out BK282.out (by decide)))) _).trans (hHeld.2.2.1)))))))))))), ((cell_far (p := ⟨gb282, _, none⟩) (by first | exact Kd.own_blk (Kd.R_ne HO275.out BK282.out (by decide)) | (rw [add_block]; exact Kd.own_blk (Kd.R_ne HO275.out BK282.out (by decide))) | (show (Addr.add _ _).block ≠ _; rw [add_block]; exact Kd.own_blk (Kd.R_ne HO275.out BK282.out (by decide))) | (dsimp only; exact Kd.own_blk (Kd.R_ne HO275.out BK282.out (by decide)))) _).trans (((cell_far (p := ⟨gb282, _, none⟩) (by first | exact Kd.own_blk (Kd.R_ne HO275.out BK282.out (by decide)) | (rw [add_block]; exact Kd.own_blk (Kd.R_ne HO275.out BK282.out (by decide))) | (show (Addr.add _ _).block ≠ _; rw [add_block]; exact Kd.own_blk (Kd.R_ne HO275.out BK282.out (by decide))) | (dsimp only; exact Kd.own_blk (Kd.R_ne HO275.out BK282.out (by decide)))) _).trans (((cell_far (p := ⟨gb282, _, none⟩) (by first | exact Kd.own_blk (Kd.R_ne HO275.out BK282.out (by decide)) | (rw [add_block]; exact Kd.own_blk (Kd.R_ne HO275.out BK282.out (by decide))) | (show (Addr.add _ _).block ≠ _; rw [add_block]; exact Kd.own_blk (Kd.R_ne HO275.out BK282.out (by decide))) | (dsimp only; exact Kd.own_blk (Kd.R_ne HO275.out BK282.out (by decide)))) _).trans (((cell_far (p := ⟨gb282, _, none⟩) (by first | exact Kd.own_blk (Kd.R_ne HO275.out BK282.out (by decide)) | (rw [add_block]; exact Kd.own_blk (Kd.R_ne HO275.out BK282.out (by decide))) | (show (Addr.add _ _).block ≠ _; rw [add_block]; exact Kd.own_blk (Kd.R_ne HO275.out BK282.out (by decide))) | (dsimp only; exact Kd.own_blk (Kd.R_ne HO275.out BK282.out (by decide)))) _).trans (((cell_far (p := ⟨gb282, _, none⟩) (by first | exact Kd.own_blk (Kd.R_ne HO275.out BK282.out (by decide)) | (rw [add_block]; exact Kd.own_blk (Kd.R_ne HO275.out BK282.out (by decide))) | (show (Addr.add _ _).block ≠ _; rw [add_block]; exact Kd.own_blk (Kd.R_ne HO275.out BK282.out (by decide))) | (dsimp only; exact Kd.own_blk (Kd.R_ne HO275.out BK282.out (by decide)))) _).trans (((cell_far (p := ⟨gb282, _, none⟩) (by first | exact Kd.own_blk (Kd.R_ne HO275.out BK282.out (by decide)) | (rw [add_block]; exact Kd.own_blk (Kd.R_ne HO275.out BK282.out (by decide))) | (show (Addr.add _ _).block ≠ _; rw [add_block]; exact Kd.own_blk (Kd.R_ne HO275.out BK282.out (by decide))) | (dsimp only; exact Kd.own_blk (Kd.R_ne HO275.out BK282.out (by decide)))) _).trans (hHeld.2.2.2.1)))))))))))), ((cell_far (p := ⟨gb282, _, none⟩) (by first | exact Kd.own_blk (Kd.R_ne HO275.out BK282.out (by decide)) | (rw [add_block]; exact Kd.own_blk (Kd.R_ne HO275.out BK282.out (by decide))) | (show (Addr.add _ _).block ≠ _; rw [add_block]; exact Kd.own_blk (Kd.R_ne HO275.out BK282.out (by decide))) | (dsimp only; exact Kd.own_blk (Kd.R_ne HO275.out BK282.out (by decide)))) _).trans (((cell_far (p := ⟨gb282, _, none⟩) (by first | exact Kd.own_blk (Kd.R_ne HO275.out BK282.out (by decide)) | (rw [add_block]; exact Kd.own_blk (Kd.R_ne HO275.out BK282.out (by decide))) | (show (Addr.add _ _).block ≠ _; rw [add_block]; exact Kd.own_blk (Kd.R_ne HO275.out BK282.out (by decide))) | (dsimp only; exact Kd.own_blk (Kd.R_ne HO275.out BK282.out (by decide)))) _).trans (((cell_far (p := ⟨gb282, _, none⟩) (by first | exact Kd.own_blk (Kd.R_ne HO275.out BK282.out (by decide)) | (rw [add_block]; exact Kd.own_blk (Kd.R_ne HO275.out BK282.out (by decide))) | (show (Addr.add _ _).block ≠ _; rw [add_block]; exact Kd.own_blk (Kd.R_ne HO275.out BK282.out (by decide))) | (dsimp only; exact Kd.own_blk (Kd.R_ne HO275.out BK282.out (by decide)))) _).trans (((cell_far (p := ⟨gb282, _, none⟩) (by first | exact Kd.own_blk (Kd.R_ne HO275.out BK282.out (by decide)) | (rw [add_block]; exact Kd.own_blk (Kd.R_ne HO275.out BK282.out (by decide))) | (show (Addr.add _ _).block ≠ _; rw [add_block]; exact Kd.own_blk (Kd.R_ne HO275.out BK282.out (by decide))) | (dsimp only; exact Kd.own_blk (Kd.R_ne HO275.out BK282.out (by decide)))) _).trans (((cell_far (p := ⟨gb282, _, none⟩) (by first | exact Kd.own_blk (Kd.R_ne HO275.out BK282.out (by decide)) | (rw [add_block]; exact Kd.own_blk (Kd.R_ne HO275.out BK282.out (by decide))) | (show (Addr.add _ _).block ≠ _; rw [add_block]; exact Kd.own_blk (Kd.R_ne HO275.out BK282.out (by decide))) | (dsimp only; exact Kd.own_blk (Kd.R_ne HO275.out BK282.out (by decide)))) _).trans (((cell_far (p := ⟨gb282, _, none⟩) (by first | exact Kd.own_blk (Kd.R_ne HO275.out BK282.out (by decide)) | (rw [add_block]; exact Kd.own_blk (Kd.R_ne HO275.out BK282.out (by decide))) | (show (Addr.add _ _).block ≠ _; rw [add_block]; exact Kd.own_blk (Kd.R_ne HO275.out BK282.out (by decide))) | (dsimp only; exact Kd.own_blk (Kd.R_ne HO275.out BK282.out (by decide)))) _).trans (hHeld.2.2.2.2.1)))))))))))), ((cell_far (p := ⟨gb282, _, none⟩) (by first | exact Kd.own_blk (Kd.R_ne HO275.out BK282.out (by decide)) | (rw [add_block]; exact Kd.own_blk (Kd.R_ne HO275.out BK282.out (by decide))) | (show (Addr.add _ _).block ≠ _; rw [add_block]; exact Kd.own_blk (Kd.R_ne HO275.out BK282.out (by decide))) | (dsimp only; exact Kd.own_blk (Kd.R_ne HO275.out BK282.out (by decide)))) _).trans (((cell_far (p := ⟨gb282, _, none⟩) (by first | exact Kd.own_blk (Kd.R_ne HO275.out BK282.out (by decide)) | (rw [add_block]; exact Kd.own_blk (Kd.R_ne HO275.out BK282.out (by decide))) | (show (Addr.add _ _).block ≠ _; rw [add_block]; exact Kd.own_blk (Kd.R_ne HO275.out BK282.out (by decide))) | (dsimp only; exact Kd.own_blk (Kd.R_ne HO275.out BK282.out (by decide)))) _).trans (((cell_far (p := ⟨gb282, _, none⟩) (by first | exact Kd.own_blk (Kd.R_ne HO275.out BK282.out (by decide)) | (rw [add_block]; exact Kd.own_blk (Kd.R_ne HO275.out BK282.out (by decide))) | (show (Addr.add _ _).block ≠ _; rw [add_block]; exact Kd.own_blk (Kd.R_ne HO275.out BK282.out (by decide))) | (dsimp only; exact Kd.own_blk (Kd.R_ne HO275.out BK282.out (by decide)))) _).trans (((cell_far (p := ⟨gb282, _, none⟩) (by first | exact Kd.own_blk (Kd.R_ne HO275.out BK282.out (by decide)) | (rw [add_block]; exact Kd.own_blk (Kd.R_ne HO275.out BK282.out (by decide))) | (show (Addr.add _ _).block ≠ _; rw [add_block]; exact Kd.own_blk (Kd.R_ne HO275.out BK282.out (by decide))) | (dsimp only; exact Kd.own_blk (Kd.R_ne HO275.out BK282.out (by decide)))) _).trans (((cell_far (p := ⟨gb282, _, none⟩) (by first | exact Kd.own_blk (Kd.R_ne HO275.out BK282.out (by decide)) | (rw [add_block]; exact Kd.own_blk (Kd.R_ne HO275.out BK282.out (by decide))) | (show (Addr.add _ _).block ≠ _; rw [add_block]; exact Kd.own_blk (Kd.R_ne HO275.out BK282.out (by decide))) | (dsimp only; exact Kd.own_blk (Kd.R_ne HO275.out BK282.out (by decide)))) _).trans (((cell_far (p := ⟨gb282, _, none⟩) (by first | exact Kd.own_blk (Kd.R_ne HO275.out BK282.out (by decide)) | (rw [add_block]; exact Kd.own_blk (Kd.R_ne HO275.out BK282.out (by decide))) | (show (Addr.add _ _).block ≠ _; rw [add_block]; exact Kd.own_blk (Kd.R_ne HO275.out BK282.out (by decide))) | (dsimp only; exact Kd.own_blk (Kd.R_ne HO275.out BK282.out (by decide)))) _).trans (hHeld.2.2.2.2.2))))))))))))⟩ (fun hHeld => ?_)
        clear hK K
        refine done_ (done_of HT_.out (by kernel_rfl)) ?_
        try go_wp2
        have n0_ : Aside0 (Kd.R (Kd.int .i64) 3 ((((((w15.setCell ⟨gb282, 0, none⟩ (.int .i64 (rd t272 0))).setCell ⟨gb282, 1, none⟩ (.int .i64 (rd t272 1))).setCell ⟨gb282, 2, none⟩ (.int .i64 (rd t272 2))).setCell ⟨gb282, 3, none⟩ (.int .i64 (rd t272 3))).setCell ⟨gb282, 4, none⟩ (.int .i64 (rd t272 4))).setCell ⟨gb282, 5, none⟩ (.int .i64 (rd t272 5))) w.heap.size (fun _ => True) (.slice (some ad276) t272.length co14) t272) := ⟨by (with_reducible repeat (first | apply Kd.R_alloc | apply Kd.R_drewN | apply Kd.R_drew)); exact Kd.R_mono (Kd.R_far (p := ⟨gb282, 5, none⟩) (Kd.R_far (p := ⟨gb282, 4, none⟩) (Kd.R_far (p := ⟨gb282, 3, none⟩) (Kd.R_far (p := ⟨gb282, 2, none⟩) (Kd.R_far (p := ⟨gb282, 1, none⟩) (Kd.R_far (p := ⟨gb282, 0, none⟩) (Kd.R_types HO275.out BK282.out (by decide)) (fun _ hk => hk.2) (.int .i64 (rd t272 0))) (fun _ hk => hk.2) (.int .i64 (rd t272 1))) (fun _ hk => hk.2) (.int .i64 (rd t272 2))) (fun _ hk => hk.2) (.int .i64 (rd t272 3))) (fun _ hk => hk.2) (.int .i64 (rd t272 4))) (fun _ hk => hk.2) (.int .i64 (rd t272 5))) (fun _ hk => trivial)⟩
        have n1_ : Aside0 (((((((w15.setCell ⟨gb282, 0, none⟩ (.int .i64 (rd t272 0))).setCell ⟨gb282, 1, none⟩ (.int .i64 (rd t272 1))).setCell ⟨gb282, 2, none⟩ (.int .i64 (rd t272 2))).setCell ⟨gb282, 3, none⟩ (.int .i64 (rd t272 3))).setCell ⟨gb282, 4, none⟩ (.int .i64 (rd t272 4))).setCell ⟨gb282, 5, none⟩ (.int .i64 (rd t272 5))).heap[gb271]? = some (.cells #[.int .i64 0, .int .i64 0, .int .i64 0, .int .i64 0, .int .i64 0, .int .i64 0] 30 (0, 0))) := ⟨by (with_reducible repeat (first | refine blk_drewN ?_ _ | refine blk_drew ?_ | refine blk_alloc ?_ _)); refine blk_far ?_ NB271_282.out _; (with_reducible repeat (first | refine blk_drewN ?_ _ | refine blk_drew ?_ | refine blk_alloc ?_ _)); refine blk_far ?_ NB271_282.out _; (with_reducible repeat (first | refine blk_drewN ?_ _ | refine blk_drew ?_ | refine blk_alloc ?_ _)); refine blk_far ?_ NB271_282.out _; (with_reducible repeat (first | refine blk_drewN ?_ _ | refine blk_drew ?_ | refine blk_alloc ?_ _)); refine blk_far ?_ NB271_282.out _; (with_reducible repeat (first | refine blk_drewN ?_ _ | refine blk_drew ?_ | refine blk_alloc ?_ _)); refine blk_far ?_ NB271_282.out _; (with_reducible repeat (first | refine blk_drewN ?_ _ | refine blk_drew ?_ | refine blk_alloc ?_ _)); refine blk_far ?_ NB271_282.out _; (with_reducible repeat (first | refine blk_drewN ?_ _ | refine blk_drew ?_ | refine blk_alloc ?_ _)); exact BK271.out⟩
        have n2_ : Aside0 (((((((w15.setCell ⟨gb282, 0, none⟩ (.int .i64 (rd t272 0))).setCell ⟨gb282, 1, none⟩ (.int .i64 (rd t272 1))).setCell ⟨gb282, 2, none⟩ (.int .i64 (rd t272 2))).setCell ⟨gb282, 3, none⟩ (.int .i64 (rd t272 3))).setCell ⟨gb282, 4, none⟩ (.int .i64 (rd t272 4))).setCell ⟨gb282, 5, none⟩ (.int .i64 (rd t272 5))).heap[gb282]? = some (.cells #[.int .i64 (rd t272 0), .int .i64 (rd t272 1), .int .i64 (rd t272 2), .int .i64 (rd t272 3), .int .i64 (rd t272 4), .int .i64 (rd t272 5)] 30 (0, 0))) := ⟨by (with_reducible repeat (first | refine blk_drewN ?_ _ | refine blk_drew ?_ | refine blk_alloc ?_ _)); refine blk_put (cs := #[.int .i64 (rd t272 0), .int .i64 (rd t272 1), .int .i64 (rd t272 2), .int .i64 (rd t272 3), .int .i64 (rd t272 4), .int .i64 0]) ?_ 5 _ rfl; (with_reducible repeat (first | refine blk_drewN ?_ _ | refine blk_drew ?_ | refine blk_alloc ?_ _)); refine blk_put (cs := #[.int .i64 (rd t272 0), .int .i64 (rd t272 1), .int .i64 (rd t272 2), .int .i64 (rd t272 3), .int .i64 0, .int .i64 0]) ?_ 4 _ rfl; (with_reducible repeat (first | refine blk_drewN ?_ _ | refine blk_drew ?_ | refine blk_alloc ?_ _)); refine blk_put (cs := #[.int .i64 (rd t272 0), .int .i64 (rd t272 1), .int .i64 (rd t272 2), .int .i64 0, .int .i64 0, .int .i64 0]) ?_ 3 _ rfl; (with_reducible repeat (first | refine blk_drewN ?_ _ | refine blk_drew ?_ | refine blk_alloc ?_ _)); refine blk_put (cs := #[.int .i64 (rd t272 0), .int .i64 (rd t272 1), .int .i64 0, .int .i64 0, .int .i64 0, .int .i64 0]) ?_ 2 _ rfl; (with_reducible repeat (first | refine blk_drewN ?_ _ | refine blk_drew ?_ | refine blk_alloc ?_ _)); refine blk_put (cs := #[.int .i64 (rd t272 0), .int .i64 0, .int .i64 0, .int .i64 0, .int .i64 0, .int .i64 0]) ?_ 1 _ rfl; (with_reducible repeat (first | refine blk_drewN ?_ _ | refine blk_drew ?_ | refine blk_alloc ?_ _)); refine blk_put (cs := #[.int .i64 0, .int .i64 0, .int .i64 0, .int .i64 0, .int .i64 0, .int .i64 0]) ?_ 0 _ rfl; (with_reducible repeat (first | refine blk_drewN ?_ _ | refine blk_drew ?_ | refine blk_alloc ?_ _)); exact BK282.out⟩
        have n3_ : Aside0 (Below w.heap.size w ((((((w15.setCell ⟨gb282, 0, none⟩ (.int .i64 (rd t272 0))).setCell ⟨gb282, 1, none⟩ (.int .i64 (rd t272 1))).setCell ⟨gb282, 2, none⟩ (.int .i64 (rd t272 2))).setCell ⟨gb282, 3, none⟩ (.int .i64 (rd t272 3))).setCell ⟨gb282, 4, none⟩ (.int .i64 (rd t272 4))).setCell ⟨gb282, 5, none⟩ (.int .i64 (rd t272 5)))) := ⟨bel_⟩
        (try clear HO275)
        (try clear BK271)
        (try clear BK282)
        (try clear HB)
        generalize ((((((w15.setCell ⟨gb282, 0, none⟩ (.int .i64 (rd t272 0))).setCell ⟨gb282, 1, none⟩ (.int .i64 (rd t272 1))).setCell ⟨gb282, 2, none⟩ (.int .i64 (rd t272 2))).setCell ⟨gb282, 3, none⟩ (.int .i64 (rd t272 3))).setCell ⟨gb282, 4, none⟩ (.int .i64 (rd t272 4))).setCell ⟨gb282, 5, none⟩ (.int .i64 (rd t272 5))) = w22 at n0_ n1_ n2_ n3_ ⊢
        have HO275 := n0_
        have BK271 := n1_
        have BK282 := n2_
        have HB := n3_
        clear n0_ n1_ n2_ n3_
        have n0_ := Aside0.mk (Kd.R_drew HO275.out)
        have n1_ := Aside0.mk (blk_drew BK271.out)
        have n2_ := Aside0.mk (blk_drew BK282.out)
        have n3_ := Aside0.mk (below_drew1 HB.out)
        clear HO275
        clear BK271
        clear BK282
        clear HB
        have HO275 := n0_
        have BK271 := n1_
        have BK282 := n2_
        have HB := n3_
        clear n0_ n1_ n2_ n3_
        refine start_ (n := 5) (S := fun w' => w'.cell? ⟨gb282, 0, none⟩ = some (.int .i64 (rd t272 0)) ∧ w'.cell? ⟨gb282, 1, none⟩ = some (.int .i64 (rd t272 1)) ∧ w'.cell? ⟨gb282, 2, none⟩ = some (.int .i64 (rd t272 2)) ∧ w'.cell? ⟨gb282, 3, none⟩ = some (.int .i64 (rd t272 3)) ∧ w'.cell? ⟨gb282, 4, none⟩ = some (.int .i64 (rd t272 4)) ∧ w'.cell? ⟨gb282, 5, none⟩ = some (.int .i64 (rd t272 5))) (ds := []) (Bz 5 0) (by kernel_rfl) rfl (by kernel_rfl) ⟨(blk_cell BK282.out 0).trans rfl, (blk_cell BK282.out 1).trans rfl, (blk_cell BK282.out 2).trans rfl, (blk_cell BK282.out 3).trans rfl, (blk_cell BK282.out 4).trans rfl, (blk_cell BK282.out 5).trans rfl⟩ (fun hHeld => ?_)
        generalize w22.drew = w23 at HO275 BK271 BK282 HB hHeld ⊢
        refine take_ (i := 0) (N := some 34) (v := ?_) (a' := ?_) #[T_, F_, F_, F_, F_] rfl rfl (by kernel_rfl) (fun _ _ _ h => h) (Or.inl ⟨by rfl, ?_⟩) hHeld ?_ ?_
        rotate_left
        ·rintro w' ⟨s0, s1, s2, s3, s4, s5⟩
         go_simp
         with_reducible rfl
        rotate_left
        ·simp only [Act.put, List.setIfInBounds_toArray, List.set_cons_zero, List.set_cons_succ, i64_w, i32_w]
         rfl
        refine take_ (i := 1) (N := some 35) (v := ?_) (a' := ?_) #[T_, T_, F_, F_, F_] rfl rfl (by kernel_rfl) (fun _ _ _ h => h) (Or.inl ⟨by rfl, ?_⟩) hHeld ?_ ?_
        rotate_left
        ·rintro w' ⟨s0, s1, s2, s3, s4, s5⟩
         go_simp
         with_reducible rfl
        rotate_left
        ·simp only [Act.put, List.setIfInBounds_toArray, List.set_cons_zero, List.set_cons_succ, i64_w, i32_w]
         rfl
        refine one_ (i := 2) (N := some 36) #[T_, T_, T_, F_, F_] rfl rfl (by kernel_rfl) (by decide) (fun K hK => ?_)
        refine goes_ Tryz.func62 (by kernel_rfl) rfl #[.agg #[.int .i64 (rd t272 0), .int .i64 (rd t272 1), .int .i64 (rd t272 2), .int .i64 (rd t272 3), .int .i64 (rd t272 4), .int .i64 (rd t272 5)]] (by rfl) rfl rfl maps_ ?_
        with_reducible refine (impl_AggOK.calls (rd t272 0) (rd t272 1) (rd t272 2) (rd t272 3) (rd t272 4) (rd t272 5) t283 _ A10.out).mono ?_
        rintro e w24 ⟨rfl, hb⟩
        refine ⟨_, rfl, ?_⟩
        have n0_ := Aside0.mk (Kd.R_below (by (with_reducible repeat (first | apply Kd.R_alloc | apply Kd.R_drewN | apply Kd.R_drew)); exact HO275.out) hb)
        have n1_ := Aside0.mk (blk_below (g := gb271) (o := .cells #[.int .i64 0, .int .i64 0, .int .i64 0, .int .i64 0, .int .i64 0, .int .i64 0] 30 (0, 0)) (by (with_reducible repeat (first | refine blk_drewN ?_ _ | refine blk_drew ?_ | refine blk_alloc ?_ _)); exact BK271.out) hb)
        have n2_ := Aside0.mk (blk_below (g := gb282) (o := .cells #[.int .i64 (rd t272 0), .int .i64 (rd t272 1), .int .i64 (rd t272 2), .int .i64 (rd t272 3), .int .i64 (rd t272 4), .int .i64 (rd t272 5)] 30 (0, 0)) (by (with_reducible repeat (first | refine blk_drewN ?_ _ | refine blk_drew ?_ | refine blk_alloc ?_ _)); exact BK282.out) hb)
        have n3_ := Aside0.mk (below_step (bel_) hb)
        clear HO275
        clear BK271
        clear BK282
        clear HB
        have HO275 := n0_
        have BK271 := n1_
        have BK282 := n2_
        have HB := n3_
        clear n0_ n1_ n2_ n3_
        (try clear hb)
        (try clear hb2)
        (try clear hk)
        (try clear hi)
        refine hK.out _ _ ⟨(blk_cell BK282.out 0).trans rfl, (blk_cell BK282.out 1).trans rfl, (blk_cell BK282.out 2).trans rfl, (blk_cell BK282.out 3).trans rfl, (blk_cell BK282.out 4).trans rfl, (blk_cell BK282.out 5).trans rfl⟩ (fun hHeld => ?_)
        clear hK K
        refine norm_ (a' := ?_) ?_ ?_
        rotate_left
        ·show Act.put _ (some 36) _ = _
         simp only [Act.put, List.setIfInBounds_toArray, List.set_cons_zero, List.set_cons_succ, i64_w, i32_w]
         rfl
        refine one_ (i := 3) (N := none) #[T_, T_, T_, T_, F_] rfl rfl (by kernel_rfl) (by decide) (fun K hK => ?_)
        have hs25 : w24.cell? ⟨gb271, 0, none⟩ = some (.int .i64 0) := (blk_cell BK271.out 0).trans rfl
        have hfs25 := blk_frozen BK271.out 0
        have hns25_1 := NB282_271.out
        have hms25_1 := NB271_282.out
        have hs26 : w24.cell? ⟨gb271, 1, none⟩ = some (.int .i64 0) := (blk_cell BK271.out 1).trans rfl
        have hfs26 := blk_frozen BK271.out 1
        have hns26_1 := NB282_271.out
        have hms26_1 := NB271_282.out
        have hs27 : w24.cell? ⟨gb271, 2, none⟩ = some (.int .i64 0) := (blk_cell BK271.out 2).trans rfl
        have hfs27 := blk_frozen BK271.out 2
        have hns27_1 := NB282_271.out
        have hms27_1 := NB271_282.out
        have hs28 : w24.cell? ⟨gb271, 3, none⟩ = some (.int .i64 0) := (blk_cell BK271.out 3).trans rfl
        have hfs28 := blk_frozen BK271.out 3
        have hns28_1 := NB282_271.out
        have hms28_1 := NB271_282.out
        have hs29 : w24.cell? ⟨gb271, 4, none⟩ = some (.int .i64 0) := (blk_cell BK271.out 4).trans rfl
        have hfs29 := blk_frozen BK271.out 4
        have hns29_1 := NB282_271.out
        have hms29_1 := NB271_282.out
        have hs30 : w24.cell? ⟨gb271, 5, none⟩ = some (.int .i64 0) := (blk_cell BK271.out 5).trans rfl
        have hfs30 := blk_frozen BK271.out 5
        have hns30_1 := NB282_271.out
        have hms30_1 := NB271_282.out
        refine skip_ (w1 := ?_) (by rfl) rfl ?_ ?_
        rotate_left
        ·go_simp
         rfl
        refine hK.out _ _ ⟨((cell_far (p := ⟨gb271, _, none⟩) NB282_271.out _).trans (((cell_far (p := ⟨gb271, _, none⟩) NB282_271.out _).trans (((cell_far (p := ⟨gb271, _, none⟩) NB282_271.out _).trans (((cell_far (p := ⟨gb271, _, none⟩) NB282_271.out _).trans (((cell_far (p := ⟨gb271, _, none⟩) NB282_271.out _).trans (((cell_far (p := ⟨gb271, _, none⟩) NB282_271.out _).trans (hHeld.1)))))))))))), ((cell_far (p := ⟨gb271, _, none⟩) NB282_271.out _).trans (((cell_far (p := ⟨gb271, _, none⟩) NB282_271.out _).trans (((cell_far (p := ⟨gb271, _, none⟩) NB282_271.out _).trans (((cell_far (p := ⟨gb271, _, none⟩) NB282_271.out _).trans (((cell_far (p := ⟨gb271, _, none⟩) NB282_271.out _).trans (((cell_far (p := ⟨gb271, _, none⟩) NB282_271.out _).trans (hHeld.2.1)))))))))))), ((cell_far (p := ⟨gb271, _, none⟩) NB282_271.out _).trans (((cell_far (p := ⟨gb271, _, none⟩) NB282_271.out _).trans (((cell_far (p := ⟨gb271, _, none⟩) NB282_271.out _).trans (((cell_far (p := ⟨gb271, _, none⟩) NB282_271.out _).trans (((cell_far (p := ⟨gb271, _, none⟩) NB282_271.out _).trans (((cell_far (p := ⟨gb271, _, none⟩) NB282_271.out _).trans (hHeld.2.2.1)))))))))))), ((cell_far (p := ⟨gb271, _, none⟩) NB282_271.out _).trans (((cell_far (p := ⟨gb271, _, none⟩) NB282_271.out _).trans (((cell_far (p := ⟨gb271, _, none⟩) NB282_271.out _).trans (((cell_far (p := ⟨gb271, _, none⟩) NB282_271.out _).trans (((cell_far (p := ⟨gb271, _, none⟩) NB282_271.out _).trans (((cell_far (p := ⟨gb271, _, none⟩) NB282_271.out _).trans (hHeld.2.2.2.1)))))))))))), ((cell_far (p := ⟨gb271, _, none⟩) NB282_271.out _).trans (((cell_far (p := ⟨gb271, _, none⟩) NB282_271.out _).trans (((cell_far (p := ⟨gb271, _, none⟩) NB282_271.out _).trans (((cell_far (p := ⟨gb271, _, none⟩) NB282_271.out _).trans (((cell_far (p := ⟨gb271, _, none⟩) NB282_271.out _).trans (((cell_far (p := ⟨gb271, _, none⟩) NB282_271.out _).trans (hHeld.2.2.2.2.1)))))))))))), ((cell_far (p := ⟨gb271, _, none⟩) NB282_271.out _).trans (((cell_far (p := ⟨gb271, _, none⟩) NB282_271.out _).trans (((cell_far (p := ⟨gb271, _, none⟩) NB282_271.out _).trans (((cell_far (p := ⟨gb271, _, none⟩) NB282_271.out _).trans (((cell_far (p := ⟨gb271, _, none⟩) NB282_271.out _).trans (((cell_far (p := ⟨gb271, _, none⟩) NB282_271.out _).trans (hHeld.2.2.2.2.2))))))))))))⟩ (fun hHeld => ?_)
        clear hK K
        refine pure_ (i := 4) (N := some 3) (v := ?_) (a' := ?_) #[T_, T_, T_, T_, T_] rfl rfl (by kernel_rfl) (fun _ _ _ h => h) (Or.inl ⟨by rfl, ?_⟩) ?_ ?_
        rotate_left
        ·intro w'
         go_simp
         with_reducible rfl
        rotate_left
        ·simp only [Act.put, List.setIfInBounds_toArray, List.set_cons_zero, List.set_cons_succ, i64_w, i32_w]
         rfl
        refine done_ (by kernel_rfl) ?_
        try go_wp2
        refine bodyPost_ret (results_ct rfl _ _ gb271 30 #[.int .i64 (rd t272 0), .int .i64 (rd t272 1), .int .i64 (rd t272 2), .int .i64 (rd t272 3), .int .i64 (rd t272 4), .int .i64 (rd t272 5)] (0, 0) _ rfl (by (with_reducible repeat (first | refine blk_drewN ?_ _ | refine blk_drew ?_ | refine blk_alloc ?_ _)); refine blk_put (cs := #[.int .i64 (rd t272 0), .int .i64 (rd t272 1), .int .i64 (rd t272 2), .int .i64 (rd t272 3), .int .i64 (rd t272 4), .int .i64 0]) ?_ 5 _ rfl; (with_reducible repeat (first | refine blk_drewN ?_ _ | refine blk_drew ?_ | refine blk_alloc ?_ _)); refine blk_put (cs := #[.int .i64 (rd t272 0), .int .i64 (rd t272 1), .int .i64 (rd t272 2), .int .i64 (rd t272 3), .int .i64 0, .int .i64 0]) ?_ 4 _ rfl; (with_reducible repeat (first | refine blk_drewN ?_ _ | refine blk_drew ?_ | refine blk_alloc ?_ _)); refine blk_put (cs := #[.int .i64 (rd t272 0), .int .i64 (rd t272 1), .int .i64 (rd t272 2), .int .i64 0, .int .i64 0, .int .i64 0]) ?_ 3 _ rfl; (with_reducible repeat (first | refine blk_drewN ?_ _ | refine blk_drew ?_ | refine blk_alloc ?_ _)); refine blk_put (cs := #[.int .i64 (rd t272 0), .int .i64 (rd t272 1), .int .i64 0, .int .i64 0, .int .i64 0, .int .i64 0]) ?_ 2 _ rfl; (with_reducible repeat (first | refine blk_drewN ?_ _ | refine blk_drew ?_ | refine blk_alloc ?_ _)); refine blk_put (cs := #[.int .i64 (rd t272 0), .int .i64 0, .int .i64 0, .int .i64 0, .int .i64 0, .int .i64 0]) ?_ 1 _ rfl; (with_reducible repeat (first | refine blk_drewN ?_ _ | refine blk_drew ?_ | refine blk_alloc ?_ _)); refine blk_put (cs := #[.int .i64 0, .int .i64 0, .int .i64 0, .int .i64 0, .int .i64 0, .int .i64 0]) ?_ 0 _ rfl; (with_reducible repeat (first | refine blk_drewN ?_ _ | refine blk_drew ?_ | refine blk_alloc ?_ _)); exact BK271.out) Tryz.underlying30 rfl (by kernel_rfl)) rfl ?_
        exact ⟨by first | rfl | (simp [errW_none, errW_some] <;> rfl) | (simp [*, errW_none, errW_some] <;> rfl), bel_⟩
       ·rw [if_neg c9] at H
        exact absurd H (by simp)
      ·rw [if_neg c8] at H
       exact absurd H (by simp)
     ·rw [if_neg c7] at H
      exact absurd H (by simp)
    ·rw [if_neg c6] at H
     exact absurd H (by simp)
   ·rw [if_neg c5] at H
    exact absurd H (by simp)
  ·rw [if_neg c4] at H
   exact absurd H (by simp)
 ·replace c3 := Bool.eq_false_iff.mpr c3
  subst c3
  have H1 : (some (0, 0, 0, 0, 0, 0, false)) = some (r1, r2, r3, r4, r5, r6, r7) := by rw [if_neg (show ¬ (false = true) by decide)] at H; exact H
  clear H
  have H := H1
  clear H1
  simp only [Option.some.injEq, Prod.mk.injEq] at H
  obtain ⟨rfl, rfl, rfl, rfl, rfl, rfl, rfl⟩ := H
  go_enter Tryz.func97, Tryz.ntmps97
  go_wp2_with (first | ((with_reducible refine gate_dst (N := 2) rfl ?_); refine box_event ?hg (N := 2) ?hd (cs := #[.int .i64 0, .int .i64 0, .int .i64 0, .int .i64 0, .int .i64 0, .int .i64 0]) (t := 30) ?hr ?_; (case hd => rfl); (case hg => rfl); (case hr => first | (go_simp; done) | (go_simp; rfl)); intro gb271 hg w31 hbox hb; have n0_ := Aside0.mk (below_step (bel_) hb); have n1_ := Aside0.mk (hbox); have n2_ := Aside0.mk ((by rw [hg]; exact (below_size (bel_)) : w.heap.size ≤ gb271)); have n3_ := Aside0.mk ((by rw [hg]; exact (below_size (bel_)) : w.heap.size ≤ gb271)); clear HB; have HB := n0_; have BK271 := n1_; have GW271 := n2_; have GE271 := n3_; clear n0_ n1_ n2_ n3_; clear hb hbox hg) | ((with_reducible refine gate_callee (f := 83) rfl ?_); refine goesL_ (some 9) rfl rfl Tryz.func83 (by kernel_rfl) rfl #[.string a0, .string (⟨#[44]⟩ : ByteArray), .int .i64 6] rfl maps_ ?_; (with_reducible refine (impl_numbers.calls k a0 (⟨#[44]⟩ : ByteArray) 6 t272 false _ ?side1 A2.out).mono ?_); (case side1 => exact Gl.below HG.out (bel_)); rintro e w32 ⟨v274, rfl, ho0, hb⟩; refine ⟨_, rfl, ?_⟩; have n0_ := Aside0.mk (Kd.R_lower ho0 (below_size (bel_))); have n1_ := Aside0.mk (blk_below (g := gb271) (o := .cells #[.int .i64 0, .int .i64 0, .int .i64 0, .int .i64 0, .int .i64 0, .int .i64 0] 30 (0, 0)) (by (with_reducible repeat (first | refine blk_drewN ?_ _ | refine blk_drew ?_ | refine blk_alloc ?_ _)); exact BK271.out) hb); have n2_ := Aside0.mk (below_step (bel_) hb); clear BK271; clear HB; have HO275 := n0_; have BK271 := n1_; have HB := n2_; clear n0_ n1_ n2_; (try clear hb); (try clear hb2); (try clear hk); (try clear hi); (try clear ho0); have hcz33_0 : w32.cell? ⟨gb271, 0, none⟩ = some (.int .i64 0) := (blk_cell BK271.out 0).trans rfl; have hcz33_1 : w32.cell? ⟨gb271, 1, none⟩ = some (.int .i64 0) := (blk_cell BK271.out 1).trans rfl; have hcz33_2 : w32.cell? ⟨gb271, 2, none⟩ = some (.int .i64 0) := (blk_cell BK271.out 2).trans rfl; have hcz33_3 : w32.cell? ⟨gb271, 3, none⟩ = some (.int .i64 0) := (blk_cell BK271.out 3).trans rfl; have hcz33_4 : w32.cell? ⟨gb271, 4, none⟩ = some (.int .i64 0) := (blk_cell BK271.out 4).trans rfl; have hcz33_5 : w32.cell? ⟨gb271, 5, none⟩ = some (.int .i64 0) := (blk_cell BK271.out 5).trans rfl; have hfz33_0 := blk_frozen BK271.out 0; have hfz33_1 := blk_frozen BK271.out 1; have hfz33_2 := blk_frozen BK271.out 2; have hfz33_3 := blk_frozen BK271.out 3; have hfz33_4 := blk_frozen BK271.out 4; have hfz33_5 := blk_frozen BK271.out 5))
  refine bodyPost_ret (results_ct rfl _ _ gb271 30 #[.int .i64 0, .int .i64 0, .int .i64 0, .int .i64 0, .int .i64 0, .int .i64 0] (0, 0) _ rfl (by (with_reducible repeat (first | refine blk_drewN ?_ _ | refine blk_drew ?_ | refine blk_alloc ?_ _)); refine blk_put (cs := #[.int .i64 0, .int .i64 0, .int .i64 0, .int .i64 0, .int .i64 0, .int .i64 0]) ?_ 5 _ rfl; (with_reducible repeat (first | refine blk_drewN ?_ _ | refine blk_drew ?_ | refine blk_alloc ?_ _)); refine blk_put (cs := #[.int .i64 0, .int .i64 0, .int .i64 0, .int .i64 0, .int .i64 0, .int .i64 0]) ?_ 4 _ rfl; (with_reducible repeat (first | refine blk_drewN ?_ _ | refine blk_drew ?_ | refine blk_alloc ?_ _)); refine blk_put (cs := #[.int .i64 0, .int .i64 0, .int .i64 0, .int .i64 0, .int .i64 0, .int .i64 0]) ?_ 3 _ rfl; (with_reducible repeat (first | refine blk_drewN ?_ _ | refine blk_drew ?_ | refine blk_alloc ?_ _)); refine blk_put (cs := #[.int .i64 0, .int .i64 0, .int .i64 0, .int .i64 0, .int .i64 0, .int .i64 0]) ?_ 2 _ rfl; (with_reducible repeat (first | refine blk_drewN ?_ _ | refine blk_drew ?_ | refine blk_alloc ?_ _)); refine blk_put (cs := #[.int .i64 0, .int .i64 0, .int .i64 0, .int .i64 0, .int .i64 0, .int .i64 0]) ?_ 1 _ rfl; (with_reducible repeat (first | refine blk_drewN ?_ _ | refine blk_drew ?_ | refine blk_alloc ?_ _)); refine blk_put (cs := #[.int .i64 0, .int .i64 0, .int .i64 0, .int .i64 0, .int .i64 0, .int .i64 0]) ?_ 0 _ rfl; (with_reducible repeat (first | refine blk_drewN ?_ _ | refine blk_drew ?_ | refine blk_alloc ?_ _)); exact BK271.out) Tryz.underlying30 rfl (by kernel_rfl)) rfl ?_
  exact ⟨by first | rfl | (simp [errW_none, errW_some] <;> rfl) | (simp [*, errW_none, errW_some] <;> rfl), bel_⟩

/-! ### impl_readBuckets: function 58 -/
def impl_readBuckets.l0 : Nat → List (S82) → List ByteArray → Int → Int → Option ((List (S82)) × Bool)
 | 0, _, _, _, _ => none
 | k + 1, x4, x16, x17, x18 => if x18 < x17 then (if 0 ≤ x18 then (if x18 < (x16.length : Int) then ((strings_Cut.f (rdOf ByteArray.empty x16 x18) (⟨#[58]⟩ : ByteArray)).bind fun bt292 => ((impl_number.f bt292.1).bind fun bt295 => ((impl_readAgg.f k bt292.2.1).bind fun bt297 => (if bt292.2.2 = true then (if bt295.2 = true then (if bt297.2.2.2.2.2.2 = true then (if x4.length < 2513169434916 then (impl_readBuckets.l0 k (x4 ++ [(⟨bt295.1, (⟨bt297.1, bt297.2.1, bt297.2.2.1, bt297.2.2.2.1, bt297.2.2.2.2.1, bt297.2.2.2.2.2.1⟩ : S30)⟩ : S82)]) x16 x17 (wrap64 (x18 + 1))) else (none)) else (some (([] : List (S82)), false))) else (some (([] : List (S82)), false))) else (some (([] : List (S82)), false)))))) else (none)) else (none)) else ((impl_BucketsOK.f k x4).bind fun t290 => (some (x4, t290)))
def impl_readBuckets.f (k : Nat) (a0 : ByteArray) : Option ((List (S82)) × Bool) := (impl_parts.f a0).bind fun t287 => (impl_readBuckets.l0 k (([] : List (S82))) t287 (t287.length : Int) 0)
theorem impl_readBuckets.mono_l : ∀ k, (∀ y0 y1 y2 y3, LeO (impl_readBuckets.l0 k y0 y1 y2 y3) (impl_readBuckets.l0 (k + 1) y0 y1 y2 y3))
 | 0 => fun _ _ _ _ r h => by simp [impl_readBuckets.l0] at h
 | k + 1 => by
  have ih0 := impl_readBuckets.mono_l k
  ·intro y0 y1 y2 y3
   unfold impl_readBuckets.l0
   repeat' first
   | (with_reducible exact ih0 _ _ _ _)
   | (with_reducible exact impl_BucketsOK.mono _ _)
   | (with_reducible exact impl_readAgg.mono _ _)
   | (with_reducible exact LeO.refl _)
   | (with_reducible exact LeO.none _)
   | (with_reducible refine LeO.ite ?_ ?_)
   | (with_reducible refine LeO.bind ?_ (fun _ => ?_))
   | exact ih0 _ _ _ _
   | exact impl_BucketsOK.mono _ _
   | exact impl_readAgg.mono _ _
   | exact LeO.none _
   | refine LeO.ite ?_ ?_
   | refine LeO.bind ?_ (fun _ => ?_)
theorem impl_readBuckets.mono : ∀ a0 k, LeO (impl_readBuckets.f k a0) (impl_readBuckets.f (k + 1) a0) := by
 intro a0 k
 have ih0 := impl_readBuckets.mono_l k
 unfold impl_readBuckets.f
 repeat' first
   | (with_reducible exact ih0 _ _ _ _)
   | (with_reducible exact impl_BucketsOK.mono _ _)
   | (with_reducible exact impl_readAgg.mono _ _)
   | (with_reducible exact LeO.refl _)
   | (with_reducible exact LeO.none _)
   | (with_reducible refine LeO.ite ?_ ?_)
   | (with_reducible refine LeO.bind ?_ (fun _ => ?_))
   | exact ih0 _ _ _ _
   | exact impl_BucketsOK.mono _ _
   | exact impl_readAgg.mono _ _
   | exact LeO.none _
   | refine LeO.ite ?_ ?_
   | refine LeO.bind ?_ (fun _ => ?_)
set_option maxHeartbeats 8000000 in
set_option maxRecDepth 100000 in
theorem impl_readBuckets.calls (k : Nat) (a0 : ByteArray) (r1 : List (S82)) (r2 : Bool) (w : World) (hG : Gl w) (h : impl_readBuckets.f k a0 = some (r1, r2)) :
  Calls Tryz.prog 58 #[.string a0] w fun e w' => ∃ v0_ : Value, e = .returned (.tuple #[v0_, .bool r2]) ∧ Kd.R k82 82 w' w.heap.size (fun _ => True) v0_ r1 ∧ Below w.heap.size w w' := by
 have hu30 := Tryz.underlying30
 have hu82 := Tryz.underlying82
 have HB := Aside0.mk (Below.refl w.heap.size w)
 have HG := Aside0.mk hG
 clear hG
 have H : ((impl_parts.f a0).bind fun t287 => (impl_readBuckets.l0 k (([] : List (S82))) t287 (t287.length : Int) 0)) = some (r1, r2) := h
 clear h
 obtain ⟨y284, hy284⟩ : ∃ y_ : List (S82), y_ = (([] : List (S82))) := ⟨_, rfl⟩
 replace H : ((impl_parts.f a0).bind fun t287 => (impl_readBuckets.l0 k y284 t287 (t287.length : Int) 0)) = some (r1, r2) := by first | (rw [hy284]; with_reducible exact H) | (have H2_ := (Option.bind_some _ _).symm.trans H; rw [hy284]; with_reducible exact H2_) | (have H2_ := (Option.bind_some _ _).symm.trans H; with_reducible exact H2_) | with_reducible exact H | (rw [hy284]; exact H) | exact H
 have Ny284 := Aside0.mk hy284
 clear hy284
 replace H := Option.bind_eq_some_iff.mp H
 obtain ⟨t287, A20, H⟩ := H
 replace H : (impl_readBuckets.l0 k y284 t287 (t287.length : Int) 0) = some (r1, r2) := H
 have A2 := Aside0.mk A20
 clear A20
 have H' := Aside0.mk H
 clear H
 go_enter Tryz.func58, Tryz.ntmps58
 go_wp2_with (first | ((with_reducible refine gate_dst (N := 14) rfl ?_); refine Kd.R_lit k82 _ 82 ?hg (N := 14) ?hd (xs := ([] : List (S82))) (inner := []) (ok := fun _ => True) (okp := fun _ => True) ?hr ?hp (fun _ hk => hk) trivial (Below.refl _ _) (Nat.le_refl _) (by simp) ?_; (case hd => rfl); (case hg => rfl); (case hr => first | (go_simp; done) | (go_simp; rfl)); (case hp => exact (Reps.none _ _)); intro v285 w3 ho4 hb hg_ hnew_; clear hg_ hnew_; (first | rw [← Ny284.out] at ho4 | (simp only [Int.reduceToNat] at ho4; rw [← Ny284.out] at ho4)); have n0_ := Aside0.mk (Kd.R_lower ho4 (below_size (bel_))); have n1_ := Aside0.mk (below_step (bel_) hb); clear HB; have HO286 := n0_; have HB := n1_; clear n0_ n1_; clear hb ho4) | ((with_reducible refine gate_callee (f := 90) rfl ?_); refine goesL_ (some 16) rfl rfl Tryz.func90 (by kernel_rfl) rfl #[.string a0] rfl maps_ ?_; (with_reducible refine (impl_parts.calls a0 t287 _ ?side1 A2.out).mono ?_); (case side1 => exact Gl.below HG.out (bel_)); rintro e w5 ⟨v288, rfl, ho0, hb⟩; refine ⟨_, rfl, ?_⟩; have n0_ := Aside0.mk (Kd.R_below (by (with_reducible repeat (first | apply Kd.R_alloc | apply Kd.R_drewN | apply Kd.R_drew)); exact HO286.out) hb); have n1_ := Aside0.mk (Kd.R_lower ho0 (below_size (bel_))); have n2_ := Aside0.mk (below_step (bel_) hb); clear HO286; clear HB; have HO286 := n0_; have HO289 := n1_; have HB := n2_; clear n0_ n1_ n2_; (try clear hb); (try clear hb2); (try clear hk); (try clear hi); (try clear ho0); obtain ⟨Ao6, co6, eo6⟩ := Kd.R_slice HO289.out; subst eo6))
 go_loopg [4, 18] k (fun kq v4 v18 w' => ∃ (x4_1 : List (S82)) (x18_1 : Int), v18 = .int .i64 x18_1 ∧ Aside0 (impl_readBuckets.l0 kq x4_1 t287 (t287.length : Int) x18_1 = some (r1, r2)) ∧ Aside0 (kq ≤ k) ∧ Aside0 (Kd.R k82 82 w' w.heap.size (fun _ => True) v4 x4_1) ∧ Aside0 (Kd.R Kd.string 9 w' w.heap.size (fun _ => True) (.slice Ao6 t287.length co6) t287) ∧ Aside0 (Below w.heap.size w w'))
 case atStart => exact ⟨(y284), (0), (by first | rfl | (simp; done) | (simp [*]; done)), H', ⟨Nat.le_refl _⟩, ⟨by (with_reducible repeat (first | apply Kd.R_alloc | apply Kd.R_drewN | apply Kd.R_drew)); exact HO286.out⟩, ⟨by (with_reducible repeat (first | apply Kd.R_alloc | apply Kd.R_drewN | apply Kd.R_drew)); exact HO289.out⟩, ⟨bel_⟩⟩
 case round =>
  clear H'
  try clear p2
  try clear c5
  obtain ⟨x4_1, x18_1, rfl, HA, HK1, HO_4, HO_16, HB⟩ := hrel
  cases gk with
  | zero => exact absurd HA.out (by simp [impl_readBuckets.l0])
  | succ k1 =>
   have H := HA.out
   clear HA
   simp only [impl_readBuckets.l0] at H
   by_cases c7 : x18_1 < (t287.length : Int)
   ·rw [if_pos c7] at H
    have c7b0 : decide (x18_1 < (t287.length : Int)) = true := decide_eq_true c7
    clear c7
    by_cases c8 : 0 ≤ x18_1
    ·rw [if_pos c8] at H
     have c8b0 : decide (0 ≤ x18_1) = true := decide_eq_true c8
     clear c8
     by_cases c9 : x18_1 < (t287.length : Int)
     ·rw [if_pos c9] at H
      have c9b0 : decide (x18_1 < (t287.length : Int)) = true := decide_eq_true c9
      clear c9
      replace H := Option.bind_eq_some_iff.mp H
      obtain ⟨⟨t292, t293, t294⟩, A100, H⟩ := H
      replace H : ((impl_number.f t292).bind fun bt295 => ((impl_readAgg.f k1 t293).bind fun bt297 => (if t294 = true then (if bt295.2 = true then (if bt297.2.2.2.2.2.2 = true then (if x4_1.length < 2513169434916 then (impl_readBuckets.l0 k1 (x4_1 ++ [(⟨bt295.1, (⟨bt297.1, bt297.2.1, bt297.2.2.1, bt297.2.2.2.1, bt297.2.2.2.2.1, bt297.2.2.2.2.2.1⟩ : S30)⟩ : S82)]) t287 (t287.length : Int) (wrap64 (x18_1 + 1))) else (none)) else (some (([] : List (S82)), false))) else (some (([] : List (S82)), false))) else (some (([] : List (S82)), false))))) = some (r1, r2) := H
      have A10 := Aside0.mk A100
      clear A100
      replace H := Option.bind_eq_some_iff.mp H
      obtain ⟨⟨t295, t296⟩, A110, H⟩ := H
      replace H : ((impl_readAgg.f k1 t293).bind fun bt297 => (if t294 = true then (if t296 = true then (if bt297.2.2.2.2.2.2 = true then (if x4_1.length < 2513169434916 then (impl_readBuckets.l0 k1 (x4_1 ++ [(⟨t295, (⟨bt297.1, bt297.2.1, bt297.2.2.1, bt297.2.2.2.1, bt297.2.2.2.2.1, bt297.2.2.2.2.2.1⟩ : S30)⟩ : S82)]) t287 (t287.length : Int) (wrap64 (x18_1 + 1))) else (none)) else (some (([] : List (S82)), false))) else (some (([] : List (S82)), false))) else (some (([] : List (S82)), false)))) = some (r1, r2) := H
      have A11 := Aside0.mk A110
      clear A110
      replace H := Option.bind_eq_some_iff.mp H
      obtain ⟨⟨t297, t298, t299, t300, t301, t302, t303⟩, A120, H⟩ := H
      replace H : (if t294 = true then (if t296 = true then (if t303 = true then (if x4_1.length < 2513169434916 then (impl_readBuckets.l0 k1 (x4_1 ++ [(⟨t295, (⟨t297, t298, t299, t300, t301, t302⟩ : S30)⟩ : S82)]) t287 (t287.length : Int) (wrap64 (x18_1 + 1))) else (none)) else (some (([] : List (S82)), false))) else (some (([] : List (S82)), false))) else (some (([] : List (S82)), false))) = some (r1, r2) := H
      have A12 := Aside0.mk A120
      clear A120
      by_cases c13 : t294 = true
      ·subst c13
       have H1 : (if t296 = true then (if t303 = true then (if x4_1.length < 2513169434916 then (impl_readBuckets.l0 k1 (x4_1 ++ [(⟨t295, (⟨t297, t298, t299, t300, t301, t302⟩ : S30)⟩ : S82)]) t287 (t287.length : Int) (wrap64 (x18_1 + 1))) else (none)) else (some (([] : List (S82)), false))) else (some (([] : List (S82)), false))) = some (r1, r2) := by rw [if_pos rfl] at H; exact H
       clear H
       have H := H1
       clear H1
       by_cases c14 : t296 = true
       ·subst c14
        have H1 : (if t303 = true then (if x4_1.length < 2513169434916 then (impl_readBuckets.l0 k1 (x4_1 ++ [(⟨t295, (⟨t297, t298, t299, t300, t301, t302⟩ : S30)⟩ : S82)]) t287 (t287.length : Int) (wrap64 (x18_1 + 1))) else (none)) else (some (([] : List (S82)), false))) = some (r1, r2) := by rw [if_pos rfl] at H; exact H
        clear H
        have H := H1
        clear H1
        by_cases c15 : t303 = true
        ·subst c15
         have H1 : (if x4_1.length < 2513169434916 then (impl_readBuckets.l0 k1 (x4_1 ++ [(⟨t295, (⟨t297, t298, t299, t300, t301, t302⟩ : S30)⟩ : S82)]) t287 (t287.length : Int) (wrap64 (x18_1 + 1))) else (none)) = some (r1, r2) := by rw [if_pos rfl] at H; exact H
         clear H
         have H := H1
         clear H1
         by_cases c16 : x4_1.length < 2513169434916
         ·rw [if_pos c16] at H
          have LMc16 := Aside0.mk c16
          clear c16
          obtain ⟨y305, hy305⟩ : ∃ y_ : List (S82), y_ = (x4_1 ++ [(⟨t295, (⟨t297, t298, t299, t300, t301, t302⟩ : S30)⟩ : S82)]) := ⟨_, rfl⟩
          replace H : (impl_readBuckets.l0 k1 y305 t287 (t287.length : Int) (wrap64 (x18_1 + 1))) = some (r1, r2) := by first | (rw [hy305]; with_reducible exact H) | (have H2_ := (Option.bind_some _ _).symm.trans H; rw [hy305]; with_reducible exact H2_) | (have H2_ := (Option.bind_some _ _).symm.trans H; with_reducible exact H2_) | with_reducible exact H | (rw [hy305]; exact H) | exact H
          have Ny305 := Aside0.mk hy305
          clear hy305
          have H' := Aside0.mk H
          clear H
          have p291 : 0 ≤ (x18_1 : Int) := of_decide_eq_true (by first | (with_reducible assumption) | assumption)
          have q291 : x18_1 < (t287.length : Int) := of_decide_eq_true (by first | (with_reducible assumption) | assumption)
          obtain ⟨ad291, e291, hx291_0⟩ := Kd.at_string (Kd.R_reads' HO_16.out).2.2 x18_1 p291 q291
          cases e291
          replace p291 := eq_true p291
          replace q291 := eq_true q291
          go_wp2_with (first | ((with_reducible refine gate_callee (f := 96) rfl ?_); refine goesL_ (some 24) rfl rfl Tryz.func96 (by kernel_rfl) rfl #[.string (rdOf ByteArray.empty t287 x18_1), .string (⟨#[58]⟩ : ByteArray)] rfl maps_ ?_; (with_reducible refine (strings_Cut.calls (rdOf ByteArray.empty t287 x18_1) (⟨#[58]⟩ : ByteArray) t292 t293 true _ ?side1 A10.out).mono ?_); (case side1 => exact Gl.below HG.out (bel_)); rintro e w17 ⟨rfl, hb⟩; refine ⟨_, rfl, ?_⟩; have n0_ := Aside0.mk (Kd.R_below (by (with_reducible repeat (first | apply Kd.R_alloc | apply Kd.R_drewN | apply Kd.R_drew)); exact HO_4.out) hb); have n1_ := Aside0.mk (Kd.R_below (by (with_reducible repeat (first | apply Kd.R_alloc | apply Kd.R_drewN | apply Kd.R_drew)); exact HO_16.out) hb); have n2_ := Aside0.mk (below_step (bel_) hb); clear HO_4; clear HO_16; clear HB; have HO_4 := n0_; have HO_16 := n1_; have HB := n2_; clear n0_ n1_ n2_; (try clear hb); (try clear hb2); (try clear hk); (try clear hi)) | ((with_reducible refine gate_callee (f := 81) rfl ?_); refine goesL_ (some 30) rfl rfl Tryz.func81 (by kernel_rfl) rfl #[.string t292] rfl maps_ ?_; (with_reducible refine (impl_number.calls t292 t295 true _ ?side1 A11.out).mono ?_); (case side1 => exact Gl.below HG.out (bel_)); rintro e w18 ⟨rfl, hb⟩; refine ⟨_, rfl, ?_⟩; have n0_ := Aside0.mk (Kd.R_below (by (with_reducible repeat (first | apply Kd.R_alloc | apply Kd.R_drewN | apply Kd.R_drew)); exact HO_4.out) hb); have n1_ := Aside0.mk (Kd.R_below (by (with_reducible repeat (first | apply Kd.R_alloc | apply Kd.R_drewN | apply Kd.R_drew)); exact HO_16.out) hb); have n2_ := Aside0.mk (below_step (bel_) hb); clear HO_4; clear HO_16; clear HB; have HO_4 := n0_; have HO_16 := n1_; have HB := n2_; clear n0_ n1_ n2_; (try clear hb); (try clear hb2); (try clear hk); (try clear hi)) | ((with_reducible refine gate_callee (f := 97) rfl ?_); refine goesL_ (some 35) rfl rfl Tryz.func97 (by kernel_rfl) rfl #[.string t293] rfl maps_ ?_; (with_reducible refine (impl_readAgg.calls k1 t293 t297 t298 t299 t300 t301 t302 true _ ?side1 A12.out).mono ?_); (case side1 => exact Gl.below HG.out (bel_)); rintro e w19 ⟨rfl, hb⟩; refine ⟨_, rfl, ?_⟩; have n0_ := Aside0.mk (Kd.R_below (by (with_reducible repeat (first | apply Kd.R_alloc | apply Kd.R_drewN | apply Kd.R_drew)); exact HO_4.out) hb); have n1_ := Aside0.mk (Kd.R_below (by (with_reducible repeat (first | apply Kd.R_alloc | apply Kd.R_drewN | apply Kd.R_drew)); exact HO_16.out) hb); have n2_ := Aside0.mk (below_step (bel_) hb); clear HO_4; clear HO_16; clear HB; have HO_4 := n0_; have HO_16 := n1_; have HB := n2_; clear n0_ n1_ n2_; (try clear hb); (try clear hb2); (try clear hk); (try clear hi)) | ((with_reducible refine gate_dst (N := 12) rfl ?_); refine box_event ?hg (N := 12) ?hd (cs := #[.int .i64 0, .int .i64 0, .int .i64 0, .int .i64 0, .int .i64 0, .int .i64 0]) (t := 30) ?hr ?_; (case hd => rfl); (case hg => rfl); (case hr => first | (go_simp; done) | (go_simp; rfl)); intro gb304 hg w20 hbox hb; have n0_ := Aside0.mk (Kd.R_below (by (with_reducible repeat (first | apply Kd.R_alloc | apply Kd.R_drewN | apply Kd.R_drew)); exact HO_4.out) hb); have n1_ := Aside0.mk (Kd.R_below (by (with_reducible repeat (first | apply Kd.R_alloc | apply Kd.R_drewN | apply Kd.R_drew)); exact HO_16.out) hb); have n2_ := Aside0.mk (below_step (bel_) hb); have n3_ := Aside0.mk (hbox); have n4_ := Aside0.mk ((by rw [hg]; exact (below_size (bel_)) : w.heap.size ≤ gb304)); have n5_ := Aside0.mk ((by rw [hg]; exact (below_size (bel_)) : w.heap.size ≤ gb304)); clear HO_4; clear HO_16; clear HB; have HO_4 := n0_; have HO_16 := n1_; have HB := n2_; have BK304 := n3_; have GW304 := n4_; have GE304 := n5_; clear n0_ n1_ n2_ n3_ n4_ n5_; clear hb hbox hg; have hcz21_0 : w20.cell? ⟨gb304, 0, none⟩ = some (.int .i64 0) := (blk_cell BK304.out 0).trans rfl; have hcz21_1 : w20.cell? ⟨gb304, 1, none⟩ = some (.int .i64 0) := (blk_cell BK304.out 1).trans rfl; have hcz21_2 : w20.cell? ⟨gb304, 2, none⟩ = some (.int .i64 0) := (blk_cell BK304.out 2).trans rfl; have hcz21_3 : w20.cell? ⟨gb304, 3, none⟩ = some (.int .i64 0) := (blk_cell BK304.out 3).trans rfl; have hcz21_4 : w20.cell? ⟨gb304, 4, none⟩ = some (.int .i64 0) := (blk_cell BK304.out 4).trans rfl; have hcz21_5 : w20.cell? ⟨gb304, 5, none⟩ = some (.int .i64 0) := (blk_cell BK304.out 5).trans rfl; have hfz21_0 := blk_frozen BK304.out 0; have hfz21_1 := blk_frozen BK304.out 1; have hfz21_2 := blk_frozen BK304.out 2; have hfz21_3 := blk_frozen BK304.out 3; have hfz21_4 := blk_frozen BK304.out 4; have hfz21_5 := blk_frozen BK304.out 5) | ((with_reducible refine gate_builtin (b := .append) (xs := #[.tmp 48, .tmp 52]) rfl ?_); at_builtin; refine Kd.R_append k82 (w0 := w) w.heap.size rfl (.tmp 48) (.tmp 52) 46 82 (.agg #[(.int .i64 0), (.int .i64 0), (.int .i64 0), (.int .i64 0), (.int .i64 0), (.int .i64 0), (.int .i64 0)]) 56 rfl Tryz.underlying46 info82 rfl (by decide) (by omega) u4 x4_1 (⟨t295, (⟨t297, t298, t299, t300, t301, t302⟩ : S30)⟩ : S82) [.int .i64 t295, .int .i64 t297, .int .i64 t298, .int .i64 t299, .int .i64 t300, .int .i64 t301, .int .i64 t302] (fun _ => True) (fun _ => False) rfl (by first | (go_simp; done) | (go_simp; rfl)) ?aP (fun _ hk => hk.elim) ?aF ?aO ?aB ?aS ?aL ?_; (case aP => exact k82_mkM _ _ _ (⟨t295, (⟨t297, t298, t299, t300, t301, t302⟩ : S30)⟩ : S82)); (case aB => exact (bel_)); (case aF => exact (fun _ _ => trivial)); (case aO => exact (by (with_reducible repeat (first | apply Kd.R_alloc | apply Kd.R_drewN | apply Kd.R_drew)); exact Kd.R_mono (Kd.R_far (p := ⟨gb304, 5, none⟩) (Kd.R_far (p := ⟨gb304, 4, none⟩) (Kd.R_far (p := ⟨gb304, 3, none⟩) (Kd.R_far (p := ⟨gb304, 2, none⟩) (Kd.R_far (p := ⟨gb304, 1, none⟩) (Kd.R_far (p := ⟨gb304, 0, none⟩) (Kd.R_types HO_4.out BK304.out (by decide)) (fun _ hk => hk.2) (.int .i64 t297)) (fun _ hk => hk.2) (.int .i64 t298)) (fun _ hk => hk.2) (.int .i64 t299)) (fun _ hk => hk.2) (.int .i64 t300)) (fun _ hk => hk.2) (.int .i64 t301)) (fun _ hk => hk.2) (.int .i64 t302)) (fun _ hk => trivial))); (case aS => exact (below_size (bel_))); (case aL => have := LMc16.out; omega); intro v306 w22 ho hb hg hat; rw [← Ny305.out] at ho; have n0_ := Aside0.mk (Kd.R_over' (by (with_reducible repeat (first | apply Kd.R_alloc | apply Kd.R_drewN | apply Kd.R_drew)); exact (Kd.R_mono (Kd.R_far (p := ⟨gb304, 5, none⟩) (Kd.R_far (p := ⟨gb304, 4, none⟩) (Kd.R_far (p := ⟨gb304, 3, none⟩) (Kd.R_far (p := ⟨gb304, 2, none⟩) (Kd.R_far (p := ⟨gb304, 1, none⟩) (Kd.R_far (p := ⟨gb304, 0, none⟩) (Kd.R_types HO_16.out BK304.out (by decide)) (fun _ hk => hk.2) (.int .i64 t297)) (fun _ hk => hk.2) (.int .i64 t298)) (fun _ hk => hk.2) (.int .i64 t299)) (fun _ hk => hk.2) (.int .i64 t300)) (fun _ hk => hk.2) (.int .i64 t301)) (fun _ hk => hk.2) (.int .i64 t302)) (fun _ h_ => h_.1))) (Kd.R_typed (by (with_reducible repeat (first | apply Kd.R_alloc | apply Kd.R_drewN | apply Kd.R_drew)); exact (Kd.R_mono (Kd.R_far (p := ⟨gb304, 5, none⟩) (Kd.R_far (p := ⟨gb304, 4, none⟩) (Kd.R_far (p := ⟨gb304, 3, none⟩) (Kd.R_far (p := ⟨gb304, 2, none⟩) (Kd.R_far (p := ⟨gb304, 1, none⟩) (Kd.R_far (p := ⟨gb304, 0, none⟩) (Kd.R_types HO_4.out BK304.out (by decide)) (fun _ hk => hk.2) (.int .i64 t297)) (fun _ hk => hk.2) (.int .i64 t298)) (fun _ hk => hk.2) (.int .i64 t299)) (fun _ hk => hk.2) (.int .i64 t300)) (fun _ hk => hk.2) (.int .i64 t301)) (fun _ hk => hk.2) (.int .i64 t302)) (fun _ h_ => h_.1)))) (by decide) hg); have n1_ := Aside0.mk (blk_grown (g := gb304) (o := .cells #[.int .i64 t297, .int .i64 t298, .int .i64 t299, .int .i64 t300, .int .i64 t301, .int .i64 t302] 30 (0, 0)) (by (with_reducible repeat (first | refine blk_drewN ?_ _ | refine blk_drew ?_ | refine blk_alloc ?_ _)); refine blk_put (cs := #[.int .i64 t297, .int .i64 t298, .int .i64 t299, .int .i64 t300, .int .i64 t301, .int .i64 0]) ?_ 5 _ rfl; (with_reducible repeat (first | refine blk_drewN ?_ _ | refine blk_drew ?_ | refine blk_alloc ?_ _)); refine blk_put (cs := #[.int .i64 t297, .int .i64 t298, .int .i64 t299, .int .i64 t300, .int .i64 0, .int .i64 0]) ?_ 4 _ rfl; (with_reducible repeat (first | refine blk_drewN ?_ _ | refine blk_drew ?_ | refine blk_alloc ?_ _)); refine blk_put (cs := #[.int .i64 t297, .int .i64 t298, .int .i64 t299, .int .i64 0, .int .i64 0, .int .i64 0]) ?_ 3 _ rfl; (with_reducible repeat (first | refine blk_drewN ?_ _ | refine blk_drew ?_ | refine blk_alloc ?_ _)); refine blk_put (cs := #[.int .i64 t297, .int .i64 t298, .int .i64 0, .int .i64 0, .int .i64 0, .int .i64 0]) ?_ 2 _ rfl; (with_reducible repeat (first | refine blk_drewN ?_ _ | refine blk_drew ?_ | refine blk_alloc ?_ _)); refine blk_put (cs := #[.int .i64 t297, .int .i64 0, .int .i64 0, .int .i64 0, .int .i64 0, .int .i64 0]) ?_ 1 _ rfl; (with_reducible repeat (first | refine blk_drewN ?_ _ | refine blk_drew ?_ | refine blk_alloc ?_ _)); refine blk_put (cs := #[.int .i64 0, .int .i64 0, .int .i64 0, .int .i64 0, .int .i64 0, .int .i64 0]) ?_ 0 _ rfl; (with_reducible repeat (first | refine blk_drewN ?_ _ | refine blk_drew ?_ | refine blk_alloc ?_ _)); exact BK304.out) hg (Kd.R_ne HO_4.out BK304.out (by decide))); have n2_ := Aside0.mk (hb); have n3_ := Aside0.mk (ho); clear HO_16; clear BK304; clear HB; clear HO_4; have HO_16 := n0_; have BK304 := n1_; have HB := n2_; have HO307 := n3_; clear n0_ n1_ n2_ n3_; clear ho hb hg hat))
          go_roundg k1
          case measure => have := HK1.out; omega
          case rel => exact ⟨(y305), (wrap64 (x18_1 + 1)), (by first | rfl | (simp; done) | (simp [*]; done)), H', ⟨by have := HK1.out; omega⟩, ⟨by (with_reducible repeat (first | apply Kd.R_alloc | apply Kd.R_drewN | apply Kd.R_drew)); exact HO307.out⟩, ⟨by (with_reducible repeat (first | apply Kd.R_alloc | apply Kd.R_drewN | apply Kd.R_drew)); exact HO_16.out⟩, ⟨bel_⟩⟩
         ·rw [if_neg c16] at H
          exact absurd H (by simp)
        ·replace c15 := Bool.eq_false_iff.mpr c15
         subst c15
         have H1 : (some (([] : List (S82)), false)) = some (r1, r2) := by rw [if_neg (show ¬ (false = true) by decide)] at H; exact H
         clear H
         have H := H1
         clear H1
         simp only [Option.some.injEq, Prod.mk.injEq] at H
         obtain ⟨rfl, rfl⟩ := H
         have p291 : 0 ≤ (x18_1 : Int) := of_decide_eq_true (by first | (with_reducible assumption) | assumption)
         have q291 : x18_1 < (t287.length : Int) := of_decide_eq_true (by first | (with_reducible assumption) | assumption)
         obtain ⟨ad291, e291, hx291_0⟩ := Kd.at_string (Kd.R_reads' HO_16.out).2.2 x18_1 p291 q291
         cases e291
         replace p291 := eq_true p291
         replace q291 := eq_true q291
         go_wp2_with (first | ((with_reducible refine gate_callee (f := 96) rfl ?_); refine goesL_ (some 24) rfl rfl Tryz.func96 (by kernel_rfl) rfl #[.string (rdOf ByteArray.empty t287 x18_1), .string (⟨#[58]⟩ : ByteArray)] rfl maps_ ?_; (with_reducible refine (strings_Cut.calls (rdOf ByteArray.empty t287 x18_1) (⟨#[58]⟩ : ByteArray) t292 t293 true _ ?side1 A10.out).mono ?_); (case side1 => exact Gl.below HG.out (bel_)); rintro e w23 ⟨rfl, hb⟩; refine ⟨_, rfl, ?_⟩; have n0_ := Aside0.mk (Kd.R_below (by (with_reducible repeat (first | apply Kd.R_alloc | apply Kd.R_drewN | apply Kd.R_drew)); exact HO_4.out) hb); have n1_ := Aside0.mk (Kd.R_below (by (with_reducible repeat (first | apply Kd.R_alloc | apply Kd.R_drewN | apply Kd.R_drew)); exact HO_16.out) hb); have n2_ := Aside0.mk (below_step (bel_) hb); clear HO_4; clear HO_16; clear HB; have HO_4 := n0_; have HO_16 := n1_; have HB := n2_; clear n0_ n1_ n2_; (try clear hb); (try clear hb2); (try clear hk); (try clear hi)) | ((with_reducible refine gate_callee (f := 81) rfl ?_); refine goesL_ (some 30) rfl rfl Tryz.func81 (by kernel_rfl) rfl #[.string t292] rfl maps_ ?_; (with_reducible refine (impl_number.calls t292 t295 true _ ?side1 A11.out).mono ?_); (case side1 => exact Gl.below HG.out (bel_)); rintro e w24 ⟨rfl, hb⟩; refine ⟨_, rfl, ?_⟩; have n0_ := Aside0.mk (Kd.R_below (by (with_reducible repeat (first | apply Kd.R_alloc | apply Kd.R_drewN | apply Kd.R_drew)); exact HO_4.out) hb); have n1_ := Aside0.mk (Kd.R_below (by (with_reducible repeat (first | apply Kd.R_alloc | apply Kd.R_drewN | apply Kd.R_drew)); exact HO_16.out) hb); have n2_ := Aside0.mk (below_step (bel_) hb); clear HO_4; clear HO_16; clear HB; have HO_4 := n0_; have HO_16 := n1_; have HB := n2_; clear n0_ n1_ n2_; (try clear hb); (try clear hb2); (try clear hk); (try clear hi)) | ((with_reducible refine gate_callee (f := 97) rfl ?_); refine goesL_ (some 35) rfl rfl Tryz.func97 (by kernel_rfl) rfl #[.string t293] rfl maps_ ?_; (with_reducible refine (impl_readAgg.calls k1 t293 t297 t298 t299 t300 t301 t302 false _ ?side1 A12.out).mono ?_); (case side1 => exact Gl.below HG.out (bel_)); rintro e w25 ⟨rfl, hb⟩; refine ⟨_, rfl, ?_⟩; have n0_ := Aside0.mk (Kd.R_below (by (with_reducible repeat (first | apply Kd.R_alloc | apply Kd.R_drewN | apply Kd.R_drew)); exact HO_4.out) hb); have n1_ := Aside0.mk (Kd.R_below (by (with_reducible repeat (first | apply Kd.R_alloc | apply Kd.R_drewN | apply Kd.R_drew)); exact HO_16.out) hb); have n2_ := Aside0.mk (below_step (bel_) hb); clear HO_4; clear HO_16; clear HB; have HO_4 := n0_; have HO_16 := n1_; have HB := n2_; clear n0_ n1_ n2_; (try clear hb); (try clear hb2); (try clear hk); (try clear hi)) | ((with_reducible refine gate_dst (N := 12) rfl ?_); refine box_event ?hg (N := 12) ?hd (cs := #[.int .i64 0, .int .i64 0, .int .i64 0, .int .i64 0, .int .i64 0, .int .i64 0]) (t := 30) ?hr ?_; (case hd => rfl); (case hg => rfl); (case hr => first | (go_simp; done) | (go_simp; rfl)); intro gb304 hg w26 hbox hb; have n0_ := Aside0.mk (Kd.R_below (by (with_reducible repeat (first | apply Kd.R_alloc | apply Kd.R_drewN | apply Kd.R_drew)); exact HO_4.out) hb); have n1_ := Aside0.mk (Kd.R_below (by (with_reducible repeat (first | apply Kd.R_alloc | apply Kd.R_drewN | apply Kd.R_drew)); exact HO_16.out) hb); have n2_ := Aside0.mk (below_step (bel_) hb); have n3_ := Aside0.mk (hbox); have n4_ := Aside0.mk ((by rw [hg]; exact (below_size (bel_)) : w.heap.size ≤ gb304)); have n5_ := Aside0.mk ((by rw [hg]; exact (below_size (bel_)) : w.heap.size ≤ gb304)); clear HO_4; clear HO_16; clear HB; have HO_4 := n0_; have HO_16 := n1_; have HB := n2_; have BK304 := n3_; have GW304 := n4_; have GE304 := n5_; clear n0_ n1_ n2_ n3_ n4_ n5_; clear hb hbox hg; have hcz27_0 : w26.cell? ⟨gb304, 0, none⟩ = some (.int .i64 0) := (blk_cell BK304.out 0).trans rfl; have hcz27_1 : w26.cell? ⟨gb304, 1, none⟩ = some (.int .i64 0) := (blk_cell BK304.out 1).trans rfl; have hcz27_2 : w26.cell? ⟨gb304, 2, none⟩ = some (.int .i64 0) := (blk_cell BK304.out 2).trans rfl; have hcz27_3 : w26.cell? ⟨gb304, 3, none⟩ = some (.int .i64 0) := (blk_cell BK304.out 3).trans rfl; have hcz27_4 : w26.cell? ⟨gb304, 4, none⟩ = some (.int .i64 0) := (blk_cell BK304.out 4).trans rfl; have hcz27_5 : w26.cell? ⟨gb304, 5, none⟩ = some (.int .i64 0) := (blk_cell BK304.out 5).trans rfl; have hfz27_0 := blk_frozen BK304.out 0; have hfz27_1 := blk_frozen BK304.out 1; have hfz27_2 := blk_frozen BK304.out 2; have hfz27_3 := blk_frozen BK304.out 3; have hfz27_4 := blk_frozen BK304.out 4; have hfz27_5 := blk_frozen BK304.out 5))
         go_ret2
         exact ⟨_, by first | rfl | (simp [errW_none, errW_some] <;> rfl) | (simp [*, errW_none, errW_some] <;> rfl), by first | exact Kd.R_nil _ _ _ _ _ | exact Kd.N_nil _ _ _ _ _ | exact Kd.V_nil _ _ _ _ _ | exact Kd.Q_nil _ _ _ _ _ | exact Kd.S_nil _ _ _ _ _, bel_⟩
       ·replace c14 := Bool.eq_false_iff.mpr c14
        subst c14
        have H1 : (some (([] : List (S82)), false)) = some (r1, r2) := by rw [if_neg (show ¬ (false = true) by decide)] at H; exact H
        clear H
        have H := H1
        clear H1
        simp only [Option.some.injEq, Prod.mk.injEq] at H
        obtain ⟨rfl, rfl⟩ := H
        have p291 : 0 ≤ (x18_1 : Int) := of_decide_eq_true (by first | (with_reducible assumption) | assumption)
        have q291 : x18_1 < (t287.length : Int) := of_decide_eq_true (by first | (with_reducible assumption) | assumption)
        obtain ⟨ad291, e291, hx291_0⟩ := Kd.at_string (Kd.R_reads' HO_16.out).2.2 x18_1 p291 q291
        cases e291
        replace p291 := eq_true p291
        replace q291 := eq_true q291
        go_wp2_with (first | ((with_reducible refine gate_callee (f := 96) rfl ?_); refine goesL_ (some 24) rfl rfl Tryz.func96 (by kernel_rfl) rfl #[.string (rdOf ByteArray.empty t287 x18_1), .string (⟨#[58]⟩ : ByteArray)] rfl maps_ ?_; (with_reducible refine (strings_Cut.calls (rdOf ByteArray.empty t287 x18_1) (⟨#[58]⟩ : ByteArray) t292 t293 true _ ?side1 A10.out).mono ?_); (case side1 => exact Gl.below HG.out (bel_)); rintro e w28 ⟨rfl, hb⟩; refine ⟨_, rfl, ?_⟩; have n0_ := Aside0.mk (Kd.R_below (by (with_reducible repeat (first | apply Kd.R_alloc | apply Kd.R_drewN | apply Kd.R_drew)); exact HO_4.out) hb); have n1_ := Aside0.mk (Kd.R_below (by (with_reducible repeat (first | apply Kd.R_alloc | apply Kd.R_drewN | apply Kd.R_drew)); exact HO_16.out) hb); have n2_ := Aside0.mk (below_step (bel_) hb); clear HO_4; clear HO_16; clear HB; have HO_4 := n0_; have HO_16 := n1_; have HB := n2_; clear n0_ n1_ n2_; (try clear hb); (try clear hb2); (try clear hk); (try clear hi)) | ((with_reducible refine gate_callee (f := 81) rfl ?_); refine goesL_ (some 30) rfl rfl Tryz.func81 (by kernel_rfl) rfl #[.string t292] rfl maps_ ?_; (with_reducible refine (impl_number.calls t292 t295 false _ ?side1 A11.out).mono ?_); (case side1 => exact Gl.below HG.out (bel_)); rintro e w29 ⟨rfl, hb⟩; refine ⟨_, rfl, ?_⟩; have n0_ := Aside0.mk (Kd.R_below (by (with_reducible repeat (first | apply Kd.R_alloc | apply Kd.R_drewN | apply Kd.R_drew)); exact HO_4.out) hb); have n1_ := Aside0.mk (Kd.R_below (by (with_reducible repeat (first | apply Kd.R_alloc | apply Kd.R_drewN | apply Kd.R_drew)); exact HO_16.out) hb); have n2_ := Aside0.mk (below_step (bel_) hb); clear HO_4; clear HO_16; clear HB; have HO_4 := n0_; have HO_16 := n1_; have HB := n2_; clear n0_ n1_ n2_; (try clear hb); (try clear hb2); (try clear hk); (try clear hi)) | ((with_reducible refine gate_callee (f := 97) rfl ?_); refine goesL_ (some 35) rfl rfl Tryz.func97 (by kernel_rfl) rfl #[.string t293] rfl maps_ ?_; (with_reducible refine (impl_readAgg.calls k1 t293 t297 t298 t299 t300 t301 t302 t303 _ ?side1 A12.out).mono ?_); (case side1 => exact Gl.below HG.out (bel_)); rintro e w30 ⟨rfl, hb⟩; refine ⟨_, rfl, ?_⟩; have n0_ := Aside0.mk (Kd.R_below (by (with_reducible repeat (first | apply Kd.R_alloc | apply Kd.R_drewN | apply Kd.R_drew)); exact HO_4.out) hb); have n1_ := Aside0.mk (Kd.R_below (by (with_reducible repeat (first | apply Kd.R_alloc | apply Kd.R_drewN | apply Kd.R_drew)); exact HO_16.out) hb); have n2_ := Aside0.mk (below_step (bel_) hb); clear HO_4; clear HO_16; clear HB; have HO_4 := n0_; have HO_16 := n1_; have HB := n2_; clear n0_ n1_ n2_; (try clear hb); (try clear hb2); (try clear hk); (try clear hi)) | ((with_reducible refine gate_dst (N := 12) rfl ?_); refine box_event ?hg (N := 12) ?hd (cs := #[.int .i64 0, .int .i64 0, .int .i64 0, .int .i64 0, .int .i64 0, .int .i64 0]) (t := 30) ?hr ?_; (case hd => rfl); (case hg => rfl); (case hr => first | (go_simp; done) | (go_simp; rfl)); intro gb304 hg w31 hbox hb; have n0_ := Aside0.mk (Kd.R_below (by (with_reducible repeat (first | apply Kd.R_alloc | apply Kd.R_drewN | apply Kd.R_drew)); exact HO_4.out) hb); have n1_ := Aside0.mk (Kd.R_below (by (with_reducible repeat (first | apply Kd.R_alloc | apply Kd.R_drewN | apply Kd.R_drew)); exact HO_16.out) hb); have n2_ := Aside0.mk (below_step (bel_) hb); have n3_ := Aside0.mk (hbox); have n4_ := Aside0.mk ((by rw [hg]; exact (below_size (bel_)) : w.heap.size ≤ gb304)); have n5_ := Aside0.mk ((by rw [hg]; exact (below_size (bel_)) : w.heap.size ≤ gb304)); clear HO_4; clear HO_16; clear HB; have HO_4 := n0_; have HO_16 := n1_; have HB := n2_; have BK304 := n3_; have GW304 := n4_; have GE304 := n5_; clear n0_ n1_ n2_ n3_ n4_ n5_; clear hb hbox hg; have hcz32_0 : w31.cell? ⟨gb304, 0, none⟩ = some (.int .i64 0) := (blk_cell BK304.out 0).trans rfl; have hcz32_1 : w31.cell? ⟨gb304, 1, none⟩ = some (.int .i64 0) := (blk_cell BK304.out 1).trans rfl; have hcz32_2 : w31.cell? ⟨gb304, 2, none⟩ = some (.int .i64 0) := (blk_cell BK304.out 2).trans rfl; have hcz32_3 : w31.cell? ⟨gb304, 3, none⟩ = some (.int .i64 0) := (blk_cell BK304.out 3).trans rfl; have hcz32_4 : w31.cell? ⟨gb304, 4, none⟩ = some (.int .i64 0) := (blk_cell BK304.out 4).trans rfl; have hcz32_5 : w31.cell? ⟨gb304, 5, none⟩ = some (.int .i64 0) := (blk_cell BK304.out 5).trans rfl; have hfz32_0 := blk_frozen BK304.out 0; have hfz32_1 := blk_frozen BK304.out 1; have hfz32_2 := blk_frozen BK304.out 2; have hfz32_3 := blk_frozen BK304.out 3; have hfz32_4 := blk_frozen BK304.out 4; have hfz32_5 := blk_frozen BK304.out 5))
        go_ret2
        exact ⟨_, by first | rfl | (simp [errW_none, errW_some] <;> rfl) | (simp [*, errW_none, errW_some] <;> rfl), by first | exact Kd.R_nil _ _ _ _ _ | exact Kd.N_nil _ _ _ _ _ | exact Kd.V_nil _ _ _ _ _ | exact Kd.Q_nil _ _ _ _ _ | exact Kd.S_nil _ _ _ _ _, bel_⟩
      ·replace c13 := Bool.eq_false_iff.mpr c13
       subst c13
       have H1 : (some (([] : List (S82)), false)) = some (r1, r2) := by rw [if_neg (show ¬ (false = true) by decide)] at H; exact H
       clear H
       have H := H1
       clear H1
       simp only [Option.some.injEq, Prod.mk.injEq] at H
       obtain ⟨rfl, rfl⟩ := H
       have p291 : 0 ≤ (x18_1 : Int) := of_decide_eq_true (by first | (with_reducible assumption) | assumption)
       have q291 : x18_1 < (t287.length : Int) := of_decide_eq_true (by first | (with_reducible assumption) | assumption)
       obtain ⟨ad291, e291, hx291_0⟩ := Kd.at_string (Kd.R_reads' HO_16.out).2.2 x18_1 p291 q291
       cases e291
       replace p291 := eq_true p291
       replace q291 := eq_true q291
       go_wp2_with (first | ((with_reducible refine gate_callee (f := 96) rfl ?_); refine goesL_ (some 24) rfl rfl Tryz.func96 (by kernel_rfl) rfl #[.string (rdOf ByteArray.empty t287 x18_1), .string (⟨#[58]⟩ : ByteArray)] rfl maps_ ?_; (with_reducible refine (strings_Cut.calls (rdOf ByteArray.empty t287 x18_1) (⟨#[58]⟩ : ByteArray) t292 t293 false _ ?side1 A10.out).mono ?_); (case side1 => exact Gl.below HG.out (bel_)); rintro e w33 ⟨rfl, hb⟩; refine ⟨_, rfl, ?_⟩; have n0_ := Aside0.mk (Kd.R_below (by (with_reducible repeat (first | apply Kd.R_alloc | apply Kd.R_drewN | apply Kd.R_drew)); exact HO_4.out) hb); have n1_ := Aside0.mk (Kd.R_below (by (with_reducible repeat (first | apply Kd.R_alloc | apply Kd.R_drewN | apply Kd.R_drew)); exact HO_16.out) hb); have n2_ := Aside0.mk (below_step (bel_) hb); clear HO_4; clear HO_16; clear HB; have HO_4 := n0_; have HO_16 := n1_; have HB := n2_; clear n0_ n1_ n2_; (try clear hb); (try clear hb2); (try clear hk); (try clear hi)) | ((with_reducible refine gate_callee (f := 81) rfl ?_); refine goesL_ (some 30) rfl rfl Tryz.func81 (by kernel_rfl) rfl #[.string t292] rfl maps_ ?_; (with_reducible refine (impl_number.calls t292 t295 t296 _ ?side1 A11.out).mono ?_); (case side1 => exact Gl.below HG.out (bel_)); rintro e w34 ⟨rfl, hb⟩; refine ⟨_, rfl, ?_⟩; have n0_ := Aside0.mk (Kd.R_below (by (with_reducible repeat (first | apply Kd.R_alloc | apply Kd.R_drewN | apply Kd.R_drew)); exact HO_4.out) hb); have n1_ := Aside0.mk (Kd.R_below (by (with_reducible repeat (first | apply Kd.R_alloc | apply Kd.R_drewN | apply Kd.R_drew)); exact HO_16.out) hb); have n2_ := Aside0.mk (below_step (bel_) hb); clear HO_4; clear HO_16; clear HB; have HO_4 := n0_; have HO_16 := n1_; have HB := n2_; clear n0_ n1_ n2_; (try clear hb); (try clear hb2); (try clear hk); (try clear hi)) | ((with_reducible refine gate_callee (f := 97) rfl ?_); refine goesL_ (some 35) rfl rfl Tryz.func97 (by kernel_rfl) rfl #[.string t293] rfl maps_ ?_; (with_reducible refine (impl_readAgg.calls k1 t293 t297 t298 t299 t300 t301 t302 t303 _ ?side1 A12.out).mono ?_); (case side1 => exact Gl.below HG.out (bel_)); rintro e w35 ⟨rfl, hb⟩; refine ⟨_, rfl, ?_⟩; have n0_ := Aside0.mk (Kd.R_below (by (with_reducible repeat (first | apply Kd.R_alloc | apply Kd.R_drewN | apply Kd.R_drew)); exact HO_4.out) hb); have n1_ := Aside0.mk (Kd.R_below (by (with_reducible repeat (first | apply Kd.R_alloc | apply Kd.R_drewN | apply Kd.R_drew)); exact HO_16.out) hb); have n2_ := Aside0.mk (below_step (bel_) hb); clear HO_4; clear HO_16; clear HB; have HO_4 := n0_; have HO_16 := n1_; have HB := n2_; clear n0_ n1_ n2_; (try clear hb); (try clear hb2); (try clear hk); (try clear hi)) | ((with_reducible refine gate_dst (N := 12) rfl ?_); refine box_event ?hg (N := 12) ?hd (cs := #[.int .i64 0, .int .i64 0, .int .i64 0, .int .i64 0, .int .i64 0, .int .i64 0]) (t := 30) ?hr ?_; (case hd => rfl); (case hg => rfl); (case hr => first | (go_simp; done) | (go_simp; rfl)); intro gb304 hg w36 hbox hb; have n0_ := Aside0.mk (Kd.R_below (by (with_reducible repeat (first | apply Kd.R_alloc | apply Kd.R_drewN | apply Kd.R_drew)); exact HO_4.out) hb); have n1_ := Aside0.mk (Kd.R_below (by (with_reducible repeat (first | apply Kd.R_alloc | apply Kd.R_drewN | apply Kd.R_drew)); exact HO_16.out) hb); have n2_ := Aside0.mk (below_step (bel_) hb); have n3_ := Aside0.mk (hbox); have n4_ := Aside0.mk ((by rw [hg]; exact (below_size (bel_)) : w.heap.size ≤ gb304)); have n5_ := Aside0.mk ((by rw [hg]; exact (below_size (bel_)) : w.heap.size ≤ gb304)); clear HO_4; clear HO_16; clear HB; have HO_4 := n0_; have HO_16 := n1_; have HB := n2_; have BK304 := n3_; have GW304 := n4_; have GE304 := n5_; clear n0_ n1_ n2_ n3_ n4_ n5_; clear hb hbox hg; have hcz37_0 : w36.cell? ⟨gb304, 0, none⟩ = some (.int .i64 0) := (blk_cell BK304.out 0).trans rfl; have hcz37_1 : w36.cell? ⟨gb304, 1, none⟩ = some (.int .i64 0) := (blk_cell BK304.out 1).trans rfl; have hcz37_2 : w36.cell? ⟨gb304, 2, none⟩ = some (.int .i64 0) := (blk_cell BK304.out 2).trans rfl; have hcz37_3 : w36.cell? ⟨gb304, 3, none⟩ = some (.int .i64 0) := (blk_cell BK304.out 3).trans rfl; have hcz37_4 : w36.cell? ⟨gb304, 4, none⟩ = some (.int .i64 0) := (blk_cell BK304.out 4).trans rfl; have hcz37_5 : w36.cell? ⟨gb304, 5, none⟩ = some (.int .i64 0) := (blk_cell BK304.out 5).trans rfl; have hfz37_0 := blk_frozen BK304.out 0; have hfz37_1 := blk_frozen BK304.out 1; have hfz37_2 := blk_frozen BK304.out 2; have hfz37_3 := blk_frozen BK304.out 3; have hfz37_4 := blk_frozen BK304.out 4; have hfz37_5 := blk_frozen BK304.out 5))
       go_ret2
       exact ⟨_, by first | rfl | (simp [errW_none, errW_some] <;> rfl) | (simp [*, errW_none, errW_some] <;> rfl), by first | exact Kd.R_nil _ _ _ _ _ | exact Kd.N_nil _ _ _ _ _ | exact Kd.V_nil _ _ _ _ _ | exact Kd.Q_nil _ _ _ _ _ | exact Kd.S_nil _ _ _ _ _, bel_⟩
     ·rw [if_neg c9] at H
      exact absurd H (by simp)
    ·rw [if_neg c8] at H
     exact absurd H (by simp)
   ·rw [if_neg c7] at H
    have c7b0 : decide (x18_1 < (t287.length : Int)) = false := decide_eq_false c7
    clear c7
    replace H := Option.bind_eq_some_iff.mp H
    obtain ⟨t290, A380, H⟩ := H
    replace H : (some (x4_1, t290)) = some (r1, r2) := H
    have A38 := Aside0.mk A380
    clear A380
    simp only [Option.some.injEq, Prod.mk.injEq] at H
    obtain ⟨rfl, rfl⟩ := H
    obtain ⟨Ao39, co39, eo39⟩ := Kd.R_slice HO_4.out
    subst eo39
    go_wp2_with (first | ((with_reducible refine gate_callee (f := 27) rfl ?_); refine goesL_ (some 57) rfl rfl Tryz.func27 (by kernel_rfl) rfl #[.slice Ao39 x4_1.length co39] rfl maps_ ?_; (with_reducible refine (impl_BucketsOK.calls k1 _ _ x4_1 t290 _ ?side1 ?side2 A38.out).mono ?_); (case side1 => repeat (first | exact (Kd.R_reads' HO_4.out).2.2 | (with_reducible refine Kd.C_alloc ?_ _) | (with_reducible refine Kd.C_drewN ?_ _) | (with_reducible refine Kd.C_drew ?_))); (case side2 => exact (Kd.R_reads' HO_4.out).2.1); rintro e w40 ⟨rfl, hb⟩; refine ⟨_, rfl, ?_⟩; have n0_ := Aside0.mk (Kd.R_below (by (with_reducible repeat (first | apply Kd.R_alloc | apply Kd.R_drewN | apply Kd.R_drew)); exact HO_4.out) hb); have n1_ := Aside0.mk (Kd.R_below (by (with_reducible repeat (first | apply Kd.R_alloc | apply Kd.R_drewN | apply Kd.R_drew)); exact HO_16.out) hb); have n2_ := Aside0.mk (below_step (bel_) hb); clear HO_4; clear HO_16; clear HB; have HO_4 := n0_; have HO_16 := n1_; have HB := n2_; clear n0_ n1_ n2_; (try clear hb); (try clear hb2); (try clear hk); (try clear hi)))
    go_ret2
    exact ⟨_, by first | rfl | (simp [errW_none, errW_some] <;> rfl) | (simp [*, errW_none, errW_some] <;> rfl), by (with_reducible repeat (first | apply Kd.R_alloc | apply Kd.R_drewN | apply Kd.R_drew)); exact HO_4.out, bel_⟩

end Go.Proofs.YtmhbkgbgajpahaaGreatDoor.PFnWindow
