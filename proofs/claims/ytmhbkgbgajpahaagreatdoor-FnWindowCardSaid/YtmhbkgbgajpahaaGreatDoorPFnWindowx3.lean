/- Written by this session's own printer: functions of the program as plain functions, and that each call comes to what its plain function says; no conditions but those in each statement. -/
import Derived.Test.YtmhbkgbgajpahaaGreatDoorPFnWindowx0
import Derived.Test.YtmhbkgbgajpahaaGreatDoorPFnWindowx2
namespace Go.Proofs.YtmhbkgbgajpahaaGreatDoor.PFnWindow
open Go.RowKit Go.Proofs.YtmhbkgbgajpahaaGreatDoorW.PrintWords Go.Proofs.YtmhbkgbgajpahaaGreatDoorW.PrintLast Go.Proofs.YtmhbkgbgajpahaaGreatDoorW.PrintMore
attribute [local go_sem] max2_int min2_int max_two min_two max_three min_three max_four min_four   -- for this text's walks alone
set_option linter.unusedVariables false
set_option linter.unusedSimpArgs false

/-! ### impl_joined: function 65 (by hand) -/
def strOf : AnyV → Option ByteArray
 | .inl _ => none
 | .inr (.inl n) => some ⟨(Lib.itoa n).toArray⟩
 | .inr (.inr s) => some s
def intOk : AnyV → Bool
 | .inr (.inl n) => decide (-9223372036854775808 ≤ n ∧ n ≤ 9223372036854775807)
 | _ => true
def strsOf (l : List AnyV) : List ByteArray := l.filterMap strOf
def impl_joined.f (a0 : ByteArray) (l1 : List AnyV) : Option ByteArray := if l1.length ≤ 100000000 ∧ l1.all intOk = true then strings_Join.f (strsOf l1) a0 else none
set_option maxHeartbeats 8000000 in
set_option maxRecDepth 100000 in
theorem impl_joined.calls (a0 : ByteArray) (A1 : Option Addr) (c1 : Nat) (l1 : List AnyV) (r : ByteArray) (w : World) (hG : Gl w) (hr1 : Kd.C kAny w A1 l1.length l1) (hc1 : l1.length ≤ c1) (h : impl_joined.f a0 l1 = some r) :
  Calls Tryz.prog 65 #[.string a0, .slice A1 l1.length c1] w fun e w' => e = .returned (.string r) ∧ Below w.heap.size w w' := by
 unfold impl_joined.f at h
 split at h
 case isFalse => cases h
 rename_i hc
 obtain ⟨hm, hall⟩ := hc
 have HG := Aside0.mk hG
 have HR := Aside0.mk hr1
 have HJ := Aside0.mk h
 have HA := Aside0.mk hall
 have HB := Aside0.mk (Below.refl w.heap.size w)
 clear hr1 hc1 h hG hall
 have ta1 : ∀ (b : Bool) (w : World), (Instr.typeAssert (.iface 4 (.bool b)) 20 3 true).run Tryz.prog w = .ok (.tuple #[.int .i64 0, .bool false]) w := fun _ _ => by kernel_rfl
 have ta2 : ∀ (n : Int) (w : World), (Instr.typeAssert (.iface 3 (.int .i64 n)) 20 3 true).run Tryz.prog w = .ok (.tuple #[.int .i64 n, .bool true]) w := fun _ _ => by kernel_rfl
 have ta3 : ∀ (n : ByteArray) (w : World), (Instr.typeAssert (.iface 9 (.string n)) 20 3 true).run Tryz.prog w = .ok (.tuple #[.int .i64 0, .bool false]) w := fun _ _ => by kernel_rfl
 have tb1 : ∀ (b : Bool) (w : World), (Instr.typeAssert (.iface 4 (.bool b)) 20 9 true).run Tryz.prog w = .ok (.tuple #[.string ⟨#[]⟩, .bool false]) w := fun _ _ => by kernel_rfl
 have tb3 : ∀ (n : ByteArray) (w : World), (Instr.typeAssert (.iface 9 (.string n)) 20 9 true).run Tryz.prog w = .ok (.tuple #[.string n, .bool true]) w := fun _ _ => by kernel_rfl
 go_enter Tryz.func65, Tryz.ntmps65
 go_wp2_with ((with_reducible refine gate_dst (N := 10) rfl ?_); refine Kd.R_lit Kd.string _ 9 ?hg (N := 10) ?hd (xs := ([] : List ByteArray)) (inner := []) (ok := fun _ => True) (okp := fun _ => True) ?hr ?hp (fun _ hk => hk) trivial (Below.refl _ _) (Nat.le_refl _) (by simp) ?_; (case hd => rfl); (case hg => rfl); (case hr => first | (go_simp; done) | (go_simp; rfl)); (case hp => exact (Reps.none _ _)); intro v5_ w2_ ho5 hb hg_ hnew_; clear hg_ hnew_; have HO := Aside0.mk ho5; have HB2 := Aside0.mk (below_step HB.out hb); clear HB ho5 hb)
 go_loopw [5, 13] (fun v5 v13 w' => ∃ k : Nat, v13 = .int .i64 (k : Int) ∧ k ≤ l1.length ∧ Aside0 (Kd.R Kd.string 9 w' w.heap.size (fun _ => True) v5 (strsOf (l1.take k))) ∧ Aside0 (Below w.heap.size w w')) (fun _ v13 _ => l1.length - (intOf v13).toNat)
 case atStart => exact ⟨0, rfl, by omega, ⟨HO.out⟩, HB2⟩
 case round =>
  clear HO HB2
  obtain ⟨k, rfl, hk, HO, HB⟩ := hrel
  by_cases hlt : k < l1.length
  ·have hb1 : decide ((k : Int) < (l1.length : Int)) = true := decide_eq_true (by omega)
   obtain ⟨ad, e1, hx1⟩ := at_any HR.out k hlt
   cases e1
   replace hx1 := pw_cell_below HB.out hx1
   have HE := Aside0.mk (show strsOf (l1.take (k + 1)) = strsOf (l1.take k) ++ (strOf (l1.getD k (.inl false))).toList by
    rw [List.take_succ_eq_append_getElem hlt]; unfold strsOf; rw [List.filterMap_append]; congr 1
    rw [List.getD_eq_getElem?_getD, List.getElem?_eq_getElem hlt]
    show List.filterMap strOf [l1[k]] = (strOf l1[k]).toList
    cases hs : strOf l1[k] <;> simp [List.filterMap_cons, hs])
   have hok : intOk (l1.getD k (.inl false)) = true := by
    rw [List.getD_eq_getElem?_getD, List.getElem?_eq_getElem hlt]
    exact List.all_eq_true.1 HA.out _ (List.getElem_mem hlt)
   have hsl : (strsOf (l1.take k)).length ≤ 100000000 := Nat.le_trans (List.length_filterMap_le _ _) (by rw [List.length_take]; omega)
   have HL := Aside0.mk hsl
   clear hsl
   generalize l1.getD k (.inl false) = x at hx1 HE hok
   rcases x with b | n | s
   ·simp only [anyW] at hx1
    clear hok
    go_wp2
    exact ⟨⟨k + 1, by go_num, by omega, ⟨by rw [HE.out]; simpa [strOf] using HO.out⟩, HB⟩, by simp [intOf]; omega⟩
   ·simp only [anyW] at hx1
    have hok' : -9223372036854775808 ≤ n ∧ n ≤ 9223372036854775807 := by simpa [intOk] using hok
    have HI : Aside0 (strconv_Itoa.f n = some ⟨(Lib.itoa n).toArray⟩) := ⟨by unfold strconv_Itoa.f; rw [if_pos hok']⟩
    clear hok hok'
    go_wp2_with (first
     | (go_at_call 101; refine (strconv_Itoa.calls n ⟨(Lib.itoa n).toArray⟩ _ (Gl.below HG.out HB.out) HI.out).mono ?_; rintro e w3 ⟨rfl, hb⟩; have n0_ := Aside0.mk (Kd.R_below HO.out hb); have n1_ := Aside0.mk (below_step HB.out hb); clear HO HB hb; have HO := n0_; have HB := n1_; clear n0_ n1_)
     | (at_builtin; refine Kd.R_append Kd.string (w0 := w) w.heap.size rfl (.tmp 21) (.tmp 24) 75 9 (.string ⟨#[]⟩) 16 rfl Tryz.underlying75 info9 rfl (by decide) (by omega) u5 (strsOf (l1.take k)) ⟨(Lib.itoa n).toArray⟩ [.string ⟨(Lib.itoa n).toArray⟩] (fun _ => True) (fun _ => False) rfl (by first | (go_simp; done) | (go_simp; rfl)) ?aP (fun _ hk => hk.elim) ?aF ?aO ?aB ?aS ?aL ?_; (case aP => exact rfl); (case aF => exact fun _ _ => trivial); (case aO => exact HO.out); (case aB => exact HB.out); (case aS => exact below_size HB.out); (case aL => have := HL.out; omega); intro v1 w1 ho1 hb1_ hg1 hat1; clear hg1 hat1; have n0_ := Aside0.mk ho1; have n1_ := Aside0.mk hb1_; clear HO HB ho1 hb1_; have HO := n0_; have HB := n1_; clear n0_ n1_))
    exact ⟨⟨k + 1, by go_num, by omega, ⟨by rw [HE.out]; exact HO.out⟩, HB⟩, by simp [intOf]; omega⟩
   ·simp only [anyW] at hx1
    clear hok
    go_wp2_with (at_builtin; refine Kd.R_append Kd.string (w0 := w) w.heap.size rfl (.tmp 29) (.tmp 31) 75 9 (.string ⟨#[]⟩) 16 rfl Tryz.underlying75 info9 rfl (by decide) (by omega) u5 (strsOf (l1.take k)) s [.string s] (fun _ => True) (fun _ => False) rfl (by first | (go_simp; done) | (go_simp; rfl)) ?aP (fun _ hk => hk.elim) ?aF ?aO ?aB ?aS ?aL ?_; (case aP => exact rfl); (case aF => exact fun _ _ => trivial); (case aO => exact HO.out); (case aB => exact HB.out); (case aS => exact below_size HB.out); (case aL => have := HL.out; omega); intro v1 w1 ho1 hb1_ hg1 hat1; clear hg1 hat1; have n0_ := Aside0.mk ho1; have n1_ := Aside0.mk hb1_; clear HO HB ho1 hb1_; have HO := n0_; have HB := n1_; clear n0_ n1_)
    exact ⟨⟨k + 1, by go_num, by omega, ⟨by rw [HE.out]; exact HO.out⟩, HB⟩, by simp [intOf]; omega⟩
  ·have hb1 : decide ((k : Int) < (l1.length : Int)) = false := decide_eq_false (by omega)
   obtain ⟨A, c, he, hl, hr⟩ := Kd.R_reads HO.out
   subst he
   rw [List.take_of_length_le (by omega)] at hr hl
   rw [List.take_of_length_le (by omega)]
   have HL := Aside0.mk hl
   have HR2 := Aside0.mk hr
   clear hl hr
   go_wp2_with (go_at_call 80; refine (strings_Join.calls A c (strsOf l1) a0 r _ HR2.out HL.out HJ.out).mono ?_; rintro e w3 ⟨rfl, hb⟩; have HB3 := Aside0.mk (below_step HB.out hb); clear hb)
   go_ret
   exact ⟨rfl, HB3.out⟩

/-! ### impl_said: function 66 -/
def impl_said.f (l0 : List AnyV) : Option (ByteArray) := (impl_joined.f (⟨#[32]⟩ : ByteArray) l0).bind fun t156 => (some t156)
set_option maxHeartbeats 8000000 in
set_option maxRecDepth 100000 in
theorem impl_said.calls (A0 : Option Addr) (c0 : Nat) (l0 : List AnyV) (r : ByteArray) (w : World) (hG : Gl w) (hr0 : Kd.C kAny w A0 l0.length l0) (hc0 : l0.length ≤ c0) (h : impl_said.f l0 = some r) :
  Calls Tryz.prog 66 #[.slice A0 l0.length c0] w fun e w' => e = .returned (.string r) ∧ Below w.heap.size w w' := by
 have HR0 := Aside0.mk hr0
 have HC0 := Aside0.mk hc0
 clear hr0 hc0
 have HB := Aside0.mk (Below.refl w.heap.size w)
 have HG := Aside0.mk hG
 clear hG
 have H : ((impl_joined.f (⟨#[32]⟩ : ByteArray) l0).bind fun t156 => (some t156)) = some r := h
 clear h
 replace H := Option.bind_eq_some_iff.mp H
 obtain ⟨t156, A20, H⟩ := H
 replace H : (some t156) = some r := H
 have A2 := Aside0.mk A20
 clear A20
 obtain rfl := Option.some.inj H
 go_enter Tryz.func66, Tryz.ntmps66
 go_wp2_with (first | ((with_reducible refine gate_callee (f := 65) rfl ?_); refine goesL_ (some 4) rfl rfl Tryz.func65 (by kernel_rfl) rfl #[.string (⟨#[32]⟩ : ByteArray), .slice A0 l0.length c0] rfl maps_ ?_; (with_reducible refine (impl_joined.calls (⟨#[32]⟩ : ByteArray) _ _ l0 t156 _ ?side1 ?side2 ?side3 A2.out).mono ?_); (case side1 => exact Gl.below HG.out (bel_)); (case side2 => repeat (first | exact HR0.out | (with_reducible refine Kd.C_alloc ?_ _) | (with_reducible refine Kd.C_drewN ?_ _) | (with_reducible refine Kd.C_drew ?_))); (case side3 => exact HC0.out); rintro e w3 ⟨rfl, hb⟩; refine ⟨_, rfl, ?_⟩; have n0_ := Aside0.mk (below_step (bel_) hb); clear HB; have HB := n0_; clear n0_; (try clear hb); (try clear hb2); (try clear hk); (try clear hi)))
 go_ret
 exact ⟨by first | rfl | (simp [errW_none, errW_some] <;> rfl) | (simp [*, errW_none, errW_some] <;> rfl), bel_⟩

/-! ### impl_samplesText: function 33 -/
def impl_samplesText.l0 : Nat → List AnyV → List (S62) → Int → Int → Option (ByteArray)
 | 0, _, _, _, _ => none
 | k + 1, x3, x7, x8, x9 => if x9 < x8 then (if 0 ≤ x9 then (if x9 < (x7.length : Int) then ((impl_joined.f (⟨#[61]⟩ : ByteArray) (([(Sum.inr (Sum.inl ((rd_T62 x7 x9).f0)) : AnyV), (Sum.inr (Sum.inl ((rd_T62 x7 x9).f1)) : AnyV)] : List AnyV))).bind fun t165 => (if x3.length < 8796093022208 then (impl_samplesText.l0 k (x3 ++ [(Sum.inr (Sum.inr (t165)) : AnyV)]) x7 x8 (wrap64 (x9 + 1))) else (none))) else (none)) else (none)) else ((impl_said.f x3).bind fun t169 => (some t169))
def impl_samplesText.f (k : Nat) (l0 : List (S62)) : Option (ByteArray) := impl_samplesText.l0 k (([] : List AnyV)) l0 (l0.length : Int) 0
theorem impl_samplesText.mono_l : ∀ k, (∀ y0 y1 y2 y3, LeO (impl_samplesText.l0 k y0 y1 y2 y3) (impl_samplesText.l0 (k + 1) y0 y1 y2 y3))
 | 0 => fun _ _ _ _ r h => by simp [impl_samplesText.l0] at h
 | k + 1 => by
  have ih0 := impl_samplesText.mono_l k
  ·intro y0 y1 y2 y3
   unfold impl_samplesText.l0
   repeat' first
   | (with_reducible exact ih0 _ _ _ _)
   | (with_reducible exact LeO.refl _)
   | (with_reducible exact LeO.none _)
   | (with_reducible refine LeO.ite ?_ ?_)
   | (with_reducible refine LeO.bind ?_ (fun _ => ?_))
   | exact ih0 _ _ _ _
   | exact LeO.none _
   | refine LeO.ite ?_ ?_
   | refine LeO.bind ?_ (fun _ => ?_)
theorem impl_samplesText.mono : ∀ a0 k, LeO (impl_samplesText.f k a0) (impl_samplesText.f (k + 1) a0) := by
 intro a0 k
 have ih0 := impl_samplesText.mono_l k
 unfold impl_samplesText.f
 repeat' first
   | (with_reducible exact ih0 _ _ _ _)
   | (with_reducible exact LeO.refl _)
   | (with_reducible exact LeO.none _)
   | (with_reducible refine LeO.ite ?_ ?_)
   | (with_reducible refine LeO.bind ?_ (fun _ => ?_))
   | exact ih0 _ _ _ _
   | exact LeO.none _
   | refine LeO.ite ?_ ?_
   | refine LeO.bind ?_ (fun _ => ?_)
set_option maxHeartbeats 8000000 in
set_option maxRecDepth 100000 in
theorem impl_samplesText.calls (k : Nat) (A0 : Option Addr) (c0 : Nat) (l0 : List (S62)) (r : ByteArray) (w : World) (hG : Gl w) (hr0 : Kd.C k62 w A0 l0.length l0) (hc0 : l0.length ≤ c0) (h : impl_samplesText.f k l0 = some r) :
  Calls Tryz.prog 33 #[.slice A0 l0.length c0] w fun e w' => e = .returned (.string r) ∧ Below w.heap.size w w' := by
 have hu62 := Tryz.underlying62
 have HR0 := Aside0.mk hr0
 have HC0 := Aside0.mk hc0
 clear hr0 hc0
 have HB := Aside0.mk (Below.refl w.heap.size w)
 have HG := Aside0.mk hG
 clear hG
 have H : (impl_samplesText.l0 k (([] : List AnyV)) l0 (l0.length : Int) 0) = some r := h
 clear h
 obtain ⟨y157, hy157⟩ : ∃ y_ : List AnyV, y_ = (([] : List AnyV)) := ⟨_, rfl⟩
 replace H : (impl_samplesText.l0 k y157 l0 (l0.length : Int) 0) = some r := by first | (rw [hy157]; with_reducible exact H) | (have H2_ := (Option.bind_some _ _).symm.trans H; rw [hy157]; with_reducible exact H2_) | (have H2_ := (Option.bind_some _ _).symm.trans H; with_reducible exact H2_) | with_reducible exact H | (rw [hy157]; exact H) | exact H
 have Ny157 := Aside0.mk hy157
 clear hy157
 have H' := Aside0.mk H
 clear H
 go_enter Tryz.func33, Tryz.ntmps33
 go_wp2_with (first | ((with_reducible refine gate_dst (N := 6) rfl ?_); refine Kd.R_lit kAny _ 20 ?hg (N := 6) ?hd (xs := ([] : List AnyV)) (inner := []) (ok := fun _ => True) (okp := fun _ => True) ?hr ?hp (fun _ hk => hk) trivial (Below.refl _ _) (Nat.le_refl _) (by simp) ?_; (case hd => rfl); (case hg => rfl); (case hr => first | (go_simp; done) | (go_simp; rfl)); (case hp => exact (Reps.none _ _)); intro v158 w2 ho3 hb hg_ hnew_; clear hg_ hnew_; (first | rw [← Ny157.out] at ho3 | (simp only [Int.reduceToNat] at ho3; rw [← Ny157.out] at ho3)); have n0_ := Aside0.mk (Kd.R_lower ho3 (below_size (bel_))); have n1_ := Aside0.mk (below_step (bel_) hb); clear HB; have HO159 := n0_; have HB := n1_; clear n0_ n1_; clear hb ho3))
 go_loopg [3, 9] k (fun kq v3 v9 w' => ∃ (x3_1 : List AnyV) (x9_1 : Int), v9 = .int .i64 x9_1 ∧ Aside0 (impl_samplesText.l0 kq x3_1 l0 (l0.length : Int) x9_1 = some r) ∧ Aside0 (kq ≤ k) ∧ Aside0 (Kd.R kAny 20 w' w.heap.size (fun _ => True) v3 x3_1) ∧ Aside0 (Below w.heap.size w w'))
 case atStart => exact ⟨(y157), (0), (by first | rfl | (simp; done) | (simp [*]; done)), H', ⟨Nat.le_refl _⟩, ⟨by (with_reducible repeat (first | apply Kd.R_alloc | apply Kd.R_drewN | apply Kd.R_drew)); exact HO159.out⟩, ⟨bel_⟩⟩
 case round =>
  clear H'
  try clear p2
  try clear c3
  obtain ⟨x3_1, x9_1, rfl, HA, HK1, HO_3, HB⟩ := hrel
  cases gk with
  | zero => exact absurd HA.out (by simp [impl_samplesText.l0])
  | succ k1 =>
   have H := HA.out
   clear HA
   simp only [impl_samplesText.l0] at H
   by_cases c4 : x9_1 < (l0.length : Int)
   ·rw [if_pos c4] at H
    have c4b0 : decide (x9_1 < (l0.length : Int)) = true := decide_eq_true c4
    clear c4
    by_cases c5 : 0 ≤ x9_1
    ·rw [if_pos c5] at H
     have c5b0 : decide (0 ≤ x9_1) = true := decide_eq_true c5
     clear c5
     by_cases c6 : x9_1 < (l0.length : Int)
     ·rw [if_pos c6] at H
      have c6b0 : decide (x9_1 < (l0.length : Int)) = true := decide_eq_true c6
      clear c6
      obtain ⟨y162, hy162⟩ : ∃ y_ : List AnyV, y_ = (([(Sum.inr (Sum.inl ((rd_T62 l0 x9_1).f0)) : AnyV), (Sum.inr (Sum.inl ((rd_T62 l0 x9_1).f1)) : AnyV)] : List AnyV)) := ⟨_, rfl⟩
      replace H : ((impl_joined.f (⟨#[61]⟩ : ByteArray) y162).bind fun t165 => (if x3_1.length < 8796093022208 then (impl_samplesText.l0 k1 (x3_1 ++ [(Sum.inr (Sum.inr (t165)) : AnyV)]) l0 (l0.length : Int) (wrap64 (x9_1 + 1))) else (none))) = some r := by first | (rw [hy162]; with_reducible exact H) | (have H2_ := (Option.bind_some _ _).symm.trans H; rw [hy162]; with_reducible exact H2_) | (have H2_ := (Option.bind_some _ _).symm.trans H; with_reducible exact H2_) | with_reducible exact H | (rw [hy162]; exact H) | exact H
      have Ny162 := Aside0.mk hy162
      clear hy162
      replace H := Option.bind_eq_some_iff.mp H
      obtain ⟨t165, A70, H⟩ := H
      replace H : (if x3_1.length < 8796093022208 then (impl_samplesText.l0 k1 (x3_1 ++ [(Sum.inr (Sum.inr (t165)) : AnyV)]) l0 (l0.length : Int) (wrap64 (x9_1 + 1))) else (none)) = some r := H
      have A7 := Aside0.mk A70
      clear A70
      by_cases c8 : x3_1.length < 8796093022208
      ·rw [if_pos c8] at H
       have LMc8 := Aside0.mk c8
       clear c8
       obtain ⟨y166, hy166⟩ : ∃ y_ : List AnyV, y_ = (x3_1 ++ [(Sum.inr (Sum.inr (t165)) : AnyV)]) := ⟨_, rfl⟩
       replace H : (impl_samplesText.l0 k1 y166 l0 (l0.length : Int) (wrap64 (x9_1 + 1))) = some r := by first | (rw [hy166]; with_reducible exact H) | (have H2_ := (Option.bind_some _ _).symm.trans H; rw [hy166]; with_reducible exact H2_) | (have H2_ := (Option.bind_some _ _).symm.trans H; with_reducible exact H2_) | with_reducible exact H | (rw [hy166]; exact H) | exact H
       have Ny166 := Aside0.mk hy166
       clear hy166
       have H' := Aside0.mk H
       clear H
       have p160 : 0 ≤ (x9_1 : Int) := of_decide_eq_true (by first | (with_reducible assumption) | assumption)
       have q160 : x9_1 < (l0.length : Int) := of_decide_eq_true (by first | (with_reducible assumption) | assumption)
       obtain ⟨ad160, e160, hx160_0, hx160_1⟩ := at_T62 HR0.out x9_1 p160 q160
       cases e160
       replace hx160_0 := (HB.out.cell (World.block_lt_of_cell? w _ hx160_0)).trans hx160_0
       replace hx160_1 := (HB.out.cell (World.block_lt_of_cell? w _ hx160_1)).trans hx160_1
       replace p160 := eq_true p160
       replace q160 := eq_true q160
       go_wp2_with (first | ((with_reducible refine gate_dst (N := 5) rfl ?_); refine box_event ?hg (N := 5) ?hd (cs := #[.int .i64 0, .int .i64 0]) (t := 62) ?hr ?_; (case hd => rfl); (case hg => rfl); (case hr => first | (go_simp; done) | (go_simp; rfl)); intro gb161 hg w9 hbox hb; have n0_ := Aside0.mk (Kd.R_below (by (with_reducible repeat (first | apply Kd.R_alloc | apply Kd.R_drewN | apply Kd.R_drew)); exact HO_3.out) hb); have n1_ := Aside0.mk (below_step (bel_) hb); have n2_ := Aside0.mk (hbox); have n3_ := Aside0.mk ((by rw [hg]; exact (below_size (bel_)) : w.heap.size ≤ gb161)); have n4_ := Aside0.mk ((by rw [hg]; exact (below_size (bel_)) : w.heap.size ≤ gb161)); clear HO_3; clear HB; have HO_3 := n0_; have HB := n1_; have BK161 := n2_; have GW161 := n3_; have GE161 := n4_; clear n0_ n1_ n2_ n3_ n4_; clear hb hbox hg; have hcz10_0 : w9.cell? ⟨gb161, 0, none⟩ = some (.int .i64 0) := (blk_cell BK161.out 0).trans rfl; have hcz10_1 : w9.cell? ⟨gb161, 1, none⟩ = some (.int .i64 0) := (blk_cell BK161.out 1).trans rfl; have hfz10_0 := blk_frozen BK161.out 0; have hfz10_1 := blk_frozen BK161.out 1) | ((with_reducible refine gate_dst (N := 20) rfl ?_); refine Kd.R_lit kAny _ 20 ?hg (N := 20) ?hd (xs := ([(Sum.inr (Sum.inl ((rd_T62 l0 x9_1).f0)) : AnyV), (Sum.inr (Sum.inl ((rd_T62 l0 x9_1).f1)) : AnyV)] : List AnyV)) (inner := [.iface 3 (.int .i64 ((rd_T62 l0 x9_1).f0)), .iface 3 (.int .i64 ((rd_T62 l0 x9_1).f1))]) (ok := fun _ => True) (okp := fun _ => True) ?hr ?hp (fun _ hk => hk) trivial (Below.refl _ _) (Nat.le_refl _) (by simp) ?_; (case hd => rfl); (case hg => rfl); (case hr => first | (go_simp; done) | (go_simp; rfl)); (case hp => exact (Reps.one (show Kd.M kAny _ _ _ (Sum.inr (Sum.inl ((rd_T62 l0 x9_1).f0)) : AnyV) [.iface 3 (.int .i64 ((rd_T62 l0 x9_1).f0))] from rfl) (Reps.one (show Kd.M kAny _ _ _ (Sum.inr (Sum.inl ((rd_T62 l0 x9_1).f1)) : AnyV) [.iface 3 (.int .i64 ((rd_T62 l0 x9_1).f1))] from rfl) (Reps.none _ _)))); intro v163 w11 ho12 hb hg_ hnew_; clear hg_ hnew_; (first | rw [← Ny162.out] at ho12 | (simp only [Int.reduceToNat] at ho12; rw [← Ny162.out] at ho12)); have n0_ := Aside0.mk (Kd.R_elder' (by (with_reducible repeat (first | apply Kd.R_alloc | apply Kd.R_drewN | apply Kd.R_drew)); exact (Kd.R_mono (Kd.R_far (p := ⟨gb161, 1, none⟩) (Kd.R_far (p := ⟨gb161, 0, none⟩) (Kd.R_types HO_3.out BK161.out (by decide)) (fun _ hk => hk.2) (.int .i64 ((rd_T62 l0 x9_1).f0))) (fun _ hk => hk.2) (.int .i64 ((rd_T62 l0 x9_1).f1))) (fun _ h_ => h_.1))) (Kd.R_base ho12) hb); have n1_ := Aside0.mk (Kd.R_lower (Kd.R_new' ho12 (Kd.R_lt (by (with_reducible repeat (first | apply Kd.R_alloc | apply Kd.R_drewN | apply Kd.R_drew)); exact (Kd.R_mono (Kd.R_far (p := ⟨gb161, 1, none⟩) (Kd.R_far (p := ⟨gb161, 0, none⟩) (Kd.R_types HO_3.out BK161.out (by decide)) (fun _ hk => hk.2) (.int .i64 ((rd_T62 l0 x9_1).f0))) (fun _ hk => hk.2) (.int .i64 ((rd_T62 l0 x9_1).f1))) (fun _ h_ => h_.1))))) (below_size (bel_))); have n2_ := Aside0.mk (blk_below (g := gb161) (o := .cells #[.int .i64 ((rd_T62 l0 x9_1).f0), .int .i64 ((rd_T62 l0 x9_1).f1)] 62 (0, 0)) (by (with_reducible repeat (first | refine blk_drewN ?_ _ | refine blk_drew ?_ | refine blk_alloc ?_ _)); refine blk_put (cs := #[.int .i64 ((rd_T62 l0 x9_1).f0), .int .i64 0]) ?_ 1 _ rfl; (with_reducible repeat (first | refine blk_drewN ?_ _ | refine blk_drew ?_ | refine blk_alloc ?_ _)); refine blk_put (cs := #[.int .i64 0, .int .i64 0]) ?_ 0 _ rfl; (with_reducible repeat (first | refine blk_drewN ?_ _ | refine blk_drew ?_ | refine blk_alloc ?_ _)); exact BK161.out) hb); have n3_ := Aside0.mk (below_step (bel_) hb); clear HO_3; clear BK161; clear HB; have HO_3 := n0_; have HO164 := n1_; have BK161 := n2_; have HB := n3_; clear n0_ n1_ n2_ n3_; clear hb ho12; obtain ⟨Ao13, co13, eo13⟩ := Kd.R_slice HO164.out; subst eo13) | ((with_reducible refine gate_callee (f := 65) rfl ?_); refine goesL_ (some 21) rfl rfl Tryz.func65 (by kernel_rfl) rfl #[.string (⟨#[61]⟩ : ByteArray), .slice Ao13 y162.length co13] rfl maps_ ?_; (with_reducible refine (impl_joined.calls (⟨#[61]⟩ : ByteArray) _ _ y162 t165 _ ?side1 ?side2 ?side3 A7.out).mono ?_); (case side1 => exact Gl.below HG.out (bel_)); (case side2 => repeat (first | exact (Kd.R_reads' HO164.out).2.2 | (with_reducible refine Kd.C_alloc ?_ _) | (with_reducible refine Kd.C_drewN ?_ _) | (with_reducible refine Kd.C_drew ?_))); (case side3 => exact (Kd.R_reads' HO164.out).2.1); rintro e w14 ⟨rfl, hb⟩; refine ⟨_, rfl, ?_⟩; have n0_ := Aside0.mk (Kd.R_below (by (with_reducible repeat (first | apply Kd.R_alloc | apply Kd.R_drewN | apply Kd.R_drew)); exact HO_3.out) hb); have n1_ := Aside0.mk (Kd.R_below (by (with_reducible repeat (first | apply Kd.R_alloc | apply Kd.R_drewN | apply Kd.R_drew)); exact HO164.out) hb); have n2_ := Aside0.mk (blk_below (g := gb161) (o := .cells #[.int .i64 ((rd_T62 l0 x9_1).f0), .int .i64 ((rd_T62 l0 x9_1).f1)] 62 (0, 0)) (by (with_reducible repeat (first | refine blk_drewN ?_ _ | refine blk_drew ?_ | refine blk_alloc ?_ _)); exact BK161.out) hb); have n3_ := Aside0.mk (below_step (bel_) hb); clear HO_3; clear HO164; clear BK161; clear HB; have HO_3 := n0_; have HO164 := n1_; have BK161 := n2_; have HB := n3_; clear n0_ n1_ n2_ n3_; (try clear hb); (try clear hb2); (try clear hk); (try clear hi)) | ((with_reducible refine gate_builtin (b := .append) (xs := #[.tmp 13, .tmp 23]) rfl ?_); at_builtin; refine Kd.R_append kAny (w0 := w) w.heap.size rfl (.tmp 13) (.tmp 23) 94 20 .nilIface 16 rfl Tryz.underlying94 info20 rfl (by decide) (by omega) u3 x3_1 (Sum.inr (Sum.inr (t165)) : AnyV) [.iface 9 (.string t165)] (fun k_ => some k_ ≠ (.slice Ao13 y162.length co13 : Value).ownBlock) (fun _ => False) rfl rfl ?aP (fun _ hk => hk.elim) ?aF ?aO ?aB ?aS ?aL ?_; (case aP => exact rfl); (case aB => exact (bel_)); (case aF => exact (fun k_ hk => Kd.fresh' (Kd.R_lt (by (with_reducible repeat (first | apply Kd.R_alloc | apply Kd.R_drewN | apply Kd.R_drew)); exact HO164.out)) k_ hk)); (case aO => exact (by (with_reducible repeat (first | apply Kd.R_alloc | apply Kd.R_drewN | apply Kd.R_drew)); exact Kd.R_mono HO_3.out (fun _ hk => hk.2))); (case aS => exact (below_size (bel_))); (case aL => have := LMc8.out; omega); intro v167 w15 ho hb hg hat; rw [← Ny166.out] at ho; have n0_ := Aside0.mk (blk_grown (g := gb161) (o := .cells #[.int .i64 ((rd_T62 l0 x9_1).f0), .int .i64 ((rd_T62 l0 x9_1).f1)] 62 (0, 0)) (by (with_reducible repeat (first | refine blk_drewN ?_ _ | refine blk_drew ?_ | refine blk_alloc ?_ _)); exact BK161.out) hg (Kd.R_ne HO_3.out BK161.out (by decide))); have n1_ := Aside0.mk (Kd.R_after (ok := (fun _ => True)) (by (with_reducible repeat (first | apply Kd.R_alloc | apply Kd.R_drewN | apply Kd.R_drew)); exact HO164.out) hg hat); have n2_ := Aside0.mk (hb); have n3_ := Aside0.mk (ho); clear BK161; clear HO164; clear HB; clear HO_3; have BK161 := n0_; have HO164 := n1_; have HB := n2_; have HO168 := n3_; clear n0_ n1_ n2_ n3_; clear ho hb hg hat))
       go_roundg k1
       case measure => have := HK1.out; omega
       case rel => exact ⟨(y166), (wrap64 (x9_1 + 1)), (by first | rfl | (simp; done) | (simp [*]; done)), H', ⟨by have := HK1.out; omega⟩, ⟨by (with_reducible repeat (first | apply Kd.R_alloc | apply Kd.R_drewN | apply Kd.R_drew)); exact Kd.R_mono HO168.out (fun _ hk => trivial)⟩, ⟨bel_⟩⟩
      ·rw [if_neg c8] at H
       exact absurd H (by simp)
     ·rw [if_neg c6] at H
      exact absurd H (by simp)
    ·rw [if_neg c5] at H
     exact absurd H (by simp)
   ·rw [if_neg c4] at H
    have c4b0 : decide (x9_1 < (l0.length : Int)) = false := decide_eq_false c4
    clear c4
    replace H := Option.bind_eq_some_iff.mp H
    obtain ⟨t169, A160, H⟩ := H
    replace H : (some t169) = some r := H
    have A16 := Aside0.mk A160
    clear A160
    obtain rfl := Option.some.inj H
    obtain ⟨Ao17, co17, eo17⟩ := Kd.R_slice HO_3.out
    subst eo17
    go_wp2_with (first | ((with_reducible refine gate_callee (f := 66) rfl ?_); refine goesL_ (some 27) rfl rfl Tryz.func66 (by kernel_rfl) rfl #[.slice Ao17 x3_1.length co17] rfl maps_ ?_; (with_reducible refine (impl_said.calls _ _ x3_1 t169 _ ?side1 ?side2 ?side3 A16.out).mono ?_); (case side1 => exact Gl.below HG.out (bel_)); (case side2 => repeat (first | exact (Kd.R_reads' HO_3.out).2.2 | (with_reducible refine Kd.C_alloc ?_ _) | (with_reducible refine Kd.C_drewN ?_ _) | (with_reducible refine Kd.C_drew ?_))); (case side3 => exact (Kd.R_reads' HO_3.out).2.1); rintro e w18 ⟨rfl, hb⟩; refine ⟨_, rfl, ?_⟩; have n0_ := Aside0.mk (Kd.R_below (by (with_reducible repeat (first | apply Kd.R_alloc | apply Kd.R_drewN | apply Kd.R_drew)); exact HO_3.out) hb); have n1_ := Aside0.mk (below_step (bel_) hb); clear HO_3; clear HB; have HO_3 := n0_; have HB := n1_; clear n0_ n1_; (try clear hb); (try clear hb2); (try clear hk); (try clear hi)))
    go_ret
    exact ⟨by first | rfl | (simp [errW_none, errW_some] <;> rfl) | (simp [*, errW_none, errW_some] <;> rfl), bel_⟩

/-! ### impl_SamplesText: function 7 -/
def impl_SamplesText.f (k : Nat) (l0 : List (S62)) : Option (ByteArray × Int) := (impl_Sample.f l0).bind fun t170 => ((impl_SamplesOK.f k l0).bind fun t171 => ((impl_first.f (([(Sum.inl (t170) : AnyV), (Sum.inr (Sum.inl (2)) : AnyV), (Sum.inl (!t171) : AnyV), (Sum.inr (Sum.inl (1)) : AnyV), (Sum.inl (decide ((l0.length : Int) > 8)) : AnyV), (Sum.inr (Sum.inl (6)) : AnyV)] : List AnyV))).bind fun t175 => (if t175 = 0 then ((impl_samplesText.f k l0).bind fun t176 => (some (t176, 0))) else (some ((⟨#[]⟩ : ByteArray), t175)))))
theorem impl_SamplesText.mono : ∀ a0 k, LeO (impl_SamplesText.f k a0) (impl_SamplesText.f (k + 1) a0) := by
 intro a0 k
 unfold impl_SamplesText.f
 repeat' first
   | (with_reducible exact impl_SamplesOK.mono _ _)
   | (with_reducible exact impl_samplesText.mono _ _)
   | (with_reducible exact LeO.refl _)
   | (with_reducible exact LeO.none _)
   | (with_reducible refine LeO.ite ?_ ?_)
   | (with_reducible refine LeO.bind ?_ (fun _ => ?_))
   | exact impl_SamplesOK.mono _ _
   | exact impl_samplesText.mono _ _
   | exact LeO.none _
   | refine LeO.ite ?_ ?_
   | refine LeO.bind ?_ (fun _ => ?_)
set_option maxHeartbeats 8000000 in
set_option maxRecDepth 100000 in
theorem impl_SamplesText.calls (k : Nat) (A0 : Option Addr) (c0 : Nat) (l0 : List (S62)) (r1 : ByteArray) (r2 : Int) (w : World) (hG : Gl w) (hr0 : Kd.C k62 w A0 l0.length l0) (hc0 : l0.length ≤ c0) (h : impl_SamplesText.f k l0 = some (r1, r2)) :
  Calls Tryz.prog 7 #[.slice A0 l0.length c0] w fun e w' => e = .returned (.tuple #[.string r1, .int .i64 r2]) ∧ Below w.heap.size w w' := by
 have HR0 := Aside0.mk hr0
 have HC0 := Aside0.mk hc0
 clear hr0 hc0
 have HB := Aside0.mk (Below.refl w.heap.size w)
 have HG := Aside0.mk hG
 clear hG
 have H : ((impl_Sample.f l0).bind fun t170 => ((impl_SamplesOK.f k l0).bind fun t171 => ((impl_first.f (([(Sum.inl (t170) : AnyV), (Sum.inr (Sum.inl (2)) : AnyV), (Sum.inl (!t171) : AnyV), (Sum.inr (Sum.inl (1)) : AnyV), (Sum.inl (decide ((l0.length : Int) > 8)) : AnyV), (Sum.inr (Sum.inl (6)) : AnyV)] : List AnyV))).bind fun t175 => (if t175 = 0 then ((impl_samplesText.f k l0).bind fun t176 => (some (t176, 0))) else (some ((⟨#[]⟩ : ByteArray), t175)))))) = some (r1, r2) := h
 clear h
 replace H := Option.bind_eq_some_iff.mp H
 obtain ⟨t170, A20, H⟩ := H
 replace H : ((impl_SamplesOK.f k l0).bind fun t171 => ((impl_first.f (([(Sum.inl (t170) : AnyV), (Sum.inr (Sum.inl (2)) : AnyV), (Sum.inl (!t171) : AnyV), (Sum.inr (Sum.inl (1)) : AnyV), (Sum.inl (decide ((l0.length : Int) > 8)) : AnyV), (Sum.inr (Sum.inl (6)) : AnyV)] : List AnyV))).bind fun t175 => (if t175 = 0 then ((impl_samplesText.f k l0).bind fun t176 => (some (t176, 0))) else (some ((⟨#[]⟩ : ByteArray), t175))))) = some (r1, r2) := H
 have A2 := Aside0.mk A20
 clear A20
 replace H := Option.bind_eq_some_iff.mp H
 obtain ⟨t171, A30, H⟩ := H
 replace H : ((impl_first.f (([(Sum.inl (t170) : AnyV), (Sum.inr (Sum.inl (2)) : AnyV), (Sum.inl (!t171) : AnyV), (Sum.inr (Sum.inl (1)) : AnyV), (Sum.inl (decide ((l0.length : Int) > 8)) : AnyV), (Sum.inr (Sum.inl (6)) : AnyV)] : List AnyV))).bind fun t175 => (if t175 = 0 then ((impl_samplesText.f k l0).bind fun t176 => (some (t176, 0))) else (some ((⟨#[]⟩ : ByteArray), t175)))) = some (r1, r2) := H
 have A3 := Aside0.mk A30
 clear A30
 obtain ⟨y172, hy172⟩ : ∃ y_ : List AnyV, y_ = (([(Sum.inl (t170) : AnyV), (Sum.inr (Sum.inl (2)) : AnyV), (Sum.inl (!t171) : AnyV), (Sum.inr (Sum.inl (1)) : AnyV), (Sum.inl (decide ((l0.length : Int) > 8)) : AnyV), (Sum.inr (Sum.inl (6)) : AnyV)] : List AnyV)) := ⟨_, rfl⟩
 replace H : ((impl_first.f y172).bind fun t175 => (if t175 = 0 then ((impl_samplesText.f k l0).bind fun t176 => (some (t176, 0))) else (some ((⟨#[]⟩ : ByteArray), t175)))) = some (r1, r2) := by first | (rw [hy172]; with_reducible exact H) | (have H2_ := (Option.bind_some _ _).symm.trans H; rw [hy172]; with_reducible exact H2_) | (have H2_ := (Option.bind_some _ _).symm.trans H; with_reducible exact H2_) | with_reducible exact H | (rw [hy172]; exact H) | exact H
 have Ny172 := Aside0.mk hy172
 clear hy172
 replace H := Option.bind_eq_some_iff.mp H
 obtain ⟨t175, A40, H⟩ := H
 replace H : (if t175 = 0 then ((impl_samplesText.f k l0).bind fun t176 => (some (t176, 0))) else (some ((⟨#[]⟩ : ByteArray), t175))) = some (r1, r2) := H
 have A4 := Aside0.mk A40
 clear A40
 by_cases c5 : t175 = 0
 ·rw [if_pos c5] at H
  have c5b0 : (t175 == 0) = true := beq_iff_eq.mpr c5
  have c5b1 : (t175 != 0) = false := bne_eq_false_iff_eq.mpr c5
  clear c5
  replace H := Option.bind_eq_some_iff.mp H
  obtain ⟨t176, A60, H⟩ := H
  replace H : (some (t176, 0)) = some (r1, r2) := H
  have A6 := Aside0.mk A60
  clear A60
  simp only [Option.some.injEq, Prod.mk.injEq] at H
  obtain ⟨rfl, rfl⟩ := H
  go_enter Tryz.func7, Tryz.ntmps7
  go_wp2_with (first | ((with_reducible refine gate_callee (f := 31) rfl ?_); refine goesL_ (some 6) rfl rfl Tryz.func31 (by kernel_rfl) rfl #[.slice A0 l0.length c0] rfl maps_ ?_; (with_reducible refine (impl_Sample.calls _ _ l0 t170 _ ?side1 ?side2 A2.out).mono ?_); (case side1 => repeat (first | exact HR0.out | (with_reducible refine Kd.C_alloc ?_ _) | (with_reducible refine Kd.C_drewN ?_ _) | (with_reducible refine Kd.C_drew ?_))); (case side2 => exact HC0.out); rintro e w' ⟨rfl, ⟨nd, rfl⟩⟩; refine ⟨_, rfl, ?_⟩) | ((with_reducible refine gate_callee (f := 32) rfl ?_); refine goesL_ (some 10) rfl rfl Tryz.func32 (by kernel_rfl) rfl #[.slice A0 l0.length c0] rfl maps_ ?_; (with_reducible refine (impl_SamplesOK.calls k _ _ l0 t171 _ ?side1 ?side2 A3.out).mono ?_); (case side1 => repeat (first | exact HR0.out | (with_reducible refine Kd.C_alloc ?_ _) | (with_reducible refine Kd.C_drewN ?_ _) | (with_reducible refine Kd.C_drew ?_))); (case side2 => exact HC0.out); rintro e w7 ⟨rfl, hb⟩; refine ⟨_, rfl, ?_⟩; have n0_ := Aside0.mk (below_step (bel_) hb); clear HB; have HB := n0_; clear n0_; (try clear hb); (try clear hb2); (try clear hk); (try clear hi)) | ((with_reducible refine gate_dst (N := 19) rfl ?_); refine Kd.R_lit kAny _ 20 ?hg (N := 19) ?hd (xs := ([(Sum.inl (t170) : AnyV), (Sum.inr (Sum.inl (2)) : AnyV), (Sum.inl (!t171) : AnyV), (Sum.inr (Sum.inl (1)) : AnyV), (Sum.inl (decide ((l0.length : Int) > 8)) : AnyV), (Sum.inr (Sum.inl (6)) : AnyV)] : List AnyV)) (inner := [.iface 4 (.bool t170), .iface 3 (.int .i64 2), .iface 4 (.bool (!t171)), .iface 3 (.int .i64 1), .iface 4 (.bool (decide ((l0.length : Int) > 8))), .iface 3 (.int .i64 6)]) (ok := fun _ => True) (okp := fun _ => True) ?hr ?hp (fun _ hk => hk) trivial (Below.refl _ _) (Nat.le_refl _) (by simp) ?_; (case hd => rfl); (case hg => rfl); (case hr => first | (go_simp; done) | (go_simp; rfl)); (case hp => exact (Reps.one (show Kd.M kAny _ _ _ (Sum.inl (t170) : AnyV) [.iface 4 (.bool t170)] from rfl) (Reps.one (show Kd.M kAny _ _ _ (Sum.inr (Sum.inl (2)) : AnyV) [.iface 3 (.int .i64 2)] from rfl) (Reps.one (show Kd.M kAny _ _ _ (Sum.inl (!t171) : AnyV) [.iface 4 (.bool (!t171))] from rfl) (Reps.one (show Kd.M kAny _ _ _ (Sum.inr (Sum.inl (1)) : AnyV) [.iface 3 (.int .i64 1)] from rfl) (Reps.one (show Kd.M kAny _ _ _ (Sum.inl (decide ((l0.length : Int) > 8)) : AnyV) [.iface 4 (.bool (decide ((l0.length : Int) > 8)))] from rfl) (Reps.one (show Kd.M kAny _ _ _ (Sum.inr (Sum.inl (6)) : AnyV) [.iface 3 (.int .i64 6)] from rfl) (Reps.none _ _)))))))); intro v173 w8 ho9 hb hg_ hnew_; clear hg_ hnew_; (first | rw [← Ny172.out] at ho9 | (simp only [Int.reduceToNat] at ho9; rw [← Ny172.out] at ho9)); have n0_ := Aside0.mk (Kd.R_lower ho9 (below_size (bel_))); have n1_ := Aside0.mk (below_step (bel_) hb); clear HB; have HO174 := n0_; have HB := n1_; clear n0_ n1_; clear hb ho9; obtain ⟨Ao10, co10, eo10⟩ := Kd.R_slice HO174.out; subst eo10) | ((with_reducible refine gate_callee (f := 30) rfl ?_); refine goesL_ (some 20) rfl rfl Tryz.func30 (by kernel_rfl) rfl #[.slice Ao10 y172.length co10] rfl maps_ ?_; (with_reducible refine (impl_first.calls _ _ y172 t175 _ ?side1 ?side2 A4.out).mono ?_); (case side1 => repeat (first | exact (Kd.R_reads' HO174.out).2.2 | (with_reducible refine Kd.C_alloc ?_ _) | (with_reducible refine Kd.C_drewN ?_ _) | (with_reducible refine Kd.C_drew ?_))); (case side2 => exact (Kd.R_reads' HO174.out).2.1); rintro e w' ⟨rfl, ⟨nd, rfl⟩⟩; refine ⟨_, rfl, ?_⟩) | ((with_reducible refine gate_callee (f := 33) rfl ?_); refine goesL_ (some 25) rfl rfl Tryz.func33 (by kernel_rfl) rfl #[.slice A0 l0.length c0] rfl maps_ ?_; (with_reducible refine (impl_samplesText.calls k _ _ l0 t176 _ ?side1 ?side2 ?side3 A6.out).mono ?_); (case side1 => exact Gl.below HG.out (bel_)); (case side2 => repeat (first | exact (Kd.C_below HR0.out (bel_)) | (with_reducible refine Kd.C_alloc ?_ _) | (with_reducible refine Kd.C_drewN ?_ _) | (with_reducible refine Kd.C_drew ?_))); (case side3 => exact HC0.out); rintro e w11 ⟨rfl, hb⟩; refine ⟨_, rfl, ?_⟩; have n0_ := Aside0.mk (Kd.R_below (by (with_reducible repeat (first | apply Kd.R_alloc | apply Kd.R_drewN | apply Kd.R_drew)); exact HO174.out) hb); have n1_ := Aside0.mk (below_step (bel_) hb); clear HO174; clear HB; have HO174 := n0_; have HB := n1_; clear n0_ n1_; (try clear hb); (try clear hb2); (try clear hk); (try clear hi)))
  go_ret2
  exact ⟨by first | rfl | (simp [errW_none, errW_some] <;> rfl) | (simp [*, errW_none, errW_some] <;> rfl), bel_⟩
 ·rw [if_neg c5] at H
  have c5b0 : (t175 == 0) = false := beq_eq_false_iff_ne.mpr c5
  have c5b1 : (t175 != 0) = true := bne_iff_ne.mpr c5
  simp only [Option.some.injEq, Prod.mk.injEq] at H
  obtain ⟨rfl, rfl⟩ := H
  go_enter Tryz.func7, Tryz.ntmps7
  go_wp2_with (first | ((with_reducible refine gate_callee (f := 31) rfl ?_); refine goesL_ (some 6) rfl rfl Tryz.func31 (by kernel_rfl) rfl #[.slice A0 l0.length c0] rfl maps_ ?_; (with_reducible refine (impl_Sample.calls _ _ l0 t170 _ ?side1 ?side2 A2.out).mono ?_); (case side1 => repeat (first | exact HR0.out | (with_reducible refine Kd.C_alloc ?_ _) | (with_reducible refine Kd.C_drewN ?_ _) | (with_reducible refine Kd.C_drew ?_))); (case side2 => exact HC0.out); rintro e w' ⟨rfl, ⟨nd, rfl⟩⟩; refine ⟨_, rfl, ?_⟩) | ((with_reducible refine gate_callee (f := 32) rfl ?_); refine goesL_ (some 10) rfl rfl Tryz.func32 (by kernel_rfl) rfl #[.slice A0 l0.length c0] rfl maps_ ?_; (with_reducible refine (impl_SamplesOK.calls k _ _ l0 t171 _ ?side1 ?side2 A3.out).mono ?_); (case side1 => repeat (first | exact HR0.out | (with_reducible refine Kd.C_alloc ?_ _) | (with_reducible refine Kd.C_drewN ?_ _) | (with_reducible refine Kd.C_drew ?_))); (case side2 => exact HC0.out); rintro e w12 ⟨rfl, hb⟩; refine ⟨_, rfl, ?_⟩; have n0_ := Aside0.mk (below_step (bel_) hb); clear HB; have HB := n0_; clear n0_; (try clear hb); (try clear hb2); (try clear hk); (try clear hi)) | ((with_reducible refine gate_dst (N := 19) rfl ?_); refine Kd.R_lit kAny _ 20 ?hg (N := 19) ?hd (xs := ([(Sum.inl (t170) : AnyV), (Sum.inr (Sum.inl (2)) : AnyV), (Sum.inl (!t171) : AnyV), (Sum.inr (Sum.inl (1)) : AnyV), (Sum.inl (decide ((l0.length : Int) > 8)) : AnyV), (Sum.inr (Sum.inl (6)) : AnyV)] : List AnyV)) (inner := [.iface 4 (.bool t170), .iface 3 (.int .i64 2), .iface 4 (.bool (!t171)), .iface 3 (.int .i64 1), .iface 4 (.bool (decide ((l0.length : Int) > 8))), .iface 3 (.int .i64 6)]) (ok := fun _ => True) (okp := fun _ => True) ?hr ?hp (fun _ hk => hk) trivial (Below.refl _ _) (Nat.le_refl _) (by simp) ?_; (case hd => rfl); (case hg => rfl); (case hr => first | (go_simp; done) | (go_simp; rfl)); (case hp => exact (Reps.one (show Kd.M kAny _ _ _ (Sum.inl (t170) : AnyV) [.iface 4 (.bool t170)] from rfl) (Reps.one (show Kd.M kAny _ _ _ (Sum.inr (Sum.inl (2)) : AnyV) [.iface 3 (.int .i64 2)] from rfl) (Reps.one (show Kd.M kAny _ _ _ (Sum.inl (!t171) : AnyV) [.iface 4 (.bool (!t171))] from rfl) (Reps.one (show Kd.M kAny _ _ _ (Sum.inr (Sum.inl (1)) : AnyV) [.iface 3 (.int .i64 1)] from rfl) (Reps.one (show Kd.M kAny _ _ _ (Sum.inl (decide ((l0.length : Int) > 8)) : AnyV) [.iface 4 (.bool (decide ((l0.length : Int) > 8)))] from rfl) (Reps.one (show Kd.M kAny _ _ _ (Sum.inr (Sum.inl (6)) : AnyV) [.iface 3 (.int .i64 6)] from rfl) (Reps.none _ _)))))))); intro v173 w13 ho14 hb hg_ hnew_; clear hg_ hnew_; (first | rw [← Ny172.out] at ho14 | (simp only [Int.reduceToNat] at ho14; rw [← Ny172.out] at ho14)); have n0_ := Aside0.mk (Kd.R_lower ho14 (below_size (bel_))); have n1_ := Aside0.mk (below_step (bel_) hb); clear HB; have HO174 := n0_; have HB := n1_; clear n0_ n1_; clear hb ho14; obtain ⟨Ao15, co15, eo15⟩ := Kd.R_slice HO174.out; subst eo15) | ((with_reducible refine gate_callee (f := 30) rfl ?_); refine goesL_ (some 20) rfl rfl Tryz.func30 (by kernel_rfl) rfl #[.slice Ao15 y172.length co15] rfl maps_ ?_; (with_reducible refine (impl_first.calls _ _ y172 t175 _ ?side1 ?side2 A4.out).mono ?_); (case side1 => repeat (first | exact (Kd.R_reads' HO174.out).2.2 | (with_reducible refine Kd.C_alloc ?_ _) | (with_reducible refine Kd.C_drewN ?_ _) | (with_reducible refine Kd.C_drew ?_))); (case side2 => exact (Kd.R_reads' HO174.out).2.1); rintro e w' ⟨rfl, ⟨nd, rfl⟩⟩; refine ⟨_, rfl, ?_⟩))
  go_ret2
  exact ⟨by first | rfl | (simp [errW_none, errW_some] <;> rfl) | (simp [*, errW_none, errW_some] <;> rfl), bel_⟩

/-! ### laws_at: function 8 -/
def laws_at.f (l0 : List Int) (a1 : Int) (a2 : Int) : Option (Int) := if a2 ≤ 1 then (some 0) else (if (l0.length : Int) = 0 then (if a2 = 0 then (none) else (some (Int.tmod (wrap64 (a1 * 7)) a2))) else (if 0 ≤ (Int.tmod a1 (l0.length : Int)) then (if (Int.tmod a1 (l0.length : Int)) < (l0.length : Int) then (if 0 ≤ (Int.tmod (wrap64 (a1 + 1)) (l0.length : Int)) then (if (Int.tmod (wrap64 (a1 + 1)) (l0.length : Int)) < (l0.length : Int) then (if a2 = 0 then (none) else (some (Int.tmod (wrap64 ((wrap64 ((wrap64 ((wrap64 (rd l0 (Int.tmod a1 (l0.length : Int)))) * 31)) + (wrap64 (rd l0 (Int.tmod (wrap64 (a1 + 1)) (l0.length : Int)))))) + (wrap64 (Int.tdiv a1 (l0.length : Int))))) a2))) else (none)) else (none)) else (none)) else (none)))
set_option maxHeartbeats 8000000 in
set_option maxRecDepth 100000 in
theorem laws_at.calls (A0 : Option Addr) (c0 : Nat) (l0 : List Int) (a1 : Int) (a2 : Int) (r : Int) (w : World) (hr0 : Kd.C (Kd.int .u8) w A0 l0.length l0) (hc0 : l0.length ≤ c0) (h : laws_at.f l0 a1 a2 = some r) :
  Calls Tryz.prog 8 #[.slice A0 l0.length c0, .int .i64 a1, .int .i64 a2] w fun e w' => e = .returned (.int .i64 r) ∧ Drawn0 w w' := by
 have HR0 := Aside0.mk hr0
 have HC0 := Aside0.mk hc0
 clear hr0 hc0
 have H : (if a2 ≤ 1 then (some 0) else (if (l0.length : Int) = 0 then (if a2 = 0 then (none) else (some (Int.tmod (wrap64 (a1 * 7)) a2))) else (if 0 ≤ (Int.tmod a1 (l0.length : Int)) then (if (Int.tmod a1 (l0.length : Int)) < (l0.length : Int) then (if 0 ≤ (Int.tmod (wrap64 (a1 + 1)) (l0.length : Int)) then (if (Int.tmod (wrap64 (a1 + 1)) (l0.length : Int)) < (l0.length : Int) then (if a2 = 0 then (none) else (some (Int.tmod (wrap64 ((wrap64 ((wrap64 ((wrap64 (rd l0 (Int.tmod a1 (l0.length : Int)))) * 31)) + (wrap64 (rd l0 (Int.tmod (wrap64 (a1 + 1)) (l0.length : Int)))))) + (wrap64 (Int.tdiv a1 (l0.length : Int))))) a2))) else (none)) else (none)) else (none)) else (none)))) = some r := h
 clear h
 by_cases c4 : a2 ≤ 1
 ·rw [if_pos c4] at H
  have c4b0 : decide (a2 ≤ 1) = true := decide_eq_true c4
  clear c4
  obtain rfl := Option.some.inj H
  go_enter Tryz.func8, Tryz.ntmps8
  go_wp2
  repeat (go_quiet (fail); try go_wp2)
  go_ret
  exact ⟨by first | rfl | (simp; done) | (simp [*]; done), by repeat (first | exact Drawn0.refl _ | apply Drawn0.step)⟩
 ·rw [if_neg c4] at H
  have c4b0 : decide (a2 ≤ 1) = false := decide_eq_false c4
  clear c4
  by_cases c5 : (l0.length : Int) = 0
  ·rw [if_pos c5] at H
   have c5b0 : ((l0.length : Int) == 0) = true := beq_iff_eq.mpr c5
   have c5b1 : ((l0.length : Int) != 0) = false := bne_eq_false_iff_eq.mpr c5
   clear c5
   by_cases c6 : a2 = 0
   ·rw [if_pos c6] at H
    exact absurd H (by simp)
   ·rw [if_neg c6] at H
    have c6b0 : (a2 == 0) = false := beq_eq_false_iff_ne.mpr c6
    have c6b1 : (a2 != 0) = true := bne_iff_ne.mpr c6
    obtain rfl := Option.some.inj H
    go_enter Tryz.func8, Tryz.ntmps8
    go_wp2
    repeat (go_quiet (fail); try go_wp2)
    go_ret
    exact ⟨by first | rfl | (simp; done) | (simp [*]; done), by repeat (first | exact Drawn0.refl _ | apply Drawn0.step)⟩
  ·rw [if_neg c5] at H
   have c5b0 : ((l0.length : Int) == 0) = false := beq_eq_false_iff_ne.mpr c5
   have c5b1 : ((l0.length : Int) != 0) = true := bne_iff_ne.mpr c5
   have c5b2 : ¬ (l0 = []) := fun h_ => c5 (by rw [h_]; rfl)
   obtain ⟨ji7, hji7⟩ : ∃ j_ : Int, (Int.tmod a1 (l0.length : Int)) = j_ := ⟨_, rfl⟩
   replace H : (if 0 ≤ (ji7) then (if (ji7) < (l0.length : Int) then (if 0 ≤ (Int.tmod (wrap64 (a1 + 1)) (l0.length : Int)) then (if (Int.tmod (wrap64 (a1 + 1)) (l0.length : Int)) < (l0.length : Int) then (if a2 = 0 then (none) else (some (Int.tmod (wrap64 ((wrap64 ((wrap64 ((wrap64 (rd l0 (ji7))) * 31)) + (wrap64 (rd l0 (Int.tmod (wrap64 (a1 + 1)) (l0.length : Int)))))) + (wrap64 (Int.tdiv a1 (l0.length : Int))))) a2))) else (none)) else (none)) else (none)) else (none)) = some r := by first | (rw [hji7] at H; exact H) | (simp only [hji7] at H ⊢; exact H)
   by_cases c8 : 0 ≤ (ji7)
   ·rw [if_pos c8] at H
    have c8b0 : decide (0 ≤ (ji7)) = true := decide_eq_true c8
    clear c8
    by_cases c9 : (ji7) < (l0.length : Int)
    ·rw [if_pos c9] at H
     have c9b0 : decide ((ji7) < (l0.length : Int)) = true := decide_eq_true c9
     clear c9
     obtain ⟨ji10, hji10⟩ : ∃ j_ : Int, (Int.tmod (wrap64 (a1 + 1)) (l0.length : Int)) = j_ := ⟨_, rfl⟩
     replace H : (if 0 ≤ (ji10) then (if (ji10) < (l0.length : Int) then (if a2 = 0 then (none) else (some (Int.tmod (wrap64 ((wrap64 ((wrap64 ((wrap64 (rd l0 (ji7))) * 31)) + (wrap64 (rd l0 (ji10))))) + (wrap64 (Int.tdiv a1 (l0.length : Int))))) a2))) else (none)) else (none)) = some r := by first | (rw [hji10] at H; exact H) | (simp only [hji10] at H ⊢; exact H)
     by_cases c11 : 0 ≤ (ji10)
     ·rw [if_pos c11] at H
      have c11b0 : decide (0 ≤ (ji10)) = true := decide_eq_true c11
      clear c11
      by_cases c12 : (ji10) < (l0.length : Int)
      ·rw [if_pos c12] at H
       have c12b0 : decide ((ji10) < (l0.length : Int)) = true := decide_eq_true c12
       clear c12
       by_cases c13 : a2 = 0
       ·rw [if_pos c13] at H
        exact absurd H (by simp)
       ·rw [if_neg c13] at H
        have c13b0 : (a2 == 0) = false := beq_eq_false_iff_ne.mpr c13
        have c13b1 : (a2 != 0) = true := bne_iff_ne.mpr c13
        obtain rfl := Option.some.inj H
        have p177 : 0 ≤ ((ji7) : Int) := of_decide_eq_true (by first | (with_reducible assumption) | assumption)
        have q177 : (ji7) < (l0.length : Int) := of_decide_eq_true (by first | (with_reducible assumption) | assumption)
        obtain ⟨ad177, e177, hx177_0⟩ := Kd.at_int HR0.out (ji7) p177 q177
        cases e177
        replace p177 := eq_true p177
        replace q177 := eq_true q177
        have p178 : 0 ≤ ((ji10) : Int) := of_decide_eq_true (by first | (with_reducible assumption) | assumption)
        have q178 : (ji10) < (l0.length : Int) := of_decide_eq_true (by first | (with_reducible assumption) | assumption)
        obtain ⟨ad178, e178, hx178_0⟩ := Kd.at_int HR0.out (ji10) p178 q178
        obtain rfl : ad177 = ad178 := (by injection e178)
        replace p178 := eq_true p178
        replace q178 := eq_true q178
        go_enter Tryz.func8, Tryz.ntmps8
        go_wp2
        repeat (go_quiet (fail); try go_wp2)
        go_ret
        exact ⟨by first | rfl | (simp; done) | (simp only [← hji7, ← hji10] <;> (first | rfl | simp)) | (simp [*]; done), by repeat (first | exact Drawn0.refl _ | apply Drawn0.step)⟩
      ·rw [if_neg c12] at H
       exact absurd H (by simp)
     ·rw [if_neg c11] at H
      exact absurd H (by simp)
    ·rw [if_neg c9] at H
     exact absurd H (by simp)
   ·rw [if_neg c8] at H
    exact absurd H (by simp)

/-! ### impl_isTier: function 34 -/
def impl_isTier.f (a0 : Int) : Option (Bool) := (impl_within.f a0 0 2).bind fun t179 => (some t179)
set_option maxHeartbeats 8000000 in
set_option maxRecDepth 100000 in
theorem impl_isTier.calls (a0 : Int) (r : Bool) (w : World) (h : impl_isTier.f a0 = some r) :
  Calls Tryz.prog 34 #[.int .i64 a0] w fun e w' => e = .returned (.bool r) ∧ Drawn0 w w' := by
 have H : ((impl_within.f a0 0 2).bind fun t179 => (some t179)) = some r := h
 clear h
 replace H := Option.bind_eq_some_iff.mp H
 obtain ⟨t179, A20, H⟩ := H
 replace H : (some t179) = some r := H
 have A2 := Aside0.mk A20
 clear A20
 obtain rfl := Option.some.inj H
 go_enter Tryz.func34, Tryz.ntmps34
 go_wp2_with (first | ((with_reducible refine gate_callee (f := 60) rfl ?_); refine goesL_ (some 4) rfl rfl Tryz.func60 (by kernel_rfl) rfl #[.int .i64 a0, .int .i64 0, .int .i64 2] rfl maps_ ?_; (with_reducible refine (impl_within.calls a0 0 2 t179 _ A2.out).mono ?_); rintro e w' ⟨rfl, ⟨nd, rfl⟩⟩; refine ⟨_, rfl, ?_⟩))
 go_ret
 exact ⟨by first | rfl | (simp; done) | (simp [*]; done), by repeat (first | exact Drawn0.refl _ | apply Drawn0.step)⟩

/-! ### impl_isSix: function 35 -/
def impl_isSix.f (a0 : Int) : Option (Bool) := (impl_within.f a0 0 999999).bind fun t180 => (some t180)
set_option maxHeartbeats 8000000 in
set_option maxRecDepth 100000 in
theorem impl_isSix.calls (a0 : Int) (r : Bool) (w : World) (h : impl_isSix.f a0 = some r) :
  Calls Tryz.prog 35 #[.int .i64 a0] w fun e w' => e = .returned (.bool r) ∧ Drawn0 w w' := by
 have H : ((impl_within.f a0 0 999999).bind fun t180 => (some t180)) = some r := h
 clear h
 replace H := Option.bind_eq_some_iff.mp H
 obtain ⟨t180, A20, H⟩ := H
 replace H : (some t180) = some r := H
 have A2 := Aside0.mk A20
 clear A20
 obtain rfl := Option.some.inj H
 go_enter Tryz.func35, Tryz.ntmps35
 go_wp2_with (first | ((with_reducible refine gate_callee (f := 60) rfl ?_); refine goesL_ (some 4) rfl rfl Tryz.func60 (by kernel_rfl) rfl #[.int .i64 a0, .int .i64 0, .int .i64 999999] rfl maps_ ?_; (with_reducible refine (impl_within.calls a0 0 999999 t180 _ A2.out).mono ?_); rintro e w' ⟨rfl, ⟨nd, rfl⟩⟩; refine ⟨_, rfl, ?_⟩))
 go_ret
 exact ⟨by first | rfl | (simp; done) | (simp [*]; done), by repeat (first | exact Drawn0.refl _ | apply Drawn0.step)⟩

/-! ### impl_dataPrefixes: function 67 -/
def impl_dataPrefixes.f  : Option (List ByteArray) := some (([(⟨#[114, 97, 119, 47]⟩ : ByteArray), (⟨#[116, 49, 47]⟩ : ByteArray), (⟨#[116, 50, 47]⟩ : ByteArray)] : List ByteArray))
set_option maxHeartbeats 8000000 in
set_option maxRecDepth 100000 in
theorem impl_dataPrefixes.calls  (r : List ByteArray) (w : World) (h : impl_dataPrefixes.f  = some r) :
  Calls Tryz.prog 67 #[] w fun e w' => ∃ v0_ : Value, e = .returned (v0_) ∧ Kd.R Kd.string 9 w' w.heap.size (fun _ => True) v0_ r ∧ Below w.heap.size w w' := by
 have HB := Aside0.mk (Below.refl w.heap.size w)
 have H : (some (([(⟨#[114, 97, 119, 47]⟩ : ByteArray), (⟨#[116, 49, 47]⟩ : ByteArray), (⟨#[116, 50, 47]⟩ : ByteArray)] : List ByteArray))) = some r := h
 clear h
 obtain ⟨y181, hy181⟩ : ∃ y_ : List ByteArray, y_ = (([(⟨#[114, 97, 119, 47]⟩ : ByteArray), (⟨#[116, 49, 47]⟩ : ByteArray), (⟨#[116, 50, 47]⟩ : ByteArray)] : List ByteArray)) := ⟨_, rfl⟩
 replace H : (some y181) = some r := by first | (rw [hy181]; with_reducible exact H) | (have H2_ := (Option.bind_some _ _).symm.trans H; rw [hy181]; with_reducible exact H2_) | (have H2_ := (Option.bind_some _ _).symm.trans H; with_reducible exact H2_) | with_reducible exact H | (rw [hy181]; exact H) | exact H
 have Ny181 := Aside0.mk hy181
 clear hy181
 obtain rfl := Option.some.inj H
 go_enter Tryz.func67, Tryz.ntmps67
 go_wp2_with (first | ((with_reducible refine gate_dst (N := 1) rfl ?_); refine Kd.R_lit Kd.string _ 9 ?hg (N := 1) ?hd (xs := ([(⟨#[114, 97, 119, 47]⟩ : ByteArray), (⟨#[116, 49, 47]⟩ : ByteArray), (⟨#[116, 50, 47]⟩ : ByteArray)] : List ByteArray)) (inner := [.string (⟨#[114, 97, 119, 47]⟩ : ByteArray), .string (⟨#[116, 49, 47]⟩ : ByteArray), .string (⟨#[116, 50, 47]⟩ : ByteArray)]) (ok := fun _ => True) (okp := fun _ => True) ?hr ?hp (fun _ hk => hk) trivial (Below.refl _ _) (Nat.le_refl _) (by simp) ?_; (case hd => rfl); (case hg => rfl); (case hr => first | (go_simp; done) | (go_simp; rfl)); (case hp => exact (Reps.one (show Kd.M Kd.string _ _ _ (⟨#[114, 97, 119, 47]⟩ : ByteArray) [.string (⟨#[114, 97, 119, 47]⟩ : ByteArray)] from rfl) (Reps.one (show Kd.M Kd.string _ _ _ (⟨#[116, 49, 47]⟩ : ByteArray) [.string (⟨#[116, 49, 47]⟩ : ByteArray)] from rfl) (Reps.one (show Kd.M Kd.string _ _ _ (⟨#[116, 50, 47]⟩ : ByteArray) [.string (⟨#[116, 50, 47]⟩ : ByteArray)] from rfl) (Reps.none _ _))))); intro v182 w1 ho2 hb hg_ hnew_; clear hg_ hnew_; (first | rw [← Ny181.out] at ho2 | (simp only [Int.reduceToNat] at ho2; rw [← Ny181.out] at ho2)); have n0_ := Aside0.mk (Kd.R_lower ho2 (below_size (bel_))); have n1_ := Aside0.mk (below_step (bel_) hb); clear HB; have HO183 := n0_; have HB := n1_; clear n0_ n1_; clear hb ho2))
 go_ret
 exact ⟨_, by first | rfl | (simp [errW_none, errW_some] <;> rfl) | (simp [*, errW_none, errW_some] <;> rfl), by (with_reducible repeat (first | apply Kd.R_alloc | apply Kd.R_drewN | apply Kd.R_drew)); exact HO183.out, bel_⟩

/-! ### impl_six: function 68 -/
def impl_six.f (a0 : Int) : Option (ByteArray) := (strconv_Itoa.f (wrap64 (1000000 + a0))).bind fun t184 => (if 1 ≤ (t184.size : Int) then (some (t184.extract 1 t184.size)) else (none))
set_option maxHeartbeats 8000000 in
set_option maxRecDepth 100000 in
theorem impl_six.calls (a0 : Int) (r : ByteArray) (w : World) (hG : Gl w) (h : impl_six.f a0 = some r) :
  Calls Tryz.prog 68 #[.int .i64 a0] w fun e w' => e = .returned (.string r) ∧ Below w.heap.size w w' := by
 have HB := Aside0.mk (Below.refl w.heap.size w)
 have HG := Aside0.mk hG
 clear hG
 have H : ((strconv_Itoa.f (wrap64 (1000000 + a0))).bind fun t184 => (if 1 ≤ (t184.size : Int) then (some (t184.extract 1 t184.size)) else (none))) = some r := h
 clear h
 replace H := Option.bind_eq_some_iff.mp H
 obtain ⟨t184, A20, H⟩ := H
 replace H : (if 1 ≤ (t184.size : Int) then (some (t184.extract 1 t184.size)) else (none)) = some r := H
 have A2 := Aside0.mk A20
 clear A20
 by_cases c3 : 1 ≤ (t184.size : Int)
 ·rw [if_pos c3] at H
  have c3b0 := eq_true c3
  have c3b1 : decide (1 ≤ (t184.size : Int)) = true := decide_eq_true c3
  clear c3
  obtain rfl := Option.some.inj H
  go_enter Tryz.func68, Tryz.ntmps68
  go_wp2_with (first | ((with_reducible refine gate_callee (f := 101) rfl ?_); refine goesL_ (some 5) rfl rfl Tryz.func101 (by kernel_rfl) rfl #[.int .i64 (wrap64 (1000000 + a0))] rfl maps_ ?_; (with_reducible refine (strconv_Itoa.calls (wrap64 (1000000 + a0)) t184 _ ?side1 A2.out).mono ?_); (case side1 => exact Gl.below HG.out (bel_)); rintro e w4 ⟨rfl, hb⟩; refine ⟨_, rfl, ?_⟩; have n0_ := Aside0.mk (below_step (bel_) hb); clear HB; have HB := n0_; clear n0_; (try clear hb); (try clear hb2); (try clear hk); (try clear hi)))
  go_ret
  exact ⟨by first | rfl | (simp [errW_none, errW_some] <;> rfl) | (simp [*, errW_none, errW_some] <;> rfl), bel_⟩
 ·rw [if_neg c3] at H
  exact absurd H (by simp)

/-! ### impl_dataKey: function 36 (by hand) -/
def preOf (a : Int) : ByteArray := rdOf ByteArray.empty [(⟨#[114, 97, 119, 47]⟩ : ByteArray), ⟨#[116, 49, 47]⟩, ⟨#[116, 50, 47]⟩] a
def impl_dataKey.f (a0 a1 a2 : Int) : Option ByteArray := if 0 ≤ a0 ∧ a0 < 3 then (impl_six.f a1).bind fun x => (impl_six.f a2).bind fun y => if x.size ≤ 1000 ∧ y.size ≤ 1000 then some (preOf a0 ++ x ++ ⟨#[45]⟩ ++ y) else none else none
set_option maxHeartbeats 8000000 in
set_option maxRecDepth 100000 in
theorem impl_dataKey.calls (a0 a1 a2 : Int) (r : ByteArray) (w : World) (hG : Gl w) (h : impl_dataKey.f a0 a1 a2 = some r) :
  Calls Tryz.prog 36 #[.int .i64 a0, .int .i64 a1, .int .i64 a2] w fun e w' => e = .returned (.string r) ∧ Below w.heap.size w w' := by
 unfold impl_dataKey.f at h
 split at h
 case isFalse => cases h
 rename_i hc
 obtain ⟨h0, h3⟩ := hc
 obtain ⟨x, hx, h⟩ := Option.bind_eq_some_iff.1 h
 obtain ⟨y, hy, h⟩ := Option.bind_eq_some_iff.1 h
 split at h
 case isFalse => cases h
 rename_i hs
 obtain ⟨s1, s2⟩ := hs
 have hr := (Option.some.inj h).symm
 have HH := Aside0.mk hr
 have HX := Aside0.mk hx
 have HY := Aside0.mk hy
 have HG := Aside0.mk hG
 have hp : (preOf a0).size ≤ 4 := by
  have : a0 = 0 ∨ a0 = 1 ∨ a0 = 2 := by omega
  rcases this with rfl | rfl | rfl <;> decide
 have HB := Aside0.mk (Below.refl w.heap.size w)
 clear h hr hx hy hG
 go_enter Tryz.func36, Tryz.ntmps36
 go_wp2
 go_region_with (first
  | (go_at_call 67; refine (impl_dataPrefixes.calls _ _ rfl).mono ?_; rintro e w1 ⟨v0, rfl, ho, hb⟩; obtain ⟨A, c, he, hl, hrd⟩ := Kd.R_reads ho; subst he; obtain ⟨ad, eA, hcell⟩ := Kd.at_string hrd a0 h0 (by simpa using h3); subst eA; have n1_ := Aside0.mk (below_step (bel_) hb); have hcell' : w1.cell? (ad.add a0.toNat) = some (.string (preOf a0)) := hcell; clear HB hb ho hl hrd hcell; have HB := n1_; clear n1_)
  | (go_at_call 68; (first | refine (impl_six.calls a1 x _ (Gl.below HG.out (bel_)) HX.out).mono ?_ | refine (impl_six.calls a2 y _ (Gl.below HG.out (bel_)) HY.out).mono ?_); rintro e w2 ⟨rfl, hb⟩; have n1_ := Aside0.mk (below_step (bel_) hb); have n2_ := pw_cell_below hb hcell'; clear HB hb hcell'; have HB := n1_; have hcell' := n2_; clear n1_ n2_))
 all_goals go_wp2
 all_goals go_ret
 all_goals exact ⟨by rw [HH.out]; rfl, (bel_)⟩

/-! ### impl_DataKey: function 9 -/
def impl_DataKey.f (a0 : Int) (a1 : Int) (a2 : Int) : Option (ByteArray × Int) := (impl_isTier.f a0).bind fun t185 => (if t185 = true then ((impl_isSix.f a1).bind fun t186 => (if t186 = true then ((impl_isSix.f a2).bind fun t187 => (if t187 = true then ((impl_dataKey.f a0 a1 a2).bind fun t188 => (some (t188, 0))) else (some ((⟨#[]⟩ : ByteArray), 4)))) else (some ((⟨#[]⟩ : ByteArray), 4)))) else (some ((⟨#[]⟩ : ByteArray), 4)))
set_option maxHeartbeats 8000000 in
set_option maxRecDepth 100000 in
theorem impl_DataKey.calls (a0 : Int) (a1 : Int) (a2 : Int) (r1 : ByteArray) (r2 : Int) (w : World) (hG : Gl w) (h : impl_DataKey.f a0 a1 a2 = some (r1, r2)) :
  Calls Tryz.prog 9 #[.int .i64 a0, .int .i64 a1, .int .i64 a2] w fun e w' => e = .returned (.tuple #[.string r1, .int .i64 r2]) ∧ Below w.heap.size w w' := by
 have HB := Aside0.mk (Below.refl w.heap.size w)
 have HG := Aside0.mk hG
 clear hG
 have H : ((impl_isTier.f a0).bind fun t185 => (if t185 = true then ((impl_isSix.f a1).bind fun t186 => (if t186 = true then ((impl_isSix.f a2).bind fun t187 => (if t187 = true then ((impl_dataKey.f a0 a1 a2).bind fun t188 => (some (t188, 0))) else (some ((⟨#[]⟩ : ByteArray), 4)))) else (some ((⟨#[]⟩ : ByteArray), 4)))) else (some ((⟨#[]⟩ : ByteArray), 4)))) = some (r1, r2) := h
 clear h
 replace H := Option.bind_eq_some_iff.mp H
 obtain ⟨t185, A40, H⟩ := H
 replace H : (if t185 = true then ((impl_isSix.f a1).bind fun t186 => (if t186 = true then ((impl_isSix.f a2).bind fun t187 => (if t187 = true then ((impl_dataKey.f a0 a1 a2).bind fun t188 => (some (t188, 0))) else (some ((⟨#[]⟩ : ByteArray), 4)))) else (some ((⟨#[]⟩ : ByteArray), 4)))) else (some ((⟨#[]⟩ : ByteArray), 4))) = some (r1, r2) := H
 have A4 := Aside0.mk A40
 clear A40
 by_cases c5 : t185 = true
 ·subst c5
  have H1 : ((impl_isSix.f a1).bind fun t186 => (if t186 = true then ((impl_isSix.f a2).bind fun t187 => (if t187 = true then ((impl_dataKey.f a0 a1 a2).bind fun t188 => (some (t188, 0))) else (some ((⟨#[]⟩ : ByteArray), 4)))) else (some ((⟨#[]⟩ : ByteArray), 4)))) = some (r1, r2) := by rw [if_pos rfl] at H; exact H
  clear H
  have H := H1
  clear H1
  replace H := Option.bind_eq_some_iff.mp H
  obtain ⟨t186, A60, H⟩ := H
  replace H : (if t186 = true then ((impl_isSix.f a2).bind fun t187 => (if t187 = true then ((impl_dataKey.f a0 a1 a2).bind fun t188 => (some (t188, 0))) else (some ((⟨#[]⟩ : ByteArray), 4)))) else (some ((⟨#[]⟩ : ByteArray), 4))) = some (r1, r2) := H
  have A6 := Aside0.mk A60
  clear A60
  by_cases c7 : t186 = true
  ·subst c7
   have H1 : ((impl_isSix.f a2).bind fun t187 => (if t187 = true then ((impl_dataKey.f a0 a1 a2).bind fun t188 => (some (t188, 0))) else (some ((⟨#[]⟩ : ByteArray), 4)))) = some (r1, r2) := by rw [if_pos rfl] at H; exact H
   clear H
   have H := H1
   clear H1
   replace H := Option.bind_eq_some_iff.mp H
   obtain ⟨t187, A80, H⟩ := H
   replace H : (if t187 = true then ((impl_dataKey.f a0 a1 a2).bind fun t188 => (some (t188, 0))) else (some ((⟨#[]⟩ : ByteArray), 4))) = some (r1, r2) := H
   have A8 := Aside0.mk A80
   clear A80
   by_cases c9 : t187 = true
   ·subst c9
    have H1 : ((impl_dataKey.f a0 a1 a2).bind fun t188 => (some (t188, 0))) = some (r1, r2) := by rw [if_pos rfl] at H; exact H
    clear H
    have H := H1
    clear H1
    replace H := Option.bind_eq_some_iff.mp H
    obtain ⟨t188, A100, H⟩ := H
    replace H : (some (t188, 0)) = some (r1, r2) := H
    have A10 := Aside0.mk A100
    clear A100
    simp only [Option.some.injEq, Prod.mk.injEq] at H
    obtain ⟨rfl, rfl⟩ := H
    go_enter Tryz.func9, Tryz.ntmps9
    go_wp2_with (first | ((with_reducible refine gate_callee (f := 34) rfl ?_); refine goesL_ (some 9) rfl rfl Tryz.func34 (by kernel_rfl) rfl #[.int .i64 a0] rfl maps_ ?_; (with_reducible refine (impl_isTier.calls a0 true _ A4.out).mono ?_); rintro e w' ⟨rfl, ⟨nd, rfl⟩⟩; refine ⟨_, rfl, ?_⟩) | (go_at_call 35; (with_reducible refine (impl_isSix.calls a1 true _ A6.out).mono ?_); rintro e w' ⟨rfl, ⟨nd, rfl⟩⟩) | (go_at_call 35; (with_reducible refine (impl_isSix.calls a2 true _ A8.out).mono ?_); rintro e w' ⟨rfl, ⟨nd, rfl⟩⟩) | ((with_reducible refine gate_callee (f := 36) rfl ?_); refine goesL_ (some 24) rfl rfl Tryz.func36 (by kernel_rfl) rfl #[.int .i64 a0, .int .i64 a1, .int .i64 a2] rfl maps_ ?_; (with_reducible refine (impl_dataKey.calls a0 a1 a2 t188 _ ?side1 A10.out).mono ?_); (case side1 => exact Gl.below HG.out (bel_)); rintro e w11 ⟨rfl, hb⟩; refine ⟨_, rfl, ?_⟩; have n0_ := Aside0.mk (below_step (bel_) hb); clear HB; have HB := n0_; clear n0_; (try clear hb); (try clear hb2); (try clear hk); (try clear hi)))
    go_ret2
    exact ⟨by first | rfl | (simp [errW_none, errW_some] <;> rfl) | (simp [*, errW_none, errW_some] <;> rfl), bel_⟩
   ·replace c9 := Bool.eq_false_iff.mpr c9
    subst c9
    have H1 : (some ((⟨#[]⟩ : ByteArray), 4)) = some (r1, r2) := by rw [if_neg (show ¬ (false = true) by decide)] at H; exact H
    clear H
    have H := H1
    clear H1
    simp only [Option.some.injEq, Prod.mk.injEq] at H
    obtain ⟨rfl, rfl⟩ := H
    go_enter Tryz.func9, Tryz.ntmps9
    go_wp2_with (first | ((with_reducible refine gate_callee (f := 34) rfl ?_); refine goesL_ (some 9) rfl rfl Tryz.func34 (by kernel_rfl) rfl #[.int .i64 a0] rfl maps_ ?_; (with_reducible refine (impl_isTier.calls a0 true _ A4.out).mono ?_); rintro e w' ⟨rfl, ⟨nd, rfl⟩⟩; refine ⟨_, rfl, ?_⟩) | (go_at_call 35; (with_reducible refine (impl_isSix.calls a1 true _ A6.out).mono ?_); rintro e w' ⟨rfl, ⟨nd, rfl⟩⟩) | (go_at_call 35; (with_reducible refine (impl_isSix.calls a2 false _ A8.out).mono ?_); rintro e w' ⟨rfl, ⟨nd, rfl⟩⟩))
    go_ret2
    exact ⟨by first | rfl | (simp [errW_none, errW_some] <;> rfl) | (simp [*, errW_none, errW_some] <;> rfl), bel_⟩
  ·replace c7 := Bool.eq_false_iff.mpr c7
   subst c7
   have H1 : (some ((⟨#[]⟩ : ByteArray), 4)) = some (r1, r2) := by rw [if_neg (show ¬ (false = true) by decide)] at H; exact H
   clear H
   have H := H1
   clear H1
   simp only [Option.some.injEq, Prod.mk.injEq] at H
   obtain ⟨rfl, rfl⟩ := H
   go_enter Tryz.func9, Tryz.ntmps9
   go_wp2_with (first | ((with_reducible refine gate_callee (f := 34) rfl ?_); refine goesL_ (some 9) rfl rfl Tryz.func34 (by kernel_rfl) rfl #[.int .i64 a0] rfl maps_ ?_; (with_reducible refine (impl_isTier.calls a0 true _ A4.out).mono ?_); rintro e w' ⟨rfl, ⟨nd, rfl⟩⟩; refine ⟨_, rfl, ?_⟩) | (go_at_call 35; (with_reducible refine (impl_isSix.calls a1 false _ A6.out).mono ?_); rintro e w' ⟨rfl, ⟨nd, rfl⟩⟩))
   go_ret2
   exact ⟨by first | rfl | (simp [errW_none, errW_some] <;> rfl) | (simp [*, errW_none, errW_some] <;> rfl), bel_⟩
 ·replace c5 := Bool.eq_false_iff.mpr c5
  subst c5
  have H1 : (some ((⟨#[]⟩ : ByteArray), 4)) = some (r1, r2) := by rw [if_neg (show ¬ (false = true) by decide)] at H; exact H
  clear H
  have H := H1
  clear H1
  simp only [Option.some.injEq, Prod.mk.injEq] at H
  obtain ⟨rfl, rfl⟩ := H
  go_enter Tryz.func9, Tryz.ntmps9
  go_wp2_with (first | ((with_reducible refine gate_callee (f := 34) rfl ?_); refine goesL_ (some 9) rfl rfl Tryz.func34 (by kernel_rfl) rfl #[.int .i64 a0] rfl maps_ ?_; (with_reducible refine (impl_isTier.calls a0 false _ A4.out).mono ?_); rintro e w' ⟨rfl, ⟨nd, rfl⟩⟩; refine ⟨_, rfl, ?_⟩))
  go_ret2
  exact ⟨by first | rfl | (simp [errW_none, errW_some] <;> rfl) | (simp [*, errW_none, errW_some] <;> rfl), bel_⟩

/-! ### impl_isLong: function 37 (by hand) -/
def tooLong (x : ByteArray) : Bool := decide (65536 < x.size)
def IdxPost (b : Bool) (w : World) (e : Ending) (w' : World) : Prop := ∃ i : Int, decide (0 ≤ i) = b ∧ e = .returned (.int .i64 i) ∧ w' = w
theorem fitsLong (x : ByteArray) (w : World) : Calls Tryz.prog 70 #[.string x] w fun e w' => e = .returned (.bool (!tooLong x)) ∧ w' = w := by
 have h1 : tooLong x = true ∨ tooLong x = false := by cases tooLong x <;> simp
 rcases h1 with h1 | h1
 ·have h2 : decide ((x.size : Int) ≤ 65536) = false := by unfold tooLong at h1; have := of_decide_eq_true h1; exact decide_eq_false (by omega)
  have H := Aside0.mk h1
  clear h1
  go_enter Tryz.func70, Tryz.ntmps70
  go_wp2
  go_ret
  exact ⟨by rw [H.out]; rfl, rfl⟩
 ·have h2 : decide ((x.size : Int) ≤ 65536) = true := by unfold tooLong at h1; have := of_decide_eq_false h1; exact decide_eq_true (by omega)
  have H := Aside0.mk h1
  clear h1
  go_enter Tryz.func70, Tryz.ntmps70
  go_wp2
  go_ret
  exact ⟨by rw [H.out]; rfl, rfl⟩
theorem notLong (x : ByteArray) (g : Nat) (w : World) (hc : w.cell? ⟨g, 0, none⟩ = some (.func (Fn.func 70) #[] #[])) : Calls Tryz.prog 103 #[.string x, .pointer (some ⟨g, 0, none⟩)] w fun e w' => e = .returned (.bool (tooLong x)) ∧ w' = w := by
 go_enter Tryz.func103, Tryz.ntmps103
 go_wp2_with (go_at_call 70; refine (fitsLong x _).mono ?_; rintro e w1 ⟨rfl, rfl⟩)
 go_ret
 exact ⟨by simp, rfl⟩
set_option maxHeartbeats 8000000 in
set_option maxRecDepth 100000 in
theorem idxLong (A0 : Option Addr) (c0 : Nat) (l0 : List ByteArray) (g : Nat) (w0 w : World) (hm : l0.length ≤ 100000000) (hr0 : Kd.C Kd.string w A0 l0.length l0) (hc : w.cell? ⟨g, 0, none⟩ = some (.func (Fn.func 70) #[] #[])) :
  Calls Tryz.prog 116 #[.slice A0 l0.length c0, .func (Fn.func 103) #[] #[.pointer (some ⟨g, 0, none⟩)]] w (IdxPost (l0.any tooLong) w) := by
 have HR := Aside0.mk hr0
 have HC := Aside0.mk hc
 clear hr0 hc
 go_enter Tryz.func116, Tryz.ntmps116
 go_wp2
 go_loopw [8] (fun i w' => ∃ k : Nat, i = .int .i64 (k : Int) ∧ k ≤ l0.length ∧ Aside0 ((l0.take k).any tooLong = false) ∧ Aside0 (w = w')) (fun i _ => l0.length - (intOf i).toNat)
 case atStart => exact ⟨0, rfl, by omega, ⟨by simp⟩, ⟨rfl⟩⟩
 case round =>
  obtain ⟨k, rfl, hk, HN, HW⟩ := hrel
  obtain rfl := HW.out
  clear HW
  by_cases hlt : k < l0.length
  ·have hb1 : decide ((k : Int) < (l0.length : Int)) = true := decide_eq_true (by omega)
   obtain ⟨ad, e1, hx⟩ := Kd.at_string HR.out (k : Int) (by omega) (by omega)
   cases e1
   have hx1 : w.cell? (ad.add k) = some (.string l0[k]) := by
    simpa [rdOf, List.getD_eq_getElem?_getD, List.getElem?_eq_getElem hlt] using hx
   have HT := Aside0.mk (show (l0.take (k + 1)).any tooLong = ((l0.take k).any tooLong || tooLong l0[k]) by rw [List.take_succ_eq_append_getElem hlt, List.any_append, List.any_cons, List.any_nil, Bool.or_false])
   have HA := Aside0.mk (show tooLong l0[k] = true → l0.any tooLong = true from fun h => List.any_eq_true.2 ⟨_, List.getElem_mem hlt, h⟩)
   clear hx
   generalize l0[k] = x at hx1 HT HA
   cases hb : tooLong x
   ·have HX := Aside0.mk hb
    clear hb
    go_wp2_with (go_at_call 103; refine (notLong x g _ HC.out).mono ?_; rw [HX.out]; rintro e w1 ⟨rfl, rfl⟩)
    exact ⟨⟨k + 1, by go_num, by omega, ⟨by rw [HT.out, HN.out, HX.out]; rfl⟩, ⟨by first | rfl | trivial⟩⟩, by simp [intOf]; omega⟩
   ·have HX := Aside0.mk hb
    clear hb
    go_wp2_with (go_at_call 103; refine (notLong x g _ HC.out).mono ?_; rw [HX.out]; rintro e w1 ⟨rfl, rfl⟩)
    go_ret
    exact ⟨(k : Int), by rw [HA.out HX.out]; exact decide_eq_true (by omega), rfl, rfl⟩
  ·have hb1 : decide ((k : Int) < (l0.length : Int)) = false := decide_eq_false (by omega)
   go_wp2
   go_ret
   exact ⟨-1, by have := HN.out; rw [List.take_of_length_le (by omega)] at this; rw [this]; rfl, rfl, rfl⟩
theorem hasLong (A0 : Option Addr) (c0 : Nat) (l0 : List ByteArray) (g : Nat) (w : World) (hm : l0.length ≤ 100000000) (hr0 : Kd.C Kd.string w A0 l0.length l0) (hc : w.cell? ⟨g, 0, none⟩ = some (.func (Fn.func 70) #[] #[])) :
  Calls Tryz.prog 102 #[.slice A0 l0.length c0, .func (Fn.func 103) #[] #[.pointer (some ⟨g, 0, none⟩)]] w fun e w' => e = .returned (.bool (l0.any tooLong)) ∧ w' = w := by
 have HR := Aside0.mk hr0
 have HC := Aside0.mk hc
 clear hr0 hc
 go_enter Tryz.func102, Tryz.ntmps102
 go_wp2_with (go_at_call 116; refine (idxLong A0 c0 l0 g w _ hm HR.out HC.out).mono ?_; rintro e w1 ⟨i, hi, rfl, rfl⟩; have HI := Aside0.mk hi; clear hi)
 go_ret
 exact ⟨by rw [← HI.out]; rfl, rfl⟩
def impl_isLong.f (l0 : List ByteArray) : Option Bool := if l0.length ≤ 100000000 then some (l0.any tooLong) else none
set_option maxHeartbeats 8000000 in
set_option maxRecDepth 100000 in
theorem impl_isLong.calls (A0 : Option Addr) (c0 : Nat) (l0 : List ByteArray) (r : Bool) (w : World) (hr0 : Kd.C Kd.string w A0 l0.length l0) (hc0 : l0.length ≤ c0) (h : impl_isLong.f l0 = some r) :
  Calls Tryz.prog 37 #[.slice A0 l0.length c0] w fun e w' => e = .returned (.bool r) ∧ Below w.heap.size w w' := by
 unfold impl_isLong.f at h
 split at h
 case isFalse => cases h
 rename_i hm
 obtain rfl := Option.some.inj h
 have HR := Aside0.mk hr0
 clear hr0 h
 go_enter Tryz.func37, Tryz.ntmps37
 go_wp2_with fail
 go_enter Tryz.func69, Tryz.ntmps69
 go_wp2_with (go_at_call 102; refine (hasLong A0 c0 l0 w.heap.size _ hm (Kd.C_below HR.out (below_alloc (Below.refl _ _) _)) ?hcell).mono ?_; (case hcell => simp); rintro e w1 ⟨rfl, rfl⟩)
 go_ret
 exact ⟨by first | rfl | simp, below_alloc (Below.refl _ _) _⟩

/-! ### impl_isRange: function 39 -/
def impl_isRange.f (a0 : Int) (a1 : Int) : Option (Bool) := if 0 ≤ a0 then (if a0 ≤ a1 then (some (decide (a1 ≤ 100000))) else (some false)) else (some false)
set_option maxHeartbeats 8000000 in
set_option maxRecDepth 100000 in
theorem impl_isRange.calls (a0 : Int) (a1 : Int) (r : Bool) (w : World) (h : impl_isRange.f a0 a1 = some r) :
  Calls Tryz.prog 39 #[.int .i64 a0, .int .i64 a1] w fun e w' => e = .returned (.bool r) ∧ Drawn0 w w' := by
 have H : (if 0 ≤ a0 then (if a0 ≤ a1 then (some (decide (a1 ≤ 100000))) else (some false)) else (some false)) = some r := h
 clear h
 by_cases c3 : 0 ≤ a0
 ·rw [if_pos c3] at H
  have c3b0 : decide (0 ≤ a0) = true := decide_eq_true c3
  clear c3
  by_cases c4 : a0 ≤ a1
  ·rw [if_pos c4] at H
   have c4b0 : decide (a0 ≤ a1) = true := decide_eq_true c4
   clear c4
   obtain rfl := Option.some.inj H
   go_enter Tryz.func39, Tryz.ntmps39
   go_wp2
   go_ret
   exact ⟨by first | rfl | (simp; done) | (simp [*]; done), by repeat (first | exact Drawn0.refl _ | apply Drawn0.step)⟩
  ·rw [if_neg c4] at H
   have c4b0 : decide (a0 ≤ a1) = false := decide_eq_false c4
   clear c4
   obtain rfl := Option.some.inj H
   go_enter Tryz.func39, Tryz.ntmps39
   go_wp2
   go_ret
   exact ⟨by first | rfl | (simp; done) | (simp [*]; done), by repeat (first | exact Drawn0.refl _ | apply Drawn0.step)⟩
 ·rw [if_neg c3] at H
  have c3b0 : decide (0 ≤ a0) = false := decide_eq_false c3
  clear c3
  obtain rfl := Option.some.inj H
  go_enter Tryz.func39, Tryz.ntmps39
  go_wp2
  go_ret
  exact ⟨by first | rfl | (simp; done) | (simp [*]; done), by repeat (first | exact Drawn0.refl _ | apply Drawn0.step)⟩

/-! ### strings_CutPrefix: function 98 (by hand) -/
def strings_CutPrefix.f (s p : ByteArray) : Option (ByteArray × Bool) := some (⟨(Lib.trimPrefix s.data.toList p.data.toList).toArray⟩, Lib.hasPrefix s.data.toList p.data.toList)
theorem strings_CutPrefix.calls (a0 a1 : ByteArray) (r1 : ByteArray) (r2 : Bool) (w : World) (h : strings_CutPrefix.f a0 a1 = some (r1, r2)) :
  Calls Tryz.prog 98 #[.string a0, .string a1] w fun e w' => e = .returned (.tuple #[.string r1, .bool r2]) ∧ Drawn0 w w' := by
 unfold strings_CutPrefix.f at h
 simp only [Option.some.injEq, Prod.mk.injEq] at h
 obtain ⟨rfl, rfl⟩ := h
 refine (Tryz.strings_CutPrefix a0 a1 w).mono ?_
 rintro e w' ⟨rfl, rfl⟩
 exact ⟨rfl, Drawn0.refl _⟩

/-! ### impl_readSix: function 99 (by hand) -/
def sixV (t : ByteArray) : Option (Int × Bool) :=
 match Lib.atoiAll t.data.toList with
 | .ok v => if 0 ≤ v ∧ v ≤ 999999 then (impl_six.f v).bind fun z => some (v, decide (z.toList = t.toList)) else some (v, false)
 | .range => some (Lib.atoiSat t.data.toList, false)
 | _ => some (0, false)
def impl_readSix.f (a0 : ByteArray) : Option (Int × Bool) := if a0.size ≤ 1000000000 then sixV a0 else none
theorem isSix_eq (v : Int) : impl_isSix.f v = some (decide (0 ≤ v ∧ v ≤ 999999)) := by
 unfold impl_isSix.f impl_within.f
 by_cases h1 : 0 ≤ v <;> by_cases h2 : v ≤ 999999 <;> simp [h1, h2]
set_option maxHeartbeats 8000000 in
set_option maxRecDepth 100000 in
theorem impl_readSix.calls (a0 : ByteArray) (r1 : Int) (r2 : Bool) (w : World) (hG : Gl w) (h : impl_readSix.f a0 = some (r1, r2)) :
  Calls Tryz.prog 99 #[.string a0] w fun e w' => e = .returned (.tuple #[.int .i64 r1, .bool r2]) ∧ Below w.heap.size w w' := by
 unfold impl_readSix.f at h
 split at h
 case isFalse => cases h
 rename_i hs
 unfold sixV at h
 have HG := Aside0.mk hG
 obtain ⟨g1, ⟨te, pe, g2⟩, ⟨tf, pf, g3⟩, g4⟩ := hG
 clear g1 g4
 cases ha : Lib.atoiAll a0.data.toList with
 | ok v =>
  rw [ha] at h
  dsimp only at h
  have HA := Aside0.mk ha
  have hW := isSix_eq v
  clear g2 g3 ha
  by_cases h6 : 0 ≤ v ∧ v ≤ 999999
  ·rw [if_pos h6] at h
   rw [decide_eq_true h6] at hW
   have HW := Aside0.mk hW
   clear h6 hW
   obtain ⟨z, hz, h⟩ := Option.bind_eq_some_iff.1 h
   simp only [Option.some.injEq, Prod.mk.injEq] at h
   obtain ⟨rfl, hr⟩ := h
   have HI := Aside0.mk hz
   have HH := Aside0.mk hr
   clear hz hr
   rcases Classical.em (z.toList = a0.toList) with he | he
   ·have he1 : (z.toList == a0.toList) = true := beq_iff_eq.2 he
    have HE := Aside0.mk he
    clear he
    go_enter Tryz.func99, Tryz.ntmps99
    go_wp2_with (first
     | (go_at_call 110; refine (Tryz.strconv_Atoi_ok a0 (by omega) v HA.out _).mono ?_; rintro e w1 ⟨rfl, hw⟩; have HB := Aside0.mk (show Below w.heap.size w w1 by rcases hw with rfl | ⟨t, rfl⟩; exact Below.refl _ _; exact bytes_below (Below.refl _ _) (Nat.le_refl _) _ _); clear hw)
     | (go_at_call 35; refine (impl_isSix.calls v _ _ HW.out).mono ?_; rintro e w3 ⟨rfl, ⟨nd, rfl⟩⟩)
     | (go_at_call 68; refine (impl_six.calls v z _ (Gl.below HG.out (pw_below_drewN HB.out _)) HI.out).mono ?_; rintro e w4 ⟨rfl, hb⟩; have n1_ := Aside0.mk (below_step (pw_below_drewN HB.out _) hb); clear HB hb; have HB := n1_; clear n1_))
    go_ret2
    exact ⟨by rw [← HH.out, decide_eq_true HE.out]; rfl, HB.out⟩
   ·have he1 : (z.toList == a0.toList) = false := beq_eq_false_iff_ne.2 he
    have HE := Aside0.mk he
    clear he
    go_enter Tryz.func99, Tryz.ntmps99
    go_wp2_with (first
     | (go_at_call 110; refine (Tryz.strconv_Atoi_ok a0 (by omega) v HA.out _).mono ?_; rintro e w1 ⟨rfl, hw⟩; have HB := Aside0.mk (show Below w.heap.size w w1 by rcases hw with rfl | ⟨t, rfl⟩; exact Below.refl _ _; exact bytes_below (Below.refl _ _) (Nat.le_refl _) _ _); clear hw)
     | (go_at_call 35; refine (impl_isSix.calls v _ _ HW.out).mono ?_; rintro e w3 ⟨rfl, ⟨nd, rfl⟩⟩)
     | (go_at_call 68; refine (impl_six.calls v z _ (Gl.below HG.out (pw_below_drewN HB.out _)) HI.out).mono ?_; rintro e w4 ⟨rfl, hb⟩; have n1_ := Aside0.mk (below_step (pw_below_drewN HB.out _) hb); clear HB hb; have HB := n1_; clear n1_))
    go_ret2
    exact ⟨by rw [← HH.out, decide_eq_false HE.out]; rfl, HB.out⟩
  ·rw [if_neg h6] at h
   rw [decide_eq_false h6] at hW
   have HW := Aside0.mk hW
   clear h6 hW
   simp only [Option.some.injEq, Prod.mk.injEq] at h
   obtain ⟨rfl, rfl⟩ := h
   go_enter Tryz.func99, Tryz.ntmps99
   go_wp2_with (first
    | (go_at_call 110; refine (Tryz.strconv_Atoi_ok a0 (by omega) v HA.out _).mono ?_; rintro e w1 ⟨rfl, hw⟩; have HB := Aside0.mk (show Below w.heap.size w w1 by rcases hw with rfl | ⟨t, rfl⟩; exact Below.refl _ _; exact bytes_below (Below.refl _ _) (Nat.le_refl _) _ _); clear hw)
    | (go_at_call 35; refine (impl_isSix.calls v _ _ HW.out).mono ?_; rintro e w3 ⟨rfl, ⟨nd, rfl⟩⟩))
   go_ret2
   exact ⟨rfl, pw_below_drewN HB.out _⟩
 | range =>
  rw [ha] at h
  simp only [Option.some.injEq, Prod.mk.injEq] at h
  obtain ⟨rfl, rfl⟩ := h
  have HA := Aside0.mk ha
  have HV := Aside0.mk g3
  clear g2 g3 ha
  go_enter Tryz.func99, Tryz.ntmps99
  go_wp2_with (go_at_call 110; refine (Tryz.strconv_Atoi_range a0 (by omega) HA.out _ _ HV.out (.inr ⟨_, _, rfl⟩)).mono ?_; rintro e w1 ⟨N, rfl, hN, hblk, hb⟩; have HB := Aside0.mk hb; clear hb hblk hN)
  go_ret2
  exact ⟨rfl, HB.out⟩
 | _ =>
  rw [ha] at h
  simp only [Option.some.injEq, Prod.mk.injEq] at h
  obtain ⟨rfl, rfl⟩ := h
  have HA := Aside0.mk ha
  have HV := Aside0.mk g2
  clear g2 g3 ha
  go_enter Tryz.func99, Tryz.ntmps99
  go_wp2_with (go_at_call 110; refine (Tryz.strconv_Atoi_syntax a0 (by omega) HA.out _ _ HV.out (.inr ⟨_, _, rfl⟩)).mono ?_; rintro e w1 ⟨N, rfl, hN, hblk, hb⟩; have HB := Aside0.mk hb; clear hb hblk hN)
  go_ret2
  exact ⟨rfl, HB.out⟩

end Go.Proofs.YtmhbkgbgajpahaaGreatDoor.PFnWindow
