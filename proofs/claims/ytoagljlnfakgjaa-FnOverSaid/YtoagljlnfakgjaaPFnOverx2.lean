/- (thin) Written by a program of this session (wip/ovl.py) over the kit's print: plain functions with the answers of the Go functions, and the proofs that they are; no condition. -/
import Derived.Test.YtoagljlnfakgjaaBase
import Derived.Test.YtoagljlnfakgjaaPFnOverx0
namespace Go.Proofs.Ytoagljlnfakgjaa.PFnOver
open Go.RowKit Go.Proofs.YtoagljlnfakgjaaW.PrintWords Go.Proofs.YtoagljlnfakgjaaW.PrintLast Go.Proofs.YtoagljlnfakgjaaW.PrintMore
attribute [local go_sem] max2_int min2_int max_two min_two max_three min_three max_four min_four   -- for this text's walks alone
set_option linter.unusedVariables false
set_option linter.unusedSimpArgs false
def impl_sizes.l0 : Nat → Int → Int → List (S60) → Int → Int → Option (Int × Int)
 | 0, _, _, _, _, _ => none
 | k + 1, x4, x5, x8, x9, x10 => if x10 < x9 then (if 0 ≤ x10 then (if x10 < (x8.length : Int) then (impl_sizes.l0 k (wrap64 (x4 + (wrap64 (((rd_T60 x8 x10).f0) + (((rd_T60 x8 x10).f2).size : Int))))) (wrap64 (x5 + (wrap64 (((rd_T60 x8 x10).f0) + (((rd_T60 x8 x10).f1).size : Int))))) x8 x9 (wrap64 (x10 + 1))) else (none)) else (none)) else (some (x4, x5))
def impl_sizes.f (k : Nat) (l0 : List (S60)) : Option (Int × Int) := impl_sizes.l0 k 0 0 l0 (l0.length : Int) 0
theorem impl_sizes.mono_l : ∀ k, (∀ y0 y1 y2 y3 y4, LeO (impl_sizes.l0 k y0 y1 y2 y3 y4) (impl_sizes.l0 (k + 1) y0 y1 y2 y3 y4))
 | 0 => fun _ _ _ _ _ r h => by simp [impl_sizes.l0] at h
 | k + 1 => by
  have ih0 := impl_sizes.mono_l k
  ·intro y0 y1 y2 y3 y4
   unfold impl_sizes.l0
   repeat' (with_reducible first | exact ih0 _ _ _ _ _ | exact LeO.refl _ | exact LeO.none _ | refine LeO.ite ?_ ?_ | refine LeO.bind ?_ (fun _ => ?_))
theorem impl_sizes.mono : ∀ a0 k, LeO (impl_sizes.f k a0) (impl_sizes.f (k + 1) a0) := by
 intro a0 k
 have ih0 := impl_sizes.mono_l k
 unfold impl_sizes.f
 repeat' (with_reducible first | exact ih0 _ _ _ _ _ | exact LeO.refl _ | exact LeO.none _ | refine LeO.ite ?_ ?_ | refine LeO.bind ?_ (fun _ => ?_))
set_option maxHeartbeats 8000000 in
set_option maxRecDepth 100000 in
theorem impl_sizes.calls (k : Nat) (A0 : Option Addr) (c0 : Nat) (l0 : List (S60)) (r1 : Int) (r2 : Int) (w : World) (hr0 : Kd.C k60 w A0 l0.length l0) (hc0 : l0.length ≤ c0) (h : impl_sizes.f k l0 = some (r1, r2)) :
  Calls Try.prog 56 #[.slice A0 l0.length c0] w fun e w' => e = .returned (.tuple #[.int .i64 r1, .int .i64 r2]) ∧ Below w.heap.size w w' := by
 have hu60 := Try.underlying60
 have HR0 := aM hr0
 have HC0 := aM hc0
 clear hr0 hc0
 have HB := aM (Below.refl w.heap.size w)
 have H : (impl_sizes.l0 k 0 0 l0 (l0.length : Int) 0) = some (r1, r2) := h
 clear h
 have H' := aM H
 clear H
 go_enter Try.func56, Try.ntmps56
 go_wp2
 go_loopg [4, 5, 10] k (fun kq v4 v5 v10 w' => ∃ (x4_1 : Int) (x5_1 : Int) (x10_1 : Int), v4 = .int .i64 x4_1 ∧ v5 = .int .i64 x5_1 ∧ v10 = .int .i64 x10_1 ∧ Aside0 (impl_sizes.l0 kq x4_1 x5_1 l0 (l0.length : Int) x10_1 = some (r1, r2)) ∧ Aside0 (kq ≤ k) ∧ Aside0 (Below w.heap.size w w'))
 case atStart => exact ⟨(0), (0), (0), aP16, aP16, aP16, H', ⟨Nat.le_refl _⟩, ⟨bB⟩⟩
 case round =>
  clear H'
  obtain ⟨x4_1, x5_1, x10_1, rfl, rfl, rfl, HA, HK1, HB⟩ := hrel
  cases gk with
  | zero => exact absurd HA.out (by simp [impl_sizes.l0])
  | succ k1 =>
   have H := HA.out
   clear HA
   simp only [impl_sizes.l0] at H
   by_cases c2 : x10_1 < (l0.length : Int)
   rotate_left
   ·rw [if_neg c2] at H
    have c2b0 : decide (x10_1 < (l0.length : Int)) = false := decide_eq_false c2
    clear c2
    simp only [Option.some.injEq, Prod.mk.injEq] at H
    obtain ⟨rfl, rfl⟩ := H
    go_wp2
    go_ret2
    exact ⟨by first | rfl | (simp [errW_none, errW_some] <;> rfl) | (simp; exact Go.Proofs.Ytoagljlnfakgjaa.Base.isE _) | (simp [*, errW_none, errW_some] <;> rfl), bB⟩
   rw [if_pos c2] at H
   have c2b0 : decide (x10_1 < (l0.length : Int)) = true := decide_eq_true c2
   clear c2
   by_cases c3 : 0 ≤ x10_1
   rotate_left
   ·rw [if_neg c3] at H
    exact absurd H (by simp)
   rw [if_pos c3] at H
   have c3b0 : decide (0 ≤ x10_1) = true := decide_eq_true c3
   clear c3
   by_cases c4 : x10_1 < (l0.length : Int)
   rotate_left
   ·rw [if_neg c4] at H
    exact absurd H (by simp)
   rw [if_pos c4] at H
   have c4b0 : decide (x10_1 < (l0.length : Int)) = true := decide_eq_true c4
   clear c4
   have H' := aM H
   clear H
   have p101 : 0 ≤ (x10_1 : Int) := of_decide_eq_true (by assumption)
   have q101 : x10_1 < (l0.length : Int) := of_decide_eq_true (by assumption)
   obtain ⟨ad101, e101, hx101_0, hx101_1, hx101_2⟩ := at_T60 HR0.out x10_1 p101 q101
   cases e101
   replace hx101_0 := hC HB.out hx101_0
   replace hx101_1 := hC HB.out hx101_1
   replace hx101_2 := hC HB.out hx101_2
   replace p101 := eq_true p101
   replace q101 := eq_true q101
   go_wp2_with (first | ((with_reducible refine gate_dst (N := 7) rfl ?_); refine box_event ?hg (N := 7) ?hd (cs := #[.int .i64 0, .string (⟨#[]⟩ : ByteArray), .string (⟨#[]⟩ : ByteArray)]) (t := 60) ?hr ?_; (case hd => rfl); (case hg => rfl); (case hr => exact aP21); intro gb102 hg w5 hbox hb; have BK102 := aM (hbox); have GW102 := aM (bG (w := w) hg); have GE102 := aM (bG (w := w) hg); replace HB := aM (below_step bB hb); clear hb hbox hg; obtain ⟨hcz6_0, hcz6_1, hcz6_2, hfz6_0, hfz6_1, hfz6_2⟩ := bx3 BK102.out))
   go_roundg k1
   case measure => have := HK1.out; omega
   case rel => exact ⟨(wrap64 (x4_1 + (wrap64 (((rd_T60 l0 x10_1).f0) + (((rd_T60 l0 x10_1).f2).size : Int))))), (wrap64 (x5_1 + (wrap64 (((rd_T60 l0 x10_1).f0) + (((rd_T60 l0 x10_1).f1).size : Int))))), (wrap64 (x10_1 + 1)), aP16, aP16, aP16, H', ⟨by have := HK1.out; omega⟩, ⟨by repeat (first | (with_reducible first | exact HB.out | apply below_alloc | apply pw_below_drewN | apply below_drew1 | refine below_set ?_ GE102.out) | exact HB.out)⟩⟩
def impl_isName.f (a0 : Int) : Option (Bool) := if a0 ≥ 65 then (some (decide (a0 ≤ 70))) else (some false)
set_option maxHeartbeats 8000000 in
set_option maxRecDepth 100000 in
theorem impl_isName.calls (a0 : Int) (r : Bool) (w : World) (h : impl_isName.f a0 = some r) :
  Calls Try.prog 76 #[.int .u8 a0] w fun e w' => e = .returned (.bool r) ∧ Drawn0 w w' := by
 have H : (if a0 ≥ 65 then (some (decide (a0 ≤ 70))) else (some false)) = some r := h
 clear h
 by_cases c2 : a0 ≥ 65
 ·rw [if_pos c2] at H
  have c2b0 : decide (65 ≤ a0) = true := decide_eq_true c2
  clear c2
  obtain rfl := Option.some.inj H
  go_enter Try.func76, Try.ntmps76
  go_wp2
  go_ret
  exact ⟨by first | rfl | (simp; done) | (simp [*]; done), by repeat (first | exact Drawn0.refl _ | apply Drawn0.step)⟩
 rw [if_neg c2] at H
 have c2b0 : decide (65 ≤ a0) = false := decide_eq_false c2
 clear c2
 obtain rfl := Option.some.inj H
 go_enter Try.func76, Try.ntmps76
 go_wp2
 go_ret
 exact ⟨by first | rfl | (simp; done) | (simp [*]; done), by repeat (first | exact Drawn0.refl _ | apply Drawn0.step)⟩
def impl_isPlain.f (a0 : Int) : Option (Bool) := if a0 ≥ 97 then (if a0 ≤ 122 then (some true) else (if a0 ≥ 48 then (if a0 ≤ 57 then (some true) else (if a0 = 32 then (some true) else (if a0 = 46 then (some true) else (some (a0 == 44))))) else (if a0 = 32 then (some true) else (if a0 = 46 then (some true) else (some (a0 == 44)))))) else (if a0 ≥ 48 then (if a0 ≤ 57 then (some true) else (if a0 = 32 then (some true) else (if a0 = 46 then (some true) else (some (a0 == 44))))) else (if a0 = 32 then (some true) else (if a0 = 46 then (some true) else (some (a0 == 44)))))
set_option maxHeartbeats 8000000 in
set_option maxRecDepth 100000 in
theorem impl_isPlain.calls (a0 : Int) (r : Bool) (w : World) (h : impl_isPlain.f a0 = some r) :
  Calls Try.prog 77 #[.int .u8 a0] w fun e w' => e = .returned (.bool r) ∧ Drawn0 w w' := by
 have H : (if a0 ≥ 97 then (if a0 ≤ 122 then (some true) else (if a0 ≥ 48 then (if a0 ≤ 57 then (some true) else (if a0 = 32 then (some true) else (if a0 = 46 then (some true) else (some (a0 == 44))))) else (if a0 = 32 then (some true) else (if a0 = 46 then (some true) else (some (a0 == 44)))))) else (if a0 ≥ 48 then (if a0 ≤ 57 then (some true) else (if a0 = 32 then (some true) else (if a0 = 46 then (some true) else (some (a0 == 44))))) else (if a0 = 32 then (some true) else (if a0 = 46 then (some true) else (some (a0 == 44)))))) = some r := h
 clear h
 by_cases c2 : a0 ≥ 97
 rotate_left
 ·rw [if_neg c2] at H
  have c2b0 : decide (97 ≤ a0) = false := decide_eq_false c2
  clear c2
  by_cases c10 : a0 ≥ 48
  rotate_left
  ·rw [if_neg c10] at H
   have c10b0 : decide (48 ≤ a0) = false := decide_eq_false c10
   clear c10
   by_cases c14 : a0 = 32
   ·rw [if_pos c14] at H
    have c14b0 : (a0 == 32) = true := beq_iff_eq.mpr c14
    have c14b1 : (a0 != 32) = false := bne_eq_false_iff_eq.mpr c14
    clear c14
    obtain rfl := Option.some.inj H
    go_enter Try.func77, Try.ntmps77
    go_wp2
    go_ret
    exact ⟨by first | rfl | (simp; done) | (simp [*]; done), by repeat (first | exact Drawn0.refl _ | apply Drawn0.step)⟩
   rw [if_neg c14] at H
   have c14b0 : (a0 == 32) = false := beq_eq_false_iff_ne.mpr c14
   have c14b1 : (a0 != 32) = true := bne_iff_ne.mpr c14
   by_cases c15 : a0 = 46
   rotate_left
   ·rw [if_neg c15] at H
    have c15b0 : (a0 == 46) = false := beq_eq_false_iff_ne.mpr c15
    have c15b1 : (a0 != 46) = true := bne_iff_ne.mpr c15
    obtain rfl := Option.some.inj H
    go_enter Try.func77, Try.ntmps77
    go_wp2
    go_ret
    exact ⟨by first | rfl | (simp; done) | (simp [*]; done), by repeat (first | exact Drawn0.refl _ | apply Drawn0.step)⟩
   rw [if_pos c15] at H
   have c15b0 : (a0 == 46) = true := beq_iff_eq.mpr c15
   have c15b1 : (a0 != 46) = false := bne_eq_false_iff_eq.mpr c15
   clear c15
   obtain rfl := Option.some.inj H
   go_enter Try.func77, Try.ntmps77
   go_wp2
   go_ret
   exact ⟨by first | rfl | (simp; done) | (simp [*]; done), by repeat (first | exact Drawn0.refl _ | apply Drawn0.step)⟩
  rw [if_pos c10] at H
  have c10b0 : decide (48 ≤ a0) = true := decide_eq_true c10
  clear c10
  by_cases c11 : a0 ≤ 57
  ·rw [if_pos c11] at H
   have c11b0 : decide (a0 ≤ 57) = true := decide_eq_true c11
   clear c11
   obtain rfl := Option.some.inj H
   go_enter Try.func77, Try.ntmps77
   go_wp2
   go_ret
   exact ⟨by first | rfl | (simp; done) | (simp [*]; done), by repeat (first | exact Drawn0.refl _ | apply Drawn0.step)⟩
  rw [if_neg c11] at H
  have c11b0 : decide (a0 ≤ 57) = false := decide_eq_false c11
  clear c11
  by_cases c12 : a0 = 32
  ·rw [if_pos c12] at H
   have c12b0 : (a0 == 32) = true := beq_iff_eq.mpr c12
   have c12b1 : (a0 != 32) = false := bne_eq_false_iff_eq.mpr c12
   clear c12
   obtain rfl := Option.some.inj H
   go_enter Try.func77, Try.ntmps77
   go_wp2
   go_ret
   exact ⟨by first | rfl | (simp; done) | (simp [*]; done), by repeat (first | exact Drawn0.refl _ | apply Drawn0.step)⟩
  rw [if_neg c12] at H
  have c12b0 : (a0 == 32) = false := beq_eq_false_iff_ne.mpr c12
  have c12b1 : (a0 != 32) = true := bne_iff_ne.mpr c12
  by_cases c13 : a0 = 46
  rotate_left
  ·rw [if_neg c13] at H
   have c13b0 : (a0 == 46) = false := beq_eq_false_iff_ne.mpr c13
   have c13b1 : (a0 != 46) = true := bne_iff_ne.mpr c13
   obtain rfl := Option.some.inj H
   go_enter Try.func77, Try.ntmps77
   go_wp2
   go_ret
   exact ⟨by first | rfl | (simp; done) | (simp [*]; done), by repeat (first | exact Drawn0.refl _ | apply Drawn0.step)⟩
  rw [if_pos c13] at H
  have c13b0 : (a0 == 46) = true := beq_iff_eq.mpr c13
  have c13b1 : (a0 != 46) = false := bne_eq_false_iff_eq.mpr c13
  clear c13
  obtain rfl := Option.some.inj H
  go_enter Try.func77, Try.ntmps77
  go_wp2
  go_ret
  exact ⟨by first | rfl | (simp; done) | (simp [*]; done), by repeat (first | exact Drawn0.refl _ | apply Drawn0.step)⟩
 rw [if_pos c2] at H
 have c2b0 : decide (97 ≤ a0) = true := decide_eq_true c2
 clear c2
 by_cases c3 : a0 ≤ 122
 ·rw [if_pos c3] at H
  have c3b0 : decide (a0 ≤ 122) = true := decide_eq_true c3
  clear c3
  obtain rfl := Option.some.inj H
  go_enter Try.func77, Try.ntmps77
  go_wp2
  go_ret
  exact ⟨by first | rfl | (simp; done) | (simp [*]; done), by repeat (first | exact Drawn0.refl _ | apply Drawn0.step)⟩
 rw [if_neg c3] at H
 have c3b0 : decide (a0 ≤ 122) = false := decide_eq_false c3
 clear c3
 by_cases c4 : a0 ≥ 48
 rotate_left
 ·rw [if_neg c4] at H
  have c4b0 : decide (48 ≤ a0) = false := decide_eq_false c4
  clear c4
  by_cases c8 : a0 = 32
  ·rw [if_pos c8] at H
   have c8b0 : (a0 == 32) = true := beq_iff_eq.mpr c8
   have c8b1 : (a0 != 32) = false := bne_eq_false_iff_eq.mpr c8
   clear c8
   obtain rfl := Option.some.inj H
   go_enter Try.func77, Try.ntmps77
   go_wp2
   go_ret
   exact ⟨by first | rfl | (simp; done) | (simp [*]; done), by repeat (first | exact Drawn0.refl _ | apply Drawn0.step)⟩
  rw [if_neg c8] at H
  have c8b0 : (a0 == 32) = false := beq_eq_false_iff_ne.mpr c8
  have c8b1 : (a0 != 32) = true := bne_iff_ne.mpr c8
  by_cases c9 : a0 = 46
  rotate_left
  ·rw [if_neg c9] at H
   have c9b0 : (a0 == 46) = false := beq_eq_false_iff_ne.mpr c9
   have c9b1 : (a0 != 46) = true := bne_iff_ne.mpr c9
   obtain rfl := Option.some.inj H
   go_enter Try.func77, Try.ntmps77
   go_wp2
   go_ret
   exact ⟨by first | rfl | (simp; done) | (simp [*]; done), by repeat (first | exact Drawn0.refl _ | apply Drawn0.step)⟩
  rw [if_pos c9] at H
  have c9b0 : (a0 == 46) = true := beq_iff_eq.mpr c9
  have c9b1 : (a0 != 46) = false := bne_eq_false_iff_eq.mpr c9
  clear c9
  obtain rfl := Option.some.inj H
  go_enter Try.func77, Try.ntmps77
  go_wp2
  go_ret
  exact ⟨by first | rfl | (simp; done) | (simp [*]; done), by repeat (first | exact Drawn0.refl _ | apply Drawn0.step)⟩
 rw [if_pos c4] at H
 have c4b0 : decide (48 ≤ a0) = true := decide_eq_true c4
 clear c4
 by_cases c5 : a0 ≤ 57
 ·rw [if_pos c5] at H
  have c5b0 : decide (a0 ≤ 57) = true := decide_eq_true c5
  clear c5
  obtain rfl := Option.some.inj H
  go_enter Try.func77, Try.ntmps77
  go_wp2
  go_ret
  exact ⟨by first | rfl | (simp; done) | (simp [*]; done), by repeat (first | exact Drawn0.refl _ | apply Drawn0.step)⟩
 rw [if_neg c5] at H
 have c5b0 : decide (a0 ≤ 57) = false := decide_eq_false c5
 clear c5
 by_cases c6 : a0 = 32
 ·rw [if_pos c6] at H
  have c6b0 : (a0 == 32) = true := beq_iff_eq.mpr c6
  have c6b1 : (a0 != 32) = false := bne_eq_false_iff_eq.mpr c6
  clear c6
  obtain rfl := Option.some.inj H
  go_enter Try.func77, Try.ntmps77
  go_wp2
  go_ret
  exact ⟨by first | rfl | (simp; done) | (simp [*]; done), by repeat (first | exact Drawn0.refl _ | apply Drawn0.step)⟩
 rw [if_neg c6] at H
 have c6b0 : (a0 == 32) = false := beq_eq_false_iff_ne.mpr c6
 have c6b1 : (a0 != 32) = true := bne_iff_ne.mpr c6
 by_cases c7 : a0 = 46
 rotate_left
 ·rw [if_neg c7] at H
  have c7b0 : (a0 == 46) = false := beq_eq_false_iff_ne.mpr c7
  have c7b1 : (a0 != 46) = true := bne_iff_ne.mpr c7
  obtain rfl := Option.some.inj H
  go_enter Try.func77, Try.ntmps77
  go_wp2
  go_ret
  exact ⟨by first | rfl | (simp; done) | (simp [*]; done), by repeat (first | exact Drawn0.refl _ | apply Drawn0.step)⟩
 rw [if_pos c7] at H
 have c7b0 : (a0 == 46) = true := beq_iff_eq.mpr c7
 have c7b1 : (a0 != 46) = false := bne_eq_false_iff_eq.mpr c7
 clear c7
 obtain rfl := Option.some.inj H
 go_enter Try.func77, Try.ntmps77
 go_wp2
 go_ret
 exact ⟨by first | rfl | (simp; done) | (simp [*]; done), by repeat (first | exact Drawn0.refl _ | apply Drawn0.step)⟩
def impl_GoodText.l0 : Nat → ByteArray → Int → Int → Option (Bool)
 | 0, _, _, _ => none
 | k + 1, x0, x5, x6 => if x6 < x5 then (if 0 ≤ x6 then (if x6 < (x0.size : Int) then ((impl_isName.f (bt x0 x6)).bind fun t103 => (if t103 = true then (impl_GoodText.l0 k x0 x5 (wrap64 (x6 + 1))) else ((impl_isPlain.f (bt x0 x6)).bind fun t104 => (if t104 = true then (impl_GoodText.l0 k x0 x5 (wrap64 (x6 + 1))) else (if (bt x0 x6) = 47 then (impl_GoodText.l0 k x0 x5 (wrap64 (x6 + 1))) else (some false)))))) else (none)) else (none)) else (some (decide ((x0.size : Int) ≤ 300)))
def impl_GoodText.f (k : Nat) (a0 : ByteArray) : Option (Bool) := impl_GoodText.l0 k a0 (a0.size : Int) 0
theorem impl_GoodText.mono_l : ∀ k, (∀ y0 y1 y2, LeO (impl_GoodText.l0 k y0 y1 y2) (impl_GoodText.l0 (k + 1) y0 y1 y2))
 | 0 => fun _ _ _ r h => by simp [impl_GoodText.l0] at h
 | k + 1 => by
  have ih0 := impl_GoodText.mono_l k
  ·intro y0 y1 y2
   unfold impl_GoodText.l0
   repeat' (with_reducible first | exact ih0 _ _ _ | exact LeO.refl _ | exact LeO.none _ | refine LeO.ite ?_ ?_ | refine LeO.bind ?_ (fun _ => ?_))
theorem impl_GoodText.mono : ∀ a0 k, LeO (impl_GoodText.f k a0) (impl_GoodText.f (k + 1) a0) := by
 intro a0 k
 have ih0 := impl_GoodText.mono_l k
 unfold impl_GoodText.f
 repeat' (with_reducible first | exact ih0 _ _ _ | exact LeO.refl _ | exact LeO.none _ | refine LeO.ite ?_ ?_ | refine LeO.bind ?_ (fun _ => ?_))
set_option maxHeartbeats 8000000 in
set_option maxRecDepth 100000 in
theorem impl_GoodText.calls (k : Nat) (a0 : ByteArray) (r : Bool) (w : World) (h : impl_GoodText.f k a0 = some r) :
  Calls Try.prog 57 #[.string a0] w fun e w' => e = .returned (.bool r) ∧ Drawn0 w w' := by
 have H : (impl_GoodText.l0 k a0 (a0.size : Int) 0) = some r := h
 clear h
 have H' := aM H
 clear H
 go_enter Try.func57, Try.ntmps57
 go_wp2
 go_loopg [6] k (fun kq v6 w' => ∃ (x6_1 : Int), v6 = .int .i64 x6_1 ∧ Aside0 (impl_GoodText.l0 kq a0 (a0.size : Int) x6_1 = some r) ∧ Aside0 (kq ≤ k) ∧ Drawn0 w w')
 case atStart => exact ⟨(0), aP16, H', ⟨Nat.le_refl _⟩, by repeat (first | exact Drawn0.refl _ | apply Drawn0.step)⟩
 case round =>
  clear H'
  obtain ⟨x6_1, rfl, HA, HK1, ⟨m1, rfl⟩⟩ := hrel
  cases gk with
  | zero => exact absurd HA.out (by simp [impl_GoodText.l0])
  | succ k1 =>
   have H := HA.out
   clear HA
   simp only [impl_GoodText.l0] at H
   by_cases c2 : x6_1 < (a0.size : Int)
   rotate_left
   ·rw [if_neg c2] at H
    have c2b0 : decide (x6_1 < (a0.size : Int)) = false := decide_eq_false c2
    clear c2
    obtain rfl := Option.some.inj H
    go_wp2
    go_ret
    exact ⟨by first | rfl | (simp; done) | (simp [*]; done), by repeat (first | exact Drawn0.refl _ | apply Drawn0.step)⟩
   rw [if_pos c2] at H
   have c2b0 : decide (x6_1 < (a0.size : Int)) = true := decide_eq_true c2
   clear c2
   by_cases c3 : 0 ≤ x6_1
   rotate_left
   ·rw [if_neg c3] at H
    exact absurd H (by simp)
   rw [if_pos c3] at H
   have c3b0 : decide (0 ≤ x6_1) = true := decide_eq_true c3
   clear c3
   by_cases c4 : x6_1 < (a0.size : Int)
   rotate_left
   ·rw [if_neg c4] at H
    exact absurd H (by simp)
   rw [if_pos c4] at H
   have c4b0 : decide (x6_1 < (a0.size : Int)) = true := decide_eq_true c4
   clear c4
   replace H := Option.bind_eq_some_iff.mp H
   obtain ⟨t103, A60, H⟩ := H
   replace H : (if t103 = true then (impl_GoodText.l0 k1 a0 (a0.size : Int) (wrap64 (x6_1 + 1))) else ((impl_isPlain.f (bt a0 x6_1)).bind fun t104 => (if t104 = true then (impl_GoodText.l0 k1 a0 (a0.size : Int) (wrap64 (x6_1 + 1))) else (if (bt a0 x6_1) = 47 then (impl_GoodText.l0 k1 a0 (a0.size : Int) (wrap64 (x6_1 + 1))) else (some false))))) = some r := H
   have A6 := aM A60
   clear A60
   by_cases c7 : t103 = true
   ·subst c7
    replace H : (impl_GoodText.l0 k1 a0 (a0.size : Int) (wrap64 (x6_1 + 1))) = some r := by rw [if_pos rfl] at H; exact H
    have H' := aM H
    clear H
    have p5 : 0 ≤ (x6_1 : Int) := of_decide_eq_true (by assumption)
    have q5 : x6_1 < (a0.size : Int) := of_decide_eq_true (by assumption)
    have hx5 := bt_at a0 x6_1
    replace p5 := eq_true p5
    replace q5 := eq_true q5
    go_wp2_with (first | ((with_reducible refine gate_callee (f := 76) rfl ?_); refine goesL_ (some 12) rfl rfl Try.func76 (by kernel_rfl) rfl #[.int .u8 (bt a0 x6_1)] rfl mM ?_; (with_reducible refine (impl_isName.calls (bt a0 x6_1) true _ A6.out).mono ?_); rintro e w' ⟨rfl, ⟨nd, rfl⟩⟩; refine ⟨_, rfl, ?_⟩))
    go_roundg k1
    case measure => have := HK1.out; omega
    case rel => exact ⟨(wrap64 (x6_1 + 1)), aP16, H', ⟨by have := HK1.out; omega⟩, by repeat (first | exact Drawn0.refl _ | apply Drawn0.step)⟩
   replace c7 := Bool.eq_false_iff.mpr c7
   subst c7
   replace H : ((impl_isPlain.f (bt a0 x6_1)).bind fun t104 => (if t104 = true then (impl_GoodText.l0 k1 a0 (a0.size : Int) (wrap64 (x6_1 + 1))) else (if (bt a0 x6_1) = 47 then (impl_GoodText.l0 k1 a0 (a0.size : Int) (wrap64 (x6_1 + 1))) else (some false)))) = some r := by rw [if_neg (show ¬ (false = true) by decide)] at H; exact H
   replace H := Option.bind_eq_some_iff.mp H
   obtain ⟨t104, A90, H⟩ := H
   replace H : (if t104 = true then (impl_GoodText.l0 k1 a0 (a0.size : Int) (wrap64 (x6_1 + 1))) else (if (bt a0 x6_1) = 47 then (impl_GoodText.l0 k1 a0 (a0.size : Int) (wrap64 (x6_1 + 1))) else (some false))) = some r := H
   have A9 := aM A90
   clear A90
   by_cases c10 : t104 = true
   ·subst c10
    replace H : (impl_GoodText.l0 k1 a0 (a0.size : Int) (wrap64 (x6_1 + 1))) = some r := by rw [if_pos rfl] at H; exact H
    have H' := aM H
    clear H
    have p5 : 0 ≤ (x6_1 : Int) := of_decide_eq_true (by assumption)
    have q5 : x6_1 < (a0.size : Int) := of_decide_eq_true (by assumption)
    have hx5 := bt_at a0 x6_1
    replace p5 := eq_true p5
    replace q5 := eq_true q5
    go_wp2_with (first | ((with_reducible refine gate_callee (f := 76) rfl ?_); refine goesL_ (some 12) rfl rfl Try.func76 (by kernel_rfl) rfl #[.int .u8 (bt a0 x6_1)] rfl mM ?_; (with_reducible refine (impl_isName.calls (bt a0 x6_1) false _ A6.out).mono ?_); rintro e w' ⟨rfl, ⟨nd, rfl⟩⟩; refine ⟨_, rfl, ?_⟩; have p8 : 0 ≤ (x6_1 : Int) := of_decide_eq_true (by assumption); have q8 : x6_1 < (a0.size : Int) := of_decide_eq_true (by assumption); have hx8 := bt_at a0 x6_1; replace p8 := eq_true p8; replace q8 := eq_true q8) | (go_at_call 77; (with_reducible refine (impl_isPlain.calls (bt a0 x6_1) true _ A9.out).mono ?_); rintro e w' ⟨rfl, ⟨nd, rfl⟩⟩))
    go_roundg k1
    case measure => have := HK1.out; omega
    case rel => exact ⟨(wrap64 (x6_1 + 1)), aP16, H', ⟨by have := HK1.out; omega⟩, by repeat (first | exact Drawn0.refl _ | apply Drawn0.step)⟩
   replace c10 := Bool.eq_false_iff.mpr c10
   subst c10
   replace H : (if (bt a0 x6_1) = 47 then (impl_GoodText.l0 k1 a0 (a0.size : Int) (wrap64 (x6_1 + 1))) else (some false)) = some r := by rw [if_neg (show ¬ (false = true) by decide)] at H; exact H
   by_cases c12 : (bt a0 x6_1) = 47
   rotate_left
   ·rw [if_neg c12] at H
    have c12b0 : ((bt a0 x6_1) == 47) = false := beq_eq_false_iff_ne.mpr c12
    have c12b1 : ((bt a0 x6_1) != 47) = true := bne_iff_ne.mpr c12
    obtain rfl := Option.some.inj H
    have p5 : 0 ≤ (x6_1 : Int) := of_decide_eq_true (by assumption)
    have q5 : x6_1 < (a0.size : Int) := of_decide_eq_true (by assumption)
    have hx5 := bt_at a0 x6_1
    replace p5 := eq_true p5
    replace q5 := eq_true q5
    go_wp2_with (first | ((with_reducible refine gate_callee (f := 76) rfl ?_); refine goesL_ (some 12) rfl rfl Try.func76 (by kernel_rfl) rfl #[.int .u8 (bt a0 x6_1)] rfl mM ?_; (with_reducible refine (impl_isName.calls (bt a0 x6_1) false _ A6.out).mono ?_); rintro e w' ⟨rfl, ⟨nd, rfl⟩⟩; refine ⟨_, rfl, ?_⟩; have p8 : 0 ≤ (x6_1 : Int) := of_decide_eq_true (by assumption); have q8 : x6_1 < (a0.size : Int) := of_decide_eq_true (by assumption); have hx8 := bt_at a0 x6_1; replace p8 := eq_true p8; replace q8 := eq_true q8) | (go_at_call 77; (with_reducible refine (impl_isPlain.calls (bt a0 x6_1) false _ A9.out).mono ?_); rintro e w' ⟨rfl, ⟨nd, rfl⟩⟩; have p11 : 0 ≤ (x6_1 : Int) := of_decide_eq_true (by assumption); have q11 : x6_1 < (a0.size : Int) := of_decide_eq_true (by assumption); have hx11 := bt_at a0 x6_1; replace p11 := eq_true p11; replace q11 := eq_true q11))
    go_ret
    exact ⟨by first | rfl | (simp; done) | (simp [*]; done), by repeat (first | exact Drawn0.refl _ | apply Drawn0.step)⟩
   rw [if_pos c12] at H
   have c12b0 : ((bt a0 x6_1) == 47) = true := beq_iff_eq.mpr c12
   have c12b1 : ((bt a0 x6_1) != 47) = false := bne_eq_false_iff_eq.mpr c12
   clear c12
   have H' := aM H
   clear H
   have p5 : 0 ≤ (x6_1 : Int) := of_decide_eq_true (by assumption)
   have q5 : x6_1 < (a0.size : Int) := of_decide_eq_true (by assumption)
   have hx5 := bt_at a0 x6_1
   replace p5 := eq_true p5
   replace q5 := eq_true q5
   go_wp2_with (first | ((with_reducible refine gate_callee (f := 76) rfl ?_); refine goesL_ (some 12) rfl rfl Try.func76 (by kernel_rfl) rfl #[.int .u8 (bt a0 x6_1)] rfl mM ?_; (with_reducible refine (impl_isName.calls (bt a0 x6_1) false _ A6.out).mono ?_); rintro e w' ⟨rfl, ⟨nd, rfl⟩⟩; refine ⟨_, rfl, ?_⟩; have p8 : 0 ≤ (x6_1 : Int) := of_decide_eq_true (by assumption); have q8 : x6_1 < (a0.size : Int) := of_decide_eq_true (by assumption); have hx8 := bt_at a0 x6_1; replace p8 := eq_true p8; replace q8 := eq_true q8) | (go_at_call 77; (with_reducible refine (impl_isPlain.calls (bt a0 x6_1) false _ A9.out).mono ?_); rintro e w' ⟨rfl, ⟨nd, rfl⟩⟩; have p11 : 0 ≤ (x6_1 : Int) := of_decide_eq_true (by assumption); have q11 : x6_1 < (a0.size : Int) := of_decide_eq_true (by assumption); have hx11 := bt_at a0 x6_1; replace p11 := eq_true p11; replace q11 := eq_true q11))
   go_roundg k1
   case measure => have := HK1.out; omega
   case rel => exact ⟨(wrap64 (x6_1 + 1)), aP16, H', ⟨by have := HK1.out; omega⟩, by repeat (first | exact Drawn0.refl _ | apply Drawn0.step)⟩
def impl_Part_isPart.f (k : Nat) (a0_0 : Int) (a0_1 : ByteArray) (a0_2 : ByteArray) : Option (Bool) := if a0_0 = 0 then (if a0_1.toList = ([] : List UInt8) then (if a0_2.toList = ([] : List UInt8) then (some false) else ((impl_GoodText.f k a0_2).bind fun t106 => (some t106))) else (if a0_2.toList = ([] : List UInt8) then ((impl_GoodText.f k a0_1).bind fun t107 => (some t107)) else (some false))) else (if a0_0 ≥ 1 then (if a0_0 ≤ 300 then (if a0_1.toList = ([] : List UInt8) then (some (a0_2.toList == ([] : List UInt8))) else (some false)) else (some false)) else (some false))
theorem impl_Part_isPart.mono : ∀ a0 a1 a2 k, LeO (impl_Part_isPart.f k a0 a1 a2) (impl_Part_isPart.f (k + 1) a0 a1 a2) := by
 intro a0 a1 a2 k
 unfold impl_Part_isPart.f
 repeat' (with_reducible first | exact impl_GoodText.mono _ _ | exact LeO.refl _ | exact LeO.none _ | refine LeO.ite ?_ ?_ | refine LeO.bind ?_ (fun _ => ?_))
set_option maxHeartbeats 8000000 in
set_option maxRecDepth 100000 in
theorem impl_Part_isPart.calls (k : Nat) (a0_0 : Int) (a0_1 : ByteArray) (a0_2 : ByteArray) (r : Bool) (w : World) (h : impl_Part_isPart.f k a0_0 a0_1 a0_2 = some r) :
  Calls Try.prog 68 #[.agg #[.int .i64 a0_0, .string a0_1, .string a0_2]] w fun e w' => e = .returned (.bool r) ∧ Below w.heap.size w w' := by
 have hu60 := Try.underlying60
 have HB := aM (Below.refl w.heap.size w)
 have H : (if a0_0 = 0 then (if a0_1.toList = ([] : List UInt8) then (if a0_2.toList = ([] : List UInt8) then (some false) else ((impl_GoodText.f k a0_2).bind fun t106 => (some t106))) else (if a0_2.toList = ([] : List UInt8) then ((impl_GoodText.f k a0_1).bind fun t107 => (some t107)) else (some false))) else (if a0_0 ≥ 1 then (if a0_0 ≤ 300 then (if a0_1.toList = ([] : List UInt8) then (some (a0_2.toList == ([] : List UInt8))) else (some false)) else (some false)) else (some false))) = some r := h
 clear h
 by_cases c2 : a0_0 = 0
 rotate_left
 ·rw [if_neg c2] at H
  have c2b0 : (a0_0 == 0) = false := beq_eq_false_iff_ne.mpr c2
  have c2b1 : (a0_0 != 0) = true := bne_iff_ne.mpr c2
  by_cases c16 : a0_0 ≥ 1
  rotate_left
  ·rw [if_neg c16] at H
   have c16b0 : decide (1 ≤ a0_0) = false := decide_eq_false c16
   clear c16
   obtain rfl := Option.some.inj H
   go_enter Try.func68, Try.ntmps68
   go_wp2_with (first | ((with_reducible refine gate_dst (N := 1) rfl ?_); refine box_event ?hg (N := 1) ?hd (cs := #[.int .i64 a0_0, .string a0_1, .string a0_2]) (t := 60) ?hr ?_; (case hd => rfl); (case hg => rfl); (case hr => exact aP21); intro gb105 hg w25 hbox hb; have BK105 := aM (hbox); have GW105 := aM (bG (w := w) hg); have GE105 := aM (bG (w := w) hg); replace HB := aM (below_step bB hb); clear hb hbox hg; obtain ⟨hcz26_0, hcz26_1, hcz26_2, hfz26_0, hfz26_1, hfz26_2⟩ := bx3 BK105.out))
   go_ret
   exact ⟨by first | rfl | (simp [errW_none, errW_some] <;> rfl) | (simp; exact Go.Proofs.Ytoagljlnfakgjaa.Base.isE _) | (simp [*, errW_none, errW_some] <;> rfl), aP7⟩
  rw [if_pos c16] at H
  have c16b0 : decide (1 ≤ a0_0) = true := decide_eq_true c16
  clear c16
  by_cases c17 : a0_0 ≤ 300
  rotate_left
  ·rw [if_neg c17] at H
   have c17b0 : decide (a0_0 ≤ 300) = false := decide_eq_false c17
   clear c17
   obtain rfl := Option.some.inj H
   go_enter Try.func68, Try.ntmps68
   go_wp2_with (first | ((with_reducible refine gate_dst (N := 1) rfl ?_); refine box_event ?hg (N := 1) ?hd (cs := #[.int .i64 a0_0, .string a0_1, .string a0_2]) (t := 60) ?hr ?_; (case hd => rfl); (case hg => rfl); (case hr => exact aP21); intro gb105 hg w23 hbox hb; have BK105 := aM (hbox); have GW105 := aM (bG (w := w) hg); have GE105 := aM (bG (w := w) hg); replace HB := aM (below_step bB hb); clear hb hbox hg; obtain ⟨hcz24_0, hcz24_1, hcz24_2, hfz24_0, hfz24_1, hfz24_2⟩ := bx3 BK105.out))
   go_ret
   exact ⟨by first | rfl | (simp [errW_none, errW_some] <;> rfl) | (simp; exact Go.Proofs.Ytoagljlnfakgjaa.Base.isE _) | (simp [*, errW_none, errW_some] <;> rfl), aP7⟩
  rw [if_pos c17] at H
  have c17b0 : decide (a0_0 ≤ 300) = true := decide_eq_true c17
  clear c17
  by_cases c18 : a0_1.toList = ([] : List UInt8)
  rotate_left
  ·rw [if_neg c18] at H
   have c18b0 : (a0_1.toList == ([] : List UInt8)) = false := beq_eq_false_iff_ne.mpr c18
   have c18b1 : (a0_1.toList != ([] : List UInt8)) = true := bne_iff_ne.mpr c18
   try have c18e : a0_1.toList.isEmpty = false := List.isEmpty_eq_false_iff.mpr c18
   obtain rfl := Option.some.inj H
   go_enter Try.func68, Try.ntmps68
   go_wp2_with (first | ((with_reducible refine gate_dst (N := 1) rfl ?_); refine box_event ?hg (N := 1) ?hd (cs := #[.int .i64 a0_0, .string a0_1, .string a0_2]) (t := 60) ?hr ?_; (case hd => rfl); (case hg => rfl); (case hr => exact aP21); intro gb105 hg w21 hbox hb; have BK105 := aM (hbox); have GW105 := aM (bG (w := w) hg); have GE105 := aM (bG (w := w) hg); replace HB := aM (below_step bB hb); clear hb hbox hg; obtain ⟨hcz22_0, hcz22_1, hcz22_2, hfz22_0, hfz22_1, hfz22_2⟩ := bx3 BK105.out))
   go_ret
   exact ⟨by first | rfl | (simp [errW_none, errW_some] <;> rfl) | (simp; exact Go.Proofs.Ytoagljlnfakgjaa.Base.isE _) | (simp [*, errW_none, errW_some] <;> rfl), aP7⟩
  rw [if_pos c18] at H
  have c18b0 : (a0_1.toList == ([] : List UInt8)) = true := beq_iff_eq.mpr c18
  have c18b1 : (a0_1.toList != ([] : List UInt8)) = false := bne_eq_false_iff_eq.mpr c18
  try have c18e : a0_1.toList.isEmpty = true := List.isEmpty_iff.mpr c18
  clear c18
  obtain rfl := Option.some.inj H
  go_enter Try.func68, Try.ntmps68
  go_wp2_with (first | ((with_reducible refine gate_dst (N := 1) rfl ?_); refine box_event ?hg (N := 1) ?hd (cs := #[.int .i64 a0_0, .string a0_1, .string a0_2]) (t := 60) ?hr ?_; (case hd => rfl); (case hg => rfl); (case hr => exact aP21); intro gb105 hg w19 hbox hb; have BK105 := aM (hbox); have GW105 := aM (bG (w := w) hg); have GE105 := aM (bG (w := w) hg); replace HB := aM (below_step bB hb); clear hb hbox hg; obtain ⟨hcz20_0, hcz20_1, hcz20_2, hfz20_0, hfz20_1, hfz20_2⟩ := bx3 BK105.out))
  go_ret
  exact ⟨by first | rfl | (simp [errW_none, errW_some] <;> rfl) | (simp; exact Go.Proofs.Ytoagljlnfakgjaa.Base.isE _) | (simp [*, errW_none, errW_some] <;> rfl), aP7⟩
 rw [if_pos c2] at H
 have c2b0 : (a0_0 == 0) = true := beq_iff_eq.mpr c2
 have c2b1 : (a0_0 != 0) = false := bne_eq_false_iff_eq.mpr c2
 clear c2
 by_cases c3 : a0_1.toList = ([] : List UInt8)
 ·rw [if_pos c3] at H
  have c3b0 : (a0_1.toList == ([] : List UInt8)) = true := beq_iff_eq.mpr c3
  have c3b1 : (a0_1.toList != ([] : List UInt8)) = false := bne_eq_false_iff_eq.mpr c3
  try have c3e : a0_1.toList.isEmpty = true := List.isEmpty_iff.mpr c3
  clear c3
  by_cases c4 : a0_2.toList = ([] : List UInt8)
  ·rw [if_pos c4] at H
   have c4b0 : (a0_2.toList == ([] : List UInt8)) = true := beq_iff_eq.mpr c4
   have c4b1 : (a0_2.toList != ([] : List UInt8)) = false := bne_eq_false_iff_eq.mpr c4
   try have c4e : a0_2.toList.isEmpty = true := List.isEmpty_iff.mpr c4
   clear c4
   obtain rfl := Option.some.inj H
   go_enter Try.func68, Try.ntmps68
   go_wp2_with (first | ((with_reducible refine gate_dst (N := 1) rfl ?_); refine box_event ?hg (N := 1) ?hd (cs := #[.int .i64 a0_0, .string a0_1, .string a0_2]) (t := 60) ?hr ?_; (case hd => rfl); (case hg => rfl); (case hr => exact aP21); intro gb105 hg w5 hbox hb; have BK105 := aM (hbox); have GW105 := aM (bG (w := w) hg); have GE105 := aM (bG (w := w) hg); replace HB := aM (below_step bB hb); clear hb hbox hg; obtain ⟨hcz6_0, hcz6_1, hcz6_2, hfz6_0, hfz6_1, hfz6_2⟩ := bx3 BK105.out))
   go_ret
   exact ⟨by first | rfl | (simp [errW_none, errW_some] <;> rfl) | (simp; exact Go.Proofs.Ytoagljlnfakgjaa.Base.isE _) | (simp [*, errW_none, errW_some] <;> rfl), aP7⟩
  rw [if_neg c4] at H
  have c4b0 : (a0_2.toList == ([] : List UInt8)) = false := beq_eq_false_iff_ne.mpr c4
  have c4b1 : (a0_2.toList != ([] : List UInt8)) = true := bne_iff_ne.mpr c4
  try have c4e : a0_2.toList.isEmpty = false := List.isEmpty_eq_false_iff.mpr c4
  replace H := Option.bind_eq_some_iff.mp H
  obtain ⟨t106, A70, H⟩ := H
  replace H : (some t106) = some r := H
  have A7 := aM A70
  clear A70
  obtain rfl := Option.some.inj H
  go_enter Try.func68, Try.ntmps68
  go_wp2_with (first | ((with_reducible refine gate_dst (N := 1) rfl ?_); refine box_event ?hg (N := 1) ?hd (cs := #[.int .i64 a0_0, .string a0_1, .string a0_2]) (t := 60) ?hr ?_; (case hd => rfl); (case hg => rfl); (case hr => exact aP21); intro gb105 hg w8 hbox hb; have BK105 := aM (hbox); have GW105 := aM (bG (w := w) hg); have GE105 := aM (bG (w := w) hg); replace HB := aM (below_step bB hb); clear hb hbox hg; obtain ⟨hcz9_0, hcz9_1, hcz9_2, hfz9_0, hfz9_1, hfz9_2⟩ := bx3 BK105.out) | (go_at_call 57; (with_reducible refine (impl_GoodText.calls k a0_2 t106 _ A7.out).mono ?_); rintro e w' ⟨rfl, ⟨nd, rfl⟩⟩))
  go_ret
  exact ⟨by first | rfl | (simp [errW_none, errW_some] <;> rfl) | (simp; exact Go.Proofs.Ytoagljlnfakgjaa.Base.isE _) | (simp [*, errW_none, errW_some] <;> rfl), aP7⟩
 rw [if_neg c3] at H
 have c3b0 : (a0_1.toList == ([] : List UInt8)) = false := beq_eq_false_iff_ne.mpr c3
 have c3b1 : (a0_1.toList != ([] : List UInt8)) = true := bne_iff_ne.mpr c3
 try have c3e : a0_1.toList.isEmpty = false := List.isEmpty_eq_false_iff.mpr c3
 by_cases c10 : a0_2.toList = ([] : List UInt8)
 rotate_left
 ·rw [if_neg c10] at H
  have c10b0 : (a0_2.toList == ([] : List UInt8)) = false := beq_eq_false_iff_ne.mpr c10
  have c10b1 : (a0_2.toList != ([] : List UInt8)) = true := bne_iff_ne.mpr c10
  try have c10e : a0_2.toList.isEmpty = false := List.isEmpty_eq_false_iff.mpr c10
  obtain rfl := Option.some.inj H
  go_enter Try.func68, Try.ntmps68
  go_wp2_with (first | ((with_reducible refine gate_dst (N := 1) rfl ?_); refine box_event ?hg (N := 1) ?hd (cs := #[.int .i64 a0_0, .string a0_1, .string a0_2]) (t := 60) ?hr ?_; (case hd => rfl); (case hg => rfl); (case hr => exact aP21); intro gb105 hg w14 hbox hb; have BK105 := aM (hbox); have GW105 := aM (bG (w := w) hg); have GE105 := aM (bG (w := w) hg); replace HB := aM (below_step bB hb); clear hb hbox hg; obtain ⟨hcz15_0, hcz15_1, hcz15_2, hfz15_0, hfz15_1, hfz15_2⟩ := bx3 BK105.out))
  go_ret
  exact ⟨by first | rfl | (simp [errW_none, errW_some] <;> rfl) | (simp; exact Go.Proofs.Ytoagljlnfakgjaa.Base.isE _) | (simp [*, errW_none, errW_some] <;> rfl), aP7⟩
 rw [if_pos c10] at H
 have c10b0 : (a0_2.toList == ([] : List UInt8)) = true := beq_iff_eq.mpr c10
 have c10b1 : (a0_2.toList != ([] : List UInt8)) = false := bne_eq_false_iff_eq.mpr c10
 try have c10e : a0_2.toList.isEmpty = true := List.isEmpty_iff.mpr c10
 clear c10
 replace H := Option.bind_eq_some_iff.mp H
 obtain ⟨t107, A110, H⟩ := H
 replace H : (some t107) = some r := H
 have A11 := aM A110
 clear A110
 obtain rfl := Option.some.inj H
 go_enter Try.func68, Try.ntmps68
 go_wp2_with (first | ((with_reducible refine gate_dst (N := 1) rfl ?_); refine box_event ?hg (N := 1) ?hd (cs := #[.int .i64 a0_0, .string a0_1, .string a0_2]) (t := 60) ?hr ?_; (case hd => rfl); (case hg => rfl); (case hr => exact aP21); intro gb105 hg w12 hbox hb; have BK105 := aM (hbox); have GW105 := aM (bG (w := w) hg); have GE105 := aM (bG (w := w) hg); replace HB := aM (below_step bB hb); clear hb hbox hg; obtain ⟨hcz13_0, hcz13_1, hcz13_2, hfz13_0, hfz13_1, hfz13_2⟩ := bx3 BK105.out) | (go_at_call 57; (with_reducible refine (impl_GoodText.calls k a0_1 t107 _ A11.out).mono ?_); rintro e w' ⟨rfl, ⟨nd, rfl⟩⟩))
 go_ret
 exact ⟨by first | rfl | (simp [errW_none, errW_some] <;> rfl) | (simp; exact Go.Proofs.Ytoagljlnfakgjaa.Base.isE _) | (simp [*, errW_none, errW_some] <;> rfl), aP7⟩
def impl_GoodOp_1.f (k : Nat) (a0_0 : Int) (a0_1 : ByteArray) (a0_2 : ByteArray) : Option (Bool) := (impl_Part_isPart.f k a0_0 a0_1 a0_2).bind fun t109 => (some (!t109))
theorem impl_GoodOp_1.mono : ∀ a0 a1 a2 k, LeO (impl_GoodOp_1.f k a0 a1 a2) (impl_GoodOp_1.f (k + 1) a0 a1 a2) := by
 intro a0 a1 a2 k
 unfold impl_GoodOp_1.f
 repeat' (with_reducible first | exact impl_Part_isPart.mono _ _ _ _ | exact LeO.refl _ | exact LeO.none _ | refine LeO.ite ?_ ?_ | refine LeO.bind ?_ (fun _ => ?_))
set_option maxHeartbeats 8000000 in
set_option maxRecDepth 100000 in
theorem impl_GoodOp_1.calls (k : Nat) (a0_0 : Int) (a0_1 : ByteArray) (a0_2 : ByteArray) (r : Bool) (w : World) (h : impl_GoodOp_1.f k a0_0 a0_1 a0_2 = some r) :
  Calls Try.prog 67 #[.agg #[.int .i64 a0_0, .string a0_1, .string a0_2]] w fun e w' => e = .returned (.bool r) ∧ Below w.heap.size w w' := by
 have hu60 := Try.underlying60
 have HB := aM (Below.refl w.heap.size w)
 have H : ((impl_Part_isPart.f k a0_0 a0_1 a0_2).bind fun t109 => (some (!t109))) = some r := h
 clear h
 replace H := Option.bind_eq_some_iff.mp H
 obtain ⟨t109, A20, H⟩ := H
 replace H : (some (!t109)) = some r := H
 have A2 := aM A20
 clear A20
 obtain rfl := Option.some.inj H
 go_enter Try.func67, Try.ntmps67
 go_wp2_with (first | ((with_reducible refine gate_dst (N := 1) rfl ?_); refine box_event ?hg (N := 1) ?hd (cs := #[.int .i64 a0_0, .string a0_1, .string a0_2]) (t := 60) ?hr ?_; (case hd => rfl); (case hg => rfl); (case hr => exact aP21); intro gb108 hg w3 hbox hb; have BK108 := aM (hbox); have GW108 := aM (bG (w := w) hg); have GE108 := aM (bG (w := w) hg); replace HB := aM (below_step bB hb); clear hb hbox hg; obtain ⟨hcz4_0, hcz4_1, hcz4_2, hfz4_0, hfz4_1, hfz4_2⟩ := bx3 BK108.out) | ((with_reducible refine gate_callee (f := 68) rfl ?_); refine goesL_ (some 4) rfl rfl Try.func68 (by kernel_rfl) rfl #[.agg #[.int .i64 a0_0, .string a0_1, .string a0_2]] rfl mM ?_; (with_reducible refine (impl_Part_isPart.calls k a0_0 a0_1 a0_2 t109 _ A2.out).mono ?_); rintro e w5 ⟨rfl, hb⟩; refine ⟨_, rfl, ?_⟩; replace BK108 := aM (blk_below (g := gb108) (o := .cells #[.int .i64 a0_0, .string a0_1, .string a0_2] 60 (0, 0)) (kK BK108.out) hb); replace HB := aM (below_step aP15 hb); (try clear hb); (try clear hb2); (try clear hk); (try clear hi)))
 go_ret
 exact ⟨by first | rfl | (simp [errW_none, errW_some] <;> rfl) | (simp; exact Go.Proofs.Ytoagljlnfakgjaa.Base.isE _) | (simp [*, errW_none, errW_some] <;> rfl), aP15⟩
-- import Base
-- fn: slices.IndexFunc[[]loop.example/g00253/impl.Part,loop.example/g00253/impl.Part]
def idxBad (k : Nat) : List S60 → Int → Option Int
 | [], _ => some (-1)
 | p :: r, i => (impl_GoodOp_1.f k p.f0 p.f1 p.f2).bind fun t => if t = true then some i else idxBad k r (i + 1)
theorem idxBad_mono (k : Nat) : ∀ (l : List S60) (i : Int), LeO (idxBad k l i) (idxBad (k + 1) l i)
 | [], _ => LeO.refl _
 | p :: r, i => LeO.bind (impl_GoodOp_1.mono _ _ _ _) (fun t => LeO.ite (LeO.refl _) (idxBad_mono k r (i + 1)))
theorem drop_part (l : List S60) (x : Int) (h0 : 0 ≤ x) (h1 : x < (l.length : Int)) : l.drop x.toNat = rd_T60 l x :: l.drop (x + 1).toNat := by
 obtain ⟨n, rfl⟩ := Int.eq_ofNat_of_zero_le h0
 have e : ((n : Int) + 1).toNat = n + 1 := by omega
 rw [e, Int.toNat_natCast]
 exact Base.getD_drop l _ n (by omega)
set_option maxHeartbeats 4000000 in
set_option maxRecDepth 100000 in
theorem index_bad (k : Nat) (A0 : Option Addr) (c0 : Nat) (l0 : List S60) (r : Int) (w : World) (hr0 : Kd.C k60 w A0 l0.length l0) (hc0 : l0.length ≤ c0) (hl : l0.length ≤ 60) (h : idxBad k l0 0 = some r) :
  Calls Try.prog 84 #[.slice A0 l0.length c0, .func (.func 67) #[] #[]] w fun e w' => e = .returned (.int .i64 r) ∧ Below w.heap.size w w' := by
 have hu := Try.underlying60
 have HR0 := aM hr0
 have HH := aM h
 have HL := aM hl
 clear hr0 hc0 h hl
 go_enter Try.func84, Try.ntmps84
 go_wp2
 go_loopw [8] (fun v8 wr => ∃ xi : Int, v8 = .int .i64 xi ∧ Aside0 (0 ≤ xi ∧ xi ≤ (l0.length : Int)) ∧ Aside0 (idxBad k (l0.drop xi.toNat) xi = some r) ∧ Aside0 (Below w.heap.size w wr)) (fun i _ => l0.length - (intOf i).toNat)
 case atStart => exact ⟨0, rfl, ⟨by omega, by omega⟩, ⟨by simpa using HH.out⟩, ⟨Below.refl _ _⟩⟩
 case round =>
  obtain ⟨xi, rfl, HI, HA, HB⟩ := hrel
  obtain ⟨h0, hle⟩ := HI.out
  have hll := HL.out
  have hbs := below_size HB.out
  have HBS := aM hbs
  clear HI hbs
  by_cases hlt : xi < (l0.length : Int)
  rotate_left
  ·have hA := HA.out
   rw [List.drop_eq_nil_of_le (by omega), idxBad] at hA
   obtain rfl := Option.some.inj hA
   have c3b0 : decide (xi < (l0.length : Int)) = false := decide_eq_false hlt
   clear hA HA hll hle h0 hlt
   go_wp2
   go_ret
   exact ⟨rfl, HB.out⟩
  have hA := HA.out
  rw [drop_part l0 xi h0 hlt, idxBad] at hA
  obtain ⟨t, A70, hA⟩ := Option.bind_eq_some_iff.mp hA
  have A7 := aM A70
  have Hw := aM (show wrap64 (xi + 1) = xi + 1 by unfold wrap64; omega)
  have c3b0 : decide (xi < (l0.length : Int)) = true := decide_eq_true hlt
  obtain ⟨ad, ead, hx0, hx1, hx2⟩ := at_T60 HR0.out xi h0 hlt
  subst ead
  replace hx0 := (HB.out.cell (World.block_lt_of_cell? w _ hx0)).trans hx0
  replace hx1 := (HB.out.cell (World.block_lt_of_cell? w _ hx1)).trans hx1
  replace hx2 := (HB.out.cell (World.block_lt_of_cell? w _ hx2)).trans hx2
  have P6 := aM h0
  have Q6 := aM hlt
  have p6 := eq_true h0
  have q6 := eq_true hlt
  clear HA A70 hll hle h0 hlt
  cases t with
  | true =>
   obtain rfl : xi = r := by rw [if_pos rfl] at hA; exact Option.some.inj hA
   clear hA
   go_wp2_with (first | (go_at_call 67; (with_reducible refine (impl_GoodOp_1.calls k _ _ _ true _ A7.out).mono ?_); rintro e w1 ⟨rfl, hb⟩; have HB1 := aM hb; clear hb))
   go_ret
   exact ⟨rfl, below_then HB.out HBS.out HB1.out⟩
  | false =>
   have HA := aM (show idxBad k (l0.drop (xi + 1).toNat) (xi + 1) = some r by rw [if_neg (by decide)] at hA; exact hA)
   clear hA
   go_wp2_with (first | (go_at_call 67; (with_reducible refine (impl_GoodOp_1.calls k _ _ _ false _ A7.out).mono ?_); rintro e w1 ⟨rfl, hb⟩; have HB1 := aM hb; clear hb))
   have hw := Hw.out
   have hq := Q6.out
   have hp := P6.out
   go_roundw
   case rel => exact ⟨wrap64 (xi + 1), rfl, ⟨by omega, by omega⟩, ⟨by rw [hw]; exact HA.out⟩, ⟨below_then HB.out HBS.out HB1.out⟩⟩
   case measure => simp [intOf, hw]; omega
-- fn: slices.ContainsFunc[[]loop.example/g00253/impl.Part,loop.example/g00253/impl.Part]
set_option maxHeartbeats 4000000 in
set_option maxRecDepth 100000 in
theorem contains_bad (k : Nat) (A0 : Option Addr) (c0 : Nat) (l0 : List S60) (r : Int) (w : World) (hr0 : Kd.C k60 w A0 l0.length l0) (hc0 : l0.length ≤ c0) (hl : l0.length ≤ 60) (h : idxBad k l0 0 = some r) :
  Calls Try.prog 66 #[.slice A0 l0.length c0, .func (.func 67) #[] #[]] w fun e w' => e = .returned (.bool (decide (0 ≤ r))) ∧ Below w.heap.size w w' := by
 have HR0 := aM hr0
 have HC0 := aM hc0
 have HH := aM h
 have HL := aM hl
 clear hr0 hc0 h hl
 go_enter Try.func66, Try.ntmps66
 go_wp2_with (first | (go_at_call 84; (with_reducible refine (index_bad k A0 c0 l0 r _ HR0.out HC0.out HL.out HH.out).mono ?_); rintro e w1 ⟨rfl, hb⟩; have HB1 := aM hb; clear hb))
 go_ret
 exact ⟨by simp, HB1.out⟩
-- import Base
def impl_GoodOp.f (k : Nat) (l0 : List S60) : Option (Bool) :=
 if (l0.length : Int) > 60 then some false else (idxBad k l0 0).bind fun i => (if i ≥ 0 then some false else (impl_sizes.f k l0).bind fun b => (if b.1 ≤ 300 then some (decide (b.2 ≤ 300)) else some false))
theorem impl_GoodOp.mono : ∀ a0 k, LeO (impl_GoodOp.f k a0) (impl_GoodOp.f (k + 1) a0) := by
 intro a0 k
 unfold impl_GoodOp.f
 exact LeO.ite (LeO.refl _) (LeO.bind (idxBad_mono _ _ _) (fun i => LeO.ite (LeO.refl _) (LeO.bind (impl_sizes.mono _ _) (fun _ => LeO.refl _))))
set_option maxHeartbeats 4000000 in
set_option maxRecDepth 100000 in
theorem impl_GoodOp.calls (k : Nat) (A0 : Option Addr) (c0 : Nat) (l0 : List S60) (r : Bool) (w : World) (hr0 : Kd.C k60 w A0 l0.length l0) (hc0 : l0.length ≤ c0) (h : impl_GoodOp.f k l0 = some r) :
  Calls Try.prog 37 #[.slice A0 l0.length c0] w fun e w' => e = .returned (.bool r) ∧ Below w.heap.size w w' := by
 have HR0 := aM hr0
 have HC0 := aM hc0
 unfold impl_GoodOp.f at h
 clear hr0 hc0
 by_cases hl : (l0.length : Int) > 60
 ·rw [if_pos hl] at h
  obtain rfl := Option.some.inj h
  have c1 : decide (60 < (l0.length : Int)) = true := decide_eq_true hl
  have c2 : decide (60 < l0.length) = true := decide_eq_true (by omega)
  clear h hl
  go_enter Try.func37, Try.ntmps37
  go_wp2_with fail
  go_ret
  exact ⟨rfl, Below.refl _ _⟩
 rw [if_neg hl] at h
 obtain ⟨i, hi, h⟩ := Option.bind_eq_some_iff.mp h
 have HI := aM hi
 have HL := aM (show l0.length ≤ 60 by omega)
 have c1 : decide (60 < (l0.length : Int)) = false := decide_eq_false hl
 have c2 : decide (60 < l0.length) = false := decide_eq_false (by omega)
 clear hi hl
 by_cases h0 : i ≥ 0
 ·rw [if_pos h0] at h
  obtain rfl := Option.some.inj h
  have d1 : decide (0 ≤ i) = true := decide_eq_true h0
  clear h h0
  go_enter Try.func37, Try.ntmps37
  go_wp2_with (first | (go_at_call 66; (with_reducible refine (contains_bad k A0 c0 l0 i _ HR0.out HC0.out HL.out HI.out).mono ?_); rintro e w1 ⟨rfl, hb⟩; have HB1 := aM hb; clear hb))
  go_ret
  exact ⟨rfl, HB1.out⟩
 rw [if_neg h0] at h
 obtain ⟨⟨t1, t2⟩, hs, h⟩ := Option.bind_eq_some_iff.mp h
 have HS := aM hs
 have d1 : decide (0 ≤ i) = false := decide_eq_false h0
 clear hs h0
 by_cases h1 : t1 ≤ 300
 ·rw [if_pos h1] at h
  obtain rfl := Option.some.inj h
  have e1 : decide (t1 ≤ 300) = true := decide_eq_true h1
  clear h h1
  go_enter Try.func37, Try.ntmps37
  go_wp2_with (first | (go_at_call 66; (with_reducible refine (contains_bad k A0 c0 l0 i _ HR0.out HC0.out HL.out HI.out).mono ?_); rintro e w1 ⟨rfl, hb⟩; have HB1 := aM hb; clear hb) | (go_at_call 56; (with_reducible refine (impl_sizes.calls k A0 c0 l0 t1 t2 _ (Kd.C_below HR0.out HB1.out) HC0.out HS.out).mono ?_); rintro e w2 ⟨rfl, hb⟩; have HB2 := aM hb; clear hb))
  go_ret
  exact ⟨rfl, below_then HB1.out (below_size HB1.out) HB2.out⟩
 rw [if_neg h1] at h
 obtain rfl := Option.some.inj h
 have e1 : decide (t1 ≤ 300) = false := decide_eq_false h1
 clear h h1
 go_enter Try.func37, Try.ntmps37
 go_wp2_with (first | (go_at_call 66; (with_reducible refine (contains_bad k A0 c0 l0 i _ HR0.out HC0.out HL.out HI.out).mono ?_); rintro e w1 ⟨rfl, hb⟩; have HB1 := aM hb; clear hb) | (go_at_call 56; (with_reducible refine (impl_sizes.calls k A0 c0 l0 t1 t2 _ (Kd.C_below HR0.out HB1.out) HC0.out HS.out).mono ?_); rintro e w2 ⟨rfl, hb⟩; have HB2 := aM hb; clear hb))
 go_ret
 exact ⟨rfl, below_then HB1.out (below_size HB1.out) HB2.out⟩
end Go.Proofs.Ytoagljlnfakgjaa.PFnOver
