/- (thin) Written by a program of this session (wip/ovl.py) over the kit's print. -/
import Derived.Test.YtoagljlnfakgjaaPFnDiamondx0
namespace Go.Proofs.Ytoagljlnfakgjaa.PFnDiamond
open Go.RowKit Go.Proofs.YtoagljlnfakgjaaW.PrintWords Go.Proofs.YtoagljlnfakgjaaW.PrintLast Go.Proofs.YtoagljlnfakgjaaW.PrintMore
attribute [local go_sem] max2_int min2_int max_two min_two max_three min_three max_four min_four
set_option linter.unusedVariables false
set_option linter.unusedSimpArgs false
set_option maxHeartbeats 8000000
set_option maxRecDepth 100000
def yS.f (a0 : Int) : Option (Bool) := if a0 ≥ 65 then (some (decide (a0 ≤ 70))) else (some false)
theorem yS.calls (a0 : Int) (r : Bool) (w : World) (h : yS.f a0 = some r) :
  Calls Try.prog 88 #[.int .u8 a0] w fun e w' => e = .returned (.bool r) ∧ Drawn0 w w' := by
 have H : (if a0 ≥ 65 then (some (decide (a0 ≤ 70))) else (some false)) = some r := h
 clear h
 by_cases c2 : a0 ≥ 65
 ·rw [if_pos c2] at H
  have c2b0 : decide (65 ≤ a0) = true := decide_eq_true c2
  clear c2
  obtain rfl := Option.some.inj H
  go_enter Try.func88, Try.ntmps88
  go_wp2
  go_ret
  exact ⟨eS, by repeat (first | exact Drawn0.refl _ | apply Drawn0.step)⟩
 rw [if_neg c2] at H
 have c2b0 : decide (65 ≤ a0) = false := decide_eq_false c2
 clear c2
 obtain rfl := Option.some.inj H
 go_enter Try.func88, Try.ntmps88
 go_wp2
 go_ret
 exact ⟨eS, by repeat (first | exact Drawn0.refl _ | apply Drawn0.step)⟩
def yU.f (a0 : Int) : Option (Bool) := if a0 ≥ 97 then (if a0 ≤ 122 then (some true) else (if a0 ≥ 48 then (if a0 ≤ 57 then (some true) else (if a0 = 32 then (some true) else (if a0 = 46 then (some true) else (some (a0 == 44))))) else (if a0 = 32 then (some true) else (if a0 = 46 then (some true) else (some (a0 == 44)))))) else (if a0 ≥ 48 then (if a0 ≤ 57 then (some true) else (if a0 = 32 then (some true) else (if a0 = 46 then (some true) else (some (a0 == 44))))) else (if a0 = 32 then (some true) else (if a0 = 46 then (some true) else (some (a0 == 44)))))
theorem yU.calls (a0 : Int) (r : Bool) (w : World) (h : yU.f a0 = some r) :
  Calls Try.prog 89 #[.int .u8 a0] w fun e w' => e = .returned (.bool r) ∧ Drawn0 w w' := by
 have H : (if a0 ≥ 97 then (if a0 ≤ 122 then (some true) else (if a0 ≥ 48 then (if a0 ≤ 57 then (some true) else (if a0 = 32 then (some true) else (if a0 = 46 then (some true) else (some (a0 == 44))))) else (if a0 = 32 then (some true) else (if a0 = 46 then (some true) else (some (a0 == 44)))))) else (if a0 ≥ 48 then (if a0 ≤ 57 then (some true) else (if a0 = 32 then (some true) else (if a0 = 46 then (some true) else (some (a0 == 44))))) else (if a0 = 32 then (some true) else (if a0 = 46 then (some true) else (some (a0 == 44)))))) = some r := h
 clear h
 by_cases c2 : a0 ≥ 97
 rotate_left
 ·rw [if_neg c2] at H
  have c2b0 : decide (97 ≤ a0) = false := decide_eq_false c2
  clear c2
  by_cases c10 : a0 ≥ 48
  rotate_left
  ·rw [if_neg c10] at H
   have c10b0 : decide (48 ≤ a0) = false := decide_eq_false c10
   clear c10
   by_cases c14 : a0 = 32
   ·rw [if_pos c14] at H
    obtain ⟨c14b0, c14b1⟩ := pE c14
    clear c14
    obtain rfl := Option.some.inj H
    go_enter Try.func89, Try.ntmps89
    go_wp2
    go_ret
    exact ⟨eS, by repeat (first | exact Drawn0.refl _ | apply Drawn0.step)⟩
   rw [if_neg c14] at H
   obtain ⟨c14b0, c14b1⟩ := nE c14
   by_cases c15 : a0 = 46
   rotate_left
   ·rw [if_neg c15] at H
    obtain ⟨c15b0, c15b1⟩ := nE c15
    obtain rfl := Option.some.inj H
    go_enter Try.func89, Try.ntmps89
    go_wp2
    go_ret
    exact ⟨eS, by repeat (first | exact Drawn0.refl _ | apply Drawn0.step)⟩
   rw [if_pos c15] at H
   obtain ⟨c15b0, c15b1⟩ := pE c15
   clear c15
   obtain rfl := Option.some.inj H
   go_enter Try.func89, Try.ntmps89
   go_wp2
   go_ret
   exact ⟨eS, by repeat (first | exact Drawn0.refl _ | apply Drawn0.step)⟩
  rw [if_pos c10] at H
  have c10b0 : decide (48 ≤ a0) = true := decide_eq_true c10
  clear c10
  by_cases c11 : a0 ≤ 57
  ·rw [if_pos c11] at H
   have c11b0 : decide (a0 ≤ 57) = true := decide_eq_true c11
   clear c11
   obtain rfl := Option.some.inj H
   go_enter Try.func89, Try.ntmps89
   go_wp2
   go_ret
   exact ⟨eS, by repeat (first | exact Drawn0.refl _ | apply Drawn0.step)⟩
  rw [if_neg c11] at H
  have c11b0 : decide (a0 ≤ 57) = false := decide_eq_false c11
  clear c11
  by_cases c12 : a0 = 32
  ·rw [if_pos c12] at H
   obtain ⟨c12b0, c12b1⟩ := pE c12
   clear c12
   obtain rfl := Option.some.inj H
   go_enter Try.func89, Try.ntmps89
   go_wp2
   go_ret
   exact ⟨eS, by repeat (first | exact Drawn0.refl _ | apply Drawn0.step)⟩
  rw [if_neg c12] at H
  obtain ⟨c12b0, c12b1⟩ := nE c12
  by_cases c13 : a0 = 46
  rotate_left
  ·rw [if_neg c13] at H
   obtain ⟨c13b0, c13b1⟩ := nE c13
   obtain rfl := Option.some.inj H
   go_enter Try.func89, Try.ntmps89
   go_wp2
   go_ret
   exact ⟨eS, by repeat (first | exact Drawn0.refl _ | apply Drawn0.step)⟩
  rw [if_pos c13] at H
  obtain ⟨c13b0, c13b1⟩ := pE c13
  clear c13
  obtain rfl := Option.some.inj H
  go_enter Try.func89, Try.ntmps89
  go_wp2
  go_ret
  exact ⟨eS, by repeat (first | exact Drawn0.refl _ | apply Drawn0.step)⟩
 rw [if_pos c2] at H
 have c2b0 : decide (97 ≤ a0) = true := decide_eq_true c2
 clear c2
 by_cases c3 : a0 ≤ 122
 ·rw [if_pos c3] at H
  have c3b0 : decide (a0 ≤ 122) = true := decide_eq_true c3
  clear c3
  obtain rfl := Option.some.inj H
  go_enter Try.func89, Try.ntmps89
  go_wp2
  go_ret
  exact ⟨eS, by repeat (first | exact Drawn0.refl _ | apply Drawn0.step)⟩
 rw [if_neg c3] at H
 have c3b0 : decide (a0 ≤ 122) = false := decide_eq_false c3
 clear c3
 by_cases c4 : a0 ≥ 48
 rotate_left
 ·rw [if_neg c4] at H
  have c4b0 : decide (48 ≤ a0) = false := decide_eq_false c4
  clear c4
  by_cases c8 : a0 = 32
  ·rw [if_pos c8] at H
   obtain ⟨c8b0, c8b1⟩ := pE c8
   clear c8
   obtain rfl := Option.some.inj H
   go_enter Try.func89, Try.ntmps89
   go_wp2
   go_ret
   exact ⟨eS, by repeat (first | exact Drawn0.refl _ | apply Drawn0.step)⟩
  rw [if_neg c8] at H
  obtain ⟨c8b0, c8b1⟩ := nE c8
  by_cases c9 : a0 = 46
  rotate_left
  ·rw [if_neg c9] at H
   obtain ⟨c9b0, c9b1⟩ := nE c9
   obtain rfl := Option.some.inj H
   go_enter Try.func89, Try.ntmps89
   go_wp2
   go_ret
   exact ⟨eS, by repeat (first | exact Drawn0.refl _ | apply Drawn0.step)⟩
  rw [if_pos c9] at H
  obtain ⟨c9b0, c9b1⟩ := pE c9
  clear c9
  obtain rfl := Option.some.inj H
  go_enter Try.func89, Try.ntmps89
  go_wp2
  go_ret
  exact ⟨eS, by repeat (first | exact Drawn0.refl _ | apply Drawn0.step)⟩
 rw [if_pos c4] at H
 have c4b0 : decide (48 ≤ a0) = true := decide_eq_true c4
 clear c4
 by_cases c5 : a0 ≤ 57
 ·rw [if_pos c5] at H
  have c5b0 : decide (a0 ≤ 57) = true := decide_eq_true c5
  clear c5
  obtain rfl := Option.some.inj H
  go_enter Try.func89, Try.ntmps89
  go_wp2
  go_ret
  exact ⟨eS, by repeat (first | exact Drawn0.refl _ | apply Drawn0.step)⟩
 rw [if_neg c5] at H
 have c5b0 : decide (a0 ≤ 57) = false := decide_eq_false c5
 clear c5
 by_cases c6 : a0 = 32
 ·rw [if_pos c6] at H
  obtain ⟨c6b0, c6b1⟩ := pE c6
  clear c6
  obtain rfl := Option.some.inj H
  go_enter Try.func89, Try.ntmps89
  go_wp2
  go_ret
  exact ⟨eS, by repeat (first | exact Drawn0.refl _ | apply Drawn0.step)⟩
 rw [if_neg c6] at H
 obtain ⟨c6b0, c6b1⟩ := nE c6
 by_cases c7 : a0 = 46
 rotate_left
 ·rw [if_neg c7] at H
  obtain ⟨c7b0, c7b1⟩ := nE c7
  obtain rfl := Option.some.inj H
  go_enter Try.func89, Try.ntmps89
  go_wp2
  go_ret
  exact ⟨eS, by repeat (first | exact Drawn0.refl _ | apply Drawn0.step)⟩
 rw [if_pos c7] at H
 obtain ⟨c7b0, c7b1⟩ := pE c7
 clear c7
 obtain rfl := Option.some.inj H
 go_enter Try.func89, Try.ntmps89
 go_wp2
 go_ret
 exact ⟨eS, by repeat (first | exact Drawn0.refl _ | apply Drawn0.step)⟩
def yC.l0 : Nat → ByteArray → Int → Option (Bool)
 | 0, _, _ => none
 | k + 1, x0, x3 => if x3 < (x0.size : Int) then (if 0 ≤ x3 then ((yS.f (bt x0 x3)).bind fun t101 => (if t101 = true then (yC.l0 k x0 (wrap64 (x3 + 1))) else ((yU.f (bt x0 x3)).bind fun t102 => (if t102 = true then (yC.l0 k x0 (wrap64 (x3 + 1))) else (if (bt x0 x3) = 47 then (yC.l0 k x0 (wrap64 (x3 + 1))) else (some false)))))) else (none)) else (some true)
def yC.f (k : Nat) (a0 : ByteArray) : Option (Bool) := yC.l0 k a0 0
theorem yC.mono_l : ∀ k, (∀ y0 y1, LeO (yC.l0 k y0 y1) (yC.l0 (k + 1) y0 y1))
 | 0 => fun _ _ r h => by simp [yC.l0] at h
 | k + 1 => by
  have ih0 := yC.mono_l k
  ·intro y0 y1
   unfold yC.l0
   repeat' (with_reducible first | apply ih0 | apply LeO.refl | apply LeO.none | apply LeO.ite | refine LeO.bind ?_ fun _ => ?_)
theorem yC.mono : ∀ a0 k, LeO (yC.f k a0) (yC.f (k + 1) a0) := by
 intro a0 k
 have ih0 := yC.mono_l k
 unfold yC.f
 repeat' (with_reducible first | apply ih0 | apply LeO.refl | apply LeO.none | apply LeO.ite | refine LeO.bind ?_ fun _ => ?_)
theorem yC.calls (k : Nat) (a0 : ByteArray) (r : Bool) (w : World) (h : yC.f k a0 = some r) :
  Calls Try.prog 87 #[.string a0] w fun e w' => e = .returned (.bool r) ∧ Drawn0 w w' := by
 have H : (yC.l0 k a0 0) = some r := h
 clear h
 have H' := aM H
 clear H
 go_enter Try.func87, Try.ntmps87
 go_wp2
 go_loopg [3] k (fun kq v3 w' => ∃ (x3_1 : Int), v3 = .int .i64 x3_1 ∧ Aside0 (yC.l0 kq a0 x3_1 = some r) ∧ Aside0 (kq ≤ k) ∧ Drawn0 w w')
 case atStart => exact ⟨(0), aP19, H', ⟨Nat.le_refl _⟩, by repeat (first | exact Drawn0.refl _ | apply Drawn0.step)⟩
 case round =>
  clear H'
  obtain ⟨x3_1, rfl, HA, HK1, ⟨m1, rfl⟩⟩ := hrel
  cases gk with
  | zero => exact absurd HA.out (by simp [yC.l0])
  | succ k1 => ?_
  have H := HA.out
  clear HA
  simp only [yC.l0] at H
  by_cases c2 : x3_1 < (a0.size : Int)
  rotate_left
  ·rw [if_neg c2] at H
   have c2b0 : decide (x3_1 < (a0.size : Int)) = false := decide_eq_false c2
   clear c2
   obtain rfl := Option.some.inj H
   go_wp2
   go_ret
   exact ⟨eS, by repeat (first | exact Drawn0.refl _ | apply Drawn0.step)⟩
  rw [if_pos c2] at H
  have c2b0 : decide (x3_1 < (a0.size : Int)) = true := decide_eq_true c2
  clear c2
  obtain ⟨c3b0, H⟩ := gB H
  obtain ⟨t101, A5, H⟩ := bM H
  by_cases c6 : t101 = true
  ·subst c6
   rw [if_pos rfl] at H
   have H' := aM H
   clear H
   have p4 : 0 ≤ (x3_1 : Int) := of_decide_eq_true (by assumption)
   have q4 : x3_1 < (a0.size : Int) := of_decide_eq_true (by assumption)
   have hx4 := bt_at a0 x3_1
   replace p4 := eq_true p4
   replace q4 := eq_true q4
   go_wp2_with ((with_reducible refine gate_callee (f := 88) rfl ?_); refine gL 13 Try.func88 #[.int .u8 (bt a0 x3_1)] ?_; (with_reducible refine (yS.calls (bt a0 x3_1) true _ A5.out).mono ?_); rintro e w' ⟨rfl, ⟨nd, rfl⟩⟩; refine ⟨_, rfl, ?_⟩)
   go_roundg k1
   case measure => have := HK1.out; omega
   case rel => exact ⟨(wrap64 (x3_1 + 1)), aP19, H', ⟨by have := HK1.out; omega⟩, by repeat (first | exact Drawn0.refl _ | apply Drawn0.step)⟩
  replace c6 := Bool.eq_false_iff.mpr c6
  subst c6
  replace H := fF H
  obtain ⟨t102, A8, H⟩ := bM H
  by_cases c9 : t102 = true
  ·subst c9
   rw [if_pos rfl] at H
   have H' := aM H
   clear H
   have p4 : 0 ≤ (x3_1 : Int) := of_decide_eq_true (by assumption)
   have q4 : x3_1 < (a0.size : Int) := of_decide_eq_true (by assumption)
   have hx4 := bt_at a0 x3_1
   replace p4 := eq_true p4
   replace q4 := eq_true q4
   go_wp2_with (first | ((with_reducible refine gate_callee (f := 88) rfl ?_); refine gL 13 Try.func88 #[.int .u8 (bt a0 x3_1)] ?_; (with_reducible refine (yS.calls (bt a0 x3_1) false _ A5.out).mono ?_); rintro e w' ⟨rfl, ⟨nd, rfl⟩⟩; refine ⟨_, rfl, ?_⟩; obtain ⟨p7, q7⟩ := dT x3_1 (a0.size : Int); have hx7 := bt_at a0 x3_1) | (go_at_call 89; (with_reducible refine (yU.calls (bt a0 x3_1) true _ A8.out).mono ?_); rintro e w' ⟨rfl, ⟨nd, rfl⟩⟩))
   go_roundg k1
   case measure => have := HK1.out; omega
   case rel => exact ⟨(wrap64 (x3_1 + 1)), aP19, H', ⟨by have := HK1.out; omega⟩, by repeat (first | exact Drawn0.refl _ | apply Drawn0.step)⟩
  replace c9 := Bool.eq_false_iff.mpr c9
  subst c9
  replace H := fF H
  by_cases c11 : (bt a0 x3_1) = 47
  rotate_left
  ·rw [if_neg c11] at H
   obtain ⟨c11b0, c11b1⟩ := nE c11
   obtain rfl := Option.some.inj H
   have p4 : 0 ≤ (x3_1 : Int) := of_decide_eq_true (by assumption)
   have q4 : x3_1 < (a0.size : Int) := of_decide_eq_true (by assumption)
   have hx4 := bt_at a0 x3_1
   replace p4 := eq_true p4
   replace q4 := eq_true q4
   go_wp2_with (first | ((with_reducible refine gate_callee (f := 88) rfl ?_); refine gL 13 Try.func88 #[.int .u8 (bt a0 x3_1)] ?_; (with_reducible refine (yS.calls (bt a0 x3_1) false _ A5.out).mono ?_); rintro e w' ⟨rfl, ⟨nd, rfl⟩⟩; refine ⟨_, rfl, ?_⟩; obtain ⟨p7, q7⟩ := dT x3_1 (a0.size : Int); have hx7 := bt_at a0 x3_1) | (go_at_call 89; (with_reducible refine (yU.calls (bt a0 x3_1) false _ A8.out).mono ?_); rintro e w' ⟨rfl, ⟨nd, rfl⟩⟩; obtain ⟨p10, q10⟩ := dT x3_1 (a0.size : Int); have hx10 := bt_at a0 x3_1))
   go_ret
   exact ⟨eS, by repeat (first | exact Drawn0.refl _ | apply Drawn0.step)⟩
  rw [if_pos c11] at H
  obtain ⟨c11b0, c11b1⟩ := pE c11
  clear c11
  have H' := aM H
  clear H
  have p4 : 0 ≤ (x3_1 : Int) := of_decide_eq_true (by assumption)
  have q4 : x3_1 < (a0.size : Int) := of_decide_eq_true (by assumption)
  have hx4 := bt_at a0 x3_1
  replace p4 := eq_true p4
  replace q4 := eq_true q4
  go_wp2_with (first | ((with_reducible refine gate_callee (f := 88) rfl ?_); refine gL 13 Try.func88 #[.int .u8 (bt a0 x3_1)] ?_; (with_reducible refine (yS.calls (bt a0 x3_1) false _ A5.out).mono ?_); rintro e w' ⟨rfl, ⟨nd, rfl⟩⟩; refine ⟨_, rfl, ?_⟩; obtain ⟨p7, q7⟩ := dT x3_1 (a0.size : Int); have hx7 := bt_at a0 x3_1) | (go_at_call 89; (with_reducible refine (yU.calls (bt a0 x3_1) false _ A8.out).mono ?_); rintro e w' ⟨rfl, ⟨nd, rfl⟩⟩; obtain ⟨p10, q10⟩ := dT x3_1 (a0.size : Int); have hx10 := bt_at a0 x3_1))
  go_roundg k1
  case measure => have := HK1.out; omega
  case rel => exact ⟨(wrap64 (x3_1 + 1)), aP19, H', ⟨by have := HK1.out; omega⟩, by repeat (first | exact Drawn0.refl _ | apply Drawn0.step)⟩
def yE.f (k : Nat) (a0 : ByteArray) : Option (Bool) := (yC.f k a0).bind fun t103 => (if t103 = true then (some (decide ((a0.size : Int) ≤ 300))) else (some false))
theorem yE.mono : ∀ a0 k, LeO (yE.f k a0) (yE.f (k + 1) a0) := by
 intro a0 k
 unfold yE.f
 repeat' (with_reducible first | apply yC.mono | apply LeO.refl | apply LeO.none | apply LeO.ite | refine LeO.bind ?_ fun _ => ?_)
theorem yE.calls (k : Nat) (a0 : ByteArray) (r : Bool) (w : World) (h : yE.f k a0 = some r) :
  Calls Try.prog 79 #[.string a0] w fun e w' => e = .returned (.bool r) ∧ Drawn0 w w' := by
 have H : ((yC.f k a0).bind fun t103 => (if t103 = true then (some (decide ((a0.size : Int) ≤ 300))) else (some false))) = some r := h
 clear h
 obtain ⟨t103, A2, H⟩ := bM H
 by_cases c3 : t103 = true
 ·subst c3
  rw [if_pos rfl] at H
  obtain rfl := Option.some.inj H
  go_enter Try.func79, Try.ntmps79
  go_wp2_with ((with_reducible refine gate_callee (f := 87) rfl ?_); refine gL 4 Try.func87 #[.string a0] ?_; (with_reducible refine (yC.calls k a0 true _ A2.out).mono ?_); rintro e w' ⟨rfl, ⟨nd, rfl⟩⟩; refine ⟨_, rfl, ?_⟩)
  go_ret
  exact ⟨eS, by repeat (first | exact Drawn0.refl _ | apply Drawn0.step)⟩
 replace c3 := Bool.eq_false_iff.mpr c3
 subst c3
 replace H := fF H
 obtain rfl := Option.some.inj H
 go_enter Try.func79, Try.ntmps79
 go_wp2_with ((with_reducible refine gate_callee (f := 87) rfl ?_); refine gL 4 Try.func87 #[.string a0] ?_; (with_reducible refine (yC.calls k a0 false _ A2.out).mono ?_); rintro e w' ⟨rfl, ⟨nd, rfl⟩⟩; refine ⟨_, rfl, ?_⟩)
 go_ret
 exact ⟨eS, by repeat (first | exact Drawn0.refl _ | apply Drawn0.step)⟩
def yX.f (a0 : Int) (a1 : Int) (a2 : Int) : Option (Bool) := if a0 ≥ a1 then (some (decide (a0 ≤ a2))) else (some false)
theorem yX.calls (a0 : Int) (a1 : Int) (a2 : Int) (r : Bool) (w : World) (h : yX.f a0 a1 a2 = some r) :
  Calls Try.prog 83 #[.int .i64 a0, .int .i64 a1, .int .i64 a2] w fun e w' => e = .returned (.bool r) ∧ Drawn0 w w' := by
 have H : (if a0 ≥ a1 then (some (decide (a0 ≤ a2))) else (some false)) = some r := h
 clear h
 by_cases c4 : a0 ≥ a1
 ·rw [if_pos c4] at H
  have c4b0 : decide (a1 ≤ a0) = true := decide_eq_true c4
  clear c4
  obtain rfl := Option.some.inj H
  go_enter Try.func83, Try.ntmps83
  go_wp2
  go_ret
  exact ⟨eS, by repeat (first | exact Drawn0.refl _ | apply Drawn0.step)⟩
 rw [if_neg c4] at H
 have c4b0 : decide (a1 ≤ a0) = false := decide_eq_false c4
 clear c4
 obtain rfl := Option.some.inj H
 go_enter Try.func83, Try.ntmps83
 go_wp2
 go_ret
 exact ⟨eS, by repeat (first | exact Drawn0.refl _ | apply Drawn0.step)⟩
def yQ.f (k : Nat) (a0_0 : Int) (a0_1 : ByteArray) (a0_2 : ByteArray) : Option (Bool) := if a0_0 = 0 then (if a0_1.toList = ([] : List UInt8) then (if a0_2.toList = ([] : List UInt8) then (some false) else ((yE.f k a0_2).bind fun t105 => (some t105))) else (if a0_2.toList = ([] : List UInt8) then ((yE.f k a0_1).bind fun t106 => (some t106)) else (some false))) else ((yX.f a0_0 1 300).bind fun t107 => (if t107 = true then (if a0_1.toList = ([] : List UInt8) then (some (a0_2.toList == ([] : List UInt8))) else (some false)) else (some false)))
theorem yQ.mono : ∀ a0 a1 a2 k, LeO (yQ.f k a0 a1 a2) (yQ.f (k + 1) a0 a1 a2) := by
 intro a0 a1 a2 k
 unfold yQ.f
 repeat' (with_reducible first | apply yE.mono | apply LeO.refl | apply LeO.none | apply LeO.ite | refine LeO.bind ?_ fun _ => ?_)
theorem yQ.calls (k : Nat) (a0_0 : Int) (a0_1 : ByteArray) (a0_2 : ByteArray) (r : Bool) (w : World) (h : yQ.f k a0_0 a0_1 a0_2 = some r) :
  Calls Try.prog 64 #[.agg #[.int .i64 a0_0, .string a0_1, .string a0_2]] w fun e w' => e = .returned (.bool r) ∧ Below w.heap.size w w' := by
 have hu60 := Try.underlying60
 have HB := aM (Below.refl w.heap.size w)
 have H : (if a0_0 = 0 then (if a0_1.toList = ([] : List UInt8) then (if a0_2.toList = ([] : List UInt8) then (some false) else ((yE.f k a0_2).bind fun t105 => (some t105))) else (if a0_2.toList = ([] : List UInt8) then ((yE.f k a0_1).bind fun t106 => (some t106)) else (some false))) else ((yX.f a0_0 1 300).bind fun t107 => (if t107 = true then (if a0_1.toList = ([] : List UInt8) then (some (a0_2.toList == ([] : List UInt8))) else (some false)) else (some false)))) = some r := h
 clear h
 by_cases c2 : a0_0 = 0
 rotate_left
 ·rw [if_neg c2] at H
  obtain ⟨c2b0, c2b1⟩ := nE c2
  obtain ⟨t107, A16, H⟩ := bM H
  by_cases c17 : t107 = true
  rotate_left
  ·replace c17 := Bool.eq_false_iff.mpr c17
   subst c17
   replace H := fF H
   obtain rfl := Option.some.inj H
   go_enter Try.func64, Try.ntmps64
   go_wp2_with (first | ((with_reducible refine gate_dst (N := 1) rfl ?_); refine box_event rfl (N := 1) rfl (cs := #[.int .i64 a0_0, .string a0_1, .string a0_2]) (t := 60) aP38 ?_; intro gb104 hg w23 hbox hb; have BK104 := aM (hbox); have GW104 := aM (bG (w := w) hg); have GE104 := aM (bG (w := w) hg); replace HB := aM (below_step bB hb); clear hb hbox hg; obtain ⟨hcz24_0, hcz24_1, hcz24_2, hfz24_0, hfz24_1, hfz24_2⟩ := bx3 BK104.out) | ((with_reducible refine gate_callee (f := 83) rfl ?_); refine gL 9 Try.func83 #[.int .i64 a0_0, .int .i64 1, .int .i64 300] ?_; (with_reducible refine (yX.calls a0_0 1 300 false _ A16.out).mono ?_); rintro e w' ⟨rfl, ⟨nd, rfl⟩⟩; refine ⟨_, rfl, ?_⟩))
   go_ret
   exact ⟨eR, aP9⟩
  subst c17
  rw [if_pos rfl] at H
  by_cases c18 : a0_1.toList = ([] : List UInt8)
  rotate_left
  ·rw [if_neg c18] at H
   obtain ⟨c18b0, c18b1⟩ := nE c18
   try have c18e : a0_1.toList.isEmpty = false := List.isEmpty_eq_false_iff.mpr c18
   obtain rfl := Option.some.inj H
   go_enter Try.func64, Try.ntmps64
   go_wp2_with (first | ((with_reducible refine gate_dst (N := 1) rfl ?_); refine box_event rfl (N := 1) rfl (cs := #[.int .i64 a0_0, .string a0_1, .string a0_2]) (t := 60) aP38 ?_; intro gb104 hg w21 hbox hb; have BK104 := aM (hbox); have GW104 := aM (bG (w := w) hg); have GE104 := aM (bG (w := w) hg); replace HB := aM (below_step bB hb); clear hb hbox hg; obtain ⟨hcz22_0, hcz22_1, hcz22_2, hfz22_0, hfz22_1, hfz22_2⟩ := bx3 BK104.out) | ((with_reducible refine gate_callee (f := 83) rfl ?_); refine gL 9 Try.func83 #[.int .i64 a0_0, .int .i64 1, .int .i64 300] ?_; (with_reducible refine (yX.calls a0_0 1 300 true _ A16.out).mono ?_); rintro e w' ⟨rfl, ⟨nd, rfl⟩⟩; refine ⟨_, rfl, ?_⟩))
   go_ret
   exact ⟨eR, aP9⟩
  rw [if_pos c18] at H
  obtain ⟨c18b0, c18b1⟩ := pE c18
  try have c18e : a0_1.toList.isEmpty = true := List.isEmpty_iff.mpr c18
  clear c18
  obtain rfl := Option.some.inj H
  go_enter Try.func64, Try.ntmps64
  go_wp2_with (first | ((with_reducible refine gate_dst (N := 1) rfl ?_); refine box_event rfl (N := 1) rfl (cs := #[.int .i64 a0_0, .string a0_1, .string a0_2]) (t := 60) aP38 ?_; intro gb104 hg w19 hbox hb; have BK104 := aM (hbox); have GW104 := aM (bG (w := w) hg); have GE104 := aM (bG (w := w) hg); replace HB := aM (below_step bB hb); clear hb hbox hg; obtain ⟨hcz20_0, hcz20_1, hcz20_2, hfz20_0, hfz20_1, hfz20_2⟩ := bx3 BK104.out) | ((with_reducible refine gate_callee (f := 83) rfl ?_); refine gL 9 Try.func83 #[.int .i64 a0_0, .int .i64 1, .int .i64 300] ?_; (with_reducible refine (yX.calls a0_0 1 300 true _ A16.out).mono ?_); rintro e w' ⟨rfl, ⟨nd, rfl⟩⟩; refine ⟨_, rfl, ?_⟩))
  go_ret
  exact ⟨eR, aP9⟩
 rw [if_pos c2] at H
 obtain ⟨c2b0, c2b1⟩ := pE c2
 clear c2
 by_cases c3 : a0_1.toList = ([] : List UInt8)
 ·rw [if_pos c3] at H
  obtain ⟨c3b0, c3b1⟩ := pE c3
  try have c3e : a0_1.toList.isEmpty = true := List.isEmpty_iff.mpr c3
  clear c3
  by_cases c4 : a0_2.toList = ([] : List UInt8)
  ·rw [if_pos c4] at H
   obtain ⟨c4b0, c4b1⟩ := pE c4
   try have c4e : a0_2.toList.isEmpty = true := List.isEmpty_iff.mpr c4
   clear c4
   obtain rfl := Option.some.inj H
   go_enter Try.func64, Try.ntmps64
   go_wp2_with ((with_reducible refine gate_dst (N := 1) rfl ?_); refine box_event rfl (N := 1) rfl (cs := #[.int .i64 a0_0, .string a0_1, .string a0_2]) (t := 60) aP38 ?_; intro gb104 hg w5 hbox hb; have BK104 := aM (hbox); have GW104 := aM (bG (w := w) hg); have GE104 := aM (bG (w := w) hg); replace HB := aM (below_step bB hb); clear hb hbox hg; obtain ⟨hcz6_0, hcz6_1, hcz6_2, hfz6_0, hfz6_1, hfz6_2⟩ := bx3 BK104.out)
   go_ret
   exact ⟨eR, aP9⟩
  rw [if_neg c4] at H
  obtain ⟨c4b0, c4b1⟩ := nE c4
  try have c4e : a0_2.toList.isEmpty = false := List.isEmpty_eq_false_iff.mpr c4
  obtain ⟨t105, A7, H⟩ := bM H
  obtain rfl := Option.some.inj H
  go_enter Try.func64, Try.ntmps64
  go_wp2_with (first | ((with_reducible refine gate_dst (N := 1) rfl ?_); refine box_event rfl (N := 1) rfl (cs := #[.int .i64 a0_0, .string a0_1, .string a0_2]) (t := 60) aP38 ?_; intro gb104 hg w8 hbox hb; have BK104 := aM (hbox); have GW104 := aM (bG (w := w) hg); have GE104 := aM (bG (w := w) hg); replace HB := aM (below_step bB hb); clear hb hbox hg; obtain ⟨hcz9_0, hcz9_1, hcz9_2, hfz9_0, hfz9_1, hfz9_2⟩ := bx3 BK104.out) | (go_at_call 79; (with_reducible refine (yE.calls k a0_2 t105 _ A7.out).mono ?_); rintro e w' ⟨rfl, ⟨nd, rfl⟩⟩))
  go_ret
  exact ⟨eR, aP9⟩
 rw [if_neg c3] at H
 obtain ⟨c3b0, c3b1⟩ := nE c3
 try have c3e : a0_1.toList.isEmpty = false := List.isEmpty_eq_false_iff.mpr c3
 by_cases c10 : a0_2.toList = ([] : List UInt8)
 rotate_left
 ·rw [if_neg c10] at H
  obtain ⟨c10b0, c10b1⟩ := nE c10
  try have c10e : a0_2.toList.isEmpty = false := List.isEmpty_eq_false_iff.mpr c10
  obtain rfl := Option.some.inj H
  go_enter Try.func64, Try.ntmps64
  go_wp2_with ((with_reducible refine gate_dst (N := 1) rfl ?_); refine box_event rfl (N := 1) rfl (cs := #[.int .i64 a0_0, .string a0_1, .string a0_2]) (t := 60) aP38 ?_; intro gb104 hg w14 hbox hb; have BK104 := aM (hbox); have GW104 := aM (bG (w := w) hg); have GE104 := aM (bG (w := w) hg); replace HB := aM (below_step bB hb); clear hb hbox hg; obtain ⟨hcz15_0, hcz15_1, hcz15_2, hfz15_0, hfz15_1, hfz15_2⟩ := bx3 BK104.out)
  go_ret
  exact ⟨eR, aP9⟩
 rw [if_pos c10] at H
 obtain ⟨c10b0, c10b1⟩ := pE c10
 try have c10e : a0_2.toList.isEmpty = true := List.isEmpty_iff.mpr c10
 clear c10
 obtain ⟨t106, A11, H⟩ := bM H
 obtain rfl := Option.some.inj H
 go_enter Try.func64, Try.ntmps64
 go_wp2_with (first | ((with_reducible refine gate_dst (N := 1) rfl ?_); refine box_event rfl (N := 1) rfl (cs := #[.int .i64 a0_0, .string a0_1, .string a0_2]) (t := 60) aP38 ?_; intro gb104 hg w12 hbox hb; have BK104 := aM (hbox); have GW104 := aM (bG (w := w) hg); have GE104 := aM (bG (w := w) hg); replace HB := aM (below_step bB hb); clear hb hbox hg; obtain ⟨hcz13_0, hcz13_1, hcz13_2, hfz13_0, hfz13_1, hfz13_2⟩ := bx3 BK104.out) | (go_at_call 79; (with_reducible refine (yE.calls k a0_1 t106 _ A11.out).mono ?_); rintro e w' ⟨rfl, ⟨nd, rfl⟩⟩))
 go_ret
 exact ⟨eR, aP9⟩
def yA.l0 : Nat → Int → Int → List S60 → Int → Int → Option (Int × Int)
 | 0, _, _, _, _, _ => none
 | k + 1, x4, x5, x8, x9, x10 => if x10 < x9 then (if 0 ≤ x10 then (if x10 < (x8.length : Int) then (yA.l0 k (wrap64 (x4 + (wrap64 (((rd_T60 x8 x10).f0) + (((rd_T60 x8 x10).f2).size : Int))))) (wrap64 (x5 + (wrap64 (((rd_T60 x8 x10).f0) + (((rd_T60 x8 x10).f1).size : Int))))) x8 x9 (wrap64 (x10 + 1))) else (none)) else (none)) else (some (x4, x5))
def yA.f (k : Nat) (l0 : List S60) : Option (Int × Int) := yA.l0 k 0 0 l0 (l0.length : Int) 0
theorem yA.mono_l : ∀ k, (∀ y0 y1 y2 y3 y4, LeO (yA.l0 k y0 y1 y2 y3 y4) (yA.l0 (k + 1) y0 y1 y2 y3 y4))
 | 0 => fun _ _ _ _ _ r h => by simp [yA.l0] at h
 | k + 1 => by
  have ih0 := yA.mono_l k
  ·intro y0 y1 y2 y3 y4
   unfold yA.l0
   repeat' (with_reducible first | apply ih0 | apply LeO.refl | apply LeO.none | apply LeO.ite | refine LeO.bind ?_ fun _ => ?_)
theorem yA.mono : ∀ a0 k, LeO (yA.f k a0) (yA.f (k + 1) a0) := by
 intro a0 k
 have ih0 := yA.mono_l k
 unfold yA.f
 repeat' (with_reducible first | apply ih0 | apply LeO.refl | apply LeO.none | apply LeO.ite | refine LeO.bind ?_ fun _ => ?_)
theorem yA.calls (k : Nat) (A0 : Option Addr) (c0 : Nat) (l0 : List S60) (r1 : Int) (r2 : Int) (w : World) (hr0 : Kd.C k60 w A0 l0.length l0) (hc0 : l0.length ≤ c0) (h : yA.f k l0 = some (r1, r2)) :
  Calls Try.prog 65 #[.slice A0 l0.length c0] w fun e w' => e = .returned (.tuple #[.int .i64 r1, .int .i64 r2]) ∧ Below w.heap.size w w' := by
 have hu60 := Try.underlying60
 have HR0 := aM hr0
 have HC0 := aM hc0
 clear hr0 hc0
 have HB := aM (Below.refl w.heap.size w)
 have H : (yA.l0 k 0 0 l0 (l0.length : Int) 0) = some (r1, r2) := h
 clear h
 have H' := aM H
 clear H
 go_enter Try.func65, Try.ntmps65
 go_wp2
 go_loopg [4, 5, 10] k (fun kq v4 v5 v10 w' => ∃ (x4_1 : Int) (x5_1 : Int) (x10_1 : Int), v4 = .int .i64 x4_1 ∧ v5 = .int .i64 x5_1 ∧ v10 = .int .i64 x10_1 ∧ Aside0 (yA.l0 kq x4_1 x5_1 l0 (l0.length : Int) x10_1 = some (r1, r2)) ∧ Aside0 (kq ≤ k) ∧ Aside0 (Below w.heap.size w w'))
 case atStart => exact ⟨(0), (0), (0), aP19, aP19, aP19, H', ⟨Nat.le_refl _⟩, ⟨bB⟩⟩
 case round =>
  clear H'
  obtain ⟨x4_1, x5_1, x10_1, rfl, rfl, rfl, HA, HK1, HB⟩ := hrel
  cases gk with
  | zero => exact absurd HA.out (by simp [yA.l0])
  | succ k1 => ?_
  have H := HA.out
  clear HA
  simp only [yA.l0] at H
  by_cases c2 : x10_1 < (l0.length : Int)
  rotate_left
  ·rw [if_neg c2] at H
   have c2b0 : decide (x10_1 < (l0.length : Int)) = false := decide_eq_false c2
   clear c2
   simp only [Option.some.injEq, Prod.mk.injEq] at H
   obtain ⟨rfl, rfl⟩ := H
   go_wp2
   go_ret2
   exact ⟨eR, bB⟩
  rw [if_pos c2] at H
  have c2b0 : decide (x10_1 < (l0.length : Int)) = true := decide_eq_true c2
  clear c2
  obtain ⟨c3b0, H⟩ := gB H
  obtain ⟨c4b0, H⟩ := gB H
  have H' := aM H
  clear H
  have p108 : 0 ≤ (x10_1 : Int) := of_decide_eq_true (by assumption)
  have q108 : x10_1 < (l0.length : Int) := of_decide_eq_true (by assumption)
  obtain ⟨ad108, e108, hx108_0, hx108_1, hx108_2⟩ := at_T60 HR0.out x10_1 p108 q108
  cases e108
  replace hx108_0 := hC HB.out hx108_0
  replace hx108_1 := hC HB.out hx108_1
  replace hx108_2 := hC HB.out hx108_2
  replace p108 := eq_true p108
  replace q108 := eq_true q108
  go_wp2_with ((with_reducible refine gate_dst (N := 7) rfl ?_); refine box_event rfl (N := 7) rfl (cs := #[.int .i64 0, .string ⟨#[]⟩, .string ⟨#[]⟩]) (t := 60) aP38 ?_; intro gb109 hg w5 hbox hb; have BK109 := aM (hbox); have GW109 := aM (bG (w := w) hg); have GE109 := aM (bG (w := w) hg); replace HB := aM (below_step bB hb); clear hb hbox hg; obtain ⟨hcz6_0, hcz6_1, hcz6_2, hfz6_0, hfz6_1, hfz6_2⟩ := bx3 BK109.out)
  go_roundg k1
  case measure => have := HK1.out; omega
  case rel => exact ⟨(wrap64 (x4_1 + (wrap64 (((rd_T60 l0 x10_1).f0) + (((rd_T60 l0 x10_1).f2).size : Int))))), (wrap64 (x5_1 + (wrap64 (((rd_T60 l0 x10_1).f0) + (((rd_T60 l0 x10_1).f1).size : Int))))), (wrap64 (x10_1 + 1)), aP19, aP19, aP19, H', ⟨by have := HK1.out; omega⟩, ⟨by repeat (first | (with_reducible first | exact HB.out | apply below_alloc | apply pw_below_drewN | apply below_drew1 | refine below_set ?_ GE109.out) | exact HB.out)⟩⟩
def jI.l0 : Nat → List S60 → List S60 → Int → Int → Option (Bool)
 | 0, _, _, _, _ => none
 | k + 1, x0, x10, x11, x12 => if x12 < x11 then (if 0 ≤ x12 then (if x12 < (x10.length : Int) then ((yQ.f k ((rd_T60 x10 x12).f0) ((rd_T60 x10 x12).f1) ((rd_T60 x10 x12).f2)).bind fun t112 => (if t112 = true then (jI.l0 k x0 x10 x11 (wrap64 (x12 + 1))) else (some false))) else (none)) else (none)) else ((yA.f k x0).bind fun bt113 => (if bt113.1 ≤ 300 then (some (decide (bt113.2 ≤ 300))) else (some false)))
def jI.f (k : Nat) (l0 : List S60) : Option (Bool) := if (l0.length : Int) > 60 then (some false) else (jI.l0 k l0 l0 (l0.length : Int) 0)
theorem jI.mono_l : ∀ k, (∀ y0 y1 y2 y3, LeO (jI.l0 k y0 y1 y2 y3) (jI.l0 (k + 1) y0 y1 y2 y3))
 | 0 => fun _ _ _ _ r h => by simp [jI.l0] at h
 | k + 1 => by
  have ih0 := jI.mono_l k
  ·intro y0 y1 y2 y3
   unfold jI.l0
   repeat' (with_reducible first | apply ih0 | apply yQ.mono | apply yA.mono | apply LeO.refl | apply LeO.none | apply LeO.ite | refine LeO.bind ?_ fun _ => ?_)
theorem jI.mono : ∀ a0 k, LeO (jI.f k a0) (jI.f (k + 1) a0) := by
 intro a0 k
 have ih0 := jI.mono_l k
 unfold jI.f
 repeat' (with_reducible first | apply ih0 | apply yQ.mono | apply yA.mono | apply LeO.refl | apply LeO.none | apply LeO.ite | refine LeO.bind ?_ fun _ => ?_)
theorem jI.calls (k : Nat) (A0 : Option Addr) (c0 : Nat) (l0 : List S60) (r : Bool) (w : World) (hr0 : Kd.C k60 w A0 l0.length l0) (hc0 : l0.length ≤ c0) (h : jI.f k l0 = some r) :
  Calls Try.prog 34 #[.slice A0 l0.length c0] w fun e w' => e = .returned (.bool r) ∧ Below w.heap.size w w' := by
 have hu60 := Try.underlying60
 have HR0 := aM hr0
 have HC0 := aM hc0
 clear hr0 hc0
 have HB := aM (Below.refl w.heap.size w)
 have H : (if (l0.length : Int) > 60 then (some false) else (jI.l0 k l0 l0 (l0.length : Int) 0)) = some r := h
 clear h
 by_cases c2 : (l0.length : Int) > 60
 ·rw [if_pos c2] at H
  have c2b0 : decide (60 < (l0.length : Int)) = true := decide_eq_true c2
  have c2b1 : decide (60 < l0.length) = true := decide_eq_true (by omega)
  clear c2
  obtain rfl := Option.some.inj H
  go_enter Try.func34, Try.ntmps34
  go_wp2
  go_ret
  exact ⟨eR, bB⟩
 rw [if_neg c2] at H
 have c2b0 : decide (60 < (l0.length : Int)) = false := decide_eq_false c2
 have c2b1 : decide (60 < l0.length) = false := decide_eq_false (by omega)
 clear c2
 have H' := aM H
 clear H
 go_enter Try.func34, Try.ntmps34
 go_wp2
 go_loopg [12] k (fun kq v12 w' => ∃ (x12_1 : Int), v12 = .int .i64 x12_1 ∧ Aside0 (jI.l0 kq l0 l0 (l0.length : Int) x12_1 = some r) ∧ Aside0 (kq ≤ k) ∧ Aside0 (Below w.heap.size w w'))
 case atStart => exact ⟨(0), aP19, H', ⟨Nat.le_refl _⟩, ⟨bB⟩⟩
 case round =>
  clear H'
  try clear c2
  try clear c2b0
  try clear c2b1
  obtain ⟨x12_1, rfl, HA, HK1, HB⟩ := hrel
  cases gk with
  | zero => exact absurd HA.out (by simp [jI.l0])
  | succ k1 => ?_
  have H := HA.out
  clear HA
  simp only [jI.l0] at H
  by_cases c3 : x12_1 < (l0.length : Int)
  rotate_left
  ·rw [if_neg c3] at H
   have c3b0 : decide (x12_1 < (l0.length : Int)) = false := decide_eq_false c3
   clear c3
   obtain ⟨⟨t113, t114⟩, A14, H⟩ := bM H
   by_cases c15 : t113 ≤ 300
   ·rw [if_pos c15] at H
    have c15b0 : decide (t113 ≤ 300) = true := decide_eq_true c15
    clear c15
    obtain rfl := Option.some.inj H
    go_wp2_with ((with_reducible refine gate_callee (f := 65) rfl ?_); refine gL 22 Try.func65 #[.slice A0 l0.length c0] ?_; (with_reducible refine (yA.calls k1 _ _ l0 t113 t114 _ ?s1 ?s2 A14.out).mono ?_); (case s1 => exact cC (Kd.C_below HR0.out HB.out)); (case s2 => exact HC0.out); rintro e w16 ⟨rfl, hb⟩; refine ⟨_, rfl, ?_⟩; replace HB := aM (below_step bB hb); clear hb)
    go_ret
    exact ⟨eR, bB⟩
   rw [if_neg c15] at H
   have c15b0 : decide (t113 ≤ 300) = false := decide_eq_false c15
   clear c15
   obtain rfl := Option.some.inj H
   go_wp2_with ((with_reducible refine gate_callee (f := 65) rfl ?_); refine gL 22 Try.func65 #[.slice A0 l0.length c0] ?_; (with_reducible refine (yA.calls k1 _ _ l0 t113 t114 _ ?s1 ?s2 A14.out).mono ?_); (case s1 => exact cC (Kd.C_below HR0.out HB.out)); (case s2 => exact HC0.out); rintro e w17 ⟨rfl, hb⟩; refine ⟨_, rfl, ?_⟩; replace HB := aM (below_step bB hb); clear hb)
   go_ret
   exact ⟨eR, bB⟩
  rw [if_pos c3] at H
  have c3b0 : decide (x12_1 < (l0.length : Int)) = true := decide_eq_true c3
  clear c3
  obtain ⟨c4b0, H⟩ := gB H
  obtain ⟨c5b0, H⟩ := gB H
  obtain ⟨t112, A6, H⟩ := bM H
  by_cases c7 : t112 = true
  ·subst c7
   rw [if_pos rfl] at H
   have H' := aM H
   clear H
   have p110 : 0 ≤ (x12_1 : Int) := of_decide_eq_true (by assumption)
   have q110 : x12_1 < (l0.length : Int) := of_decide_eq_true (by assumption)
   obtain ⟨ad110, e110, hx110_0, hx110_1, hx110_2⟩ := at_T60 HR0.out x12_1 p110 q110
   cases e110
   replace hx110_0 := hC HB.out hx110_0
   replace hx110_1 := hC HB.out hx110_1
   replace hx110_2 := hC HB.out hx110_2
   replace p110 := eq_true p110
   replace q110 := eq_true q110
   go_wp2_with (first | ((with_reducible refine gate_dst (N := 4) rfl ?_); refine box_event rfl (N := 4) rfl (cs := #[.int .i64 0, .string ⟨#[]⟩, .string ⟨#[]⟩]) (t := 60) aP38 ?_; intro gb111 hg w8 hbox hb; have BK111 := aM (hbox); have GW111 := aM (bG (w := w) hg); have GE111 := aM (bG (w := w) hg); replace HB := aM (below_step bB hb); clear hb hbox hg; obtain ⟨hcz9_0, hcz9_1, hcz9_2, hfz9_0, hfz9_1, hfz9_2⟩ := bx3 BK111.out) | ((with_reducible refine gate_callee (f := 64) rfl ?_); refine gL 17 Try.func64 #[.agg #[.int .i64 ((rd_T60 l0 x12_1).f0), .string ((rd_T60 l0 x12_1).f1), .string ((rd_T60 l0 x12_1).f2)]] ?_; (with_reducible refine (yQ.calls k1 ((rd_T60 l0 x12_1).f0) ((rd_T60 l0 x12_1).f1) ((rd_T60 l0 x12_1).f2) true _ A6.out).mono ?_); rintro e w10 ⟨rfl, hb⟩; refine ⟨_, rfl, ?_⟩; have n0_ := aM (blk_below (g := gb111) (o := .cells #[.int .i64 ((rd_T60 l0 x12_1).f0), .string ((rd_T60 l0 x12_1).f1), .string ((rd_T60 l0 x12_1).f2)] 60 (0, 0)) (by (with_reducible repeat (first | refine blk_drewN ?_ _ | refine blk_drew ?_ | refine blk_alloc ?_ _)); refine blk_put (cs := #[.int .i64 ((rd_T60 l0 x12_1).f0), .string ((rd_T60 l0 x12_1).f1), .string ⟨#[]⟩]) ?_ 2 _ rfl; (with_reducible repeat (first | refine blk_drewN ?_ _ | refine blk_drew ?_ | refine blk_alloc ?_ _)); refine blk_put (cs := #[.int .i64 ((rd_T60 l0 x12_1).f0), .string ⟨#[]⟩, .string ⟨#[]⟩]) ?_ 1 _ rfl; (with_reducible repeat (first | refine blk_drewN ?_ _ | refine blk_drew ?_ | refine blk_alloc ?_ _)); refine blk_put (cs := #[.int .i64 0, .string ⟨#[]⟩, .string ⟨#[]⟩]) ?_ 0 _ rfl; exact kK BK111.out) hb); have n1_ := aM (below_step aP15 hb); clear BK111; clear HB; have BK111 := n0_; have HB := n1_; clear n0_ n1_; clear hb))
   go_roundg k1
   case measure => have := HK1.out; omega
   case rel => exact ⟨(wrap64 (x12_1 + 1)), aP19, H', ⟨by have := HK1.out; omega⟩, ⟨aP15⟩⟩
  replace c7 := Bool.eq_false_iff.mpr c7
  subst c7
  replace H := fF H
  obtain rfl := Option.some.inj H
  have p110 : 0 ≤ (x12_1 : Int) := of_decide_eq_true (by assumption)
  have q110 : x12_1 < (l0.length : Int) := of_decide_eq_true (by assumption)
  obtain ⟨ad110, e110, hx110_0, hx110_1, hx110_2⟩ := at_T60 HR0.out x12_1 p110 q110
  cases e110
  replace hx110_0 := hC HB.out hx110_0
  replace hx110_1 := hC HB.out hx110_1
  replace hx110_2 := hC HB.out hx110_2
  replace p110 := eq_true p110
  replace q110 := eq_true q110
  go_wp2_with (first | ((with_reducible refine gate_dst (N := 4) rfl ?_); refine box_event rfl (N := 4) rfl (cs := #[.int .i64 0, .string ⟨#[]⟩, .string ⟨#[]⟩]) (t := 60) aP38 ?_; intro gb111 hg w11 hbox hb; have BK111 := aM (hbox); have GW111 := aM (bG (w := w) hg); have GE111 := aM (bG (w := w) hg); replace HB := aM (below_step bB hb); clear hb hbox hg; obtain ⟨hcz12_0, hcz12_1, hcz12_2, hfz12_0, hfz12_1, hfz12_2⟩ := bx3 BK111.out) | ((with_reducible refine gate_callee (f := 64) rfl ?_); refine gL 17 Try.func64 #[.agg #[.int .i64 ((rd_T60 l0 x12_1).f0), .string ((rd_T60 l0 x12_1).f1), .string ((rd_T60 l0 x12_1).f2)]] ?_; (with_reducible refine (yQ.calls k1 ((rd_T60 l0 x12_1).f0) ((rd_T60 l0 x12_1).f1) ((rd_T60 l0 x12_1).f2) false _ A6.out).mono ?_); rintro e w13 ⟨rfl, hb⟩; refine ⟨_, rfl, ?_⟩; have n0_ := aM (blk_below (g := gb111) (o := .cells #[.int .i64 ((rd_T60 l0 x12_1).f0), .string ((rd_T60 l0 x12_1).f1), .string ((rd_T60 l0 x12_1).f2)] 60 (0, 0)) (by (with_reducible repeat (first | refine blk_drewN ?_ _ | refine blk_drew ?_ | refine blk_alloc ?_ _)); refine blk_put (cs := #[.int .i64 ((rd_T60 l0 x12_1).f0), .string ((rd_T60 l0 x12_1).f1), .string ⟨#[]⟩]) ?_ 2 _ rfl; (with_reducible repeat (first | refine blk_drewN ?_ _ | refine blk_drew ?_ | refine blk_alloc ?_ _)); refine blk_put (cs := #[.int .i64 ((rd_T60 l0 x12_1).f0), .string ⟨#[]⟩, .string ⟨#[]⟩]) ?_ 1 _ rfl; (with_reducible repeat (first | refine blk_drewN ?_ _ | refine blk_drew ?_ | refine blk_alloc ?_ _)); refine blk_put (cs := #[.int .i64 0, .string ⟨#[]⟩, .string ⟨#[]⟩]) ?_ 0 _ rfl; exact kK BK111.out) hb); have n1_ := aM (below_step aP15 hb); clear BK111; clear HB; have BK111 := n0_; have HB := n1_; clear n0_ n1_; clear hb))
  go_ret
  exact ⟨eR, aP15⟩
end Go.Proofs.Ytoagljlnfakgjaa.PFnDiamond
