/- (thin) Written by a program of this session (wip/ovl.py) over the kit's print: plain functions with the answers of the Go functions, and the proofs that they are; no condition. -/
import Derived.Test.YtkdablilbbbihaaBase
import Derived.Test.YtkdablilbbbihaaPFnPathsx0
import Derived.Test.YtkdablilbbbihaaPFnPathsx3
namespace Go.Proofs.Ytkdablilbbbihaa.PFnPaths
open Go.RowKit Go.Proofs.YtkdablilbbbihaaW.PrintWords Go.Proofs.YtkdablilbbbihaaW.PrintLast Go.Proofs.YtkdablilbbbihaaW.PrintMore
attribute [local go_sem] max2_int min2_int max_two min_two max_three min_three max_four min_four   -- for this text's walks alone
set_option linter.unusedVariables false
set_option linter.unusedSimpArgs false
/-! ### impl_isPlain: function 79 -/
def impl_isPlain.f (a0 : Int) : Option (Bool) := if a0 ≥ 97 then (if a0 ≤ 122 then (some true) else (if a0 ≥ 48 then (if a0 ≤ 57 then (some true) else (if a0 = 32 then (some true) else (if a0 = 46 then (some true) else (some (a0 == 44))))) else (if a0 = 32 then (some true) else (if a0 = 46 then (some true) else (some (a0 == 44)))))) else (if a0 ≥ 48 then (if a0 ≤ 57 then (some true) else (if a0 = 32 then (some true) else (if a0 = 46 then (some true) else (some (a0 == 44))))) else (if a0 = 32 then (some true) else (if a0 = 46 then (some true) else (some (a0 == 44)))))
set_option maxHeartbeats 8000000 in
set_option maxRecDepth 100000 in
theorem impl_isPlain.calls (a0 : Int) (r : Bool) (w : World) (h : impl_isPlain.f a0 = some r) :
  Calls Try.prog 79 #[.int .u8 a0] w fun e w' => e = .returned (.bool r) ∧ Drawn0 w w' := by
 have H : (if a0 ≥ 97 then (if a0 ≤ 122 then (some true) else (if a0 ≥ 48 then (if a0 ≤ 57 then (some true) else (if a0 = 32 then (some true) else (if a0 = 46 then (some true) else (some (a0 == 44))))) else (if a0 = 32 then (some true) else (if a0 = 46 then (some true) else (some (a0 == 44)))))) else (if a0 ≥ 48 then (if a0 ≤ 57 then (some true) else (if a0 = 32 then (some true) else (if a0 = 46 then (some true) else (some (a0 == 44))))) else (if a0 = 32 then (some true) else (if a0 = 46 then (some true) else (some (a0 == 44)))))) = some r := h
 clear h
 by_cases c2 : a0 ≥ 97
 ·rw [if_pos c2] at H
  have c2b0 : decide (97 ≤ a0) = true := decide_eq_true c2
  clear c2
  by_cases c3 : a0 ≤ 122
  ·rw [if_pos c3] at H
   have c3b0 : decide (a0 ≤ 122) = true := decide_eq_true c3
   clear c3
   obtain rfl := Option.some.inj H
   go_enter Try.func79, Try.ntmps79
   go_wp2
   go_ret
   exact ⟨by first | rfl | (simp; done) | (simp [*]; done), by repeat (first | exact Drawn0.refl _ | apply Drawn0.step)⟩
  ·rw [if_neg c3] at H
   have c3b0 : decide (a0 ≤ 122) = false := decide_eq_false c3
   clear c3
   by_cases c4 : a0 ≥ 48
   ·rw [if_pos c4] at H
    have c4b0 : decide (48 ≤ a0) = true := decide_eq_true c4
    clear c4
    by_cases c5 : a0 ≤ 57
    ·rw [if_pos c5] at H
     have c5b0 : decide (a0 ≤ 57) = true := decide_eq_true c5
     clear c5
     obtain rfl := Option.some.inj H
     go_enter Try.func79, Try.ntmps79
     go_wp2
     go_ret
     exact ⟨by first | rfl | (simp; done) | (simp [*]; done), by repeat (first | exact Drawn0.refl _ | apply Drawn0.step)⟩
    ·rw [if_neg c5] at H
     have c5b0 : decide (a0 ≤ 57) = false := decide_eq_false c5
     clear c5
     by_cases c6 : a0 = 32
     ·rw [if_pos c6] at H
      have c6b0 : (a0 == 32) = true := beq_iff_eq.mpr c6
      have c6b1 : (a0 != 32) = false := bne_eq_false_iff_eq.mpr c6
      clear c6
      obtain rfl := Option.some.inj H
      go_enter Try.func79, Try.ntmps79
      go_wp2
      go_ret
      exact ⟨by first | rfl | (simp; done) | (simp [*]; done), by repeat (first | exact Drawn0.refl _ | apply Drawn0.step)⟩
     ·rw [if_neg c6] at H
      have c6b0 : (a0 == 32) = false := beq_eq_false_iff_ne.mpr c6
      have c6b1 : (a0 != 32) = true := bne_iff_ne.mpr c6
      by_cases c7 : a0 = 46
      ·rw [if_pos c7] at H
       have c7b0 : (a0 == 46) = true := beq_iff_eq.mpr c7
       have c7b1 : (a0 != 46) = false := bne_eq_false_iff_eq.mpr c7
       clear c7
       obtain rfl := Option.some.inj H
       go_enter Try.func79, Try.ntmps79
       go_wp2
       go_ret
       exact ⟨by first | rfl | (simp; done) | (simp [*]; done), by repeat (first | exact Drawn0.refl _ | apply Drawn0.step)⟩
      ·rw [if_neg c7] at H
       have c7b0 : (a0 == 46) = false := beq_eq_false_iff_ne.mpr c7
       have c7b1 : (a0 != 46) = true := bne_iff_ne.mpr c7
       obtain rfl := Option.some.inj H
       go_enter Try.func79, Try.ntmps79
       go_wp2
       go_ret
       exact ⟨by first | rfl | (simp; done) | (simp [*]; done), by repeat (first | exact Drawn0.refl _ | apply Drawn0.step)⟩
   ·rw [if_neg c4] at H
    have c4b0 : decide (48 ≤ a0) = false := decide_eq_false c4
    clear c4
    by_cases c8 : a0 = 32
    ·rw [if_pos c8] at H
     have c8b0 : (a0 == 32) = true := beq_iff_eq.mpr c8
     have c8b1 : (a0 != 32) = false := bne_eq_false_iff_eq.mpr c8
     clear c8
     obtain rfl := Option.some.inj H
     go_enter Try.func79, Try.ntmps79
     go_wp2
     go_ret
     exact ⟨by first | rfl | (simp; done) | (simp [*]; done), by repeat (first | exact Drawn0.refl _ | apply Drawn0.step)⟩
    ·rw [if_neg c8] at H
     have c8b0 : (a0 == 32) = false := beq_eq_false_iff_ne.mpr c8
     have c8b1 : (a0 != 32) = true := bne_iff_ne.mpr c8
     by_cases c9 : a0 = 46
     ·rw [if_pos c9] at H
      have c9b0 : (a0 == 46) = true := beq_iff_eq.mpr c9
      have c9b1 : (a0 != 46) = false := bne_eq_false_iff_eq.mpr c9
      clear c9
      obtain rfl := Option.some.inj H
      go_enter Try.func79, Try.ntmps79
      go_wp2
      go_ret
      exact ⟨by first | rfl | (simp; done) | (simp [*]; done), by repeat (first | exact Drawn0.refl _ | apply Drawn0.step)⟩
     ·rw [if_neg c9] at H
      have c9b0 : (a0 == 46) = false := beq_eq_false_iff_ne.mpr c9
      have c9b1 : (a0 != 46) = true := bne_iff_ne.mpr c9
      obtain rfl := Option.some.inj H
      go_enter Try.func79, Try.ntmps79
      go_wp2
      go_ret
      exact ⟨by first | rfl | (simp; done) | (simp [*]; done), by repeat (first | exact Drawn0.refl _ | apply Drawn0.step)⟩
 ·rw [if_neg c2] at H
  have c2b0 : decide (97 ≤ a0) = false := decide_eq_false c2
  clear c2
  by_cases c10 : a0 ≥ 48
  ·rw [if_pos c10] at H
   have c10b0 : decide (48 ≤ a0) = true := decide_eq_true c10
   clear c10
   by_cases c11 : a0 ≤ 57
   ·rw [if_pos c11] at H
    have c11b0 : decide (a0 ≤ 57) = true := decide_eq_true c11
    clear c11
    obtain rfl := Option.some.inj H
    go_enter Try.func79, Try.ntmps79
    go_wp2
    go_ret
    exact ⟨by first | rfl | (simp; done) | (simp [*]; done), by repeat (first | exact Drawn0.refl _ | apply Drawn0.step)⟩
   ·rw [if_neg c11] at H
    have c11b0 : decide (a0 ≤ 57) = false := decide_eq_false c11
    clear c11
    by_cases c12 : a0 = 32
    ·rw [if_pos c12] at H
     have c12b0 : (a0 == 32) = true := beq_iff_eq.mpr c12
     have c12b1 : (a0 != 32) = false := bne_eq_false_iff_eq.mpr c12
     clear c12
     obtain rfl := Option.some.inj H
     go_enter Try.func79, Try.ntmps79
     go_wp2
     go_ret
     exact ⟨by first | rfl | (simp; done) | (simp [*]; done), by repeat (first | exact Drawn0.refl _ | apply Drawn0.step)⟩
    ·rw [if_neg c12] at H
     have c12b0 : (a0 == 32) = false := beq_eq_false_iff_ne.mpr c12
     have c12b1 : (a0 != 32) = true := bne_iff_ne.mpr c12
     by_cases c13 : a0 = 46
     ·rw [if_pos c13] at H
      have c13b0 : (a0 == 46) = true := beq_iff_eq.mpr c13
      have c13b1 : (a0 != 46) = false := bne_eq_false_iff_eq.mpr c13
      clear c13
      obtain rfl := Option.some.inj H
      go_enter Try.func79, Try.ntmps79
      go_wp2
      go_ret
      exact ⟨by first | rfl | (simp; done) | (simp [*]; done), by repeat (first | exact Drawn0.refl _ | apply Drawn0.step)⟩
     ·rw [if_neg c13] at H
      have c13b0 : (a0 == 46) = false := beq_eq_false_iff_ne.mpr c13
      have c13b1 : (a0 != 46) = true := bne_iff_ne.mpr c13
      obtain rfl := Option.some.inj H
      go_enter Try.func79, Try.ntmps79
      go_wp2
      go_ret
      exact ⟨by first | rfl | (simp; done) | (simp [*]; done), by repeat (first | exact Drawn0.refl _ | apply Drawn0.step)⟩
  ·rw [if_neg c10] at H
   have c10b0 : decide (48 ≤ a0) = false := decide_eq_false c10
   clear c10
   by_cases c14 : a0 = 32
   ·rw [if_pos c14] at H
    have c14b0 : (a0 == 32) = true := beq_iff_eq.mpr c14
    have c14b1 : (a0 != 32) = false := bne_eq_false_iff_eq.mpr c14
    clear c14
    obtain rfl := Option.some.inj H
    go_enter Try.func79, Try.ntmps79
    go_wp2
    go_ret
    exact ⟨by first | rfl | (simp; done) | (simp [*]; done), by repeat (first | exact Drawn0.refl _ | apply Drawn0.step)⟩
   ·rw [if_neg c14] at H
    have c14b0 : (a0 == 32) = false := beq_eq_false_iff_ne.mpr c14
    have c14b1 : (a0 != 32) = true := bne_iff_ne.mpr c14
    by_cases c15 : a0 = 46
    ·rw [if_pos c15] at H
     have c15b0 : (a0 == 46) = true := beq_iff_eq.mpr c15
     have c15b1 : (a0 != 46) = false := bne_eq_false_iff_eq.mpr c15
     clear c15
     obtain rfl := Option.some.inj H
     go_enter Try.func79, Try.ntmps79
     go_wp2
     go_ret
     exact ⟨by first | rfl | (simp; done) | (simp [*]; done), by repeat (first | exact Drawn0.refl _ | apply Drawn0.step)⟩
    ·rw [if_neg c15] at H
     have c15b0 : (a0 == 46) = false := beq_eq_false_iff_ne.mpr c15
     have c15b1 : (a0 != 46) = true := bne_iff_ne.mpr c15
     obtain rfl := Option.some.inj H
     go_enter Try.func79, Try.ntmps79
     go_wp2
     go_ret
     exact ⟨by first | rfl | (simp; done) | (simp [*]; done), by repeat (first | exact Drawn0.refl _ | apply Drawn0.step)⟩
/-! ### impl_GoodText: function 91 -/
def impl_GoodText.l0 : Nat → ByteArray → Int → Int → Option (Bool)
 | 0, _, _, _ => none
 | k + 1, x0, x5, x6 => if x6 < x5 then (if 0 ≤ x6 then (if x6 < (x0.size : Int) then ((impl_isName.f (bt x0 x6)).bind fun t129 => (if t129 = true then (impl_GoodText.l0 k x0 x5 (wrap64 (x6 + 1))) else ((impl_isPlain.f (bt x0 x6)).bind fun t130 => (if t130 = true then (impl_GoodText.l0 k x0 x5 (wrap64 (x6 + 1))) else (if (bt x0 x6) = 47 then (impl_GoodText.l0 k x0 x5 (wrap64 (x6 + 1))) else (some false)))))) else (none)) else (none)) else (some (decide ((x0.size : Int) ≤ 300)))
def impl_GoodText.f (k : Nat) (a0 : ByteArray) : Option (Bool) := impl_GoodText.l0 k a0 (a0.size : Int) 0
theorem impl_GoodText.mono_l : ∀ k, (∀ y0 y1 y2, LeO (impl_GoodText.l0 k y0 y1 y2) (impl_GoodText.l0 (k + 1) y0 y1 y2))
 | 0 => fun _ _ _ r h => by simp [impl_GoodText.l0] at h
 | k + 1 => by
  have ih0 := impl_GoodText.mono_l k
  ·intro y0 y1 y2
   unfold impl_GoodText.l0
   repeat' first
   | (with_reducible exact ih0 _ _ _)
   | (with_reducible exact LeO.refl _)
   | (with_reducible exact LeO.none _)
   | (with_reducible refine LeO.ite ?_ ?_)
   | (with_reducible refine LeO.bind ?_ (fun _ => ?_))
   | exact ih0 _ _ _
   | exact LeO.none _
   | refine LeO.ite ?_ ?_
   | refine LeO.bind ?_ (fun _ => ?_)
theorem impl_GoodText.mono : ∀ a0 k, LeO (impl_GoodText.f k a0) (impl_GoodText.f (k + 1) a0) := by
 intro a0 k
 have ih0 := impl_GoodText.mono_l k
 unfold impl_GoodText.f
 repeat' first
   | (with_reducible exact ih0 _ _ _)
   | (with_reducible exact LeO.refl _)
   | (with_reducible exact LeO.none _)
   | (with_reducible refine LeO.ite ?_ ?_)
   | (with_reducible refine LeO.bind ?_ (fun _ => ?_))
   | exact ih0 _ _ _
   | exact LeO.none _
   | refine LeO.ite ?_ ?_
   | refine LeO.bind ?_ (fun _ => ?_)
set_option maxHeartbeats 8000000 in
set_option maxRecDepth 100000 in
theorem impl_GoodText.calls (k : Nat) (a0 : ByteArray) (r : Bool) (w : World) (h : impl_GoodText.f k a0 = some r) :
  Calls Try.prog 91 #[.string a0] w fun e w' => e = .returned (.bool r) ∧ Drawn0 w w' := by
 have H : (impl_GoodText.l0 k a0 (a0.size : Int) 0) = some r := h
 clear h
 have H' := Aside0.mk H
 clear H
 go_enter Try.func91, Try.ntmps91
 go_wp2
 go_loopg [6] k (fun kq v6 w' => ∃ (x6_1 : Int), v6 = .int .i64 x6_1 ∧ Aside0 (impl_GoodText.l0 kq a0 (a0.size : Int) x6_1 = some r) ∧ Aside0 (kq ≤ k) ∧ Drawn0 w w')
 case atStart => exact ⟨(0), (by first | rfl | (simp; done) | (simp [*]; done)), H', ⟨Nat.le_refl _⟩, by repeat (first | exact Drawn0.refl _ | apply Drawn0.step)⟩
 case round =>
  clear H'
  obtain ⟨x6_1, rfl, HA, HK1, ⟨m1, rfl⟩⟩ := hrel
  cases gk with
  | zero => exact absurd HA.out (by simp [impl_GoodText.l0])
  | succ k1 =>
   have H := HA.out
   clear HA
   simp only [impl_GoodText.l0] at H
   by_cases c2 : x6_1 < (a0.size : Int)
   ·rw [if_pos c2] at H
    have c2b0 : decide (x6_1 < (a0.size : Int)) = true := decide_eq_true c2
    clear c2
    by_cases c3 : 0 ≤ x6_1
    ·rw [if_pos c3] at H
     have c3b0 : decide (0 ≤ x6_1) = true := decide_eq_true c3
     clear c3
     by_cases c4 : x6_1 < (a0.size : Int)
     ·rw [if_pos c4] at H
      have c4b0 : decide (x6_1 < (a0.size : Int)) = true := decide_eq_true c4
      clear c4
      replace H := Option.bind_eq_some_iff.mp H
      obtain ⟨t129, A60, H⟩ := H
      replace H : (if t129 = true then (impl_GoodText.l0 k1 a0 (a0.size : Int) (wrap64 (x6_1 + 1))) else ((impl_isPlain.f (bt a0 x6_1)).bind fun t130 => (if t130 = true then (impl_GoodText.l0 k1 a0 (a0.size : Int) (wrap64 (x6_1 + 1))) else (if (bt a0 x6_1) = 47 then (impl_GoodText.l0 k1 a0 (a0.size : Int) (wrap64 (x6_1 + 1))) else (some false))))) = some r := H
      have A6 := Aside0.mk A60
      clear A60
      by_cases c7 : t129 = true
      ·subst c7
       have H1 : (impl_GoodText.l0 k1 a0 (a0.size : Int) (wrap64 (x6_1 + 1))) = some r := by rw [if_pos rfl] at H; exact H
       clear H
       have H := H1
       clear H1
       have H' := Aside0.mk H
       clear H
       have p5 : 0 ≤ (x6_1 : Int) := of_decide_eq_true (by assumption)
       have q5 : x6_1 < (a0.size : Int) := of_decide_eq_true (by assumption)
       have hx5 := bt_at a0 x6_1
       replace p5 := eq_true p5
       replace q5 := eq_true q5
       go_wp2_with (first | ((with_reducible refine gate_callee (f := 76) rfl ?_); refine goesL_ (some 12) rfl rfl Try.func76 (by kernel_rfl) rfl #[.int .u8 (bt a0 x6_1)] rfl (by first | rfl | (simp only [List.map_toArray, List.map_cons, List.map_nil]; rfl)) ?_; (with_reducible refine (impl_isName.calls (bt a0 x6_1) true _ A6.out).mono ?_); rintro e w' ⟨rfl, ⟨nd, rfl⟩⟩; refine ⟨_, rfl, ?_⟩))
       go_roundg k1
       case measure => have := HK1.out; omega
       case rel => exact ⟨(wrap64 (x6_1 + 1)), (by first | rfl | (simp; done) | (simp [*]; done)), H', ⟨by have := HK1.out; omega⟩, by repeat (first | exact Drawn0.refl _ | apply Drawn0.step)⟩
      ·replace c7 := Bool.eq_false_iff.mpr c7
       subst c7
       have H1 : ((impl_isPlain.f (bt a0 x6_1)).bind fun t130 => (if t130 = true then (impl_GoodText.l0 k1 a0 (a0.size : Int) (wrap64 (x6_1 + 1))) else (if (bt a0 x6_1) = 47 then (impl_GoodText.l0 k1 a0 (a0.size : Int) (wrap64 (x6_1 + 1))) else (some false)))) = some r := by rw [if_neg (show ¬ (false = true) by decide)] at H; exact H
       clear H
       have H := H1
       clear H1
       replace H := Option.bind_eq_some_iff.mp H
       obtain ⟨t130, A90, H⟩ := H
       replace H : (if t130 = true then (impl_GoodText.l0 k1 a0 (a0.size : Int) (wrap64 (x6_1 + 1))) else (if (bt a0 x6_1) = 47 then (impl_GoodText.l0 k1 a0 (a0.size : Int) (wrap64 (x6_1 + 1))) else (some false))) = some r := H
       have A9 := Aside0.mk A90
       clear A90
       by_cases c10 : t130 = true
       ·subst c10
        have H1 : (impl_GoodText.l0 k1 a0 (a0.size : Int) (wrap64 (x6_1 + 1))) = some r := by rw [if_pos rfl] at H; exact H
        clear H
        have H := H1
        clear H1
        have H' := Aside0.mk H
        clear H
        have p5 : 0 ≤ (x6_1 : Int) := of_decide_eq_true (by assumption)
        have q5 : x6_1 < (a0.size : Int) := of_decide_eq_true (by assumption)
        have hx5 := bt_at a0 x6_1
        replace p5 := eq_true p5
        replace q5 := eq_true q5
        go_wp2_with (first | ((with_reducible refine gate_callee (f := 76) rfl ?_); refine goesL_ (some 12) rfl rfl Try.func76 (by kernel_rfl) rfl #[.int .u8 (bt a0 x6_1)] rfl (by first | rfl | (simp only [List.map_toArray, List.map_cons, List.map_nil]; rfl)) ?_; (with_reducible refine (impl_isName.calls (bt a0 x6_1) false _ A6.out).mono ?_); rintro e w' ⟨rfl, ⟨nd, rfl⟩⟩; refine ⟨_, rfl, ?_⟩; have p8 : 0 ≤ (x6_1 : Int) := of_decide_eq_true (by assumption); have q8 : x6_1 < (a0.size : Int) := of_decide_eq_true (by assumption); have hx8 := bt_at a0 x6_1; replace p8 := eq_true p8; replace q8 := eq_true q8) | (go_at_call 79; (with_reducible refine (impl_isPlain.calls (bt a0 x6_1) true _ A9.out).mono ?_); rintro e w' ⟨rfl, ⟨nd, rfl⟩⟩))
        go_roundg k1
        case measure => have := HK1.out; omega
        case rel => exact ⟨(wrap64 (x6_1 + 1)), (by first | rfl | (simp; done) | (simp [*]; done)), H', ⟨by have := HK1.out; omega⟩, by repeat (first | exact Drawn0.refl _ | apply Drawn0.step)⟩
       ·replace c10 := Bool.eq_false_iff.mpr c10
        subst c10
        have H1 : (if (bt a0 x6_1) = 47 then (impl_GoodText.l0 k1 a0 (a0.size : Int) (wrap64 (x6_1 + 1))) else (some false)) = some r := by rw [if_neg (show ¬ (false = true) by decide)] at H; exact H
        clear H
        have H := H1
        clear H1
        by_cases c12 : (bt a0 x6_1) = 47
        ·rw [if_pos c12] at H
         have c12b0 : ((bt a0 x6_1) == 47) = true := beq_iff_eq.mpr c12
         have c12b1 : ((bt a0 x6_1) != 47) = false := bne_eq_false_iff_eq.mpr c12
         clear c12
         have H' := Aside0.mk H
         clear H
         have p5 : 0 ≤ (x6_1 : Int) := of_decide_eq_true (by assumption)
         have q5 : x6_1 < (a0.size : Int) := of_decide_eq_true (by assumption)
         have hx5 := bt_at a0 x6_1
         replace p5 := eq_true p5
         replace q5 := eq_true q5
         go_wp2_with (first | ((with_reducible refine gate_callee (f := 76) rfl ?_); refine goesL_ (some 12) rfl rfl Try.func76 (by kernel_rfl) rfl #[.int .u8 (bt a0 x6_1)] rfl (by first | rfl | (simp only [List.map_toArray, List.map_cons, List.map_nil]; rfl)) ?_; (with_reducible refine (impl_isName.calls (bt a0 x6_1) false _ A6.out).mono ?_); rintro e w' ⟨rfl, ⟨nd, rfl⟩⟩; refine ⟨_, rfl, ?_⟩; have p8 : 0 ≤ (x6_1 : Int) := of_decide_eq_true (by assumption); have q8 : x6_1 < (a0.size : Int) := of_decide_eq_true (by assumption); have hx8 := bt_at a0 x6_1; replace p8 := eq_true p8; replace q8 := eq_true q8) | (go_at_call 79; (with_reducible refine (impl_isPlain.calls (bt a0 x6_1) false _ A9.out).mono ?_); rintro e w' ⟨rfl, ⟨nd, rfl⟩⟩; have p11 : 0 ≤ (x6_1 : Int) := of_decide_eq_true (by assumption); have q11 : x6_1 < (a0.size : Int) := of_decide_eq_true (by assumption); have hx11 := bt_at a0 x6_1; replace p11 := eq_true p11; replace q11 := eq_true q11))
         go_roundg k1
         case measure => have := HK1.out; omega
         case rel => exact ⟨(wrap64 (x6_1 + 1)), (by first | rfl | (simp; done) | (simp [*]; done)), H', ⟨by have := HK1.out; omega⟩, by repeat (first | exact Drawn0.refl _ | apply Drawn0.step)⟩
        ·rw [if_neg c12] at H
         have c12b0 : ((bt a0 x6_1) == 47) = false := beq_eq_false_iff_ne.mpr c12
         have c12b1 : ((bt a0 x6_1) != 47) = true := bne_iff_ne.mpr c12
         obtain rfl := Option.some.inj H
         have p5 : 0 ≤ (x6_1 : Int) := of_decide_eq_true (by assumption)
         have q5 : x6_1 < (a0.size : Int) := of_decide_eq_true (by assumption)
         have hx5 := bt_at a0 x6_1
         replace p5 := eq_true p5
         replace q5 := eq_true q5
         go_wp2_with (first | ((with_reducible refine gate_callee (f := 76) rfl ?_); refine goesL_ (some 12) rfl rfl Try.func76 (by kernel_rfl) rfl #[.int .u8 (bt a0 x6_1)] rfl (by first | rfl | (simp only [List.map_toArray, List.map_cons, List.map_nil]; rfl)) ?_; (with_reducible refine (impl_isName.calls (bt a0 x6_1) false _ A6.out).mono ?_); rintro e w' ⟨rfl, ⟨nd, rfl⟩⟩; refine ⟨_, rfl, ?_⟩; have p8 : 0 ≤ (x6_1 : Int) := of_decide_eq_true (by assumption); have q8 : x6_1 < (a0.size : Int) := of_decide_eq_true (by assumption); have hx8 := bt_at a0 x6_1; replace p8 := eq_true p8; replace q8 := eq_true q8) | (go_at_call 79; (with_reducible refine (impl_isPlain.calls (bt a0 x6_1) false _ A9.out).mono ?_); rintro e w' ⟨rfl, ⟨nd, rfl⟩⟩; have p11 : 0 ≤ (x6_1 : Int) := of_decide_eq_true (by assumption); have q11 : x6_1 < (a0.size : Int) := of_decide_eq_true (by assumption); have hx11 := bt_at a0 x6_1; replace p11 := eq_true p11; replace q11 := eq_true q11))
         go_ret
         exact ⟨by first | rfl | (simp; done) | (simp [*]; done), by repeat (first | exact Drawn0.refl _ | apply Drawn0.step)⟩
     ·rw [if_neg c4] at H
      exact absurd H (by simp)
    ·rw [if_neg c3] at H
     exact absurd H (by simp)
   ·rw [if_neg c2] at H
    have c2b0 : decide (x6_1 < (a0.size : Int)) = false := decide_eq_false c2
    clear c2
    obtain rfl := Option.some.inj H
    go_wp2
    go_ret
    exact ⟨by first | rfl | (simp; done) | (simp [*]; done), by repeat (first | exact Drawn0.refl _ | apply Drawn0.step)⟩
/-! ### impl_matches: function 75 (by hand) -/
-- import Base
/-- What is known of a map of whole numbers: pairs, the last put first. -/
def mD (m : List (Int × Int)) : DataW Unit := m.foldr (fun p D => D.put (.int .i64 p.1) (.lit (.int .i64 p.2))) (.map [])
theorem mD_isMap : ∀ m : List (Int × Int), Maps.IsMap (mD m)
 | [] => Maps.isMap_empty
 | p :: r => by
  obtain ⟨es, h⟩ := mD_isMap r
  show Maps.IsMap ((mD r).put _ _)
  rw [h]; exact ⟨_, rfl⟩
theorem mD_has (a : Int) : ∀ m : List (Int × Int), Maps.has (mD m) (.int .i64 a) = (m.lookup a).isSome
 | [] => rfl
 | (x, v) :: r => by
  show Maps.has ((mD r).put (.int .i64 x) (.lit (.int .i64 v))) (.int .i64 a) = _
  by_cases h : a = x
  ·subst h
   rw [Maps.has_put_same (mD_isMap r) (show WideAt.IsKeyLit (.int .i64 a) from trivial), List.lookup_cons_self]; rfl
  ·rw [Maps.has_put_other (fun e => h (by injection e)), List.lookup_cons, show (a == x) = false by simpa using h]
   exact mD_has a r
theorem mD_at (a : Int) : ∀ m : List (Int × Int), (mD m).atKey (.int .i64 a) (.lit (.int .i64 0)) = .lit (.int .i64 ((m.lookup a).getD 0))
 | [] => rfl
 | (x, v) :: r => by
  show ((mD r).put (.int .i64 x) (.lit (.int .i64 v))).atKey (.int .i64 a) (.lit (.int .i64 0)) = _
  by_cases h : a = x
  ·subst h
   rw [Maps.atKey_put_same (mD_isMap r) (show WideAt.IsKeyLit (.int .i64 a) from trivial), List.lookup_cons_self]; rfl
  ·rw [Maps.atKey_put_other (fun e => h (by injection e)), List.lookup_cons, show (a == x) = false by simpa using h]
   exact mD_at a r
theorem map_key : Maps.Keyed Try.prog 3 := Maps.int_keyed Try.underlying3
theorem map_zero (w : World) : (zeroValue 3).run Try.prog w = .ok (.int .i64 0) w := by kernel_rfl
theorem int_info : (Try.prog.info? 3).map (fun i => (i.zero, i.size, i.bytes)) = some (some (.int .i64 0), 1, 8) := by kernel_rfl
/-- Which places match: the places that are open, and the pairs so far; none where the text is no document. -/
def impl_matches.run : Int → List Int → List Int → List (Int × Int) → Option (List Int × List (Int × Int))
 | _, [], o, m => some (o, m)
 | i, c :: r, o, m =>
  if 65 ≤ c ∧ c ≤ 70 then (if (o ++ [i]).length > 12 then none else impl_matches.run (i + 1) r (o ++ [i]) m)
  else if c = 47 then (if o.length = 0 then none else impl_matches.run (i + 1) r (o.take (o.length - 1)) ((rd o ((o.length : Int) - 1), i) :: (i, rd o ((o.length : Int) - 1)) :: m))
  else impl_matches.run (i + 1) r o m
def impl_matches.end_ : Option (List Int × List (Int × Int)) → Bool × List (Int × Int)
 | none => (false, [])
 | some (o, m) => (decide (o.length = 0), m)
def impl_matches.f (k : Nat) (a0 : ByteArray) : Option (Bool × List (Int × Int)) :=
 (impl_GoodText.f k a0).bind fun t => if t = true then (if a0.size ≤ 300 then some (impl_matches.end_ (impl_matches.run 0 (bytesOf a0) [] [])) else none) else some (false, [])
theorem impl_matches.mono : ∀ a0 k, LeO (impl_matches.f k a0) (impl_matches.f (k + 1) a0) := by
 intro a0 k
 unfold impl_matches.f
 exact LeO.bind (impl_GoodText.mono _ _) (fun _ => LeO.refl _)
theorem isName_is (c : Int) : impl_isName.f c = some (decide (65 ≤ c ∧ c ≤ 70)) := by
 unfold impl_isName.f; split <;> simp <;> omega
theorem drop_next (s : ByteArray) (x : Int) (h0 : 0 ≤ x) (h1 : x < (s.size : Int)) : (bytesOf s).drop x.toNat = bt s x :: (bytesOf s).drop (x + 1).toNat := by
 obtain ⟨n, rfl⟩ := Int.eq_ofNat_of_zero_le h0
 have e : ((n : Int) + 1).toNat = n + 1 := by omega
 rw [e, Int.toNat_natCast]
 exact Base.drop_bytes s n (by omega)
theorem drop_last (s : ByteArray) (x : Int) (h1 : (s.size : Int) ≤ x) : (bytesOf s).drop x.toNat = [] := Base.drop_end s x.toNat (by omega)
theorem run_name {i c : Int} {r o : List Int} {m : List (Int × Int)} (h : 65 ≤ c ∧ c ≤ 70) : impl_matches.run i (c :: r) o m = if (o ++ [i]).length > 12 then none else impl_matches.run (i + 1) r (o ++ [i]) m := by rw [impl_matches.run, if_pos h]
theorem run_shut {i c : Int} {r o : List Int} {m : List (Int × Int)} (h : ¬ (65 ≤ c ∧ c ≤ 70)) (h2 : c = 47) : impl_matches.run i (c :: r) o m = if o.length = 0 then none else impl_matches.run (i + 1) r (o.take (o.length - 1)) ((rd o ((o.length : Int) - 1), i) :: (i, rd o ((o.length : Int) - 1)) :: m) := by rw [impl_matches.run, if_neg h, if_pos h2]
theorem run_plain {i c : Int} {r o : List Int} {m : List (Int × Int)} (h : ¬ (65 ≤ c ∧ c ≤ 70)) (h2 : ¬ c = 47) : impl_matches.run i (c :: r) o m = impl_matches.run (i + 1) r o m := by rw [impl_matches.run, if_neg h, if_neg h2]
theorem om_kept {P : Program} {k : TypeId} {R : Value → Option (DataW Unit × List MemPlace)} {w w1 : World} {b n q : Nat} {D : DataW Unit} {row : Option Nat} (h : w.ownsMap P k R b n D) (hg : (w.drewN q).grownBy w1 row) (hne : some b ≠ row) : w1.ownsMap P k R b n D :=
 World.ownsMap.kept (w := w.drewN q) h hg hne
theorem wf_small {x : Int} (h : 0 ≤ x ∧ x < 300) : (Lit.int .i64 x).wf = true := WalkArith.wf_i64 (by omega)
set_option maxHeartbeats 4000000 in
set_option maxRecDepth 100000 in
theorem impl_matches.calls (k : Nat) (a0 : ByteArray) (ok : Bool) (m : List (Int × Int)) (w : World) (h : impl_matches.f k a0 = some (ok, m)) :
  Calls Try.prog 75 #[.string a0] w fun e w' => ∃ mv : Value, e = .returned (.tuple #[mv, .bool ok]) ∧ Aside0 (ok = true → ∃ B, mv = .map (some B) ∧ w'.ownsMap Try.prog 3 (plainElem (H := Unit) Try.prog 3) B 600 (mD m)) ∧ Below w.heap.size w w' := by
 have hmm := @run_makeMap Try.prog
 unfold impl_matches.f at h
 obtain ⟨t, hg, h⟩ := Option.bind_eq_some_iff.mp h
 have G := Aside0.mk hg
 clear hg
 by_cases ht : t = true
 ·subst ht
  rw [if_pos rfl] at h
  by_cases hsz : a0.size ≤ 300
  ·rw [if_pos hsz] at h
   obtain ⟨R, hR⟩ : ∃ R, impl_matches.run 0 (bytesOf a0) [] [] = R := ⟨_, rfl⟩
   rw [hR] at h
   have HR := Aside0.mk hR
   have HH := Aside0.mk (Option.some.inj h)
   have HS := Aside0.mk hsz
   clear hR h hsz
   go_enter Try.func75, Try.ntmps75
   go_wp2_with (first | (go_at_call 91; (with_reducible refine (impl_GoodText.calls k a0 true _ G.out).mono ?_); rintro e w' ⟨rfl, ⟨nd, rfl⟩⟩))
   go_loopw [5, 14] (fun v5 v14 wr => ∃ (xi : Int) (o : List Int) (m1 : List (Int × Int)), v14 = .int .i64 xi ∧ Aside0 (0 ≤ xi ∧ xi ≤ (a0.size : Int) ∧ o.length ≤ 12 ∧ ∀ x ∈ o, 0 ≤ x ∧ x < 300) ∧ Aside0 (impl_matches.run xi ((bytesOf a0).drop xi.toNat) o m1 = R) ∧ Aside0 (Kd.R (Kd.int .i64) 3 wr w.heap.size (fun k_ => k_ ≠ w.heap.size) v5 o) ∧ Aside0 (wr.ownsMap Try.prog 3 (plainElem (H := Unit) Try.prog 3) w.heap.size (2 * xi.toNat) (mD m1)) ∧ Aside0 (Below w.heap.size w wr)) (fun _ i _ => a0.size - (intOf i).toNat)
   case atStart => exact ⟨0, [], [], rfl, ⟨by omega, by omega, by simp, fun x hx => by cases hx⟩, ⟨by simpa using HR.out⟩, ⟨Kd.R_nil _ _ _ _ _⟩, ⟨World.ownsMap_made _ _ _ _⟩, ⟨by repeat (first | exact Below.refl _ _ | apply below_alloc | apply pw_below_drewN | apply below_drew1)⟩⟩
   case round =>
    obtain ⟨xi, o, m1, rfl, HI, HA, HRo, HM, HB⟩ := hrel
    obtain ⟨h0, hle, h12, hob⟩ := HI.out
    obtain ⟨Ao, co, rfl⟩ := Kd.R_slice HRo.out
    have hss := HS.out
    have hbs := below_size HB.out
    have HBS := Aside0.mk hbs
    clear HI hbs
    by_cases hlt : xi < (a0.size : Int)
    ·have hA := HA.out
     rw [drop_next a0 xi h0 hlt] at hA
     have Hw := Aside0.mk (show wrap64 (xi + 1) = xi + 1 by unfold wrap64; omega)
     have HX := Aside0.mk (show 0 ≤ xi ∧ xi < 300 by omega)
     have c3b0 : decide (xi < (a0.size : Int)) = true := decide_eq_true hlt
     have hx6 := bt_at a0 xi
     have P6 := Aside0.mk h0
     have Q6 := Aside0.mk hlt
     have L12 := Aside0.mk h12
     have OB := Aside0.mk hob
     have p6 := eq_true h0
     have q6 := eq_true hlt
     clear HA hss hle h12 hob h0 hlt
     by_cases hn : 65 ≤ bt a0 xi ∧ bt a0 xi ≤ 70
     ·have A7 := Aside0.mk (show impl_isName.f (bt a0 xi) = some true by rw [isName_is, decide_eq_true hn])
      rw [run_name hn] at hA
      obtain ⟨y, hy⟩ : ∃ y, y = o ++ [xi] := ⟨_, rfl⟩
      rw [← hy] at hA
      have Ny := Aside0.mk hy
      clear hy hn
      by_cases hl : y.length > 12
      ·rw [if_pos hl] at hA
       have e := HH.out
       rw [← hA] at e
       obtain ⟨rfl, rfl⟩ := Prod.mk.inj e
       have hl1 : decide (12 < (y.length : Int)) = true := decide_eq_true (by omega)
       have hl2 : decide (12 < y.length) = true := decide_eq_true hl
       clear hA hl e HH
       go_wp2_with (first | (go_at_call 76; (with_reducible refine (impl_isName.calls (bt a0 xi) true _ A7.out).mono ?_); rintro e w' ⟨rfl, ⟨nd, rfl⟩⟩) | (at_builtin; refine Kd.R_append (Kd.int .i64) (w0 := w) w.heap.size rfl (.tmp 22) (.tmp 24) 22 3 (.int .i64 0) 8 rfl Try.underlying22 int_info rfl (by decide) (by omega) (.slice Ao o.length co) o xi [.int .i64 xi] (fun k_ => k_ ≠ w.heap.size) (fun _ => False) rfl rfl ?aP (fun _ hk => hk.elim) ?aF ?aO ?aB ?aS ?aL ?_; (case aP => exact rfl); (case aB => exact (by repeat (first | exact HB.out | apply below_alloc | apply pw_below_drewN | apply below_drew1))); (case aF => exact (fun k_ hk => by have := HBS.out; have := HM.out.lt; simp at hk; omega)); (case aO => exact (by (with_reducible repeat (first | apply Kd.R_alloc | apply Kd.R_drewN | apply Kd.R_drew)); exact HRo.out)); (case aS => exact HBS.out); (case aL => have := L12.out; omega); intro v1 w1 ho hb hg hat; rw [← Ny.out] at ho; obtain ⟨A1, c1, e1_⟩ := Kd.R_slice ho; subst e1_; have HM1 := Aside0.mk (om_kept HM.out hg (fun e_ => HRo.out.1 _ e_.symm rfl)); clear hg hat; have HO1 := Aside0.mk ho; have HB1 := Aside0.mk hb; clear ho hb))
       go_ret2
       exact ⟨_, rfl, ⟨fun h => by cases h⟩, HB1.out⟩
      ·rw [if_neg hl] at hA
       have HA := Aside0.mk hA
       have HL12 := Aside0.mk (show y.length ≤ 12 by omega)
       have hl1 : decide (12 < (y.length : Int)) = false := decide_eq_false (by omega)
       have hl2 : decide (12 < y.length) = false := decide_eq_false hl
       clear hA hl
       go_wp2_with (first | (go_at_call 76; (with_reducible refine (impl_isName.calls (bt a0 xi) true _ A7.out).mono ?_); rintro e w' ⟨rfl, ⟨nd, rfl⟩⟩) | (at_builtin; refine Kd.R_append (Kd.int .i64) (w0 := w) w.heap.size rfl (.tmp 22) (.tmp 24) 22 3 (.int .i64 0) 8 rfl Try.underlying22 int_info rfl (by decide) (by omega) (.slice Ao o.length co) o xi [.int .i64 xi] (fun k_ => k_ ≠ w.heap.size) (fun _ => False) rfl rfl ?aP (fun _ hk => hk.elim) ?aF ?aO ?aB ?aS ?aL ?_; (case aP => exact rfl); (case aB => exact (by repeat (first | exact HB.out | apply below_alloc | apply pw_below_drewN | apply below_drew1))); (case aF => exact (fun k_ hk => by have := HBS.out; have := HM.out.lt; simp at hk; omega)); (case aO => exact (by (with_reducible repeat (first | apply Kd.R_alloc | apply Kd.R_drewN | apply Kd.R_drew)); exact HRo.out)); (case aS => exact HBS.out); (case aL => have := L12.out; omega); intro v1 w1 ho hb hg hat; rw [← Ny.out] at ho; obtain ⟨A1, c1, e1_⟩ := Kd.R_slice ho; subst e1_; have HM1 := Aside0.mk (om_kept HM.out hg (fun e_ => HRo.out.1 _ e_.symm rfl)); clear hg hat; have HO1 := Aside0.mk ho; have HB1 := Aside0.mk hb; clear ho hb))
       have hw := Hw.out
       have hx := HX.out
       have hq := Q6.out
       go_roundw
       case rel =>
        refine ⟨wrap64 (xi + 1), y, m1, rfl, ⟨by omega, by omega, HL12.out, fun x hx_ => ?_⟩, ⟨by rw [hw]; exact HA.out⟩, HO1, ⟨HM1.out.mono (by omega)⟩, HB1⟩
        rw [Ny.out] at hx_
        rcases List.mem_append.1 hx_ with hx_ | hx_
        ·exact OB.out x hx_
        ·rw [List.mem_singleton.1 hx_]; exact hx
       case measure => simp [intOf, hw]; omega
     ·have A7 := Aside0.mk (show impl_isName.f (bt a0 xi) = some false by rw [isName_is, decide_eq_false hn])
      by_cases hs : bt a0 xi = 47
      ·have c12b0 : ((bt a0 xi) == 47) = true := beq_iff_eq.mpr hs
       have c12b1 : ((bt a0 xi) != 47) = false := bne_eq_false_iff_eq.mpr hs
       rw [run_shut hn hs] at hA
       clear hs hn
       by_cases ho0 : o.length = 0
       ·rw [if_pos ho0] at hA
        have e := HH.out
        rw [← hA] at e
        obtain ⟨rfl, rfl⟩ := Prod.mk.inj e
        have hb0 : ((o.length : Int) == 0) = true := beq_iff_eq.mpr (by omega)
        have hb1 : (o.length == 0) = true := beq_iff_eq.mpr ho0
        clear hA e HH ho0
        go_wp2_with (first | (go_at_call 76; (with_reducible refine (impl_isName.calls (bt a0 xi) false _ A7.out).mono ?_); rintro e w' ⟨rfl, ⟨nd, rfl⟩⟩))
        go_ret2
        exact ⟨_, rfl, ⟨fun h => by cases h⟩, by repeat (first | exact HB.out | apply pw_below_drewN)⟩
       ·rw [if_neg ho0] at hA
        obtain ⟨ji, hji⟩ : ∃ j : Int, (o.length : Int) - 1 = j := ⟨_, rfl⟩
        have et : o.length - 1 = ji.toNat := by omega
        rw [hji, et] at hA
        have hj0 : 0 ≤ ji := by omega
        have hj1 : ji < (o.length : Int) := by omega
        have hj2 : ji ≤ (o.length : Int) := by omega
        obtain ⟨_, _, hC⟩ := Kd.R_reads' HRo.out
        obtain ⟨ad, ead, hcell⟩ := (readsInt_of.2 (Kd.reads_of_C (d := (0 : Int)) hC)).at_ ji hj0 hj1
        subst ead
        obtain ⟨la, hla⟩ : ∃ la, la = rd o ji := ⟨_, rfl⟩
        rw [← hla] at hA hcell
        have HL := Aside0.mk (show 0 ≤ la ∧ la < 300 by
         rw [hla]; refine OB.out _ ?_
         unfold rd; rw [List.getD_eq_getElem?_getD, List.getElem?_eq_getElem (by omega)]; exact List.getElem_mem _)
        clear hla
        obtain ⟨i0_, hi0_, _, _, _⟩ := info_parts int_info
        have hcut := cut_to (P := Try.prog) 22 3 .i64 Try.underlying22 hi0_ (some ad) o.length co ji hj0 hj2 (Kd.R_reads' HRo.out).2.1
        have hr := Kd.R_take (m := ji.toNat) HRo.out (by omega)
        obtain ⟨y, hy⟩ : ∃ y, y = o.take ji.toNat := ⟨_, rfl⟩
        have hyl : y.length = ji.toNat := by rw [hy, List.length_take]; omega
        rw [← hy] at hr hA
        rw [← hyl] at hr hcut
        have HO1 := Aside0.mk hr
        have HL12 := Aside0.mk (show y.length ≤ 12 by have := L12.out; omega)
        have HOB := Aside0.mk (show ∀ x ∈ y, 0 ≤ x ∧ x < 300 from fun x hx => OB.out x (by rw [hy] at hx; exact List.mem_of_mem_take hx))
        have HA := Aside0.mk hA
        have hb0 : ((o.length : Int) == 0) = false := beq_eq_false_iff_ne.mpr (by omega)
        have hb1 : (o.length == 0) = false := beq_eq_false_iff_ne.mpr ho0
        have hjw : wrap64 ((o.length : Int) - 1) = ji := by rw [hji]; exact Base.wrap_id (by omega) (by have := L12.out; omega)
        have hjw2 : (IntKind.i64.wrap ((o.length : Int) - 1)) = ji := (i64_w _).trans hjw
        have HK1 := Aside0.mk (Maps.keyOf_int_mk Try.underlying3 (wf_small HX.out))
        have HK2 := Aside0.mk (Maps.keyOf_int_mk Try.underlying3 (wf_small HL.out))
        have HN1 := Aside0.mk (show 2 * xi.toNat < Go.maxLen by have := HX.out; unfold Go.maxLen; omega)
        have HN2 := Aside0.mk (show 2 * xi.toNat + 1 < Go.maxLen by have := HX.out; unfold Go.maxLen; omega)
        have d0 : decide (0 ≤ ji) = true := decide_eq_true hj0
        have d1 : decide (ji ≤ (o.length : Int)) = true := decide_eq_true hj2
        have d2 : decide (ji < (o.length : Int)) = true := decide_eq_true hj1
        have e0 := eq_true hj0
        have e1 := eq_true hj1
        have e2 := eq_true hj2
        clear hA hC hr hy hyl et ho0 hji hi0_ hj0 hj1 hj2
        go_wp2_with (first | (go_at_call 76; (with_reducible refine (impl_isName.calls (bt a0 xi) false _ A7.out).mono ?_); rintro e w' ⟨rfl, ⟨nd, rfl⟩⟩) | (at_mapUpdate; refine wpList_mapUpdate_own _ rfl (.tmp 48) (.tmp 49) (.tmp 52) 79 rfl 3 3 map_key Try.underlying79 _ w.heap.size (2 * xi.toNat) _ rfl HM.out HN1.out _ _ _ rfl rfl HK1.out _ [] (plainElem_int Try.underlying3 (wf_small HL.out)) ?_; intro w1 ho1 hg1; have HM1 := Aside0.mk ho1; have HG1 := Aside0.mk hg1; clear ho1 hg1) | (at_mapUpdate; refine wpList_mapUpdate_own _ rfl (.tmp 50) (.tmp 51) (.tmp 53) 79 rfl 3 3 map_key Try.underlying79 _ w.heap.size (2 * xi.toNat + 1) _ rfl HM1.out HN2.out _ _ _ rfl rfl HK2.out _ [] (plainElem_int Try.underlying3 (wf_small HX.out)) ?_; intro w2 ho2 hg2; have HM2 := Aside0.mk ho2; have HG2 := Aside0.mk hg2; clear ho2 hg2))
        have hw := Hw.out
        have hx := HX.out
        have hq := Q6.out
        have hg1 := HG1.out
        have hg2 := HG2.out
        have s1 := hg1.size
        go_roundw
        case rel =>
         refine ⟨wrap64 (xi + 1), y, _, rfl, ⟨by omega, by omega, HL12.out, HOB.out⟩, ⟨by rw [hw]; exact HA.out⟩, ⟨Kd.R_grown (Kd.R_grown (Kd.R_drewN HO1.out _) hg1 (fun k_ hk e_ => hk (Option.some.inj e_))) hg2 (fun k_ hk e_ => hk (Option.some.inj e_))⟩, ⟨World.ownsMap.mono (D := mD ((la, xi) :: (xi, la) :: m1)) HM2.out (by omega)⟩, ⟨pw_below_grown (pw_below_grown (pw_below_drewN HB.out _) (some w.heap.size) HBS.out hg1 (fun k_ e_ => by cases e_; exact Nat.le_refl _)) (some w.heap.size) (Nat.le_trans HBS.out s1) hg2 (fun k_ e_ => by cases e_; exact Nat.le_refl _)⟩⟩
        case measure => simp [intOf, hw]; omega
      ·have c12b0 : ((bt a0 xi) == 47) = false := beq_eq_false_iff_ne.mpr hs
       have c12b1 : ((bt a0 xi) != 47) = true := bne_iff_ne.mpr hs
       rw [run_plain hn hs] at hA
       have HA := Aside0.mk hA
       clear hs hn hA
       go_wp2_with (first | (go_at_call 76; (with_reducible refine (impl_isName.calls (bt a0 xi) false _ A7.out).mono ?_); rintro e w' ⟨rfl, ⟨nd, rfl⟩⟩))
       have hw := Hw.out
       have hx := HX.out
       have hq := Q6.out
       go_roundw
       case rel => exact ⟨wrap64 (xi + 1), o, m1, rfl, ⟨by omega, by omega, L12.out, OB.out⟩, ⟨by rw [hw]; exact HA.out⟩, ⟨by repeat (first | exact HRo.out | apply Kd.R_drewN)⟩, ⟨World.ownsMap.mono HM.out (by omega)⟩, ⟨by repeat (first | exact HB.out | apply pw_below_drewN)⟩⟩
       case measure => simp [intOf, hw]; omega
    ·have hA := HA.out
     rw [drop_last a0 xi (by omega)] at hA
     have c3b0 : decide (xi < (a0.size : Int)) = false := decide_eq_false hlt
     have e := HH.out
     rw [← hA] at e
     have e' : (decide (o.length = 0), m1) = (ok, m) := e
     obtain ⟨rfl, rfl⟩ := Prod.mk.inj e'
     have HXL := Aside0.mk (show xi ≤ 300 by omega)
     clear hA e e' HH HA hss hle h12 hob h0 hlt
     by_cases ho0 : o.length = 0
     ·have hb0 : ((o.length : Int) == 0) = true := beq_iff_eq.mpr (by omega)
      have hb1 : (o.length == 0) = true := beq_iff_eq.mpr ho0
      have hd : decide (o.length = 0) = true := decide_eq_true ho0
      clear ho0
      go_wp2
      go_ret2
      exact ⟨.map (some w.heap.size), by rw [hd]; rfl, ⟨fun _ => ⟨_, rfl, HM.out.mono (by have := HXL.out; omega)⟩⟩, HB.out⟩
     ·have hb0 : ((o.length : Int) == 0) = false := beq_eq_false_iff_ne.mpr (by omega)
      have hb1 : (o.length == 0) = false := beq_eq_false_iff_ne.mpr ho0
      have hd : decide (o.length = 0) = false := decide_eq_false ho0
      clear ho0
      go_wp2
      go_ret2
      exact ⟨.map (some w.heap.size), by rw [hd]; rfl, ⟨fun h => by rw [hd] at h; cases h⟩, HB.out⟩
  ·rw [if_neg hsz] at h; cases h
 ·have ht' : t = false := by simpa using ht
  subst ht'
  rw [if_neg (by decide)] at h
  obtain ⟨rfl, rfl⟩ := Prod.mk.inj (Option.some.inj h)
  clear h ht
  go_enter Try.func75, Try.ntmps75
  go_wp2_with (first | (go_at_call 91; (with_reducible refine (impl_GoodText.calls k a0 false _ G.out).mono ?_); rintro e w' ⟨rfl, ⟨nd, rfl⟩⟩))
  go_ret2
  exact ⟨_, rfl, ⟨fun h => by cases h⟩, by repeat (first | exact Below.refl _ _ | apply pw_below_drewN)⟩
/-! ### impl_GoodDoc: function 48 (by hand) -/
def impl_GoodDoc.f (k : Nat) (a0 : ByteArray) : Option (Bool) := (impl_matches.f k a0).bind fun x => some x.1
theorem impl_GoodDoc.mono : ∀ a0 k, LeO (impl_GoodDoc.f k a0) (impl_GoodDoc.f (k + 1) a0) := by
 intro a0 k
 unfold impl_GoodDoc.f
 exact LeO.bind (impl_matches.mono _ _) (fun _ => LeO.refl _)
set_option maxHeartbeats 4000000 in
set_option maxRecDepth 100000 in
theorem impl_GoodDoc.calls (k : Nat) (a0 : ByteArray) (r : Bool) (w : World) (h : impl_GoodDoc.f k a0 = some r) :
  Calls Try.prog 48 #[.string a0] w fun e w' => e = .returned (.bool r) ∧ Below w.heap.size w w' := by
 unfold impl_GoodDoc.f at h
 obtain ⟨⟨ok, m⟩, hm, h⟩ := Option.bind_eq_some_iff.mp h
 obtain rfl := Option.some.inj h
 have M := Aside0.mk hm
 clear hm h
 go_enter Try.func48, Try.ntmps48
 go_wp2_with (first | (go_at_call 75; (with_reducible refine (impl_matches.calls k a0 ok m _ M.out).mono ?_); rintro e w1 ⟨mv, rfl, _, hb⟩))
 go_ret
 exact ⟨rfl, hb⟩
/-! ### impl_hasPlace: function 49 -/
def impl_hasPlace.f (a0 : ByteArray) (a1 : Int) : Option (Bool) := if a1 ≥ 0 then (some (decide (a1 ≤ (a0.size : Int)))) else (some false)
set_option maxHeartbeats 8000000 in
set_option maxRecDepth 100000 in
theorem impl_hasPlace.calls (a0 : ByteArray) (a1 : Int) (r : Bool) (w : World) (h : impl_hasPlace.f a0 a1 = some r) :
  Calls Try.prog 49 #[.string a0, .int .i64 a1] w fun e w' => e = .returned (.bool r) ∧ Drawn0 w w' := by
 have H : (if a1 ≥ 0 then (some (decide (a1 ≤ (a0.size : Int)))) else (some false)) = some r := h
 clear h
 by_cases c3 : a1 ≥ 0
 ·rw [if_pos c3] at H
  have c3b0 : decide (0 ≤ a1) = true := decide_eq_true c3
  clear c3
  obtain rfl := Option.some.inj H
  go_enter Try.func49, Try.ntmps49
  go_wp2
  go_ret
  exact ⟨by first | rfl | (simp; done) | (simp [*]; done), by repeat (first | exact Drawn0.refl _ | apply Drawn0.step)⟩
 ·rw [if_neg c3] at H
  have c3b0 : decide (0 ≤ a1) = false := decide_eq_false c3
  clear c3
  obtain rfl := Option.some.inj H
  go_enter Try.func49, Try.ntmps49
  go_wp2
  go_ret
  exact ⟨by first | rfl | (simp; done) | (simp [*]; done), by repeat (first | exact Drawn0.refl _ | apply Drawn0.step)⟩
/-! ### impl_around: function 72 -/
def impl_around.l0 : Nat → ByteArray → List Int → Int → Int → Option (List Int)
 | 0, _, _, _, _ => none
 | k + 1, x0, x5, x7, x8 => if x8 < x7 then (if 0 ≤ x8 then (if x8 < (x0.size : Int) then ((impl_isName.f (bt x0 x8)).bind fun t131 => (if t131 = true then (if x5.length < 17592186044416 then (impl_around.l0 k x0 (x5 ++ [x8]) x7 (wrap64 (x8 + 1))) else (none)) else (if (bt x0 x8) = 47 then (if 0 ≤ (wrap64 ((x5.length : Int) - 1)) then (if (wrap64 ((x5.length : Int) - 1)) ≤ (x5.length : Int) then (impl_around.l0 k x0 (x5.take ((wrap64 ((x5.length : Int) - 1)) : Int).toNat) x7 (wrap64 (x8 + 1))) else (none)) else (none)) else (impl_around.l0 k x0 x5 x7 (wrap64 (x8 + 1)))))) else (none)) else (none)) else (some x5)
def impl_around.f (k : Nat) (a0 : ByteArray) (a1 : Int) : Option (List Int) := impl_around.l0 k a0 ([] : List Int) a1 0
theorem impl_around.mono_l : ∀ k, (∀ y0 y1 y2 y3, LeO (impl_around.l0 k y0 y1 y2 y3) (impl_around.l0 (k + 1) y0 y1 y2 y3))
 | 0 => fun _ _ _ _ r h => by simp [impl_around.l0] at h
 | k + 1 => by
  have ih0 := impl_around.mono_l k
  ·intro y0 y1 y2 y3
   unfold impl_around.l0
   repeat' first
   | (with_reducible exact ih0 _ _ _ _)
   | (with_reducible exact LeO.refl _)
   | (with_reducible exact LeO.none _)
   | (with_reducible refine LeO.ite ?_ ?_)
   | (with_reducible refine LeO.bind ?_ (fun _ => ?_))
   | exact ih0 _ _ _ _
   | exact LeO.none _
   | refine LeO.ite ?_ ?_
   | refine LeO.bind ?_ (fun _ => ?_)
theorem impl_around.mono : ∀ a0 a1 k, LeO (impl_around.f k a0 a1) (impl_around.f (k + 1) a0 a1) := by
 intro a0 a1 k
 have ih0 := impl_around.mono_l k
 unfold impl_around.f
 repeat' first
   | (with_reducible exact ih0 _ _ _ _)
   | (with_reducible exact LeO.refl _)
   | (with_reducible exact LeO.none _)
   | (with_reducible refine LeO.ite ?_ ?_)
   | (with_reducible refine LeO.bind ?_ (fun _ => ?_))
   | exact ih0 _ _ _ _
   | exact LeO.none _
   | refine LeO.ite ?_ ?_
   | refine LeO.bind ?_ (fun _ => ?_)
set_option maxHeartbeats 8000000 in
set_option maxRecDepth 100000 in
theorem impl_around.calls (k : Nat) (a0 : ByteArray) (a1 : Int) (r : List Int) (w : World) (h : impl_around.f k a0 a1 = some r) :
  Calls Try.prog 72 #[.string a0, .int .i64 a1] w fun e w' => ∃ v0_ : Value, e = .returned (v0_) ∧ Kd.R (Kd.int .i64) 3 w' w.heap.size (fun _ => True) v0_ r ∧ Below w.heap.size w w' := by
 have HB := Aside0.mk (Below.refl w.heap.size w)
 have H : (impl_around.l0 k a0 ([] : List Int) a1 0) = some r := h
 clear h
 have H' := Aside0.mk H
 clear H
 go_enter Try.func72, Try.ntmps72
 go_wp2
 go_loopg [5, 8] k (fun kq v5 v8 w' => ∃ (x5_1 : List Int) (x8_1 : Int), v8 = .int .i64 x8_1 ∧ Aside0 (impl_around.l0 kq a0 x5_1 a1 x8_1 = some r) ∧ Aside0 (kq ≤ k) ∧ Aside0 (Kd.R (Kd.int .i64) 3 w' w.heap.size (fun _ => True) v5 x5_1) ∧ Aside0 (Below w.heap.size w w'))
 case atStart => exact ⟨(([] : List Int)), (0), (by first | rfl | (simp; done) | (simp [*]; done)), H', ⟨Nat.le_refl _⟩, ⟨by first | exact Kd.R_nil _ _ _ _ _ | exact Kd.N_nil _ _ _ _ _ | exact Kd.V_nil _ _ _ _ _ | exact Kd.Q_nil _ _ _ _ _ | exact Kd.S_nil _ _ _ _ _⟩, ⟨by repeat (first | (with_reducible first | exact HB.out | apply below_alloc | apply pw_below_drewN | apply below_drew1) | exact HB.out)⟩⟩
 case round =>
  clear H'
  try clear p2
  obtain ⟨x5_1, x8_1, rfl, HA, HK1, HO_5, HB⟩ := hrel
  cases gk with
  | zero => exact absurd HA.out (by simp [impl_around.l0])
  | succ k1 =>
   have H := HA.out
   clear HA
   simp only [impl_around.l0] at H
   by_cases c3 : x8_1 < a1
   ·rw [if_pos c3] at H
    have c3b0 : decide (x8_1 < a1) = true := decide_eq_true c3
    clear c3
    by_cases c4 : 0 ≤ x8_1
    ·rw [if_pos c4] at H
     have c4b0 : decide (0 ≤ x8_1) = true := decide_eq_true c4
     clear c4
     by_cases c5 : x8_1 < (a0.size : Int)
     ·rw [if_pos c5] at H
      have c5b0 : decide (x8_1 < (a0.size : Int)) = true := decide_eq_true c5
      clear c5
      replace H := Option.bind_eq_some_iff.mp H
      obtain ⟨t131, A70, H⟩ := H
      replace H : (if t131 = true then (if x5_1.length < 17592186044416 then (impl_around.l0 k1 a0 (x5_1 ++ [x8_1]) a1 (wrap64 (x8_1 + 1))) else (none)) else (if (bt a0 x8_1) = 47 then (if 0 ≤ (wrap64 ((x5_1.length : Int) - 1)) then (if (wrap64 ((x5_1.length : Int) - 1)) ≤ (x5_1.length : Int) then (impl_around.l0 k1 a0 (x5_1.take ((wrap64 ((x5_1.length : Int) - 1)) : Int).toNat) a1 (wrap64 (x8_1 + 1))) else (none)) else (none)) else (impl_around.l0 k1 a0 x5_1 a1 (wrap64 (x8_1 + 1))))) = some r := H
      have A7 := Aside0.mk A70
      clear A70
      by_cases c8 : t131 = true
      ·subst c8
       have H1 : (if x5_1.length < 17592186044416 then (impl_around.l0 k1 a0 (x5_1 ++ [x8_1]) a1 (wrap64 (x8_1 + 1))) else (none)) = some r := by rw [if_pos rfl] at H; exact H
       clear H
       have H := H1
       clear H1
       by_cases c9 : x5_1.length < 17592186044416
       ·rw [if_pos c9] at H
        have LMc9 := Aside0.mk c9
        clear c9
        obtain ⟨y132, hy132⟩ : ∃ y_ : List Int, y_ = (x5_1 ++ [x8_1]) := ⟨_, rfl⟩
        replace H : (impl_around.l0 k1 a0 y132 a1 (wrap64 (x8_1 + 1))) = some r := by first | (rw [hy132]; with_reducible exact H) | (have H2_ := (Option.bind_some _ _).symm.trans H; rw [hy132]; with_reducible exact H2_) | (have H2_ := (Option.bind_some _ _).symm.trans H; with_reducible exact H2_) | with_reducible exact H | (rw [hy132]; exact H) | exact H
        have Ny132 := Aside0.mk hy132
        clear hy132
        have H' := Aside0.mk H
        clear H
        have p6 : 0 ≤ (x8_1 : Int) := of_decide_eq_true (by assumption)
        have q6 : x8_1 < (a0.size : Int) := of_decide_eq_true (by assumption)
        have hx6 := bt_at a0 x8_1
        replace p6 := eq_true p6
        replace q6 := eq_true q6
        go_wp2_with (first | ((with_reducible refine gate_callee (f := 76) rfl ?_); refine goesL_ (some 15) rfl rfl Try.func76 (by kernel_rfl) rfl #[.int .u8 (bt a0 x8_1)] rfl (by first | rfl | (simp only [List.map_toArray, List.map_cons, List.map_nil]; rfl)) ?_; (with_reducible refine (impl_isName.calls (bt a0 x8_1) true _ A7.out).mono ?_); rintro e w' ⟨rfl, ⟨nd, rfl⟩⟩; refine ⟨_, rfl, ?_⟩) | ((with_reducible refine gate_builtin (b := .append) (xs := #[.tmp 16, .tmp 18]) rfl ?_); at_builtin; refine Kd.R_append (Kd.int .i64) (w0 := w) w.heap.size rfl (.tmp 16) (.tmp 18) 22 3 (.int .i64 0) 8 rfl Try.underlying22 info3 rfl (by decide) (by omega) u5 x5_1 x8_1 [.int .i64 x8_1] (fun _ => True) (fun _ => False) rfl rfl ?aP (fun _ hk => hk.elim) ?aF ?aO ?aB ?aS ?aL ?_; (case aP => exact rfl); (case aB => exact (by repeat (first | (with_reducible first | exact HB.out | apply below_alloc | apply pw_below_drewN | apply below_drew1) | exact HB.out))); (case aF => exact (fun _ _ => trivial)); (case aO => exact (by (with_reducible repeat (first | apply Kd.R_alloc | apply Kd.R_drewN | apply Kd.R_drew)); exact HO_5.out)); (case aS => exact (below_size (by repeat (first | (with_reducible first | exact HB.out | apply below_alloc | apply pw_below_drewN | apply below_drew1) | exact HB.out)))); (case aL => have := LMc9.out; omega); intro v133 w10 ho hb hg hat; rw [← Ny132.out] at ho; have n0_ := Aside0.mk (hb); have n1_ := Aside0.mk (ho); clear HB; clear HO_5; have HB := n0_; have HO134 := n1_; clear n0_ n1_; clear ho hb hg hat))
        go_roundg k1
        case measure => have := HK1.out; omega
        case rel => exact ⟨(y132), (wrap64 (x8_1 + 1)), (by first | rfl | (simp; done) | (simp [*]; done)), H', ⟨by have := HK1.out; omega⟩, ⟨by (with_reducible repeat (first | apply Kd.R_alloc | apply Kd.R_drewN | apply Kd.R_drew)); exact HO134.out⟩, ⟨by repeat (first | (with_reducible first | exact HB.out | apply below_alloc | apply pw_below_drewN | apply below_drew1) | exact HB.out)⟩⟩
       ·rw [if_neg c9] at H
        exact absurd H (by simp)
      ·replace c8 := Bool.eq_false_iff.mpr c8
       subst c8
       have H1 : (if (bt a0 x8_1) = 47 then (if 0 ≤ (wrap64 ((x5_1.length : Int) - 1)) then (if (wrap64 ((x5_1.length : Int) - 1)) ≤ (x5_1.length : Int) then (impl_around.l0 k1 a0 (x5_1.take ((wrap64 ((x5_1.length : Int) - 1)) : Int).toNat) a1 (wrap64 (x8_1 + 1))) else (none)) else (none)) else (impl_around.l0 k1 a0 x5_1 a1 (wrap64 (x8_1 + 1)))) = some r := by rw [if_neg (show ¬ (false = true) by decide)] at H; exact H
       clear H
       have H := H1
       clear H1
       by_cases c12 : (bt a0 x8_1) = 47
       ·rw [if_pos c12] at H
        have c12b0 : ((bt a0 x8_1) == 47) = true := beq_iff_eq.mpr c12
        have c12b1 : ((bt a0 x8_1) != 47) = false := bne_eq_false_iff_eq.mpr c12
        clear c12
        obtain ⟨ji13, hji13⟩ : ∃ j_ : Int, (wrap64 ((x5_1.length : Int) - 1)) = j_ := ⟨_, rfl⟩
        replace H : (if 0 ≤ (ji13) then (if (ji13) ≤ (x5_1.length : Int) then (impl_around.l0 k1 a0 (x5_1.take ((ji13) : Int).toNat) a1 (wrap64 (x8_1 + 1))) else (none)) else (none)) = some r := by first | (rw [hji13] at H; exact H) | (simp only [hji13] at H ⊢; exact H)
        (try rw [hji13] at A7)
        have hji13w : (IntKind.i64.wrap ((x5_1.length : Int) - 1)) = ji13 := (i64_w _).trans hji13
        by_cases c14 : 0 ≤ (ji13)
        ·rw [if_pos c14] at H
         have c14b0 := eq_true c14
         have c14b1 : decide (0 ≤ (ji13)) = true := decide_eq_true c14
         clear c14
         by_cases c15 : (ji13) ≤ (x5_1.length : Int)
         ·rw [if_pos c15] at H
          have c15b0 := eq_true c15
          have c15b1 : decide ((ji13) ≤ (x5_1.length : Int)) = true := decide_eq_true c15
          clear c15
          obtain ⟨y135, hy135⟩ : ∃ y_ : List Int, y_ = (x5_1.take ((ji13) : Int).toNat) := ⟨_, rfl⟩
          replace H : (impl_around.l0 k1 a0 y135 a1 (wrap64 (x8_1 + 1))) = some r := by first | (rw [hy135]; with_reducible exact H) | (have H2_ := (Option.bind_some _ _).symm.trans H; rw [hy135]; with_reducible exact H2_) | (have H2_ := (Option.bind_some _ _).symm.trans H; with_reducible exact H2_) | with_reducible exact H | (rw [hy135]; exact H) | exact H
          have Ny135 := Aside0.mk hy135
          clear hy135
          have H' := Aside0.mk H
          clear H
          have p6 : 0 ≤ (x8_1 : Int) := of_decide_eq_true (by assumption)
          have q6 : x8_1 < (a0.size : Int) := of_decide_eq_true (by assumption)
          have hx6 := bt_at a0 x8_1
          replace p6 := eq_true p6
          replace q6 := eq_true q6
          go_wp2_with (first | ((with_reducible refine gate_callee (f := 76) rfl ?_); refine goesL_ (some 15) rfl rfl Try.func76 (by kernel_rfl) rfl #[.int .u8 (bt a0 x8_1)] rfl (by first | rfl | (simp only [List.map_toArray, List.map_cons, List.map_nil]; rfl)) ?_; (with_reducible refine (impl_isName.calls (bt a0 x8_1) false _ A7.out).mono ?_); rintro e w' ⟨rfl, ⟨nd, rfl⟩⟩; refine ⟨_, rfl, ?_⟩; have p11 : 0 ≤ (x8_1 : Int) := of_decide_eq_true (by assumption); have q11 : x8_1 < (a0.size : Int) := of_decide_eq_true (by assumption); have hx11 := bt_at a0 x8_1; replace p11 := eq_true p11; replace q11 := eq_true q11; obtain ⟨Ao16, co16, eo16⟩ := Kd.R_slice HO_5.out; subst eo16; have q17 : ((ji13) : Int) ≤ ((x5_1.length : Int) : Int) := of_decide_eq_true (by assumption); obtain ⟨i017, hi017, _, hsz17, _⟩ := info_parts info3; have hcut17 := cut_to (P := Try.prog) 22 3 .i64 Try.underlying22 hi017 Ao16 x5_1.length co16 (ji13) (of_decide_eq_true (by assumption)) q17 (Kd.R_reads' HO_5.out).2.1; have hr17 := Kd.R_take (m := ((ji13) : Int).toNat) HO_5.out (by omega); have hy17 : y135.length = ((ji13) : Int).toNat := (by rw [Ny135.out, List.length_take]; omega); rw [← Ny135.out] at hr17; rw [← hy17] at hr17 hcut17; clear hy17 hi017 hsz17 HO_5; have HO137 := Aside0.mk hr17; clear hr17; replace q17 := eq_true q17))
          go_roundg k1
          case measure => have := HK1.out; omega
          case rel => exact ⟨(y135), (wrap64 (x8_1 + 1)), (by first | rfl | (simp; done) | (simp [*]; done)), H', ⟨by have := HK1.out; omega⟩, ⟨by (with_reducible repeat (first | apply Kd.R_alloc | apply Kd.R_drewN | apply Kd.R_drew)); exact HO137.out⟩, ⟨by repeat (first | (with_reducible first | exact HB.out | apply below_alloc | apply pw_below_drewN | apply below_drew1) | exact HB.out)⟩⟩
         ·rw [if_neg c15] at H
          exact absurd H (by simp)
        ·rw [if_neg c14] at H
         exact absurd H (by simp)
       ·rw [if_neg c12] at H
        have c12b0 : ((bt a0 x8_1) == 47) = false := beq_eq_false_iff_ne.mpr c12
        have c12b1 : ((bt a0 x8_1) != 47) = true := bne_iff_ne.mpr c12
        have H' := Aside0.mk H
        clear H
        have p6 : 0 ≤ (x8_1 : Int) := of_decide_eq_true (by assumption)
        have q6 : x8_1 < (a0.size : Int) := of_decide_eq_true (by assumption)
        have hx6 := bt_at a0 x8_1
        replace p6 := eq_true p6
        replace q6 := eq_true q6
        go_wp2_with (first | ((with_reducible refine gate_callee (f := 76) rfl ?_); refine goesL_ (some 15) rfl rfl Try.func76 (by kernel_rfl) rfl #[.int .u8 (bt a0 x8_1)] rfl (by first | rfl | (simp only [List.map_toArray, List.map_cons, List.map_nil]; rfl)) ?_; (with_reducible refine (impl_isName.calls (bt a0 x8_1) false _ A7.out).mono ?_); rintro e w' ⟨rfl, ⟨nd, rfl⟩⟩; refine ⟨_, rfl, ?_⟩; have p11 : 0 ≤ (x8_1 : Int) := of_decide_eq_true (by assumption); have q11 : x8_1 < (a0.size : Int) := of_decide_eq_true (by assumption); have hx11 := bt_at a0 x8_1; replace p11 := eq_true p11; replace q11 := eq_true q11))
        go_roundg k1
        case measure => have := HK1.out; omega
        case rel => exact ⟨(x5_1), (wrap64 (x8_1 + 1)), (by first | rfl | (simp; done) | (simp [*]; done)), H', ⟨by have := HK1.out; omega⟩, ⟨by (with_reducible repeat (first | apply Kd.R_alloc | apply Kd.R_drewN | apply Kd.R_drew)); exact HO_5.out⟩, ⟨by repeat (first | (with_reducible first | exact HB.out | apply below_alloc | apply pw_below_drewN | apply below_drew1) | exact HB.out)⟩⟩
     ·rw [if_neg c5] at H
      exact absurd H (by simp)
    ·rw [if_neg c4] at H
     exact absurd H (by simp)
   ·rw [if_neg c3] at H
    have c3b0 : decide (x8_1 < a1) = false := decide_eq_false c3
    clear c3
    obtain rfl := Option.some.inj H
    go_wp2
    go_ret
    exact ⟨_, by first | rfl | (simp [errW_none, errW_some] <;> rfl) | (simp [*, errW_none, errW_some] <;> rfl), by (with_reducible repeat (first | apply Kd.R_alloc | apply Kd.R_drewN | apply Kd.R_drew)); exact HO_5.out, by repeat (first | (with_reducible first | exact HB.out | apply below_alloc | apply pw_below_drewN | apply below_drew1) | exact HB.out)⟩
/-! ### impl_MatchOf: function 77 (by hand) -/
def impl_MatchOf.f (k : Nat) (a0 : ByteArray) (a1 : Int) : Option (Int × Bool) :=
 if -9223372036854775808 ≤ a1 ∧ a1 ≤ 9223372036854775807 then (impl_matches.f k a0).bind fun x => (if x.1 = true then some ((x.2.lookup a1).getD 0, (x.2.lookup a1).isSome) else some (0, false)) else none
theorem impl_MatchOf.mono : ∀ a0 a1 k, LeO (impl_MatchOf.f k a0 a1) (impl_MatchOf.f (k + 1) a0 a1) := by
 intro a0 a1 k
 unfold impl_MatchOf.f
 exact LeO.ite (LeO.bind (impl_matches.mono _ _) (fun _ => LeO.refl _)) (LeO.none _)
set_option maxHeartbeats 4000000 in
set_option maxRecDepth 100000 in
theorem impl_MatchOf.calls (k : Nat) (a0 : ByteArray) (a1 : Int) (r1 : Int) (r2 : Bool) (w : World) (h : impl_MatchOf.f k a0 a1 = some (r1, r2)) :
  Calls Try.prog 77 #[.string a0, .int .i64 a1] w fun e w' => e = .returned (.tuple #[.int .i64 r1, .bool r2]) ∧ Below w.heap.size w w' := by
 unfold impl_MatchOf.f at h
 by_cases hr : -9223372036854775808 ≤ a1 ∧ a1 ≤ 9223372036854775807
 ·rw [if_pos hr] at h
  have HK := Aside0.mk (Maps.keyOf_int_mk Try.underlying3 (WalkArith.wf_i64 hr))
  obtain ⟨⟨ok, m⟩, hm, h⟩ := Option.bind_eq_some_iff.mp h
  have M := Aside0.mk hm
  clear hm hr
  cases ok with
  | true =>
   rw [if_pos rfl] at h
   obtain ⟨rfl, rfl⟩ := Prod.mk.inj (Option.some.inj h)
   clear h
   go_enter Try.func77, Try.ntmps77
   go_wp2_with (first | (go_at_call 75; (with_reducible refine (impl_matches.calls k a0 true m _ M.out).mono ?_); rintro e w1 ⟨mv, rfl, hm, hb⟩; obtain ⟨B, rfl, hown⟩ := hm.out rfl; have HO := Aside0.mk hown; have HB := Aside0.mk hb; clear hm hown hb) | (at_lookup; refine wpList_lookup_own_ok_int _ rfl _ _ 79 rfl 3 3 .i64 map_key Try.underlying79 Try.underlying3 (map_zero _) B 600 _ rfl HO.out _ _ rfl HK.out ?_; intro c hat hwc; have HC := Aside0.mk hat; clear hat hwc))
   have e1 := (mD_at a1 m).symm.trans HC.out
   injection e1 with e1
   injection e1 with _ e1
   go_ret2
   exact ⟨by rw [e1, ← mD_has]; rfl, HB.out⟩
  | false =>
   replace h : some ((0 : Int), false) = some (r1, r2) := h
   obtain ⟨rfl, rfl⟩ := Prod.mk.inj (Option.some.inj h)
   clear h
   go_enter Try.func77, Try.ntmps77
   go_wp2_with (first | (go_at_call 75; (with_reducible refine (impl_matches.calls k a0 false m _ M.out).mono ?_); rintro e w1 ⟨mv, rfl, hm, hb⟩; have HB := Aside0.mk hb; clear hm hb))
   go_ret2
   exact ⟨rfl, HB.out⟩
 ·rw [if_neg hr] at h; cases h
end Go.Proofs.Ytkdablilbbbihaa.PFnPaths
