/- (thin) Written by a program of this session (wip/ovl.py) over the kit's print. -/
import Derived.Test.YtoagljlnfakgjaaBase
import Derived.Test.YtoagljlnfakgjaaPFnDiamondx0
import Derived.Test.YtoagljlnfakgjaaPFnDiamondx3
namespace Go.Proofs.Ytoagljlnfakgjaa.PFnDiamond
open Go.RowKit Go.Proofs.YtoagljlnfakgjaaW.PrintWords Go.Proofs.YtoagljlnfakgjaaW.PrintLast Go.Proofs.YtoagljlnfakgjaaW.PrintMore
attribute [local go_sem] max2_int min2_int max_two min_two max_three min_three max_four min_four
set_option linter.unusedVariables false
set_option linter.unusedSimpArgs false
set_option maxHeartbeats 8000000
set_option maxRecDepth 100000
def jR.l0 : Nat → ByteArray → Int → Int → Option (Bool)
 | 0, _, _, _ => none
 | k + 1, x0, x5, x6 => if x6 < x5 then (if 0 ≤ x6 then (if x6 < (x0.size : Int) then ((yT.f (bt x0 x6)).bind fun t139 => (if t139 = true then (jR.l0 k x0 x5 (wrap64 (x6 + 1))) else ((yV.f (bt x0 x6)).bind fun t140 => (if t140 = true then (jR.l0 k x0 x5 (wrap64 (x6 + 1))) else (if (bt x0 x6) = 47 then (jR.l0 k x0 x5 (wrap64 (x6 + 1))) else (some false)))))) else (none)) else (none)) else (some (decide ((x0.size : Int) ≤ 300)))
def jR.f (k : Nat) (a0 : ByteArray) : Option (Bool) := jR.l0 k a0 (a0.size : Int) 0
theorem jR.mono_l : ∀ k, (∀ y0 y1 y2, LeO (jR.l0 k y0 y1 y2) (jR.l0 (k + 1) y0 y1 y2))
 | 0 => fun _ _ _ r h => by simp [jR.l0] at h
 | k + 1 => by
  have ih0 := jR.mono_l k
  ·intro y0 y1 y2
   unfold jR.l0
   repeat' (with_reducible first | apply ih0 | apply LeO.refl | apply LeO.none | apply LeO.ite | refine LeO.bind ?_ fun _ => ?_)
theorem jR.mono : ∀ a0 k, LeO (jR.f k a0) (jR.f (k + 1) a0) := by
 intro a0 k
 have ih0 := jR.mono_l k
 unfold jR.f
 repeat' (with_reducible first | apply ih0 | apply LeO.refl | apply LeO.none | apply LeO.ite | refine LeO.bind ?_ fun _ => ?_)
theorem jR.calls (k : Nat) (a0 : ByteArray) (r : Bool) (w : World) (h : jR.f k a0 = some r) :
  Calls Try.prog 57 #[.string a0] w fun e w' => e = .returned (.bool r) ∧ Drawn0 w w' := by
 have H : (jR.l0 k a0 (a0.size : Int) 0) = some r := h
 clear h
 have H' := aM H
 clear H
 go_enter Try.func57, Try.ntmps57
 go_wp2
 go_loopg [6] k (fun kq v6 w' => ∃ (x6_1 : Int), v6 = .int .i64 x6_1 ∧ Aside0 (jR.l0 kq a0 (a0.size : Int) x6_1 = some r) ∧ Aside0 (kq ≤ k) ∧ Drawn0 w w')
 case atStart => exact ⟨(0), aP19, H', ⟨Nat.le_refl _⟩, by repeat (first | exact Drawn0.refl _ | apply Drawn0.step)⟩
 case round =>
  clear H'
  obtain ⟨x6_1, rfl, HA, HK1, ⟨m1, rfl⟩⟩ := hrel
  cases gk with
  | zero => exact absurd HA.out (by simp [jR.l0])
  | succ k1 => ?_
  have H := HA.out
  clear HA
  simp only [jR.l0] at H
  by_cases c2 : x6_1 < (a0.size : Int)
  rotate_left
  ·rw [if_neg c2] at H
   have c2b0 : decide (x6_1 < (a0.size : Int)) = false := decide_eq_false c2
   clear c2
   obtain rfl := Option.some.inj H
   go_wp2
   go_ret
   exact ⟨eS, by repeat (first | exact Drawn0.refl _ | apply Drawn0.step)⟩
  rw [if_pos c2] at H
  have c2b0 : decide (x6_1 < (a0.size : Int)) = true := decide_eq_true c2
  clear c2
  obtain ⟨c3b0, H⟩ := gB H
  obtain ⟨c4b0, H⟩ := gB H
  obtain ⟨t139, A6, H⟩ := bM H
  by_cases c7 : t139 = true
  ·subst c7
   rw [if_pos rfl] at H
   have H' := aM H
   clear H
   have p5 : 0 ≤ (x6_1 : Int) := of_decide_eq_true (by assumption)
   have q5 : x6_1 < (a0.size : Int) := of_decide_eq_true (by assumption)
   have hx5 := bt_at a0 x6_1
   replace p5 := eq_true p5
   replace q5 := eq_true q5
   go_wp2_with ((with_reducible refine gate_callee (f := 76) rfl ?_); refine gL 12 Try.func76 #[.int .u8 (bt a0 x6_1)] ?_; (with_reducible refine (yT.calls (bt a0 x6_1) true _ A6.out).mono ?_); rintro e w' ⟨rfl, ⟨nd, rfl⟩⟩; refine ⟨_, rfl, ?_⟩)
   go_roundg k1
   case measure => have := HK1.out; omega
   case rel => exact ⟨(wrap64 (x6_1 + 1)), aP19, H', ⟨by have := HK1.out; omega⟩, by repeat (first | exact Drawn0.refl _ | apply Drawn0.step)⟩
  replace c7 := Bool.eq_false_iff.mpr c7
  subst c7
  replace H := fF H
  obtain ⟨t140, A9, H⟩ := bM H
  by_cases c10 : t140 = true
  ·subst c10
   rw [if_pos rfl] at H
   have H' := aM H
   clear H
   have p5 : 0 ≤ (x6_1 : Int) := of_decide_eq_true (by assumption)
   have q5 : x6_1 < (a0.size : Int) := of_decide_eq_true (by assumption)
   have hx5 := bt_at a0 x6_1
   replace p5 := eq_true p5
   replace q5 := eq_true q5
   go_wp2_with (first | ((with_reducible refine gate_callee (f := 76) rfl ?_); refine gL 12 Try.func76 #[.int .u8 (bt a0 x6_1)] ?_; (with_reducible refine (yT.calls (bt a0 x6_1) false _ A6.out).mono ?_); rintro e w' ⟨rfl, ⟨nd, rfl⟩⟩; refine ⟨_, rfl, ?_⟩; obtain ⟨p8, q8⟩ := dT x6_1 (a0.size : Int); have hx8 := bt_at a0 x6_1) | (go_at_call 77; (with_reducible refine (yV.calls (bt a0 x6_1) true _ A9.out).mono ?_); rintro e w' ⟨rfl, ⟨nd, rfl⟩⟩))
   go_roundg k1
   case measure => have := HK1.out; omega
   case rel => exact ⟨(wrap64 (x6_1 + 1)), aP19, H', ⟨by have := HK1.out; omega⟩, by repeat (first | exact Drawn0.refl _ | apply Drawn0.step)⟩
  replace c10 := Bool.eq_false_iff.mpr c10
  subst c10
  replace H := fF H
  by_cases c12 : (bt a0 x6_1) = 47
  rotate_left
  ·rw [if_neg c12] at H
   obtain ⟨c12b0, c12b1⟩ := nE c12
   obtain rfl := Option.some.inj H
   have p5 : 0 ≤ (x6_1 : Int) := of_decide_eq_true (by assumption)
   have q5 : x6_1 < (a0.size : Int) := of_decide_eq_true (by assumption)
   have hx5 := bt_at a0 x6_1
   replace p5 := eq_true p5
   replace q5 := eq_true q5
   go_wp2_with (first | ((with_reducible refine gate_callee (f := 76) rfl ?_); refine gL 12 Try.func76 #[.int .u8 (bt a0 x6_1)] ?_; (with_reducible refine (yT.calls (bt a0 x6_1) false _ A6.out).mono ?_); rintro e w' ⟨rfl, ⟨nd, rfl⟩⟩; refine ⟨_, rfl, ?_⟩; obtain ⟨p8, q8⟩ := dT x6_1 (a0.size : Int); have hx8 := bt_at a0 x6_1) | (go_at_call 77; (with_reducible refine (yV.calls (bt a0 x6_1) false _ A9.out).mono ?_); rintro e w' ⟨rfl, ⟨nd, rfl⟩⟩; obtain ⟨p11, q11⟩ := dT x6_1 (a0.size : Int); have hx11 := bt_at a0 x6_1))
   go_ret
   exact ⟨eS, by repeat (first | exact Drawn0.refl _ | apply Drawn0.step)⟩
  rw [if_pos c12] at H
  obtain ⟨c12b0, c12b1⟩ := pE c12
  clear c12
  have H' := aM H
  clear H
  have p5 : 0 ≤ (x6_1 : Int) := of_decide_eq_true (by assumption)
  have q5 : x6_1 < (a0.size : Int) := of_decide_eq_true (by assumption)
  have hx5 := bt_at a0 x6_1
  replace p5 := eq_true p5
  replace q5 := eq_true q5
  go_wp2_with (first | ((with_reducible refine gate_callee (f := 76) rfl ?_); refine gL 12 Try.func76 #[.int .u8 (bt a0 x6_1)] ?_; (with_reducible refine (yT.calls (bt a0 x6_1) false _ A6.out).mono ?_); rintro e w' ⟨rfl, ⟨nd, rfl⟩⟩; refine ⟨_, rfl, ?_⟩; obtain ⟨p8, q8⟩ := dT x6_1 (a0.size : Int); have hx8 := bt_at a0 x6_1) | (go_at_call 77; (with_reducible refine (yV.calls (bt a0 x6_1) false _ A9.out).mono ?_); rintro e w' ⟨rfl, ⟨nd, rfl⟩⟩; obtain ⟨p11, q11⟩ := dT x6_1 (a0.size : Int); have hx11 := bt_at a0 x6_1))
  go_roundg k1
  case measure => have := HK1.out; omega
  case rel => exact ⟨(wrap64 (x6_1 + 1)), aP19, H', ⟨by have := HK1.out; omega⟩, by repeat (first | exact Drawn0.refl _ | apply Drawn0.step)⟩
def yL.f (k : Nat) (a0_0 : Int) (a0_1 : ByteArray) (a0_2 : ByteArray) : Option (Bool) := if a0_0 = 0 then (if a0_1.toList = ([] : List UInt8) then (if a0_2.toList = ([] : List UInt8) then (some false) else ((jR.f k a0_2).bind fun t142 => (some t142))) else (if a0_2.toList = ([] : List UInt8) then ((jR.f k a0_1).bind fun t143 => (some t143)) else (some false))) else (if a0_0 ≥ 1 then (if a0_0 ≤ 300 then (if a0_1.toList = ([] : List UInt8) then (some (a0_2.toList == ([] : List UInt8))) else (some false)) else (some false)) else (some false))
theorem yL.mono : ∀ a0 a1 a2 k, LeO (yL.f k a0 a1 a2) (yL.f (k + 1) a0 a1 a2) := by
 intro a0 a1 a2 k
 unfold yL.f
 repeat' (with_reducible first | apply jR.mono | apply LeO.refl | apply LeO.none | apply LeO.ite | refine LeO.bind ?_ fun _ => ?_)
theorem yL.calls (k : Nat) (a0_0 : Int) (a0_1 : ByteArray) (a0_2 : ByteArray) (r : Bool) (w : World) (h : yL.f k a0_0 a0_1 a0_2 = some r) :
  Calls Try.prog 68 #[.agg #[.int .i64 a0_0, .string a0_1, .string a0_2]] w fun e w' => e = .returned (.bool r) ∧ Below w.heap.size w w' := by
 have hu60 := Try.underlying60
 have HB := aM (Below.refl w.heap.size w)
 have H : (if a0_0 = 0 then (if a0_1.toList = ([] : List UInt8) then (if a0_2.toList = ([] : List UInt8) then (some false) else ((jR.f k a0_2).bind fun t142 => (some t142))) else (if a0_2.toList = ([] : List UInt8) then ((jR.f k a0_1).bind fun t143 => (some t143)) else (some false))) else (if a0_0 ≥ 1 then (if a0_0 ≤ 300 then (if a0_1.toList = ([] : List UInt8) then (some (a0_2.toList == ([] : List UInt8))) else (some false)) else (some false)) else (some false))) = some r := h
 clear h
 by_cases c2 : a0_0 = 0
 rotate_left
 ·rw [if_neg c2] at H
  obtain ⟨c2b0, c2b1⟩ := nE c2
  by_cases c16 : a0_0 ≥ 1
  rotate_left
  ·rw [if_neg c16] at H
   have c16b0 : decide (1 ≤ a0_0) = false := decide_eq_false c16
   clear c16
   obtain rfl := Option.some.inj H
   go_enter Try.func68, Try.ntmps68
   go_wp2_with ((with_reducible refine gate_dst (N := 1) rfl ?_); refine box_event rfl (N := 1) rfl (cs := #[.int .i64 a0_0, .string a0_1, .string a0_2]) (t := 60) aP38 ?_; intro gb141 hg w25 hbox hb; have BK141 := aM (hbox); have GW141 := aM (bG (w := w) hg); have GE141 := aM (bG (w := w) hg); replace HB := aM (below_step bB hb); clear hb hbox hg; obtain ⟨hcz26_0, hcz26_1, hcz26_2, hfz26_0, hfz26_1, hfz26_2⟩ := bx3 BK141.out)
   go_ret
   exact ⟨by first | rfl | (simp [errW_none, errW_some] <;> rfl) | (simp; exact Base.isE _) | (simp [*, errW_none, errW_some] <;> rfl), aP8⟩
  rw [if_pos c16] at H
  have c16b0 : decide (1 ≤ a0_0) = true := decide_eq_true c16
  clear c16
  by_cases c17 : a0_0 ≤ 300
  rotate_left
  ·rw [if_neg c17] at H
   have c17b0 : decide (a0_0 ≤ 300) = false := decide_eq_false c17
   clear c17
   obtain rfl := Option.some.inj H
   go_enter Try.func68, Try.ntmps68
   go_wp2_with ((with_reducible refine gate_dst (N := 1) rfl ?_); refine box_event rfl (N := 1) rfl (cs := #[.int .i64 a0_0, .string a0_1, .string a0_2]) (t := 60) aP38 ?_; intro gb141 hg w23 hbox hb; have BK141 := aM (hbox); have GW141 := aM (bG (w := w) hg); have GE141 := aM (bG (w := w) hg); replace HB := aM (below_step bB hb); clear hb hbox hg; obtain ⟨hcz24_0, hcz24_1, hcz24_2, hfz24_0, hfz24_1, hfz24_2⟩ := bx3 BK141.out)
   go_ret
   exact ⟨by first | rfl | (simp [errW_none, errW_some] <;> rfl) | (simp; exact Base.isE _) | (simp [*, errW_none, errW_some] <;> rfl), aP8⟩
  rw [if_pos c17] at H
  have c17b0 : decide (a0_0 ≤ 300) = true := decide_eq_true c17
  clear c17
  by_cases c18 : a0_1.toList = ([] : List UInt8)
  rotate_left
  ·rw [if_neg c18] at H
   obtain ⟨c18b0, c18b1⟩ := nE c18
   try have c18e : a0_1.toList.isEmpty = false := List.isEmpty_eq_false_iff.mpr c18
   obtain rfl := Option.some.inj H
   go_enter Try.func68, Try.ntmps68
   go_wp2_with ((with_reducible refine gate_dst (N := 1) rfl ?_); refine box_event rfl (N := 1) rfl (cs := #[.int .i64 a0_0, .string a0_1, .string a0_2]) (t := 60) aP38 ?_; intro gb141 hg w21 hbox hb; have BK141 := aM (hbox); have GW141 := aM (bG (w := w) hg); have GE141 := aM (bG (w := w) hg); replace HB := aM (below_step bB hb); clear hb hbox hg; obtain ⟨hcz22_0, hcz22_1, hcz22_2, hfz22_0, hfz22_1, hfz22_2⟩ := bx3 BK141.out)
   go_ret
   exact ⟨by first | rfl | (simp [errW_none, errW_some] <;> rfl) | (simp; exact Base.isE _) | (simp [*, errW_none, errW_some] <;> rfl), aP8⟩
  rw [if_pos c18] at H
  obtain ⟨c18b0, c18b1⟩ := pE c18
  try have c18e : a0_1.toList.isEmpty = true := List.isEmpty_iff.mpr c18
  clear c18
  obtain rfl := Option.some.inj H
  go_enter Try.func68, Try.ntmps68
  go_wp2_with ((with_reducible refine gate_dst (N := 1) rfl ?_); refine box_event rfl (N := 1) rfl (cs := #[.int .i64 a0_0, .string a0_1, .string a0_2]) (t := 60) aP38 ?_; intro gb141 hg w19 hbox hb; have BK141 := aM (hbox); have GW141 := aM (bG (w := w) hg); have GE141 := aM (bG (w := w) hg); replace HB := aM (below_step bB hb); clear hb hbox hg; obtain ⟨hcz20_0, hcz20_1, hcz20_2, hfz20_0, hfz20_1, hfz20_2⟩ := bx3 BK141.out)
  go_ret
  exact ⟨by first | rfl | (simp [errW_none, errW_some] <;> rfl) | (simp; exact Base.isE _) | (simp [*, errW_none, errW_some] <;> rfl), aP8⟩
 rw [if_pos c2] at H
 obtain ⟨c2b0, c2b1⟩ := pE c2
 clear c2
 by_cases c3 : a0_1.toList = ([] : List UInt8)
 ·rw [if_pos c3] at H
  obtain ⟨c3b0, c3b1⟩ := pE c3
  try have c3e : a0_1.toList.isEmpty = true := List.isEmpty_iff.mpr c3
  clear c3
  by_cases c4 : a0_2.toList = ([] : List UInt8)
  ·rw [if_pos c4] at H
   obtain ⟨c4b0, c4b1⟩ := pE c4
   try have c4e : a0_2.toList.isEmpty = true := List.isEmpty_iff.mpr c4
   clear c4
   obtain rfl := Option.some.inj H
   go_enter Try.func68, Try.ntmps68
   go_wp2_with ((with_reducible refine gate_dst (N := 1) rfl ?_); refine box_event rfl (N := 1) rfl (cs := #[.int .i64 a0_0, .string a0_1, .string a0_2]) (t := 60) aP38 ?_; intro gb141 hg w5 hbox hb; have BK141 := aM (hbox); have GW141 := aM (bG (w := w) hg); have GE141 := aM (bG (w := w) hg); replace HB := aM (below_step bB hb); clear hb hbox hg; obtain ⟨hcz6_0, hcz6_1, hcz6_2, hfz6_0, hfz6_1, hfz6_2⟩ := bx3 BK141.out)
   go_ret
   exact ⟨by first | rfl | (simp [errW_none, errW_some] <;> rfl) | (simp; exact Base.isE _) | (simp [*, errW_none, errW_some] <;> rfl), aP8⟩
  rw [if_neg c4] at H
  obtain ⟨c4b0, c4b1⟩ := nE c4
  try have c4e : a0_2.toList.isEmpty = false := List.isEmpty_eq_false_iff.mpr c4
  obtain ⟨t142, A7, H⟩ := bM H
  obtain rfl := Option.some.inj H
  go_enter Try.func68, Try.ntmps68
  go_wp2_with (first | ((with_reducible refine gate_dst (N := 1) rfl ?_); refine box_event rfl (N := 1) rfl (cs := #[.int .i64 a0_0, .string a0_1, .string a0_2]) (t := 60) aP38 ?_; intro gb141 hg w8 hbox hb; have BK141 := aM (hbox); have GW141 := aM (bG (w := w) hg); have GE141 := aM (bG (w := w) hg); replace HB := aM (below_step bB hb); clear hb hbox hg; obtain ⟨hcz9_0, hcz9_1, hcz9_2, hfz9_0, hfz9_1, hfz9_2⟩ := bx3 BK141.out) | (go_at_call 57; (with_reducible refine (jR.calls k a0_2 t142 _ A7.out).mono ?_); rintro e w' ⟨rfl, ⟨nd, rfl⟩⟩))
  go_ret
  exact ⟨by first | rfl | (simp [errW_none, errW_some] <;> rfl) | (simp; exact Base.isE _) | (simp [*, errW_none, errW_some] <;> rfl), aP8⟩
 rw [if_neg c3] at H
 obtain ⟨c3b0, c3b1⟩ := nE c3
 try have c3e : a0_1.toList.isEmpty = false := List.isEmpty_eq_false_iff.mpr c3
 by_cases c10 : a0_2.toList = ([] : List UInt8)
 rotate_left
 ·rw [if_neg c10] at H
  obtain ⟨c10b0, c10b1⟩ := nE c10
  try have c10e : a0_2.toList.isEmpty = false := List.isEmpty_eq_false_iff.mpr c10
  obtain rfl := Option.some.inj H
  go_enter Try.func68, Try.ntmps68
  go_wp2_with ((with_reducible refine gate_dst (N := 1) rfl ?_); refine box_event rfl (N := 1) rfl (cs := #[.int .i64 a0_0, .string a0_1, .string a0_2]) (t := 60) aP38 ?_; intro gb141 hg w14 hbox hb; have BK141 := aM (hbox); have GW141 := aM (bG (w := w) hg); have GE141 := aM (bG (w := w) hg); replace HB := aM (below_step bB hb); clear hb hbox hg; obtain ⟨hcz15_0, hcz15_1, hcz15_2, hfz15_0, hfz15_1, hfz15_2⟩ := bx3 BK141.out)
  go_ret
  exact ⟨by first | rfl | (simp [errW_none, errW_some] <;> rfl) | (simp; exact Base.isE _) | (simp [*, errW_none, errW_some] <;> rfl), aP8⟩
 rw [if_pos c10] at H
 obtain ⟨c10b0, c10b1⟩ := pE c10
 try have c10e : a0_2.toList.isEmpty = true := List.isEmpty_iff.mpr c10
 clear c10
 obtain ⟨t143, A11, H⟩ := bM H
 obtain rfl := Option.some.inj H
 go_enter Try.func68, Try.ntmps68
 go_wp2_with (first | ((with_reducible refine gate_dst (N := 1) rfl ?_); refine box_event rfl (N := 1) rfl (cs := #[.int .i64 a0_0, .string a0_1, .string a0_2]) (t := 60) aP38 ?_; intro gb141 hg w12 hbox hb; have BK141 := aM (hbox); have GW141 := aM (bG (w := w) hg); have GE141 := aM (bG (w := w) hg); replace HB := aM (below_step bB hb); clear hb hbox hg; obtain ⟨hcz13_0, hcz13_1, hcz13_2, hfz13_0, hfz13_1, hfz13_2⟩ := bx3 BK141.out) | (go_at_call 57; (with_reducible refine (jR.calls k a0_1 t143 _ A11.out).mono ?_); rintro e w' ⟨rfl, ⟨nd, rfl⟩⟩))
 go_ret
 exact ⟨by first | rfl | (simp [errW_none, errW_some] <;> rfl) | (simp; exact Base.isE _) | (simp [*, errW_none, errW_some] <;> rfl), aP8⟩
def yO.f (k : Nat) (a0_0 : Int) (a0_1 : ByteArray) (a0_2 : ByteArray) : Option (Bool) := (yL.f k a0_0 a0_1 a0_2).bind fun t145 => (some (!t145))
theorem yO.mono : ∀ a0 a1 a2 k, LeO (yO.f k a0 a1 a2) (yO.f (k + 1) a0 a1 a2) := by
 intro a0 a1 a2 k
 unfold yO.f
 repeat' (with_reducible first | apply yL.mono | apply LeO.refl | apply LeO.none | apply LeO.ite | refine LeO.bind ?_ fun _ => ?_)
theorem yO.calls (k : Nat) (a0_0 : Int) (a0_1 : ByteArray) (a0_2 : ByteArray) (r : Bool) (w : World) (h : yO.f k a0_0 a0_1 a0_2 = some r) :
  Calls Try.prog 67 #[.agg #[.int .i64 a0_0, .string a0_1, .string a0_2]] w fun e w' => e = .returned (.bool r) ∧ Below w.heap.size w w' := by
 have hu60 := Try.underlying60
 have HB := aM (Below.refl w.heap.size w)
 have H : ((yL.f k a0_0 a0_1 a0_2).bind fun t145 => (some (!t145))) = some r := h
 clear h
 obtain ⟨t145, A2, H⟩ := bM H
 obtain rfl := Option.some.inj H
 go_enter Try.func67, Try.ntmps67
 go_wp2_with (first | ((with_reducible refine gate_dst (N := 1) rfl ?_); refine box_event rfl (N := 1) rfl (cs := #[.int .i64 a0_0, .string a0_1, .string a0_2]) (t := 60) aP38 ?_; intro gb144 hg w3 hbox hb; have BK144 := aM (hbox); have GW144 := aM (bG (w := w) hg); have GE144 := aM (bG (w := w) hg); replace HB := aM (below_step bB hb); clear hb hbox hg; obtain ⟨hcz4_0, hcz4_1, hcz4_2, hfz4_0, hfz4_1, hfz4_2⟩ := bx3 BK144.out) | ((with_reducible refine gate_callee (f := 68) rfl ?_); refine gL 4 Try.func68 #[.agg #[.int .i64 a0_0, .string a0_1, .string a0_2]] ?_; (with_reducible refine (yL.calls k a0_0 a0_1 a0_2 t145 _ A2.out).mono ?_); rintro e w5 ⟨rfl, hb⟩; refine ⟨_, rfl, ?_⟩; replace BK144 := aM (blk_below (g := gb144) (o := .cells #[.int .i64 a0_0, .string a0_1, .string a0_2] 60 (0, 0)) (kK BK144.out) hb); replace HB := aM (below_step aP17 hb); clear hb))
 go_ret
 exact ⟨by first | rfl | (simp [errW_none, errW_some] <;> rfl) | (simp; exact Base.isE _) | (simp [*, errW_none, errW_some] <;> rfl), aP17⟩
-- import Base
-- fn: slices.IndexFunc[[]loop.example/g00253/impl.Part,loop.example/g00253/impl.Part]
def idxBad (k : Nat) : List S60 → Int → Option Int
 | [], _ => some (-1)
 | p :: r, i => (yO.f k p.f0 p.f1 p.f2).bind fun t => if t = true then some i else idxBad k r (i + 1)
theorem idxBad_mono (k : Nat) : ∀ (l : List S60) (i : Int), LeO (idxBad k l i) (idxBad (k + 1) l i)
 | [], _ => LeO.refl _
 | p :: r, i => LeO.bind (yO.mono _ _ _ _) (fun t => LeO.ite (LeO.refl _) (idxBad_mono k r (i + 1)))
theorem drop_part (l : List S60) (x : Int) (h0 : 0 ≤ x) (h1 : x < (l.length : Int)) : l.drop x.toNat = rd_T60 l x :: l.drop (x + 1).toNat := by
 obtain ⟨n, rfl⟩ := Int.eq_ofNat_of_zero_le h0
 have e : ((n : Int) + 1).toNat = n + 1 := by omega
 rw [e, Int.toNat_natCast]
 exact Base.getD_drop l _ n (by omega)
theorem index_bad (k : Nat) (A0 : Option Addr) (c0 : Nat) (l0 : List S60) (r : Int) (w : World) (hr0 : Kd.C k60 w A0 l0.length l0) (hc0 : l0.length ≤ c0) (hl : l0.length ≤ 60) (h : idxBad k l0 0 = some r) :
  Calls Try.prog 84 #[.slice A0 l0.length c0, .func (.func 67) #[] #[]] w fun e w' => e = .returned (.int .i64 r) ∧ Below w.heap.size w w' := by
 have hu := Try.underlying60
 have HR0 := aM hr0
 have HH := aM h
 have HL := aM hl
 clear hr0 hc0 h hl
 go_enter Try.func84, Try.ntmps84
 go_wp2
 go_loopw [8] (fun v8 wr => ∃ xi : Int, v8 = .int .i64 xi ∧ Aside0 (0 ≤ xi ∧ xi ≤ (l0.length : Int)) ∧ Aside0 (idxBad k (l0.drop xi.toNat) xi = some r) ∧ Aside0 (Below w.heap.size w wr)) (fun i _ => l0.length - (intOf i).toNat)
 case atStart => exact ⟨0, rfl, ⟨by omega, by omega⟩, ⟨by simpa using HH.out⟩, ⟨Below.refl _ _⟩⟩
 case round =>
  obtain ⟨xi, rfl, HI, HA, HB⟩ := hrel
  obtain ⟨h0, hle⟩ := HI.out
  have hll := HL.out
  have hbs := below_size HB.out
  have HBS := aM hbs
  clear HI hbs
  by_cases hlt : xi < (l0.length : Int)
  rotate_left
  ·have hA := HA.out
   rw [List.drop_eq_nil_of_le (by omega), idxBad] at hA
   obtain rfl := Option.some.inj hA
   have c3b0 : decide (xi < (l0.length : Int)) = false := decide_eq_false hlt
   clear hA HA hll hle h0 hlt
   go_wp2
   go_ret
   exact ⟨rfl, HB.out⟩
  have hA := HA.out
  rw [drop_part l0 xi h0 hlt, idxBad] at hA
  obtain ⟨t, A70, hA⟩ := Option.bind_eq_some_iff.mp hA
  have A7 := aM A70
  have Hw := aM (show wrap64 (xi + 1) = xi + 1 by unfold wrap64; omega)
  have c3b0 : decide (xi < (l0.length : Int)) = true := decide_eq_true hlt
  obtain ⟨ad, ead, hx0, hx1, hx2⟩ := at_T60 HR0.out xi h0 hlt
  subst ead
  replace hx0 := (HB.out.cell (World.block_lt_of_cell? w _ hx0)).trans hx0
  replace hx1 := (HB.out.cell (World.block_lt_of_cell? w _ hx1)).trans hx1
  replace hx2 := (HB.out.cell (World.block_lt_of_cell? w _ hx2)).trans hx2
  have P6 := aM h0
  have Q6 := aM hlt
  have p6 := eq_true h0
  have q6 := eq_true hlt
  clear HA A70 hll hle h0 hlt
  cases t with
  | true =>
   obtain rfl : xi = r := by rw [if_pos rfl] at hA; exact Option.some.inj hA
   clear hA
   go_wp2_with (go_at_call 67; (with_reducible refine (yO.calls k _ _ _ true _ A7.out).mono ?_); rintro e w1 ⟨rfl, hb⟩; have HB1 := aM hb; clear hb)
   go_ret
   exact ⟨rfl, below_then HB.out HBS.out HB1.out⟩
  | false =>
   have HA := aM (show idxBad k (l0.drop (xi + 1).toNat) (xi + 1) = some r by rw [if_neg (by decide)] at hA; exact hA)
   clear hA
   go_wp2_with (go_at_call 67; (with_reducible refine (yO.calls k _ _ _ false _ A7.out).mono ?_); rintro e w1 ⟨rfl, hb⟩; have HB1 := aM hb; clear hb)
   have hw := Hw.out
   have hq := Q6.out
   have hp := P6.out
   go_roundw
   case rel => exact ⟨wrap64 (xi + 1), rfl, ⟨by omega, by omega⟩, ⟨by rw [hw]; exact HA.out⟩, ⟨below_then HB.out HBS.out HB1.out⟩⟩
   case measure => simp [intOf, hw]; omega
-- fn: slices.ContainsFunc[[]loop.example/g00253/impl.Part,loop.example/g00253/impl.Part]
theorem contains_bad (k : Nat) (A0 : Option Addr) (c0 : Nat) (l0 : List S60) (r : Int) (w : World) (hr0 : Kd.C k60 w A0 l0.length l0) (hc0 : l0.length ≤ c0) (hl : l0.length ≤ 60) (h : idxBad k l0 0 = some r) :
  Calls Try.prog 66 #[.slice A0 l0.length c0, .func (.func 67) #[] #[]] w fun e w' => e = .returned (.bool (decide (0 ≤ r))) ∧ Below w.heap.size w w' := by
 have HR0 := aM hr0
 have HC0 := aM hc0
 have HH := aM h
 have HL := aM hl
 clear hr0 hc0 h hl
 go_enter Try.func66, Try.ntmps66
 go_wp2_with (go_at_call 84; (with_reducible refine (index_bad k A0 c0 l0 r _ HR0.out HC0.out HL.out HH.out).mono ?_); rintro e w1 ⟨rfl, hb⟩; have HB1 := aM hb; clear hb)
 go_ret
 exact ⟨by simp, HB1.out⟩
-- import Base
def jU.f (k : Nat) (l0 : List S60) : Option (Bool) :=
 if (l0.length : Int) > 60 then some false else (idxBad k l0 0).bind fun i => (if i ≥ 0 then some false else (jW.f k l0).bind fun b => (if b.1 ≤ 300 then some (decide (b.2 ≤ 300)) else some false))
theorem jU.mono : ∀ a0 k, LeO (jU.f k a0) (jU.f (k + 1) a0) := by
 intro a0 k
 unfold jU.f
 exact LeO.ite (LeO.refl _) (LeO.bind (idxBad_mono _ _ _) (fun i => LeO.ite (LeO.refl _) (LeO.bind (jW.mono _ _) (fun _ => LeO.refl _))))
theorem jU.calls (k : Nat) (A0 : Option Addr) (c0 : Nat) (l0 : List S60) (r : Bool) (w : World) (hr0 : Kd.C k60 w A0 l0.length l0) (hc0 : l0.length ≤ c0) (h : jU.f k l0 = some r) :
  Calls Try.prog 37 #[.slice A0 l0.length c0] w fun e w' => e = .returned (.bool r) ∧ Below w.heap.size w w' := by
 have HR0 := aM hr0
 have HC0 := aM hc0
 unfold jU.f at h
 clear hr0 hc0
 by_cases hl : (l0.length : Int) > 60
 ·rw [if_pos hl] at h
  obtain rfl := Option.some.inj h
  have c1 : decide (60 < (l0.length : Int)) = true := decide_eq_true hl
  have c2 : decide (60 < l0.length) = true := decide_eq_true (by omega)
  clear h hl
  go_enter Try.func37, Try.ntmps37
  go_wp2_with fail
  go_ret
  exact ⟨rfl, Below.refl _ _⟩
 rw [if_neg hl] at h
 obtain ⟨i, hi, h⟩ := Option.bind_eq_some_iff.mp h
 have HI := aM hi
 have HL := aM (show l0.length ≤ 60 by omega)
 have c1 : decide (60 < (l0.length : Int)) = false := decide_eq_false hl
 have c2 : decide (60 < l0.length) = false := decide_eq_false (by omega)
 clear hi hl
 by_cases h0 : i ≥ 0
 ·rw [if_pos h0] at h
  obtain rfl := Option.some.inj h
  have d1 : decide (0 ≤ i) = true := decide_eq_true h0
  clear h h0
  go_enter Try.func37, Try.ntmps37
  go_wp2_with (go_at_call 66; (with_reducible refine (contains_bad k A0 c0 l0 i _ HR0.out HC0.out HL.out HI.out).mono ?_); rintro e w1 ⟨rfl, hb⟩; have HB1 := aM hb; clear hb)
  go_ret
  exact ⟨rfl, HB1.out⟩
 rw [if_neg h0] at h
 obtain ⟨⟨t1, t2⟩, hs, h⟩ := Option.bind_eq_some_iff.mp h
 have HS := aM hs
 have d1 : decide (0 ≤ i) = false := decide_eq_false h0
 clear hs h0
 by_cases h1 : t1 ≤ 300
 ·rw [if_pos h1] at h
  obtain rfl := Option.some.inj h
  have e1 : decide (t1 ≤ 300) = true := decide_eq_true h1
  clear h h1
  go_enter Try.func37, Try.ntmps37
  go_wp2_with (first | (go_at_call 66; (with_reducible refine (contains_bad k A0 c0 l0 i _ HR0.out HC0.out HL.out HI.out).mono ?_); rintro e w1 ⟨rfl, hb⟩; have HB1 := aM hb; clear hb) | (go_at_call 56; (with_reducible refine (jW.calls k A0 c0 l0 t1 t2 _ (Kd.C_below HR0.out HB1.out) HC0.out HS.out).mono ?_); rintro e w2 ⟨rfl, hb⟩; have HB2 := aM hb; clear hb))
  go_ret
  exact ⟨rfl, below_then HB1.out (below_size HB1.out) HB2.out⟩
 rw [if_neg h1] at h
 obtain rfl := Option.some.inj h
 have e1 : decide (t1 ≤ 300) = false := decide_eq_false h1
 clear h h1
 go_enter Try.func37, Try.ntmps37
 go_wp2_with (first | (go_at_call 66; (with_reducible refine (contains_bad k A0 c0 l0 i _ HR0.out HC0.out HL.out HI.out).mono ?_); rintro e w1 ⟨rfl, hb⟩; have HB1 := aM hb; clear hb) | (go_at_call 56; (with_reducible refine (jW.calls k A0 c0 l0 t1 t2 _ (Kd.C_below HR0.out HB1.out) HC0.out HS.out).mono ?_); rintro e w2 ⟨rfl, hb⟩; have HB2 := aM hb; clear hb))
 go_ret
 exact ⟨rfl, below_then HB1.out (below_size HB1.out) HB2.out⟩
def jT.l0 : Nat → List Int → List S60 → Int → Int → Option (List Int)
 | 0, _, _, _, _ => none
 | k + 1, x3, x6, x7, x8 => if x8 < x7 then (if 0 ≤ x8 then (if x8 < (x6.length : Int) then (if 0 ≤ ((rd_T60 x6 x8).f0) then (if x3.length + ((rd_T60 x6 x8).f0 : Int).toNat < 140737488355328 then ((some (x3 ++ List.replicate ((rd_T60 x6 x8).f0 : Int).toNat 0 : List Int)).bind fun y148 => (if y148.length + ((rd_T60 x6 x8).f2).size < 140737488355328 then (jT.l0 k (y148 ++ bytesOf ((rd_T60 x6 x8).f2)) x6 x7 (wrap64 (x8 + 1))) else (none))) else (none)) else (none)) else (none)) else (none)) else (some x3)
def jT.f (k : Nat) (l0 : List S60) : Option (List Int) := jT.l0 k ([] : List Int) l0 (l0.length : Int) 0
theorem jT.mono_l : ∀ k, (∀ y0 y1 y2 y3, LeO (jT.l0 k y0 y1 y2 y3) (jT.l0 (k + 1) y0 y1 y2 y3))
 | 0 => fun _ _ _ _ r h => by simp [jT.l0] at h
 | k + 1 => by
  have ih0 := jT.mono_l k
  ·intro y0 y1 y2 y3
   unfold jT.l0
   repeat' (with_reducible first | apply ih0 | apply LeO.refl | apply LeO.none | apply LeO.ite | refine LeO.bind ?_ fun _ => ?_)
theorem jT.mono : ∀ a0 k, LeO (jT.f k a0) (jT.f (k + 1) a0) := by
 intro a0 k
 have ih0 := jT.mono_l k
 unfold jT.f
 repeat' (with_reducible first | apply ih0 | apply LeO.refl | apply LeO.none | apply LeO.ite | refine LeO.bind ?_ fun _ => ?_)
theorem jT.calls (k : Nat) (A0 : Option Addr) (c0 : Nat) (l0 : List S60) (r : List Int) (w : World) (hr0 : Kd.C k60 w A0 l0.length l0) (hc0 : l0.length ≤ c0) (h : jT.f k l0 = some r) :
  Calls Try.prog 38 #[.slice A0 l0.length c0] w fun e w' => ∃ v0_ : Value, e = .returned (v0_) ∧ Kd.R (Kd.int .u8) 5 w' w.heap.size (fun _ => True) v0_ r ∧ Below w.heap.size w w' := by
 have hu60 := Try.underlying60
 have HR0 := aM hr0
 have HC0 := aM hc0
 clear hr0 hc0
 have HB := aM (Below.refl w.heap.size w)
 have H : (jT.l0 k ([] : List Int) l0 (l0.length : Int) 0) = some r := h
 clear h
 have H' := aM H
 clear H
 go_enter Try.func38, Try.ntmps38
 go_wp2
 go_loopg [3, 8] k (fun kq v3 v8 w' => ∃ (x3_1 : List Int) (x8_1 : Int), v8 = .int .i64 x8_1 ∧ Aside0 (jT.l0 kq x3_1 l0 (l0.length : Int) x8_1 = some r) ∧ Aside0 (kq ≤ k) ∧ Aside0 (Kd.R (Kd.int .u8) 5 w' w.heap.size (fun _ => True) v3 x3_1) ∧ Aside0 (Below w.heap.size w w'))
 case atStart => exact ⟨(([] : List Int)), (0), aP19, H', ⟨Nat.le_refl _⟩, ⟨by first | exact Kd.R_nil _ _ _ _ _ | exact Kd.N_nil _ _ _ _ _ | exact Kd.V_nil _ _ _ _ _ | exact Kd.Q_nil _ _ _ _ _ | exact Kd.S_nil _ _ _ _ _⟩, ⟨bB⟩⟩
 case round =>
  clear H'
  obtain ⟨x3_1, x8_1, rfl, HA, HK1, HO_3, HB⟩ := hrel
  cases gk with
  | zero => exact absurd HA.out (by simp [jT.l0])
  | succ k1 => ?_
  have H := HA.out
  clear HA
  simp only [jT.l0] at H
  by_cases c2 : x8_1 < (l0.length : Int)
  rotate_left
  ·rw [if_neg c2] at H
   have c2b0 : decide (x8_1 < (l0.length : Int)) = false := decide_eq_false c2
   clear c2
   obtain rfl := Option.some.inj H
   go_wp2
   go_ret
   exact ⟨_, by first | rfl | (simp [errW_none, errW_some] <;> rfl) | (simp [*, errW_none, errW_some] <;> rfl), rR HO_3.out, bB⟩
  rw [if_pos c2] at H
  have c2b0 : decide (x8_1 < (l0.length : Int)) = true := decide_eq_true c2
  clear c2
  obtain ⟨c3b0, H⟩ := gB H
  obtain ⟨c4b0, H⟩ := gB H
  obtain ⟨c5, H⟩ := gD H
  have c5b0 := eq_true c5
  have c5b1 : decide (0 ≤ ((rd_T60 l0 x8_1).f0)) = true := decide_eq_true c5
  clear c5
  obtain ⟨LMc6, H⟩ := gA H
  (try replace H := bS H)
  generalize Ny148 : (x3_1 ++ List.replicate ((rd_T60 l0 x8_1).f0 : Int).toNat 0) = y148 at H
  replace Ny148 := aM Ny148.symm
  obtain ⟨LMc7, H⟩ := gA H
  (try replace H := bS H)
  generalize Ny151 : (y148 ++ bytesOf ((rd_T60 l0 x8_1).f2)) = y151 at H
  replace Ny151 := aM Ny151.symm
  have H' := aM H
  clear H
  have p146 : 0 ≤ (x8_1 : Int) := of_decide_eq_true (by assumption)
  have q146 : x8_1 < (l0.length : Int) := of_decide_eq_true (by assumption)
  obtain ⟨ad146, e146, hx146_0, hx146_1, hx146_2⟩ := at_T60 HR0.out x8_1 p146 q146
  cases e146
  replace hx146_0 := hC HB.out hx146_0
  replace hx146_1 := hC HB.out hx146_1
  replace hx146_2 := hC HB.out hx146_2
  replace p146 := eq_true p146
  replace q146 := eq_true q146
  go_wp2_with (first | ((with_reducible refine gate_dst (N := 5) rfl ?_); refine box_event rfl (N := 5) rfl (cs := #[.int .i64 0, .string ⟨#[]⟩, .string ⟨#[]⟩]) (t := 60) aP38 ?_; intro gb147 hg w8 hbox hb; have BK147 := aM (hbox); have GW147 := aM (bG (w := w) hg); have GE147 := aM (bG (w := w) hg); replace HO_3 := aM (Kd.R_below (rR HO_3.out) hb); replace HB := aM (below_step bB hb); clear hb hbox hg; obtain ⟨hcz9_0, hcz9_1, hcz9_2, hfz9_0, hfz9_1, hfz9_2⟩ := bx3 BK147.out) | (at_builtin; refine Kd.R_append_zeros (Kd.int .u8) (w0 := w) w.heap.size rfl (.tmp 12) (.tmp 14) 44 3 5 (.int .u8 0) 1 rfl Try.underlying44 Try.underlying3 info5 rfl (by decide) (by omega) u3 x3_1 0 ((rd_T60 l0 x8_1).f0 : Int) (fun _ => True) rfl rfl rfl ?aF ?aO (of_decide_eq_true (by assumption)) ?aB ?aS ?aL ?_; (case aB => exact aP14); (case aF => exact (fun _ _ => trivial)); (case aO => exact (by (with_reducible repeat (first | apply Kd.R_alloc | apply Kd.R_drewN | apply Kd.R_drew)); exact Kd.R_mono (Kd.R_far (p := ⟨gb147, 2, none⟩) (Kd.R_far (p := ⟨gb147, 1, none⟩) (Kd.R_far (p := ⟨gb147, 0, none⟩) (Kd.R_types HO_3.out BK147.out (by decide)) (fun _ hk => hk.2) (.int .i64 ((rd_T60 l0 x8_1).f0))) (fun _ hk => hk.2) (.string ((rd_T60 l0 x8_1).f1))) (fun _ hk => hk.2) (.string ((rd_T60 l0 x8_1).f2))) (fun _ hk => trivial))); (case aS => exact (below_size aP14)); (case aL => have := LMc6.out; omega); intro v149 w10 ho hb hg hat; rw [← Ny148.out] at ho; have n0_ := aM (blk_grown (g := gb147) (o := .cells #[.int .i64 ((rd_T60 l0 x8_1).f0), .string ((rd_T60 l0 x8_1).f1), .string ((rd_T60 l0 x8_1).f2)] 60 (0, 0)) (by (with_reducible repeat (first | refine blk_drewN ?_ _ | refine blk_drew ?_ | refine blk_alloc ?_ _)); refine blk_put (cs := #[.int .i64 ((rd_T60 l0 x8_1).f0), .string ((rd_T60 l0 x8_1).f1), .string ⟨#[]⟩]) ?_ 2 _ rfl; (with_reducible repeat (first | refine blk_drewN ?_ _ | refine blk_drew ?_ | refine blk_alloc ?_ _)); refine blk_put (cs := #[.int .i64 ((rd_T60 l0 x8_1).f0), .string ⟨#[]⟩, .string ⟨#[]⟩]) ?_ 1 _ rfl; (with_reducible repeat (first | refine blk_drewN ?_ _ | refine blk_drew ?_ | refine blk_alloc ?_ _)); refine blk_put (cs := #[.int .i64 0, .string ⟨#[]⟩, .string ⟨#[]⟩]) ?_ 0 _ rfl; exact kK BK147.out) hg (Kd.R_ne HO_3.out BK147.out (by decide))); have n1_ := aM (hb); have n2_ := aM (ho); clear BK147; clear HB; clear HO_3; have BK147 := n0_; have HB := n1_; have HO150 := n2_; clear n0_ n1_ n2_; clear ho hb hg hat; obtain ⟨hcz11_0, hcz11_1, hcz11_2, hfz11_0, hfz11_1, hfz11_2⟩ := bx3 BK147.out) | (at_builtin; refine print_append_str (w0 := w) w.heap.size rfl (.tmp 16) _ 44 9 5 rfl Try.underlying44 Try.underlying9 info5 v149 y148 ((rd_T60 l0 x8_1).f2) rfl rfl ?aO ?aB ?aS ?aL ?_; (case aB => exact aP14); (case aO => exact (Kd.own_of_R (rR HO150.out))); (case aS => exact (below_size aP14)); (case aL => have := LMc7.out; omega); intro v152 w12 ho0 hb hg; have ho := Kd.R_of_own (h1 := fun _ => rfl) (ok := fun _ => True) ho0 (fun _ _ => trivial); clear ho0; have hat := True.intro; rw [← Ny151.out] at ho; change Kd.R (Kd.int .u8) 5 w12 w.heap.size (fun _ => True) v152 y151 at ho; have HO153 := aM (ho); replace BK147 := aM (blk_grown (g := gb147) (o := .cells #[.int .i64 ((rd_T60 l0 x8_1).f0), .string ((rd_T60 l0 x8_1).f1), .string ((rd_T60 l0 x8_1).f2)] 60 (0, 0)) (kK BK147.out) hg (Kd.R_ne HO150.out BK147.out (by decide))); replace HB := aM (hb); clear ho hb hg hat))
  go_roundg k1
  case measure => have := HK1.out; omega
  case rel => exact ⟨(y151), (wrap64 (x8_1 + 1)), aP19, H', ⟨by have := HK1.out; omega⟩, ⟨rR HO153.out⟩, ⟨aP14⟩⟩
end Go.Proofs.Ytoagljlnfakgjaa.PFnDiamond
