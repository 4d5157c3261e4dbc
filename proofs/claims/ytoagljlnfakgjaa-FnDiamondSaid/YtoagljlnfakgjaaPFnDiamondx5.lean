/- (thin) Written by a program of this session (wip/ovl.py) over the kit's print. -/
import Derived.Test.YtoagljlnfakgjaaPFnDiamondx0
import Derived.Test.YtoagljlnfakgjaaPFnDiamondx4
namespace Go.Proofs.Ytoagljlnfakgjaa.PFnDiamond
open Go.RowKit Go.Proofs.YtoagljlnfakgjaaW.PrintWords Go.Proofs.YtoagljlnfakgjaaW.PrintLast Go.Proofs.YtoagljlnfakgjaaW.PrintMore
attribute [local go_sem] max2_int min2_int max_two min_two max_three min_three max_four min_four
set_option linter.unusedVariables false
set_option linter.unusedSimpArgs false
mutual
def jF.j0 : Nat → List S60 → List S60 → Bool → Option (Bool × Bool)
 | 0, _, _, _ => none
 | k + 1, x0, x1, x17 => if x17 = true then (some (false, false)) else ((jT.f k x0).bind fun t156 => ((jT.f k x1).bind fun t159 => (if (t156.length : Int) = (t159.length : Int) then (jF.l0 k t159 t156 (t156.length : Int) 0) else (some (false, false)))))
def jF.l0 : Nat → List Int → List Int → Int → Int → Option (Bool × Bool)
 | 0, _, _, _, _ => none
 | k + 1, x7, x27, x28, x29 => if x29 < x28 then (if 0 ≤ x29 then (if x29 < (x27.length : Int) then (if (rd x27 x29) = 0 then (jF.l0 k x7 x27 x28 (wrap64 (x29 + 1))) else (if x29 < (x7.length : Int) then (if (rd x7 x29) = 0 then (jF.l0 k x7 x27 x28 (wrap64 (x29 + 1))) else (if (rd x27 x29) = (rd x7 x29) then (jF.l0 k x7 x27 x28 (wrap64 (x29 + 1))) else (some (false, true)))) else (none))) else (none)) else (none)) else (some (true, true))
end
def jF.f (k : Nat) (l0 : List S60) (l1 : List S60) : Option (Bool × Bool) := (jU.f k l0).bind fun t154 => (if t154 = true then ((jU.f k l1).bind fun t155 => (jF.j0 k l0 l1 (!t155))) else (jF.j0 k l0 l1 true))
theorem jF.mono_l : ∀ k, (∀ y0 y1 y2, LeO (jF.j0 k y0 y1 y2) (jF.j0 (k + 1) y0 y1 y2)) ∧ (∀ y0 y1 y2 y3, LeO (jF.l0 k y0 y1 y2 y3) (jF.l0 (k + 1) y0 y1 y2 y3))
 | 0 => ⟨fun _ _ _ r h => by simp [jF.j0] at h, fun _ _ _ _ r h => by simp [jF.l0] at h⟩
 | k + 1 => by
  obtain ⟨ih0, ih1⟩ := jF.mono_l k
  refine ⟨?_, ?_⟩
  ·intro y0 y1 y2
   unfold jF.j0
   repeat' (with_reducible first | apply ih0 | apply ih1 | apply jU.mono | apply jT.mono | apply LeO.refl | apply LeO.none | apply LeO.ite | refine LeO.bind ?_ fun _ => ?_)
  ·intro y0 y1 y2 y3
   unfold jF.l0
   repeat' (with_reducible first | apply ih0 | apply ih1 | apply jU.mono | apply jT.mono | apply LeO.refl | apply LeO.none | apply LeO.ite | refine LeO.bind ?_ fun _ => ?_)
theorem jF.mono : ∀ a0 a1 k, LeO (jF.f k a0 a1) (jF.f (k + 1) a0 a1) := by
 intro a0 a1 k
 obtain ⟨ih0, ih1⟩ := jF.mono_l k
 unfold jF.f
 repeat' (with_reducible first | apply ih0 | apply ih1 | apply jU.mono | apply jT.mono | apply LeO.refl | apply LeO.none | apply LeO.ite | refine LeO.bind ?_ fun _ => ?_)
set_option maxHeartbeats 8000000 in
set_option maxRecDepth 100000 in
theorem jF.calls (k : Nat) (A0 : Option Addr) (c0 : Nat) (l0 : List S60) (A1 : Option Addr) (c1 : Nat) (l1 : List S60) (r1 : Bool) (r2 : Bool) (w : World) (hr0 : Kd.C k60 w A0 l0.length l0) (hc0 : l0.length ≤ c0) (hr1 : Kd.C k60 w A1 l1.length l1) (hc1 : l1.length ≤ c1) (h : jF.f k l0 l1 = some (r1, r2)) :
  Calls Try.prog 12 #[.slice A0 l0.length c0, .slice A1 l1.length c1] w fun e w' => e = .returned (.tuple #[.bool r1, .bool r2]) ∧ Below w.heap.size w w' := by
 have HR0 := aM hr0
 have HC0 := aM hc0
 clear hr0 hc0
 have HR1 := aM hr1
 have HC1 := aM hc1
 clear hr1 hc1
 have HB := aM (Below.refl w.heap.size w)
 have H : ((jU.f k l0).bind fun t154 => (if t154 = true then ((jU.f k l1).bind fun t155 => (jF.j0 k l0 l1 (!t155))) else (jF.j0 k l0 l1 true))) = some (r1, r2) := h
 clear h
 have HC3 := aM H
 clear H
 go_enter Try.func12, Try.ntmps12
 go_upto_region 1 with (fail)
 go_cut [17] (fun v17 wc => ∃ (kq : Nat) (x17_2 : Bool), v17 = .bool x17_2 ∧ Aside0 (jF.j0 kq l0 l1 x17_2 = some (r1, r2)) ∧ Aside0 (kq ≤ k) ∧ Aside0 (Below w.heap.size w wc))
 case first =>
  have H := HC3.out
  clear HC3
  obtain ⟨t154, A4, H⟩ := bM H
  by_cases c5 : t154 = true
  rotate_left
  ·replace c5 := Bool.eq_false_iff.mpr c5
   subst c5
   replace H := fF H
   have H' := aM H
   clear H
   go_wp2_with ((with_reducible refine gate_callee (f := 37) rfl ?_); refine gL 11 Try.func37 #[.slice A0 l0.length c0] ?_; (with_reducible refine (jU.calls k _ _ l0 false _ ?s1 ?s2 A4.out).mono ?_); (case s1 => exact cC (Kd.C_below HR0.out HB.out)); (case s2 => exact HC0.out); rintro e w9 ⟨rfl, hb⟩; refine ⟨_, rfl, ?_⟩; replace HB := aM (below_step bB hb); clear hb)
   go_meet
   case rel => exact ⟨_, (true), aP19, H', ⟨lH⟩, ⟨bB⟩⟩
  subst c5
  rw [if_pos rfl] at H
  obtain ⟨t155, A6, H⟩ := bM H
  have H' := aM H
  clear H
  go_wp2_with (first | ((with_reducible refine gate_callee (f := 37) rfl ?_); refine gL 11 Try.func37 #[.slice A0 l0.length c0] ?_; (with_reducible refine (jU.calls k _ _ l0 true _ ?s1 ?s2 A4.out).mono ?_); (case s1 => exact cC (Kd.C_below HR0.out HB.out)); (case s2 => exact HC0.out); rintro e w7 ⟨rfl, hb⟩; refine ⟨_, rfl, ?_⟩; replace HB := aM (below_step bB hb); clear hb) | (go_at_call 37; (with_reducible refine (jU.calls k _ _ l1 t155 _ ?s1 ?s2 A6.out).mono ?_); (case s1 => exact cC (Kd.C_below HR1.out HB.out)); (case s2 => exact HC1.out); rintro e w8 ⟨rfl, hb⟩; replace HB := aM (below_step bB hb); clear hb))
  go_meet
  case rel => exact ⟨_, (!t155), aP19, H', ⟨lH⟩, ⟨bB⟩⟩
 clear HC3
 try clear c1
 obtain ⟨kq, x17_2, rfl, HA, HJ2, HB⟩ := hcut
 cases kq with
 | zero => exact absurd HA.out (by simp [jF.j0])
 | succ kj2 => ?_
 have H := HA.out
 clear HA
 simp only [jF.j0] at H
 by_cases c10 : x17_2 = true
 ·subst c10
  rw [if_pos rfl] at H
  simp only [Option.some.injEq, Prod.mk.injEq] at H
  obtain ⟨rfl, rfl⟩ := H
  go_wp2
  go_ret2
  exact ⟨eR, bB⟩
 replace c10 := Bool.eq_false_iff.mpr c10
 subst c10
 replace H := fF H
 obtain ⟨t156, A11, H⟩ := bM H
 obtain ⟨t159, A12, H⟩ := bM H
 by_cases c13 : (t156.length : Int) = (t159.length : Int)
 rotate_left
 ·rw [if_neg c13] at H
  obtain ⟨c13b0, c13b1⟩ := nE c13
  have c13b2 : (t156.length == t159.length) = false := by first | simpa using c13 | (simp at c13 ⊢; omega)
  simp only [Option.some.injEq, Prod.mk.injEq] at H
  obtain ⟨rfl, rfl⟩ := H
  go_wp2_with (first | ((with_reducible refine gate_callee (f := 38) rfl ?_); refine gL 19 Try.func38 #[.slice A0 l0.length c0] ?_; (with_reducible refine (jT.calls kj2 _ _ l0 t156 _ ?s1 ?s2 A11.out).mono ?_); (case s1 => exact cC (Kd.C_below HR0.out HB.out)); (case s2 => exact HC0.out); rintro e w25 ⟨v157, rfl, ho0, hb⟩; refine ⟨_, rfl, ?_⟩; have HO158 := aM (Kd.R_lower ho0 (below_size bB)); replace HB := aM (below_step bB hb); clear hb ho0) | ((with_reducible refine gate_callee (f := 38) rfl ?_); refine gL 21 Try.func38 #[.slice A1 l1.length c1] ?_; (with_reducible refine (jT.calls kj2 _ _ l1 t159 _ ?s1 ?s2 A12.out).mono ?_); (case s1 => exact cC (Kd.C_below HR1.out HB.out)); (case s2 => exact HC1.out); rintro e w26 ⟨v160, rfl, ho0, hb⟩; refine ⟨_, rfl, ?_⟩; have HO161 := aM (Kd.R_lower (Kd.R_new' ho0 (Kd.R_lt (rR HO158.out))) (below_size bB)); replace HO158 := aM (Kd.R_elder' (rR HO158.out) (Kd.R_base ho0) hb); replace HB := aM (below_step bB hb); clear hb ho0; obtain ⟨Ao27, co27, eo27⟩ := Kd.R_slice HO158.out; subst eo27; obtain ⟨Ao28, co28, eo28⟩ := Kd.R_slice HO161.out; subst eo28))
  go_ret2
  exact ⟨eR, bB⟩
 rw [if_pos c13] at H
 obtain ⟨c13b0, c13b1⟩ := pE c13
 have c13b2 : (t156.length == t159.length) = true := by first | simpa using c13 | (simp at c13 ⊢; omega)
 clear c13
 have H' := aM H
 clear H
 go_wp2_with (first | ((with_reducible refine gate_callee (f := 38) rfl ?_); refine gL 19 Try.func38 #[.slice A0 l0.length c0] ?_; (with_reducible refine (jT.calls kj2 _ _ l0 t156 _ ?s1 ?s2 A11.out).mono ?_); (case s1 => exact cC (Kd.C_below HR0.out HB.out)); (case s2 => exact HC0.out); rintro e w14 ⟨v157, rfl, ho0, hb⟩; refine ⟨_, rfl, ?_⟩; have HO158 := aM (Kd.R_lower ho0 (below_size bB)); replace HB := aM (below_step bB hb); clear hb ho0) | ((with_reducible refine gate_callee (f := 38) rfl ?_); refine gL 21 Try.func38 #[.slice A1 l1.length c1] ?_; (with_reducible refine (jT.calls kj2 _ _ l1 t159 _ ?s1 ?s2 A12.out).mono ?_); (case s1 => exact cC (Kd.C_below HR1.out HB.out)); (case s2 => exact HC1.out); rintro e w15 ⟨v160, rfl, ho0, hb⟩; refine ⟨_, rfl, ?_⟩; have HO161 := aM (Kd.R_lower (Kd.R_new' ho0 (Kd.R_lt (rR HO158.out))) (below_size bB)); replace HO158 := aM (Kd.R_elder' (rR HO158.out) (Kd.R_base ho0) hb); replace HB := aM (below_step bB hb); clear hb ho0; obtain ⟨Ao16, co16, eo16⟩ := Kd.R_slice HO158.out; subst eo16; obtain ⟨Ao17, co17, eo17⟩ := Kd.R_slice HO161.out; subst eo17))
 go_loopg [29] kj2 (fun kq v29 w' => ∃ (x29_2 : Int), v29 = .int .i64 x29_2 ∧ Aside0 (jF.l0 kq t159 t156 (t156.length : Int) x29_2 = some (r1, r2)) ∧ Aside0 (kq ≤ kj2) ∧ Aside0 (Kd.R (Kd.int .u8) 5 w' w.heap.size (fun k_ => some k_ ≠ ((.slice Ao16 t156.length co16) : Value).ownBlock) (.slice Ao17 t159.length co17) t159) ∧ Aside0 (Kd.R (Kd.int .u8) 5 w' w.heap.size (fun k_ => some k_ ≠ ((.slice Ao17 t159.length co17) : Value).ownBlock) (.slice Ao16 t156.length co16) t156) ∧ Aside0 (Below w.heap.size w w'))
 case atStart => exact ⟨(0), aP19, H', ⟨Nat.le_refl _⟩, ⟨wR HO161.out⟩, ⟨wR HO158.out⟩, ⟨bB⟩⟩
 case round =>
  clear H'
  try clear c1
  try clear c10
  try clear c13
  try clear c13b0
  try clear c13b1
  try clear c13b2
  obtain ⟨x29_2, rfl, HA, HK2, HO_7, HO_27, HB⟩ := hrel
  cases gk with
  | zero => exact absurd HA.out (by simp [jF.l0])
  | succ k2 => ?_
  have H := HA.out
  clear HA
  simp only [jF.l0] at H
  by_cases c18 : x29_2 < (t156.length : Int)
  rotate_left
  ·rw [if_neg c18] at H
   have c18b0 : decide (x29_2 < (t156.length : Int)) = false := decide_eq_false c18
   clear c18
   simp only [Option.some.injEq, Prod.mk.injEq] at H
   obtain ⟨rfl, rfl⟩ := H
   go_wp2
   go_ret2
   exact ⟨eR, bB⟩
  rw [if_pos c18] at H
  have c18b0 : decide (x29_2 < (t156.length : Int)) = true := decide_eq_true c18
  clear c18
  obtain ⟨c19b0, H⟩ := gB H
  obtain ⟨c20b0, H⟩ := gB H
  by_cases c21 : (rd t156 x29_2) = 0
  ·rw [if_pos c21] at H
   obtain ⟨c21b0, c21b1⟩ := pE c21
   clear c21
   have H' := aM H
   clear H
   obtain ⟨ad162, rfl, p162, q162, hx162_0⟩ := xI HO_27.out x29_2
   go_wp2
   go_roundg k2
   case measure => have := HJ2.out; have := HK2.out; omega
   case rel => exact ⟨(wrap64 (x29_2 + 1)), aP19, H', ⟨by have := HJ2.out; have := HK2.out; omega⟩, ⟨rR HO_7.out⟩, ⟨rR HO_27.out⟩, ⟨bB⟩⟩
  rw [if_neg c21] at H
  obtain ⟨c21b0, c21b1⟩ := nE c21
  obtain ⟨c22b0, H⟩ := gB H
  by_cases c23 : (rd t159 x29_2) = 0
  ·rw [if_pos c23] at H
   obtain ⟨c23b0, c23b1⟩ := pE c23
   clear c23
   have H' := aM H
   clear H
   obtain ⟨ad162, rfl, p162, q162, hx162_0⟩ := xI HO_27.out x29_2
   obtain ⟨ad163, rfl, p163, q163, hx163_0⟩ := xI HO_7.out x29_2
   go_wp2
   go_roundg k2
   case measure => have := HJ2.out; have := HK2.out; omega
   case rel => exact ⟨(wrap64 (x29_2 + 1)), aP19, H', ⟨by have := HJ2.out; have := HK2.out; omega⟩, ⟨rR HO_7.out⟩, ⟨rR HO_27.out⟩, ⟨bB⟩⟩
  rw [if_neg c23] at H
  obtain ⟨c23b0, c23b1⟩ := nE c23
  by_cases c24 : (rd t156 x29_2) = (rd t159 x29_2)
  rotate_left
  ·rw [if_neg c24] at H
   obtain ⟨c24b0, c24b1⟩ := nE c24
   simp only [Option.some.injEq, Prod.mk.injEq] at H
   obtain ⟨rfl, rfl⟩ := H
   obtain ⟨ad162, rfl, p162, q162, hx162_0⟩ := xI HO_27.out x29_2
   obtain ⟨ad163, rfl, p163, q163, hx163_0⟩ := xI HO_7.out x29_2
   obtain ⟨ad164, e164, p164, q164, hx164_0⟩ := xI HO_7.out x29_2
   (first | obtain rfl : ad163 = ad164 := (by injection e164) | cases e164)
   go_wp2
   go_ret2
   exact ⟨eR, bB⟩
  rw [if_pos c24] at H
  obtain ⟨c24b0, c24b1⟩ := pE c24
  clear c24
  have H' := aM H
  clear H
  obtain ⟨ad162, rfl, p162, q162, hx162_0⟩ := xI HO_27.out x29_2
  obtain ⟨ad163, rfl, p163, q163, hx163_0⟩ := xI HO_7.out x29_2
  obtain ⟨ad164, e164, p164, q164, hx164_0⟩ := xI HO_7.out x29_2
  (first | obtain rfl : ad163 = ad164 := (by injection e164) | cases e164)
  go_wp2
  go_roundg k2
  case measure => have := HJ2.out; have := HK2.out; omega
  case rel => exact ⟨(wrap64 (x29_2 + 1)), aP19, H', ⟨by have := HJ2.out; have := HK2.out; omega⟩, ⟨rR HO_7.out⟩, ⟨rR HO_27.out⟩, ⟨bB⟩⟩
end Go.Proofs.Ytoagljlnfakgjaa.PFnDiamond
