/- (thin) Written by a program of this session (wip/ovl.py) over the kit's print. -/
import Derived.Test.YtoagljlnfakgjaaMk
import Derived.Test.YtoagljlnfakgjaaPFnDiamondx0
import Derived.Test.YtoagljlnfakgjaaPFnDiamondx2
import Derived.Test.YtoagljlnfakgjaaPFnDiamondx3
import Derived.Test.YtoagljlnfakgjaaPFnDiamondx7
namespace Go.Proofs.Ytoagljlnfakgjaa.PFnDiamond
open Go.RowKit Go.Proofs.YtoagljlnfakgjaaW.PrintWords Go.Proofs.YtoagljlnfakgjaaW.PrintLast Go.Proofs.YtoagljlnfakgjaaW.PrintMore
attribute [local go_sem] max2_int min2_int max_two min_two max_three min_three max_four min_four
set_option linter.unusedVariables false
set_option linter.unusedSimpArgs false
set_option maxHeartbeats 8000000
set_option maxRecDepth 100000
mutual
def jC.j0 : Nat → List S60 → List S60 → Bool → Option (Int × Bool)
 | 0, _, _, _ => none
 | k + 1, x0, x1, x19 => if x19 = true then (some (0, false)) else ((jV.f k x0 x1).bind fun bt223 => (if bt223.1 = true then (jC.j1 k x0 x1 (!bt223.2)) else (jC.j1 k x0 x1 true)))
def jC.j1 : Nat → List S60 → List S60 → Bool → Option (Int × Bool)
 | 0, _, _, _ => none
 | k + 1, x0, x1, x31 => if x31 = true then (some (0, false)) else ((jN.f k x0 x1).bind fun t225 => ((jN.f k x1 x0).bind fun t226 => ((jO.f k x0).bind fun t227 => ((jO.f k x1).bind fun t230 => (jC.l0 k (wrap64 (t225 + t226)) t227 t230 (t227.length : Int) 0)))))
def jC.l0 : Nat → Int → List Int → List Int → Int → Int → Option (Int × Bool)
 | 0, _, _, _, _, _ => none
 | k + 1, x8, x9, x10, x44, x45 => if x45 < x44 then (if 0 ≤ x45 then (if x45 < (x9.length : Int) then (if (rd x9 x45) = 0 then (jC.l0 k x8 x9 x10 x44 (wrap64 (x45 + 1))) else (if x45 < (x10.length : Int) then (if (rd x10 x45) = 0 then (jC.l0 k x8 x9 x10 x44 (wrap64 (x45 + 1))) else (jC.l0 k (wrap64 (x8 + 1)) x9 x10 x44 (wrap64 (x45 + 1)))) else (none))) else (none)) else (none)) else (some (x8, true))
end
def jC.f (k : Nat) (l0 : List S60) (l1 : List S60) : Option (Int × Bool) := (jI.f k l0).bind fun t221 => (if t221 = true then ((jI.f k l1).bind fun t222 => (jC.j0 k l0 l1 (!t222))) else (jC.j0 k l0 l1 true))
theorem jC.mono_l : ∀ k, (∀ y0 y1 y2, LeO (jC.j0 k y0 y1 y2) (jC.j0 (k + 1) y0 y1 y2)) ∧ (∀ y0 y1 y2, LeO (jC.j1 k y0 y1 y2) (jC.j1 (k + 1) y0 y1 y2)) ∧ (∀ y0 y1 y2 y3 y4, LeO (jC.l0 k y0 y1 y2 y3 y4) (jC.l0 (k + 1) y0 y1 y2 y3 y4))
 | 0 => ⟨fun _ _ _ r h => by simp [jC.j0] at h, fun _ _ _ r h => by simp [jC.j1] at h, fun _ _ _ _ _ r h => by simp [jC.l0] at h⟩
 | k + 1 => by
  obtain ⟨ih0, ih1, ih2⟩ := jC.mono_l k
  refine ⟨?_, ?_, ?_⟩
  ·intro y0 y1 y2
   unfold jC.j0
   repeat' (with_reducible first | apply ih0 | apply ih1 | apply ih2 | apply jI.mono | apply jO.mono | apply jV.mono | apply jN.mono | apply LeO.refl | apply LeO.none | apply LeO.ite | refine LeO.bind ?_ fun _ => ?_)
  ·intro y0 y1 y2
   unfold jC.j1
   repeat' (with_reducible first | apply ih0 | apply ih1 | apply ih2 | apply jI.mono | apply jO.mono | apply jV.mono | apply jN.mono | apply LeO.refl | apply LeO.none | apply LeO.ite | refine LeO.bind ?_ fun _ => ?_)
  ·intro y0 y1 y2 y3 y4
   unfold jC.l0
   repeat' (with_reducible first | apply ih0 | apply ih1 | apply ih2 | apply jI.mono | apply jO.mono | apply jV.mono | apply jN.mono | apply LeO.refl | apply LeO.none | apply LeO.ite | refine LeO.bind ?_ fun _ => ?_)
theorem jC.mono : ∀ a0 a1 k, LeO (jC.f k a0 a1) (jC.f (k + 1) a0 a1) := by
 intro a0 a1 k
 obtain ⟨ih0, ih1, ih2⟩ := jC.mono_l k
 unfold jC.f
 repeat' (with_reducible first | apply ih0 | apply ih1 | apply ih2 | apply jI.mono | apply jO.mono | apply jV.mono | apply jN.mono | apply LeO.refl | apply LeO.none | apply LeO.ite | refine LeO.bind ?_ fun _ => ?_)
theorem jC.calls (k : Nat) (A0 : Option Addr) (c0 : Nat) (l0 : List S60) (A1 : Option Addr) (c1 : Nat) (l1 : List S60) (r1 : Int) (r2 : Bool) (w : World) (hr0 : Kd.C k60 w A0 l0.length l0) (hc0 : l0.length ≤ c0) (hr1 : Kd.C k60 w A1 l1.length l1) (hc1 : l1.length ≤ c1) (h : jC.f k l0 l1 = some (r1, r2)) :
  Calls Try.prog 14 #[.slice A0 l0.length c0, .slice A1 l1.length c1] w fun e w' => e = .returned (.tuple #[.int .i64 r1, .bool r2]) ∧ Below w.heap.size w w' := by
 have HR0 := aM hr0
 have HC0 := aM hc0
 clear hr0 hc0
 have HR1 := aM hr1
 have HC1 := aM hc1
 clear hr1 hc1
 have HB := aM (Below.refl w.heap.size w)
 have H : ((jI.f k l0).bind fun t221 => (if t221 = true then ((jI.f k l1).bind fun t222 => (jC.j0 k l0 l1 (!t222))) else (jC.j0 k l0 l1 true))) = some (r1, r2) := h
 clear h
 have HC3 := aM H
 clear H
 go_enter Try.func14, Try.ntmps14
 go_upto_region 1 with (fail)
 go_cut [19] (fun v19 wc => ∃ (kq : Nat) (x19_2 : Bool), v19 = .bool x19_2 ∧ Aside0 (jC.j0 kq l0 l1 x19_2 = some (r1, r2)) ∧ Aside0 (kq ≤ k) ∧ Aside0 (Below w.heap.size w wc))
 case first =>
  have H := HC3.out
  clear HC3
  obtain ⟨t221, A4, H⟩ := bM H
  by_cases c5 : t221 = true
  rotate_left
  ·replace c5 := Bool.eq_false_iff.mpr c5
   subst c5
   replace H := fF H
   have H' := aM H
   clear H
   go_wp2_with ((with_reducible refine gate_callee (f := 34) rfl ?_); refine gL 13 Try.func34 #[.slice A0 l0.length c0] ?_; (with_reducible refine (jI.calls k _ _ l0 false _ ?s1 ?s2 A4.out).mono ?_); (case s1 => exact cC (Kd.C_below HR0.out HB.out)); (case s2 => exact HC0.out); rintro e w9 ⟨rfl, hb⟩; refine ⟨_, rfl, ?_⟩; replace HB := aM (below_step bB hb); clear hb)
   go_meet
   case rel => exact ⟨_, (true), aP19, H', ⟨lH⟩, ⟨bB⟩⟩
  subst c5
  rw [if_pos rfl] at H
  obtain ⟨t222, A6, H⟩ := bM H
  have H' := aM H
  clear H
  go_wp2_with (first | ((with_reducible refine gate_callee (f := 34) rfl ?_); refine gL 13 Try.func34 #[.slice A0 l0.length c0] ?_; (with_reducible refine (jI.calls k _ _ l0 true _ ?s1 ?s2 A4.out).mono ?_); (case s1 => exact cC (Kd.C_below HR0.out HB.out)); (case s2 => exact HC0.out); rintro e w7 ⟨rfl, hb⟩; refine ⟨_, rfl, ?_⟩; replace HB := aM (below_step bB hb); clear hb) | (go_at_call 34; (with_reducible refine (jI.calls k _ _ l1 t222 _ ?s1 ?s2 A6.out).mono ?_); (case s1 => exact cC (Kd.C_below HR1.out HB.out)); (case s2 => exact HC1.out); rintro e w8 ⟨rfl, hb⟩; replace HB := aM (below_step bB hb); clear hb))
  go_meet
  case rel => exact ⟨_, (!t222), aP19, H', ⟨lH⟩, ⟨bB⟩⟩
 clear HC3
 try clear c1
 obtain ⟨kq, x19_2, rfl, HA, HJ2, HB⟩ := hcut
 cases kq with
 | zero => exact absurd HA.out (by simp [jC.j0])
 | succ kj2 => ?_
 have H := HA.out
 clear HA
 simp only [jC.j0] at H
 by_cases c10 : x19_2 = true
 ·subst c10
  rw [if_pos rfl] at H
  simp only [Option.some.injEq, Prod.mk.injEq] at H
  obtain ⟨rfl, rfl⟩ := H
  go_wp2
  go_ret2
  exact ⟨eR, bB⟩
 replace c10 := Bool.eq_false_iff.mpr c10
 subst c10
 replace H := fF H
 obtain ⟨⟨t223, t224⟩, A11, H⟩ := bM H
 have HC12 := aM H
 clear H
 go_upto_region 4 with ((with_reducible refine gate_callee (f := 35) rfl ?_); refine gL 23 Try.func35 #[.slice A0 l0.length c0, .slice A1 l1.length c1] ?_; (with_reducible refine (jV.calls kj2 _ _ l0 _ _ l1 t223 t224 _ ?s1 ?s2 ?s3 ?s4 A11.out).mono ?_); (case s1 => exact cC (Kd.C_below HR0.out HB.out)); (case s2 => exact HC0.out); (case s3 => exact cC (Kd.C_below HR1.out HB.out)); (case s4 => exact HC1.out); rintro e w13 ⟨rfl, hb⟩; refine ⟨_, rfl, ?_⟩; replace HB := aM (below_step bB hb); clear hb)
 (try simp only [Act.put, List.setIfInBounds_toArray, List.set_cons_zero, List.set_cons_succ])
 go_cut [31] (fun v31 wc => ∃ (kq : Nat) (x31_11 : Bool), v31 = .bool x31_11 ∧ Aside0 (jC.j1 kq l0 l1 x31_11 = some (r1, r2)) ∧ Aside0 (kq ≤ kj2) ∧ Aside0 (Below w.heap.size w wc))
 case first =>
  have H := HC12.out
  clear HC12
  by_cases c14 : t223 = true
  ·subst c14
   rw [if_pos rfl] at H
   have H' := aM H
   clear H
   go_wp2
   go_meet
   case rel => exact ⟨_, (!t224), aP19, H', ⟨by have := HJ2.out; first | omega | exact Nat.le_refl _⟩, ⟨bB⟩⟩
  replace c14 := Bool.eq_false_iff.mpr c14
  subst c14
  replace H := fF H
  have H' := aM H
  clear H
  go_wp2
  go_meet
  case rel => exact ⟨_, (true), aP19, H', ⟨by have := HJ2.out; first | omega | exact Nat.le_refl _⟩, ⟨bB⟩⟩
 clear HC12
 try clear c1
 try clear c10
 obtain ⟨kq, x31_11, rfl, HA, HJ11, HB⟩ := hcut
 cases kq with
 | zero => exact absurd HA.out (by simp [jC.j1])
 | succ kj11 => ?_
 have H := HA.out
 clear HA
 simp only [jC.j1] at H
 by_cases c15 : x31_11 = true
 ·subst c15
  rw [if_pos rfl] at H
  simp only [Option.some.injEq, Prod.mk.injEq] at H
  obtain ⟨rfl, rfl⟩ := H
  go_wp2
  go_ret2
  exact ⟨eR, bB⟩
 replace c15 := Bool.eq_false_iff.mpr c15
 subst c15
 replace H := fF H
 obtain ⟨t225, A16, H⟩ := bM H
 obtain ⟨t226, A17, H⟩ := bM H
 obtain ⟨t227, A18, H⟩ := bM H
 obtain ⟨t230, A19, H⟩ := bM H
 have H' := aM H
 clear H
 go_wp2_with (first | ((with_reducible refine gate_callee (f := 40) rfl ?_); refine gL 34 Try.func40 #[.slice A0 l0.length c0, .slice A1 l1.length c1] ?_; (with_reducible refine (jN.calls kj11 _ _ l0 _ _ l1 t225 _ ?s1 ?s2 ?s3 ?s4 A16.out).mono ?_); (case s1 => exact cC (Kd.C_below HR0.out HB.out)); (case s2 => exact HC0.out); (case s3 => exact cC (Kd.C_below HR1.out HB.out)); (case s4 => exact HC1.out); rintro e w20 ⟨rfl, hb⟩; refine ⟨_, rfl, ?_⟩; replace HB := aM (below_step bB hb); clear hb) | ((with_reducible refine gate_callee (f := 40) rfl ?_); refine gL 37 Try.func40 #[.slice A1 l1.length c1, .slice A0 l0.length c0] ?_; (with_reducible refine (jN.calls kj11 _ _ l1 _ _ l0 t226 _ ?s1 ?s2 ?s3 ?s4 A17.out).mono ?_); (case s1 => exact cC (Kd.C_below HR1.out HB.out)); (case s2 => exact HC1.out); (case s3 => exact cC (Kd.C_below HR0.out HB.out)); (case s4 => exact HC0.out); rintro e w21 ⟨rfl, hb⟩; refine ⟨_, rfl, ?_⟩; replace HB := aM (below_step bB hb); clear hb) | ((with_reducible refine gate_callee (f := 41) rfl ?_); refine gL 40 Try.func41 #[.slice A0 l0.length c0] ?_; (with_reducible refine (jO.calls kj11 _ _ l0 t227 _ ?s1 ?s2 A18.out).mono ?_); (case s1 => exact cC (Kd.C_below HR0.out HB.out)); (case s2 => exact HC0.out); rintro e w22 ⟨v228, rfl, ho0, hb⟩; refine ⟨_, rfl, ?_⟩; have HO229 := aM (Kd.R_lower ho0 (below_size bB)); replace HB := aM (below_step bB hb); clear hb ho0) | ((with_reducible refine gate_callee (f := 41) rfl ?_); refine gL 42 Try.func41 #[.slice A1 l1.length c1] ?_; (with_reducible refine (jO.calls kj11 _ _ l1 t230 _ ?s1 ?s2 A19.out).mono ?_); (case s1 => exact cC (Kd.C_below HR1.out HB.out)); (case s2 => exact HC1.out); rintro e w23 ⟨v231, rfl, ho0, hb⟩; refine ⟨_, rfl, ?_⟩; have HO232 := aM (Kd.R_lower (Kd.R_new' ho0 (Kd.R_lt (rR HO229.out))) (below_size bB)); replace HO229 := aM (Kd.R_elder' (rR HO229.out) (Kd.R_base ho0) hb); replace HB := aM (below_step bB hb); clear hb ho0; obtain ⟨Ao24, co24, eo24⟩ := Kd.R_slice HO229.out; subst eo24))
 go_loopg [8, 45] kj11 (fun kq v8 v45 w' => ∃ (x8_3 : Int) (x45_3 : Int), v8 = .int .i64 x8_3 ∧ v45 = .int .i64 x45_3 ∧ Aside0 (jC.l0 kq x8_3 t227 t230 (t227.length : Int) x45_3 = some (r1, r2)) ∧ Aside0 (kq ≤ kj11) ∧ Aside0 (Kd.R (Kd.int .u8) 5 w' w.heap.size (fun k_ => some k_ ≠ (v231 : Value).ownBlock) (.slice Ao24 t227.length co24) t227) ∧ Aside0 (Kd.R (Kd.int .u8) 5 w' w.heap.size (fun k_ => some k_ ≠ ((.slice Ao24 t227.length co24) : Value).ownBlock) v231 t230) ∧ Aside0 (Below w.heap.size w w'))
 case atStart => exact ⟨(wrap64 (t225 + t226)), (0), aP19, aP19, H', ⟨Nat.le_refl _⟩, ⟨wR HO229.out⟩, ⟨wR HO232.out⟩, ⟨bB⟩⟩
 case round =>
  clear H'
  try clear c1
  try clear c10
  try clear c15
  obtain ⟨x8_3, x45_3, rfl, rfl, HA, HK3, HO_9, HO_10, HB⟩ := hrel
  cases gk with
  | zero => exact absurd HA.out (by simp [jC.l0])
  | succ k3 => ?_
  have H := HA.out
  clear HA
  simp only [jC.l0] at H
  by_cases c25 : x45_3 < (t227.length : Int)
  rotate_left
  ·rw [if_neg c25] at H
   have c25b0 : decide (x45_3 < (t227.length : Int)) = false := decide_eq_false c25
   clear c25
   simp only [Option.some.injEq, Prod.mk.injEq] at H
   obtain ⟨rfl, rfl⟩ := H
   go_wp2
   go_ret2
   exact ⟨eR, bB⟩
  rw [if_pos c25] at H
  have c25b0 : decide (x45_3 < (t227.length : Int)) = true := decide_eq_true c25
  clear c25
  obtain ⟨c26b0, H⟩ := gB H
  obtain ⟨c27b0, H⟩ := gB H
  by_cases c28 : (rd t227 x45_3) = 0
  ·rw [if_pos c28] at H
   obtain ⟨c28b0, c28b1⟩ := pE c28
   clear c28
   have H' := aM H
   clear H
   obtain ⟨ad233, rfl, p233, q233, hx233_0⟩ := xI HO_9.out x45_3
   go_wp2
   go_roundg k3
   case measure => have := HJ2.out; have := HJ11.out; have := HK3.out; omega
   case rel => exact ⟨(x8_3), (wrap64 (x45_3 + 1)), aP19, aP19, H', ⟨by have := HJ2.out; have := HJ11.out; have := HK3.out; omega⟩, ⟨rR HO_9.out⟩, ⟨rR HO_10.out⟩, ⟨bB⟩⟩
  rw [if_neg c28] at H
  obtain ⟨c28b0, c28b1⟩ := nE c28
  obtain ⟨c29b0, H⟩ := gB H
  by_cases c30 : (rd t230 x45_3) = 0
  rotate_left
  ·rw [if_neg c30] at H
   obtain ⟨c30b0, c30b1⟩ := nE c30
   have H' := aM H
   clear H
   obtain ⟨ad233, rfl, p233, q233, hx233_0⟩ := xI HO_9.out x45_3
   obtain ⟨Ao32, co32, eo32⟩ := Kd.R_slice HO_10.out
   subst eo32
   obtain ⟨ad234, rfl, p234, q234, hx234_0⟩ := xI HO_10.out x45_3
   go_wp2
   go_roundg k3
   case measure => have := HJ2.out; have := HJ11.out; have := HK3.out; omega
   case rel => exact ⟨(wrap64 (x8_3 + 1)), (wrap64 (x45_3 + 1)), aP19, aP19, H', ⟨by have := HJ2.out; have := HJ11.out; have := HK3.out; omega⟩, ⟨rR HO_9.out⟩, ⟨rR HO_10.out⟩, ⟨bB⟩⟩
  rw [if_pos c30] at H
  obtain ⟨c30b0, c30b1⟩ := pE c30
  clear c30
  have H' := aM H
  clear H
  obtain ⟨ad233, rfl, p233, q233, hx233_0⟩ := xI HO_9.out x45_3
  obtain ⟨Ao31, co31, eo31⟩ := Kd.R_slice HO_10.out
  subst eo31
  obtain ⟨ad234, rfl, p234, q234, hx234_0⟩ := xI HO_10.out x45_3
  go_wp2
  go_roundg k3
  case measure => have := HJ2.out; have := HJ11.out; have := HK3.out; omega
  case rel => exact ⟨(x8_3), (wrap64 (x45_3 + 1)), aP19, aP19, H', ⟨by have := HJ2.out; have := HJ11.out; have := HK3.out; omega⟩, ⟨rR HO_9.out⟩, ⟨rR HO_10.out⟩, ⟨bB⟩⟩
def jJ.l0 : Nat → List Int → Int → Int → List S60 → Int → Int → Option (Int)
 | 0, _, _, _, _, _, _ => none
 | k + 1, x1, x5, x6, x9, x10, x11 => if x11 < x10 then (if 0 ≤ x11 then (if x11 < (x9.length : Int) then (if ((rd_T60 x9 x11).f1).toList = ([] : List UInt8) then (jJ.l0 k x1 x5 (wrap64 (x6 + (wrap64 (((rd_T60 x9 x11).f0) + (((rd_T60 x9 x11).f2).size : Int))))) x9 x10 (wrap64 (x11 + 1))) else (if x6 > 0 then (if x6 < (x1.length : Int) then (if 0 ≤ (wrap64 (x6 - 1)) then (if (wrap64 (x6 - 1)) < (x1.length : Int) then (if (rd x1 (wrap64 (x6 - 1))) = 0 then (jJ.l0 k x1 x5 (wrap64 (x6 + (wrap64 (((rd_T60 x9 x11).f0) + (((rd_T60 x9 x11).f2).size : Int))))) x9 x10 (wrap64 (x11 + 1))) else (if 0 ≤ x6 then (if (rd x1 x6) = 0 then (jJ.l0 k x1 x5 (wrap64 (x6 + (wrap64 (((rd_T60 x9 x11).f0) + (((rd_T60 x9 x11).f2).size : Int))))) x9 x10 (wrap64 (x11 + 1))) else (jJ.l0 k x1 (wrap64 (x5 + 1)) (wrap64 (x6 + (wrap64 (((rd_T60 x9 x11).f0) + (((rd_T60 x9 x11).f2).size : Int))))) x9 x10 (wrap64 (x11 + 1)))) else (none))) else (none)) else (none)) else (jJ.l0 k x1 x5 (wrap64 (x6 + (wrap64 (((rd_T60 x9 x11).f0) + (((rd_T60 x9 x11).f2).size : Int))))) x9 x10 (wrap64 (x11 + 1)))) else (jJ.l0 k x1 x5 (wrap64 (x6 + (wrap64 (((rd_T60 x9 x11).f0) + (((rd_T60 x9 x11).f2).size : Int))))) x9 x10 (wrap64 (x11 + 1))))) else (none)) else (none)) else (some x5)
def jJ.f (k : Nat) (l0 : List S60) (l1 : List Int) : Option (Int) := jJ.l0 k l1 0 0 l0 (l0.length : Int) 0
theorem jJ.mono_l : ∀ k, (∀ y0 y1 y2 y3 y4 y5, LeO (jJ.l0 k y0 y1 y2 y3 y4 y5) (jJ.l0 (k + 1) y0 y1 y2 y3 y4 y5))
 | 0 => fun _ _ _ _ _ _ r h => by simp [jJ.l0] at h
 | k + 1 => by
  have ih0 := jJ.mono_l k
  ·intro y0 y1 y2 y3 y4 y5
   unfold jJ.l0
   repeat' (with_reducible first | apply ih0 | apply LeO.refl | apply LeO.none | apply LeO.ite | refine LeO.bind ?_ fun _ => ?_)
theorem jJ.mono : ∀ a0 a1 k, LeO (jJ.f k a0 a1) (jJ.f (k + 1) a0 a1) := by
 intro a0 a1 k
 have ih0 := jJ.mono_l k
 unfold jJ.f
 repeat' (with_reducible first | apply ih0 | apply LeO.refl | apply LeO.none | apply LeO.ite | refine LeO.bind ?_ fun _ => ?_)
theorem jJ.calls (k : Nat) (A0 : Option Addr) (c0 : Nat) (l0 : List S60) (A1 : Option Addr) (c1 : Nat) (l1 : List Int) (r : Int) (w : World) (hr0 : Kd.C k60 w A0 l0.length l0) (hc0 : l0.length ≤ c0) (hr1 : Kd.C (Kd.int .u8) w A1 l1.length l1) (hc1 : l1.length ≤ c1) (h : jJ.f k l0 l1 = some r) :
  Calls Try.prog 42 #[.slice A0 l0.length c0, .slice A1 l1.length c1] w fun e w' => e = .returned (.int .i64 r) ∧ Below w.heap.size w w' := by
 have hu60 := Try.underlying60
 have HR0 := aM hr0
 have HC0 := aM hc0
 clear hr0 hc0
 have HR1 := aM hr1
 have HC1 := aM hc1
 clear hr1 hc1
 have HB := aM (Below.refl w.heap.size w)
 have H : (jJ.l0 k l1 0 0 l0 (l0.length : Int) 0) = some r := h
 clear h
 have H' := aM H
 clear H
 go_enter Try.func42, Try.ntmps42
 go_wp2
 go_loopg [5, 6, 11] k (fun kq v5 v6 v11 w' => ∃ (x5_1 : Int) (x6_1 : Int) (x11_1 : Int), v5 = .int .i64 x5_1 ∧ v6 = .int .i64 x6_1 ∧ v11 = .int .i64 x11_1 ∧ Aside0 (jJ.l0 kq l1 x5_1 x6_1 l0 (l0.length : Int) x11_1 = some r) ∧ Aside0 (kq ≤ k) ∧ Aside0 (Below w.heap.size w w'))
 case atStart => exact ⟨(0), (0), (0), aP19, aP19, aP19, H', ⟨Nat.le_refl _⟩, ⟨bB⟩⟩
 case round =>
  clear H'
  try clear c1
  obtain ⟨x5_1, x6_1, x11_1, rfl, rfl, rfl, HA, HK1, HB⟩ := hrel
  cases gk with
  | zero => exact absurd HA.out (by simp [jJ.l0])
  | succ k1 => ?_
  have H := HA.out
  clear HA
  simp only [jJ.l0] at H
  by_cases c3 : x11_1 < (l0.length : Int)
  rotate_left
  ·rw [if_neg c3] at H
   have c3b0 : decide (x11_1 < (l0.length : Int)) = false := decide_eq_false c3
   clear c3
   obtain rfl := Option.some.inj H
   go_wp2
   go_ret
   exact ⟨eR, bB⟩
  rw [if_pos c3] at H
  have c3b0 : decide (x11_1 < (l0.length : Int)) = true := decide_eq_true c3
  clear c3
  obtain ⟨c4b0, H⟩ := gB H
  obtain ⟨c5b0, H⟩ := gB H
  by_cases c6 : ((rd_T60 l0 x11_1).f1).toList = ([] : List UInt8)
  ·rw [if_pos c6] at H
   obtain ⟨c6b0, c6b1⟩ := pE c6
   try have c6e : ((rd_T60 l0 x11_1).f1).toList.isEmpty = true := List.isEmpty_iff.mpr c6
   clear c6
   have H' := aM H
   clear H
   have p235 : 0 ≤ (x11_1 : Int) := of_decide_eq_true (by assumption)
   have q235 : x11_1 < (l0.length : Int) := of_decide_eq_true (by assumption)
   obtain ⟨ad235, e235, hx235_0, hx235_1, hx235_2⟩ := at_T60 HR0.out x11_1 p235 q235
   cases e235
   replace hx235_0 := hC HB.out hx235_0
   replace hx235_1 := hC HB.out hx235_1
   replace hx235_2 := hC HB.out hx235_2
   replace p235 := eq_true p235
   replace q235 := eq_true q235
   go_wp2_with ((with_reducible refine gate_dst (N := 8) rfl ?_); (try (refine gate_guard (by rfl) ?_; dsimp only)); refine box_event rfl (N := 8) rfl (cs := #[.int .i64 0, .string ⟨#[]⟩, .string ⟨#[]⟩]) (t := 60) aP38 ?_; intro gb236 hg w7 hbox hb; have BK236 := aM (hbox); have GW236 := aM (bG (w := w) hg); have GE236 := aM (bG (w := w) hg); replace HB := aM (below_step bB hb); clear hb hbox hg; obtain ⟨hcz8_0, hcz8_1, hcz8_2, hfz8_0, hfz8_1, hfz8_2⟩ := bx3 BK236.out)
   go_roundg k1
   case measure => have := HK1.out; omega
   case rel => exact ⟨(x5_1), (wrap64 (x6_1 + (wrap64 (((rd_T60 l0 x11_1).f0) + (((rd_T60 l0 x11_1).f2).size : Int))))), (wrap64 (x11_1 + 1)), aP19, aP19, aP19, H', ⟨by have := HK1.out; omega⟩, ⟨aP10⟩⟩
  rw [if_neg c6] at H
  obtain ⟨c6b0, c6b1⟩ := nE c6
  try have c6e : ((rd_T60 l0 x11_1).f1).toList.isEmpty = false := List.isEmpty_eq_false_iff.mpr c6
  by_cases c9 : x6_1 > 0
  rotate_left
  ·rw [if_neg c9] at H
   have c9b0 : decide (0 < x6_1) = false := decide_eq_false c9
   clear c9
   have H' := aM H
   clear H
   have p235 : 0 ≤ (x11_1 : Int) := of_decide_eq_true (by assumption)
   have q235 : x11_1 < (l0.length : Int) := of_decide_eq_true (by assumption)
   obtain ⟨ad235, e235, hx235_0, hx235_1, hx235_2⟩ := at_T60 HR0.out x11_1 p235 q235
   cases e235
   replace hx235_0 := hC HB.out hx235_0
   replace hx235_1 := hC HB.out hx235_1
   replace hx235_2 := hC HB.out hx235_2
   replace p235 := eq_true p235
   replace q235 := eq_true q235
   go_wp2_with ((with_reducible refine gate_dst (N := 8) rfl ?_); (try (refine gate_guard (by rfl) ?_; dsimp only)); refine box_event rfl (N := 8) rfl (cs := #[.int .i64 0, .string ⟨#[]⟩, .string ⟨#[]⟩]) (t := 60) aP38 ?_; intro gb236 hg w25 hbox hb; have BK236 := aM (hbox); have GW236 := aM (bG (w := w) hg); have GE236 := aM (bG (w := w) hg); replace HB := aM (below_step bB hb); clear hb hbox hg; obtain ⟨hcz26_0, hcz26_1, hcz26_2, hfz26_0, hfz26_1, hfz26_2⟩ := bx3 BK236.out)
   go_roundg k1
   case measure => have := HK1.out; omega
   case rel => exact ⟨(x5_1), (wrap64 (x6_1 + (wrap64 (((rd_T60 l0 x11_1).f0) + (((rd_T60 l0 x11_1).f2).size : Int))))), (wrap64 (x11_1 + 1)), aP19, aP19, aP19, H', ⟨by have := HK1.out; omega⟩, ⟨aP10⟩⟩
  rw [if_pos c9] at H
  have c9b0 : decide (0 < x6_1) = true := decide_eq_true c9
  clear c9
  by_cases c10 : x6_1 < (l1.length : Int)
  rotate_left
  ·rw [if_neg c10] at H
   have c10b0 : decide (x6_1 < (l1.length : Int)) = false := decide_eq_false c10
   clear c10
   have H' := aM H
   clear H
   have p235 : 0 ≤ (x11_1 : Int) := of_decide_eq_true (by assumption)
   have q235 : x11_1 < (l0.length : Int) := of_decide_eq_true (by assumption)
   obtain ⟨ad235, e235, hx235_0, hx235_1, hx235_2⟩ := at_T60 HR0.out x11_1 p235 q235
   cases e235
   replace hx235_0 := hC HB.out hx235_0
   replace hx235_1 := hC HB.out hx235_1
   replace hx235_2 := hC HB.out hx235_2
   replace p235 := eq_true p235
   replace q235 := eq_true q235
   go_wp2_with ((with_reducible refine gate_dst (N := 8) rfl ?_); (try (refine gate_guard (by rfl) ?_; dsimp only)); refine box_event rfl (N := 8) rfl (cs := #[.int .i64 0, .string ⟨#[]⟩, .string ⟨#[]⟩]) (t := 60) aP38 ?_; intro gb236 hg w23 hbox hb; have BK236 := aM (hbox); have GW236 := aM (bG (w := w) hg); have GE236 := aM (bG (w := w) hg); replace HB := aM (below_step bB hb); clear hb hbox hg; obtain ⟨hcz24_0, hcz24_1, hcz24_2, hfz24_0, hfz24_1, hfz24_2⟩ := bx3 BK236.out)
   go_roundg k1
   case measure => have := HK1.out; omega
   case rel => exact ⟨(x5_1), (wrap64 (x6_1 + (wrap64 (((rd_T60 l0 x11_1).f0) + (((rd_T60 l0 x11_1).f2).size : Int))))), (wrap64 (x11_1 + 1)), aP19, aP19, aP19, H', ⟨by have := HK1.out; omega⟩, ⟨aP10⟩⟩
  rw [if_pos c10] at H
  have c10b0 : decide (x6_1 < (l1.length : Int)) = true := decide_eq_true c10
  clear c10
  generalize hji11 : (wrap64 (x6_1 - 1)) = ji11 at H
  have hji11w : (IntKind.i64.wrap (x6_1 - 1)) = ji11 := (i64_w _).trans hji11
  obtain ⟨c12b0, H⟩ := gB H
  obtain ⟨c13b0, H⟩ := gB H
  by_cases c14 : (rd l1 (ji11)) = 0
  ·rw [if_pos c14] at H
   obtain ⟨c14b0, c14b1⟩ := pE c14
   clear c14
   have H' := aM H
   clear H
   have p235 : 0 ≤ (x11_1 : Int) := of_decide_eq_true (by assumption)
   have q235 : x11_1 < (l0.length : Int) := of_decide_eq_true (by assumption)
   obtain ⟨ad235, e235, hx235_0, hx235_1, hx235_2⟩ := at_T60 HR0.out x11_1 p235 q235
   cases e235
   replace hx235_0 := hC HB.out hx235_0
   replace hx235_1 := hC HB.out hx235_1
   replace hx235_2 := hC HB.out hx235_2
   replace p235 := eq_true p235
   replace q235 := eq_true q235
   go_wp2_with ((with_reducible refine gate_dst (N := 8) rfl ?_); (try (refine gate_guard (by rfl) ?_; dsimp only)); refine box_event rfl (N := 8) rfl (cs := #[.int .i64 0, .string ⟨#[]⟩, .string ⟨#[]⟩]) (t := 60) aP38 ?_; intro gb236 hg w15 hbox hb; have BK236 := aM (hbox); have GW236 := aM (bG (w := w) hg); have GE236 := aM (bG (w := w) hg); replace HB := aM (below_step bB hb); clear hb hbox hg; obtain ⟨hcz16_0, hcz16_1, hcz16_2, hfz16_0, hfz16_1, hfz16_2⟩ := bx3 BK236.out; have p237 : 0 ≤ ((ji11) : Int) := of_decide_eq_true (by assumption); have q237 : (ji11) < (l1.length : Int) := of_decide_eq_true (by assumption); obtain ⟨ad237, e237, hx237_0⟩ := Kd.at_int HR1.out (ji11) p237 q237; cases e237; have hn237_0 : ad237.block ≠ gb236 := Nat.ne_of_lt (Nat.lt_of_lt_of_le (by have := World.block_lt_of_cell? _ _ hx237_0; first | rwa [add_block] at this | exact this) GW236.out); have hn237_1 : ad237.block ≠ gb236 := Nat.ne_of_lt (Nat.lt_of_lt_of_le (by have := World.block_lt_of_cell? _ _ hx237_0; first | rwa [add_block] at this | exact this) GW236.out); have hn237_2 : ad237.block ≠ gb236 := Nat.ne_of_lt (Nat.lt_of_lt_of_le (by have := World.block_lt_of_cell? _ _ hx237_0; first | rwa [add_block] at this | exact this) GW236.out); replace hx237_0 := hC HB.out hx237_0; replace hx237_0 := (cell_far (p := ⟨gb236, 0, none⟩) aP31 (.int .i64 ((rd_T60 l0 x11_1).f0))).trans hx237_0; replace hx237_0 := (cell_far (p := ⟨gb236, 1, none⟩) aP32 (.string ((rd_T60 l0 x11_1).f1))).trans hx237_0; replace hx237_0 := (cell_far (p := ⟨gb236, 2, none⟩) aP33 (.string ((rd_T60 l0 x11_1).f2))).trans hx237_0; clear hn237_0; clear hn237_1; clear hn237_2; replace p237 := eq_true p237; replace q237 := eq_true q237)
   go_roundg k1
   case measure => have := HK1.out; omega
   case rel => exact ⟨(x5_1), (wrap64 (x6_1 + (wrap64 (((rd_T60 l0 x11_1).f0) + (((rd_T60 l0 x11_1).f2).size : Int))))), (wrap64 (x11_1 + 1)), aP19, aP19, aP19, H', ⟨by have := HK1.out; omega⟩, ⟨aP10⟩⟩
  rw [if_neg c14] at H
  obtain ⟨c14b0, c14b1⟩ := nE c14
  obtain ⟨c17b0, H⟩ := gB H
  by_cases c18 : (rd l1 x6_1) = 0
  rotate_left
  ·rw [if_neg c18] at H
   obtain ⟨c18b0, c18b1⟩ := nE c18
   have H' := aM H
   clear H
   have p235 : 0 ≤ (x11_1 : Int) := of_decide_eq_true (by assumption)
   have q235 : x11_1 < (l0.length : Int) := of_decide_eq_true (by assumption)
   obtain ⟨ad235, e235, hx235_0, hx235_1, hx235_2⟩ := at_T60 HR0.out x11_1 p235 q235
   cases e235
   replace hx235_0 := hC HB.out hx235_0
   replace hx235_1 := hC HB.out hx235_1
   replace hx235_2 := hC HB.out hx235_2
   replace p235 := eq_true p235
   replace q235 := eq_true q235
   go_wp2_with ((with_reducible refine gate_dst (N := 8) rfl ?_); (try (refine gate_guard (by rfl) ?_; dsimp only)); refine box_event rfl (N := 8) rfl (cs := #[.int .i64 0, .string ⟨#[]⟩, .string ⟨#[]⟩]) (t := 60) aP38 ?_; intro gb236 hg w21 hbox hb; have BK236 := aM (hbox); have GW236 := aM (bG (w := w) hg); have GE236 := aM (bG (w := w) hg); replace HB := aM (below_step bB hb); clear hb hbox hg; obtain ⟨hcz22_0, hcz22_1, hcz22_2, hfz22_0, hfz22_1, hfz22_2⟩ := bx3 BK236.out; have p237 : 0 ≤ ((ji11) : Int) := of_decide_eq_true (by assumption); have q237 : (ji11) < (l1.length : Int) := of_decide_eq_true (by assumption); obtain ⟨ad237, e237, hx237_0⟩ := Kd.at_int HR1.out (ji11) p237 q237; cases e237; have hn237_0 : ad237.block ≠ gb236 := Nat.ne_of_lt (Nat.lt_of_lt_of_le (by have := World.block_lt_of_cell? _ _ hx237_0; first | rwa [add_block] at this | exact this) GW236.out); have hn237_1 : ad237.block ≠ gb236 := Nat.ne_of_lt (Nat.lt_of_lt_of_le (by have := World.block_lt_of_cell? _ _ hx237_0; first | rwa [add_block] at this | exact this) GW236.out); have hn237_2 : ad237.block ≠ gb236 := Nat.ne_of_lt (Nat.lt_of_lt_of_le (by have := World.block_lt_of_cell? _ _ hx237_0; first | rwa [add_block] at this | exact this) GW236.out); replace hx237_0 := hC HB.out hx237_0; replace hx237_0 := (cell_far (p := ⟨gb236, 0, none⟩) aP31 (.int .i64 ((rd_T60 l0 x11_1).f0))).trans hx237_0; replace hx237_0 := (cell_far (p := ⟨gb236, 1, none⟩) aP32 (.string ((rd_T60 l0 x11_1).f1))).trans hx237_0; replace hx237_0 := (cell_far (p := ⟨gb236, 2, none⟩) aP33 (.string ((rd_T60 l0 x11_1).f2))).trans hx237_0; clear hn237_0; clear hn237_1; clear hn237_2; replace p237 := eq_true p237; replace q237 := eq_true q237; have p238 : 0 ≤ (x6_1 : Int) := of_decide_eq_true (by assumption); have q238 : x6_1 < (l1.length : Int) := of_decide_eq_true (by assumption); obtain ⟨ad238, e238, hx238_0⟩ := Kd.at_int HR1.out x6_1 p238 q238; obtain rfl : ad237 = ad238 := (by injection e238); have hn238_0 : ad237.block ≠ gb236 := Nat.ne_of_lt (Nat.lt_of_lt_of_le (by have := World.block_lt_of_cell? _ _ hx238_0; first | rwa [add_block] at this | exact this) GW236.out); have hn238_1 : ad237.block ≠ gb236 := Nat.ne_of_lt (Nat.lt_of_lt_of_le (by have := World.block_lt_of_cell? _ _ hx238_0; first | rwa [add_block] at this | exact this) GW236.out); have hn238_2 : ad237.block ≠ gb236 := Nat.ne_of_lt (Nat.lt_of_lt_of_le (by have := World.block_lt_of_cell? _ _ hx238_0; first | rwa [add_block] at this | exact this) GW236.out); replace hx238_0 := hC HB.out hx238_0; replace hx238_0 := (cell_far (p := ⟨gb236, 0, none⟩) aP34 (.int .i64 ((rd_T60 l0 x11_1).f0))).trans hx238_0; replace hx238_0 := (cell_far (p := ⟨gb236, 1, none⟩) aP35 (.string ((rd_T60 l0 x11_1).f1))).trans hx238_0; replace hx238_0 := (cell_far (p := ⟨gb236, 2, none⟩) aP36 (.string ((rd_T60 l0 x11_1).f2))).trans hx238_0; clear hn238_0; clear hn238_1; clear hn238_2; replace p238 := eq_true p238; replace q238 := eq_true q238)
   go_roundg k1
   case measure => have := HK1.out; omega
   case rel => exact ⟨(wrap64 (x5_1 + 1)), (wrap64 (x6_1 + (wrap64 (((rd_T60 l0 x11_1).f0) + (((rd_T60 l0 x11_1).f2).size : Int))))), (wrap64 (x11_1 + 1)), aP19, aP19, aP19, H', ⟨by have := HK1.out; omega⟩, ⟨aP10⟩⟩
  rw [if_pos c18] at H
  obtain ⟨c18b0, c18b1⟩ := pE c18
  clear c18
  have H' := aM H
  clear H
  have p235 : 0 ≤ (x11_1 : Int) := of_decide_eq_true (by assumption)
  have q235 : x11_1 < (l0.length : Int) := of_decide_eq_true (by assumption)
  obtain ⟨ad235, e235, hx235_0, hx235_1, hx235_2⟩ := at_T60 HR0.out x11_1 p235 q235
  cases e235
  replace hx235_0 := hC HB.out hx235_0
  replace hx235_1 := hC HB.out hx235_1
  replace hx235_2 := hC HB.out hx235_2
  replace p235 := eq_true p235
  replace q235 := eq_true q235
  go_wp2_with ((with_reducible refine gate_dst (N := 8) rfl ?_); (try (refine gate_guard (by rfl) ?_; dsimp only)); refine box_event rfl (N := 8) rfl (cs := #[.int .i64 0, .string ⟨#[]⟩, .string ⟨#[]⟩]) (t := 60) aP38 ?_; intro gb236 hg w19 hbox hb; have BK236 := aM (hbox); have GW236 := aM (bG (w := w) hg); have GE236 := aM (bG (w := w) hg); replace HB := aM (below_step bB hb); clear hb hbox hg; obtain ⟨hcz20_0, hcz20_1, hcz20_2, hfz20_0, hfz20_1, hfz20_2⟩ := bx3 BK236.out; have p237 : 0 ≤ ((ji11) : Int) := of_decide_eq_true (by assumption); have q237 : (ji11) < (l1.length : Int) := of_decide_eq_true (by assumption); obtain ⟨ad237, e237, hx237_0⟩ := Kd.at_int HR1.out (ji11) p237 q237; cases e237; have hn237_0 : ad237.block ≠ gb236 := Nat.ne_of_lt (Nat.lt_of_lt_of_le (by have := World.block_lt_of_cell? _ _ hx237_0; first | rwa [add_block] at this | exact this) GW236.out); have hn237_1 : ad237.block ≠ gb236 := Nat.ne_of_lt (Nat.lt_of_lt_of_le (by have := World.block_lt_of_cell? _ _ hx237_0; first | rwa [add_block] at this | exact this) GW236.out); have hn237_2 : ad237.block ≠ gb236 := Nat.ne_of_lt (Nat.lt_of_lt_of_le (by have := World.block_lt_of_cell? _ _ hx237_0; first | rwa [add_block] at this | exact this) GW236.out); replace hx237_0 := hC HB.out hx237_0; replace hx237_0 := (cell_far (p := ⟨gb236, 0, none⟩) aP31 (.int .i64 ((rd_T60 l0 x11_1).f0))).trans hx237_0; replace hx237_0 := (cell_far (p := ⟨gb236, 1, none⟩) aP32 (.string ((rd_T60 l0 x11_1).f1))).trans hx237_0; replace hx237_0 := (cell_far (p := ⟨gb236, 2, none⟩) aP33 (.string ((rd_T60 l0 x11_1).f2))).trans hx237_0; clear hn237_0; clear hn237_1; clear hn237_2; replace p237 := eq_true p237; replace q237 := eq_true q237; have p238 : 0 ≤ (x6_1 : Int) := of_decide_eq_true (by assumption); have q238 : x6_1 < (l1.length : Int) := of_decide_eq_true (by assumption); obtain ⟨ad238, e238, hx238_0⟩ := Kd.at_int HR1.out x6_1 p238 q238; obtain rfl : ad237 = ad238 := (by injection e238); have hn238_0 : ad237.block ≠ gb236 := Nat.ne_of_lt (Nat.lt_of_lt_of_le (by have := World.block_lt_of_cell? _ _ hx238_0; first | rwa [add_block] at this | exact this) GW236.out); have hn238_1 : ad237.block ≠ gb236 := Nat.ne_of_lt (Nat.lt_of_lt_of_le (by have := World.block_lt_of_cell? _ _ hx238_0; first | rwa [add_block] at this | exact this) GW236.out); have hn238_2 : ad237.block ≠ gb236 := Nat.ne_of_lt (Nat.lt_of_lt_of_le (by have := World.block_lt_of_cell? _ _ hx238_0; first | rwa [add_block] at this | exact this) GW236.out); replace hx238_0 := hC HB.out hx238_0; replace hx238_0 := (cell_far (p := ⟨gb236, 0, none⟩) aP34 (.int .i64 ((rd_T60 l0 x11_1).f0))).trans hx238_0; replace hx238_0 := (cell_far (p := ⟨gb236, 1, none⟩) aP35 (.string ((rd_T60 l0 x11_1).f1))).trans hx238_0; replace hx238_0 := (cell_far (p := ⟨gb236, 2, none⟩) aP36 (.string ((rd_T60 l0 x11_1).f2))).trans hx238_0; clear hn238_0; clear hn238_1; clear hn238_2; replace p238 := eq_true p238; replace q238 := eq_true q238)
  go_roundg k1
  case measure => have := HK1.out; omega
  case rel => exact ⟨(x5_1), (wrap64 (x6_1 + (wrap64 (((rd_T60 l0 x11_1).f0) + (((rd_T60 l0 x11_1).f2).size : Int))))), (wrap64 (x11_1 + 1)), aP19, aP19, aP19, H', ⟨by have := HK1.out; omega⟩, ⟨aP10⟩⟩
-- import Mk
section
open Go.Proofs.Ytoagljlnfakgjaa.Mk
def toP (x : S60) : Pt := (x.f0, x.f1, x.f2)
def ofP (p : Pt) : S60 := ⟨p.1, p.2.1, p.2.2⟩
def takeP (s : List Pt × ByteArray × ByteArray) (p : Pt) : List Pt × ByteArray × ByteArray := ((keepS s.1 s.2.1 s.2.2 p.1).1, (keepS s.1 s.2.1 s.2.2 p.1).2.1 ++ p.2.1, (keepS s.1 s.2.1 s.2.2 p.1).2.2 ++ p.2.2)
def normP (l : List Pt) : List Pt := (l.foldl takeP ([], ⟨#[]⟩, ⟨#[]⟩)).1 ++ endL (l.foldl takeP ([], ⟨#[]⟩, ⟨#[]⟩)).2.1 (l.foldl takeP ([], ⟨#[]⟩, ⟨#[]⟩)).2.2
theorem R_of_cells {w : World} {base : Nat} {v : Value} {l : List Pt} (h : w.ownsRow base 60 3 v l.length (cellsP l)) :
  Kd.R k60 60 w base (fun _ => True) v (l.map ofP) := by
 refine ⟨fun _ _ => trivial, cellsP l, by rw [List.length_map]; exact h, ?_⟩
 clear h
 induction l with
 | nil => exact Reps.none _ _
 | cons p r ih =>
  have h1 := Reps.snoc (R := k60.M w base fun k => (fun x => True) k ∧ some k ≠ v.ownBlock) (Reps.none _ 3) (k60_mkM w base _ (ofP p)) rfl
  exact Kd.reps_append h1 ih
def yN.f (l0 : List S60) : Option (List S60) :=
 if l0.length ≤ 60 ∧ (l0.all fun x => decide (x.f1.size ≤ 300 ∧ x.f2.size ≤ 300)) = true then some ((normP (l0.map toP)).map ofP) else none
def stN (l : List S60) (i : Nat) : List Pt × ByteArray × ByteArray := ((l.take i).map toP).foldl takeP ([], ⟨#[]⟩, ⟨#[]⟩)
theorem stN_succ (l : List S60) (i : Nat) (h : i < l.length) : stN l (i + 1) = takeP (stN l i) (toP l[i]) := by
 unfold stN; rw [List.take_succ_eq_append_getElem h, List.map_append, List.foldl_append]; rfl
theorem keepS_len (l : List Pt) (a b : ByteArray) (x : Int) : (keepS l a b x).1.length ≤ l.length + 3 := by
 have he : (endL a b).length ≤ 2 := by unfold endL; rw [List.length_append]; split <;> split <;> simp
 unfold keepS; split
 ·show l.length ≤ _; omega
 show (keepA (l ++ endL a b) x).length ≤ _
 unfold keepA
 split
 rotate_left
 ·simp
 split
 rotate_left
 ·rw [List.length_append, List.length_append]; simp; omega
 rw [List.length_append, List.length_dropLast, List.length_append]; simp; omega
theorem keepS_put (l : List Pt) (a b : ByteArray) (x : Int) : (keepS l a b x).2.1.size ≤ a.size ∧ (keepS l a b x).2.2.size ≤ b.size := by
 unfold keepS; split
 ·exact ⟨Nat.le_refl _, Nat.le_refl _⟩
 exact ⟨Nat.zero_le _, Nat.zero_le _⟩
theorem stN_bound (l : List S60) (hs : ∀ x ∈ l, x.f1.size ≤ 300 ∧ x.f2.size ≤ 300) : ∀ i, i ≤ l.length → (stN l i).1.length ≤ 3 * i ∧ (stN l i).2.1.size ≤ 300 * i ∧ (stN l i).2.2.size ≤ 300 * i
 | 0, _ => ⟨Nat.le_refl _, Nat.le_refl _, Nat.le_refl _⟩
 | i + 1, h => by
  obtain ⟨h1, h2, h3⟩ := stN_bound l hs i (by omega)
  have hx := hs _ (List.getElem_mem (show i < l.length by omega))
  rw [stN_succ l i (by omega)]
  have k1 := keepS_len (stN l i).1 (stN l i).2.1 (stN l i).2.2 (l[i]'(by omega)).f0
  have k2 := keepS_put (stN l i).1 (stN l i).2.1 (stN l i).2.2 (l[i]'(by omega)).f0
  refine ⟨Nat.le_trans k1 (by omega), ?_, ?_⟩
  ·show ((keepS (stN l i).1 (stN l i).2.1 (stN l i).2.2 (l[i]'(by omega)).f0).2.1 ++ (l[i]'(by omega)).f1).size ≤ _
   rw [ByteArray.size_append]; have := k2.1; have := hx.1; omega
  ·show ((keepS (stN l i).1 (stN l i).2.1 (stN l i).2.2 (l[i]'(by omega)).f0).2.2 ++ (l[i]'(by omega)).f2).size ≤ _
   rw [ByteArray.size_append]; have := k2.2; have := hx.2; omega
theorem far_set {w0 w : World} {base g b i : Nat} {l : List Pt} {put drop : ByteArray} {v : Value} (h : IsMk w0 w base g l put drop v) (hb : base ≤ b) (hne : g ≠ b) (hv : v.ownBlock ≠ some b) (u : Value) : IsMk w0 (w.setCell ⟨b, i, none⟩ u) base g l put drop v :=
 ⟨blk_far h.blk hne u, own_set h.own hv i u, h.far, h.bel.setCell (p := ⟨b, i, none⟩) hb u, Nat.le_trans h.siz (size_set w b i u)⟩
theorem mk_init {w w1 : World} {g : Nat} (hg : g = w.heap.size) (hb : Below w.heap.size w w1) (h : w1.heap[g]? = some (.cells #[.slice none 0 0, .string ⟨#[]⟩, .string ⟨#[]⟩] 70 (0, 0))) : IsMk w w1 w.heap.size g [] ⟨#[]⟩ ⟨#[]⟩ (.slice none 0 0) :=
 ⟨h, own_nil _ _ _ _, by simp [Value.ownBlock], hb, hb.size⟩
theorem yN.calls (A0 : Option Addr) (c0 : Nat) (l0 : List S60) (r : List S60) (w : World) (hr0 : Kd.C k60 w A0 l0.length l0) (hc0 : l0.length ≤ c0) (h : yN.f l0 = some r) :
  Calls Try.prog 43 #[.slice A0 l0.length c0] w fun e w' => ∃ v0_ : Value, e = .returned v0_ ∧ Kd.R k60 60 w' w.heap.size (fun _ => True) v0_ r ∧ Below w.heap.size w w' := by
 have hu53 := Try.underlying60
 have hu74 := Try.underlying70
 unfold yN.f at h
 split at h
 rotate_left
 ·cases h
 rename_i hgd
 obtain rfl := Option.some.inj h
 have HR0 := aM hr0
 have HC0 := aM hc0
 have HG := aM hgd
 clear hr0 hc0 h hgd
 go_enter Try.func43, Try.ntmps43
 go_wp2_with ((with_reducible refine gate_dst (N := 3) rfl ?_); refine box_event rfl (N := 3) rfl (cs := #[.slice none 0 0, .string ⟨#[]⟩, .string ⟨#[]⟩]) (t := 70) aP38 ?_; intro gb hgb w4 hbox hb; have HI := aM (mk_init hgb hb hbox); have GB := aM hgb; clear hbox hb hgb)
 go_loopw [8] (fun v8 wr => ∃ i : Nat, v8 = .int .i64 (i : Int) ∧ Aside0 (i ≤ l0.length) ∧ ∃ v, Aside0 (IsMk w wr w.heap.size gb (stN l0 i).1 (stN l0 i).2.1 (stN l0 i).2.2 v)) (fun i _ => l0.length - (match i with | .int _ n => n.toNat | _ => 0))
 case atStart => exact ⟨0, rfl, ⟨Nat.zero_le _⟩, _, HI⟩
 case round =>
  obtain ⟨i, rfl, Hi, v, HM⟩ := hrel
  clear HI
  by_cases hlt : i < l0.length
  rotate_left
  ·have c3b0 : decide ((i : Int) < (l0.length : Int)) = false := decide_eq_false (by omega)
   have c3b1 : decide (i < l0.length) = false := decide_eq_false hlt
   have hi : i = l0.length := by have := Hi.out; omega
   have hss : ∀ x ∈ l0, x.f1.size ≤ 300 ∧ x.f2.size ≤ 300 := fun x hx => of_decide_eq_true (List.all_eq_true.1 HG.out.2 x hx)
   have hb1 : (stN l0 i).1.length ≤ 1000 := by have := (stN_bound l0 hss i Hi.out).1; have := HG.out.1; omega
   clear hss
   have HH := aM hi
   clear hi hlt
   have hmd := maker_made w.heap.size gb v (stN l0 i).1 (stN l0 i).2.1 (stN l0 i).2.2 _ _ HM.out (Nat.le_of_eq GB.out.symm) hb1
   go_wp2_with fail
   refine hmd.mono ?_
   rintro e w6 ⟨v6, rfl, h6⟩
   have HM6 := aM h6
   clear h6
   go_wp2_with fail
   go_ret
   refine ⟨_, rfl, ?_, HM6.out.bel⟩
   have hR := R_of_cells HM6.out.own
   have e : stN l0 i = (l0.map toP).foldl takeP ([], ⟨#[]⟩, ⟨#[]⟩) := by unfold stN; rw [HH.out, List.take_of_length_le (Nat.le_refl _)]
   rw [e] at hR
   exact hR
  have c3b0 : decide ((i : Int) < (l0.length : Int)) = true := decide_eq_true (by omega)
  have p3 : (0 : Int) ≤ (i : Int) := by omega
  have q3 : (i : Int) < (l0.length : Int) := by omega
  obtain ⟨ad, e3, hx0, hx1, hx2⟩ := at_T60 HR0.out (i : Int) p3 q3
  cases e3
  have HX0 := (HM.out.bel.cell (World.block_lt_of_cell? w _ hx0)).trans hx0
  have HX1 := (HM.out.bel.cell (World.block_lt_of_cell? w _ hx1)).trans hx1
  have HX2 := (HM.out.bel.cell (World.block_lt_of_cell? w _ hx2)).trans hx2
  clear hx0 hx1 hx2
  simp only [Int.toNat_natCast] at HX0 HX1 HX2
  have HLT := aM hlt
  have hss : ∀ x ∈ l0, x.f1.size ≤ 300 ∧ x.f2.size ≤ 300 := fun x hx => of_decide_eq_true (List.all_eq_true.1 HG.out.2 x hx)
  have hl60 := HG.out.1
  obtain ⟨u1, u2, u3⟩ := stN_bound l0 hss i (by omega)
  have hgt : rd_T60 l0 (i : Int) = l0[i] := by
   show l0.getD _ _ = _
   simp [List.getD_eq_getElem?_getD, hlt]
  have hsi := hss _ (List.getElem_mem hlt)
  have hb1 : (stN l0 i).1.length ≤ 900 := by omega
  have hb2 : (stN l0 i).2.1.size + (l0[i]).f1.size ≤ 4611686018427387904 := by omega
  have hb3 : (stN l0 i).2.2.size + (l0[i]).f2.size ≤ 4611686018427387904 := by omega
  clear hss u1 u2 u3 hsi
  go_wp2_with ((with_reducible refine gate_dst (N := 5) rfl ?_); refine box_event rfl (N := 5) rfl (cs := #[.int .i64 0, .string ⟨#[]⟩, .string ⟨#[]⟩]) (t := 60) aP38 ?_; intro gp hgp w5 hbox hb; have HM5 := aM (HM.out.below hb); have GP := aM hgp; have BX := aM hbox; obtain ⟨y0, y1, y2, f0, f1, f2⟩ := bx3 hbox; have g1 := aM (show w.heap.size ≤ gp by rw [hgp]; exact HM.out.siz); have g2 := aM (show gb ≠ gp by rw [hgp]; exact Nat.ne_of_lt (blk_lt HM.out.blk)); have g3 := aM (show v.ownBlock ≠ some gp from fun e => absurd (own_lt HM.out.own gp e) (by rw [hgp]; exact Nat.lt_irrefl _)); clear hb hgp hbox)
  have htk := far_set (far_set (far_set HM5.out g1.out g2.out g3.out (i := 0) (.int .i64 (l0[i]).f0)) g1.out g2.out g3.out (i := 1) (.string (l0[i]).f1)) g1.out g2.out g3.out (i := 2) (.string (l0[i]).f2)
  refine (maker_take w.heap.size gb v (stN l0 i).1 (stN l0 i).2.1 (stN l0 i).2.2 (l0[i]).f0 (l0[i]).f1 (l0[i]).f2 w _ htk (Nat.le_of_eq GB.out.symm) hb1 hb2 hb3).mono ?_
  rintro e w6 ⟨rfl, v6, h6⟩
  have HM6 := aM h6
  clear h6
  go_wp2_with fail
  have hl' := HLT.out
  have hl6 := HG.out.1
  go_roundw
  case rel =>
   refine ⟨i + 1, ?_, ⟨by omega⟩, v6, ⟨?_⟩⟩
   rotate_left
   ·rw [stN_succ l0 i hl']; exact HM6.out
   first | rfl | (simp; done) | (congr 1; unfold wrap64; omega)
  case measure => simp; omega
end
end Go.Proofs.Ytoagljlnfakgjaa.PFnDiamond
