/- (thin) Written by a program of this session (wip/ovl.py) over the kit's print. -/
import Derived.Test.YtoagljlnfakgjaaPFnDiamondx0
import Derived.Test.YtoagljlnfakgjaaPFnDiamondx3
import Derived.Test.YtoagljlnfakgjaaPFnDiamondx5
import Derived.Test.YtoagljlnfakgjaaPFnDiamondx8
import Derived.Test.YtoagljlnfakgjaaPFnDiamondx9
import Derived.Test.YtoagljlnfakgjaaPFnDiamondx10
import Derived.Test.YtoagljlnfakgjaaPFnDiamondx12
import Derived.Test.YtoagljlnfakgjaaPFnDiamondx16
import Derived.Test.YtoagljlnfakgjaaPFnDiamondx17
import Derived.Test.YtoagljlnfakgjaaPFnDiamondx18
namespace Go.Proofs.Ytoagljlnfakgjaa.PFnDiamond
open Go.RowKit Go.Proofs.YtoagljlnfakgjaaW.PrintWords Go.Proofs.YtoagljlnfakgjaaW.PrintLast Go.Proofs.YtoagljlnfakgjaaW.PrintMore
attribute [local go_sem] max2_int min2_int max_two min_two max_three min_three max_four min_four
set_option linter.unusedVariables false
set_option linter.unusedSimpArgs false
mutual
def lZ.j0 : Nat → List S60 → List S60 → List S60 → List S60 → Bool → Bool → Bool → Int → Bool → Option (Bool)
 | 0, _, _, _, _, _, _, _, _, _ => none
 | k + 1, x3, x4, x5, x6, x7, x11, x12, x15, x115 => if x115 = true then (some false) else (if x7 = true then ((jG.f k x4 x3).bind fun bt488 => ((yF.f k x3 x6).bind fun bt490 => ((yF.f k x4 x5).bind fun bt494 => (if x11 = true then (if x12 = true then (if bt488.2 = true then (lZ.j1 k x3 x4 x5 x6 bt490.1 bt490.2 bt494.1 bt494.2 (bt488.1 != x15)) else (lZ.j1 k x3 x4 x5 x6 bt490.1 bt490.2 bt494.1 bt494.2 true)) else (lZ.j1 k x3 x4 x5 x6 bt490.1 bt490.2 bt494.1 bt494.2 true)) else (lZ.j1 k x3 x4 x5 x6 bt490.1 bt490.2 bt494.1 bt494.2 true))))) else (if (x5.length : Int) = 0 then (some ((x6.length : Int) == 0)) else (some false)))
def lZ.j1 : Nat → List S60 → List S60 → List S60 → List S60 → List S60 → Bool → List S60 → Bool → Bool → Option (Bool)
 | 0, _, _, _, _, _, _, _, _, _ => none
 | k + 1, x3, x4, x5, x6, x21, x22, x23, x24, x158 => if x158 = true then (some false) else (lZ.l0 k x3 x4 x5 x6 x21 x22 x23 x24 (⟨#[]⟩ : ByteArray) 0)
def lZ.l0 : Nat → List S60 → List S60 → List S60 → List S60 → List S60 → Bool → List S60 → Bool → ByteArray → Int → Option (Bool)
 | 0, _, _, _, _, _, _, _, _, _, _ => none
 | k + 1, x3, x4, x5, x6, x21, x22, x23, x24, x25, x26 => if x26 < 1 then ((yW.f x3 x4).bind fun t498 => (lZ.l0 k x3 x4 x5 x6 x21 x22 x23 x24 t498 (wrap64 (x26 + 1)))) else ((jK.f k x3 x25).bind fun bt499 => ((jK.f k x4 x25).bind fun bt501 => (if bt499.2 = true then (lZ.j3 k x5 x6 x21 x22 x23 x24 bt499.1 bt501.1 (!bt501.2)) else (lZ.j3 k x5 x6 x21 x22 x23 x24 bt499.1 bt501.1 true))))
def lZ.j3 : Nat → List S60 → List S60 → List S60 → Bool → List S60 → Bool → ByteArray → ByteArray → Bool → Option (Bool)
 | 0, _, _, _, _, _, _, _, _, _ => none
 | k + 1, x5, x6, x21, x22, x23, x24, x27, x29, x183 => if x183 = true then (some true) else ((jK.f k x6 x27).bind fun bt503 => ((jK.f k x5 x29).bind fun bt505 => (if (bt503.2 == bt505.2) = true then (if bt503.1.toList = bt505.1.toList then (if x22 = true then (if x24 = true then ((jQ.f k x21 x23).bind fun t507 => (some t507)) else (some true)) else (some true)) else (some false)) else (some false))))
end
def lZ.f (k : Nat) (l0 : List Int) : Option (Bool) := if (l0.length : Int) > 1048576 then (some true) else ((jZ.f k l0).bind fun bt458 => ((yD.f k bt458.1 bt458.2).bind fun bt464 => ((jP.f k bt458.1 bt458.2).bind fun bt471 => ((jF.f k bt458.1 bt458.2).bind fun bt478 => ((yI.f k bt458.1 bt458.2).bind fun bt480 => ((jG.f k bt458.1 bt458.2).bind fun bt482 => ((jC.f k bt458.1 bt458.2).bind fun bt484 => (if (bt464.2.2 != bt471.2.2) = true then (lZ.j0 k bt458.1 bt458.2 bt464.1 bt464.2.1 bt464.2.2 bt478.1 bt478.2 bt482.1 true) else ((jQ.f k bt464.1 bt471.1).bind fun t486 => (if t486 = true then ((jQ.f k bt464.2.1 bt471.2.1).bind fun t487 => (if t487 = true then (if (bt478.1 != bt480.1) = true then (lZ.j0 k bt458.1 bt458.2 bt464.1 bt464.2.1 bt464.2.2 bt478.1 bt478.2 bt482.1 true) else (if (bt478.2 != bt480.2) = true then (lZ.j0 k bt458.1 bt458.2 bt464.1 bt464.2.1 bt464.2.2 bt478.1 bt478.2 bt482.1 true) else (if (bt482.2 != bt484.2) = true then (lZ.j0 k bt458.1 bt458.2 bt464.1 bt464.2.1 bt464.2.2 bt478.1 bt478.2 bt482.1 true) else (lZ.j0 k bt458.1 bt458.2 bt464.1 bt464.2.1 bt464.2.2 bt478.1 bt478.2 bt482.1 (bt482.1 != bt484.1))))) else (lZ.j0 k bt458.1 bt458.2 bt464.1 bt464.2.1 bt464.2.2 bt478.1 bt478.2 bt482.1 true))) else (lZ.j0 k bt458.1 bt458.2 bt464.1 bt464.2.1 bt464.2.2 bt478.1 bt478.2 bt482.1 true)))))))))))
theorem lZ.mono_l : ∀ k, (∀ y0 y1 y2 y3 y4 y5 y6 y7 y8, LeO (lZ.j0 k y0 y1 y2 y3 y4 y5 y6 y7 y8) (lZ.j0 (k + 1) y0 y1 y2 y3 y4 y5 y6 y7 y8)) ∧ (∀ y0 y1 y2 y3 y4 y5 y6 y7 y8, LeO (lZ.j1 k y0 y1 y2 y3 y4 y5 y6 y7 y8) (lZ.j1 (k + 1) y0 y1 y2 y3 y4 y5 y6 y7 y8)) ∧ (∀ y0 y1 y2 y3 y4 y5 y6 y7 y8 y9, LeO (lZ.l0 k y0 y1 y2 y3 y4 y5 y6 y7 y8 y9) (lZ.l0 (k + 1) y0 y1 y2 y3 y4 y5 y6 y7 y8 y9)) ∧ (∀ y0 y1 y2 y3 y4 y5 y6 y7 y8, LeO (lZ.j3 k y0 y1 y2 y3 y4 y5 y6 y7 y8) (lZ.j3 (k + 1) y0 y1 y2 y3 y4 y5 y6 y7 y8))
 | 0 => ⟨fun _ _ _ _ _ _ _ _ _ r h => by simp [lZ.j0] at h, fun _ _ _ _ _ _ _ _ _ r h => by simp [lZ.j1] at h, fun _ _ _ _ _ _ _ _ _ _ r h => by simp [lZ.l0] at h, fun _ _ _ _ _ _ _ _ _ r h => by simp [lZ.j3] at h⟩
 | k + 1 => by
  obtain ⟨ih0, ih1, ih2, ih3⟩ := lZ.mono_l k
  refine ⟨?_, ?_, ?_, ?_⟩
  ·intro y0 y1 y2 y3 y4 y5 y6 y7 y8
   unfold lZ.j0
   repeat' (with_reducible first | apply ih0 | apply ih1 | apply ih2 | apply ih3 | apply jK.mono | apply jG.mono | apply yF.mono | apply jF.mono | apply yD.mono | apply jQ.mono | apply jC.mono | apply jZ.mono | apply yI.mono | apply jP.mono | apply LeO.refl | apply LeO.none | apply LeO.ite | refine LeO.bind ?_ fun _ => ?_)
  ·intro y0 y1 y2 y3 y4 y5 y6 y7 y8
   unfold lZ.j1
   repeat' (with_reducible first | apply ih0 | apply ih1 | apply ih2 | apply ih3 | apply jK.mono | apply jG.mono | apply yF.mono | apply jF.mono | apply yD.mono | apply jQ.mono | apply jC.mono | apply jZ.mono | apply yI.mono | apply jP.mono | apply LeO.refl | apply LeO.none | apply LeO.ite | refine LeO.bind ?_ fun _ => ?_)
  ·intro y0 y1 y2 y3 y4 y5 y6 y7 y8 y9
   unfold lZ.l0
   repeat' (with_reducible first | apply ih0 | apply ih1 | apply ih2 | apply ih3 | apply jK.mono | apply jG.mono | apply yF.mono | apply jF.mono | apply yD.mono | apply jQ.mono | apply jC.mono | apply jZ.mono | apply yI.mono | apply jP.mono | apply LeO.refl | apply LeO.none | apply LeO.ite | refine LeO.bind ?_ fun _ => ?_)
  ·intro y0 y1 y2 y3 y4 y5 y6 y7 y8
   unfold lZ.j3
   repeat' (with_reducible first | apply ih0 | apply ih1 | apply ih2 | apply ih3 | apply jK.mono | apply jG.mono | apply yF.mono | apply jF.mono | apply yD.mono | apply jQ.mono | apply jC.mono | apply jZ.mono | apply yI.mono | apply jP.mono | apply LeO.refl | apply LeO.none | apply LeO.ite | refine LeO.bind ?_ fun _ => ?_)
theorem lZ.mono : ∀ a0 k, LeO (lZ.f k a0) (lZ.f (k + 1) a0) := by
 intro a0 k
 obtain ⟨ih0, ih1, ih2, ih3⟩ := lZ.mono_l k
 unfold lZ.f
 repeat' (with_reducible first | apply ih0 | apply ih1 | apply ih2 | apply ih3 | apply jK.mono | apply jG.mono | apply yF.mono | apply jF.mono | apply yD.mono | apply jQ.mono | apply jC.mono | apply jZ.mono | apply yI.mono | apply jP.mono | apply LeO.refl | apply LeO.none | apply LeO.ite | refine LeO.bind ?_ fun _ => ?_)
set_option maxHeartbeats 8000000 in
set_option maxRecDepth 100000 in
theorem lZ.calls (k : Nat) (A0 : Option Addr) (c0 : Nat) (l0 : List Int) (r : Bool) (hr_ : r = true) (w : World) (hr0 : Kd.C (Kd.int .u8) w A0 l0.length l0) (hc0 : l0.length ≤ c0) (h : lZ.f k l0 = some r) :
  Calls Try.prog 7 #[.slice A0 l0.length c0] w fun e w' => e = .returned (.bool r) ∧ Below w.heap.size w w' := by
 have hrt_ := aM hr_
 clear hr_
 have HR0 := aM hr0
 have HC0 := aM hc0
 clear hr0 hc0
 have HB := aM (Below.refl w.heap.size w)
 have H : (if (l0.length : Int) > 1048576 then (some true) else ((jZ.f k l0).bind fun bt458 => ((yD.f k bt458.1 bt458.2).bind fun bt464 => ((jP.f k bt458.1 bt458.2).bind fun bt471 => ((jF.f k bt458.1 bt458.2).bind fun bt478 => ((yI.f k bt458.1 bt458.2).bind fun bt480 => ((jG.f k bt458.1 bt458.2).bind fun bt482 => ((jC.f k bt458.1 bt458.2).bind fun bt484 => (if (bt464.2.2 != bt471.2.2) = true then (lZ.j0 k bt458.1 bt458.2 bt464.1 bt464.2.1 bt464.2.2 bt478.1 bt478.2 bt482.1 true) else ((jQ.f k bt464.1 bt471.1).bind fun t486 => (if t486 = true then ((jQ.f k bt464.2.1 bt471.2.1).bind fun t487 => (if t487 = true then (if (bt478.1 != bt480.1) = true then (lZ.j0 k bt458.1 bt458.2 bt464.1 bt464.2.1 bt464.2.2 bt478.1 bt478.2 bt482.1 true) else (if (bt478.2 != bt480.2) = true then (lZ.j0 k bt458.1 bt458.2 bt464.1 bt464.2.1 bt464.2.2 bt478.1 bt478.2 bt482.1 true) else (if (bt482.2 != bt484.2) = true then (lZ.j0 k bt458.1 bt458.2 bt464.1 bt464.2.1 bt464.2.2 bt478.1 bt478.2 bt482.1 true) else (lZ.j0 k bt458.1 bt458.2 bt464.1 bt464.2.1 bt464.2.2 bt478.1 bt478.2 bt482.1 (bt482.1 != bt484.1))))) else (lZ.j0 k bt458.1 bt458.2 bt464.1 bt464.2.1 bt464.2.2 bt478.1 bt478.2 bt482.1 true))) else (lZ.j0 k bt458.1 bt458.2 bt464.1 bt464.2.1 bt464.2.2 bt478.1 bt478.2 bt482.1 true)))))))))))) = some r := h
 clear h
 by_cases c2 : (l0.length : Int) > 1048576
 ·rw [if_pos c2] at H
  have c2b0 : decide (1048576 < (l0.length : Int)) = true := decide_eq_true c2
  have c2b1 : decide (1048576 < l0.length) = true := decide_eq_true (by omega)
  clear c2
  obtain rfl := Option.some.inj H
  go_enter Try.func7, Try.ntmps7
  go_wp2
  go_ret
  exact ⟨eR, bB⟩
 rw [if_neg c2] at H
 have c2b0 : decide (1048576 < (l0.length : Int)) = false := decide_eq_false c2
 have c2b1 : decide (1048576 < l0.length) = false := decide_eq_false (by omega)
 clear c2
 obtain ⟨⟨t458, t459⟩, A3, H⟩ := bM H
 obtain ⟨⟨t464, t465, t466⟩, A4, H⟩ := bM H
 obtain ⟨⟨t471, t472, t473⟩, A5, H⟩ := bM H
 obtain ⟨⟨t478, t479⟩, A6, H⟩ := bM H
 obtain ⟨⟨t480, t481⟩, A7, H⟩ := bM H
 obtain ⟨⟨t482, t483⟩, A8, H⟩ := bM H
 obtain ⟨⟨t484, t485⟩, A9, H⟩ := bM H
 have HC10 := aM H
 clear H
 go_enter Try.func7, Try.ntmps7
 go_upto_region 10 with (first | ((with_reducible refine gate_callee (f := 26) rfl ?_); refine gL 40 Try.func26 #[.slice A0 l0.length c0] ?_; (with_reducible refine (jZ.calls k _ _ l0 t458 t459 _ ?s1 ?s2 A3.out).mono ?_); (case s1 => exact cC HR0.out); (case s2 => exact HC0.out); rintro e w11 ⟨v460, v462, rfl, ho0, ho1, hb⟩; refine ⟨_, rfl, ?_⟩; have HO461 := aM (Kd.R_lower ho0 (below_size bB)); have HO463 := aM (Kd.R_lower ho1 (below_size bB)); replace HB := aM (below_step bB hb); clear hb ho0 ho1; obtain ⟨Ao12, co12, eo12⟩ := Kd.R_slice HO461.out; subst eo12; obtain ⟨Ao13, co13, eo13⟩ := Kd.R_slice HO463.out; subst eo13) | ((with_reducible refine gate_callee (f := 17) rfl ?_); refine gL 46 Try.func17 #[.slice Ao12 t458.length co12, .slice Ao13 t459.length co13] ?_; (with_reducible refine (yD.calls k _ _ t458 _ _ t459 t464 t465 t466 _ ?s1 ?s2 ?s3 ?s4 A4.out).mono ?_); (case s1 => exact cC ((Kd.R_reads' HO461.out).2.2)); (case s2 => exact (Kd.R_reads' HO461.out).2.1); (case s3 => exact cC ((Kd.R_reads' HO463.out).2.2)); (case s4 => exact (Kd.R_reads' HO463.out).2.1); rintro e w14 ⟨v467, v469, rfl, ho0, ho1, hb⟩; refine ⟨_, rfl, ?_⟩; have HO468 := aM (Kd.R_lower (Kd.R_new' (Kd.R_new' ho0 (Kd.R_lt (rR HO461.out))) (Kd.R_lt (rR HO463.out))) (below_size bB)); have HO470 := aM (Kd.R_lower (Kd.R_new' (Kd.R_new' ho1 (Kd.R_lt (rR HO461.out))) (Kd.R_lt (rR HO463.out))) (below_size bB)); replace HO461 := aM (Kd.R_mono (Kd.R_told (Kd.R_told (Kd.R_old (rR HO461.out) hb) (Kd.R_base ho0)) (Kd.R_base ho1)) (fun _ h_ => h_.1)); replace HO463 := aM (Kd.R_mono (Kd.R_told (Kd.R_told (Kd.R_old (rR HO463.out) hb) (Kd.R_base ho0)) (Kd.R_base ho1)) (fun _ h_ => h_.1)); replace HB := aM (below_step bB hb); clear hb ho0 ho1) | ((with_reducible refine gate_callee (f := 16) rfl ?_); refine gL 53 Try.func16 #[.slice Ao12 t458.length co12, .slice Ao13 t459.length co13] ?_; (with_reducible refine (jP.calls k _ _ t458 _ _ t459 t471 t472 t473 _ ?s1 ?s2 ?s3 ?s4 A5.out).mono ?_); (case s1 => exact cC ((Kd.R_reads' HO461.out).2.2)); (case s2 => exact (Kd.R_reads' HO461.out).2.1); (case s3 => exact cC ((Kd.R_reads' HO463.out).2.2)); (case s4 => exact (Kd.R_reads' HO463.out).2.1); rintro e w15 ⟨v474, v476, rfl, ho0, ho1, hb⟩; refine ⟨_, rfl, ?_⟩; have HO475 := aM (Kd.R_lower (Kd.R_new' (Kd.R_new' (Kd.R_new' (Kd.R_new' ho0 (Kd.R_lt (rR HO461.out))) (Kd.R_lt (rR HO463.out))) (Kd.R_lt (rR HO468.out))) (Kd.R_lt (rR HO470.out))) (below_size bB)); have HO477 := aM (Kd.R_lower (Kd.R_new' (Kd.R_new' (Kd.R_new' (Kd.R_new' ho1 (Kd.R_lt (rR HO461.out))) (Kd.R_lt (rR HO463.out))) (Kd.R_lt (rR HO468.out))) (Kd.R_lt (rR HO470.out))) (below_size bB)); replace HO461 := aM (Kd.R_mono (Kd.R_told (Kd.R_told (Kd.R_old (rR HO461.out) hb) (Kd.R_base ho0)) (Kd.R_base ho1)) (fun _ h_ => h_.1)); replace HO463 := aM (Kd.R_mono (Kd.R_told (Kd.R_told (Kd.R_old (rR HO463.out) hb) (Kd.R_base ho0)) (Kd.R_base ho1)) (fun _ h_ => h_.1)); replace HO468 := aM (Kd.R_mono (Kd.R_told (Kd.R_told (Kd.R_old (rR HO468.out) hb) (Kd.R_base ho0)) (Kd.R_base ho1)) (fun _ h_ => h_.1)); replace HO470 := aM (Kd.R_mono (Kd.R_told (Kd.R_told (Kd.R_old (rR HO470.out) hb) (Kd.R_base ho0)) (Kd.R_base ho1)) (fun _ h_ => h_.1)); replace HB := aM (below_step bB hb); clear hb ho0 ho1) | ((with_reducible refine gate_callee (f := 12) rfl ?_); refine gL 60 Try.func12 #[.slice Ao12 t458.length co12, .slice Ao13 t459.length co13] ?_; (with_reducible refine (jF.calls k _ _ t458 _ _ t459 t478 t479 _ ?s1 ?s2 ?s3 ?s4 A6.out).mono ?_); (case s1 => exact cC ((Kd.R_reads' HO461.out).2.2)); (case s2 => exact (Kd.R_reads' HO461.out).2.1); (case s3 => exact cC ((Kd.R_reads' HO463.out).2.2)); (case s4 => exact (Kd.R_reads' HO463.out).2.1); rintro e w16 ⟨rfl, hb⟩; refine ⟨_, rfl, ?_⟩; replace HO461 := aM (Kd.R_below (rR HO461.out) hb); replace HO463 := aM (Kd.R_below (rR HO463.out) hb); replace HO468 := aM (Kd.R_below (rR HO468.out) hb); replace HO470 := aM (Kd.R_below (rR HO470.out) hb); replace HO475 := aM (Kd.R_below (rR HO475.out) hb); replace HO477 := aM (Kd.R_below (rR HO477.out) hb); replace HB := aM (below_step bB hb); clear hb) | ((with_reducible refine gate_callee (f := 10) rfl ?_); refine gL 66 Try.func10 #[.slice Ao12 t458.length co12, .slice Ao13 t459.length co13] ?_; (with_reducible refine (yI.calls k _ _ t458 _ _ t459 t480 t481 _ ?s1 ?s2 ?s3 ?s4 A7.out).mono ?_); (case s1 => exact cC ((Kd.R_reads' HO461.out).2.2)); (case s2 => exact (Kd.R_reads' HO461.out).2.1); (case s3 => exact cC ((Kd.R_reads' HO463.out).2.2)); (case s4 => exact (Kd.R_reads' HO463.out).2.1); rintro e w17 ⟨rfl, hb⟩; refine ⟨_, rfl, ?_⟩; replace HO461 := aM (Kd.R_below (rR HO461.out) hb); replace HO463 := aM (Kd.R_below (rR HO463.out) hb); replace HO468 := aM (Kd.R_below (rR HO468.out) hb); replace HO470 := aM (Kd.R_below (rR HO470.out) hb); replace HO475 := aM (Kd.R_below (rR HO475.out) hb); replace HO477 := aM (Kd.R_below (rR HO477.out) hb); replace HB := aM (below_step bB hb); clear hb) | ((with_reducible refine gate_callee (f := 15) rfl ?_); refine gL 72 Try.func15 #[.slice Ao12 t458.length co12, .slice Ao13 t459.length co13] ?_; (with_reducible refine (jG.calls k _ _ t458 _ _ t459 t482 t483 _ ?s1 ?s2 ?s3 ?s4 A8.out).mono ?_); (case s1 => exact cC ((Kd.R_reads' HO461.out).2.2)); (case s2 => exact (Kd.R_reads' HO461.out).2.1); (case s3 => exact cC ((Kd.R_reads' HO463.out).2.2)); (case s4 => exact (Kd.R_reads' HO463.out).2.1); rintro e w18 ⟨rfl, hb⟩; refine ⟨_, rfl, ?_⟩; replace HO461 := aM (Kd.R_below (rR HO461.out) hb); replace HO463 := aM (Kd.R_below (rR HO463.out) hb); replace HO468 := aM (Kd.R_below (rR HO468.out) hb); replace HO470 := aM (Kd.R_below (rR HO470.out) hb); replace HO475 := aM (Kd.R_below (rR HO475.out) hb); replace HO477 := aM (Kd.R_below (rR HO477.out) hb); replace HB := aM (below_step bB hb); clear hb) | ((with_reducible refine gate_callee (f := 14) rfl ?_); refine gL 78 Try.func14 #[.slice Ao12 t458.length co12, .slice Ao13 t459.length co13] ?_; (with_reducible refine (jC.calls k _ _ t458 _ _ t459 t484 t485 _ ?s1 ?s2 ?s3 ?s4 A9.out).mono ?_); (case s1 => exact cC ((Kd.R_reads' HO461.out).2.2)); (case s2 => exact (Kd.R_reads' HO461.out).2.1); (case s3 => exact cC ((Kd.R_reads' HO463.out).2.2)); (case s4 => exact (Kd.R_reads' HO463.out).2.1); rintro e w19 ⟨rfl, hb⟩; refine ⟨_, rfl, ?_⟩; replace HO461 := aM (Kd.R_below (rR HO461.out) hb); replace HO463 := aM (Kd.R_below (rR HO463.out) hb); replace HO468 := aM (Kd.R_below (rR HO468.out) hb); replace HO470 := aM (Kd.R_below (rR HO470.out) hb); replace HO475 := aM (Kd.R_below (rR HO475.out) hb); replace HO477 := aM (Kd.R_below (rR HO477.out) hb); replace HB := aM (below_step bB hb); clear hb))
 (try simp only [Act.put, List.setIfInBounds_toArray, List.set_cons_zero, List.set_cons_succ])
 go_cut [115] (fun v115 wc => ∃ (kq : Nat) (x115_9 : Bool), v115 = .bool x115_9 ∧ Aside0 (lZ.j0 kq t458 t459 t464 t465 t466 t478 t479 t482 x115_9 = some r) ∧ Aside0 (kq ≤ k) ∧ Aside0 (Kd.R k60 60 wc w.heap.size (fun k_ => some k_ ≠ ((.slice Ao13 t459.length co13) : Value).ownBlock ∧ some k_ ≠ (v467 : Value).ownBlock ∧ some k_ ≠ (v469 : Value).ownBlock) (.slice Ao12 t458.length co12) t458) ∧ Aside0 (Kd.R k60 60 wc w.heap.size (fun k_ => some k_ ≠ ((.slice Ao12 t458.length co12) : Value).ownBlock ∧ some k_ ≠ (v467 : Value).ownBlock ∧ some k_ ≠ (v469 : Value).ownBlock) (.slice Ao13 t459.length co13) t459) ∧ Aside0 (Kd.R k60 60 wc w.heap.size (fun k_ => some k_ ≠ ((.slice Ao12 t458.length co12) : Value).ownBlock ∧ some k_ ≠ ((.slice Ao13 t459.length co13) : Value).ownBlock ∧ some k_ ≠ (v469 : Value).ownBlock) v467 t464) ∧ Aside0 (Kd.R k60 60 wc w.heap.size (fun k_ => some k_ ≠ ((.slice Ao12 t458.length co12) : Value).ownBlock ∧ some k_ ≠ ((.slice Ao13 t459.length co13) : Value).ownBlock ∧ some k_ ≠ (v467 : Value).ownBlock) v469 t465) ∧ Aside0 (Below w.heap.size w wc))
 case first => as_aux_lemma =>
  have H := HC10.out
  clear HC10
  by_cases c20 : (t466 != t473) = true
  ·rw [if_pos c20] at H
   have c20b0 : (t466 != t473) = true := c20
   (try (have c20b1 : decide (t466 = t473) = false := by simpa using c20))
   (try (have c20b2 : (t466 == t473) = false := by simpa using c20))
   (try (have c20b3 : ¬ (t466 = t473) := by simpa using c20))
   clear c20
   (first | rw [c20b0] | (simp only [i64_w, i32_w]; rw [c20b0]) | rw [c20e] | skip)
   have H' := aM H
   clear H
   go_wp2
   go_meet
   case rel => exact ⟨_, (true), aP19, H', ⟨lH⟩, ⟨wR HO461.out⟩, ⟨wR HO463.out⟩, ⟨wR HO468.out⟩, ⟨wR HO470.out⟩, ⟨bB⟩⟩
  rw [if_neg c20] at H
  have c20b0 : (t466 != t473) = false := by simpa using c20
  (try (have c20b1 : decide (t466 = t473) = true := by simpa using c20))
  (try (have c20b2 : (t466 == t473) = true := by simpa using c20))
  clear c20
  (first | rw [c20b0] | (simp only [i64_w, i32_w]; rw [c20b0]) | rw [c20e] | skip)
  obtain ⟨t486, A21, H⟩ := bM H
  by_cases c22 : t486 = true
  rotate_left
  ·replace c22 := Bool.eq_false_iff.mpr c22
   subst c22
   replace H := fF H
   have H' := aM H
   clear H
   obtain ⟨Ao48, co48, eo48⟩ := Kd.R_slice HO468.out
   subst eo48
   obtain ⟨Ao49, co49, eo49⟩ := Kd.R_slice HO475.out
   subst eo49
   go_wp2_with (go_at_call 27; (with_reducible refine (jQ.calls k _ _ t464 _ _ t471 false _ ?s1 ?s2 ?s3 ?s4 A21.out).mono ?_); (case s1 => exact cC ((Kd.R_reads' HO468.out).2.2)); (case s2 => exact (Kd.R_reads' HO468.out).2.1); (case s3 => exact cC ((Kd.R_reads' HO475.out).2.2)); (case s4 => exact (Kd.R_reads' HO475.out).2.1); rintro e w' ⟨rfl, ⟨nd, rfl⟩⟩)
   go_meet
   case rel => exact ⟨_, (true), aP19, H', ⟨lH⟩, ⟨wR HO461.out⟩, ⟨wR HO463.out⟩, ⟨wR HO468.out⟩, ⟨wR HO470.out⟩, ⟨bB⟩⟩
  subst c22
  rw [if_pos rfl] at H
  obtain ⟨t487, A23, H⟩ := bM H
  by_cases c24 : t487 = true
  rotate_left
  ·replace c24 := Bool.eq_false_iff.mpr c24
   subst c24
   replace H := fF H
   have H' := aM H
   clear H
   obtain ⟨Ao44, co44, eo44⟩ := Kd.R_slice HO468.out
   subst eo44
   obtain ⟨Ao45, co45, eo45⟩ := Kd.R_slice HO475.out
   subst eo45
   go_wp2_with (first | (go_at_call 27; (with_reducible refine (jQ.calls k _ _ t464 _ _ t471 true _ ?s1 ?s2 ?s3 ?s4 A21.out).mono ?_); (case s1 => exact cC ((Kd.R_reads' HO468.out).2.2)); (case s2 => exact (Kd.R_reads' HO468.out).2.1); (case s3 => exact cC ((Kd.R_reads' HO475.out).2.2)); (case s4 => exact (Kd.R_reads' HO475.out).2.1); rintro e w' ⟨rfl, ⟨nd, rfl⟩⟩; obtain ⟨Ao46, co46, eo46⟩ := Kd.R_slice HO470.out; subst eo46; obtain ⟨Ao47, co47, eo47⟩ := Kd.R_slice HO477.out; subst eo47) | (go_at_call 27; (with_reducible refine (jQ.calls k _ _ t465 _ _ t472 false _ ?s1 ?s2 ?s3 ?s4 A23.out).mono ?_); (case s1 => exact cC ((Kd.R_reads' HO470.out).2.2)); (case s2 => exact (Kd.R_reads' HO470.out).2.1); (case s3 => exact cC ((Kd.R_reads' HO477.out).2.2)); (case s4 => exact (Kd.R_reads' HO477.out).2.1); rintro e w' ⟨rfl, ⟨nd, rfl⟩⟩))
   go_meet
   case rel => exact ⟨_, (true), aP19, H', ⟨lH⟩, ⟨wR HO461.out⟩, ⟨wR HO463.out⟩, ⟨wR HO468.out⟩, ⟨wR HO470.out⟩, ⟨bB⟩⟩
  subst c24
  rw [if_pos rfl] at H
  by_cases c25 : (t478 != t480) = true
  ·rw [if_pos c25] at H
   have c25b0 : (t478 != t480) = true := c25
   (try (have c25b1 : decide (t478 = t480) = false := by simpa using c25))
   (try (have c25b2 : (t478 == t480) = false := by simpa using c25))
   (try (have c25b3 : ¬ (t478 = t480) := by simpa using c25))
   clear c25
   have H' := aM H
   clear H
   obtain ⟨Ao26, co26, eo26⟩ := Kd.R_slice HO468.out
   subst eo26
   obtain ⟨Ao27, co27, eo27⟩ := Kd.R_slice HO475.out
   subst eo27
   go_wp2_with (first | (go_at_call 27; (with_reducible refine (jQ.calls k _ _ t464 _ _ t471 true _ ?s1 ?s2 ?s3 ?s4 A21.out).mono ?_); (case s1 => exact cC ((Kd.R_reads' HO468.out).2.2)); (case s2 => exact (Kd.R_reads' HO468.out).2.1); (case s3 => exact cC ((Kd.R_reads' HO475.out).2.2)); (case s4 => exact (Kd.R_reads' HO475.out).2.1); rintro e w' ⟨rfl, ⟨nd, rfl⟩⟩; obtain ⟨Ao28, co28, eo28⟩ := Kd.R_slice HO470.out; subst eo28; obtain ⟨Ao29, co29, eo29⟩ := Kd.R_slice HO477.out; subst eo29) | (go_at_call 27; (with_reducible refine (jQ.calls k _ _ t465 _ _ t472 true _ ?s1 ?s2 ?s3 ?s4 A23.out).mono ?_); (case s1 => exact cC ((Kd.R_reads' HO470.out).2.2)); (case s2 => exact (Kd.R_reads' HO470.out).2.1); (case s3 => exact cC ((Kd.R_reads' HO477.out).2.2)); (case s4 => exact (Kd.R_reads' HO477.out).2.1); rintro e w' ⟨rfl, ⟨nd, rfl⟩⟩))
   go_meet
   case rel => exact ⟨_, (true), aP19, H', ⟨lH⟩, ⟨wR HO461.out⟩, ⟨wR HO463.out⟩, ⟨wR HO468.out⟩, ⟨wR HO470.out⟩, ⟨bB⟩⟩
  rw [if_neg c25] at H
  have c25b0 : (t478 != t480) = false := by simpa using c25
  (try (have c25b1 : decide (t478 = t480) = true := by simpa using c25))
  (try (have c25b2 : (t478 == t480) = true := by simpa using c25))
  clear c25
  by_cases c30 : (t479 != t481) = true
  ·rw [if_pos c30] at H
   have c30b0 : (t479 != t481) = true := c30
   (try (have c30b1 : decide (t479 = t481) = false := by simpa using c30))
   (try (have c30b2 : (t479 == t481) = false := by simpa using c30))
   (try (have c30b3 : ¬ (t479 = t481) := by simpa using c30))
   clear c30
   have H' := aM H
   clear H
   obtain ⟨Ao31, co31, eo31⟩ := Kd.R_slice HO468.out
   subst eo31
   obtain ⟨Ao32, co32, eo32⟩ := Kd.R_slice HO475.out
   subst eo32
   go_wp2_with (first | (go_at_call 27; (with_reducible refine (jQ.calls k _ _ t464 _ _ t471 true _ ?s1 ?s2 ?s3 ?s4 A21.out).mono ?_); (case s1 => exact cC ((Kd.R_reads' HO468.out).2.2)); (case s2 => exact (Kd.R_reads' HO468.out).2.1); (case s3 => exact cC ((Kd.R_reads' HO475.out).2.2)); (case s4 => exact (Kd.R_reads' HO475.out).2.1); rintro e w' ⟨rfl, ⟨nd, rfl⟩⟩; obtain ⟨Ao33, co33, eo33⟩ := Kd.R_slice HO470.out; subst eo33; obtain ⟨Ao34, co34, eo34⟩ := Kd.R_slice HO477.out; subst eo34) | (go_at_call 27; (with_reducible refine (jQ.calls k _ _ t465 _ _ t472 true _ ?s1 ?s2 ?s3 ?s4 A23.out).mono ?_); (case s1 => exact cC ((Kd.R_reads' HO470.out).2.2)); (case s2 => exact (Kd.R_reads' HO470.out).2.1); (case s3 => exact cC ((Kd.R_reads' HO477.out).2.2)); (case s4 => exact (Kd.R_reads' HO477.out).2.1); rintro e w' ⟨rfl, ⟨nd, rfl⟩⟩))
   go_meet
   case rel => exact ⟨_, (true), aP19, H', ⟨lH⟩, ⟨wR HO461.out⟩, ⟨wR HO463.out⟩, ⟨wR HO468.out⟩, ⟨wR HO470.out⟩, ⟨bB⟩⟩
  rw [if_neg c30] at H
  have c30b0 : (t479 != t481) = false := by simpa using c30
  (try (have c30b1 : decide (t479 = t481) = true := by simpa using c30))
  (try (have c30b2 : (t479 == t481) = true := by simpa using c30))
  clear c30
  by_cases c35 : (t483 != t485) = true
  rotate_left
  ·rw [if_neg c35] at H
   have c35b0 : (t483 != t485) = false := by simpa using c35
   (try (have c35b1 : decide (t483 = t485) = true := by simpa using c35))
   (try (have c35b2 : (t483 == t485) = true := by simpa using c35))
   clear c35
   have H' := aM H
   clear H
   obtain ⟨Ao40, co40, eo40⟩ := Kd.R_slice HO468.out
   subst eo40
   obtain ⟨Ao41, co41, eo41⟩ := Kd.R_slice HO475.out
   subst eo41
   go_wp2_with (first | (go_at_call 27; (with_reducible refine (jQ.calls k _ _ t464 _ _ t471 true _ ?s1 ?s2 ?s3 ?s4 A21.out).mono ?_); (case s1 => exact cC ((Kd.R_reads' HO468.out).2.2)); (case s2 => exact (Kd.R_reads' HO468.out).2.1); (case s3 => exact cC ((Kd.R_reads' HO475.out).2.2)); (case s4 => exact (Kd.R_reads' HO475.out).2.1); rintro e w' ⟨rfl, ⟨nd, rfl⟩⟩; obtain ⟨Ao42, co42, eo42⟩ := Kd.R_slice HO470.out; subst eo42; obtain ⟨Ao43, co43, eo43⟩ := Kd.R_slice HO477.out; subst eo43) | (go_at_call 27; (with_reducible refine (jQ.calls k _ _ t465 _ _ t472 true _ ?s1 ?s2 ?s3 ?s4 A23.out).mono ?_); (case s1 => exact cC ((Kd.R_reads' HO470.out).2.2)); (case s2 => exact (Kd.R_reads' HO470.out).2.1); (case s3 => exact cC ((Kd.R_reads' HO477.out).2.2)); (case s4 => exact (Kd.R_reads' HO477.out).2.1); rintro e w' ⟨rfl, ⟨nd, rfl⟩⟩))
   go_meet
   case rel => exact ⟨_, ((t482 != t484)), aP19, H', ⟨lH⟩, ⟨wR HO461.out⟩, ⟨wR HO463.out⟩, ⟨wR HO468.out⟩, ⟨wR HO470.out⟩, ⟨bB⟩⟩
  rw [if_pos c35] at H
  have c35b0 : (t483 != t485) = true := c35
  (try (have c35b1 : decide (t483 = t485) = false := by simpa using c35))
  (try (have c35b2 : (t483 == t485) = false := by simpa using c35))
  (try (have c35b3 : ¬ (t483 = t485) := by simpa using c35))
  clear c35
  have H' := aM H
  clear H
  obtain ⟨Ao36, co36, eo36⟩ := Kd.R_slice HO468.out
  subst eo36
  obtain ⟨Ao37, co37, eo37⟩ := Kd.R_slice HO475.out
  subst eo37
  go_wp2_with (first | (go_at_call 27; (with_reducible refine (jQ.calls k _ _ t464 _ _ t471 true _ ?s1 ?s2 ?s3 ?s4 A21.out).mono ?_); (case s1 => exact cC ((Kd.R_reads' HO468.out).2.2)); (case s2 => exact (Kd.R_reads' HO468.out).2.1); (case s3 => exact cC ((Kd.R_reads' HO475.out).2.2)); (case s4 => exact (Kd.R_reads' HO475.out).2.1); rintro e w' ⟨rfl, ⟨nd, rfl⟩⟩; obtain ⟨Ao38, co38, eo38⟩ := Kd.R_slice HO470.out; subst eo38; obtain ⟨Ao39, co39, eo39⟩ := Kd.R_slice HO477.out; subst eo39) | (go_at_call 27; (with_reducible refine (jQ.calls k _ _ t465 _ _ t472 true _ ?s1 ?s2 ?s3 ?s4 A23.out).mono ?_); (case s1 => exact cC ((Kd.R_reads' HO470.out).2.2)); (case s2 => exact (Kd.R_reads' HO470.out).2.1); (case s3 => exact cC ((Kd.R_reads' HO477.out).2.2)); (case s4 => exact (Kd.R_reads' HO477.out).2.1); rintro e w' ⟨rfl, ⟨nd, rfl⟩⟩))
  go_meet
  case rel => exact ⟨_, (true), aP19, H', ⟨lH⟩, ⟨wR HO461.out⟩, ⟨wR HO463.out⟩, ⟨wR HO468.out⟩, ⟨wR HO470.out⟩, ⟨bB⟩⟩
 case rest => as_aux_lemma =>
  clear HC10
  try clear c2
  try clear c2b0
  try clear c2b1
  obtain ⟨kq, x115_9, rfl, HA, HJ9, HO_3, HO_4, HO_5, HO_6, HB⟩ := hcut
  cases kq with
  | zero => exact absurd HA.out (by simp [lZ.j0])
  | succ kj9 => ?_
  have H := HA.out
  clear HA
  simp only [lZ.j0] at H
  by_cases c50 : x115_9 = true
  ·subst c50
   rw [if_pos rfl] at H
   exact absurd ((Option.some.inj H).trans hrt_.out) (by decide)
  replace c50 := Bool.eq_false_iff.mpr c50
  subst c50
  replace H := fF H
  by_cases c51 : t466 = true
  rotate_left
  ·replace c51 := Bool.eq_false_iff.mpr c51
   subst c51
   replace H := fF H
   by_cases c94 : (t464.length : Int) = 0
   rotate_left
   ·rw [if_neg c94] at H
    obtain ⟨c94b0, c94b1⟩ := nE c94
    have c94b2 : ¬ (t464 = []) := fun h_ => c94 (by rw [h_]; rfl)
    exact absurd ((Option.some.inj H).trans hrt_.out) (by decide)
   rw [if_pos c94] at H
   obtain ⟨c94b0, c94b1⟩ := pE c94
   clear c94
   obtain rfl := Option.some.inj H
   obtain ⟨Ao95, co95, eo95⟩ := Kd.R_slice HO_5.out
   subst eo95
   obtain ⟨Ao96, co96, eo96⟩ := Kd.R_slice HO_6.out
   subst eo96
   go_wp2
   go_ret
   exact ⟨eR, bB⟩
  subst c51
  rw [if_pos rfl] at H
  obtain ⟨⟨t488, t489⟩, A52, H⟩ := bM H
  obtain ⟨⟨t490, t491⟩, A53, H⟩ := bM H
  obtain ⟨⟨t494, t495⟩, A54, H⟩ := bM H
  have HC55 := aM H
  clear H
  go_upto_region 17 with (first | ((with_reducible refine gate_callee (f := 15) rfl ?_); refine gL 129 Try.func15 #[.slice Ao13 t459.length co13, .slice Ao12 t458.length co12] ?_; (with_reducible refine (jG.calls kj9 _ _ t459 _ _ t458 t488 t489 _ ?s1 ?s2 ?s3 ?s4 A52.out).mono ?_); (case s1 => exact cC ((Kd.R_reads' HO_4.out).2.2)); (case s2 => exact (Kd.R_reads' HO_4.out).2.1); (case s3 => exact cC ((Kd.R_reads' HO_3.out).2.2)); (case s4 => exact (Kd.R_reads' HO_3.out).2.1); rintro e w56 ⟨rfl, hb⟩; refine ⟨_, rfl, ?_⟩; replace HO_3 := aM (Kd.R_below (rR HO_3.out) hb); replace HO_4 := aM (Kd.R_below (rR HO_4.out) hb); replace HO_5 := aM (Kd.R_below (rR HO_5.out) hb); replace HO_6 := aM (Kd.R_below (rR HO_6.out) hb); replace HB := aM (below_step bB hb); clear hb; obtain ⟨Ao57, co57, eo57⟩ := Kd.R_slice HO_6.out; subst eo57) | ((with_reducible refine gate_callee (f := 28) rfl ?_); refine gL 135 Try.func28 #[.slice Ao12 t458.length co12, .slice Ao57 t465.length co57] ?_; (with_reducible refine (yF.calls kj9 _ _ t458 _ _ t465 t490 t491 _ ?s1 ?s2 ?s3 ?s4 A53.out).mono ?_); (case s1 => exact cC ((Kd.R_reads' HO_3.out).2.2)); (case s2 => exact (Kd.R_reads' HO_3.out).2.1); (case s3 => exact cC ((Kd.R_reads' HO_6.out).2.2)); (case s4 => exact (Kd.R_reads' HO_6.out).2.1); rintro e w58 ⟨v492, rfl, ho0, hb⟩; refine ⟨_, rfl, ?_⟩; have HO493 := aM (Kd.R_lower (Kd.R_new' (Kd.R_new' (Kd.R_new' (Kd.R_new' ho0 (Kd.R_lt (rR HO_3.out))) (Kd.R_lt (rR HO_4.out))) (Kd.R_lt (rR HO_5.out))) (Kd.R_lt (rR HO_6.out))) (below_size bB)); replace HO_3 := aM (Kd.R_elder' (rR HO_3.out) (Kd.R_base ho0) hb); replace HO_4 := aM (Kd.R_elder' (rR HO_4.out) (Kd.R_base ho0) hb); replace HO_5 := aM (Kd.R_elder' (rR HO_5.out) (Kd.R_base ho0) hb); replace HO_6 := aM (Kd.R_elder' (rR HO_6.out) (Kd.R_base ho0) hb); replace HB := aM (below_step bB hb); clear hb ho0; obtain ⟨Ao59, co59, eo59⟩ := Kd.R_slice HO_5.out; subst eo59) | ((with_reducible refine gate_callee (f := 28) rfl ?_); refine gL 141 Try.func28 #[.slice Ao13 t459.length co13, .slice Ao59 t464.length co59] ?_; (with_reducible refine (yF.calls kj9 _ _ t459 _ _ t464 t494 t495 _ ?s1 ?s2 ?s3 ?s4 A54.out).mono ?_); (case s1 => exact cC ((Kd.R_reads' HO_4.out).2.2)); (case s2 => exact (Kd.R_reads' HO_4.out).2.1); (case s3 => exact cC ((Kd.R_reads' HO_5.out).2.2)); (case s4 => exact (Kd.R_reads' HO_5.out).2.1); rintro e w60 ⟨v496, rfl, ho0, hb⟩; refine ⟨_, rfl, ?_⟩; have HO497 := aM (Kd.R_lower (Kd.R_new' (Kd.R_new' (Kd.R_new' (Kd.R_new' (Kd.R_new' ho0 (Kd.R_lt (rR HO_3.out))) (Kd.R_lt (rR HO_4.out))) (Kd.R_lt (rR HO_5.out))) (Kd.R_lt (rR HO_6.out))) (Kd.R_lt (rR HO493.out))) (below_size bB)); replace HO_3 := aM (Kd.R_elder' (rR HO_3.out) (Kd.R_base ho0) hb); replace HO_4 := aM (Kd.R_elder' (rR HO_4.out) (Kd.R_base ho0) hb); replace HO_5 := aM (Kd.R_elder' (rR HO_5.out) (Kd.R_base ho0) hb); replace HO_6 := aM (Kd.R_elder' (rR HO_6.out) (Kd.R_base ho0) hb); replace HO493 := aM (Kd.R_elder' (rR HO493.out) (Kd.R_base ho0) hb); replace HB := aM (below_step bB hb); clear hb ho0))
  (try simp only [Act.put, List.setIfInBounds_toArray, List.set_cons_zero, List.set_cons_succ])
  go_cut [158] (fun v158 wc => ∃ (kq : Nat) (x158_54 : Bool), v158 = .bool x158_54 ∧ Aside0 (lZ.j1 kq t458 t459 t464 t465 t490 t491 t494 t495 x158_54 = some r) ∧ Aside0 (kq ≤ kj9) ∧ Aside0 (Kd.R k60 60 wc w.heap.size (fun k_ => some k_ ≠ ((.slice Ao13 t459.length co13) : Value).ownBlock ∧ some k_ ≠ ((.slice Ao59 t464.length co59) : Value).ownBlock ∧ some k_ ≠ ((.slice Ao57 t465.length co57) : Value).ownBlock ∧ some k_ ≠ (v492 : Value).ownBlock ∧ some k_ ≠ (v496 : Value).ownBlock) (.slice Ao12 t458.length co12) t458) ∧ Aside0 (Kd.R k60 60 wc w.heap.size (fun k_ => some k_ ≠ ((.slice Ao12 t458.length co12) : Value).ownBlock ∧ some k_ ≠ ((.slice Ao59 t464.length co59) : Value).ownBlock ∧ some k_ ≠ ((.slice Ao57 t465.length co57) : Value).ownBlock ∧ some k_ ≠ (v492 : Value).ownBlock ∧ some k_ ≠ (v496 : Value).ownBlock) (.slice Ao13 t459.length co13) t459) ∧ Aside0 (Kd.R k60 60 wc w.heap.size (fun k_ => some k_ ≠ ((.slice Ao12 t458.length co12) : Value).ownBlock ∧ some k_ ≠ ((.slice Ao13 t459.length co13) : Value).ownBlock ∧ some k_ ≠ ((.slice Ao57 t465.length co57) : Value).ownBlock ∧ some k_ ≠ (v492 : Value).ownBlock ∧ some k_ ≠ (v496 : Value).ownBlock) (.slice Ao59 t464.length co59) t464) ∧ Aside0 (Kd.R k60 60 wc w.heap.size (fun k_ => some k_ ≠ ((.slice Ao12 t458.length co12) : Value).ownBlock ∧ some k_ ≠ ((.slice Ao13 t459.length co13) : Value).ownBlock ∧ some k_ ≠ ((.slice Ao59 t464.length co59) : Value).ownBlock ∧ some k_ ≠ (v492 : Value).ownBlock ∧ some k_ ≠ (v496 : Value).ownBlock) (.slice Ao57 t465.length co57) t465) ∧ Aside0 (Kd.R k60 60 wc w.heap.size (fun k_ => some k_ ≠ ((.slice Ao12 t458.length co12) : Value).ownBlock ∧ some k_ ≠ ((.slice Ao13 t459.length co13) : Value).ownBlock ∧ some k_ ≠ ((.slice Ao59 t464.length co59) : Value).ownBlock ∧ some k_ ≠ ((.slice Ao57 t465.length co57) : Value).ownBlock ∧ some k_ ≠ (v496 : Value).ownBlock) v492 t490) ∧ Aside0 (Kd.R k60 60 wc w.heap.size (fun k_ => some k_ ≠ ((.slice Ao12 t458.length co12) : Value).ownBlock ∧ some k_ ≠ ((.slice Ao13 t459.length co13) : Value).ownBlock ∧ some k_ ≠ ((.slice Ao59 t464.length co59) : Value).ownBlock ∧ some k_ ≠ ((.slice Ao57 t465.length co57) : Value).ownBlock ∧ some k_ ≠ (v492 : Value).ownBlock) v496 t494) ∧ Aside0 (Below w.heap.size w wc))
  case first => as_aux_lemma =>
   have H := HC55.out
   clear HC55
   by_cases c61 : t478 = true
   rotate_left
   ·replace c61 := Bool.eq_false_iff.mpr c61
    subst c61
    replace H := fF H
    have H' := aM H
    clear H
    go_wp2
    go_meet
    case rel => exact ⟨_, (true), aP19, H', ⟨by have := HJ9.out; first | omega | exact Nat.le_refl _⟩, ⟨wR HO_3.out⟩, ⟨wR HO_4.out⟩, ⟨wR HO_5.out⟩, ⟨wR HO_6.out⟩, ⟨wR HO493.out⟩, ⟨wR HO497.out⟩, ⟨bB⟩⟩
   subst c61
   rw [if_pos rfl] at H
   by_cases c62 : t479 = true
   rotate_left
   ·replace c62 := Bool.eq_false_iff.mpr c62
    subst c62
    replace H := fF H
    have H' := aM H
    clear H
    go_wp2
    go_meet
    case rel => exact ⟨_, (true), aP19, H', ⟨by have := HJ9.out; first | omega | exact Nat.le_refl _⟩, ⟨wR HO_3.out⟩, ⟨wR HO_4.out⟩, ⟨wR HO_5.out⟩, ⟨wR HO_6.out⟩, ⟨wR HO493.out⟩, ⟨wR HO497.out⟩, ⟨bB⟩⟩
   subst c62
   rw [if_pos rfl] at H
   by_cases c63 : t489 = true
   ·subst c63
    rw [if_pos rfl] at H
    have H' := aM H
    clear H
    go_wp2
    go_meet
    case rel => exact ⟨_, ((t488 != t482)), aP19, H', ⟨by have := HJ9.out; first | omega | exact Nat.le_refl _⟩, ⟨wR HO_3.out⟩, ⟨wR HO_4.out⟩, ⟨wR HO_5.out⟩, ⟨wR HO_6.out⟩, ⟨wR HO493.out⟩, ⟨wR HO497.out⟩, ⟨bB⟩⟩
   replace c63 := Bool.eq_false_iff.mpr c63
   subst c63
   replace H := fF H
   have H' := aM H
   clear H
   go_wp2
   go_meet
   case rel => exact ⟨_, (true), aP19, H', ⟨by have := HJ9.out; first | omega | exact Nat.le_refl _⟩, ⟨wR HO_3.out⟩, ⟨wR HO_4.out⟩, ⟨wR HO_5.out⟩, ⟨wR HO_6.out⟩, ⟨wR HO493.out⟩, ⟨wR HO497.out⟩, ⟨bB⟩⟩
  case rest => as_aux_lemma =>
   clear HC55
   try clear c2
   try clear c2b0
   try clear c2b1
   try clear c50
   try clear c51
   obtain ⟨kq, x158_54, rfl, HA, HJ54, HO_3, HO_4, HO_5, HO_6, HO_21, HO_23, HB⟩ := hcut
   cases kq with
   | zero => exact absurd HA.out (by simp [lZ.j1])
   | succ kj54 => ?_
   have H := HA.out
   clear HA
   simp only [lZ.j1] at H
   by_cases c64 : x158_54 = true
   ·subst c64
    rw [if_pos rfl] at H
    exact absurd ((Option.some.inj H).trans hrt_.out) (by decide)
   replace c64 := Bool.eq_false_iff.mpr c64
   subst c64
   replace H := fF H
   have H' := aM H
   clear H
   go_wp2
   go_loopg [25, 26] kj54 (fun kq v25 v26 w' => ∃ (x25_3 : ByteArray) (x26_3 : Int), v25 = .string x25_3 ∧ v26 = .int .i64 x26_3 ∧ Aside0 (lZ.l0 kq t458 t459 t464 t465 t490 t491 t494 t495 x25_3 x26_3 = some r) ∧ Aside0 (kq ≤ kj54) ∧ Aside0 (Kd.R k60 60 w' w.heap.size (fun k_ => some k_ ≠ ((.slice Ao13 t459.length co13) : Value).ownBlock ∧ some k_ ≠ ((.slice Ao59 t464.length co59) : Value).ownBlock ∧ some k_ ≠ ((.slice Ao57 t465.length co57) : Value).ownBlock ∧ some k_ ≠ (v492 : Value).ownBlock ∧ some k_ ≠ (v496 : Value).ownBlock) (.slice Ao12 t458.length co12) t458) ∧ Aside0 (Kd.R k60 60 w' w.heap.size (fun k_ => some k_ ≠ ((.slice Ao12 t458.length co12) : Value).ownBlock ∧ some k_ ≠ ((.slice Ao59 t464.length co59) : Value).ownBlock ∧ some k_ ≠ ((.slice Ao57 t465.length co57) : Value).ownBlock ∧ some k_ ≠ (v492 : Value).ownBlock ∧ some k_ ≠ (v496 : Value).ownBlock) (.slice Ao13 t459.length co13) t459) ∧ Aside0 (Kd.R k60 60 w' w.heap.size (fun k_ => some k_ ≠ ((.slice Ao12 t458.length co12) : Value).ownBlock ∧ some k_ ≠ ((.slice Ao13 t459.length co13) : Value).ownBlock ∧ some k_ ≠ ((.slice Ao57 t465.length co57) : Value).ownBlock ∧ some k_ ≠ (v492 : Value).ownBlock ∧ some k_ ≠ (v496 : Value).ownBlock) (.slice Ao59 t464.length co59) t464) ∧ Aside0 (Kd.R k60 60 w' w.heap.size (fun k_ => some k_ ≠ ((.slice Ao12 t458.length co12) : Value).ownBlock ∧ some k_ ≠ ((.slice Ao13 t459.length co13) : Value).ownBlock ∧ some k_ ≠ ((.slice Ao59 t464.length co59) : Value).ownBlock ∧ some k_ ≠ (v492 : Value).ownBlock ∧ some k_ ≠ (v496 : Value).ownBlock) (.slice Ao57 t465.length co57) t465) ∧ Aside0 (Kd.R k60 60 w' w.heap.size (fun k_ => some k_ ≠ ((.slice Ao12 t458.length co12) : Value).ownBlock ∧ some k_ ≠ ((.slice Ao13 t459.length co13) : Value).ownBlock ∧ some k_ ≠ ((.slice Ao59 t464.length co59) : Value).ownBlock ∧ some k_ ≠ ((.slice Ao57 t465.length co57) : Value).ownBlock ∧ some k_ ≠ (v496 : Value).ownBlock) v492 t490) ∧ Aside0 (Kd.R k60 60 w' w.heap.size (fun k_ => some k_ ≠ ((.slice Ao12 t458.length co12) : Value).ownBlock ∧ some k_ ≠ ((.slice Ao13 t459.length co13) : Value).ownBlock ∧ some k_ ≠ ((.slice Ao59 t464.length co59) : Value).ownBlock ∧ some k_ ≠ ((.slice Ao57 t465.length co57) : Value).ownBlock ∧ some k_ ≠ (v492 : Value).ownBlock) v496 t494) ∧ Aside0 (Below w.heap.size w w'))
   case atStart => exact ⟨((⟨#[]⟩ : ByteArray)), (0), aP19, aP19, H', ⟨Nat.le_refl _⟩, ⟨rR HO_3.out⟩, ⟨rR HO_4.out⟩, ⟨rR HO_5.out⟩, ⟨rR HO_6.out⟩, ⟨rR HO_21.out⟩, ⟨rR HO_23.out⟩, ⟨bB⟩⟩
   case round =>
    clear H'
    try clear c2
    try clear c2b0
    try clear c2b1
    try clear c50
    try clear c51
    try clear c64
    obtain ⟨x25_3, x26_3, rfl, rfl, HA, HK3, HO_3, HO_4, HO_5, HO_6, HO_21, HO_23, HB⟩ := hrel
    cases gk with
    | zero => exact absurd HA.out (by simp [lZ.l0])
    | succ k3 => ?_
    have H := HA.out
    clear HA
    simp only [lZ.l0] at H
    by_cases c65 : x26_3 < 1
    ·rw [if_pos c65] at H
     have c65b0 : decide (x26_3 < 1) = true := decide_eq_true c65
     clear c65
     obtain ⟨t498, A66, H⟩ := bM H
     have H' := aM H
     clear H
     go_wp2_with ((with_reducible refine gate_callee (f := 29) rfl ?_); refine gL 165 Try.func29 #[.slice Ao12 t458.length co12, .slice Ao13 t459.length co13] ?_; (with_reducible refine (yW.calls _ _ t458 _ _ t459 t498 _ ?s1 ?s2 ?s3 ?s4 A66.out).mono ?_); (case s1 => exact cC ((Kd.R_reads' HO_3.out).2.2)); (case s2 => exact (Kd.R_reads' HO_3.out).2.1); (case s3 => exact cC ((Kd.R_reads' HO_4.out).2.2)); (case s4 => exact (Kd.R_reads' HO_4.out).2.1); rintro e w67 ⟨rfl, hb⟩; refine ⟨_, rfl, ?_⟩; replace HO_3 := aM (Kd.R_below (rR HO_3.out) hb); replace HO_4 := aM (Kd.R_below (rR HO_4.out) hb); replace HO_5 := aM (Kd.R_below (rR HO_5.out) hb); replace HO_6 := aM (Kd.R_below (rR HO_6.out) hb); replace HO_21 := aM (Kd.R_below (rR HO_21.out) hb); replace HO_23 := aM (Kd.R_below (rR HO_23.out) hb); replace HB := aM (below_step bB hb); clear hb)
     go_roundg k3
     case measure => have := HJ9.out; have := HJ54.out; have := HK3.out; omega
     case rel => exact ⟨(t498), (wrap64 (x26_3 + 1)), aP19, aP19, H', ⟨by have := HJ9.out; have := HJ54.out; have := HK3.out; omega⟩, ⟨rR HO_3.out⟩, ⟨rR HO_4.out⟩, ⟨rR HO_5.out⟩, ⟨rR HO_6.out⟩, ⟨rR HO_21.out⟩, ⟨rR HO_23.out⟩, ⟨bB⟩⟩
    rw [if_neg c65] at H
    have c65b0 : decide (x26_3 < 1) = false := decide_eq_false c65
    clear c65
    obtain ⟨⟨t499, t500⟩, A68, H⟩ := bM H
    obtain ⟨⟨t501, t502⟩, A69, H⟩ := bM H
    have HC70 := aM H
    clear H
    go_upto_region 26 with (first | ((with_reducible refine gate_callee (f := 30) rfl ?_); refine gL 169 Try.func30 #[.slice Ao12 t458.length co12, .string x25_3] ?_; (with_reducible refine (jK.calls k3 _ _ t458 x25_3 t499 t500 _ ?s1 ?s2 A68.out).mono ?_); (case s1 => exact cC ((Kd.R_reads' HO_3.out).2.2)); (case s2 => exact (Kd.R_reads' HO_3.out).2.1); rintro e w71 ⟨rfl, hb⟩; refine ⟨_, rfl, ?_⟩; replace HO_3 := aM (Kd.R_below (rR HO_3.out) hb); replace HO_4 := aM (Kd.R_below (rR HO_4.out) hb); replace HO_5 := aM (Kd.R_below (rR HO_5.out) hb); replace HO_6 := aM (Kd.R_below (rR HO_6.out) hb); replace HO_21 := aM (Kd.R_below (rR HO_21.out) hb); replace HO_23 := aM (Kd.R_below (rR HO_23.out) hb); replace HB := aM (below_step bB hb); clear hb) | ((with_reducible refine gate_callee (f := 30) rfl ?_); refine gL 175 Try.func30 #[.slice Ao13 t459.length co13, .string x25_3] ?_; (with_reducible refine (jK.calls k3 _ _ t459 x25_3 t501 t502 _ ?s1 ?s2 A69.out).mono ?_); (case s1 => exact cC ((Kd.R_reads' HO_4.out).2.2)); (case s2 => exact (Kd.R_reads' HO_4.out).2.1); rintro e w72 ⟨rfl, hb⟩; refine ⟨_, rfl, ?_⟩; replace HO_3 := aM (Kd.R_below (rR HO_3.out) hb); replace HO_4 := aM (Kd.R_below (rR HO_4.out) hb); replace HO_5 := aM (Kd.R_below (rR HO_5.out) hb); replace HO_6 := aM (Kd.R_below (rR HO_6.out) hb); replace HO_21 := aM (Kd.R_below (rR HO_21.out) hb); replace HO_23 := aM (Kd.R_below (rR HO_23.out) hb); replace HB := aM (below_step bB hb); clear hb))
    (try simp only [Act.put, List.setIfInBounds_toArray, List.set_cons_zero, List.set_cons_succ])
    go_cut [183] (fun v183 wc => ∃ (kq : Nat) (x183_69 : Bool), v183 = .bool x183_69 ∧ Aside0 (lZ.j3 kq t464 t465 t490 t491 t494 t495 t499 t501 x183_69 = some r) ∧ Aside0 (kq ≤ k3) ∧ Aside0 (Kd.R k60 60 wc w.heap.size (fun k_ => some k_ ≠ ((.slice Ao57 t465.length co57) : Value).ownBlock ∧ some k_ ≠ (v492 : Value).ownBlock ∧ some k_ ≠ (v496 : Value).ownBlock) (.slice Ao59 t464.length co59) t464) ∧ Aside0 (Kd.R k60 60 wc w.heap.size (fun k_ => some k_ ≠ ((.slice Ao59 t464.length co59) : Value).ownBlock ∧ some k_ ≠ (v492 : Value).ownBlock ∧ some k_ ≠ (v496 : Value).ownBlock) (.slice Ao57 t465.length co57) t465) ∧ Aside0 (Kd.R k60 60 wc w.heap.size (fun k_ => some k_ ≠ ((.slice Ao59 t464.length co59) : Value).ownBlock ∧ some k_ ≠ ((.slice Ao57 t465.length co57) : Value).ownBlock ∧ some k_ ≠ (v496 : Value).ownBlock) v492 t490) ∧ Aside0 (Kd.R k60 60 wc w.heap.size (fun k_ => some k_ ≠ ((.slice Ao59 t464.length co59) : Value).ownBlock ∧ some k_ ≠ ((.slice Ao57 t465.length co57) : Value).ownBlock ∧ some k_ ≠ (v492 : Value).ownBlock) v496 t494) ∧ Aside0 (Below w.heap.size w wc))
    case first => as_aux_lemma =>
     have H := HC70.out
     clear HC70
     by_cases c73 : t500 = true
     ·subst c73
      rw [if_pos rfl] at H
      have H' := aM H
      clear H
      go_wp2
      go_meet
      case rel => exact ⟨_, (!t502), aP19, H', ⟨by have := HJ9.out; have := HJ54.out; have := HK3.out; first | omega | exact Nat.le_refl _⟩, ⟨wR HO_5.out⟩, ⟨wR HO_6.out⟩, ⟨wR HO_21.out⟩, ⟨wR HO_23.out⟩, ⟨bB⟩⟩
     replace c73 := Bool.eq_false_iff.mpr c73
     subst c73
     replace H := fF H
     have H' := aM H
     clear H
     go_wp2
     go_meet
     case rel => exact ⟨_, (true), aP19, H', ⟨by have := HJ9.out; have := HJ54.out; have := HK3.out; first | omega | exact Nat.le_refl _⟩, ⟨wR HO_5.out⟩, ⟨wR HO_6.out⟩, ⟨wR HO_21.out⟩, ⟨wR HO_23.out⟩, ⟨bB⟩⟩
    case rest => as_aux_lemma =>
     clear HC70
     try clear c2
     try clear c2b0
     try clear c2b1
     try clear c50
     try clear c51
     try clear c64
     try clear c65
     try clear c65b0
     obtain ⟨kq, x183_69, rfl, HA, HJ69, HO_5, HO_6, HO_21, HO_23, HB⟩ := hcut
     cases kq with
     | zero => exact absurd HA.out (by simp [lZ.j3])
     | succ kj69 => ?_
     have H := HA.out
     clear HA
     simp only [lZ.j3] at H
     by_cases c74 : x183_69 = true
     ·subst c74
      rw [if_pos rfl] at H
      obtain rfl := Option.some.inj H
      go_wp2
      go_ret
      exact ⟨eR, bB⟩
     replace c74 := Bool.eq_false_iff.mpr c74
     subst c74
     replace H := fF H
     obtain ⟨⟨t503, t504⟩, A75, H⟩ := bM H
     obtain ⟨⟨t505, t506⟩, A76, H⟩ := bM H
     by_cases c77 : (t504 == t506) = true
     rotate_left
     ·rw [if_neg c77] at H
      have c77b0 : (t504 == t506) = false := by simpa using c77
      (try (have c77b1 : decide (t504 = t506) = false := by simpa using c77))
      (try (have c77b2 : (t504 == t506) = false := by simpa using c77))
      (try (have c77b3 : ¬ (t504 = t506) := by simpa using c77))
      clear c77
      exact absurd ((Option.some.inj H).trans hrt_.out) (by decide)
     rw [if_pos c77] at H
     have c77b0 : (t504 == t506) = true := c77
     (try (have c77b1 : decide (t504 = t506) = true := by simpa using c77))
     (try (have c77b2 : (t504 == t506) = true := by simpa using c77))
     clear c77
     by_cases c78 : t503.toList = t505.toList
     rotate_left
     ·rw [if_neg c78] at H
      obtain ⟨c78b0, c78b1⟩ := nE c78
      exact absurd ((Option.some.inj H).trans hrt_.out) (by decide)
     rw [if_pos c78] at H
     obtain ⟨c78b0, c78b1⟩ := pE c78
     clear c78
     by_cases c79 : t491 = true
     rotate_left
     ·replace c79 := Bool.eq_false_iff.mpr c79
      subst c79
      replace H := fF H
      obtain rfl := Option.some.inj H
      go_wp2_with (first | ((with_reducible refine gate_callee (f := 30) rfl ?_); refine gL 187 Try.func30 #[.slice Ao57 t465.length co57, .string t499] ?_; (with_reducible refine (jK.calls kj69 _ _ t465 t499 t503 t504 _ ?s1 ?s2 A75.out).mono ?_); (case s1 => exact cC ((Kd.R_reads' HO_6.out).2.2)); (case s2 => exact (Kd.R_reads' HO_6.out).2.1); rintro e w88 ⟨rfl, hb⟩; refine ⟨_, rfl, ?_⟩; replace HO_5 := aM (Kd.R_below (rR HO_5.out) hb); replace HO_6 := aM (Kd.R_below (rR HO_6.out) hb); replace HO_21 := aM (Kd.R_below (rR HO_21.out) hb); replace HO_23 := aM (Kd.R_below (rR HO_23.out) hb); replace HB := aM (below_step bB hb); clear hb) | ((with_reducible refine gate_callee (f := 30) rfl ?_); refine gL 193 Try.func30 #[.slice Ao59 t464.length co59, .string t501] ?_; (with_reducible refine (jK.calls kj69 _ _ t464 t501 t505 t506 _ ?s1 ?s2 A76.out).mono ?_); (case s1 => exact cC ((Kd.R_reads' HO_5.out).2.2)); (case s2 => exact (Kd.R_reads' HO_5.out).2.1); rintro e w89 ⟨rfl, hb⟩; refine ⟨_, rfl, ?_⟩; replace HO_5 := aM (Kd.R_below (rR HO_5.out) hb); replace HO_6 := aM (Kd.R_below (rR HO_6.out) hb); replace HO_21 := aM (Kd.R_below (rR HO_21.out) hb); replace HO_23 := aM (Kd.R_below (rR HO_23.out) hb); replace HB := aM (below_step bB hb); clear hb))
      go_ret
      exact ⟨eR, bB⟩
     subst c79
     rw [if_pos rfl] at H
     by_cases c80 : t495 = true
     rotate_left
     ·replace c80 := Bool.eq_false_iff.mpr c80
      subst c80
      replace H := fF H
      obtain rfl := Option.some.inj H
      go_wp2_with (first | ((with_reducible refine gate_callee (f := 30) rfl ?_); refine gL 187 Try.func30 #[.slice Ao57 t465.length co57, .string t499] ?_; (with_reducible refine (jK.calls kj69 _ _ t465 t499 t503 t504 _ ?s1 ?s2 A75.out).mono ?_); (case s1 => exact cC ((Kd.R_reads' HO_6.out).2.2)); (case s2 => exact (Kd.R_reads' HO_6.out).2.1); rintro e w86 ⟨rfl, hb⟩; refine ⟨_, rfl, ?_⟩; replace HO_5 := aM (Kd.R_below (rR HO_5.out) hb); replace HO_6 := aM (Kd.R_below (rR HO_6.out) hb); replace HO_21 := aM (Kd.R_below (rR HO_21.out) hb); replace HO_23 := aM (Kd.R_below (rR HO_23.out) hb); replace HB := aM (below_step bB hb); clear hb) | ((with_reducible refine gate_callee (f := 30) rfl ?_); refine gL 193 Try.func30 #[.slice Ao59 t464.length co59, .string t501] ?_; (with_reducible refine (jK.calls kj69 _ _ t464 t501 t505 t506 _ ?s1 ?s2 A76.out).mono ?_); (case s1 => exact cC ((Kd.R_reads' HO_5.out).2.2)); (case s2 => exact (Kd.R_reads' HO_5.out).2.1); rintro e w87 ⟨rfl, hb⟩; refine ⟨_, rfl, ?_⟩; replace HO_5 := aM (Kd.R_below (rR HO_5.out) hb); replace HO_6 := aM (Kd.R_below (rR HO_6.out) hb); replace HO_21 := aM (Kd.R_below (rR HO_21.out) hb); replace HO_23 := aM (Kd.R_below (rR HO_23.out) hb); replace HB := aM (below_step bB hb); clear hb))
      go_ret
      exact ⟨eR, bB⟩
     subst c80
     rw [if_pos rfl] at H
     obtain ⟨t507, A81, H⟩ := bM H
     obtain rfl := Option.some.inj H
     go_wp2_with (first | ((with_reducible refine gate_callee (f := 30) rfl ?_); refine gL 187 Try.func30 #[.slice Ao57 t465.length co57, .string t499] ?_; (with_reducible refine (jK.calls kj69 _ _ t465 t499 t503 t504 _ ?s1 ?s2 A75.out).mono ?_); (case s1 => exact cC ((Kd.R_reads' HO_6.out).2.2)); (case s2 => exact (Kd.R_reads' HO_6.out).2.1); rintro e w82 ⟨rfl, hb⟩; refine ⟨_, rfl, ?_⟩; replace HO_5 := aM (Kd.R_below (rR HO_5.out) hb); replace HO_6 := aM (Kd.R_below (rR HO_6.out) hb); replace HO_21 := aM (Kd.R_below (rR HO_21.out) hb); replace HO_23 := aM (Kd.R_below (rR HO_23.out) hb); replace HB := aM (below_step bB hb); clear hb) | ((with_reducible refine gate_callee (f := 30) rfl ?_); refine gL 193 Try.func30 #[.slice Ao59 t464.length co59, .string t501] ?_; (with_reducible refine (jK.calls kj69 _ _ t464 t501 t505 t506 _ ?s1 ?s2 A76.out).mono ?_); (case s1 => exact cC ((Kd.R_reads' HO_5.out).2.2)); (case s2 => exact (Kd.R_reads' HO_5.out).2.1); rintro e w83 ⟨rfl, hb⟩; refine ⟨_, rfl, ?_⟩; replace HO_5 := aM (Kd.R_below (rR HO_5.out) hb); replace HO_6 := aM (Kd.R_below (rR HO_6.out) hb); replace HO_21 := aM (Kd.R_below (rR HO_21.out) hb); replace HO_23 := aM (Kd.R_below (rR HO_23.out) hb); replace HB := aM (below_step bB hb); clear hb; obtain ⟨Ao84, co84, eo84⟩ := Kd.R_slice HO_21.out; subst eo84; obtain ⟨Ao85, co85, eo85⟩ := Kd.R_slice HO_23.out; subst eo85) | (go_at_call 27; (with_reducible refine (jQ.calls kj69 _ _ t490 _ _ t494 t507 _ ?s1 ?s2 ?s3 ?s4 A81.out).mono ?_); (case s1 => exact cC ((Kd.R_reads' HO_21.out).2.2)); (case s2 => exact (Kd.R_reads' HO_21.out).2.1); (case s3 => exact cC ((Kd.R_reads' HO_23.out).2.2)); (case s4 => exact (Kd.R_reads' HO_23.out).2.1); rintro e w' ⟨rfl, ⟨nd, rfl⟩⟩))
     go_ret
     exact ⟨eR, bB⟩
def lZ.Pure : Prop := ∀ (l0 : List Int), l0.length ≤ maxLen → l0.length * 1 ≤ 140737488351232 → (∀ x ∈ l0, (Lit.int .u8 x).wf = true) → ∃ k, lZ.f k l0 = some true
theorem lZ.walk (P : lZ.Pure) (a0 : Option Addr) (len0 cap0 : Nat) (z0 : List Int) (w : World) (w0 : (a0 = none ∧ len0 = 0 ∧ cap0 = 0 ∧ z0 = []) ∨ ∃ x, a0 = some x ∧ len0 ≤ cap0 ∧ cap0 ≤ maxLen ∧ z0.length = cap0 ∧ (∀ i, i < z0.length → w.cell? (x.add i) = some (.int .u8 (z0.getD i 0))) ∧ ∀ n ∈ z0, (Lit.int .u8 n).wf = true) (y0 : len0 * 1 ≤ 140737488351232) :
  Calls Try.prog 7 #[.slice a0 len0 cap0] w fun e w' => e = .returned (.bool true) ∧ Below w.heap.size w w' := by
 obtain ⟨l0, rfl, hr0, hm0, hw0, hc0⟩ := ReadsInt.ofRowC w0
 obtain ⟨k, h⟩ := P l0 hm0 y0 hw0
 refine (lZ.calls k _ _ l0 true rfl w (Kd.C_of_reads (d := (0 : Int)) (h1 := fun _ => rfl) hr0) hc0 h).mono ?_
 rintro e w' ⟨rfl, hd⟩
 exact ⟨rfl, hd⟩
end Go.Proofs.Ytoagljlnfakgjaa.PFnDiamond
