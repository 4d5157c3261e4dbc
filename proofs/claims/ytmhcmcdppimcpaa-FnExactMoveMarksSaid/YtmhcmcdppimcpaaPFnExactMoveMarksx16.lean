/- (thin) Written by a program of this session (wip/ovl.py) over the kit's print: plain functions with the answers of the Go functions, and the proofs that they are; no condition. -/
import Derived.Test.YtmhcmcdppimcpaaRead
import Derived.Test.YtmhcmcdppimcpaaPFnExactMoveMarksx0
import Derived.Test.YtmhcmcdppimcpaaPFnExactMoveMarksx1
import Derived.Test.YtmhcmcdppimcpaaPFnExactMoveMarksx2
import Derived.Test.YtmhcmcdppimcpaaPFnExactMoveMarksx8
import Derived.Test.YtmhcmcdppimcpaaPFnExactMoveMarksx14
import Derived.Test.YtmhcmcdppimcpaaPFnExactMoveMarksx15
namespace Go.Proofs.Ytmhcmcdppimcpaa.PFnExactMoveMarks
open Go.RowKit Go.Proofs.YtmhcmcdppimcpaaW.PrintWords Go.Proofs.YtmhcmcdppimcpaaW.PrintLast Go.Proofs.YtmhcmcdppimcpaaW.PrintMore
attribute [local go_sem] max2_int min2_int max_two min_two max_three min_three max_four min_four   -- for this text's walks alone
set_option linter.unusedVariables false
set_option linter.unusedSimpArgs false
mutual
def lZ.j0 : Nat → List (S77) → List (S64) → List (S67) → Bool → List (S61) → List (S67) → List (S67) → Bool → Bool → Option (Bool)
 | 0, _, _, _, _, _, _, _, _, _ => none
 | k + 1, x0, x1, x6, x7, x8, x9, x10, x11, x53 => if x53 = true then (some false) else ((laws_toPartS.f k x0).bind fun t347 => ((laws_eqPartS.f k x8 t347).bind fun t350 => (if t350 = true then ((laws_toMarkS.f k x1).bind fun t351 => ((laws_eqMarkS.f k x9 t351).bind fun t354 => (if t354 = true then ((laws_markPartS.f k x8 1).bind fun bt355 => ((laws_markMarkS.f k x9 bt355.1).bind fun bt357 => (if bt357.1 < 0 then (lZ.j1 k x0 x1 x6 x7 x10 true) else ((laws_eqMarkS.f k x10 x6).bind fun t359 => (if t359 = true then (lZ.j1 k x0 x1 x6 x7 x10 (x11 != x7)) else (lZ.j1 k x0 x1 x6 x7 x10 true)))))) else (some false)))) else (some false))))
def lZ.j1 : Nat → List (S77) → List (S64) → List (S67) → Bool → List (S67) → Bool → Option (Bool)
 | 0, _, _, _, _, _, _ => none
 | k + 1, x0, x1, x6, x7, x10, x82 => if x82 = true then (some false) else ((laws_markMarkS.f k x10 1).bind fun bt360 => ((laws_heldMarkS.f k bt360.2 1).bind fun t362 => (if t362 < 0 then (some false) else (if t362 = bt360.1 then ((laws_toPartS.f k x0).bind fun t363 => ((laws_toMarkS.f k x1).bind fun t366 => ((impl_MoveMarks.f k t363 t366).bind fun bt369 => ((laws_eqMarkS.f k bt369.1 x6).bind fun t373 => (if t373 = true then (lZ.j2 k bt360.2 bt360.1 (bt369.2 != x7)) else (lZ.j2 k bt360.2 bt360.1 true)))))) else (some false)))))
def lZ.j2 : Nat → List (S67) → Int → Bool → Option (Bool)
 | 0, _, _, _ => none
 | k + 1, x10, x13, x110 => if x110 = true then (some false) else ((laws_heldMarkS.f k x10 1).bind fun t374 => (if t374 < 0 then (some false) else (if t374 = x13 then (some true) else (some false))))
end
def lZ.f (k : Nat) (l0 : List (S77)) (l1 : List (S64)) : Option (Bool) := (laws_szPartS.f k l0 1048576).bind fun t324 => (if t324 < 0 then (some true) else ((laws_szMarkS.f k l1 t324).bind fun t325 => (if t325 < 0 then (some true) else ((laws_toPartS.f k l0).bind fun t326 => ((laws_toMarkS.f k l1).bind fun t329 => ((spec_MoveMarks.f k t326 t329).bind fun bt332 => ((laws_toPartS.f k l0).bind fun t336 => ((laws_toMarkS.f k l1).bind fun t339 => ((impl_MoveMarks.f k t336 t339).bind fun bt342 => ((laws_eqMarkS.f k bt342.1 bt332.1).bind fun t346 => (if t346 = true then (lZ.j0 k l0 l1 bt332.1 bt332.2 t336 t339 bt342.1 bt342.2 (bt342.2 != bt332.2)) else (lZ.j0 k l0 l1 bt332.1 bt332.2 t336 t339 bt342.1 bt342.2 true))))))))))))
theorem lZ.mono_l : ∀ k, (∀ y0 y1 y2 y3 y4 y5 y6 y7 y8, LeO (lZ.j0 k y0 y1 y2 y3 y4 y5 y6 y7 y8) (lZ.j0 (k + 1) y0 y1 y2 y3 y4 y5 y6 y7 y8)) ∧ (∀ y0 y1 y2 y3 y4 y5, LeO (lZ.j1 k y0 y1 y2 y3 y4 y5) (lZ.j1 (k + 1) y0 y1 y2 y3 y4 y5)) ∧ (∀ y0 y1 y2, LeO (lZ.j2 k y0 y1 y2) (lZ.j2 (k + 1) y0 y1 y2))
 | 0 => ⟨fun _ _ _ _ _ _ _ _ _ r h => by simp [lZ.j0] at h, fun _ _ _ _ _ _ r h => by simp [lZ.j1] at h, fun _ _ _ r h => by simp [lZ.j2] at h⟩
 | k + 1 => by
  obtain ⟨ih0, ih1, ih2⟩ := lZ.mono_l k
  refine ⟨?_, ?_, ?_⟩
  ·intro y0 y1 y2 y3 y4 y5 y6 y7 y8
   unfold lZ.j0
   repeat' (with_reducible first | exact ih0 _ _ _ _ _ _ _ _ _ | exact ih1 _ _ _ _ _ _ | exact ih2 _ _ _ | exact impl_MoveMarks.mono _ _ _ | exact laws_eqMarkS.mono _ _ _ | exact laws_eqPartS.mono _ _ _ | exact laws_heldMarkS.mono _ _ _ | exact laws_markMarkS.mono _ _ _ | exact laws_markPartS.mono _ _ _ | exact laws_szMarkS.mono _ _ _ | exact laws_szPartS.mono _ _ _ | exact laws_toMarkS.mono _ _ | exact laws_toPartS.mono _ _ | exact spec_MoveMarks.mono _ _ _ | exact LeO.refl _ | exact LeO.none _ | refine LeO.ite ?_ ?_ | refine LeO.bind ?_ (fun _ => ?_))
  ·intro y0 y1 y2 y3 y4 y5
   unfold lZ.j1
   repeat' (with_reducible first | exact ih0 _ _ _ _ _ _ _ _ _ | exact ih1 _ _ _ _ _ _ | exact ih2 _ _ _ | exact impl_MoveMarks.mono _ _ _ | exact laws_eqMarkS.mono _ _ _ | exact laws_eqPartS.mono _ _ _ | exact laws_heldMarkS.mono _ _ _ | exact laws_markMarkS.mono _ _ _ | exact laws_markPartS.mono _ _ _ | exact laws_szMarkS.mono _ _ _ | exact laws_szPartS.mono _ _ _ | exact laws_toMarkS.mono _ _ | exact laws_toPartS.mono _ _ | exact spec_MoveMarks.mono _ _ _ | exact LeO.refl _ | exact LeO.none _ | refine LeO.ite ?_ ?_ | refine LeO.bind ?_ (fun _ => ?_))
  ·intro y0 y1 y2
   unfold lZ.j2
   repeat' (with_reducible first | exact ih0 _ _ _ _ _ _ _ _ _ | exact ih1 _ _ _ _ _ _ | exact ih2 _ _ _ | exact impl_MoveMarks.mono _ _ _ | exact laws_eqMarkS.mono _ _ _ | exact laws_eqPartS.mono _ _ _ | exact laws_heldMarkS.mono _ _ _ | exact laws_markMarkS.mono _ _ _ | exact laws_markPartS.mono _ _ _ | exact laws_szMarkS.mono _ _ _ | exact laws_szPartS.mono _ _ _ | exact laws_toMarkS.mono _ _ | exact laws_toPartS.mono _ _ | exact spec_MoveMarks.mono _ _ _ | exact LeO.refl _ | exact LeO.none _ | refine LeO.ite ?_ ?_ | refine LeO.bind ?_ (fun _ => ?_))
theorem lZ.mono : ∀ a0 a1 k, LeO (lZ.f k a0 a1) (lZ.f (k + 1) a0 a1) := by
 intro a0 a1 k
 obtain ⟨ih0, ih1, ih2⟩ := lZ.mono_l k
 unfold lZ.f
 repeat' (with_reducible first | exact ih0 _ _ _ _ _ _ _ _ _ | exact ih1 _ _ _ _ _ _ | exact ih2 _ _ _ | exact impl_MoveMarks.mono _ _ _ | exact laws_eqMarkS.mono _ _ _ | exact laws_eqPartS.mono _ _ _ | exact laws_heldMarkS.mono _ _ _ | exact laws_markMarkS.mono _ _ _ | exact laws_markPartS.mono _ _ _ | exact laws_szMarkS.mono _ _ _ | exact laws_szPartS.mono _ _ _ | exact laws_toMarkS.mono _ _ | exact laws_toPartS.mono _ _ | exact spec_MoveMarks.mono _ _ _ | exact LeO.refl _ | exact LeO.none _ | refine LeO.ite ?_ ?_ | refine LeO.bind ?_ (fun _ => ?_))
set_option maxHeartbeats 8000000 in
set_option maxRecDepth 100000 in
theorem lZ.calls (k : Nat) (A0 : Option Addr) (c0 : Nat) (l0 : List (S77)) (A1 : Option Addr) (c1 : Nat) (l1 : List (S64)) (r : Bool) (hr_ : r = true) (w : World) (hr0 : Kd.C k77 w A0 l0.length l0) (hc0 : l0.length ≤ c0) (hr1 : Kd.C k64 w A1 l1.length l1) (hc1 : l1.length ≤ c1) (h : lZ.f k l0 l1 = some r) :
  Calls Try.prog 7 #[.slice A0 l0.length c0, .slice A1 l1.length c1] w fun e w' => e = .returned (.bool r) ∧ Below w.heap.size w w' := by
 have hrt_ := aM hr_
 clear hr_
 have HR0 := aM hr0
 have HC0 := aM hc0
 clear hr0 hc0
 have HR1 := aM hr1
 have HC1 := aM hc1
 clear hr1 hc1
 have HB := aM (Below.refl w.heap.size w)
 have H : ((laws_szPartS.f k l0 1048576).bind fun t324 => (if t324 < 0 then (some true) else ((laws_szMarkS.f k l1 t324).bind fun t325 => (if t325 < 0 then (some true) else ((laws_toPartS.f k l0).bind fun t326 => ((laws_toMarkS.f k l1).bind fun t329 => ((spec_MoveMarks.f k t326 t329).bind fun bt332 => ((laws_toPartS.f k l0).bind fun t336 => ((laws_toMarkS.f k l1).bind fun t339 => ((impl_MoveMarks.f k t336 t339).bind fun bt342 => ((laws_eqMarkS.f k bt342.1 bt332.1).bind fun t346 => (if t346 = true then (lZ.j0 k l0 l1 bt332.1 bt332.2 t336 t339 bt342.1 bt342.2 (bt342.2 != bt332.2)) else (lZ.j0 k l0 l1 bt332.1 bt332.2 t336 t339 bt342.1 bt342.2 true))))))))))))) = some r := h
 clear h
 replace H := Option.bind_eq_some_iff.mp H
 obtain ⟨t324, A30, H⟩ := H
 replace H : (if t324 < 0 then (some true) else ((laws_szMarkS.f k l1 t324).bind fun t325 => (if t325 < 0 then (some true) else ((laws_toPartS.f k l0).bind fun t326 => ((laws_toMarkS.f k l1).bind fun t329 => ((spec_MoveMarks.f k t326 t329).bind fun bt332 => ((laws_toPartS.f k l0).bind fun t336 => ((laws_toMarkS.f k l1).bind fun t339 => ((impl_MoveMarks.f k t336 t339).bind fun bt342 => ((laws_eqMarkS.f k bt342.1 bt332.1).bind fun t346 => (if t346 = true then (lZ.j0 k l0 l1 bt332.1 bt332.2 t336 t339 bt342.1 bt342.2 (bt342.2 != bt332.2)) else (lZ.j0 k l0 l1 bt332.1 bt332.2 t336 t339 bt342.1 bt342.2 true)))))))))))) = some r := H
 have A3 := aM A30
 clear A30
 by_cases c4 : t324 < 0
 ·rw [if_pos c4] at H
  have c4b0 : decide (t324 < 0) = true := decide_eq_true c4
  clear c4
  obtain rfl := Option.some.inj H
  go_enter Try.func7, Try.ntmps7
  go_wp2_with (first | ((with_reducible refine gate_callee (f := 27) rfl ?_); refine goesL_ (some 19) rfl rfl Try.func27 (by kernel_rfl) rfl #[.slice A0 l0.length c0, .int .i64 1048576] rfl mM ?_; (with_reducible refine (laws_szPartS.calls k _ _ l0 1048576 t324 _ ?side1 ?side2 A3.out).mono ?_); (case side1 => exact cC HR0.out); (case side2 => exact HC0.out); rintro e w5 ⟨rfl, hb⟩; refine ⟨_, rfl, ?_⟩; replace HB := aM (below_step bB hb); (try clear hb); (try clear hb2); (try clear hk); (try clear hi)))
  go_ret
  exact ⟨eR, bB⟩
 rw [if_neg c4] at H
 have c4b0 : decide (t324 < 0) = false := decide_eq_false c4
 clear c4
 replace H := Option.bind_eq_some_iff.mp H
 obtain ⟨t325, A60, H⟩ := H
 replace H : (if t325 < 0 then (some true) else ((laws_toPartS.f k l0).bind fun t326 => ((laws_toMarkS.f k l1).bind fun t329 => ((spec_MoveMarks.f k t326 t329).bind fun bt332 => ((laws_toPartS.f k l0).bind fun t336 => ((laws_toMarkS.f k l1).bind fun t339 => ((impl_MoveMarks.f k t336 t339).bind fun bt342 => ((laws_eqMarkS.f k bt342.1 bt332.1).bind fun t346 => (if t346 = true then (lZ.j0 k l0 l1 bt332.1 bt332.2 t336 t339 bt342.1 bt342.2 (bt342.2 != bt332.2)) else (lZ.j0 k l0 l1 bt332.1 bt332.2 t336 t339 bt342.1 bt342.2 true)))))))))) = some r := H
 have A6 := aM A60
 clear A60
 by_cases c7 : t325 < 0
 ·rw [if_pos c7] at H
  have c7b0 : decide (t325 < 0) = true := decide_eq_true c7
  clear c7
  obtain rfl := Option.some.inj H
  go_enter Try.func7, Try.ntmps7
  go_wp2_with (first | ((with_reducible refine gate_callee (f := 27) rfl ?_); refine goesL_ (some 19) rfl rfl Try.func27 (by kernel_rfl) rfl #[.slice A0 l0.length c0, .int .i64 1048576] rfl mM ?_; (with_reducible refine (laws_szPartS.calls k _ _ l0 1048576 t324 _ ?side1 ?side2 A3.out).mono ?_); (case side1 => exact cC HR0.out); (case side2 => exact HC0.out); rintro e w8 ⟨rfl, hb⟩; refine ⟨_, rfl, ?_⟩; replace HB := aM (below_step bB hb); (try clear hb); (try clear hb2); (try clear hk); (try clear hi)) | ((with_reducible refine gate_callee (f := 11) rfl ?_); refine goesL_ (some 24) rfl rfl Try.func11 (by kernel_rfl) rfl #[.slice A1 l1.length c1, .int .i64 t324] rfl mM ?_; (with_reducible refine (laws_szMarkS.calls k _ _ l1 t324 t325 _ ?side1 ?side2 A6.out).mono ?_); (case side1 => exact cC (Kd.C_below HR1.out HB.out)); (case side2 => exact HC1.out); rintro e w9 ⟨rfl, hb⟩; refine ⟨_, rfl, ?_⟩; replace HB := aM (below_step bB hb); (try clear hb); (try clear hb2); (try clear hk); (try clear hi)))
  go_ret
  exact ⟨eR, bB⟩
 rw [if_neg c7] at H
 have c7b0 : decide (t325 < 0) = false := decide_eq_false c7
 clear c7
 replace H := Option.bind_eq_some_iff.mp H
 obtain ⟨t326, A100, H⟩ := H
 replace H : ((laws_toMarkS.f k l1).bind fun t329 => ((spec_MoveMarks.f k t326 t329).bind fun bt332 => ((laws_toPartS.f k l0).bind fun t336 => ((laws_toMarkS.f k l1).bind fun t339 => ((impl_MoveMarks.f k t336 t339).bind fun bt342 => ((laws_eqMarkS.f k bt342.1 bt332.1).bind fun t346 => (if t346 = true then (lZ.j0 k l0 l1 bt332.1 bt332.2 t336 t339 bt342.1 bt342.2 (bt342.2 != bt332.2)) else (lZ.j0 k l0 l1 bt332.1 bt332.2 t336 t339 bt342.1 bt342.2 true)))))))) = some r := H
 have A10 := aM A100
 clear A100
 replace H := Option.bind_eq_some_iff.mp H
 obtain ⟨t329, A110, H⟩ := H
 replace H : ((spec_MoveMarks.f k t326 t329).bind fun bt332 => ((laws_toPartS.f k l0).bind fun t336 => ((laws_toMarkS.f k l1).bind fun t339 => ((impl_MoveMarks.f k t336 t339).bind fun bt342 => ((laws_eqMarkS.f k bt342.1 bt332.1).bind fun t346 => (if t346 = true then (lZ.j0 k l0 l1 bt332.1 bt332.2 t336 t339 bt342.1 bt342.2 (bt342.2 != bt332.2)) else (lZ.j0 k l0 l1 bt332.1 bt332.2 t336 t339 bt342.1 bt342.2 true))))))) = some r := H
 have A11 := aM A110
 clear A110
 replace H := Option.bind_eq_some_iff.mp H
 obtain ⟨⟨t332, t333⟩, A120, H⟩ := H
 replace H : ((laws_toPartS.f k l0).bind fun t336 => ((laws_toMarkS.f k l1).bind fun t339 => ((impl_MoveMarks.f k t336 t339).bind fun bt342 => ((laws_eqMarkS.f k bt342.1 t332).bind fun t346 => (if t346 = true then (lZ.j0 k l0 l1 t332 t333 t336 t339 bt342.1 bt342.2 (bt342.2 != t333)) else (lZ.j0 k l0 l1 t332 t333 t336 t339 bt342.1 bt342.2 true)))))) = some r := H
 have A12 := aM A120
 clear A120
 replace H := Option.bind_eq_some_iff.mp H
 obtain ⟨t336, A130, H⟩ := H
 replace H : ((laws_toMarkS.f k l1).bind fun t339 => ((impl_MoveMarks.f k t336 t339).bind fun bt342 => ((laws_eqMarkS.f k bt342.1 t332).bind fun t346 => (if t346 = true then (lZ.j0 k l0 l1 t332 t333 t336 t339 bt342.1 bt342.2 (bt342.2 != t333)) else (lZ.j0 k l0 l1 t332 t333 t336 t339 bt342.1 bt342.2 true))))) = some r := H
 have A13 := aM A130
 clear A130
 replace H := Option.bind_eq_some_iff.mp H
 obtain ⟨t339, A140, H⟩ := H
 replace H : ((impl_MoveMarks.f k t336 t339).bind fun bt342 => ((laws_eqMarkS.f k bt342.1 t332).bind fun t346 => (if t346 = true then (lZ.j0 k l0 l1 t332 t333 t336 t339 bt342.1 bt342.2 (bt342.2 != t333)) else (lZ.j0 k l0 l1 t332 t333 t336 t339 bt342.1 bt342.2 true)))) = some r := H
 have A14 := aM A140
 clear A140
 replace H := Option.bind_eq_some_iff.mp H
 obtain ⟨⟨t342, t343⟩, A150, H⟩ := H
 replace H : ((laws_eqMarkS.f k t342 t332).bind fun t346 => (if t346 = true then (lZ.j0 k l0 l1 t332 t333 t336 t339 t342 t343 (t343 != t333)) else (lZ.j0 k l0 l1 t332 t333 t336 t339 t342 t343 true))) = some r := H
 have A15 := aM A150
 clear A150
 have HC16 := aM H
 clear H
 go_enter Try.func7, Try.ntmps7
 go_upto_region 12 with (first | ((with_reducible refine gate_callee (f := 27) rfl ?_); refine goesL_ (some 19) rfl rfl Try.func27 (by kernel_rfl) rfl #[.slice A0 l0.length c0, .int .i64 1048576] rfl mM ?_; (with_reducible refine (laws_szPartS.calls k _ _ l0 1048576 t324 _ ?side1 ?side2 A3.out).mono ?_); (case side1 => exact cC HR0.out); (case side2 => exact HC0.out); rintro e w17 ⟨rfl, hb⟩; refine ⟨_, rfl, ?_⟩; replace HB := aM (below_step bB hb); (try clear hb); (try clear hb2); (try clear hk); (try clear hi)) | ((with_reducible refine gate_callee (f := 11) rfl ?_); refine goesL_ (some 24) rfl rfl Try.func11 (by kernel_rfl) rfl #[.slice A1 l1.length c1, .int .i64 t324] rfl mM ?_; (with_reducible refine (laws_szMarkS.calls k _ _ l1 t324 t325 _ ?side1 ?side2 A6.out).mono ?_); (case side1 => exact cC (Kd.C_below HR1.out HB.out)); (case side2 => exact HC1.out); rintro e w18 ⟨rfl, hb⟩; refine ⟨_, rfl, ?_⟩; replace HB := aM (below_step bB hb); (try clear hb); (try clear hb2); (try clear hk); (try clear hi)) | ((with_reducible refine gate_callee (f := 29) rfl ?_); refine goesL_ (some 29) rfl rfl Try.func29 (by kernel_rfl) rfl #[.slice A0 l0.length c0] rfl mM ?_; (with_reducible refine (laws_toPartS.calls k _ _ l0 t326 _ ?side1 ?side2 A10.out).mono ?_); (case side1 => exact cC (Kd.C_below HR0.out HB.out)); (case side2 => exact HC0.out); rintro e w19 ⟨v327, rfl, ho0, hb⟩; refine ⟨_, rfl, ?_⟩; have HO328 := aM (Kd.R_lower ho0 (below_size bB)); replace HB := aM (below_step bB hb); (try clear hb); (try clear hb2); (try clear hk); (try clear hi); (try clear ho0)) | ((with_reducible refine gate_callee (f := 13) rfl ?_); refine goesL_ (some 31) rfl rfl Try.func13 (by kernel_rfl) rfl #[.slice A1 l1.length c1] rfl mM ?_; (with_reducible refine (laws_toMarkS.calls k _ _ l1 t329 _ ?side1 ?side2 A11.out).mono ?_); (case side1 => exact cC (Kd.C_below HR1.out HB.out)); (case side2 => exact HC1.out); rintro e w20 ⟨v330, rfl, ho0, hb⟩; refine ⟨_, rfl, ?_⟩; have HO331 := aM (Kd.R_lower ho0 (below_size bB)); replace HO328 := aM (Kd.R_below (rR HO328.out) hb); replace HB := aM (below_step bB hb); (try clear hb); (try clear hb2); (try clear hk); (try clear hi); (try clear ho0); obtain ⟨Ao21, co21, eo21⟩ := Kd.R_slice HO328.out; subst eo21; obtain ⟨Ao22, co22, eo22⟩ := Kd.R_slice HO331.out; subst eo22) | ((with_reducible refine gate_callee (f := 28) rfl ?_); refine goesL_ (some 32) rfl rfl Try.func28 (by kernel_rfl) rfl #[.slice Ao21 t326.length co21, .slice Ao22 t329.length co22] rfl mM ?_; (with_reducible refine (spec_MoveMarks.calls k _ _ t326 _ _ t329 t332 t333 _ ?side1 ?side2 ?side3 ?side4 A12.out).mono ?_); (case side1 => exact cC ((Kd.R_reads' HO328.out).2.2)); (case side2 => exact (Kd.R_reads' HO328.out).2.1); (case side3 => exact cC ((Kd.R_reads' HO331.out).2.2)); (case side4 => exact (Kd.R_reads' HO331.out).2.1); rintro e w23 ⟨v334, rfl, ho0, hb⟩; refine ⟨_, rfl, ?_⟩; have HO335 := aM (Kd.R_lower (Kd.R_new' ho0 (Kd.R_lt (rR HO331.out))) (below_size bB)); replace HO328 := aM (Kd.R_below (rR HO328.out) hb); replace HO331 := aM (Kd.R_elder' (rR HO331.out) (Kd.R_base ho0) hb); replace HB := aM (below_step bB hb); (try clear hb); (try clear hb2); (try clear hk); (try clear hi); (try clear ho0)) | ((with_reducible refine gate_callee (f := 29) rfl ?_); refine goesL_ (some 36) rfl rfl Try.func29 (by kernel_rfl) rfl #[.slice A0 l0.length c0] rfl mM ?_; (with_reducible refine (laws_toPartS.calls k _ _ l0 t336 _ ?side1 ?side2 A13.out).mono ?_); (case side1 => exact cC (Kd.C_below HR0.out HB.out)); (case side2 => exact HC0.out); rintro e w24 ⟨v337, rfl, ho0, hb⟩; refine ⟨_, rfl, ?_⟩; have HO338 := aM (Kd.R_lower (Kd.R_new' ho0 (Kd.R_lt (rR HO328.out))) (below_size bB)); replace HO328 := aM (Kd.R_elder' (rR HO328.out) (Kd.R_base ho0) hb); replace HO331 := aM (Kd.R_below (rR HO331.out) hb); replace HO335 := aM (Kd.R_below (rR HO335.out) hb); replace HB := aM (below_step bB hb); (try clear hb); (try clear hb2); (try clear hk); (try clear hi); (try clear ho0)) | ((with_reducible refine gate_callee (f := 13) rfl ?_); refine goesL_ (some 38) rfl rfl Try.func13 (by kernel_rfl) rfl #[.slice A1 l1.length c1] rfl mM ?_; (with_reducible refine (laws_toMarkS.calls k _ _ l1 t339 _ ?side1 ?side2 A14.out).mono ?_); (case side1 => exact cC (Kd.C_below HR1.out HB.out)); (case side2 => exact HC1.out); rintro e w25 ⟨v340, rfl, ho0, hb⟩; refine ⟨_, rfl, ?_⟩; have HO341 := aM (Kd.R_lower (Kd.R_new' (Kd.R_new' ho0 (Kd.R_lt (rR HO331.out))) (Kd.R_lt (rR HO335.out))) (below_size bB)); replace HO328 := aM (Kd.R_below (rR HO328.out) hb); replace HO331 := aM (Kd.R_elder' (rR HO331.out) (Kd.R_base ho0) hb); replace HO335 := aM (Kd.R_elder' (rR HO335.out) (Kd.R_base ho0) hb); replace HO338 := aM (Kd.R_below (rR HO338.out) hb); replace HB := aM (below_step bB hb); (try clear hb); (try clear hb2); (try clear hk); (try clear hi); (try clear ho0); obtain ⟨Ao26, co26, eo26⟩ := Kd.R_slice HO338.out; subst eo26; obtain ⟨Ao27, co27, eo27⟩ := Kd.R_slice HO341.out; subst eo27) | ((with_reducible refine gate_callee (f := 30) rfl ?_); refine goesL_ (some 42) rfl rfl Try.func30 (by kernel_rfl) rfl #[.slice Ao26 t336.length co26, .slice Ao27 t339.length co27] rfl mM ?_; (with_reducible refine (impl_MoveMarks.calls k _ _ t336 _ _ t339 t342 t343 _ ?side1 ?side2 ?side3 ?side4 A15.out).mono ?_); (case side1 => exact cC ((Kd.R_reads' HO338.out).2.2)); (case side2 => exact (Kd.R_reads' HO338.out).2.1); (case side3 => exact cC ((Kd.R_reads' HO341.out).2.2)); (case side4 => exact (Kd.R_reads' HO341.out).2.1); rintro e w28 ⟨v344, rfl, ho0, hb⟩; refine ⟨_, rfl, ?_⟩; have HO345 := aM (Kd.R_lower (Kd.R_new' (Kd.R_new' (Kd.R_new' ho0 (Kd.R_lt (rR HO331.out))) (Kd.R_lt (rR HO335.out))) (Kd.R_lt (rR HO341.out))) (below_size bB)); replace HO328 := aM (Kd.R_below (rR HO328.out) hb); replace HO331 := aM (Kd.R_elder' (rR HO331.out) (Kd.R_base ho0) hb); replace HO335 := aM (Kd.R_elder' (rR HO335.out) (Kd.R_base ho0) hb); replace HO338 := aM (Kd.R_below (rR HO338.out) hb); replace HO341 := aM (Kd.R_elder' (rR HO341.out) (Kd.R_base ho0) hb); replace HB := aM (below_step bB hb); (try clear hb); (try clear hb2); (try clear hk); (try clear hi); (try clear ho0)))
 (try simp only [Act.put, List.setIfInBounds_toArray, List.set_cons_zero, List.set_cons_succ])
 go_cut [53] (fun v53 wc => ∃ (kq : Nat) (x53_15 : Bool), v53 = .bool x53_15 ∧ Aside0 (lZ.j0 kq l0 l1 t332 t333 t336 t339 t342 t343 x53_15 = some r) ∧ Aside0 (kq ≤ k) ∧ Aside0 (Kd.R k67 67 wc w.heap.size (fun k_ => some k_ ≠ ((.slice Ao27 t339.length co27) : Value).ownBlock ∧ some k_ ≠ (v344 : Value).ownBlock) v334 t332) ∧ Aside0 (Kd.R k61 61 wc w.heap.size (fun _ => True) (.slice Ao26 t336.length co26) t336) ∧ Aside0 (Kd.R k67 67 wc w.heap.size (fun k_ => some k_ ≠ (v334 : Value).ownBlock ∧ some k_ ≠ (v344 : Value).ownBlock) (.slice Ao27 t339.length co27) t339) ∧ Aside0 (Kd.R k67 67 wc w.heap.size (fun k_ => some k_ ≠ (v334 : Value).ownBlock ∧ some k_ ≠ ((.slice Ao27 t339.length co27) : Value).ownBlock) v344 t342) ∧ Aside0 (Below w.heap.size w wc))
 case first =>
  have H := HC16.out
  clear HC16
  replace H := Option.bind_eq_some_iff.mp H
  obtain ⟨t346, A290, H⟩ := H
  replace H : (if t346 = true then (lZ.j0 k l0 l1 t332 t333 t336 t339 t342 t343 (t343 != t333)) else (lZ.j0 k l0 l1 t332 t333 t336 t339 t342 t343 true)) = some r := H
  have A29 := aM A290
  clear A290
  by_cases c30 : t346 = true
  ·subst c30
   replace H : (lZ.j0 k l0 l1 t332 t333 t336 t339 t342 t343 (t343 != t333)) = some r := by rw [if_pos rfl] at H; exact H
   have H' := aM H
   clear H
   obtain ⟨Ao31, co31, eo31⟩ := Kd.R_slice HO345.out
   subst eo31
   obtain ⟨Ao32, co32, eo32⟩ := Kd.R_slice HO335.out
   subst eo32
   go_wp2_with (first | ((with_reducible refine gate_callee (f := 15) rfl ?_); refine goesL_ (some 47) rfl rfl Try.func15 (by kernel_rfl) rfl #[.slice Ao31 t342.length co31, .slice Ao32 t332.length co32] rfl mM ?_; (with_reducible refine (laws_eqMarkS.calls k _ _ t342 _ _ t332 true _ ?side1 ?side2 ?side3 ?side4 A29.out).mono ?_); (case side1 => exact cC ((Kd.R_reads' HO345.out).2.2)); (case side2 => exact (Kd.R_reads' HO345.out).2.1); (case side3 => exact cC ((Kd.R_reads' HO335.out).2.2)); (case side4 => exact (Kd.R_reads' HO335.out).2.1); rintro e w33 ⟨rfl, hb⟩; refine ⟨_, rfl, ?_⟩; replace HO328 := aM (Kd.R_below (rR HO328.out) hb); replace HO331 := aM (Kd.R_below (rR HO331.out) hb); replace HO335 := aM (Kd.R_below (rR HO335.out) hb); replace HO338 := aM (Kd.R_below (rR HO338.out) hb); replace HO341 := aM (Kd.R_below (rR HO341.out) hb); replace HO345 := aM (Kd.R_below (rR HO345.out) hb); replace HB := aM (below_step bB hb); (try clear hb); (try clear hb2); (try clear hk); (try clear hi)))
   go_meet
   case rel => exact ⟨_, ((t343 != t333)), aP32, H', ⟨by first | omega | exact Nat.le_refl _⟩, ⟨by (with_reducible repeat (first | apply Kd.R_alloc | apply Kd.R_drewN | apply Kd.R_drew)); exact Kd.R_mono HO335.out (fun _ hk => ⟨hk.1.2, hk.2⟩)⟩, ⟨by (with_reducible repeat (first | apply Kd.R_alloc | apply Kd.R_drewN | apply Kd.R_drew)); exact Kd.R_mono HO338.out (fun _ hk => trivial)⟩, ⟨by (with_reducible repeat (first | apply Kd.R_alloc | apply Kd.R_drewN | apply Kd.R_drew)); exact Kd.R_mono HO341.out (fun _ hk => ⟨hk.1.2, hk.2⟩)⟩, ⟨by (with_reducible repeat (first | apply Kd.R_alloc | apply Kd.R_drewN | apply Kd.R_drew)); exact Kd.R_mono HO345.out (fun _ hk => ⟨hk.1.2, hk.2⟩)⟩, ⟨bB⟩⟩
  replace c30 := Bool.eq_false_iff.mpr c30
  subst c30
  replace H : (lZ.j0 k l0 l1 t332 t333 t336 t339 t342 t343 true) = some r := by rw [if_neg (show ¬ (false = true) by decide)] at H; exact H
  have H' := aM H
  clear H
  obtain ⟨Ao34, co34, eo34⟩ := Kd.R_slice HO345.out
  subst eo34
  obtain ⟨Ao35, co35, eo35⟩ := Kd.R_slice HO335.out
  subst eo35
  go_wp2_with (first | ((with_reducible refine gate_callee (f := 15) rfl ?_); refine goesL_ (some 47) rfl rfl Try.func15 (by kernel_rfl) rfl #[.slice Ao34 t342.length co34, .slice Ao35 t332.length co35] rfl mM ?_; (with_reducible refine (laws_eqMarkS.calls k _ _ t342 _ _ t332 false _ ?side1 ?side2 ?side3 ?side4 A29.out).mono ?_); (case side1 => exact cC ((Kd.R_reads' HO345.out).2.2)); (case side2 => exact (Kd.R_reads' HO345.out).2.1); (case side3 => exact cC ((Kd.R_reads' HO335.out).2.2)); (case side4 => exact (Kd.R_reads' HO335.out).2.1); rintro e w36 ⟨rfl, hb⟩; refine ⟨_, rfl, ?_⟩; replace HO328 := aM (Kd.R_below (rR HO328.out) hb); replace HO331 := aM (Kd.R_below (rR HO331.out) hb); replace HO335 := aM (Kd.R_below (rR HO335.out) hb); replace HO338 := aM (Kd.R_below (rR HO338.out) hb); replace HO341 := aM (Kd.R_below (rR HO341.out) hb); replace HO345 := aM (Kd.R_below (rR HO345.out) hb); replace HB := aM (below_step bB hb); (try clear hb); (try clear hb2); (try clear hk); (try clear hi)))
  go_meet
  case rel => exact ⟨_, (true), aP32, H', ⟨by first | omega | exact Nat.le_refl _⟩, ⟨by (with_reducible repeat (first | apply Kd.R_alloc | apply Kd.R_drewN | apply Kd.R_drew)); exact Kd.R_mono HO335.out (fun _ hk => ⟨hk.1.2, hk.2⟩)⟩, ⟨by (with_reducible repeat (first | apply Kd.R_alloc | apply Kd.R_drewN | apply Kd.R_drew)); exact Kd.R_mono HO338.out (fun _ hk => trivial)⟩, ⟨by (with_reducible repeat (first | apply Kd.R_alloc | apply Kd.R_drewN | apply Kd.R_drew)); exact Kd.R_mono HO341.out (fun _ hk => ⟨hk.1.2, hk.2⟩)⟩, ⟨by (with_reducible repeat (first | apply Kd.R_alloc | apply Kd.R_drewN | apply Kd.R_drew)); exact Kd.R_mono HO345.out (fun _ hk => ⟨hk.1.2, hk.2⟩)⟩, ⟨bB⟩⟩
 case rest =>
  clear HC16
  try clear c1
  try clear c2
  try clear p2
  try clear c3
  try clear c4
  try clear c4b0
  try clear c7
  try clear c7b0
  try clear c11
  try clear c13
  try clear c15
  try clear c27
  try clear c28
  try clear c29
  try clear c30
  obtain ⟨kq, x53_15, rfl, HA, HJ15, HO_6, HO_8, HO_9, HO_10, HB⟩ := hcut
  cases kq with
  | zero => exact absurd HA.out (by simp [lZ.j0])
  | succ kj15 =>
   have H := HA.out
   clear HA
   simp only [lZ.j0] at H
   by_cases c37 : x53_15 = true
   ·subst c37
    replace H : (some false) = some r := by rw [if_pos rfl] at H; exact H
    exact absurd ((Option.some.inj H).trans hrt_.out) (by decide)
   replace c37 := Bool.eq_false_iff.mpr c37
   subst c37
   replace H : ((laws_toPartS.f kj15 l0).bind fun t347 => ((laws_eqPartS.f kj15 t336 t347).bind fun t350 => (if t350 = true then ((laws_toMarkS.f kj15 l1).bind fun t351 => ((laws_eqMarkS.f kj15 t339 t351).bind fun t354 => (if t354 = true then ((laws_markPartS.f kj15 t336 1).bind fun bt355 => ((laws_markMarkS.f kj15 t339 bt355.1).bind fun bt357 => (if bt357.1 < 0 then (lZ.j1 kj15 l0 l1 t332 t333 t342 true) else ((laws_eqMarkS.f kj15 t342 t332).bind fun t359 => (if t359 = true then (lZ.j1 kj15 l0 l1 t332 t333 t342 (t343 != t333)) else (lZ.j1 kj15 l0 l1 t332 t333 t342 true)))))) else (some false)))) else (some false)))) = some r := by rw [if_neg (show ¬ (false = true) by decide)] at H; exact H
   replace H := Option.bind_eq_some_iff.mp H
   obtain ⟨t347, A380, H⟩ := H
   replace H : ((laws_eqPartS.f kj15 t336 t347).bind fun t350 => (if t350 = true then ((laws_toMarkS.f kj15 l1).bind fun t351 => ((laws_eqMarkS.f kj15 t339 t351).bind fun t354 => (if t354 = true then ((laws_markPartS.f kj15 t336 1).bind fun bt355 => ((laws_markMarkS.f kj15 t339 bt355.1).bind fun bt357 => (if bt357.1 < 0 then (lZ.j1 kj15 l0 l1 t332 t333 t342 true) else ((laws_eqMarkS.f kj15 t342 t332).bind fun t359 => (if t359 = true then (lZ.j1 kj15 l0 l1 t332 t333 t342 (t343 != t333)) else (lZ.j1 kj15 l0 l1 t332 t333 t342 true)))))) else (some false)))) else (some false))) = some r := H
   have A38 := aM A380
   clear A380
   replace H := Option.bind_eq_some_iff.mp H
   obtain ⟨t350, A390, H⟩ := H
   replace H : (if t350 = true then ((laws_toMarkS.f kj15 l1).bind fun t351 => ((laws_eqMarkS.f kj15 t339 t351).bind fun t354 => (if t354 = true then ((laws_markPartS.f kj15 t336 1).bind fun bt355 => ((laws_markMarkS.f kj15 t339 bt355.1).bind fun bt357 => (if bt357.1 < 0 then (lZ.j1 kj15 l0 l1 t332 t333 t342 true) else ((laws_eqMarkS.f kj15 t342 t332).bind fun t359 => (if t359 = true then (lZ.j1 kj15 l0 l1 t332 t333 t342 (t343 != t333)) else (lZ.j1 kj15 l0 l1 t332 t333 t342 true)))))) else (some false)))) else (some false)) = some r := H
   have A39 := aM A390
   clear A390
   by_cases c40 : t350 = true
   rotate_left
   ·replace c40 := Bool.eq_false_iff.mpr c40
    subst c40
    replace H : (some false) = some r := by rw [if_neg (show ¬ (false = true) by decide)] at H; exact H
    exact absurd ((Option.some.inj H).trans hrt_.out) (by decide)
   subst c40
   replace H : ((laws_toMarkS.f kj15 l1).bind fun t351 => ((laws_eqMarkS.f kj15 t339 t351).bind fun t354 => (if t354 = true then ((laws_markPartS.f kj15 t336 1).bind fun bt355 => ((laws_markMarkS.f kj15 t339 bt355.1).bind fun bt357 => (if bt357.1 < 0 then (lZ.j1 kj15 l0 l1 t332 t333 t342 true) else ((laws_eqMarkS.f kj15 t342 t332).bind fun t359 => (if t359 = true then (lZ.j1 kj15 l0 l1 t332 t333 t342 (t343 != t333)) else (lZ.j1 kj15 l0 l1 t332 t333 t342 true)))))) else (some false)))) = some r := by rw [if_pos rfl] at H; exact H
   replace H := Option.bind_eq_some_iff.mp H
   obtain ⟨t351, A410, H⟩ := H
   replace H : ((laws_eqMarkS.f kj15 t339 t351).bind fun t354 => (if t354 = true then ((laws_markPartS.f kj15 t336 1).bind fun bt355 => ((laws_markMarkS.f kj15 t339 bt355.1).bind fun bt357 => (if bt357.1 < 0 then (lZ.j1 kj15 l0 l1 t332 t333 t342 true) else ((laws_eqMarkS.f kj15 t342 t332).bind fun t359 => (if t359 = true then (lZ.j1 kj15 l0 l1 t332 t333 t342 (t343 != t333)) else (lZ.j1 kj15 l0 l1 t332 t333 t342 true)))))) else (some false))) = some r := H
   have A41 := aM A410
   clear A410
   replace H := Option.bind_eq_some_iff.mp H
   obtain ⟨t354, A420, H⟩ := H
   replace H : (if t354 = true then ((laws_markPartS.f kj15 t336 1).bind fun bt355 => ((laws_markMarkS.f kj15 t339 bt355.1).bind fun bt357 => (if bt357.1 < 0 then (lZ.j1 kj15 l0 l1 t332 t333 t342 true) else ((laws_eqMarkS.f kj15 t342 t332).bind fun t359 => (if t359 = true then (lZ.j1 kj15 l0 l1 t332 t333 t342 (t343 != t333)) else (lZ.j1 kj15 l0 l1 t332 t333 t342 true)))))) else (some false)) = some r := H
   have A42 := aM A420
   clear A420
   by_cases c43 : t354 = true
   rotate_left
   ·replace c43 := Bool.eq_false_iff.mpr c43
    subst c43
    replace H : (some false) = some r := by rw [if_neg (show ¬ (false = true) by decide)] at H; exact H
    exact absurd ((Option.some.inj H).trans hrt_.out) (by decide)
   subst c43
   replace H : ((laws_markPartS.f kj15 t336 1).bind fun bt355 => ((laws_markMarkS.f kj15 t339 bt355.1).bind fun bt357 => (if bt357.1 < 0 then (lZ.j1 kj15 l0 l1 t332 t333 t342 true) else ((laws_eqMarkS.f kj15 t342 t332).bind fun t359 => (if t359 = true then (lZ.j1 kj15 l0 l1 t332 t333 t342 (t343 != t333)) else (lZ.j1 kj15 l0 l1 t332 t333 t342 true)))))) = some r := by rw [if_pos rfl] at H; exact H
   replace H := Option.bind_eq_some_iff.mp H
   obtain ⟨⟨t355, t356⟩, A440, H⟩ := H
   replace H : ((laws_markMarkS.f kj15 t339 t355).bind fun bt357 => (if bt357.1 < 0 then (lZ.j1 kj15 l0 l1 t332 t333 t342 true) else ((laws_eqMarkS.f kj15 t342 t332).bind fun t359 => (if t359 = true then (lZ.j1 kj15 l0 l1 t332 t333 t342 (t343 != t333)) else (lZ.j1 kj15 l0 l1 t332 t333 t342 true))))) = some r := H
   have A44 := aM A440
   clear A440
   replace H := Option.bind_eq_some_iff.mp H
   obtain ⟨⟨t357, t358⟩, A450, H⟩ := H
   replace H : (if t357 < 0 then (lZ.j1 kj15 l0 l1 t332 t333 t342 true) else ((laws_eqMarkS.f kj15 t342 t332).bind fun t359 => (if t359 = true then (lZ.j1 kj15 l0 l1 t332 t333 t342 (t343 != t333)) else (lZ.j1 kj15 l0 l1 t332 t333 t342 true)))) = some r := H
   have A45 := aM A450
   clear A450
   have HC46 := aM H
   clear H
   go_upto_region 21 with (first | ((with_reducible refine gate_callee (f := 29) rfl ?_); refine goesL_ (some 56) rfl rfl Try.func29 (by kernel_rfl) rfl #[.slice A0 l0.length c0] rfl mM ?_; (with_reducible refine (laws_toPartS.calls kj15 _ _ l0 t347 _ ?side1 ?side2 A38.out).mono ?_); (case side1 => exact cC (Kd.C_below HR0.out HB.out)); (case side2 => exact HC0.out); rintro e w47 ⟨v348, rfl, ho0, hb⟩; refine ⟨_, rfl, ?_⟩; have HO349 := aM (Kd.R_lower (Kd.R_new' ho0 (Kd.R_lt (rR HO_8.out))) (below_size bB)); replace HO_6 := aM (Kd.R_below (rR HO_6.out) hb); replace HO_8 := aM (Kd.R_elder' (rR HO_8.out) (Kd.R_base ho0) hb); replace HO_9 := aM (Kd.R_below (rR HO_9.out) hb); replace HO_10 := aM (Kd.R_below (rR HO_10.out) hb); replace HB := aM (below_step bB hb); (try clear hb); (try clear hb2); (try clear hk); (try clear hi); (try clear ho0); obtain ⟨Ao48, co48, eo48⟩ := Kd.R_slice HO349.out; subst eo48) | ((with_reducible refine gate_callee (f := 31) rfl ?_); refine goesL_ (some 57) rfl rfl Try.func31 (by kernel_rfl) rfl #[.slice Ao26 t336.length co26, .slice Ao48 t347.length co48] rfl mM ?_; (with_reducible refine (laws_eqPartS.calls kj15 _ _ t336 _ _ t347 true _ ?side1 ?side2 ?side3 ?side4 A39.out).mono ?_); (case side1 => exact cC ((Kd.R_reads' HO_8.out).2.2)); (case side2 => exact (Kd.R_reads' HO_8.out).2.1); (case side3 => exact cC ((Kd.R_reads' HO349.out).2.2)); (case side4 => exact (Kd.R_reads' HO349.out).2.1); rintro e w49 ⟨rfl, hb⟩; refine ⟨_, rfl, ?_⟩; replace HO_6 := aM (Kd.R_below (rR HO_6.out) hb); replace HO_8 := aM (Kd.R_below (rR HO_8.out) hb); replace HO_9 := aM (Kd.R_below (rR HO_9.out) hb); replace HO_10 := aM (Kd.R_below (rR HO_10.out) hb); replace HO349 := aM (Kd.R_below (rR HO349.out) hb); replace HB := aM (below_step bB hb); (try clear hb); (try clear hb2); (try clear hk); (try clear hi)) | ((with_reducible refine gate_callee (f := 13) rfl ?_); refine goesL_ (some 61) rfl rfl Try.func13 (by kernel_rfl) rfl #[.slice A1 l1.length c1] rfl mM ?_; (with_reducible refine (laws_toMarkS.calls kj15 _ _ l1 t351 _ ?side1 ?side2 A41.out).mono ?_); (case side1 => exact cC (Kd.C_below HR1.out HB.out)); (case side2 => exact HC1.out); rintro e w50 ⟨v352, rfl, ho0, hb⟩; refine ⟨_, rfl, ?_⟩; have HO353 := aM (Kd.R_lower (Kd.R_new' (Kd.R_new' (Kd.R_new' ho0 (Kd.R_lt (rR HO_6.out))) (Kd.R_lt (rR HO_9.out))) (Kd.R_lt (rR HO_10.out))) (below_size bB)); replace HO_6 := aM (Kd.R_elder' (rR HO_6.out) (Kd.R_base ho0) hb); replace HO_8 := aM (Kd.R_below (rR HO_8.out) hb); replace HO_9 := aM (Kd.R_elder' (rR HO_9.out) (Kd.R_base ho0) hb); replace HO_10 := aM (Kd.R_elder' (rR HO_10.out) (Kd.R_base ho0) hb); replace HO349 := aM (Kd.R_below (rR HO349.out) hb); replace HB := aM (below_step bB hb); (try clear hb); (try clear hb2); (try clear hk); (try clear hi); (try clear ho0); obtain ⟨Ao51, co51, eo51⟩ := Kd.R_slice HO353.out; subst eo51) | ((with_reducible refine gate_callee (f := 15) rfl ?_); refine goesL_ (some 62) rfl rfl Try.func15 (by kernel_rfl) rfl #[.slice Ao27 t339.length co27, .slice Ao51 t351.length co51] rfl mM ?_; (with_reducible refine (laws_eqMarkS.calls kj15 _ _ t339 _ _ t351 true _ ?side1 ?side2 ?side3 ?side4 A42.out).mono ?_); (case side1 => exact cC ((Kd.R_reads' HO_9.out).2.2)); (case side2 => exact (Kd.R_reads' HO_9.out).2.1); (case side3 => exact cC ((Kd.R_reads' HO353.out).2.2)); (case side4 => exact (Kd.R_reads' HO353.out).2.1); rintro e w52 ⟨rfl, hb⟩; refine ⟨_, rfl, ?_⟩; replace HO_6 := aM (Kd.R_below (rR HO_6.out) hb); replace HO_8 := aM (Kd.R_below (rR HO_8.out) hb); replace HO_9 := aM (Kd.R_below (rR HO_9.out) hb); replace HO_10 := aM (Kd.R_below (rR HO_10.out) hb); replace HO349 := aM (Kd.R_below (rR HO349.out) hb); replace HO353 := aM (Kd.R_below (rR HO353.out) hb); replace HB := aM (below_step bB hb); (try clear hb); (try clear hb2); (try clear hk); (try clear hi)) | ((with_reducible refine gate_callee (f := 32) rfl ?_); refine goesL_ (some 66) rfl rfl Try.func32 (by kernel_rfl) rfl #[.slice Ao26 t336.length co26, .int .i64 1] rfl mM ?_; (with_reducible refine (laws_markPartS.calls kj15 (fun k_ => some k_ = (.slice Ao26 t336.length co26 : Value).ownBlock) (.slice Ao26 t336.length co26) t336 1 t355 t356 w _ ?side1 ?side2 A44.out).mono ?_); (case side1 => exact bB); (case side2 => exact Kd.R_tight rfl HO_8.out); rintro e w53 ⟨rfl, hy0, hb, hkp⟩; refine ⟨_, rfl, ?_⟩; have n0_ := aM (Kd.R_mono (ok' := fun k_ => some k_ ≠ (.slice Ao27 t339.length co27 : Value).ownBlock ∧ some k_ ≠ (v344 : Value).ownBlock ∧ some k_ ≠ (.slice Ao51 t351.length co51 : Value).ownBlock) (Kd.R_keptB ((Kd.R_apart' HO_6.out (Kd.R_typed HO_8.out) (by decide))) hkp (fun k_ hk_ hs_ => (hk_.2) hs_)) (fun k_ hk_ => ⟨hk_.1.1.1.1, hk_.1.1.1.2, hk_.1.1.2⟩)); have n1_ := aM (Kd.R_reok rfl hy0 (fun k_ e_ => HO_8.out.1 k_ e_)); have n2_ := aM (Kd.R_mono (ok' := fun k_ => some k_ ≠ (v334 : Value).ownBlock ∧ some k_ ≠ (v344 : Value).ownBlock ∧ some k_ ≠ (.slice Ao51 t351.length co51 : Value).ownBlock) (Kd.R_keptB ((Kd.R_apart' HO_9.out (Kd.R_typed HO_8.out) (by decide))) hkp (fun k_ hk_ hs_ => (hk_.2) hs_)) (fun k_ hk_ => ⟨hk_.1.1.1.1, hk_.1.1.1.2, hk_.1.1.2⟩)); have n3_ := aM (Kd.R_mono (ok' := fun k_ => some k_ ≠ (v334 : Value).ownBlock ∧ some k_ ≠ (.slice Ao27 t339.length co27 : Value).ownBlock ∧ some k_ ≠ (.slice Ao51 t351.length co51 : Value).ownBlock) (Kd.R_keptB ((Kd.R_apart' HO_10.out (Kd.R_typed HO_8.out) (by decide))) hkp (fun k_ hk_ hs_ => (hk_.2) hs_)) (fun k_ hk_ => ⟨hk_.1.1.1.1, hk_.1.1.1.2, hk_.1.1.2⟩)); have n4_ := aM (Kd.R_mono (ok' := fun k_ => some k_ ≠ (.slice Ao26 t336.length co26 : Value).ownBlock) (Kd.R_keptB (HO349.out) hkp (fun k_ hk_ hs_ => (hk_.2) hs_)) (fun k_ hk_ => hk_.1.2)); have n5_ := aM (Kd.R_mono (ok' := fun k_ => some k_ ≠ (v334 : Value).ownBlock ∧ some k_ ≠ (.slice Ao27 t339.length co27 : Value).ownBlock ∧ some k_ ≠ (v344 : Value).ownBlock) (Kd.R_keptB ((Kd.R_apart' HO353.out (Kd.R_typed HO_8.out) (by decide))) hkp (fun k_ hk_ hs_ => (hk_.2) hs_)) (fun k_ hk_ => ⟨hk_.1.1.1.1.2, hk_.1.1.1.2, hk_.1.1.2⟩)); have n6_ := aM (hb); clear HO_6; clear HO_8; clear HO_9; clear HO_10; clear HO349; clear HO353; clear HB; have HO_6 := n0_; have HO_8 := n1_; have HO_9 := n2_; have HO_10 := n3_; have HO349 := n4_; have HO353 := n5_; have HB := n6_; clear n0_ n1_ n2_ n3_ n4_ n5_ n6_; (try clear hb); (try clear hkp); (try clear hy0)) | ((with_reducible refine gate_callee (f := 21) rfl ?_); refine goesL_ (some 69) rfl rfl Try.func21 (by kernel_rfl) rfl #[.slice Ao27 t339.length co27, .int .i64 t355] rfl mM ?_; (with_reducible refine (laws_markMarkS.calls kj15 (fun k_ => some k_ = (.slice Ao27 t339.length co27 : Value).ownBlock) (.slice Ao27 t339.length co27) t339 t355 t357 t358 w _ ?side1 ?side2 A45.out).mono ?_); (case side1 => exact bB); (case side2 => exact Kd.R_tight rfl HO_9.out); rintro e w54 ⟨rfl, hy0, hb, hkp⟩; refine ⟨_, rfl, ?_⟩; have n0_ := aM (Kd.R_mono (ok' := fun k_ => some k_ ≠ (.slice Ao27 t339.length co27 : Value).ownBlock ∧ some k_ ≠ (v344 : Value).ownBlock ∧ some k_ ≠ (.slice Ao51 t351.length co51 : Value).ownBlock) (Kd.R_keptB (HO_6.out) hkp (fun k_ hk_ hs_ => (hk_.1) hs_)) (fun k_ hk_ => ⟨hk_.1.1, hk_.1.2.1, hk_.1.2.2⟩)); have n1_ := aM (Kd.R_mono (ok' := fun k_ => some k_ ≠ (.slice Ao48 t347.length co48 : Value).ownBlock) (Kd.R_keptB ((Kd.R_apart' HO_8.out (Kd.R_typed HO_9.out) (by decide))) hkp (fun k_ hk_ hs_ => (hk_.2) hs_)) (fun k_ hk_ => hk_.1.1.2)); have n2_ := aM (Kd.R_reok rfl hy0 (fun k_ e_ => HO_9.out.1 k_ e_)); have n3_ := aM (Kd.R_mono (ok' := fun k_ => some k_ ≠ (v334 : Value).ownBlock ∧ some k_ ≠ (.slice Ao27 t339.length co27 : Value).ownBlock ∧ some k_ ≠ (.slice Ao51 t351.length co51 : Value).ownBlock) (Kd.R_keptB (HO_10.out) hkp (fun k_ hk_ hs_ => (hk_.2.1) hs_)) (fun k_ hk_ => ⟨hk_.1.1, hk_.1.2.1, hk_.1.2.2⟩)); have n4_ := aM (Kd.R_mono (ok' := fun k_ => some k_ ≠ (.slice Ao26 t336.length co26 : Value).ownBlock) (Kd.R_keptB ((Kd.R_apart' HO349.out (Kd.R_typed HO_9.out) (by decide))) hkp (fun k_ hk_ hs_ => (hk_.2) hs_)) (fun k_ hk_ => hk_.1.1)); have n5_ := aM (Kd.R_mono (ok' := fun k_ => some k_ ≠ (v334 : Value).ownBlock ∧ some k_ ≠ (.slice Ao27 t339.length co27 : Value).ownBlock ∧ some k_ ≠ (v344 : Value).ownBlock) (Kd.R_keptB (HO353.out) hkp (fun k_ hk_ hs_ => (hk_.2.1) hs_)) (fun k_ hk_ => ⟨hk_.1.1, hk_.1.2.1, hk_.1.2.2⟩)); have n6_ := aM (hb); clear HO_6; clear HO_8; clear HO_9; clear HO_10; clear HO349; clear HO353; clear HB; have HO_6 := n0_; have HO_8 := n1_; have HO_9 := n2_; have HO_10 := n3_; have HO349 := n4_; have HO353 := n5_; have HB := n6_; clear n0_ n1_ n2_ n3_ n4_ n5_ n6_; (try clear hb); (try clear hkp); (try clear hy0)))
   (try simp only [Act.put, List.setIfInBounds_toArray, List.set_cons_zero, List.set_cons_succ])
   go_cut [82] (fun v82 wc => ∃ (kq : Nat) (x82_45 : Bool), v82 = .bool x82_45 ∧ Aside0 (lZ.j1 kq l0 l1 t332 t333 t342 x82_45 = some r) ∧ Aside0 (kq ≤ kj15) ∧ Aside0 (Kd.R k67 67 wc w.heap.size (fun k_ => some k_ ≠ (v344 : Value).ownBlock) v334 t332) ∧ Aside0 (Kd.R k67 67 wc w.heap.size (fun k_ => some k_ ≠ (v334 : Value).ownBlock) v344 t342) ∧ Aside0 (Below w.heap.size w wc))
   case first =>
    have H := HC46.out
    clear HC46
    by_cases c55 : t357 < 0
    ·rw [if_pos c55] at H
     have c55b0 : decide (t357 < 0) = true := decide_eq_true c55
     clear c55
     (first | rw [c55b0] | (simp only [i64_w, i32_w]; rw [c55b0]) | rw [c55e] | skip)
     have H' := aM H
     clear H
     go_wp2
     go_meet
     case rel => exact ⟨_, (true), aP32, H', ⟨by have := HJ15.out; first | omega | exact Nat.le_refl _⟩, ⟨by (with_reducible repeat (first | apply Kd.R_alloc | apply Kd.R_drewN | apply Kd.R_drew)); exact Kd.R_mono HO_6.out (fun _ hk => hk.2.1)⟩, ⟨by (with_reducible repeat (first | apply Kd.R_alloc | apply Kd.R_drewN | apply Kd.R_drew)); exact Kd.R_mono HO_10.out (fun _ hk => hk.1)⟩, ⟨bB⟩⟩
    rw [if_neg c55] at H
    have c55b0 : decide (t357 < 0) = false := decide_eq_false c55
    clear c55
    (first | rw [c55b0] | (simp only [i64_w, i32_w]; rw [c55b0]) | rw [c55e] | skip)
    replace H := Option.bind_eq_some_iff.mp H
    obtain ⟨t359, A560, H⟩ := H
    replace H : (if t359 = true then (lZ.j1 kj15 l0 l1 t332 t333 t342 (t343 != t333)) else (lZ.j1 kj15 l0 l1 t332 t333 t342 true)) = some r := H
    have A56 := aM A560
    clear A560
    by_cases c57 : t359 = true
    ·subst c57
     replace H : (lZ.j1 kj15 l0 l1 t332 t333 t342 (t343 != t333)) = some r := by rw [if_pos rfl] at H; exact H
     have H' := aM H
     clear H
     obtain ⟨Ao58, co58, eo58⟩ := Kd.R_slice HO_10.out
     subst eo58
     obtain ⟨Ao59, co59, eo59⟩ := Kd.R_slice HO_6.out
     subst eo59
     go_wp2_with (first | (go_at_call 15; (with_reducible refine (laws_eqMarkS.calls kj15 _ _ t342 _ _ t332 true _ ?side1 ?side2 ?side3 ?side4 A56.out).mono ?_); (case side1 => exact cC ((Kd.R_reads' HO_10.out).2.2)); (case side2 => exact (Kd.R_reads' HO_10.out).2.1); (case side3 => exact cC ((Kd.R_reads' HO_6.out).2.2)); (case side4 => exact (Kd.R_reads' HO_6.out).2.1); rintro e w60 ⟨rfl, hb⟩; replace HO_6 := aM (Kd.R_below (rR HO_6.out) hb); replace HO_8 := aM (Kd.R_below (rR HO_8.out) hb); replace HO_9 := aM (Kd.R_below (rR HO_9.out) hb); replace HO_10 := aM (Kd.R_below (rR HO_10.out) hb); replace HO349 := aM (Kd.R_below (rR HO349.out) hb); replace HO353 := aM (Kd.R_below (rR HO353.out) hb); replace HB := aM (below_step bB hb); (try clear hb); (try clear hb2); (try clear hk); (try clear hi)))
     go_meet
     case rel => exact ⟨_, ((t343 != t333)), aP32, H', ⟨by have := HJ15.out; first | omega | exact Nat.le_refl _⟩, ⟨by (with_reducible repeat (first | apply Kd.R_alloc | apply Kd.R_drewN | apply Kd.R_drew)); exact Kd.R_mono HO_6.out (fun _ hk => hk.2.1)⟩, ⟨by (with_reducible repeat (first | apply Kd.R_alloc | apply Kd.R_drewN | apply Kd.R_drew)); exact Kd.R_mono HO_10.out (fun _ hk => hk.1)⟩, ⟨bB⟩⟩
    replace c57 := Bool.eq_false_iff.mpr c57
    subst c57
    replace H : (lZ.j1 kj15 l0 l1 t332 t333 t342 true) = some r := by rw [if_neg (show ¬ (false = true) by decide)] at H; exact H
    have H' := aM H
    clear H
    obtain ⟨Ao61, co61, eo61⟩ := Kd.R_slice HO_10.out
    subst eo61
    obtain ⟨Ao62, co62, eo62⟩ := Kd.R_slice HO_6.out
    subst eo62
    go_wp2_with (first | (go_at_call 15; (with_reducible refine (laws_eqMarkS.calls kj15 _ _ t342 _ _ t332 false _ ?side1 ?side2 ?side3 ?side4 A56.out).mono ?_); (case side1 => exact cC ((Kd.R_reads' HO_10.out).2.2)); (case side2 => exact (Kd.R_reads' HO_10.out).2.1); (case side3 => exact cC ((Kd.R_reads' HO_6.out).2.2)); (case side4 => exact (Kd.R_reads' HO_6.out).2.1); rintro e w63 ⟨rfl, hb⟩; replace HO_6 := aM (Kd.R_below (rR HO_6.out) hb); replace HO_8 := aM (Kd.R_below (rR HO_8.out) hb); replace HO_9 := aM (Kd.R_below (rR HO_9.out) hb); replace HO_10 := aM (Kd.R_below (rR HO_10.out) hb); replace HO349 := aM (Kd.R_below (rR HO349.out) hb); replace HO353 := aM (Kd.R_below (rR HO353.out) hb); replace HB := aM (below_step bB hb); (try clear hb); (try clear hb2); (try clear hk); (try clear hi)))
    go_meet
    case rel => exact ⟨_, (true), aP32, H', ⟨by have := HJ15.out; first | omega | exact Nat.le_refl _⟩, ⟨by (with_reducible repeat (first | apply Kd.R_alloc | apply Kd.R_drewN | apply Kd.R_drew)); exact Kd.R_mono HO_6.out (fun _ hk => hk.2.1)⟩, ⟨by (with_reducible repeat (first | apply Kd.R_alloc | apply Kd.R_drewN | apply Kd.R_drew)); exact Kd.R_mono HO_10.out (fun _ hk => hk.1)⟩, ⟨bB⟩⟩
   case rest =>
    clear HC46
    try clear c1
    try clear c2
    try clear p2
    try clear c3
    try clear c4
    try clear c4b0
    try clear c5
    try clear c7
    try clear c7b0
    try clear c11
    try clear c13
    try clear c15
    try clear c21
    try clear c27
    try clear c28
    try clear c29
    try clear c30
    try clear c31
    try clear c32
    try clear c37
    try clear c40
    try clear c43
    try clear c55
    try clear c55b0
    try clear c57
    try clear p2
    obtain ⟨kq, x82_45, rfl, HA, HJ45, HO_6, HO_10, HB⟩ := hcut
    cases kq with
    | zero => exact absurd HA.out (by simp [lZ.j1])
    | succ kj45 =>
     have H := HA.out
     clear HA
     simp only [lZ.j1] at H
     by_cases c64 : x82_45 = true
     ·subst c64
      replace H : (some false) = some r := by rw [if_pos rfl] at H; exact H
      exact absurd ((Option.some.inj H).trans hrt_.out) (by decide)
     replace c64 := Bool.eq_false_iff.mpr c64
     subst c64
     replace H : ((laws_markMarkS.f kj45 t342 1).bind fun bt360 => ((laws_heldMarkS.f kj45 bt360.2 1).bind fun t362 => (if t362 < 0 then (some false) else (if t362 = bt360.1 then ((laws_toPartS.f kj45 l0).bind fun t363 => ((laws_toMarkS.f kj45 l1).bind fun t366 => ((impl_MoveMarks.f kj45 t363 t366).bind fun bt369 => ((laws_eqMarkS.f kj45 bt369.1 t332).bind fun t373 => (if t373 = true then (lZ.j2 kj45 bt360.2 bt360.1 (bt369.2 != t333)) else (lZ.j2 kj45 bt360.2 bt360.1 true)))))) else (some false))))) = some r := by rw [if_neg (show ¬ (false = true) by decide)] at H; exact H
     replace H := Option.bind_eq_some_iff.mp H
     obtain ⟨⟨t360, t361⟩, A650, H⟩ := H
     replace H : ((laws_heldMarkS.f kj45 t361 1).bind fun t362 => (if t362 < 0 then (some false) else (if t362 = t360 then ((laws_toPartS.f kj45 l0).bind fun t363 => ((laws_toMarkS.f kj45 l1).bind fun t366 => ((impl_MoveMarks.f kj45 t363 t366).bind fun bt369 => ((laws_eqMarkS.f kj45 bt369.1 t332).bind fun t373 => (if t373 = true then (lZ.j2 kj45 t361 t360 (bt369.2 != t333)) else (lZ.j2 kj45 t361 t360 true)))))) else (some false)))) = some r := H
     have A65 := aM A650
     clear A650
     replace H := Option.bind_eq_some_iff.mp H
     obtain ⟨t362, A660, H⟩ := H
     replace H : (if t362 < 0 then (some false) else (if t362 = t360 then ((laws_toPartS.f kj45 l0).bind fun t363 => ((laws_toMarkS.f kj45 l1).bind fun t366 => ((impl_MoveMarks.f kj45 t363 t366).bind fun bt369 => ((laws_eqMarkS.f kj45 bt369.1 t332).bind fun t373 => (if t373 = true then (lZ.j2 kj45 t361 t360 (bt369.2 != t333)) else (lZ.j2 kj45 t361 t360 true)))))) else (some false))) = some r := H
     have A66 := aM A660
     clear A660
     by_cases c67 : t362 < 0
     ·rw [if_pos c67] at H
      have c67b0 : decide (t362 < 0) = true := decide_eq_true c67
      clear c67
      exact absurd ((Option.some.inj H).trans hrt_.out) (by decide)
     rw [if_neg c67] at H
     have c67b0 : decide (t362 < 0) = false := decide_eq_false c67
     clear c67
     by_cases c71 : t362 = t360
     rotate_left
     ·rw [if_neg c71] at H
      have c71b0 : (t362 == t360) = false := beq_eq_false_iff_ne.mpr c71
      have c71b1 : (t362 != t360) = true := bne_iff_ne.mpr c71
      exact absurd ((Option.some.inj H).trans hrt_.out) (by decide)
     rw [if_pos c71] at H
     have c71b0 : (t362 == t360) = true := beq_iff_eq.mpr c71
     have c71b1 : (t362 != t360) = false := bne_eq_false_iff_eq.mpr c71
     clear c71
     replace H := Option.bind_eq_some_iff.mp H
     obtain ⟨t363, A720, H⟩ := H
     replace H : ((laws_toMarkS.f kj45 l1).bind fun t366 => ((impl_MoveMarks.f kj45 t363 t366).bind fun bt369 => ((laws_eqMarkS.f kj45 bt369.1 t332).bind fun t373 => (if t373 = true then (lZ.j2 kj45 t361 t360 (bt369.2 != t333)) else (lZ.j2 kj45 t361 t360 true))))) = some r := H
     have A72 := aM A720
     clear A720
     replace H := Option.bind_eq_some_iff.mp H
     obtain ⟨t366, A730, H⟩ := H
     replace H : ((impl_MoveMarks.f kj45 t363 t366).bind fun bt369 => ((laws_eqMarkS.f kj45 bt369.1 t332).bind fun t373 => (if t373 = true then (lZ.j2 kj45 t361 t360 (bt369.2 != t333)) else (lZ.j2 kj45 t361 t360 true)))) = some r := H
     have A73 := aM A730
     clear A730
     replace H := Option.bind_eq_some_iff.mp H
     obtain ⟨⟨t369, t370⟩, A740, H⟩ := H
     replace H : ((laws_eqMarkS.f kj45 t369 t332).bind fun t373 => (if t373 = true then (lZ.j2 kj45 t361 t360 (t370 != t333)) else (lZ.j2 kj45 t361 t360 true))) = some r := H
     have A74 := aM A740
     clear A740
     have HC75 := aM H
     clear H
     obtain ⟨Ao76, co76, eo76⟩ := Kd.R_slice HO_10.out
     subst eo76
     go_upto_region 32 with (first | ((with_reducible refine gate_callee (f := 21) rfl ?_); refine goesL_ (some 85) rfl rfl Try.func21 (by kernel_rfl) rfl #[.slice Ao76 t342.length co76, .int .i64 1] rfl mM ?_; (with_reducible refine (laws_markMarkS.calls kj45 (fun k_ => some k_ = (.slice Ao76 t342.length co76 : Value).ownBlock) (.slice Ao76 t342.length co76) t342 1 t360 t361 w _ ?side1 ?side2 A65.out).mono ?_); (case side1 => exact bB); (case side2 => exact Kd.R_tight rfl HO_10.out); rintro e w77 ⟨rfl, hy0, hb, hkp⟩; refine ⟨_, rfl, ?_⟩; replace HO_6 := aM (Kd.R_mono (ok' := fun k_ => some k_ ≠ (.slice Ao76 t342.length co76 : Value).ownBlock) (Kd.R_keptB (HO_6.out) hkp (fun k_ hk_ hs_ => (hk_) hs_)) (fun k_ hk_ => hk_.1)); replace HO_10 := aM (Kd.R_reok rfl hy0 (fun k_ e_ => HO_10.out.1 k_ e_)); replace HB := aM (hb); (try clear hb); (try clear hkp); (try clear hy0)) | ((with_reducible refine gate_callee (f := 26) rfl ?_); refine goesL_ (some 88) rfl rfl Try.func26 (by kernel_rfl) rfl #[.slice Ao76 t361.length co76, .int .i64 1] rfl (by (try simp only [List.map_toArray, List.map_cons, List.map_nil]); first | done | (rw [show t361.length = t342.length from (Kd.R_reads' HO_10.out).1.symm] <;> rfl) | rfl | (simp only [List.length_drop, List.length_take]; rfl)) ?_; (with_reducible refine (laws_heldMarkS.calls kj45 _ _ t361 1 t362 _ ?side1 ?side2 A66.out).mono ?_); (case side1 => exact cC ((Kd.R_reads' HO_10.out).2.2)); (case side2 => rw [show t361.length = t342.length from (Kd.R_reads' HO_10.out).1.symm]; exact (Kd.R_reads' HO_10.out).2.1); rintro e w78 ⟨rfl, hb⟩; refine ⟨_, rfl, ?_⟩; replace HO_6 := aM (Kd.R_below (rR HO_6.out) hb); replace HO_10 := aM (Kd.R_below (rR HO_10.out) hb); replace HB := aM (below_step bB hb); (try clear hb); (try clear hb2); (try clear hk); (try clear hi)) | ((with_reducible refine gate_callee (f := 29) rfl ?_); refine goesL_ (some 96) rfl rfl Try.func29 (by kernel_rfl) rfl #[.slice A0 l0.length c0] rfl mM ?_; (with_reducible refine (laws_toPartS.calls kj45 _ _ l0 t363 _ ?side1 ?side2 A72.out).mono ?_); (case side1 => exact cC (Kd.C_below HR0.out HB.out)); (case side2 => exact HC0.out); rintro e w79 ⟨v364, rfl, ho0, hb⟩; refine ⟨_, rfl, ?_⟩; have HO365 := aM (Kd.R_lower ho0 (below_size bB)); replace HO_6 := aM (Kd.R_below (rR HO_6.out) hb); replace HO_10 := aM (Kd.R_below (rR HO_10.out) hb); replace HB := aM (below_step bB hb); (try clear hb); (try clear hb2); (try clear hk); (try clear hi); (try clear ho0)) | ((with_reducible refine gate_callee (f := 13) rfl ?_); refine goesL_ (some 98) rfl rfl Try.func13 (by kernel_rfl) rfl #[.slice A1 l1.length c1] rfl mM ?_; (with_reducible refine (laws_toMarkS.calls kj45 _ _ l1 t366 _ ?side1 ?side2 A73.out).mono ?_); (case side1 => exact cC (Kd.C_below HR1.out HB.out)); (case side2 => exact HC1.out); rintro e w80 ⟨v367, rfl, ho0, hb⟩; refine ⟨_, rfl, ?_⟩; have HO368 := aM (Kd.R_lower (Kd.R_new' (Kd.R_new' ho0 (Kd.R_lt (rR HO_6.out))) (Kd.R_lt (rR HO_10.out))) (below_size bB)); replace HO_6 := aM (Kd.R_elder' (rR HO_6.out) (Kd.R_base ho0) hb); replace HO_10 := aM (Kd.R_elder' (rR HO_10.out) (Kd.R_base ho0) hb); replace HO365 := aM (Kd.R_below (rR HO365.out) hb); replace HB := aM (below_step bB hb); (try clear hb); (try clear hb2); (try clear hk); (try clear hi); (try clear ho0); obtain ⟨Ao81, co81, eo81⟩ := Kd.R_slice HO365.out; subst eo81; obtain ⟨Ao82, co82, eo82⟩ := Kd.R_slice HO368.out; subst eo82) | ((with_reducible refine gate_callee (f := 30) rfl ?_); refine goesL_ (some 99) rfl rfl Try.func30 (by kernel_rfl) rfl #[.slice Ao81 t363.length co81, .slice Ao82 t366.length co82] rfl mM ?_; (with_reducible refine (impl_MoveMarks.calls kj45 _ _ t363 _ _ t366 t369 t370 _ ?side1 ?side2 ?side3 ?side4 A74.out).mono ?_); (case side1 => exact cC ((Kd.R_reads' HO365.out).2.2)); (case side2 => exact (Kd.R_reads' HO365.out).2.1); (case side3 => exact cC ((Kd.R_reads' HO368.out).2.2)); (case side4 => exact (Kd.R_reads' HO368.out).2.1); rintro e w83 ⟨v371, rfl, ho0, hb⟩; refine ⟨_, rfl, ?_⟩; have HO372 := aM (Kd.R_lower (Kd.R_new' (Kd.R_new' (Kd.R_new' ho0 (Kd.R_lt (rR HO_6.out))) (Kd.R_lt (rR HO_10.out))) (Kd.R_lt (rR HO368.out))) (below_size bB)); replace HO_6 := aM (Kd.R_elder' (rR HO_6.out) (Kd.R_base ho0) hb); replace HO_10 := aM (Kd.R_elder' (rR HO_10.out) (Kd.R_base ho0) hb); replace HO365 := aM (Kd.R_below (rR HO365.out) hb); replace HO368 := aM (Kd.R_elder' (rR HO368.out) (Kd.R_base ho0) hb); replace HB := aM (below_step bB hb); (try clear hb); (try clear hb2); (try clear hk); (try clear hi); (try clear ho0)))
     (try simp only [Act.put, List.setIfInBounds_toArray, List.set_cons_zero, List.set_cons_succ])
     go_cut [110] (fun v110 wc => ∃ (kq : Nat) (x110_74 : Bool), v110 = .bool x110_74 ∧ Aside0 (lZ.j2 kq t361 t360 x110_74 = some r) ∧ Aside0 (kq ≤ kj45) ∧ Aside0 (Kd.R k67 67 wc w.heap.size (fun _ => True) (.slice Ao76 t342.length co76) t361) ∧ Aside0 (Below w.heap.size w wc))
     case first =>
      have H := HC75.out
      clear HC75
      replace H := Option.bind_eq_some_iff.mp H
      obtain ⟨t373, A840, H⟩ := H
      replace H : (if t373 = true then (lZ.j2 kj45 t361 t360 (t370 != t333)) else (lZ.j2 kj45 t361 t360 true)) = some r := H
      have A84 := aM A840
      clear A840
      by_cases c85 : t373 = true
      ·subst c85
       replace H : (lZ.j2 kj45 t361 t360 (t370 != t333)) = some r := by rw [if_pos rfl] at H; exact H
       have H' := aM H
       clear H
       obtain ⟨Ao86, co86, eo86⟩ := Kd.R_slice HO372.out
       subst eo86
       obtain ⟨Ao87, co87, eo87⟩ := Kd.R_slice HO_6.out
       subst eo87
       go_wp2_with (first | ((with_reducible refine gate_callee (f := 15) rfl ?_); refine goesL_ (some 104) rfl rfl Try.func15 (by kernel_rfl) rfl #[.slice Ao86 t369.length co86, .slice Ao87 t332.length co87] rfl mM ?_; (with_reducible refine (laws_eqMarkS.calls kj45 _ _ t369 _ _ t332 true _ ?side1 ?side2 ?side3 ?side4 A84.out).mono ?_); (case side1 => exact cC ((Kd.R_reads' HO372.out).2.2)); (case side2 => exact (Kd.R_reads' HO372.out).2.1); (case side3 => exact cC ((Kd.R_reads' HO_6.out).2.2)); (case side4 => exact (Kd.R_reads' HO_6.out).2.1); rintro e w88 ⟨rfl, hb⟩; refine ⟨_, rfl, ?_⟩; replace HO_6 := aM (Kd.R_below (rR HO_6.out) hb); replace HO_10 := aM (Kd.R_below (rR HO_10.out) hb); replace HO365 := aM (Kd.R_below (rR HO365.out) hb); replace HO368 := aM (Kd.R_below (rR HO368.out) hb); replace HO372 := aM (Kd.R_below (rR HO372.out) hb); replace HB := aM (below_step bB hb); (try clear hb); (try clear hb2); (try clear hk); (try clear hi)))
       go_meet
       case rel => exact ⟨_, ((t370 != t333)), aP32, H', ⟨by have := HJ15.out; have := HJ45.out; first | omega | exact Nat.le_refl _⟩, ⟨by (with_reducible repeat (first | apply Kd.R_alloc | apply Kd.R_drewN | apply Kd.R_drew)); exact Kd.R_mono HO_10.out (fun _ hk => trivial)⟩, ⟨bB⟩⟩
      replace c85 := Bool.eq_false_iff.mpr c85
      subst c85
      replace H : (lZ.j2 kj45 t361 t360 true) = some r := by rw [if_neg (show ¬ (false = true) by decide)] at H; exact H
      have H' := aM H
      clear H
      obtain ⟨Ao89, co89, eo89⟩ := Kd.R_slice HO372.out
      subst eo89
      obtain ⟨Ao90, co90, eo90⟩ := Kd.R_slice HO_6.out
      subst eo90
      go_wp2_with (first | ((with_reducible refine gate_callee (f := 15) rfl ?_); refine goesL_ (some 104) rfl rfl Try.func15 (by kernel_rfl) rfl #[.slice Ao89 t369.length co89, .slice Ao90 t332.length co90] rfl mM ?_; (with_reducible refine (laws_eqMarkS.calls kj45 _ _ t369 _ _ t332 false _ ?side1 ?side2 ?side3 ?side4 A84.out).mono ?_); (case side1 => exact cC ((Kd.R_reads' HO372.out).2.2)); (case side2 => exact (Kd.R_reads' HO372.out).2.1); (case side3 => exact cC ((Kd.R_reads' HO_6.out).2.2)); (case side4 => exact (Kd.R_reads' HO_6.out).2.1); rintro e w91 ⟨rfl, hb⟩; refine ⟨_, rfl, ?_⟩; replace HO_6 := aM (Kd.R_below (rR HO_6.out) hb); replace HO_10 := aM (Kd.R_below (rR HO_10.out) hb); replace HO365 := aM (Kd.R_below (rR HO365.out) hb); replace HO368 := aM (Kd.R_below (rR HO368.out) hb); replace HO372 := aM (Kd.R_below (rR HO372.out) hb); replace HB := aM (below_step bB hb); (try clear hb); (try clear hb2); (try clear hk); (try clear hi)))
      go_meet
      case rel => exact ⟨_, (true), aP32, H', ⟨by have := HJ15.out; have := HJ45.out; first | omega | exact Nat.le_refl _⟩, ⟨by (with_reducible repeat (first | apply Kd.R_alloc | apply Kd.R_drewN | apply Kd.R_drew)); exact Kd.R_mono HO_10.out (fun _ hk => trivial)⟩, ⟨bB⟩⟩
     case rest =>
      clear HC75
      try clear c1
      try clear c2
      try clear p2
      try clear c3
      try clear c4
      try clear c4b0
      try clear c5
      try clear c6
      try clear c7
      try clear c7b0
      try clear c8
      try clear c11
      try clear c13
      try clear c15
      try clear c21
      try clear c26
      try clear c27
      try clear c28
      try clear c29
      try clear c30
      try clear c31
      try clear c32
      try clear c37
      try clear c40
      try clear c43
      try clear c55
      try clear c55b0
      try clear c57
      try clear c64
      try clear c67
      try clear c67b0
      try clear c71
      try clear c71b0
      try clear c71b1
      try clear c85
      try clear p2
      obtain ⟨kq, x110_74, rfl, HA, HJ74, HO_10, HB⟩ := hcut
      have hl10_74 := (Kd.R_reads' HO_10.out).1
      rw [hl10_74] at HO_10
      (try simp only [hl10_74])
      cases kq with
      | zero => exact absurd HA.out (by simp [lZ.j2])
      | succ kj74 =>
       have H := HA.out
       clear HA
       simp only [lZ.j2] at H
       by_cases c92 : x110_74 = true
       ·subst c92
        replace H : (some false) = some r := by rw [if_pos rfl] at H; exact H
        exact absurd ((Option.some.inj H).trans hrt_.out) (by decide)
       replace c92 := Bool.eq_false_iff.mpr c92
       subst c92
       replace H : ((laws_heldMarkS.f kj74 t361 1).bind fun t374 => (if t374 < 0 then (some false) else (if t374 = t360 then (some true) else (some false)))) = some r := by rw [if_neg (show ¬ (false = true) by decide)] at H; exact H
       replace H := Option.bind_eq_some_iff.mp H
       obtain ⟨t374, A930, H⟩ := H
       replace H : (if t374 < 0 then (some false) else (if t374 = t360 then (some true) else (some false))) = some r := H
       have A93 := aM A930
       clear A930
       by_cases c94 : t374 < 0
       ·rw [if_pos c94] at H
        have c94b0 : decide (t374 < 0) = true := decide_eq_true c94
        clear c94
        exact absurd ((Option.some.inj H).trans hrt_.out) (by decide)
       rw [if_neg c94] at H
       have c94b0 : decide (t374 < 0) = false := decide_eq_false c94
       clear c94
       by_cases c96 : t374 = t360
       rotate_left
       ·rw [if_neg c96] at H
        have c96b0 : (t374 == t360) = false := beq_eq_false_iff_ne.mpr c96
        have c96b1 : (t374 != t360) = true := bne_iff_ne.mpr c96
        exact absurd ((Option.some.inj H).trans hrt_.out) (by decide)
       rw [if_pos c96] at H
       have c96b0 : (t374 == t360) = true := beq_iff_eq.mpr c96
       have c96b1 : (t374 != t360) = false := bne_eq_false_iff_eq.mpr c96
       clear c96
       obtain rfl := Option.some.inj H
       go_wp2_with (first | ((with_reducible refine gate_callee (f := 26) rfl ?_); refine goesL_ (some 113) rfl rfl Try.func26 (by kernel_rfl) rfl #[.slice Ao76 t361.length co76, .int .i64 1] rfl mM ?_; (with_reducible refine (laws_heldMarkS.calls kj74 _ _ t361 1 t374 _ ?side1 ?side2 A93.out).mono ?_); (case side1 => exact cC ((Kd.R_reads' HO_10.out).2.2)); (case side2 => exact (Kd.R_reads' HO_10.out).2.1); rintro e w97 ⟨rfl, hb⟩; refine ⟨_, rfl, ?_⟩; replace HO_10 := aM (Kd.R_below (rR HO_10.out) hb); replace HB := aM (below_step bB hb); (try clear hb); (try clear hb2); (try clear hk); (try clear hi)))
       go_ret
       exact ⟨eR, bB⟩
def lZ.Pure : Prop := ∀ (l0 : List (S77)) (l1 : List (S64)), l0.length ≤ 9223372036854775807 → (∀ x ∈ l0, ((Lit.int .i64 x.f0).wf = true ∧ x.f1.size ≤ 9223372036854775807 ∧ x.f2.size ≤ 9223372036854775807)) → l1.length ≤ 9223372036854775807 → (∀ x ∈ l1, ((Lit.int .i64 x.f0).wf = true ∧ (Lit.int .i64 x.f1).wf = true ∧ x.f2.size ≤ 9223372036854775807)) → ∃ k, lZ.f k l0 l1 = some true
theorem lZ.walk (P : lZ.Pure) (a0 : Option Addr) (len0 cap0 : Nat) (l0 : List (S77)) (a1 : Option Addr) (len1 cap1 : Nat) (l1 : List (S64)) (w : World) (w0 : Read.IsRows k77 (fun x => ((Lit.int .i64 x.f0).wf = true ∧ x.f1.size ≤ 9223372036854775807 ∧ x.f2.size ≤ 9223372036854775807)) w a0 len0 cap0 l0) (w1 : Read.IsRows k64 (fun x => ((Lit.int .i64 x.f0).wf = true ∧ (Lit.int .i64 x.f1).wf = true ∧ x.f2.size ≤ 9223372036854775807)) w a1 len1 cap1 l1) :
  Calls Try.prog 7 #[.slice a0 len0 cap0, .slice a1 len1 cap1] w fun e w' => e = .returned (.bool true) ∧ Below w.heap.size w w' := by
 obtain ⟨e0, hc0, hr0, hm0, hw0⟩ := w0
 subst e0
 obtain ⟨e1, hc1, hr1, hm1, hw1⟩ := w1
 subst e1
 obtain ⟨k, h⟩ := P l0 l1 hm0 hw0 hm1 hw1
 refine (lZ.calls k _ _ l0 _ _ l1 true rfl w hr0 hc0 hr1 hc1 h).mono ?_
 rintro e w' ⟨rfl, hd⟩
 exact ⟨rfl, hd⟩
end Go.Proofs.Ytmhcmcdppimcpaa.PFnExactMoveMarks
