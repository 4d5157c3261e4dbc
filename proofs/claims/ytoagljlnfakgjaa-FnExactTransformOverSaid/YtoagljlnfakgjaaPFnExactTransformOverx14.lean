/- (thin) Written by a program of this session (wip/ovl.py) over the kit's print: plain functions with the answers of the Go functions, and the proofs that they are; no condition. -/
import Derived.Test.YtoagljlnfakgjaaRead
import Derived.Test.YtoagljlnfakgjaaPFnExactTransformOverx0
import Derived.Test.YtoagljlnfakgjaaPFnExactTransformOverx1
import Derived.Test.YtoagljlnfakgjaaPFnExactTransformOverx2
import Derived.Test.YtoagljlnfakgjaaPFnExactTransformOverx3
import Derived.Test.YtoagljlnfakgjaaPFnExactTransformOverx8
import Derived.Test.YtoagljlnfakgjaaPFnExactTransformOverx13
namespace Go.Proofs.Ytoagljlnfakgjaa.PFnExactTransformOver
open Go.RowKit Go.Proofs.YtoagljlnfakgjaaW.PrintWords Go.Proofs.YtoagljlnfakgjaaW.PrintLast Go.Proofs.YtoagljlnfakgjaaW.PrintMore
attribute [local go_sem] max2_int min2_int max_two min_two max_three min_three max_four min_four   -- for this text's walks alone
set_option linter.unusedVariables false
set_option linter.unusedSimpArgs false
mutual
def lZ.j0 : Nat → List (S58) → List (List (S58)) → List (S60) → Bool → List (S60) → List (List (S60)) → List (S60) → Bool → Bool → Option (Bool)
 | 0, _, _, _, _, _, _, _, _, _ => none
 | k + 1, x0, x1, x6, x7, x8, x9, x10, x11, x53 => if x53 = true then (some false) else ((laws_toPartS.f k x0).bind fun t301 => ((laws_eqPartS.f k x8 t301).bind fun t304 => (if t304 = true then ((laws_toPartSS.f k x1).bind fun t305 => ((laws_eqPartSS.f k x9 t305).bind fun t308 => (if t308 = true then ((laws_markPartS.f k x8 1).bind fun bt309 => ((laws_markPartSS.f k x9 bt309.1).bind fun t311 => (if t311 < 0 then (lZ.j1 k x0 x1 x6 x7 x10 true) else ((laws_eqPartS.f k x10 x6).bind fun t312 => (if t312 = true then (lZ.j1 k x0 x1 x6 x7 x10 (x11 != x7)) else (lZ.j1 k x0 x1 x6 x7 x10 true)))))) else (some false)))) else (some false))))
def lZ.j1 : Nat → List (S58) → List (List (S58)) → List (S60) → Bool → List (S60) → Bool → Option (Bool)
 | 0, _, _, _, _, _, _ => none
 | k + 1, x0, x1, x6, x7, x10, x82 => if x82 = true then (some false) else ((laws_markPartS.f k x10 1).bind fun bt313 => ((laws_heldPartS.f k bt313.2 1).bind fun t315 => (if t315 < 0 then (some false) else (if t315 = bt313.1 then ((laws_toPartS.f k x0).bind fun t316 => ((laws_toPartSS.f k x1).bind fun t319 => ((impl_TransformOver.f k t316 t319).bind fun bt322 => ((laws_eqPartS.f k bt322.1 x6).bind fun t326 => (if t326 = true then (lZ.j2 k bt313.2 bt313.1 (bt322.2 != x7)) else (lZ.j2 k bt313.2 bt313.1 true)))))) else (some false)))))
def lZ.j2 : Nat → List (S60) → Int → Bool → Option (Bool)
 | 0, _, _, _ => none
 | k + 1, x10, x13, x110 => if x110 = true then (some false) else ((laws_heldPartS.f k x10 1).bind fun t327 => (if t327 < 0 then (some false) else (if t327 = x13 then (some true) else (some false))))
end
def lZ.f (k : Nat) (l0 : List (S58)) (l1 : List (List (S58))) : Option (Bool) := (laws_szPartS.f k l0 1048576).bind fun t278 => (if t278 < 0 then (some true) else ((laws_szPartSS.f k l1 t278).bind fun t279 => (if t279 < 0 then (some true) else ((laws_toPartS.f k l0).bind fun t280 => ((laws_toPartSS.f k l1).bind fun t283 => ((spec_TransformOver.f k t280 t283).bind fun bt286 => ((laws_toPartS.f k l0).bind fun t290 => ((laws_toPartSS.f k l1).bind fun t293 => ((impl_TransformOver.f k t290 t293).bind fun bt296 => ((laws_eqPartS.f k bt296.1 bt286.1).bind fun t300 => (if t300 = true then (lZ.j0 k l0 l1 bt286.1 bt286.2 t290 t293 bt296.1 bt296.2 (bt296.2 != bt286.2)) else (lZ.j0 k l0 l1 bt286.1 bt286.2 t290 t293 bt296.1 bt296.2 true))))))))))))
theorem lZ.mono_l : ∀ k, (∀ y0 y1 y2 y3 y4 y5 y6 y7 y8, LeO (lZ.j0 k y0 y1 y2 y3 y4 y5 y6 y7 y8) (lZ.j0 (k + 1) y0 y1 y2 y3 y4 y5 y6 y7 y8)) ∧ (∀ y0 y1 y2 y3 y4 y5, LeO (lZ.j1 k y0 y1 y2 y3 y4 y5) (lZ.j1 (k + 1) y0 y1 y2 y3 y4 y5)) ∧ (∀ y0 y1 y2, LeO (lZ.j2 k y0 y1 y2) (lZ.j2 (k + 1) y0 y1 y2))
 | 0 => ⟨fun _ _ _ _ _ _ _ _ _ r h => by simp [lZ.j0] at h, fun _ _ _ _ _ _ r h => by simp [lZ.j1] at h, fun _ _ _ r h => by simp [lZ.j2] at h⟩
 | k + 1 => by
  obtain ⟨ih0, ih1, ih2⟩ := lZ.mono_l k
  refine ⟨?_, ?_, ?_⟩
  ·intro y0 y1 y2 y3 y4 y5 y6 y7 y8
   unfold lZ.j0
   repeat' (with_reducible first | exact ih0 _ _ _ _ _ _ _ _ _ | exact ih1 _ _ _ _ _ _ | exact ih2 _ _ _ | exact impl_TransformOver.mono _ _ _ | exact laws_eqPartS.mono _ _ _ | exact laws_eqPartSS.mono _ _ _ | exact laws_heldPartS.mono _ _ _ | exact laws_markPartS.mono _ _ _ | exact laws_markPartSS.mono _ _ _ | exact laws_szPartS.mono _ _ _ | exact laws_szPartSS.mono _ _ _ | exact laws_toPartS.mono _ _ | exact laws_toPartSS.mono _ _ | exact spec_TransformOver.mono _ _ _ | exact LeO.refl _ | exact LeO.none _ | refine LeO.ite ?_ ?_ | refine LeO.bind ?_ (fun _ => ?_))
  ·intro y0 y1 y2 y3 y4 y5
   unfold lZ.j1
   repeat' (with_reducible first | exact ih0 _ _ _ _ _ _ _ _ _ | exact ih1 _ _ _ _ _ _ | exact ih2 _ _ _ | exact impl_TransformOver.mono _ _ _ | exact laws_eqPartS.mono _ _ _ | exact laws_eqPartSS.mono _ _ _ | exact laws_heldPartS.mono _ _ _ | exact laws_markPartS.mono _ _ _ | exact laws_markPartSS.mono _ _ _ | exact laws_szPartS.mono _ _ _ | exact laws_szPartSS.mono _ _ _ | exact laws_toPartS.mono _ _ | exact laws_toPartSS.mono _ _ | exact spec_TransformOver.mono _ _ _ | exact LeO.refl _ | exact LeO.none _ | refine LeO.ite ?_ ?_ | refine LeO.bind ?_ (fun _ => ?_))
  ·intro y0 y1 y2
   unfold lZ.j2
   repeat' (with_reducible first | exact ih0 _ _ _ _ _ _ _ _ _ | exact ih1 _ _ _ _ _ _ | exact ih2 _ _ _ | exact impl_TransformOver.mono _ _ _ | exact laws_eqPartS.mono _ _ _ | exact laws_eqPartSS.mono _ _ _ | exact laws_heldPartS.mono _ _ _ | exact laws_markPartS.mono _ _ _ | exact laws_markPartSS.mono _ _ _ | exact laws_szPartS.mono _ _ _ | exact laws_szPartSS.mono _ _ _ | exact laws_toPartS.mono _ _ | exact laws_toPartSS.mono _ _ | exact spec_TransformOver.mono _ _ _ | exact LeO.refl _ | exact LeO.none _ | refine LeO.ite ?_ ?_ | refine LeO.bind ?_ (fun _ => ?_))
theorem lZ.mono : ∀ a0 a1 k, LeO (lZ.f k a0 a1) (lZ.f (k + 1) a0 a1) := by
 intro a0 a1 k
 obtain ⟨ih0, ih1, ih2⟩ := lZ.mono_l k
 unfold lZ.f
 repeat' (with_reducible first | exact ih0 _ _ _ _ _ _ _ _ _ | exact ih1 _ _ _ _ _ _ | exact ih2 _ _ _ | exact impl_TransformOver.mono _ _ _ | exact laws_eqPartS.mono _ _ _ | exact laws_eqPartSS.mono _ _ _ | exact laws_heldPartS.mono _ _ _ | exact laws_markPartS.mono _ _ _ | exact laws_markPartSS.mono _ _ _ | exact laws_szPartS.mono _ _ _ | exact laws_szPartSS.mono _ _ _ | exact laws_toPartS.mono _ _ | exact laws_toPartSS.mono _ _ | exact spec_TransformOver.mono _ _ _ | exact LeO.refl _ | exact LeO.none _ | refine LeO.ite ?_ ?_ | refine LeO.bind ?_ (fun _ => ?_))
set_option maxHeartbeats 8000000 in
set_option maxRecDepth 100000 in
theorem lZ.calls (k : Nat) (A0 : Option Addr) (c0 : Nat) (l0 : List (S58)) (A1 : Option Addr) (c1 : Nat) (l1 : List (List (S58))) (r : Bool) (hr_ : r = true) (w : World) (hr0 : Kd.C k58 w A0 l0.length l0) (hc0 : l0.length ≤ c0) (hr1 : Kd.C (Kd.slice 58 k58) w A1 l1.length l1) (hc1 : l1.length ≤ c1) (h : lZ.f k l0 l1 = some r) :
  Calls Try.prog 6 #[.slice A0 l0.length c0, .slice A1 l1.length c1] w fun e w' => e = .returned (.bool r) ∧ Below w.heap.size w w' := by
 have hrt_ := aM hr_
 clear hr_
 have HR0 := aM hr0
 have HC0 := aM hc0
 clear hr0 hc0
 have HR1 := aM hr1
 have HC1 := aM hc1
 clear hr1 hc1
 have HB := aM (Below.refl w.heap.size w)
 have H : ((laws_szPartS.f k l0 1048576).bind fun t278 => (if t278 < 0 then (some true) else ((laws_szPartSS.f k l1 t278).bind fun t279 => (if t279 < 0 then (some true) else ((laws_toPartS.f k l0).bind fun t280 => ((laws_toPartSS.f k l1).bind fun t283 => ((spec_TransformOver.f k t280 t283).bind fun bt286 => ((laws_toPartS.f k l0).bind fun t290 => ((laws_toPartSS.f k l1).bind fun t293 => ((impl_TransformOver.f k t290 t293).bind fun bt296 => ((laws_eqPartS.f k bt296.1 bt286.1).bind fun t300 => (if t300 = true then (lZ.j0 k l0 l1 bt286.1 bt286.2 t290 t293 bt296.1 bt296.2 (bt296.2 != bt286.2)) else (lZ.j0 k l0 l1 bt286.1 bt286.2 t290 t293 bt296.1 bt296.2 true))))))))))))) = some r := h
 clear h
 replace H := Option.bind_eq_some_iff.mp H
 obtain ⟨t278, A30, H⟩ := H
 replace H : (if t278 < 0 then (some true) else ((laws_szPartSS.f k l1 t278).bind fun t279 => (if t279 < 0 then (some true) else ((laws_toPartS.f k l0).bind fun t280 => ((laws_toPartSS.f k l1).bind fun t283 => ((spec_TransformOver.f k t280 t283).bind fun bt286 => ((laws_toPartS.f k l0).bind fun t290 => ((laws_toPartSS.f k l1).bind fun t293 => ((impl_TransformOver.f k t290 t293).bind fun bt296 => ((laws_eqPartS.f k bt296.1 bt286.1).bind fun t300 => (if t300 = true then (lZ.j0 k l0 l1 bt286.1 bt286.2 t290 t293 bt296.1 bt296.2 (bt296.2 != bt286.2)) else (lZ.j0 k l0 l1 bt286.1 bt286.2 t290 t293 bt296.1 bt296.2 true)))))))))))) = some r := H
 have A3 := aM A30
 clear A30
 by_cases c4 : t278 < 0
 ·rw [if_pos c4] at H
  have c4b0 : decide (t278 < 0) = true := decide_eq_true c4
  clear c4
  obtain rfl := Option.some.inj H
  go_enter Try.func6, Try.ntmps6
  go_wp2_with (first | ((with_reducible refine gate_callee (f := 9) rfl ?_); refine goesL_ (some 19) rfl rfl Try.func9 (by kernel_rfl) rfl #[.slice A0 l0.length c0, .int .i64 1048576] rfl mM ?_; (with_reducible refine (laws_szPartS.calls k _ _ l0 1048576 t278 _ ?side1 ?side2 A3.out).mono ?_); (case side1 => exact cC HR0.out); (case side2 => exact HC0.out); rintro e w5 ⟨rfl, hb⟩; refine ⟨_, rfl, ?_⟩; replace HB := aM (below_step bB hb); (try clear hb); (try clear hb2); (try clear hk); (try clear hi)))
  go_ret
  exact ⟨eR, bB⟩
 rw [if_neg c4] at H
 have c4b0 : decide (t278 < 0) = false := decide_eq_false c4
 clear c4
 replace H := Option.bind_eq_some_iff.mp H
 obtain ⟨t279, A60, H⟩ := H
 replace H : (if t279 < 0 then (some true) else ((laws_toPartS.f k l0).bind fun t280 => ((laws_toPartSS.f k l1).bind fun t283 => ((spec_TransformOver.f k t280 t283).bind fun bt286 => ((laws_toPartS.f k l0).bind fun t290 => ((laws_toPartSS.f k l1).bind fun t293 => ((impl_TransformOver.f k t290 t293).bind fun bt296 => ((laws_eqPartS.f k bt296.1 bt286.1).bind fun t300 => (if t300 = true then (lZ.j0 k l0 l1 bt286.1 bt286.2 t290 t293 bt296.1 bt296.2 (bt296.2 != bt286.2)) else (lZ.j0 k l0 l1 bt286.1 bt286.2 t290 t293 bt296.1 bt296.2 true)))))))))) = some r := H
 have A6 := aM A60
 clear A60
 by_cases c7 : t279 < 0
 ·rw [if_pos c7] at H
  have c7b0 : decide (t279 < 0) = true := decide_eq_true c7
  clear c7
  obtain rfl := Option.some.inj H
  go_enter Try.func6, Try.ntmps6
  go_wp2_with (first | ((with_reducible refine gate_callee (f := 9) rfl ?_); refine goesL_ (some 19) rfl rfl Try.func9 (by kernel_rfl) rfl #[.slice A0 l0.length c0, .int .i64 1048576] rfl mM ?_; (with_reducible refine (laws_szPartS.calls k _ _ l0 1048576 t278 _ ?side1 ?side2 A3.out).mono ?_); (case side1 => exact cC HR0.out); (case side2 => exact HC0.out); rintro e w8 ⟨rfl, hb⟩; refine ⟨_, rfl, ?_⟩; replace HB := aM (below_step bB hb); (try clear hb); (try clear hb2); (try clear hk); (try clear hi)) | ((with_reducible refine gate_callee (f := 20) rfl ?_); refine goesL_ (some 24) rfl rfl Try.func20 (by kernel_rfl) rfl #[.slice A1 l1.length c1, .int .i64 t278] rfl mM ?_; (with_reducible refine (laws_szPartSS.calls k _ _ l1 t278 t279 _ ?side1 ?side2 A6.out).mono ?_); (case side1 => exact cC (Kd.C_below HR1.out HB.out)); (case side2 => exact HC1.out); rintro e w9 ⟨rfl, hb⟩; refine ⟨_, rfl, ?_⟩; replace HB := aM (below_step bB hb); (try clear hb); (try clear hb2); (try clear hk); (try clear hi)))
  go_ret
  exact ⟨eR, bB⟩
 rw [if_neg c7] at H
 have c7b0 : decide (t279 < 0) = false := decide_eq_false c7
 clear c7
 replace H := Option.bind_eq_some_iff.mp H
 obtain ⟨t280, A100, H⟩ := H
 replace H : ((laws_toPartSS.f k l1).bind fun t283 => ((spec_TransformOver.f k t280 t283).bind fun bt286 => ((laws_toPartS.f k l0).bind fun t290 => ((laws_toPartSS.f k l1).bind fun t293 => ((impl_TransformOver.f k t290 t293).bind fun bt296 => ((laws_eqPartS.f k bt296.1 bt286.1).bind fun t300 => (if t300 = true then (lZ.j0 k l0 l1 bt286.1 bt286.2 t290 t293 bt296.1 bt296.2 (bt296.2 != bt286.2)) else (lZ.j0 k l0 l1 bt286.1 bt286.2 t290 t293 bt296.1 bt296.2 true)))))))) = some r := H
 have A10 := aM A100
 clear A100
 replace H := Option.bind_eq_some_iff.mp H
 obtain ⟨t283, A110, H⟩ := H
 replace H : ((spec_TransformOver.f k t280 t283).bind fun bt286 => ((laws_toPartS.f k l0).bind fun t290 => ((laws_toPartSS.f k l1).bind fun t293 => ((impl_TransformOver.f k t290 t293).bind fun bt296 => ((laws_eqPartS.f k bt296.1 bt286.1).bind fun t300 => (if t300 = true then (lZ.j0 k l0 l1 bt286.1 bt286.2 t290 t293 bt296.1 bt296.2 (bt296.2 != bt286.2)) else (lZ.j0 k l0 l1 bt286.1 bt286.2 t290 t293 bt296.1 bt296.2 true))))))) = some r := H
 have A11 := aM A110
 clear A110
 replace H := Option.bind_eq_some_iff.mp H
 obtain ⟨⟨t286, t287⟩, A120, H⟩ := H
 replace H : ((laws_toPartS.f k l0).bind fun t290 => ((laws_toPartSS.f k l1).bind fun t293 => ((impl_TransformOver.f k t290 t293).bind fun bt296 => ((laws_eqPartS.f k bt296.1 t286).bind fun t300 => (if t300 = true then (lZ.j0 k l0 l1 t286 t287 t290 t293 bt296.1 bt296.2 (bt296.2 != t287)) else (lZ.j0 k l0 l1 t286 t287 t290 t293 bt296.1 bt296.2 true)))))) = some r := H
 have A12 := aM A120
 clear A120
 replace H := Option.bind_eq_some_iff.mp H
 obtain ⟨t290, A130, H⟩ := H
 replace H : ((laws_toPartSS.f k l1).bind fun t293 => ((impl_TransformOver.f k t290 t293).bind fun bt296 => ((laws_eqPartS.f k bt296.1 t286).bind fun t300 => (if t300 = true then (lZ.j0 k l0 l1 t286 t287 t290 t293 bt296.1 bt296.2 (bt296.2 != t287)) else (lZ.j0 k l0 l1 t286 t287 t290 t293 bt296.1 bt296.2 true))))) = some r := H
 have A13 := aM A130
 clear A130
 replace H := Option.bind_eq_some_iff.mp H
 obtain ⟨t293, A140, H⟩ := H
 replace H : ((impl_TransformOver.f k t290 t293).bind fun bt296 => ((laws_eqPartS.f k bt296.1 t286).bind fun t300 => (if t300 = true then (lZ.j0 k l0 l1 t286 t287 t290 t293 bt296.1 bt296.2 (bt296.2 != t287)) else (lZ.j0 k l0 l1 t286 t287 t290 t293 bt296.1 bt296.2 true)))) = some r := H
 have A14 := aM A140
 clear A140
 replace H := Option.bind_eq_some_iff.mp H
 obtain ⟨⟨t296, t297⟩, A150, H⟩ := H
 replace H : ((laws_eqPartS.f k t296 t286).bind fun t300 => (if t300 = true then (lZ.j0 k l0 l1 t286 t287 t290 t293 t296 t297 (t297 != t287)) else (lZ.j0 k l0 l1 t286 t287 t290 t293 t296 t297 true))) = some r := H
 have A15 := aM A150
 clear A150
 have HC16 := aM H
 clear H
 go_enter Try.func6, Try.ntmps6
 go_upto_region 12 with (first | ((with_reducible refine gate_callee (f := 9) rfl ?_); refine goesL_ (some 19) rfl rfl Try.func9 (by kernel_rfl) rfl #[.slice A0 l0.length c0, .int .i64 1048576] rfl mM ?_; (with_reducible refine (laws_szPartS.calls k _ _ l0 1048576 t278 _ ?side1 ?side2 A3.out).mono ?_); (case side1 => exact cC HR0.out); (case side2 => exact HC0.out); rintro e w17 ⟨rfl, hb⟩; refine ⟨_, rfl, ?_⟩; replace HB := aM (below_step bB hb); (try clear hb); (try clear hb2); (try clear hk); (try clear hi)) | ((with_reducible refine gate_callee (f := 20) rfl ?_); refine goesL_ (some 24) rfl rfl Try.func20 (by kernel_rfl) rfl #[.slice A1 l1.length c1, .int .i64 t278] rfl mM ?_; (with_reducible refine (laws_szPartSS.calls k _ _ l1 t278 t279 _ ?side1 ?side2 A6.out).mono ?_); (case side1 => exact cC (Kd.C_below HR1.out HB.out)); (case side2 => exact HC1.out); rintro e w18 ⟨rfl, hb⟩; refine ⟨_, rfl, ?_⟩; replace HB := aM (below_step bB hb); (try clear hb); (try clear hb2); (try clear hk); (try clear hi)) | ((with_reducible refine gate_callee (f := 11) rfl ?_); refine goesL_ (some 29) rfl rfl Try.func11 (by kernel_rfl) rfl #[.slice A0 l0.length c0] rfl mM ?_; (with_reducible refine (laws_toPartS.calls k _ _ l0 t280 _ ?side1 ?side2 A10.out).mono ?_); (case side1 => exact cC (Kd.C_below HR0.out HB.out)); (case side2 => exact HC0.out); rintro e w19 ⟨v281, rfl, ho0, hb⟩; refine ⟨_, rfl, ?_⟩; have HO282 := aM (Kd.R_lower ho0 (below_size bB)); replace HB := aM (below_step bB hb); (try clear hb); (try clear hb2); (try clear hk); (try clear hi); (try clear ho0)) | ((with_reducible refine gate_callee (f := 22) rfl ?_); refine goesL_ (some 31) rfl rfl Try.func22 (by kernel_rfl) rfl #[.slice A1 l1.length c1] rfl mM ?_; (with_reducible refine (laws_toPartSS.calls k _ _ l1 t283 _ ?side1 ?side2 A11.out).mono ?_); (case side1 => exact cC (Kd.C_below HR1.out HB.out)); (case side2 => exact HC1.out); rintro e w20 ⟨v284, rfl, ho0, hb⟩; refine ⟨_, rfl, ?_⟩; have HO285 := aM (Kd.S_lower (Kd.S_new' ho0 (Kd.R_lt (rR HO282.out))) (below_size bB)); replace HO282 := aM (Kd.R_below (rR HO282.out) hb); replace HB := aM (below_step bB hb); (try clear hb); (try clear hb2); (try clear hk); (try clear hi); (try clear ho0); obtain ⟨Ao21, co21, eo21⟩ := Kd.R_slice HO282.out; subst eo21; obtain ⟨Ao22, co22, eo22⟩ := Kd.S_slice HO285.out; subst eo22) | ((with_reducible refine gate_callee (f := 21) rfl ?_); refine goesL_ (some 32) rfl rfl Try.func21 (by kernel_rfl) rfl #[.slice Ao21 t280.length co21, .slice Ao22 t283.length co22] rfl mM ?_; (with_reducible refine (spec_TransformOver.calls k _ _ t280 _ _ t283 t286 t287 _ ?side1 ?side2 ?side3 ?side4 A12.out).mono ?_); (case side1 => exact cC ((Kd.R_reads' HO282.out).2.2)); (case side2 => exact (Kd.R_reads' HO282.out).2.1); (case side3 => exact cC ((Kd.S_reads' HO285.out).2.2)); (case side4 => exact (Kd.S_reads' HO285.out).2.1); rintro e w23 ⟨v288, rfl, ho0, hb⟩; refine ⟨_, rfl, ?_⟩; have n0_ := aM (Kd.R_elder' (rR HO282.out) (Kd.R_base ho0) hb); have n1_ := aM (Kd.S_elder' (by (with_reducible repeat (first | apply Kd.S_alloc | apply Kd.S_drewN | apply Kd.S_drew)); exact HO285.out) (Kd.R_base ho0) hb); have n2_ := aM (Kd.R_lower (Kd.R_new' ho0 (Kd.R_lt (rR HO282.out))) (below_size bB)); have n3_ := aM (below_step bB hb); clear HO282; clear HO285; clear HB; have HO282 := n0_; have HO285 := n1_; have HO289 := n2_; have HB := n3_; clear n0_ n1_ n2_ n3_; (try clear hb); (try clear hb2); (try clear hk); (try clear hi); (try clear ho0)) | ((with_reducible refine gate_callee (f := 11) rfl ?_); refine goesL_ (some 36) rfl rfl Try.func11 (by kernel_rfl) rfl #[.slice A0 l0.length c0] rfl mM ?_; (with_reducible refine (laws_toPartS.calls k _ _ l0 t290 _ ?side1 ?side2 A13.out).mono ?_); (case side1 => exact cC (Kd.C_below HR0.out HB.out)); (case side2 => exact HC0.out); rintro e w24 ⟨v291, rfl, ho0, hb⟩; refine ⟨_, rfl, ?_⟩; have n0_ := aM (Kd.R_elder' (rR HO282.out) (Kd.R_base ho0) hb); have n1_ := aM (Kd.S_elder' (by (with_reducible repeat (first | apply Kd.S_alloc | apply Kd.S_drewN | apply Kd.S_drew)); exact HO285.out) (Kd.R_base ho0) hb); have n2_ := aM (Kd.R_elder' (rR HO289.out) (Kd.R_base ho0) hb); have n3_ := aM (Kd.R_lower (Kd.R_new' (Kd.R_new' ho0 (Kd.R_lt (rR HO282.out))) (Kd.R_lt (rR HO289.out))) (below_size bB)); have n4_ := aM (below_step bB hb); clear HO282; clear HO285; clear HO289; clear HB; have HO282 := n0_; have HO285 := n1_; have HO289 := n2_; have HO292 := n3_; have HB := n4_; clear n0_ n1_ n2_ n3_ n4_; (try clear hb); (try clear hb2); (try clear hk); (try clear hi); (try clear ho0)) | ((with_reducible refine gate_callee (f := 22) rfl ?_); refine goesL_ (some 38) rfl rfl Try.func22 (by kernel_rfl) rfl #[.slice A1 l1.length c1] rfl mM ?_; (with_reducible refine (laws_toPartSS.calls k _ _ l1 t293 _ ?side1 ?side2 A14.out).mono ?_); (case side1 => exact cC (Kd.C_below HR1.out HB.out)); (case side2 => exact HC1.out); rintro e w25 ⟨v294, rfl, ho0, hb⟩; refine ⟨_, rfl, ?_⟩; have n0_ := aM (Kd.R_below (rR HO282.out) hb); have n1_ := aM (Kd.S_elder' (by (with_reducible repeat (first | apply Kd.S_alloc | apply Kd.S_drewN | apply Kd.S_drew)); exact HO285.out) (Kd.S_base ho0) hb); have n2_ := aM (Kd.R_below (rR HO289.out) hb); have n3_ := aM (Kd.R_below (rR HO292.out) hb); have n4_ := aM (Kd.S_lower (Kd.S_new' (Kd.S_new' (Kd.S_new' (Kd.S_new' ho0 (Kd.R_lt (rR HO282.out))) (Kd.S_lt (by (with_reducible repeat (first | apply Kd.S_alloc | apply Kd.S_drewN | apply Kd.S_drew)); exact HO285.out))) (Kd.R_lt (rR HO289.out))) (Kd.R_lt (rR HO292.out))) (below_size bB)); have n5_ := aM (below_step bB hb); clear HO282; clear HO285; clear HO289; clear HO292; clear HB; have HO282 := n0_; have HO285 := n1_; have HO289 := n2_; have HO292 := n3_; have HO295 := n4_; have HB := n5_; clear n0_ n1_ n2_ n3_ n4_ n5_; (try clear hb); (try clear hb2); (try clear hk); (try clear hi); (try clear ho0); obtain ⟨Ao26, co26, eo26⟩ := Kd.R_slice HO292.out; subst eo26; obtain ⟨Ao27, co27, eo27⟩ := Kd.S_slice HO295.out; subst eo27) | ((with_reducible refine gate_callee (f := 23) rfl ?_); refine goesL_ (some 42) rfl rfl Try.func23 (by kernel_rfl) rfl #[.slice Ao26 t290.length co26, .slice Ao27 t293.length co27] rfl mM ?_; (with_reducible refine (impl_TransformOver.calls k _ _ t290 _ _ t293 t296 t297 _ ?side1 ?side2 ?side3 ?side4 A15.out).mono ?_); (case side1 => exact cC ((Kd.R_reads' HO292.out).2.2)); (case side2 => exact (Kd.R_reads' HO292.out).2.1); (case side3 => exact cC ((Kd.S_reads' HO295.out).2.2)); (case side4 => exact (Kd.S_reads' HO295.out).2.1); rintro e w28 ⟨v298, rfl, ho0, hb⟩; refine ⟨_, rfl, ?_⟩; have n0_ := aM (Kd.R_elder' (rR HO282.out) (Kd.R_base ho0) hb); have n1_ := aM (Kd.S_elder' (by (with_reducible repeat (first | apply Kd.S_alloc | apply Kd.S_drewN | apply Kd.S_drew)); exact HO285.out) (Kd.R_base ho0) hb); have n2_ := aM (Kd.R_elder' (rR HO289.out) (Kd.R_base ho0) hb); have n3_ := aM (Kd.R_elder' (rR HO292.out) (Kd.R_base ho0) hb); have n4_ := aM (Kd.S_elder' (by (with_reducible repeat (first | apply Kd.S_alloc | apply Kd.S_drewN | apply Kd.S_drew)); exact HO295.out) (Kd.R_base ho0) hb); have n5_ := aM (Kd.R_lower (Kd.R_new' (Kd.R_new' (Kd.R_new' ho0 (Kd.R_lt (rR HO282.out))) (Kd.R_lt (rR HO289.out))) (Kd.R_lt (rR HO292.out))) (below_size bB)); have n6_ := aM (below_step bB hb); clear HO282; clear HO285; clear HO289; clear HO292; clear HO295; clear HB; have HO282 := n0_; have HO285 := n1_; have HO289 := n2_; have HO292 := n3_; have HO295 := n4_; have HO299 := n5_; have HB := n6_; clear n0_ n1_ n2_ n3_ n4_ n5_ n6_; (try clear hb); (try clear hb2); (try clear hk); (try clear hi); (try clear ho0)))
 (try simp only [Act.put, List.setIfInBounds_toArray, List.set_cons_zero, List.set_cons_succ])
 go_cut [53] (fun v53 wc => ∃ (kq : Nat) (x53_15 : Bool), v53 = .bool x53_15 ∧ Aside0 (lZ.j0 kq l0 l1 t286 t287 t290 t293 t296 t297 x53_15 = some r) ∧ Aside0 (kq ≤ k) ∧ Aside0 (Kd.R k60 60 wc w.heap.size (fun k_ => some k_ ≠ ((.slice Ao26 t290.length co26) : Value).ownBlock ∧ some k_ ≠ (v298 : Value).ownBlock) v288 t286) ∧ Aside0 (Kd.R k60 60 wc w.heap.size (fun k_ => some k_ ≠ (v288 : Value).ownBlock ∧ some k_ ≠ (v298 : Value).ownBlock) (.slice Ao26 t290.length co26) t290) ∧ Aside0 (Kd.S (Kd.slice 60 k60) 26 wc w.heap.size (fun k_ => some k_ ≠ (v288 : Value).ownBlock ∧ some k_ ≠ ((.slice Ao26 t290.length co26) : Value).ownBlock ∧ some k_ ≠ (v298 : Value).ownBlock) (.slice Ao27 t293.length co27) t293) ∧ Aside0 (Kd.R k60 60 wc w.heap.size (fun k_ => some k_ ≠ (v288 : Value).ownBlock ∧ some k_ ≠ ((.slice Ao26 t290.length co26) : Value).ownBlock) v298 t296) ∧ Aside0 (Below w.heap.size w wc))
 case first =>
  have H := HC16.out
  clear HC16
  replace H := Option.bind_eq_some_iff.mp H
  obtain ⟨t300, A290, H⟩ := H
  replace H : (if t300 = true then (lZ.j0 k l0 l1 t286 t287 t290 t293 t296 t297 (t297 != t287)) else (lZ.j0 k l0 l1 t286 t287 t290 t293 t296 t297 true)) = some r := H
  have A29 := aM A290
  clear A290
  by_cases c30 : t300 = true
  ·subst c30
   replace H : (lZ.j0 k l0 l1 t286 t287 t290 t293 t296 t297 (t297 != t287)) = some r := by rw [if_pos rfl] at H; exact H
   have H' := aM H
   clear H
   obtain ⟨Ao31, co31, eo31⟩ := Kd.R_slice HO299.out
   subst eo31
   obtain ⟨Ao32, co32, eo32⟩ := Kd.R_slice HO289.out
   subst eo32
   go_wp2_with (first | ((with_reducible refine gate_callee (f := 13) rfl ?_); refine goesL_ (some 47) rfl rfl Try.func13 (by kernel_rfl) rfl #[.slice Ao31 t296.length co31, .slice Ao32 t286.length co32] rfl mM ?_; (with_reducible refine (laws_eqPartS.calls k _ _ t296 _ _ t286 true _ ?side1 ?side2 ?side3 ?side4 A29.out).mono ?_); (case side1 => exact cC ((Kd.R_reads' HO299.out).2.2)); (case side2 => exact (Kd.R_reads' HO299.out).2.1); (case side3 => exact cC ((Kd.R_reads' HO289.out).2.2)); (case side4 => exact (Kd.R_reads' HO289.out).2.1); rintro e w33 ⟨rfl, hb⟩; refine ⟨_, rfl, ?_⟩; have n0_ := aM (Kd.R_below (rR HO282.out) hb); have n1_ := aM (Kd.S_below (by (with_reducible repeat (first | apply Kd.S_alloc | apply Kd.S_drewN | apply Kd.S_drew)); exact HO285.out) hb); have n2_ := aM (Kd.R_below (rR HO289.out) hb); have n3_ := aM (Kd.R_below (rR HO292.out) hb); have n4_ := aM (Kd.S_below (by (with_reducible repeat (first | apply Kd.S_alloc | apply Kd.S_drewN | apply Kd.S_drew)); exact HO295.out) hb); have n5_ := aM (Kd.R_below (rR HO299.out) hb); have n6_ := aM (below_step bB hb); clear HO282; clear HO285; clear HO289; clear HO292; clear HO295; clear HO299; clear HB; have HO282 := n0_; have HO285 := n1_; have HO289 := n2_; have HO292 := n3_; have HO295 := n4_; have HO299 := n5_; have HB := n6_; clear n0_ n1_ n2_ n3_ n4_ n5_ n6_; (try clear hb); (try clear hb2); (try clear hk); (try clear hi)))
   go_meet
   case rel => exact ⟨_, ((t297 != t287)), aP17, H', ⟨by first | omega | exact Nat.le_refl _⟩, ⟨by (with_reducible repeat (first | apply Kd.R_alloc | apply Kd.R_drewN | apply Kd.R_drew)); exact Kd.R_mono HO289.out (fun _ hk => ⟨hk.1.2, hk.2⟩)⟩, ⟨by (with_reducible repeat (first | apply Kd.R_alloc | apply Kd.R_drewN | apply Kd.R_drew)); exact Kd.R_mono HO292.out (fun _ hk => ⟨hk.1.2, hk.2⟩)⟩, ⟨by (with_reducible repeat (first | apply Kd.S_alloc | apply Kd.S_drewN | apply Kd.S_drew)); exact Kd.S_mono HO295.out (fun _ hk => ⟨hk.1.1.2, ⟨hk.1.2, hk.2⟩⟩)⟩, ⟨by (with_reducible repeat (first | apply Kd.R_alloc | apply Kd.R_drewN | apply Kd.R_drew)); exact Kd.R_mono HO299.out (fun _ hk => ⟨hk.1.2, hk.2⟩)⟩, ⟨bB⟩⟩
  replace c30 := Bool.eq_false_iff.mpr c30
  subst c30
  replace H : (lZ.j0 k l0 l1 t286 t287 t290 t293 t296 t297 true) = some r := by rw [if_neg (show ¬ (false = true) by decide)] at H; exact H
  have H' := aM H
  clear H
  obtain ⟨Ao34, co34, eo34⟩ := Kd.R_slice HO299.out
  subst eo34
  obtain ⟨Ao35, co35, eo35⟩ := Kd.R_slice HO289.out
  subst eo35
  go_wp2_with (first | ((with_reducible refine gate_callee (f := 13) rfl ?_); refine goesL_ (some 47) rfl rfl Try.func13 (by kernel_rfl) rfl #[.slice Ao34 t296.length co34, .slice Ao35 t286.length co35] rfl mM ?_; (with_reducible refine (laws_eqPartS.calls k _ _ t296 _ _ t286 false _ ?side1 ?side2 ?side3 ?side4 A29.out).mono ?_); (case side1 => exact cC ((Kd.R_reads' HO299.out).2.2)); (case side2 => exact (Kd.R_reads' HO299.out).2.1); (case side3 => exact cC ((Kd.R_reads' HO289.out).2.2)); (case side4 => exact (Kd.R_reads' HO289.out).2.1); rintro e w36 ⟨rfl, hb⟩; refine ⟨_, rfl, ?_⟩; have n0_ := aM (Kd.R_below (rR HO282.out) hb); have n1_ := aM (Kd.S_below (by (with_reducible repeat (first | apply Kd.S_alloc | apply Kd.S_drewN | apply Kd.S_drew)); exact HO285.out) hb); have n2_ := aM (Kd.R_below (rR HO289.out) hb); have n3_ := aM (Kd.R_below (rR HO292.out) hb); have n4_ := aM (Kd.S_below (by (with_reducible repeat (first | apply Kd.S_alloc | apply Kd.S_drewN | apply Kd.S_drew)); exact HO295.out) hb); have n5_ := aM (Kd.R_below (rR HO299.out) hb); have n6_ := aM (below_step bB hb); clear HO282; clear HO285; clear HO289; clear HO292; clear HO295; clear HO299; clear HB; have HO282 := n0_; have HO285 := n1_; have HO289 := n2_; have HO292 := n3_; have HO295 := n4_; have HO299 := n5_; have HB := n6_; clear n0_ n1_ n2_ n3_ n4_ n5_ n6_; (try clear hb); (try clear hb2); (try clear hk); (try clear hi)))
  go_meet
  case rel => exact ⟨_, (true), aP17, H', ⟨by first | omega | exact Nat.le_refl _⟩, ⟨by (with_reducible repeat (first | apply Kd.R_alloc | apply Kd.R_drewN | apply Kd.R_drew)); exact Kd.R_mono HO289.out (fun _ hk => ⟨hk.1.2, hk.2⟩)⟩, ⟨by (with_reducible repeat (first | apply Kd.R_alloc | apply Kd.R_drewN | apply Kd.R_drew)); exact Kd.R_mono HO292.out (fun _ hk => ⟨hk.1.2, hk.2⟩)⟩, ⟨by (with_reducible repeat (first | apply Kd.S_alloc | apply Kd.S_drewN | apply Kd.S_drew)); exact Kd.S_mono HO295.out (fun _ hk => ⟨hk.1.1.2, ⟨hk.1.2, hk.2⟩⟩)⟩, ⟨by (with_reducible repeat (first | apply Kd.R_alloc | apply Kd.R_drewN | apply Kd.R_drew)); exact Kd.R_mono HO299.out (fun _ hk => ⟨hk.1.2, hk.2⟩)⟩, ⟨bB⟩⟩
 case rest =>
  clear HC16
  try clear c1
  try clear c2
  try clear p2
  try clear c3
  try clear c4
  try clear c4b0
  try clear c6
  try clear c7
  try clear c7b0
  try clear c9
  try clear c11
  try clear c13
  try clear c20
  try clear c21
  try clear c22
  try clear c23
  try clear c30
  obtain ⟨kq, x53_15, rfl, HA, HJ15, HO_6, HO_8, HO_9, HO_10, HB⟩ := hcut
  cases kq with
  | zero => exact absurd HA.out (by simp [lZ.j0])
  | succ kj15 =>
   have H := HA.out
   clear HA
   simp only [lZ.j0] at H
   by_cases c37 : x53_15 = true
   ·subst c37
    replace H : (some false) = some r := by rw [if_pos rfl] at H; exact H
    exact absurd ((Option.some.inj H).trans hrt_.out) (by decide)
   replace c37 := Bool.eq_false_iff.mpr c37
   subst c37
   replace H : ((laws_toPartS.f kj15 l0).bind fun t301 => ((laws_eqPartS.f kj15 t290 t301).bind fun t304 => (if t304 = true then ((laws_toPartSS.f kj15 l1).bind fun t305 => ((laws_eqPartSS.f kj15 t293 t305).bind fun t308 => (if t308 = true then ((laws_markPartS.f kj15 t290 1).bind fun bt309 => ((laws_markPartSS.f kj15 t293 bt309.1).bind fun t311 => (if t311 < 0 then (lZ.j1 kj15 l0 l1 t286 t287 t296 true) else ((laws_eqPartS.f kj15 t296 t286).bind fun t312 => (if t312 = true then (lZ.j1 kj15 l0 l1 t286 t287 t296 (t297 != t287)) else (lZ.j1 kj15 l0 l1 t286 t287 t296 true)))))) else (some false)))) else (some false)))) = some r := by rw [if_neg (show ¬ (false = true) by decide)] at H; exact H
   replace H := Option.bind_eq_some_iff.mp H
   obtain ⟨t301, A380, H⟩ := H
   replace H : ((laws_eqPartS.f kj15 t290 t301).bind fun t304 => (if t304 = true then ((laws_toPartSS.f kj15 l1).bind fun t305 => ((laws_eqPartSS.f kj15 t293 t305).bind fun t308 => (if t308 = true then ((laws_markPartS.f kj15 t290 1).bind fun bt309 => ((laws_markPartSS.f kj15 t293 bt309.1).bind fun t311 => (if t311 < 0 then (lZ.j1 kj15 l0 l1 t286 t287 t296 true) else ((laws_eqPartS.f kj15 t296 t286).bind fun t312 => (if t312 = true then (lZ.j1 kj15 l0 l1 t286 t287 t296 (t297 != t287)) else (lZ.j1 kj15 l0 l1 t286 t287 t296 true)))))) else (some false)))) else (some false))) = some r := H
   have A38 := aM A380
   clear A380
   replace H := Option.bind_eq_some_iff.mp H
   obtain ⟨t304, A390, H⟩ := H
   replace H : (if t304 = true then ((laws_toPartSS.f kj15 l1).bind fun t305 => ((laws_eqPartSS.f kj15 t293 t305).bind fun t308 => (if t308 = true then ((laws_markPartS.f kj15 t290 1).bind fun bt309 => ((laws_markPartSS.f kj15 t293 bt309.1).bind fun t311 => (if t311 < 0 then (lZ.j1 kj15 l0 l1 t286 t287 t296 true) else ((laws_eqPartS.f kj15 t296 t286).bind fun t312 => (if t312 = true then (lZ.j1 kj15 l0 l1 t286 t287 t296 (t297 != t287)) else (lZ.j1 kj15 l0 l1 t286 t287 t296 true)))))) else (some false)))) else (some false)) = some r := H
   have A39 := aM A390
   clear A390
   by_cases c40 : t304 = true
   rotate_left
   ·replace c40 := Bool.eq_false_iff.mpr c40
    subst c40
    replace H : (some false) = some r := by rw [if_neg (show ¬ (false = true) by decide)] at H; exact H
    exact absurd ((Option.some.inj H).trans hrt_.out) (by decide)
   subst c40
   replace H : ((laws_toPartSS.f kj15 l1).bind fun t305 => ((laws_eqPartSS.f kj15 t293 t305).bind fun t308 => (if t308 = true then ((laws_markPartS.f kj15 t290 1).bind fun bt309 => ((laws_markPartSS.f kj15 t293 bt309.1).bind fun t311 => (if t311 < 0 then (lZ.j1 kj15 l0 l1 t286 t287 t296 true) else ((laws_eqPartS.f kj15 t296 t286).bind fun t312 => (if t312 = true then (lZ.j1 kj15 l0 l1 t286 t287 t296 (t297 != t287)) else (lZ.j1 kj15 l0 l1 t286 t287 t296 true)))))) else (some false)))) = some r := by rw [if_pos rfl] at H; exact H
   replace H := Option.bind_eq_some_iff.mp H
   obtain ⟨t305, A410, H⟩ := H
   replace H : ((laws_eqPartSS.f kj15 t293 t305).bind fun t308 => (if t308 = true then ((laws_markPartS.f kj15 t290 1).bind fun bt309 => ((laws_markPartSS.f kj15 t293 bt309.1).bind fun t311 => (if t311 < 0 then (lZ.j1 kj15 l0 l1 t286 t287 t296 true) else ((laws_eqPartS.f kj15 t296 t286).bind fun t312 => (if t312 = true then (lZ.j1 kj15 l0 l1 t286 t287 t296 (t297 != t287)) else (lZ.j1 kj15 l0 l1 t286 t287 t296 true)))))) else (some false))) = some r := H
   have A41 := aM A410
   clear A410
   replace H := Option.bind_eq_some_iff.mp H
   obtain ⟨t308, A420, H⟩ := H
   replace H : (if t308 = true then ((laws_markPartS.f kj15 t290 1).bind fun bt309 => ((laws_markPartSS.f kj15 t293 bt309.1).bind fun t311 => (if t311 < 0 then (lZ.j1 kj15 l0 l1 t286 t287 t296 true) else ((laws_eqPartS.f kj15 t296 t286).bind fun t312 => (if t312 = true then (lZ.j1 kj15 l0 l1 t286 t287 t296 (t297 != t287)) else (lZ.j1 kj15 l0 l1 t286 t287 t296 true)))))) else (some false)) = some r := H
   have A42 := aM A420
   clear A420
   by_cases c43 : t308 = true
   rotate_left
   ·replace c43 := Bool.eq_false_iff.mpr c43
    subst c43
    replace H : (some false) = some r := by rw [if_neg (show ¬ (false = true) by decide)] at H; exact H
    exact absurd ((Option.some.inj H).trans hrt_.out) (by decide)
   subst c43
   replace H : ((laws_markPartS.f kj15 t290 1).bind fun bt309 => ((laws_markPartSS.f kj15 t293 bt309.1).bind fun t311 => (if t311 < 0 then (lZ.j1 kj15 l0 l1 t286 t287 t296 true) else ((laws_eqPartS.f kj15 t296 t286).bind fun t312 => (if t312 = true then (lZ.j1 kj15 l0 l1 t286 t287 t296 (t297 != t287)) else (lZ.j1 kj15 l0 l1 t286 t287 t296 true)))))) = some r := by rw [if_pos rfl] at H; exact H
   replace H := Option.bind_eq_some_iff.mp H
   obtain ⟨⟨t309, t310⟩, A440, H⟩ := H
   replace H : ((laws_markPartSS.f kj15 t293 t309).bind fun t311 => (if t311 < 0 then (lZ.j1 kj15 l0 l1 t286 t287 t296 true) else ((laws_eqPartS.f kj15 t296 t286).bind fun t312 => (if t312 = true then (lZ.j1 kj15 l0 l1 t286 t287 t296 (t297 != t287)) else (lZ.j1 kj15 l0 l1 t286 t287 t296 true))))) = some r := H
   have A44 := aM A440
   clear A440
   replace H := Option.bind_eq_some_iff.mp H
   obtain ⟨t311, A450, H⟩ := H
   replace H : (if t311 < 0 then (lZ.j1 kj15 l0 l1 t286 t287 t296 true) else ((laws_eqPartS.f kj15 t296 t286).bind fun t312 => (if t312 = true then (lZ.j1 kj15 l0 l1 t286 t287 t296 (t297 != t287)) else (lZ.j1 kj15 l0 l1 t286 t287 t296 true)))) = some r := H
   have A45 := aM A450
   clear A450
   have HC46 := aM H
   clear H
   go_upto_region 21 with (first | ((with_reducible refine gate_callee (f := 11) rfl ?_); refine goesL_ (some 56) rfl rfl Try.func11 (by kernel_rfl) rfl #[.slice A0 l0.length c0] rfl mM ?_; (with_reducible refine (laws_toPartS.calls kj15 _ _ l0 t301 _ ?side1 ?side2 A38.out).mono ?_); (case side1 => exact cC (Kd.C_below HR0.out HB.out)); (case side2 => exact HC0.out); rintro e w47 ⟨v302, rfl, ho0, hb⟩; refine ⟨_, rfl, ?_⟩; have n0_ := aM (Kd.R_elder' (rR HO_6.out) (Kd.R_base ho0) hb); have n1_ := aM (Kd.R_elder' (rR HO_8.out) (Kd.R_base ho0) hb); have n2_ := aM (Kd.S_elder' (by (with_reducible repeat (first | apply Kd.S_alloc | apply Kd.S_drewN | apply Kd.S_drew)); exact HO_9.out) (Kd.R_base ho0) hb); have n3_ := aM (Kd.R_elder' (rR HO_10.out) (Kd.R_base ho0) hb); have n4_ := aM (Kd.R_lower (Kd.R_new' (Kd.R_new' (Kd.R_new' ho0 (Kd.R_lt (rR HO_6.out))) (Kd.R_lt (rR HO_8.out))) (Kd.R_lt (rR HO_10.out))) (below_size bB)); have n5_ := aM (below_step bB hb); clear HO_6; clear HO_8; clear HO_9; clear HO_10; clear HB; have HO_6 := n0_; have HO_8 := n1_; have HO_9 := n2_; have HO_10 := n3_; have HO303 := n4_; have HB := n5_; clear n0_ n1_ n2_ n3_ n4_ n5_; (try clear hb); (try clear hb2); (try clear hk); (try clear hi); (try clear ho0); obtain ⟨Ao48, co48, eo48⟩ := Kd.R_slice HO303.out; subst eo48) | ((with_reducible refine gate_callee (f := 13) rfl ?_); refine goesL_ (some 57) rfl rfl Try.func13 (by kernel_rfl) rfl #[.slice Ao26 t290.length co26, .slice Ao48 t301.length co48] rfl mM ?_; (with_reducible refine (laws_eqPartS.calls kj15 _ _ t290 _ _ t301 true _ ?side1 ?side2 ?side3 ?side4 A39.out).mono ?_); (case side1 => exact cC ((Kd.R_reads' HO_8.out).2.2)); (case side2 => exact (Kd.R_reads' HO_8.out).2.1); (case side3 => exact cC ((Kd.R_reads' HO303.out).2.2)); (case side4 => exact (Kd.R_reads' HO303.out).2.1); rintro e w49 ⟨rfl, hb⟩; refine ⟨_, rfl, ?_⟩; have n0_ := aM (Kd.R_below (rR HO_6.out) hb); have n1_ := aM (Kd.R_below (rR HO_8.out) hb); have n2_ := aM (Kd.S_below (by (with_reducible repeat (first | apply Kd.S_alloc | apply Kd.S_drewN | apply Kd.S_drew)); exact HO_9.out) hb); have n3_ := aM (Kd.R_below (rR HO_10.out) hb); have n4_ := aM (Kd.R_below (rR HO303.out) hb); have n5_ := aM (below_step bB hb); clear HO_6; clear HO_8; clear HO_9; clear HO_10; clear HO303; clear HB; have HO_6 := n0_; have HO_8 := n1_; have HO_9 := n2_; have HO_10 := n3_; have HO303 := n4_; have HB := n5_; clear n0_ n1_ n2_ n3_ n4_ n5_; (try clear hb); (try clear hb2); (try clear hk); (try clear hi)) | ((with_reducible refine gate_callee (f := 22) rfl ?_); refine goesL_ (some 61) rfl rfl Try.func22 (by kernel_rfl) rfl #[.slice A1 l1.length c1] rfl mM ?_; (with_reducible refine (laws_toPartSS.calls kj15 _ _ l1 t305 _ ?side1 ?side2 A41.out).mono ?_); (case side1 => exact cC (Kd.C_below HR1.out HB.out)); (case side2 => exact HC1.out); rintro e w50 ⟨v306, rfl, ho0, hb⟩; refine ⟨_, rfl, ?_⟩; have n0_ := aM (Kd.R_below (rR HO_6.out) hb); have n1_ := aM (Kd.R_below (rR HO_8.out) hb); have n2_ := aM (Kd.S_elder' (by (with_reducible repeat (first | apply Kd.S_alloc | apply Kd.S_drewN | apply Kd.S_drew)); exact HO_9.out) (Kd.S_base ho0) hb); have n3_ := aM (Kd.R_below (rR HO_10.out) hb); have n4_ := aM (Kd.R_below (rR HO303.out) hb); have n5_ := aM (Kd.S_lower (Kd.S_new' (Kd.S_new' (Kd.S_new' (Kd.S_new' (Kd.S_new' ho0 (Kd.R_lt (rR HO_6.out))) (Kd.R_lt (rR HO_8.out))) (Kd.S_lt (by (with_reducible repeat (first | apply Kd.S_alloc | apply Kd.S_drewN | apply Kd.S_drew)); exact HO_9.out))) (Kd.R_lt (rR HO_10.out))) (Kd.R_lt (rR HO303.out))) (below_size bB)); have n6_ := aM (below_step bB hb); clear HO_6; clear HO_8; clear HO_9; clear HO_10; clear HO303; clear HB; have HO_6 := n0_; have HO_8 := n1_; have HO_9 := n2_; have HO_10 := n3_; have HO303 := n4_; have HO307 := n5_; have HB := n6_; clear n0_ n1_ n2_ n3_ n4_ n5_ n6_; (try clear hb); (try clear hb2); (try clear hk); (try clear hi); (try clear ho0); obtain ⟨Ao51, co51, eo51⟩ := Kd.S_slice HO307.out; subst eo51) | ((with_reducible refine gate_callee (f := 24) rfl ?_); refine goesL_ (some 62) rfl rfl Try.func24 (by kernel_rfl) rfl #[.slice Ao27 t293.length co27, .slice Ao51 t305.length co51] rfl mM ?_; (with_reducible refine (laws_eqPartSS.calls kj15 _ _ t293 _ _ t305 true _ ?side1 ?side2 ?side3 ?side4 A42.out).mono ?_); (case side1 => exact cC ((Kd.S_reads' HO_9.out).2.2)); (case side2 => exact (Kd.S_reads' HO_9.out).2.1); (case side3 => exact cC ((Kd.S_reads' HO307.out).2.2)); (case side4 => exact (Kd.S_reads' HO307.out).2.1); rintro e w52 ⟨rfl, hb⟩; refine ⟨_, rfl, ?_⟩; have n0_ := aM (Kd.R_below (rR HO_6.out) hb); have n1_ := aM (Kd.R_below (rR HO_8.out) hb); have n2_ := aM (Kd.S_below (by (with_reducible repeat (first | apply Kd.S_alloc | apply Kd.S_drewN | apply Kd.S_drew)); exact HO_9.out) hb); have n3_ := aM (Kd.R_below (rR HO_10.out) hb); have n4_ := aM (Kd.R_below (rR HO303.out) hb); have n5_ := aM (Kd.S_below (by (with_reducible repeat (first | apply Kd.S_alloc | apply Kd.S_drewN | apply Kd.S_drew)); exact HO307.out) hb); have n6_ := aM (below_step bB hb); clear HO_6; clear HO_8; clear HO_9; clear HO_10; clear HO303; clear HO307; clear HB; have HO_6 := n0_; have HO_8 := n1_; have HO_9 := n2_; have HO_10 := n3_; have HO303 := n4_; have HO307 := n5_; have HB := n6_; clear n0_ n1_ n2_ n3_ n4_ n5_ n6_; (try clear hb); (try clear hb2); (try clear hk); (try clear hi)) | ((with_reducible refine gate_callee (f := 18) rfl ?_); refine goesL_ (some 66) rfl rfl Try.func18 (by kernel_rfl) rfl #[.slice Ao26 t290.length co26, .int .i64 1] rfl mM ?_; (with_reducible refine (laws_markPartS.calls kj15 (fun k_ => some k_ = (.slice Ao26 t290.length co26 : Value).ownBlock) (.slice Ao26 t290.length co26) t290 1 t309 t310 w _ ?side1 ?side2 A44.out).mono ?_); (case side1 => exact bB); (case side2 => exact Kd.R_tight rfl HO_8.out); rintro e w53 ⟨rfl, hy0, hb, hkp⟩; refine ⟨_, rfl, ?_⟩; replace HO_6 := aM (Kd.R_mono (ok' := fun k_ => some k_ ≠ (.slice Ao26 t290.length co26 : Value).ownBlock ∧ some k_ ≠ (v298 : Value).ownBlock ∧ some k_ ≠ (.slice Ao48 t301.length co48 : Value).ownBlock) (Kd.R_keptB (HO_6.out) hkp (fun k_ hk_ hs_ => (hk_.1.1) hs_)) (fun k_ hk_ => ⟨hk_.1.1.1, hk_.1.1.2, hk_.1.2⟩)); replace HO_8 := aM (Kd.R_reok rfl hy0 (fun k_ e_ => HO_8.out.1 k_ e_)); replace HO_9 := aM (Kd.S_mono (ok' := fun k_ => some k_ ≠ (v288 : Value).ownBlock ∧ some k_ ≠ (.slice Ao26 t290.length co26 : Value).ownBlock ∧ some k_ ≠ (v298 : Value).ownBlock ∧ some k_ ≠ (.slice Ao48 t301.length co48 : Value).ownBlock ∧ some k_ ≠ (.slice Ao51 t305.length co51 : Value).ownBlock) (Kd.S_keptB (HO_9.out) hkp (fun k_ hk_ hs_ => (hk_.1.1.2.1) hs_)) (fun k_ hk_ => ⟨hk_.1.1.1.1, hk_.1.1.1.2.1, hk_.1.1.1.2.2, hk_.1.1.2, hk_.1.2⟩)); replace HO_10 := aM (Kd.R_mono (ok' := fun k_ => some k_ ≠ (v288 : Value).ownBlock ∧ some k_ ≠ (.slice Ao26 t290.length co26 : Value).ownBlock ∧ some k_ ≠ (.slice Ao48 t301.length co48 : Value).ownBlock) (Kd.R_keptB (HO_10.out) hkp (fun k_ hk_ hs_ => (hk_.1.2) hs_)) (fun k_ hk_ => ⟨hk_.1.1.1, hk_.1.1.2, hk_.1.2⟩)); replace HO303 := aM (Kd.R_mono (ok' := fun k_ => some k_ ≠ (v288 : Value).ownBlock ∧ some k_ ≠ (.slice Ao26 t290.length co26 : Value).ownBlock ∧ some k_ ≠ (v298 : Value).ownBlock) (Kd.R_keptB (HO303.out) hkp (fun k_ hk_ hs_ => (hk_.1.2) hs_)) (fun k_ hk_ => ⟨hk_.1.1.1.2, hk_.1.1.2, hk_.1.2⟩)); replace HO307 := aM (Kd.S_mono (ok' := fun k_ => some k_ ≠ (v288 : Value).ownBlock ∧ some k_ ≠ (.slice Ao26 t290.length co26 : Value).ownBlock ∧ some k_ ≠ (.slice Ao27 t293.length co27 : Value).ownBlock ∧ some k_ ≠ (v298 : Value).ownBlock ∧ some k_ ≠ (.slice Ao48 t301.length co48 : Value).ownBlock) (Kd.S_keptB (HO307.out) hkp (fun k_ hk_ hs_ => (hk_.1.1.1.2) hs_)) (fun k_ hk_ => ⟨hk_.1.1.1.1.1.2, hk_.1.1.1.1.2, hk_.1.1.1.2, hk_.1.1.2, hk_.1.2⟩)); replace HB := aM (hb); (try clear hb); (try clear hkp); (try clear hy0)) | ((with_reducible refine gate_callee (f := 25) rfl ?_); refine goesL_ (some 69) rfl rfl Try.func25 (by kernel_rfl) rfl #[.slice Ao27 t293.length co27, .int .i64 t309] rfl mM ?_; (with_reducible refine (laws_markPartSS.calls kj15 (fun k_ => (some k_ ≠ (v288 : Value).ownBlock ∧ (some k_ ≠ (.slice Ao26 t290.length co26 : Value).ownBlock ∧ (some k_ ≠ (v298 : Value).ownBlock ∧ (some k_ ≠ (.slice Ao48 t301.length co48 : Value).ownBlock ∧ some k_ ≠ (.slice Ao51 t305.length co51 : Value).ownBlock))))) (.slice Ao27 t293.length co27) t293 t309 t311 w _ ?side1 ?side2 A45.out).mono ?_); (case side1 => exact bB); (case side2 => exact HO_9.out); rintro e w54 ⟨rfl, hb, hkp⟩; refine ⟨_, rfl, ?_⟩; replace HO_6 := aM (Kd.R_mono (ok' := fun k_ => some k_ ≠ (.slice Ao26 t290.length co26 : Value).ownBlock ∧ some k_ ≠ (v298 : Value).ownBlock ∧ some k_ ≠ (.slice Ao48 t301.length co48 : Value).ownBlock) (Kd.R_keptB ((Kd.R_tight2 rfl HO_6.out)) hkp (fun k_ hk_ hs_ => (fun e_ => (e_.1) hk_.1) hs_)) (fun k_ hk_ => ⟨hk_.1.2.1, hk_.1.2.2.1, hk_.1.2.2.2⟩)); replace HO_8 := aM (Kd.R_mono (ok' := fun k_ => some k_ ≠ (v288 : Value).ownBlock ∧ some k_ ≠ (v298 : Value).ownBlock ∧ some k_ ≠ (.slice Ao48 t301.length co48 : Value).ownBlock) (Kd.R_keptB ((Kd.R_tight2 rfl HO_8.out)) hkp (fun k_ hk_ hs_ => (fun e_ => (e_.2.1) hk_.1) hs_)) (fun k_ hk_ => ⟨hk_.1.2.1.1, hk_.1.2.1.2, hk_.1.2.2⟩)); replace HO_10 := aM (Kd.R_mono (ok' := fun k_ => some k_ ≠ (v288 : Value).ownBlock ∧ some k_ ≠ (.slice Ao26 t290.length co26 : Value).ownBlock ∧ some k_ ≠ (.slice Ao48 t301.length co48 : Value).ownBlock) (Kd.R_keptB ((Kd.R_tight2 rfl HO_10.out)) hkp (fun k_ hk_ hs_ => (fun e_ => (e_.2.2.1) hk_.1) hs_)) (fun k_ hk_ => ⟨hk_.1.2.1, hk_.1.2.2.1, hk_.1.2.2.2⟩)); replace HO303 := aM (Kd.R_mono (ok' := fun k_ => some k_ ≠ (v288 : Value).ownBlock ∧ some k_ ≠ (.slice Ao26 t290.length co26 : Value).ownBlock ∧ some k_ ≠ (v298 : Value).ownBlock) (Kd.R_keptB ((Kd.R_tight2 rfl HO303.out)) hkp (fun k_ hk_ hs_ => (fun e_ => (e_.2.2.2.1) hk_.1) hs_)) (fun k_ hk_ => ⟨hk_.1.2.1, hk_.1.2.2.1, hk_.1.2.2.2⟩)); replace HB := aM (hb); (try clear hb); (try clear hkp)))
   (try simp only [Act.put, List.setIfInBounds_toArray, List.set_cons_zero, List.set_cons_succ])
   go_cut [82] (fun v82 wc => ∃ (kq : Nat) (x82_45 : Bool), v82 = .bool x82_45 ∧ Aside0 (lZ.j1 kq l0 l1 t286 t287 t296 x82_45 = some r) ∧ Aside0 (kq ≤ kj15) ∧ Aside0 (Kd.R k60 60 wc w.heap.size (fun k_ => some k_ ≠ (v298 : Value).ownBlock) v288 t286) ∧ Aside0 (Kd.R k60 60 wc w.heap.size (fun k_ => some k_ ≠ (v288 : Value).ownBlock) v298 t296) ∧ Aside0 (Below w.heap.size w wc))
   case first =>
    have H := HC46.out
    clear HC46
    by_cases c55 : t311 < 0
    ·rw [if_pos c55] at H
     have c55b0 : decide (t311 < 0) = true := decide_eq_true c55
     clear c55
     (first | rw [c55b0] | (simp only [i64_w, i32_w]; rw [c55b0]) | rw [c55e] | skip)
     have H' := aM H
     clear H
     go_wp2
     go_meet
     case rel => exact ⟨_, (true), aP17, H', ⟨by have := HJ15.out; first | omega | exact Nat.le_refl _⟩, ⟨by (with_reducible repeat (first | apply Kd.R_alloc | apply Kd.R_drewN | apply Kd.R_drew)); exact Kd.R_mono HO_6.out (fun _ hk => hk.2.1)⟩, ⟨by (with_reducible repeat (first | apply Kd.R_alloc | apply Kd.R_drewN | apply Kd.R_drew)); exact Kd.R_mono HO_10.out (fun _ hk => hk.1)⟩, ⟨bB⟩⟩
    rw [if_neg c55] at H
    have c55b0 : decide (t311 < 0) = false := decide_eq_false c55
    clear c55
    (first | rw [c55b0] | (simp only [i64_w, i32_w]; rw [c55b0]) | rw [c55e] | skip)
    replace H := Option.bind_eq_some_iff.mp H
    obtain ⟨t312, A560, H⟩ := H
    replace H : (if t312 = true then (lZ.j1 kj15 l0 l1 t286 t287 t296 (t297 != t287)) else (lZ.j1 kj15 l0 l1 t286 t287 t296 true)) = some r := H
    have A56 := aM A560
    clear A560
    by_cases c57 : t312 = true
    ·subst c57
     replace H : (lZ.j1 kj15 l0 l1 t286 t287 t296 (t297 != t287)) = some r := by rw [if_pos rfl] at H; exact H
     have H' := aM H
     clear H
     obtain ⟨Ao58, co58, eo58⟩ := Kd.R_slice HO_10.out
     subst eo58
     obtain ⟨Ao59, co59, eo59⟩ := Kd.R_slice HO_6.out
     subst eo59
     go_wp2_with (first | (go_at_call 13; (with_reducible refine (laws_eqPartS.calls kj15 _ _ t296 _ _ t286 true _ ?side1 ?side2 ?side3 ?side4 A56.out).mono ?_); (case side1 => exact cC ((Kd.R_reads' HO_10.out).2.2)); (case side2 => exact (Kd.R_reads' HO_10.out).2.1); (case side3 => exact cC ((Kd.R_reads' HO_6.out).2.2)); (case side4 => exact (Kd.R_reads' HO_6.out).2.1); rintro e w60 ⟨rfl, hb⟩; replace HO_6 := aM (Kd.R_below (rR HO_6.out) hb); replace HO_8 := aM (Kd.R_below (rR HO_8.out) hb); replace HO_10 := aM (Kd.R_below (rR HO_10.out) hb); replace HO303 := aM (Kd.R_below (rR HO303.out) hb); replace HB := aM (below_step bB hb); (try clear hb); (try clear hb2); (try clear hk); (try clear hi)))
     go_meet
     case rel => exact ⟨_, ((t297 != t287)), aP17, H', ⟨by have := HJ15.out; first | omega | exact Nat.le_refl _⟩, ⟨by (with_reducible repeat (first | apply Kd.R_alloc | apply Kd.R_drewN | apply Kd.R_drew)); exact Kd.R_mono HO_6.out (fun _ hk => hk.2.1)⟩, ⟨by (with_reducible repeat (first | apply Kd.R_alloc | apply Kd.R_drewN | apply Kd.R_drew)); exact Kd.R_mono HO_10.out (fun _ hk => hk.1)⟩, ⟨bB⟩⟩
    replace c57 := Bool.eq_false_iff.mpr c57
    subst c57
    replace H : (lZ.j1 kj15 l0 l1 t286 t287 t296 true) = some r := by rw [if_neg (show ¬ (false = true) by decide)] at H; exact H
    have H' := aM H
    clear H
    obtain ⟨Ao61, co61, eo61⟩ := Kd.R_slice HO_10.out
    subst eo61
    obtain ⟨Ao62, co62, eo62⟩ := Kd.R_slice HO_6.out
    subst eo62
    go_wp2_with (first | (go_at_call 13; (with_reducible refine (laws_eqPartS.calls kj15 _ _ t296 _ _ t286 false _ ?side1 ?side2 ?side3 ?side4 A56.out).mono ?_); (case side1 => exact cC ((Kd.R_reads' HO_10.out).2.2)); (case side2 => exact (Kd.R_reads' HO_10.out).2.1); (case side3 => exact cC ((Kd.R_reads' HO_6.out).2.2)); (case side4 => exact (Kd.R_reads' HO_6.out).2.1); rintro e w63 ⟨rfl, hb⟩; replace HO_6 := aM (Kd.R_below (rR HO_6.out) hb); replace HO_8 := aM (Kd.R_below (rR HO_8.out) hb); replace HO_10 := aM (Kd.R_below (rR HO_10.out) hb); replace HO303 := aM (Kd.R_below (rR HO303.out) hb); replace HB := aM (below_step bB hb); (try clear hb); (try clear hb2); (try clear hk); (try clear hi)))
    go_meet
    case rel => exact ⟨_, (true), aP17, H', ⟨by have := HJ15.out; first | omega | exact Nat.le_refl _⟩, ⟨by (with_reducible repeat (first | apply Kd.R_alloc | apply Kd.R_drewN | apply Kd.R_drew)); exact Kd.R_mono HO_6.out (fun _ hk => hk.2.1)⟩, ⟨by (with_reducible repeat (first | apply Kd.R_alloc | apply Kd.R_drewN | apply Kd.R_drew)); exact Kd.R_mono HO_10.out (fun _ hk => hk.1)⟩, ⟨bB⟩⟩
   case rest =>
    clear HC46
    try clear c1
    try clear c2
    try clear p2
    try clear c3
    try clear c4
    try clear c4b0
    try clear c5
    try clear c6
    try clear c7
    try clear c7b0
    try clear c9
    try clear c11
    try clear c13
    try clear c18
    try clear c20
    try clear c21
    try clear c22
    try clear c23
    try clear c24
    try clear c25
    try clear c30
    try clear c37
    try clear c40
    try clear c43
    try clear c55
    try clear c55b0
    try clear c57
    try clear p2
    obtain ⟨kq, x82_45, rfl, HA, HJ45, HO_6, HO_10, HB⟩ := hcut
    cases kq with
    | zero => exact absurd HA.out (by simp [lZ.j1])
    | succ kj45 =>
     have H := HA.out
     clear HA
     simp only [lZ.j1] at H
     by_cases c64 : x82_45 = true
     ·subst c64
      replace H : (some false) = some r := by rw [if_pos rfl] at H; exact H
      exact absurd ((Option.some.inj H).trans hrt_.out) (by decide)
     replace c64 := Bool.eq_false_iff.mpr c64
     subst c64
     replace H : ((laws_markPartS.f kj45 t296 1).bind fun bt313 => ((laws_heldPartS.f kj45 bt313.2 1).bind fun t315 => (if t315 < 0 then (some false) else (if t315 = bt313.1 then ((laws_toPartS.f kj45 l0).bind fun t316 => ((laws_toPartSS.f kj45 l1).bind fun t319 => ((impl_TransformOver.f kj45 t316 t319).bind fun bt322 => ((laws_eqPartS.f kj45 bt322.1 t286).bind fun t326 => (if t326 = true then (lZ.j2 kj45 bt313.2 bt313.1 (bt322.2 != t287)) else (lZ.j2 kj45 bt313.2 bt313.1 true)))))) else (some false))))) = some r := by rw [if_neg (show ¬ (false = true) by decide)] at H; exact H
     replace H := Option.bind_eq_some_iff.mp H
     obtain ⟨⟨t313, t314⟩, A650, H⟩ := H
     replace H : ((laws_heldPartS.f kj45 t314 1).bind fun t315 => (if t315 < 0 then (some false) else (if t315 = t313 then ((laws_toPartS.f kj45 l0).bind fun t316 => ((laws_toPartSS.f kj45 l1).bind fun t319 => ((impl_TransformOver.f kj45 t316 t319).bind fun bt322 => ((laws_eqPartS.f kj45 bt322.1 t286).bind fun t326 => (if t326 = true then (lZ.j2 kj45 t314 t313 (bt322.2 != t287)) else (lZ.j2 kj45 t314 t313 true)))))) else (some false)))) = some r := H
     have A65 := aM A650
     clear A650
     replace H := Option.bind_eq_some_iff.mp H
     obtain ⟨t315, A660, H⟩ := H
     replace H : (if t315 < 0 then (some false) else (if t315 = t313 then ((laws_toPartS.f kj45 l0).bind fun t316 => ((laws_toPartSS.f kj45 l1).bind fun t319 => ((impl_TransformOver.f kj45 t316 t319).bind fun bt322 => ((laws_eqPartS.f kj45 bt322.1 t286).bind fun t326 => (if t326 = true then (lZ.j2 kj45 t314 t313 (bt322.2 != t287)) else (lZ.j2 kj45 t314 t313 true)))))) else (some false))) = some r := H
     have A66 := aM A660
     clear A660
     by_cases c67 : t315 < 0
     ·rw [if_pos c67] at H
      have c67b0 : decide (t315 < 0) = true := decide_eq_true c67
      clear c67
      exact absurd ((Option.some.inj H).trans hrt_.out) (by decide)
     rw [if_neg c67] at H
     have c67b0 : decide (t315 < 0) = false := decide_eq_false c67
     clear c67
     by_cases c71 : t315 = t313
     rotate_left
     ·rw [if_neg c71] at H
      have c71b0 : (t315 == t313) = false := beq_eq_false_iff_ne.mpr c71
      have c71b1 : (t315 != t313) = true := bne_iff_ne.mpr c71
      exact absurd ((Option.some.inj H).trans hrt_.out) (by decide)
     rw [if_pos c71] at H
     have c71b0 : (t315 == t313) = true := beq_iff_eq.mpr c71
     have c71b1 : (t315 != t313) = false := bne_eq_false_iff_eq.mpr c71
     clear c71
     replace H := Option.bind_eq_some_iff.mp H
     obtain ⟨t316, A720, H⟩ := H
     replace H : ((laws_toPartSS.f kj45 l1).bind fun t319 => ((impl_TransformOver.f kj45 t316 t319).bind fun bt322 => ((laws_eqPartS.f kj45 bt322.1 t286).bind fun t326 => (if t326 = true then (lZ.j2 kj45 t314 t313 (bt322.2 != t287)) else (lZ.j2 kj45 t314 t313 true))))) = some r := H
     have A72 := aM A720
     clear A720
     replace H := Option.bind_eq_some_iff.mp H
     obtain ⟨t319, A730, H⟩ := H
     replace H : ((impl_TransformOver.f kj45 t316 t319).bind fun bt322 => ((laws_eqPartS.f kj45 bt322.1 t286).bind fun t326 => (if t326 = true then (lZ.j2 kj45 t314 t313 (bt322.2 != t287)) else (lZ.j2 kj45 t314 t313 true)))) = some r := H
     have A73 := aM A730
     clear A730
     replace H := Option.bind_eq_some_iff.mp H
     obtain ⟨⟨t322, t323⟩, A740, H⟩ := H
     replace H : ((laws_eqPartS.f kj45 t322 t286).bind fun t326 => (if t326 = true then (lZ.j2 kj45 t314 t313 (t323 != t287)) else (lZ.j2 kj45 t314 t313 true))) = some r := H
     have A74 := aM A740
     clear A740
     have HC75 := aM H
     clear H
     obtain ⟨Ao76, co76, eo76⟩ := Kd.R_slice HO_10.out
     subst eo76
     go_upto_region 32 with (first | ((with_reducible refine gate_callee (f := 18) rfl ?_); refine goesL_ (some 85) rfl rfl Try.func18 (by kernel_rfl) rfl #[.slice Ao76 t296.length co76, .int .i64 1] rfl mM ?_; (with_reducible refine (laws_markPartS.calls kj45 (fun k_ => some k_ = (.slice Ao76 t296.length co76 : Value).ownBlock) (.slice Ao76 t296.length co76) t296 1 t313 t314 w _ ?side1 ?side2 A65.out).mono ?_); (case side1 => exact bB); (case side2 => exact Kd.R_tight rfl HO_10.out); rintro e w77 ⟨rfl, hy0, hb, hkp⟩; refine ⟨_, rfl, ?_⟩; replace HO_6 := aM (Kd.R_mono (ok' := fun k_ => some k_ ≠ (.slice Ao76 t296.length co76 : Value).ownBlock) (Kd.R_keptB (HO_6.out) hkp (fun k_ hk_ hs_ => (hk_) hs_)) (fun k_ hk_ => hk_.1)); replace HO_10 := aM (Kd.R_reok rfl hy0 (fun k_ e_ => HO_10.out.1 k_ e_)); replace HB := aM (hb); (try clear hb); (try clear hkp); (try clear hy0)) | ((with_reducible refine gate_callee (f := 19) rfl ?_); refine goesL_ (some 88) rfl rfl Try.func19 (by kernel_rfl) rfl #[.slice Ao76 t314.length co76, .int .i64 1] rfl (by (try simp only [List.map_toArray, List.map_cons, List.map_nil]); first | done | (rw [show t314.length = t296.length from (Kd.R_reads' HO_10.out).1.symm] <;> rfl) | rfl | (simp only [List.length_drop, List.length_take]; rfl)) ?_; (with_reducible refine (laws_heldPartS.calls kj45 _ _ t314 1 t315 _ ?side1 ?side2 A66.out).mono ?_); (case side1 => exact cC ((Kd.R_reads' HO_10.out).2.2)); (case side2 => rw [show t314.length = t296.length from (Kd.R_reads' HO_10.out).1.symm]; exact (Kd.R_reads' HO_10.out).2.1); rintro e w78 ⟨rfl, hb⟩; refine ⟨_, rfl, ?_⟩; replace HO_6 := aM (Kd.R_below (rR HO_6.out) hb); replace HO_10 := aM (Kd.R_below (rR HO_10.out) hb); replace HB := aM (below_step bB hb); (try clear hb); (try clear hb2); (try clear hk); (try clear hi)) | ((with_reducible refine gate_callee (f := 11) rfl ?_); refine goesL_ (some 96) rfl rfl Try.func11 (by kernel_rfl) rfl #[.slice A0 l0.length c0] rfl mM ?_; (with_reducible refine (laws_toPartS.calls kj45 _ _ l0 t316 _ ?side1 ?side2 A72.out).mono ?_); (case side1 => exact cC (Kd.C_below HR0.out HB.out)); (case side2 => exact HC0.out); rintro e w79 ⟨v317, rfl, ho0, hb⟩; refine ⟨_, rfl, ?_⟩; have HO318 := aM (Kd.R_lower (Kd.R_new' (Kd.R_new' ho0 (Kd.R_lt (rR HO_6.out))) (Kd.R_lt (rR HO_10.out))) (below_size bB)); replace HO_6 := aM (Kd.R_elder' (rR HO_6.out) (Kd.R_base ho0) hb); replace HO_10 := aM (Kd.R_elder' (rR HO_10.out) (Kd.R_base ho0) hb); replace HB := aM (below_step bB hb); (try clear hb); (try clear hb2); (try clear hk); (try clear hi); (try clear ho0)) | ((with_reducible refine gate_callee (f := 22) rfl ?_); refine goesL_ (some 98) rfl rfl Try.func22 (by kernel_rfl) rfl #[.slice A1 l1.length c1] rfl mM ?_; (with_reducible refine (laws_toPartSS.calls kj45 _ _ l1 t319 _ ?side1 ?side2 A73.out).mono ?_); (case side1 => exact cC (Kd.C_below HR1.out HB.out)); (case side2 => exact HC1.out); rintro e w80 ⟨v320, rfl, ho0, hb⟩; refine ⟨_, rfl, ?_⟩; have HO321 := aM (Kd.S_lower (Kd.S_new' (Kd.S_new' (Kd.S_new' ho0 (Kd.R_lt (rR HO_6.out))) (Kd.R_lt (rR HO_10.out))) (Kd.R_lt (rR HO318.out))) (below_size bB)); replace HO_6 := aM (Kd.R_below (rR HO_6.out) hb); replace HO_10 := aM (Kd.R_below (rR HO_10.out) hb); replace HO318 := aM (Kd.R_below (rR HO318.out) hb); replace HB := aM (below_step bB hb); (try clear hb); (try clear hb2); (try clear hk); (try clear hi); (try clear ho0); obtain ⟨Ao81, co81, eo81⟩ := Kd.R_slice HO318.out; subst eo81; obtain ⟨Ao82, co82, eo82⟩ := Kd.S_slice HO321.out; subst eo82) | ((with_reducible refine gate_callee (f := 23) rfl ?_); refine goesL_ (some 99) rfl rfl Try.func23 (by kernel_rfl) rfl #[.slice Ao81 t316.length co81, .slice Ao82 t319.length co82] rfl mM ?_; (with_reducible refine (impl_TransformOver.calls kj45 _ _ t316 _ _ t319 t322 t323 _ ?side1 ?side2 ?side3 ?side4 A74.out).mono ?_); (case side1 => exact cC ((Kd.R_reads' HO318.out).2.2)); (case side2 => exact (Kd.R_reads' HO318.out).2.1); (case side3 => exact cC ((Kd.S_reads' HO321.out).2.2)); (case side4 => exact (Kd.S_reads' HO321.out).2.1); rintro e w83 ⟨v324, rfl, ho0, hb⟩; refine ⟨_, rfl, ?_⟩; have n0_ := aM (Kd.R_elder' (rR HO_6.out) (Kd.R_base ho0) hb); have n1_ := aM (Kd.R_elder' (rR HO_10.out) (Kd.R_base ho0) hb); have n2_ := aM (Kd.R_elder' (rR HO318.out) (Kd.R_base ho0) hb); have n3_ := aM (Kd.S_elder' (by (with_reducible repeat (first | apply Kd.S_alloc | apply Kd.S_drewN | apply Kd.S_drew)); exact HO321.out) (Kd.R_base ho0) hb); have n4_ := aM (Kd.R_lower (Kd.R_new' (Kd.R_new' (Kd.R_new' ho0 (Kd.R_lt (rR HO_6.out))) (Kd.R_lt (rR HO_10.out))) (Kd.R_lt (rR HO318.out))) (below_size bB)); have n5_ := aM (below_step bB hb); clear HO_6; clear HO_10; clear HO318; clear HO321; clear HB; have HO_6 := n0_; have HO_10 := n1_; have HO318 := n2_; have HO321 := n3_; have HO325 := n4_; have HB := n5_; clear n0_ n1_ n2_ n3_ n4_ n5_; (try clear hb); (try clear hb2); (try clear hk); (try clear hi); (try clear ho0)))
     (try simp only [Act.put, List.setIfInBounds_toArray, List.set_cons_zero, List.set_cons_succ])
     go_cut [110] (fun v110 wc => ∃ (kq : Nat) (x110_74 : Bool), v110 = .bool x110_74 ∧ Aside0 (lZ.j2 kq t314 t313 x110_74 = some r) ∧ Aside0 (kq ≤ kj45) ∧ Aside0 (Kd.R k60 60 wc w.heap.size (fun _ => True) (.slice Ao76 t296.length co76) t314) ∧ Aside0 (Below w.heap.size w wc))
     case first =>
      have H := HC75.out
      clear HC75
      replace H := Option.bind_eq_some_iff.mp H
      obtain ⟨t326, A840, H⟩ := H
      replace H : (if t326 = true then (lZ.j2 kj45 t314 t313 (t323 != t287)) else (lZ.j2 kj45 t314 t313 true)) = some r := H
      have A84 := aM A840
      clear A840
      by_cases c85 : t326 = true
      ·subst c85
       replace H : (lZ.j2 kj45 t314 t313 (t323 != t287)) = some r := by rw [if_pos rfl] at H; exact H
       have H' := aM H
       clear H
       obtain ⟨Ao86, co86, eo86⟩ := Kd.R_slice HO325.out
       subst eo86
       obtain ⟨Ao87, co87, eo87⟩ := Kd.R_slice HO_6.out
       subst eo87
       go_wp2_with (first | ((with_reducible refine gate_callee (f := 13) rfl ?_); refine goesL_ (some 104) rfl rfl Try.func13 (by kernel_rfl) rfl #[.slice Ao86 t322.length co86, .slice Ao87 t286.length co87] rfl mM ?_; (with_reducible refine (laws_eqPartS.calls kj45 _ _ t322 _ _ t286 true _ ?side1 ?side2 ?side3 ?side4 A84.out).mono ?_); (case side1 => exact cC ((Kd.R_reads' HO325.out).2.2)); (case side2 => exact (Kd.R_reads' HO325.out).2.1); (case side3 => exact cC ((Kd.R_reads' HO_6.out).2.2)); (case side4 => exact (Kd.R_reads' HO_6.out).2.1); rintro e w88 ⟨rfl, hb⟩; refine ⟨_, rfl, ?_⟩; have n0_ := aM (Kd.R_below (rR HO_6.out) hb); have n1_ := aM (Kd.R_below (rR HO_10.out) hb); have n2_ := aM (Kd.R_below (rR HO318.out) hb); have n3_ := aM (Kd.S_below (by (with_reducible repeat (first | apply Kd.S_alloc | apply Kd.S_drewN | apply Kd.S_drew)); exact HO321.out) hb); have n4_ := aM (Kd.R_below (rR HO325.out) hb); have n5_ := aM (below_step bB hb); clear HO_6; clear HO_10; clear HO318; clear HO321; clear HO325; clear HB; have HO_6 := n0_; have HO_10 := n1_; have HO318 := n2_; have HO321 := n3_; have HO325 := n4_; have HB := n5_; clear n0_ n1_ n2_ n3_ n4_ n5_; (try clear hb); (try clear hb2); (try clear hk); (try clear hi)))
       go_meet
       case rel => exact ⟨_, ((t323 != t287)), aP17, H', ⟨by have := HJ15.out; have := HJ45.out; first | omega | exact Nat.le_refl _⟩, ⟨by (with_reducible repeat (first | apply Kd.R_alloc | apply Kd.R_drewN | apply Kd.R_drew)); exact Kd.R_mono HO_10.out (fun _ hk => trivial)⟩, ⟨bB⟩⟩
      replace c85 := Bool.eq_false_iff.mpr c85
      subst c85
      replace H : (lZ.j2 kj45 t314 t313 true) = some r := by rw [if_neg (show ¬ (false = true) by decide)] at H; exact H
      have H' := aM H
      clear H
      obtain ⟨Ao89, co89, eo89⟩ := Kd.R_slice HO325.out
      subst eo89
      obtain ⟨Ao90, co90, eo90⟩ := Kd.R_slice HO_6.out
      subst eo90
      go_wp2_with (first | ((with_reducible refine gate_callee (f := 13) rfl ?_); refine goesL_ (some 104) rfl rfl Try.func13 (by kernel_rfl) rfl #[.slice Ao89 t322.length co89, .slice Ao90 t286.length co90] rfl mM ?_; (with_reducible refine (laws_eqPartS.calls kj45 _ _ t322 _ _ t286 false _ ?side1 ?side2 ?side3 ?side4 A84.out).mono ?_); (case side1 => exact cC ((Kd.R_reads' HO325.out).2.2)); (case side2 => exact (Kd.R_reads' HO325.out).2.1); (case side3 => exact cC ((Kd.R_reads' HO_6.out).2.2)); (case side4 => exact (Kd.R_reads' HO_6.out).2.1); rintro e w91 ⟨rfl, hb⟩; refine ⟨_, rfl, ?_⟩; have n0_ := aM (Kd.R_below (rR HO_6.out) hb); have n1_ := aM (Kd.R_below (rR HO_10.out) hb); have n2_ := aM (Kd.R_below (rR HO318.out) hb); have n3_ := aM (Kd.S_below (by (with_reducible repeat (first | apply Kd.S_alloc | apply Kd.S_drewN | apply Kd.S_drew)); exact HO321.out) hb); have n4_ := aM (Kd.R_below (rR HO325.out) hb); have n5_ := aM (below_step bB hb); clear HO_6; clear HO_10; clear HO318; clear HO321; clear HO325; clear HB; have HO_6 := n0_; have HO_10 := n1_; have HO318 := n2_; have HO321 := n3_; have HO325 := n4_; have HB := n5_; clear n0_ n1_ n2_ n3_ n4_ n5_; (try clear hb); (try clear hb2); (try clear hk); (try clear hi)))
      go_meet
      case rel => exact ⟨_, (true), aP17, H', ⟨by have := HJ15.out; have := HJ45.out; first | omega | exact Nat.le_refl _⟩, ⟨by (with_reducible repeat (first | apply Kd.R_alloc | apply Kd.R_drewN | apply Kd.R_drew)); exact Kd.R_mono HO_10.out (fun _ hk => trivial)⟩, ⟨bB⟩⟩
     case rest =>
      clear HC75
      try clear c1
      try clear c2
      try clear p2
      try clear c3
      try clear c4
      try clear c4b0
      try clear c5
      try clear c6
      try clear c7
      try clear c7b0
      try clear c8
      try clear c9
      try clear c11
      try clear c13
      try clear c18
      try clear c19
      try clear c20
      try clear c21
      try clear c22
      try clear c23
      try clear c24
      try clear c25
      try clear c30
      try clear c37
      try clear c40
      try clear c43
      try clear c55
      try clear c55b0
      try clear c57
      try clear c64
      try clear c67
      try clear c67b0
      try clear c71
      try clear c71b0
      try clear c71b1
      try clear c85
      try clear p2
      obtain ⟨kq, x110_74, rfl, HA, HJ74, HO_10, HB⟩ := hcut
      have hl10_74 := (Kd.R_reads' HO_10.out).1
      rw [hl10_74] at HO_10
      (try simp only [hl10_74])
      cases kq with
      | zero => exact absurd HA.out (by simp [lZ.j2])
      | succ kj74 =>
       have H := HA.out
       clear HA
       simp only [lZ.j2] at H
       by_cases c92 : x110_74 = true
       ·subst c92
        replace H : (some false) = some r := by rw [if_pos rfl] at H; exact H
        exact absurd ((Option.some.inj H).trans hrt_.out) (by decide)
       replace c92 := Bool.eq_false_iff.mpr c92
       subst c92
       replace H : ((laws_heldPartS.f kj74 t314 1).bind fun t327 => (if t327 < 0 then (some false) else (if t327 = t313 then (some true) else (some false)))) = some r := by rw [if_neg (show ¬ (false = true) by decide)] at H; exact H
       replace H := Option.bind_eq_some_iff.mp H
       obtain ⟨t327, A930, H⟩ := H
       replace H : (if t327 < 0 then (some false) else (if t327 = t313 then (some true) else (some false))) = some r := H
       have A93 := aM A930
       clear A930
       by_cases c94 : t327 < 0
       ·rw [if_pos c94] at H
        have c94b0 : decide (t327 < 0) = true := decide_eq_true c94
        clear c94
        exact absurd ((Option.some.inj H).trans hrt_.out) (by decide)
       rw [if_neg c94] at H
       have c94b0 : decide (t327 < 0) = false := decide_eq_false c94
       clear c94
       by_cases c96 : t327 = t313
       rotate_left
       ·rw [if_neg c96] at H
        have c96b0 : (t327 == t313) = false := beq_eq_false_iff_ne.mpr c96
        have c96b1 : (t327 != t313) = true := bne_iff_ne.mpr c96
        exact absurd ((Option.some.inj H).trans hrt_.out) (by decide)
       rw [if_pos c96] at H
       have c96b0 : (t327 == t313) = true := beq_iff_eq.mpr c96
       have c96b1 : (t327 != t313) = false := bne_eq_false_iff_eq.mpr c96
       clear c96
       obtain rfl := Option.some.inj H
       go_wp2_with (first | ((with_reducible refine gate_callee (f := 19) rfl ?_); refine goesL_ (some 113) rfl rfl Try.func19 (by kernel_rfl) rfl #[.slice Ao76 t314.length co76, .int .i64 1] rfl mM ?_; (with_reducible refine (laws_heldPartS.calls kj74 _ _ t314 1 t327 _ ?side1 ?side2 A93.out).mono ?_); (case side1 => exact cC ((Kd.R_reads' HO_10.out).2.2)); (case side2 => exact (Kd.R_reads' HO_10.out).2.1); rintro e w97 ⟨rfl, hb⟩; refine ⟨_, rfl, ?_⟩; replace HO_10 := aM (Kd.R_below (rR HO_10.out) hb); replace HB := aM (below_step bB hb); (try clear hb); (try clear hb2); (try clear hk); (try clear hi)))
       go_ret
       exact ⟨eR, bB⟩
def lZ.Pure : Prop := ∀ (l0 : List (S58)) (l1 : List (List (S58))), l0.length ≤ 9223372036854775807 → (∀ x ∈ l0, ((Lit.int .i64 x.f0).wf = true ∧ x.f1.size ≤ 9223372036854775807 ∧ x.f2.size ≤ 9223372036854775807)) → l1.length ≤ 9223372036854775807 → (∀ x ∈ l1, (x.length ≤ 9223372036854775807 ∧ ∀ y0 ∈ x, ((Lit.int .i64 y0.f0).wf = true ∧ y0.f1.size ≤ 9223372036854775807 ∧ y0.f2.size ≤ 9223372036854775807))) → ∃ k, lZ.f k l0 l1 = some true
theorem lZ.walk (P : lZ.Pure) (a0 : Option Addr) (len0 cap0 : Nat) (l0 : List (S58)) (a1 : Option Addr) (len1 cap1 : Nat) (l1 : List (List (S58))) (w : World) (w0 : Read.IsRows k58 (fun x => ((Lit.int .i64 x.f0).wf = true ∧ x.f1.size ≤ 9223372036854775807 ∧ x.f2.size ≤ 9223372036854775807)) w a0 len0 cap0 l0) (w1 : Read.IsRows (Kd.slice 58 k58) (fun x => (x.length ≤ 9223372036854775807 ∧ ∀ y0 ∈ x, ((Lit.int .i64 y0.f0).wf = true ∧ y0.f1.size ≤ 9223372036854775807 ∧ y0.f2.size ≤ 9223372036854775807))) w a1 len1 cap1 l1) :
  Calls Try.prog 6 #[.slice a0 len0 cap0, .slice a1 len1 cap1] w fun e w' => e = .returned (.bool true) ∧ Below w.heap.size w w' := by
 obtain ⟨e0, hc0, hr0, hm0, hw0⟩ := w0
 subst e0
 obtain ⟨e1, hc1, hr1, hm1, hw1⟩ := w1
 subst e1
 obtain ⟨k, h⟩ := P l0 l1 hm0 hw0 hm1 hw1
 refine (lZ.calls k _ _ l0 _ _ l1 true rfl w hr0 hc0 hr1 hc1 h).mono ?_
 rintro e w' ⟨rfl, hd⟩
 exact ⟨rfl, hd⟩
end Go.Proofs.Ytoagljlnfakgjaa.PFnExactTransformOver
