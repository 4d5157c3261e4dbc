/- (thin) Written by a program of this session (wip/ovl.py) over the kit's print: plain functions with the answers of the Go functions, and the proofs that they are; no condition. -/
import Derived.Test.YtoagljlnfakgjaaRead
import Derived.Test.YtoagljlnfakgjaaPFnExactTransformOpsx0
import Derived.Test.YtoagljlnfakgjaaPFnExactTransformOpsx1
import Derived.Test.YtoagljlnfakgjaaPFnExactTransformOpsx6
import Derived.Test.YtoagljlnfakgjaaPFnExactTransformOpsx10
import Derived.Test.YtoagljlnfakgjaaPFnExactTransformOpsx11
import Derived.Test.YtoagljlnfakgjaaPFnExactTransformOpsx12
namespace Go.Proofs.Ytoagljlnfakgjaa.PFnExactTransformOps
open Go.RowKit Go.Proofs.YtoagljlnfakgjaaW.PrintWords Go.Proofs.YtoagljlnfakgjaaW.PrintLast Go.Proofs.YtoagljlnfakgjaaW.PrintMore
attribute [local go_sem] max2_int min2_int max_two min_two max_three min_three max_four min_four   -- for this text's walks alone
set_option linter.unusedVariables false
set_option linter.unusedSimpArgs false
/-! ### lZ: function 5 -/
mutual
def lZ.j0 : Nat → List (S58) → List (S58) → List (S60) → List (S60) → Bool → List (S60) → List (S60) → List (S60) → List (S60) → Bool → Bool → Option (Bool)
 | 0, _, _, _, _, _, _, _, _, _, _, _ => none
 | k + 1, x0, x1, x6, x7, x8, x9, x10, x11, x12, x13, x64 => if x64 = true then (some false) else ((laws_toPartS.f k x0).bind fun t268 => ((laws_eqPartS.f k x9 t268).bind fun t271 => (if t271 = true then ((laws_toPartS.f k x1).bind fun t272 => ((laws_eqPartS.f k x10 t272).bind fun t275 => (if t275 = true then ((laws_markPartS.f k x9 1).bind fun bt276 => ((laws_markPartS.f k x10 bt276.1).bind fun bt278 => (if bt278.1 < 0 then (lZ.j1 k x0 x1 x6 x7 x8 x11 x12 true) else ((laws_eqPartS.f k x11 x6).bind fun t280 => (if t280 = true then ((laws_eqPartS.f k x12 x7).bind fun t281 => (if t281 = true then (lZ.j1 k x0 x1 x6 x7 x8 x11 x12 (x13 != x8)) else (lZ.j1 k x0 x1 x6 x7 x8 x11 x12 true))) else (lZ.j1 k x0 x1 x6 x7 x8 x11 x12 true)))))) else (some false)))) else (some false))))
def lZ.j1 : Nat → List (S58) → List (S58) → List (S60) → List (S60) → Bool → List (S60) → List (S60) → Bool → Option (Bool)
 | 0, _, _, _, _, _, _, _, _ => none
 | k + 1, x0, x1, x6, x7, x8, x11, x12, x99 => if x99 = true then (some false) else ((laws_markPartS.f k x11 1).bind fun bt282 => ((laws_markPartS.f k x12 bt282.1).bind fun bt284 => ((laws_heldPartS.f k bt282.2 1).bind fun t286 => (if t286 < 0 then (some false) else ((laws_heldPartS.f k bt284.2 t286).bind fun t287 => (if t287 < 0 then (some false) else (if t287 = bt284.1 then ((laws_toPartS.f k x0).bind fun t288 => ((laws_toPartS.f k x1).bind fun t291 => ((impl_TransformOps.f k t288 t291).bind fun bt294 => ((laws_eqPartS.f k bt294.1 x6).bind fun t301 => (if t301 = true then ((laws_eqPartS.f k bt294.2.1 x7).bind fun t302 => (if t302 = true then (lZ.j2 k bt282.2 bt284.2 bt284.1 (bt294.2.2 != x8)) else (lZ.j2 k bt282.2 bt284.2 bt284.1 true))) else (lZ.j2 k bt282.2 bt284.2 bt284.1 true)))))) else (some false))))))))
def lZ.j2 : Nat → List (S60) → List (S60) → Int → Bool → Option (Bool)
 | 0, _, _, _, _ => none
 | k + 1, x11, x12, x15, x142 => if x142 = true then (some false) else ((laws_heldPartS.f k x11 1).bind fun t303 => (if t303 < 0 then (some false) else ((laws_heldPartS.f k x12 t303).bind fun t304 => (if t304 < 0 then (some false) else (if t304 = x15 then (some true) else (some false))))))
end
def lZ.f (k : Nat) (l0 : List (S58)) (l1 : List (S58)) : Option (Bool) := (laws_szPartS.f k l0 1048576).bind fun t238 => (if t238 < 0 then (some true) else ((laws_szPartS.f k l1 t238).bind fun t239 => (if t239 < 0 then (some true) else ((laws_toPartS.f k l0).bind fun t240 => ((laws_toPartS.f k l1).bind fun t243 => ((spec_TransformOps.f k t240 t243).bind fun bt246 => ((laws_toPartS.f k l0).bind fun t253 => ((laws_toPartS.f k l1).bind fun t256 => ((impl_TransformOps.f k t253 t256).bind fun bt259 => ((laws_eqPartS.f k bt259.1 bt246.1).bind fun t266 => (if t266 = true then ((laws_eqPartS.f k bt259.2.1 bt246.2.1).bind fun t267 => (if t267 = true then (lZ.j0 k l0 l1 bt246.1 bt246.2.1 bt246.2.2 t253 t256 bt259.1 bt259.2.1 bt259.2.2 (bt259.2.2 != bt246.2.2)) else (lZ.j0 k l0 l1 bt246.1 bt246.2.1 bt246.2.2 t253 t256 bt259.1 bt259.2.1 bt259.2.2 true))) else (lZ.j0 k l0 l1 bt246.1 bt246.2.1 bt246.2.2 t253 t256 bt259.1 bt259.2.1 bt259.2.2 true))))))))))))
theorem lZ.mono_l : ∀ k, (∀ y0 y1 y2 y3 y4 y5 y6 y7 y8 y9 y10, LeO (lZ.j0 k y0 y1 y2 y3 y4 y5 y6 y7 y8 y9 y10) (lZ.j0 (k + 1) y0 y1 y2 y3 y4 y5 y6 y7 y8 y9 y10)) ∧ (∀ y0 y1 y2 y3 y4 y5 y6 y7, LeO (lZ.j1 k y0 y1 y2 y3 y4 y5 y6 y7) (lZ.j1 (k + 1) y0 y1 y2 y3 y4 y5 y6 y7)) ∧ (∀ y0 y1 y2 y3, LeO (lZ.j2 k y0 y1 y2 y3) (lZ.j2 (k + 1) y0 y1 y2 y3))
 | 0 => ⟨fun _ _ _ _ _ _ _ _ _ _ _ r h => by simp [lZ.j0] at h, fun _ _ _ _ _ _ _ _ r h => by simp [lZ.j1] at h, fun _ _ _ _ r h => by simp [lZ.j2] at h⟩
 | k + 1 => by
  obtain ⟨ih0, ih1, ih2⟩ := lZ.mono_l k
  refine ⟨?_, ?_, ?_⟩
  ·intro y0 y1 y2 y3 y4 y5 y6 y7 y8 y9 y10
   unfold lZ.j0
   repeat' first
   | (with_reducible exact ih0 _ _ _ _ _ _ _ _ _ _ _)
   | (with_reducible exact ih1 _ _ _ _ _ _ _ _)
   | (with_reducible exact ih2 _ _ _ _)
   | (with_reducible exact impl_TransformOps.mono _ _ _)
   | (with_reducible exact laws_eqPartS.mono _ _ _)
   | (with_reducible exact laws_heldPartS.mono _ _ _)
   | (with_reducible exact laws_markPartS.mono _ _ _)
   | (with_reducible exact laws_szPartS.mono _ _ _)
   | (with_reducible exact laws_toPartS.mono _ _)
   | (with_reducible exact spec_TransformOps.mono _ _ _)
   | (with_reducible exact LeO.refl _)
   | (with_reducible exact LeO.none _)
   | (with_reducible refine LeO.ite ?_ ?_)
   | (with_reducible refine LeO.bind ?_ (fun _ => ?_))
   | exact ih0 _ _ _ _ _ _ _ _ _ _ _
   | exact ih1 _ _ _ _ _ _ _ _
   | exact ih2 _ _ _ _
   | exact impl_TransformOps.mono _ _ _
   | exact laws_eqPartS.mono _ _ _
   | exact laws_heldPartS.mono _ _ _
   | exact laws_markPartS.mono _ _ _
   | exact laws_szPartS.mono _ _ _
   | exact laws_toPartS.mono _ _
   | exact spec_TransformOps.mono _ _ _
   | exact LeO.none _
   | refine LeO.ite ?_ ?_
   | refine LeO.bind ?_ (fun _ => ?_)
  ·intro y0 y1 y2 y3 y4 y5 y6 y7
   unfold lZ.j1
   repeat' first
   | (with_reducible exact ih0 _ _ _ _ _ _ _ _ _ _ _)
   | (with_reducible exact ih1 _ _ _ _ _ _ _ _)
   | (with_reducible exact ih2 _ _ _ _)
   | (with_reducible exact impl_TransformOps.mono _ _ _)
   | (with_reducible exact laws_eqPartS.mono _ _ _)
   | (with_reducible exact laws_heldPartS.mono _ _ _)
   | (with_reducible exact laws_markPartS.mono _ _ _)
   | (with_reducible exact laws_szPartS.mono _ _ _)
   | (with_reducible exact laws_toPartS.mono _ _)
   | (with_reducible exact spec_TransformOps.mono _ _ _)
   | (with_reducible exact LeO.refl _)
   | (with_reducible exact LeO.none _)
   | (with_reducible refine LeO.ite ?_ ?_)
   | (with_reducible refine LeO.bind ?_ (fun _ => ?_))
   | exact ih0 _ _ _ _ _ _ _ _ _ _ _
   | exact ih1 _ _ _ _ _ _ _ _
   | exact ih2 _ _ _ _
   | exact impl_TransformOps.mono _ _ _
   | exact laws_eqPartS.mono _ _ _
   | exact laws_heldPartS.mono _ _ _
   | exact laws_markPartS.mono _ _ _
   | exact laws_szPartS.mono _ _ _
   | exact laws_toPartS.mono _ _
   | exact spec_TransformOps.mono _ _ _
   | exact LeO.none _
   | refine LeO.ite ?_ ?_
   | refine LeO.bind ?_ (fun _ => ?_)
  ·intro y0 y1 y2 y3
   unfold lZ.j2
   repeat' first
   | (with_reducible exact ih0 _ _ _ _ _ _ _ _ _ _ _)
   | (with_reducible exact ih1 _ _ _ _ _ _ _ _)
   | (with_reducible exact ih2 _ _ _ _)
   | (with_reducible exact impl_TransformOps.mono _ _ _)
   | (with_reducible exact laws_eqPartS.mono _ _ _)
   | (with_reducible exact laws_heldPartS.mono _ _ _)
   | (with_reducible exact laws_markPartS.mono _ _ _)
   | (with_reducible exact laws_szPartS.mono _ _ _)
   | (with_reducible exact laws_toPartS.mono _ _)
   | (with_reducible exact spec_TransformOps.mono _ _ _)
   | (with_reducible exact LeO.refl _)
   | (with_reducible exact LeO.none _)
   | (with_reducible refine LeO.ite ?_ ?_)
   | (with_reducible refine LeO.bind ?_ (fun _ => ?_))
   | exact ih0 _ _ _ _ _ _ _ _ _ _ _
   | exact ih1 _ _ _ _ _ _ _ _
   | exact ih2 _ _ _ _
   | exact impl_TransformOps.mono _ _ _
   | exact laws_eqPartS.mono _ _ _
   | exact laws_heldPartS.mono _ _ _
   | exact laws_markPartS.mono _ _ _
   | exact laws_szPartS.mono _ _ _
   | exact laws_toPartS.mono _ _
   | exact spec_TransformOps.mono _ _ _
   | exact LeO.none _
   | refine LeO.ite ?_ ?_
   | refine LeO.bind ?_ (fun _ => ?_)
theorem lZ.mono : ∀ a0 a1 k, LeO (lZ.f k a0 a1) (lZ.f (k + 1) a0 a1) := by
 intro a0 a1 k
 obtain ⟨ih0, ih1, ih2⟩ := lZ.mono_l k
 unfold lZ.f
 repeat' first
   | (with_reducible exact ih0 _ _ _ _ _ _ _ _ _ _ _)
   | (with_reducible exact ih1 _ _ _ _ _ _ _ _)
   | (with_reducible exact ih2 _ _ _ _)
   | (with_reducible exact impl_TransformOps.mono _ _ _)
   | (with_reducible exact laws_eqPartS.mono _ _ _)
   | (with_reducible exact laws_heldPartS.mono _ _ _)
   | (with_reducible exact laws_markPartS.mono _ _ _)
   | (with_reducible exact laws_szPartS.mono _ _ _)
   | (with_reducible exact laws_toPartS.mono _ _)
   | (with_reducible exact spec_TransformOps.mono _ _ _)
   | (with_reducible exact LeO.refl _)
   | (with_reducible exact LeO.none _)
   | (with_reducible refine LeO.ite ?_ ?_)
   | (with_reducible refine LeO.bind ?_ (fun _ => ?_))
   | exact ih0 _ _ _ _ _ _ _ _ _ _ _
   | exact ih1 _ _ _ _ _ _ _ _
   | exact ih2 _ _ _ _
   | exact impl_TransformOps.mono _ _ _
   | exact laws_eqPartS.mono _ _ _
   | exact laws_heldPartS.mono _ _ _
   | exact laws_markPartS.mono _ _ _
   | exact laws_szPartS.mono _ _ _
   | exact laws_toPartS.mono _ _
   | exact spec_TransformOps.mono _ _ _
   | exact LeO.none _
   | refine LeO.ite ?_ ?_
   | refine LeO.bind ?_ (fun _ => ?_)
set_option maxHeartbeats 8000000 in
set_option maxRecDepth 100000 in
theorem lZ.calls (k : Nat) (A0 : Option Addr) (c0 : Nat) (l0 : List (S58)) (A1 : Option Addr) (c1 : Nat) (l1 : List (S58)) (r : Bool) (w : World) (hr0 : Kd.C k58 w A0 l0.length l0) (hc0 : l0.length ≤ c0) (hr1 : Kd.C k58 w A1 l1.length l1) (hc1 : l1.length ≤ c1) (h : lZ.f k l0 l1 = some r) :
  Calls Try.prog 5 #[.slice A0 l0.length c0, .slice A1 l1.length c1] w fun e w' => e = .returned (.bool r) ∧ Below w.heap.size w w' := by
 have HR0 := aM hr0
 have HC0 := aM hc0
 clear hr0 hc0
 have HR1 := aM hr1
 have HC1 := aM hc1
 clear hr1 hc1
 have HB := aM (Below.refl w.heap.size w)
 have H : ((laws_szPartS.f k l0 1048576).bind fun t238 => (if t238 < 0 then (some true) else ((laws_szPartS.f k l1 t238).bind fun t239 => (if t239 < 0 then (some true) else ((laws_toPartS.f k l0).bind fun t240 => ((laws_toPartS.f k l1).bind fun t243 => ((spec_TransformOps.f k t240 t243).bind fun bt246 => ((laws_toPartS.f k l0).bind fun t253 => ((laws_toPartS.f k l1).bind fun t256 => ((impl_TransformOps.f k t253 t256).bind fun bt259 => ((laws_eqPartS.f k bt259.1 bt246.1).bind fun t266 => (if t266 = true then ((laws_eqPartS.f k bt259.2.1 bt246.2.1).bind fun t267 => (if t267 = true then (lZ.j0 k l0 l1 bt246.1 bt246.2.1 bt246.2.2 t253 t256 bt259.1 bt259.2.1 bt259.2.2 (bt259.2.2 != bt246.2.2)) else (lZ.j0 k l0 l1 bt246.1 bt246.2.1 bt246.2.2 t253 t256 bt259.1 bt259.2.1 bt259.2.2 true))) else (lZ.j0 k l0 l1 bt246.1 bt246.2.1 bt246.2.2 t253 t256 bt259.1 bt259.2.1 bt259.2.2 true))))))))))))) = some r := h
 clear h
 replace H := Option.bind_eq_some_iff.mp H
 obtain ⟨t238, A30, H⟩ := H
 replace H : (if t238 < 0 then (some true) else ((laws_szPartS.f k l1 t238).bind fun t239 => (if t239 < 0 then (some true) else ((laws_toPartS.f k l0).bind fun t240 => ((laws_toPartS.f k l1).bind fun t243 => ((spec_TransformOps.f k t240 t243).bind fun bt246 => ((laws_toPartS.f k l0).bind fun t253 => ((laws_toPartS.f k l1).bind fun t256 => ((impl_TransformOps.f k t253 t256).bind fun bt259 => ((laws_eqPartS.f k bt259.1 bt246.1).bind fun t266 => (if t266 = true then ((laws_eqPartS.f k bt259.2.1 bt246.2.1).bind fun t267 => (if t267 = true then (lZ.j0 k l0 l1 bt246.1 bt246.2.1 bt246.2.2 t253 t256 bt259.1 bt259.2.1 bt259.2.2 (bt259.2.2 != bt246.2.2)) else (lZ.j0 k l0 l1 bt246.1 bt246.2.1 bt246.2.2 t253 t256 bt259.1 bt259.2.1 bt259.2.2 true))) else (lZ.j0 k l0 l1 bt246.1 bt246.2.1 bt246.2.2 t253 t256 bt259.1 bt259.2.1 bt259.2.2 true)))))))))))) = some r := H
 have A3 := aM A30
 clear A30
 by_cases c4 : t238 < 0
 ·rw [if_pos c4] at H
  have c4b0 : decide (t238 < 0) = true := decide_eq_true c4
  clear c4
  obtain rfl := Option.some.inj H
  go_enter Try.func5, Try.ntmps5
  go_wp2_with (first | ((with_reducible refine gate_callee (f := 9) rfl ?_); refine goesL_ (some 22) rfl rfl Try.func9 (by kernel_rfl) rfl #[.slice A0 l0.length c0, .int .i64 1048576] rfl mM ?_; (with_reducible refine (laws_szPartS.calls k _ _ l0 1048576 t238 _ ?side1 ?side2 A3.out).mono ?_); (case side1 => exact cC HR0.out); (case side2 => exact HC0.out); rintro e w5 ⟨rfl, hb⟩; refine ⟨_, rfl, ?_⟩; have n0_ := aM (below_step bB hb); clear HB; have HB := n0_; clear n0_; (try clear hb); (try clear hb2); (try clear hk); (try clear hi)))
  go_ret
  exact ⟨by first | rfl | (simp [errW_none, errW_some] <;> rfl) | (simp [errW_none, errW_some]; exact isE _) | (simp [*, errW_none, errW_some] <;> rfl), bB⟩
 ·rw [if_neg c4] at H
  have c4b0 : decide (t238 < 0) = false := decide_eq_false c4
  clear c4
  replace H := Option.bind_eq_some_iff.mp H
  obtain ⟨t239, A60, H⟩ := H
  replace H : (if t239 < 0 then (some true) else ((laws_toPartS.f k l0).bind fun t240 => ((laws_toPartS.f k l1).bind fun t243 => ((spec_TransformOps.f k t240 t243).bind fun bt246 => ((laws_toPartS.f k l0).bind fun t253 => ((laws_toPartS.f k l1).bind fun t256 => ((impl_TransformOps.f k t253 t256).bind fun bt259 => ((laws_eqPartS.f k bt259.1 bt246.1).bind fun t266 => (if t266 = true then ((laws_eqPartS.f k bt259.2.1 bt246.2.1).bind fun t267 => (if t267 = true then (lZ.j0 k l0 l1 bt246.1 bt246.2.1 bt246.2.2 t253 t256 bt259.1 bt259.2.1 bt259.2.2 (bt259.2.2 != bt246.2.2)) else (lZ.j0 k l0 l1 bt246.1 bt246.2.1 bt246.2.2 t253 t256 bt259.1 bt259.2.1 bt259.2.2 true))) else (lZ.j0 k l0 l1 bt246.1 bt246.2.1 bt246.2.2 t253 t256 bt259.1 bt259.2.1 bt259.2.2 true)))))))))) = some r := H
  have A6 := aM A60
  clear A60
  by_cases c7 : t239 < 0
  ·rw [if_pos c7] at H
   have c7b0 : decide (t239 < 0) = true := decide_eq_true c7
   clear c7
   obtain rfl := Option.some.inj H
   go_enter Try.func5, Try.ntmps5
   go_wp2_with (first | ((with_reducible refine gate_callee (f := 9) rfl ?_); refine goesL_ (some 22) rfl rfl Try.func9 (by kernel_rfl) rfl #[.slice A0 l0.length c0, .int .i64 1048576] rfl mM ?_; (with_reducible refine (laws_szPartS.calls k _ _ l0 1048576 t238 _ ?side1 ?side2 A3.out).mono ?_); (case side1 => exact cC HR0.out); (case side2 => exact HC0.out); rintro e w8 ⟨rfl, hb⟩; refine ⟨_, rfl, ?_⟩; have n0_ := aM (below_step bB hb); clear HB; have HB := n0_; clear n0_; (try clear hb); (try clear hb2); (try clear hk); (try clear hi)) | ((with_reducible refine gate_callee (f := 9) rfl ?_); refine goesL_ (some 27) rfl rfl Try.func9 (by kernel_rfl) rfl #[.slice A1 l1.length c1, .int .i64 t238] rfl mM ?_; (with_reducible refine (laws_szPartS.calls k _ _ l1 t238 t239 _ ?side1 ?side2 A6.out).mono ?_); (case side1 => exact cC (Kd.C_below HR1.out HB.out)); (case side2 => exact HC1.out); rintro e w9 ⟨rfl, hb⟩; refine ⟨_, rfl, ?_⟩; have n0_ := aM (below_step bB hb); clear HB; have HB := n0_; clear n0_; (try clear hb); (try clear hb2); (try clear hk); (try clear hi)))
   go_ret
   exact ⟨by first | rfl | (simp [errW_none, errW_some] <;> rfl) | (simp [errW_none, errW_some]; exact isE _) | (simp [*, errW_none, errW_some] <;> rfl), bB⟩
  ·rw [if_neg c7] at H
   have c7b0 : decide (t239 < 0) = false := decide_eq_false c7
   clear c7
   replace H := Option.bind_eq_some_iff.mp H
   obtain ⟨t240, A100, H⟩ := H
   replace H : ((laws_toPartS.f k l1).bind fun t243 => ((spec_TransformOps.f k t240 t243).bind fun bt246 => ((laws_toPartS.f k l0).bind fun t253 => ((laws_toPartS.f k l1).bind fun t256 => ((impl_TransformOps.f k t253 t256).bind fun bt259 => ((laws_eqPartS.f k bt259.1 bt246.1).bind fun t266 => (if t266 = true then ((laws_eqPartS.f k bt259.2.1 bt246.2.1).bind fun t267 => (if t267 = true then (lZ.j0 k l0 l1 bt246.1 bt246.2.1 bt246.2.2 t253 t256 bt259.1 bt259.2.1 bt259.2.2 (bt259.2.2 != bt246.2.2)) else (lZ.j0 k l0 l1 bt246.1 bt246.2.1 bt246.2.2 t253 t256 bt259.1 bt259.2.1 bt259.2.2 true))) else (lZ.j0 k l0 l1 bt246.1 bt246.2.1 bt246.2.2 t253 t256 bt259.1 bt259.2.1 bt259.2.2 true)))))))) = some r := H
   have A10 := aM A100
   clear A100
   replace H := Option.bind_eq_some_iff.mp H
   obtain ⟨t243, A110, H⟩ := H
   replace H : ((spec_TransformOps.f k t240 t243).bind fun bt246 => ((laws_toPartS.f k l0).bind fun t253 => ((laws_toPartS.f k l1).bind fun t256 => ((impl_TransformOps.f k t253 t256).bind fun bt259 => ((laws_eqPartS.f k bt259.1 bt246.1).bind fun t266 => (if t266 = true then ((laws_eqPartS.f k bt259.2.1 bt246.2.1).bind fun t267 => (if t267 = true then (lZ.j0 k l0 l1 bt246.1 bt246.2.1 bt246.2.2 t253 t256 bt259.1 bt259.2.1 bt259.2.2 (bt259.2.2 != bt246.2.2)) else (lZ.j0 k l0 l1 bt246.1 bt246.2.1 bt246.2.2 t253 t256 bt259.1 bt259.2.1 bt259.2.2 true))) else (lZ.j0 k l0 l1 bt246.1 bt246.2.1 bt246.2.2 t253 t256 bt259.1 bt259.2.1 bt259.2.2 true))))))) = some r := H
   have A11 := aM A110
   clear A110
   replace H := Option.bind_eq_some_iff.mp H
   obtain ⟨⟨t246, t247, t248⟩, A120, H⟩ := H
   replace H : ((laws_toPartS.f k l0).bind fun t253 => ((laws_toPartS.f k l1).bind fun t256 => ((impl_TransformOps.f k t253 t256).bind fun bt259 => ((laws_eqPartS.f k bt259.1 t246).bind fun t266 => (if t266 = true then ((laws_eqPartS.f k bt259.2.1 t247).bind fun t267 => (if t267 = true then (lZ.j0 k l0 l1 t246 t247 t248 t253 t256 bt259.1 bt259.2.1 bt259.2.2 (bt259.2.2 != t248)) else (lZ.j0 k l0 l1 t246 t247 t248 t253 t256 bt259.1 bt259.2.1 bt259.2.2 true))) else (lZ.j0 k l0 l1 t246 t247 t248 t253 t256 bt259.1 bt259.2.1 bt259.2.2 true)))))) = some r := H
   have A12 := aM A120
   clear A120
   replace H := Option.bind_eq_some_iff.mp H
   obtain ⟨t253, A130, H⟩ := H
   replace H : ((laws_toPartS.f k l1).bind fun t256 => ((impl_TransformOps.f k t253 t256).bind fun bt259 => ((laws_eqPartS.f k bt259.1 t246).bind fun t266 => (if t266 = true then ((laws_eqPartS.f k bt259.2.1 t247).bind fun t267 => (if t267 = true then (lZ.j0 k l0 l1 t246 t247 t248 t253 t256 bt259.1 bt259.2.1 bt259.2.2 (bt259.2.2 != t248)) else (lZ.j0 k l0 l1 t246 t247 t248 t253 t256 bt259.1 bt259.2.1 bt259.2.2 true))) else (lZ.j0 k l0 l1 t246 t247 t248 t253 t256 bt259.1 bt259.2.1 bt259.2.2 true))))) = some r := H
   have A13 := aM A130
   clear A130
   replace H := Option.bind_eq_some_iff.mp H
   obtain ⟨t256, A140, H⟩ := H
   replace H : ((impl_TransformOps.f k t253 t256).bind fun bt259 => ((laws_eqPartS.f k bt259.1 t246).bind fun t266 => (if t266 = true then ((laws_eqPartS.f k bt259.2.1 t247).bind fun t267 => (if t267 = true then (lZ.j0 k l0 l1 t246 t247 t248 t253 t256 bt259.1 bt259.2.1 bt259.2.2 (bt259.2.2 != t248)) else (lZ.j0 k l0 l1 t246 t247 t248 t253 t256 bt259.1 bt259.2.1 bt259.2.2 true))) else (lZ.j0 k l0 l1 t246 t247 t248 t253 t256 bt259.1 bt259.2.1 bt259.2.2 true)))) = some r := H
   have A14 := aM A140
   clear A140
   replace H := Option.bind_eq_some_iff.mp H
   obtain ⟨⟨t259, t260, t261⟩, A150, H⟩ := H
   replace H : ((laws_eqPartS.f k t259 t246).bind fun t266 => (if t266 = true then ((laws_eqPartS.f k t260 t247).bind fun t267 => (if t267 = true then (lZ.j0 k l0 l1 t246 t247 t248 t253 t256 t259 t260 t261 (t261 != t248)) else (lZ.j0 k l0 l1 t246 t247 t248 t253 t256 t259 t260 t261 true))) else (lZ.j0 k l0 l1 t246 t247 t248 t253 t256 t259 t260 t261 true))) = some r := H
   have A15 := aM A150
   clear A150
   have HC16 := aM H
   clear H
   go_enter Try.func5, Try.ntmps5
   go_upto_region 12 with (first | ((with_reducible refine gate_callee (f := 9) rfl ?_); refine goesL_ (some 22) rfl rfl Try.func9 (by kernel_rfl) rfl #[.slice A0 l0.length c0, .int .i64 1048576] rfl mM ?_; (with_reducible refine (laws_szPartS.calls k _ _ l0 1048576 t238 _ ?side1 ?side2 A3.out).mono ?_); (case side1 => exact cC HR0.out); (case side2 => exact HC0.out); rintro e w17 ⟨rfl, hb⟩; refine ⟨_, rfl, ?_⟩; have n0_ := aM (below_step bB hb); clear HB; have HB := n0_; clear n0_; (try clear hb); (try clear hb2); (try clear hk); (try clear hi)) | ((with_reducible refine gate_callee (f := 9) rfl ?_); refine goesL_ (some 27) rfl rfl Try.func9 (by kernel_rfl) rfl #[.slice A1 l1.length c1, .int .i64 t238] rfl mM ?_; (with_reducible refine (laws_szPartS.calls k _ _ l1 t238 t239 _ ?side1 ?side2 A6.out).mono ?_); (case side1 => exact cC (Kd.C_below HR1.out HB.out)); (case side2 => exact HC1.out); rintro e w18 ⟨rfl, hb⟩; refine ⟨_, rfl, ?_⟩; have n0_ := aM (below_step bB hb); clear HB; have HB := n0_; clear n0_; (try clear hb); (try clear hb2); (try clear hk); (try clear hi)) | ((with_reducible refine gate_callee (f := 11) rfl ?_); refine goesL_ (some 32) rfl rfl Try.func11 (by kernel_rfl) rfl #[.slice A0 l0.length c0] rfl mM ?_; (with_reducible refine (laws_toPartS.calls k _ _ l0 t240 _ ?side1 ?side2 A10.out).mono ?_); (case side1 => exact cC (Kd.C_below HR0.out HB.out)); (case side2 => exact HC0.out); rintro e w19 ⟨v241, rfl, ho0, hb⟩; refine ⟨_, rfl, ?_⟩; have n0_ := aM (Kd.R_lower ho0 (below_size bB)); have n1_ := aM (below_step bB hb); clear HB; have HO242 := n0_; have HB := n1_; clear n0_ n1_; (try clear hb); (try clear hb2); (try clear hk); (try clear hi); (try clear ho0)) | ((with_reducible refine gate_callee (f := 11) rfl ?_); refine goesL_ (some 34) rfl rfl Try.func11 (by kernel_rfl) rfl #[.slice A1 l1.length c1] rfl mM ?_; (with_reducible refine (laws_toPartS.calls k _ _ l1 t243 _ ?side1 ?side2 A11.out).mono ?_); (case side1 => exact cC (Kd.C_below HR1.out HB.out)); (case side2 => exact HC1.out); rintro e w20 ⟨v244, rfl, ho0, hb⟩; refine ⟨_, rfl, ?_⟩; have n0_ := aM (Kd.R_elder' (rR HO242.out) (Kd.R_base ho0) hb); have n1_ := aM (Kd.R_lower (Kd.R_new' ho0 (Kd.R_lt (rR HO242.out))) (below_size bB)); have n2_ := aM (below_step bB hb); clear HO242; clear HB; have HO242 := n0_; have HO245 := n1_; have HB := n2_; clear n0_ n1_ n2_; (try clear hb); (try clear hb2); (try clear hk); (try clear hi); (try clear ho0); obtain ⟨Ao21, co21, eo21⟩ := Kd.R_slice HO242.out; subst eo21; obtain ⟨Ao22, co22, eo22⟩ := Kd.R_slice HO245.out; subst eo22) | ((with_reducible refine gate_callee (f := 16) rfl ?_); refine goesL_ (some 35) rfl rfl Try.func16 (by kernel_rfl) rfl #[.slice Ao21 t240.length co21, .slice Ao22 t243.length co22] rfl mM ?_; (with_reducible refine (spec_TransformOps.calls k _ _ t240 _ _ t243 t246 t247 t248 _ ?side1 ?side2 ?side3 ?side4 A12.out).mono ?_); (case side1 => exact cC ((Kd.R_reads' HO242.out).2.2)); (case side2 => exact (Kd.R_reads' HO242.out).2.1); (case side3 => exact cC ((Kd.R_reads' HO245.out).2.2)); (case side4 => exact (Kd.R_reads' HO245.out).2.1); rintro e w23 ⟨v249, v251, rfl, ho0, ho1, hb⟩; refine ⟨_, rfl, ?_⟩; have n0_ := aM (Kd.R_mono (Kd.R_told (Kd.R_told (Kd.R_old (rR HO242.out) hb) (Kd.R_base ho0)) (Kd.R_base ho1)) (fun _ h_ => h_.1)); have n1_ := aM (Kd.R_mono (Kd.R_told (Kd.R_told (Kd.R_old (rR HO245.out) hb) (Kd.R_base ho0)) (Kd.R_base ho1)) (fun _ h_ => h_.1)); have n2_ := aM (Kd.R_lower (Kd.R_new' (Kd.R_new' ho0 (Kd.R_lt (rR HO242.out))) (Kd.R_lt (rR HO245.out))) (below_size bB)); have n3_ := aM (Kd.R_lower (Kd.R_new' (Kd.R_new' ho1 (Kd.R_lt (rR HO242.out))) (Kd.R_lt (rR HO245.out))) (below_size bB)); have n4_ := aM (below_step bB hb); clear HO242; clear HO245; clear HB; have HO242 := n0_; have HO245 := n1_; have HO250 := n2_; have HO252 := n3_; have HB := n4_; clear n0_ n1_ n2_ n3_ n4_; (try clear hb); (try clear hb2); (try clear hk); (try clear hi); (try clear ho0); (try clear ho1)) | ((with_reducible refine gate_callee (f := 11) rfl ?_); refine goesL_ (some 40) rfl rfl Try.func11 (by kernel_rfl) rfl #[.slice A0 l0.length c0] rfl mM ?_; (with_reducible refine (laws_toPartS.calls k _ _ l0 t253 _ ?side1 ?side2 A13.out).mono ?_); (case side1 => exact cC (Kd.C_below HR0.out HB.out)); (case side2 => exact HC0.out); rintro e w24 ⟨v254, rfl, ho0, hb⟩; refine ⟨_, rfl, ?_⟩; have n0_ := aM (Kd.R_elder' (rR HO242.out) (Kd.R_base ho0) hb); have n1_ := aM (Kd.R_elder' (rR HO245.out) (Kd.R_base ho0) hb); have n2_ := aM (Kd.R_elder' (rR HO250.out) (Kd.R_base ho0) hb); have n3_ := aM (Kd.R_elder' (rR HO252.out) (Kd.R_base ho0) hb); have n4_ := aM (Kd.R_lower (Kd.R_new' (Kd.R_new' (Kd.R_new' (Kd.R_new' ho0 (Kd.R_lt (rR HO242.out))) (Kd.R_lt (rR HO245.out))) (Kd.R_lt (rR HO250.out))) (Kd.R_lt (rR HO252.out))) (below_size bB)); have n5_ := aM (below_step bB hb); clear HO242; clear HO245; clear HO250; clear HO252; clear HB; have HO242 := n0_; have HO245 := n1_; have HO250 := n2_; have HO252 := n3_; have HO255 := n4_; have HB := n5_; clear n0_ n1_ n2_ n3_ n4_ n5_; (try clear hb); (try clear hb2); (try clear hk); (try clear hi); (try clear ho0)) | ((with_reducible refine gate_callee (f := 11) rfl ?_); refine goesL_ (some 42) rfl rfl Try.func11 (by kernel_rfl) rfl #[.slice A1 l1.length c1] rfl mM ?_; (with_reducible refine (laws_toPartS.calls k _ _ l1 t256 _ ?side1 ?side2 A14.out).mono ?_); (case side1 => exact cC (Kd.C_below HR1.out HB.out)); (case side2 => exact HC1.out); rintro e w25 ⟨v257, rfl, ho0, hb⟩; refine ⟨_, rfl, ?_⟩; have n0_ := aM (Kd.R_elder' (rR HO242.out) (Kd.R_base ho0) hb); have n1_ := aM (Kd.R_elder' (rR HO245.out) (Kd.R_base ho0) hb); have n2_ := aM (Kd.R_elder' (rR HO250.out) (Kd.R_base ho0) hb); have n3_ := aM (Kd.R_elder' (rR HO252.out) (Kd.R_base ho0) hb); have n4_ := aM (Kd.R_elder' (rR HO255.out) (Kd.R_base ho0) hb); have n5_ := aM (Kd.R_lower (Kd.R_new' (Kd.R_new' (Kd.R_new' (Kd.R_new' (Kd.R_new' ho0 (Kd.R_lt (rR HO242.out))) (Kd.R_lt (rR HO245.out))) (Kd.R_lt (rR HO250.out))) (Kd.R_lt (rR HO252.out))) (Kd.R_lt (rR HO255.out))) (below_size bB)); have n6_ := aM (below_step bB hb); clear HO242; clear HO245; clear HO250; clear HO252; clear HO255; clear HB; have HO242 := n0_; have HO245 := n1_; have HO250 := n2_; have HO252 := n3_; have HO255 := n4_; have HO258 := n5_; have HB := n6_; clear n0_ n1_ n2_ n3_ n4_ n5_ n6_; (try clear hb); (try clear hb2); (try clear hk); (try clear hi); (try clear ho0); obtain ⟨Ao26, co26, eo26⟩ := Kd.R_slice HO255.out; subst eo26; obtain ⟨Ao27, co27, eo27⟩ := Kd.R_slice HO258.out; subst eo27) | ((with_reducible refine gate_callee (f := 17) rfl ?_); refine goesL_ (some 46) rfl rfl Try.func17 (by kernel_rfl) rfl #[.slice Ao26 t253.length co26, .slice Ao27 t256.length co27] rfl mM ?_; (with_reducible refine (impl_TransformOps.calls k _ _ t253 _ _ t256 t259 t260 t261 _ ?side1 ?side2 ?side3 ?side4 A15.out).mono ?_); (case side1 => exact cC ((Kd.R_reads' HO255.out).2.2)); (case side2 => exact (Kd.R_reads' HO255.out).2.1); (case side3 => exact cC ((Kd.R_reads' HO258.out).2.2)); (case side4 => exact (Kd.R_reads' HO258.out).2.1); rintro e w28 ⟨v262, v264, rfl, ho0, ho1, hb⟩; refine ⟨_, rfl, ?_⟩; have n0_ := aM (Kd.R_mono (Kd.R_told (Kd.R_told (Kd.R_old (rR HO242.out) hb) (Kd.R_base ho0)) (Kd.R_base ho1)) (fun _ h_ => h_.1)); have n1_ := aM (Kd.R_mono (Kd.R_told (Kd.R_told (Kd.R_old (rR HO245.out) hb) (Kd.R_base ho0)) (Kd.R_base ho1)) (fun _ h_ => h_.1)); have n2_ := aM (Kd.R_mono (Kd.R_told (Kd.R_told (Kd.R_old (rR HO250.out) hb) (Kd.R_base ho0)) (Kd.R_base ho1)) (fun _ h_ => h_.1)); have n3_ := aM (Kd.R_mono (Kd.R_told (Kd.R_told (Kd.R_old (rR HO252.out) hb) (Kd.R_base ho0)) (Kd.R_base ho1)) (fun _ h_ => h_.1)); have n4_ := aM (Kd.R_mono (Kd.R_told (Kd.R_told (Kd.R_old (rR HO255.out) hb) (Kd.R_base ho0)) (Kd.R_base ho1)) (fun _ h_ => h_.1)); have n5_ := aM (Kd.R_mono (Kd.R_told (Kd.R_told (Kd.R_old (rR HO258.out) hb) (Kd.R_base ho0)) (Kd.R_base ho1)) (fun _ h_ => h_.1)); have n6_ := aM (Kd.R_lower (Kd.R_new' (Kd.R_new' (Kd.R_new' (Kd.R_new' (Kd.R_new' (Kd.R_new' ho0 (Kd.R_lt (rR HO242.out))) (Kd.R_lt (rR HO245.out))) (Kd.R_lt (rR HO250.out))) (Kd.R_lt (rR HO252.out))) (Kd.R_lt (rR HO255.out))) (Kd.R_lt (rR HO258.out))) (below_size bB)); have n7_ := aM (Kd.R_lower (Kd.R_new' (Kd.R_new' (Kd.R_new' (Kd.R_new' (Kd.R_new' (Kd.R_new' ho1 (Kd.R_lt (rR HO242.out))) (Kd.R_lt (rR HO245.out))) (Kd.R_lt (rR HO250.out))) (Kd.R_lt (rR HO252.out))) (Kd.R_lt (rR HO255.out))) (Kd.R_lt (rR HO258.out))) (below_size bB)); have n8_ := aM (below_step bB hb); clear HO242; clear HO245; clear HO250; clear HO252; clear HO255; clear HO258; clear HB; have HO242 := n0_; have HO245 := n1_; have HO250 := n2_; have HO252 := n3_; have HO255 := n4_; have HO258 := n5_; have HO263 := n6_; have HO265 := n7_; have HB := n8_; clear n0_ n1_ n2_ n3_ n4_ n5_ n6_ n7_ n8_; (try clear hb); (try clear hb2); (try clear hk); (try clear hi); (try clear ho0); (try clear ho1)))
   (try simp only [Act.put, List.setIfInBounds_toArray, List.set_cons_zero, List.set_cons_succ])
   go_cut [64] (fun v64 wc => ∃ (kq : Nat) (x64_15 : Bool), v64 = .bool x64_15 ∧ Aside0 (lZ.j0 kq l0 l1 t246 t247 t248 t253 t256 t259 t260 t261 x64_15 = some r) ∧ Aside0 (kq ≤ k) ∧ Aside0 (Kd.R k60 60 wc w.heap.size (fun k_ => some k_ ≠ (v251 : Value).ownBlock ∧ some k_ ≠ ((.slice Ao26 t253.length co26) : Value).ownBlock ∧ some k_ ≠ ((.slice Ao27 t256.length co27) : Value).ownBlock ∧ some k_ ≠ (v262 : Value).ownBlock ∧ some k_ ≠ (v264 : Value).ownBlock) v249 t246) ∧ Aside0 (Kd.R k60 60 wc w.heap.size (fun k_ => some k_ ≠ (v249 : Value).ownBlock ∧ some k_ ≠ ((.slice Ao26 t253.length co26) : Value).ownBlock ∧ some k_ ≠ ((.slice Ao27 t256.length co27) : Value).ownBlock ∧ some k_ ≠ (v262 : Value).ownBlock ∧ some k_ ≠ (v264 : Value).ownBlock) v251 t247) ∧ Aside0 (Kd.R k60 60 wc w.heap.size (fun k_ => some k_ ≠ (v249 : Value).ownBlock ∧ some k_ ≠ (v251 : Value).ownBlock ∧ some k_ ≠ ((.slice Ao27 t256.length co27) : Value).ownBlock ∧ some k_ ≠ (v262 : Value).ownBlock ∧ some k_ ≠ (v264 : Value).ownBlock) (.slice Ao26 t253.length co26) t253) ∧ Aside0 (Kd.R k60 60 wc w.heap.size (fun k_ => some k_ ≠ (v249 : Value).ownBlock ∧ some k_ ≠ (v251 : Value).ownBlock ∧ some k_ ≠ ((.slice Ao26 t253.length co26) : Value).ownBlock ∧ some k_ ≠ (v262 : Value).ownBlock ∧ some k_ ≠ (v264 : Value).ownBlock) (.slice Ao27 t256.length co27) t256) ∧ Aside0 (Kd.R k60 60 wc w.heap.size (fun k_ => some k_ ≠ (v249 : Value).ownBlock ∧ some k_ ≠ (v251 : Value).ownBlock ∧ some k_ ≠ ((.slice Ao26 t253.length co26) : Value).ownBlock ∧ some k_ ≠ ((.slice Ao27 t256.length co27) : Value).ownBlock ∧ some k_ ≠ (v264 : Value).ownBlock) v262 t259) ∧ Aside0 (Kd.R k60 60 wc w.heap.size (fun k_ => some k_ ≠ (v249 : Value).ownBlock ∧ some k_ ≠ (v251 : Value).ownBlock ∧ some k_ ≠ ((.slice Ao26 t253.length co26) : Value).ownBlock ∧ some k_ ≠ ((.slice Ao27 t256.length co27) : Value).ownBlock ∧ some k_ ≠ (v262 : Value).ownBlock) v264 t260) ∧ Aside0 (Below w.heap.size w wc))
   case first =>
    have H := HC16.out
    clear HC16
    replace H := Option.bind_eq_some_iff.mp H
    obtain ⟨t266, A290, H⟩ := H
    replace H : (if t266 = true then ((laws_eqPartS.f k t260 t247).bind fun t267 => (if t267 = true then (lZ.j0 k l0 l1 t246 t247 t248 t253 t256 t259 t260 t261 (t261 != t248)) else (lZ.j0 k l0 l1 t246 t247 t248 t253 t256 t259 t260 t261 true))) else (lZ.j0 k l0 l1 t246 t247 t248 t253 t256 t259 t260 t261 true)) = some r := H
    have A29 := aM A290
    clear A290
    by_cases c30 : t266 = true
    ·subst c30
     have H1 : ((laws_eqPartS.f k t260 t247).bind fun t267 => (if t267 = true then (lZ.j0 k l0 l1 t246 t247 t248 t253 t256 t259 t260 t261 (t261 != t248)) else (lZ.j0 k l0 l1 t246 t247 t248 t253 t256 t259 t260 t261 true))) = some r := by rw [if_pos rfl] at H; exact H
     clear H
     have H := H1
     clear H1
     replace H := Option.bind_eq_some_iff.mp H
     obtain ⟨t267, A310, H⟩ := H
     replace H : (if t267 = true then (lZ.j0 k l0 l1 t246 t247 t248 t253 t256 t259 t260 t261 (t261 != t248)) else (lZ.j0 k l0 l1 t246 t247 t248 t253 t256 t259 t260 t261 true)) = some r := H
     have A31 := aM A310
     clear A310
     by_cases c32 : t267 = true
     ·subst c32
      have H1 : (lZ.j0 k l0 l1 t246 t247 t248 t253 t256 t259 t260 t261 (t261 != t248)) = some r := by rw [if_pos rfl] at H; exact H
      clear H
      have H := H1
      clear H1
      have H' := aM H
      clear H
      obtain ⟨Ao33, co33, eo33⟩ := Kd.R_slice HO263.out
      subst eo33
      obtain ⟨Ao34, co34, eo34⟩ := Kd.R_slice HO250.out
      subst eo34
      go_wp2_with (first | ((with_reducible refine gate_callee (f := 13) rfl ?_); refine goesL_ (some 52) rfl rfl Try.func13 (by kernel_rfl) rfl #[.slice Ao33 t259.length co33, .slice Ao34 t246.length co34] rfl mM ?_; (with_reducible refine (laws_eqPartS.calls k _ _ t259 _ _ t246 true _ ?side1 ?side2 ?side3 ?side4 A29.out).mono ?_); (case side1 => exact cC ((Kd.R_reads' HO263.out).2.2)); (case side2 => exact (Kd.R_reads' HO263.out).2.1); (case side3 => exact cC ((Kd.R_reads' HO250.out).2.2)); (case side4 => exact (Kd.R_reads' HO250.out).2.1); rintro e w35 ⟨rfl, hb⟩; refine ⟨_, rfl, ?_⟩; have n0_ := aM (Kd.R_below (rR HO242.out) hb); have n1_ := aM (Kd.R_below (rR HO245.out) hb); have n2_ := aM (Kd.R_below (rR HO250.out) hb); have n3_ := aM (Kd.R_below (rR HO252.out) hb); have n4_ := aM (Kd.R_below (rR HO255.out) hb); have n5_ := aM (Kd.R_below (rR HO258.out) hb); have n6_ := aM (Kd.R_below (rR HO263.out) hb); have n7_ := aM (Kd.R_below (rR HO265.out) hb); have n8_ := aM (below_step bB hb); clear HO242; clear HO245; clear HO250; clear HO252; clear HO255; clear HO258; clear HO263; clear HO265; clear HB; have HO242 := n0_; have HO245 := n1_; have HO250 := n2_; have HO252 := n3_; have HO255 := n4_; have HO258 := n5_; have HO263 := n6_; have HO265 := n7_; have HB := n8_; clear n0_ n1_ n2_ n3_ n4_ n5_ n6_ n7_ n8_; (try clear hb); (try clear hb2); (try clear hk); (try clear hi); obtain ⟨Ao36, co36, eo36⟩ := Kd.R_slice HO265.out; subst eo36; obtain ⟨Ao37, co37, eo37⟩ := Kd.R_slice HO252.out; subst eo37) | (go_at_call 13; (with_reducible refine (laws_eqPartS.calls k _ _ t260 _ _ t247 true _ ?side1 ?side2 ?side3 ?side4 A31.out).mono ?_); (case side1 => exact cC ((Kd.R_reads' HO265.out).2.2)); (case side2 => exact (Kd.R_reads' HO265.out).2.1); (case side3 => exact cC ((Kd.R_reads' HO252.out).2.2)); (case side4 => exact (Kd.R_reads' HO252.out).2.1); rintro e w38 ⟨rfl, hb⟩; have n0_ := aM (Kd.R_below (rR HO242.out) hb); have n1_ := aM (Kd.R_below (rR HO245.out) hb); have n2_ := aM (Kd.R_below (rR HO250.out) hb); have n3_ := aM (Kd.R_below (rR HO252.out) hb); have n4_ := aM (Kd.R_below (rR HO255.out) hb); have n5_ := aM (Kd.R_below (rR HO258.out) hb); have n6_ := aM (Kd.R_below (rR HO263.out) hb); have n7_ := aM (Kd.R_below (rR HO265.out) hb); have n8_ := aM (below_step bB hb); clear HO242; clear HO245; clear HO250; clear HO252; clear HO255; clear HO258; clear HO263; clear HO265; clear HB; have HO242 := n0_; have HO245 := n1_; have HO250 := n2_; have HO252 := n3_; have HO255 := n4_; have HO258 := n5_; have HO263 := n6_; have HO265 := n7_; have HB := n8_; clear n0_ n1_ n2_ n3_ n4_ n5_ n6_ n7_ n8_; (try clear hb); (try clear hb2); (try clear hk); (try clear hi)))
      go_meet
      case rel => exact ⟨_, ((t261 != t248)), (by first | rfl | (simp; done) | (simp [*]; done)), H', ⟨by first | omega | exact Nat.le_refl _⟩, ⟨by (with_reducible repeat (first | apply Kd.R_alloc | apply Kd.R_drewN | apply Kd.R_drew)); exact Kd.R_mono HO250.out (fun _ hk => ⟨hk.1.1.1.1.1.1, ⟨hk.1.1.1.2, ⟨hk.1.1.2, ⟨hk.1.2, hk.2⟩⟩⟩⟩)⟩, ⟨by (with_reducible repeat (first | apply Kd.R_alloc | apply Kd.R_drewN | apply Kd.R_drew)); exact Kd.R_mono HO252.out (fun _ hk => ⟨hk.1.1.1.1.1.1, ⟨hk.1.1.1.2, ⟨hk.1.1.2, ⟨hk.1.2, hk.2⟩⟩⟩⟩)⟩, ⟨by (with_reducible repeat (first | apply Kd.R_alloc | apply Kd.R_drewN | apply Kd.R_drew)); exact Kd.R_mono HO255.out (fun _ hk => ⟨hk.1.1.1.1.2, ⟨hk.1.1.1.2, ⟨hk.1.1.2, ⟨hk.1.2, hk.2⟩⟩⟩⟩)⟩, ⟨by (with_reducible repeat (first | apply Kd.R_alloc | apply Kd.R_drewN | apply Kd.R_drew)); exact Kd.R_mono HO258.out (fun _ hk => ⟨hk.1.1.1.1.2, ⟨hk.1.1.1.2, ⟨hk.1.1.2, ⟨hk.1.2, hk.2⟩⟩⟩⟩)⟩, ⟨by (with_reducible repeat (first | apply Kd.R_alloc | apply Kd.R_drewN | apply Kd.R_drew)); exact Kd.R_mono HO263.out (fun _ hk => ⟨hk.1.1.1.2, ⟨hk.1.1.2, ⟨hk.1.2, ⟨hk.2, hk.1.1.1.1.1.1⟩⟩⟩⟩)⟩, ⟨by (with_reducible repeat (first | apply Kd.R_alloc | apply Kd.R_drewN | apply Kd.R_drew)); exact Kd.R_mono HO265.out (fun _ hk => ⟨hk.1.1.1.2, ⟨hk.1.1.2, ⟨hk.1.2, ⟨hk.2, hk.1.1.1.1.1.1⟩⟩⟩⟩)⟩, ⟨bB⟩⟩
     ·replace c32 := Bool.eq_false_iff.mpr c32
      subst c32
      have H1 : (lZ.j0 k l0 l1 t246 t247 t248 t253 t256 t259 t260 t261 true) = some r := by rw [if_neg (show ¬ (false = true) by decide)] at H; exact H
      clear H
      have H := H1
      clear H1
      have H' := aM H
      clear H
      obtain ⟨Ao39, co39, eo39⟩ := Kd.R_slice HO263.out
      subst eo39
      obtain ⟨Ao40, co40, eo40⟩ := Kd.R_slice HO250.out
      subst eo40
      go_wp2_with (first | ((with_reducible refine gate_callee (f := 13) rfl ?_); refine goesL_ (some 52) rfl rfl Try.func13 (by kernel_rfl) rfl #[.slice Ao39 t259.length co39, .slice Ao40 t246.length co40] rfl mM ?_; (with_reducible refine (laws_eqPartS.calls k _ _ t259 _ _ t246 true _ ?side1 ?side2 ?side3 ?side4 A29.out).mono ?_); (case side1 => exact cC ((Kd.R_reads' HO263.out).2.2)); (case side2 => exact (Kd.R_reads' HO263.out).2.1); (case side3 => exact cC ((Kd.R_reads' HO250.out).2.2)); (case side4 => exact (Kd.R_reads' HO250.out).2.1); rintro e w41 ⟨rfl, hb⟩; refine ⟨_, rfl, ?_⟩; have n0_ := aM (Kd.R_below (rR HO242.out) hb); have n1_ := aM (Kd.R_below (rR HO245.out) hb); have n2_ := aM (Kd.R_below (rR HO250.out) hb); have n3_ := aM (Kd.R_below (rR HO252.out) hb); have n4_ := aM (Kd.R_below (rR HO255.out) hb); have n5_ := aM (Kd.R_below (rR HO258.out) hb); have n6_ := aM (Kd.R_below (rR HO263.out) hb); have n7_ := aM (Kd.R_below (rR HO265.out) hb); have n8_ := aM (below_step bB hb); clear HO242; clear HO245; clear HO250; clear HO252; clear HO255; clear HO258; clear HO263; clear HO265; clear HB; have HO242 := n0_; have HO245 := n1_; have HO250 := n2_; have HO252 := n3_; have HO255 := n4_; have HO258 := n5_; have HO263 := n6_; have HO265 := n7_; have HB := n8_; clear n0_ n1_ n2_ n3_ n4_ n5_ n6_ n7_ n8_; (try clear hb); (try clear hb2); (try clear hk); (try clear hi); obtain ⟨Ao42, co42, eo42⟩ := Kd.R_slice HO265.out; subst eo42; obtain ⟨Ao43, co43, eo43⟩ := Kd.R_slice HO252.out; subst eo43) | (go_at_call 13; (with_reducible refine (laws_eqPartS.calls k _ _ t260 _ _ t247 false _ ?side1 ?side2 ?side3 ?side4 A31.out).mono ?_); (case side1 => exact cC ((Kd.R_reads' HO265.out).2.2)); (case side2 => exact (Kd.R_reads' HO265.out).2.1); (case side3 => exact cC ((Kd.R_reads' HO252.out).2.2)); (case side4 => exact (Kd.R_reads' HO252.out).2.1); rintro e w44 ⟨rfl, hb⟩; have n0_ := aM (Kd.R_below (rR HO242.out) hb); have n1_ := aM (Kd.R_below (rR HO245.out) hb); have n2_ := aM (Kd.R_below (rR HO250.out) hb); have n3_ := aM (Kd.R_below (rR HO252.out) hb); have n4_ := aM (Kd.R_below (rR HO255.out) hb); have n5_ := aM (Kd.R_below (rR HO258.out) hb); have n6_ := aM (Kd.R_below (rR HO263.out) hb); have n7_ := aM (Kd.R_below (rR HO265.out) hb); have n8_ := aM (below_step bB hb); clear HO242; clear HO245; clear HO250; clear HO252; clear HO255; clear HO258; clear HO263; clear HO265; clear HB; have HO242 := n0_; have HO245 := n1_; have HO250 := n2_; have HO252 := n3_; have HO255 := n4_; have HO258 := n5_; have HO263 := n6_; have HO265 := n7_; have HB := n8_; clear n0_ n1_ n2_ n3_ n4_ n5_ n6_ n7_ n8_; (try clear hb); (try clear hb2); (try clear hk); (try clear hi)))
      go_meet
      case rel => exact ⟨_, (true), (by first | rfl | (simp; done) | (simp [*]; done)), H', ⟨by first | omega | exact Nat.le_refl _⟩, ⟨by (with_reducible repeat (first | apply Kd.R_alloc | apply Kd.R_drewN | apply Kd.R_drew)); exact Kd.R_mono HO250.out (fun _ hk => ⟨hk.1.1.1.1.1.1, ⟨hk.1.1.1.2, ⟨hk.1.1.2, ⟨hk.1.2, hk.2⟩⟩⟩⟩)⟩, ⟨by (with_reducible repeat (first | apply Kd.R_alloc | apply Kd.R_drewN | apply Kd.R_drew)); exact Kd.R_mono HO252.out (fun _ hk => ⟨hk.1.1.1.1.1.1, ⟨hk.1.1.1.2, ⟨hk.1.1.2, ⟨hk.1.2, hk.2⟩⟩⟩⟩)⟩, ⟨by (with_reducible repeat (first | apply Kd.R_alloc | apply Kd.R_drewN | apply Kd.R_drew)); exact Kd.R_mono HO255.out (fun _ hk => ⟨hk.1.1.1.1.2, ⟨hk.1.1.1.2, ⟨hk.1.1.2, ⟨hk.1.2, hk.2⟩⟩⟩⟩)⟩, ⟨by (with_reducible repeat (first | apply Kd.R_alloc | apply Kd.R_drewN | apply Kd.R_drew)); exact Kd.R_mono HO258.out (fun _ hk => ⟨hk.1.1.1.1.2, ⟨hk.1.1.1.2, ⟨hk.1.1.2, ⟨hk.1.2, hk.2⟩⟩⟩⟩)⟩, ⟨by (with_reducible repeat (first | apply Kd.R_alloc | apply Kd.R_drewN | apply Kd.R_drew)); exact Kd.R_mono HO263.out (fun _ hk => ⟨hk.1.1.1.2, ⟨hk.1.1.2, ⟨hk.1.2, ⟨hk.2, hk.1.1.1.1.1.1⟩⟩⟩⟩)⟩, ⟨by (with_reducible repeat (first | apply Kd.R_alloc | apply Kd.R_drewN | apply Kd.R_drew)); exact Kd.R_mono HO265.out (fun _ hk => ⟨hk.1.1.1.2, ⟨hk.1.1.2, ⟨hk.1.2, ⟨hk.2, hk.1.1.1.1.1.1⟩⟩⟩⟩)⟩, ⟨bB⟩⟩
    ·replace c30 := Bool.eq_false_iff.mpr c30
     subst c30
     have H1 : (lZ.j0 k l0 l1 t246 t247 t248 t253 t256 t259 t260 t261 true) = some r := by rw [if_neg (show ¬ (false = true) by decide)] at H; exact H
     clear H
     have H := H1
     clear H1
     have H' := aM H
     clear H
     obtain ⟨Ao45, co45, eo45⟩ := Kd.R_slice HO263.out
     subst eo45
     obtain ⟨Ao46, co46, eo46⟩ := Kd.R_slice HO250.out
     subst eo46
     go_wp2_with (first | ((with_reducible refine gate_callee (f := 13) rfl ?_); refine goesL_ (some 52) rfl rfl Try.func13 (by kernel_rfl) rfl #[.slice Ao45 t259.length co45, .slice Ao46 t246.length co46] rfl mM ?_; (with_reducible refine (laws_eqPartS.calls k _ _ t259 _ _ t246 false _ ?side1 ?side2 ?side3 ?side4 A29.out).mono ?_); (case side1 => exact cC ((Kd.R_reads' HO263.out).2.2)); (case side2 => exact (Kd.R_reads' HO263.out).2.1); (case side3 => exact cC ((Kd.R_reads' HO250.out).2.2)); (case side4 => exact (Kd.R_reads' HO250.out).2.1); rintro e w47 ⟨rfl, hb⟩; refine ⟨_, rfl, ?_⟩; have n0_ := aM (Kd.R_below (rR HO242.out) hb); have n1_ := aM (Kd.R_below (rR HO245.out) hb); have n2_ := aM (Kd.R_below (rR HO250.out) hb); have n3_ := aM (Kd.R_below (rR HO252.out) hb); have n4_ := aM (Kd.R_below (rR HO255.out) hb); have n5_ := aM (Kd.R_below (rR HO258.out) hb); have n6_ := aM (Kd.R_below (rR HO263.out) hb); have n7_ := aM (Kd.R_below (rR HO265.out) hb); have n8_ := aM (below_step bB hb); clear HO242; clear HO245; clear HO250; clear HO252; clear HO255; clear HO258; clear HO263; clear HO265; clear HB; have HO242 := n0_; have HO245 := n1_; have HO250 := n2_; have HO252 := n3_; have HO255 := n4_; have HO258 := n5_; have HO263 := n6_; have HO265 := n7_; have HB := n8_; clear n0_ n1_ n2_ n3_ n4_ n5_ n6_ n7_ n8_; (try clear hb); (try clear hb2); (try clear hk); (try clear hi)))
     go_meet
     case rel => exact ⟨_, (true), (by first | rfl | (simp; done) | (simp [*]; done)), H', ⟨by first | omega | exact Nat.le_refl _⟩, ⟨by (with_reducible repeat (first | apply Kd.R_alloc | apply Kd.R_drewN | apply Kd.R_drew)); exact Kd.R_mono HO250.out (fun _ hk => ⟨hk.1.1.1.1.1.1, ⟨hk.1.1.1.2, ⟨hk.1.1.2, ⟨hk.1.2, hk.2⟩⟩⟩⟩)⟩, ⟨by (with_reducible repeat (first | apply Kd.R_alloc | apply Kd.R_drewN | apply Kd.R_drew)); exact Kd.R_mono HO252.out (fun _ hk => ⟨hk.1.1.1.1.1.1, ⟨hk.1.1.1.2, ⟨hk.1.1.2, ⟨hk.1.2, hk.2⟩⟩⟩⟩)⟩, ⟨by (with_reducible repeat (first | apply Kd.R_alloc | apply Kd.R_drewN | apply Kd.R_drew)); exact Kd.R_mono HO255.out (fun _ hk => ⟨hk.1.1.1.1.2, ⟨hk.1.1.1.2, ⟨hk.1.1.2, ⟨hk.1.2, hk.2⟩⟩⟩⟩)⟩, ⟨by (with_reducible repeat (first | apply Kd.R_alloc | apply Kd.R_drewN | apply Kd.R_drew)); exact Kd.R_mono HO258.out (fun _ hk => ⟨hk.1.1.1.1.2, ⟨hk.1.1.1.2, ⟨hk.1.1.2, ⟨hk.1.2, hk.2⟩⟩⟩⟩)⟩, ⟨by (with_reducible repeat (first | apply Kd.R_alloc | apply Kd.R_drewN | apply Kd.R_drew)); exact Kd.R_mono HO263.out (fun _ hk => ⟨hk.1.1.1.2, ⟨hk.1.1.2, ⟨hk.1.2, ⟨hk.2, hk.1.1.1.1.1.1⟩⟩⟩⟩)⟩, ⟨by (with_reducible repeat (first | apply Kd.R_alloc | apply Kd.R_drewN | apply Kd.R_drew)); exact Kd.R_mono HO265.out (fun _ hk => ⟨hk.1.1.1.2, ⟨hk.1.1.2, ⟨hk.1.2, ⟨hk.2, hk.1.1.1.1.1.1⟩⟩⟩⟩)⟩, ⟨bB⟩⟩
   case rest =>
    clear HC16
    try clear c1
    try clear p2
    try clear c3
    try clear c4
    try clear c4b0
    try clear c5
    try clear c7
    try clear c7b0
    try clear c9
    try clear c11
    try clear c13
    try clear c16
    try clear c17
    try clear c30
    try clear c32
    obtain ⟨kq, x64_15, rfl, HA, HJ15, HO_6, HO_7, HO_9, HO_10, HO_11, HO_12, HB⟩ := hcut
    cases kq with
    | zero => exact absurd HA.out (by simp [lZ.j0])
    | succ kj15 =>
     have H := HA.out
     clear HA
     simp only [lZ.j0] at H
     by_cases c48 : x64_15 = true
     ·subst c48
      have H1 : (some false) = some r := by rw [if_pos rfl] at H; exact H
      clear H
      have H := H1
      clear H1
      obtain rfl := Option.some.inj H
      go_wp2
      go_ret
      exact ⟨by first | rfl | (simp [errW_none, errW_some] <;> rfl) | (simp [errW_none, errW_some]; exact isE _) | (simp [*, errW_none, errW_some] <;> rfl), bB⟩
     ·replace c48 := Bool.eq_false_iff.mpr c48
      subst c48
      have H1 : ((laws_toPartS.f kj15 l0).bind fun t268 => ((laws_eqPartS.f kj15 t253 t268).bind fun t271 => (if t271 = true then ((laws_toPartS.f kj15 l1).bind fun t272 => ((laws_eqPartS.f kj15 t256 t272).bind fun t275 => (if t275 = true then ((laws_markPartS.f kj15 t253 1).bind fun bt276 => ((laws_markPartS.f kj15 t256 bt276.1).bind fun bt278 => (if bt278.1 < 0 then (lZ.j1 kj15 l0 l1 t246 t247 t248 t259 t260 true) else ((laws_eqPartS.f kj15 t259 t246).bind fun t280 => (if t280 = true then ((laws_eqPartS.f kj15 t260 t247).bind fun t281 => (if t281 = true then (lZ.j1 kj15 l0 l1 t246 t247 t248 t259 t260 (t261 != t248)) else (lZ.j1 kj15 l0 l1 t246 t247 t248 t259 t260 true))) else (lZ.j1 kj15 l0 l1 t246 t247 t248 t259 t260 true)))))) else (some false)))) else (some false)))) = some r := by rw [if_neg (show ¬ (false = true) by decide)] at H; exact H
      clear H
      have H := H1
      clear H1
      replace H := Option.bind_eq_some_iff.mp H
      obtain ⟨t268, A490, H⟩ := H
      replace H : ((laws_eqPartS.f kj15 t253 t268).bind fun t271 => (if t271 = true then ((laws_toPartS.f kj15 l1).bind fun t272 => ((laws_eqPartS.f kj15 t256 t272).bind fun t275 => (if t275 = true then ((laws_markPartS.f kj15 t253 1).bind fun bt276 => ((laws_markPartS.f kj15 t256 bt276.1).bind fun bt278 => (if bt278.1 < 0 then (lZ.j1 kj15 l0 l1 t246 t247 t248 t259 t260 true) else ((laws_eqPartS.f kj15 t259 t246).bind fun t280 => (if t280 = true then ((laws_eqPartS.f kj15 t260 t247).bind fun t281 => (if t281 = true then (lZ.j1 kj15 l0 l1 t246 t247 t248 t259 t260 (t261 != t248)) else (lZ.j1 kj15 l0 l1 t246 t247 t248 t259 t260 true))) else (lZ.j1 kj15 l0 l1 t246 t247 t248 t259 t260 true)))))) else (some false)))) else (some false))) = some r := H
      have A49 := aM A490
      clear A490
      replace H := Option.bind_eq_some_iff.mp H
      obtain ⟨t271, A500, H⟩ := H
      replace H : (if t271 = true then ((laws_toPartS.f kj15 l1).bind fun t272 => ((laws_eqPartS.f kj15 t256 t272).bind fun t275 => (if t275 = true then ((laws_markPartS.f kj15 t253 1).bind fun bt276 => ((laws_markPartS.f kj15 t256 bt276.1).bind fun bt278 => (if bt278.1 < 0 then (lZ.j1 kj15 l0 l1 t246 t247 t248 t259 t260 true) else ((laws_eqPartS.f kj15 t259 t246).bind fun t280 => (if t280 = true then ((laws_eqPartS.f kj15 t260 t247).bind fun t281 => (if t281 = true then (lZ.j1 kj15 l0 l1 t246 t247 t248 t259 t260 (t261 != t248)) else (lZ.j1 kj15 l0 l1 t246 t247 t248 t259 t260 true))) else (lZ.j1 kj15 l0 l1 t246 t247 t248 t259 t260 true)))))) else (some false)))) else (some false)) = some r := H
      have A50 := aM A500
      clear A500
      by_cases c51 : t271 = true
      ·subst c51
       have H1 : ((laws_toPartS.f kj15 l1).bind fun t272 => ((laws_eqPartS.f kj15 t256 t272).bind fun t275 => (if t275 = true then ((laws_markPartS.f kj15 t253 1).bind fun bt276 => ((laws_markPartS.f kj15 t256 bt276.1).bind fun bt278 => (if bt278.1 < 0 then (lZ.j1 kj15 l0 l1 t246 t247 t248 t259 t260 true) else ((laws_eqPartS.f kj15 t259 t246).bind fun t280 => (if t280 = true then ((laws_eqPartS.f kj15 t260 t247).bind fun t281 => (if t281 = true then (lZ.j1 kj15 l0 l1 t246 t247 t248 t259 t260 (t261 != t248)) else (lZ.j1 kj15 l0 l1 t246 t247 t248 t259 t260 true))) else (lZ.j1 kj15 l0 l1 t246 t247 t248 t259 t260 true)))))) else (some false)))) = some r := by rw [if_pos rfl] at H; exact H
       clear H
       have H := H1
       clear H1
       replace H := Option.bind_eq_some_iff.mp H
       obtain ⟨t272, A520, H⟩ := H
       replace H : ((laws_eqPartS.f kj15 t256 t272).bind fun t275 => (if t275 = true then ((laws_markPartS.f kj15 t253 1).bind fun bt276 => ((laws_markPartS.f kj15 t256 bt276.1).bind fun bt278 => (if bt278.1 < 0 then (lZ.j1 kj15 l0 l1 t246 t247 t248 t259 t260 true) else ((laws_eqPartS.f kj15 t259 t246).bind fun t280 => (if t280 = true then ((laws_eqPartS.f kj15 t260 t247).bind fun t281 => (if t281 = true then (lZ.j1 kj15 l0 l1 t246 t247 t248 t259 t260 (t261 != t248)) else (lZ.j1 kj15 l0 l1 t246 t247 t248 t259 t260 true))) else (lZ.j1 kj15 l0 l1 t246 t247 t248 t259 t260 true)))))) else (some false))) = some r := H
       have A52 := aM A520
       clear A520
       replace H := Option.bind_eq_some_iff.mp H
       obtain ⟨t275, A530, H⟩ := H
       replace H : (if t275 = true then ((laws_markPartS.f kj15 t253 1).bind fun bt276 => ((laws_markPartS.f kj15 t256 bt276.1).bind fun bt278 => (if bt278.1 < 0 then (lZ.j1 kj15 l0 l1 t246 t247 t248 t259 t260 true) else ((laws_eqPartS.f kj15 t259 t246).bind fun t280 => (if t280 = true then ((laws_eqPartS.f kj15 t260 t247).bind fun t281 => (if t281 = true then (lZ.j1 kj15 l0 l1 t246 t247 t248 t259 t260 (t261 != t248)) else (lZ.j1 kj15 l0 l1 t246 t247 t248 t259 t260 true))) else (lZ.j1 kj15 l0 l1 t246 t247 t248 t259 t260 true)))))) else (some false)) = some r := H
       have A53 := aM A530
       clear A530
       by_cases c54 : t275 = true
       ·subst c54
        have H1 : ((laws_markPartS.f kj15 t253 1).bind fun bt276 => ((laws_markPartS.f kj15 t256 bt276.1).bind fun bt278 => (if bt278.1 < 0 then (lZ.j1 kj15 l0 l1 t246 t247 t248 t259 t260 true) else ((laws_eqPartS.f kj15 t259 t246).bind fun t280 => (if t280 = true then ((laws_eqPartS.f kj15 t260 t247).bind fun t281 => (if t281 = true then (lZ.j1 kj15 l0 l1 t246 t247 t248 t259 t260 (t261 != t248)) else (lZ.j1 kj15 l0 l1 t246 t247 t248 t259 t260 true))) else (lZ.j1 kj15 l0 l1 t246 t247 t248 t259 t260 true)))))) = some r := by rw [if_pos rfl] at H; exact H
        clear H
        have H := H1
        clear H1
        replace H := Option.bind_eq_some_iff.mp H
        obtain ⟨⟨t276, t277⟩, A550, H⟩ := H
        replace H : ((laws_markPartS.f kj15 t256 t276).bind fun bt278 => (if bt278.1 < 0 then (lZ.j1 kj15 l0 l1 t246 t247 t248 t259 t260 true) else ((laws_eqPartS.f kj15 t259 t246).bind fun t280 => (if t280 = true then ((laws_eqPartS.f kj15 t260 t247).bind fun t281 => (if t281 = true then (lZ.j1 kj15 l0 l1 t246 t247 t248 t259 t260 (t261 != t248)) else (lZ.j1 kj15 l0 l1 t246 t247 t248 t259 t260 true))) else (lZ.j1 kj15 l0 l1 t246 t247 t248 t259 t260 true))))) = some r := H
        have A55 := aM A550
        clear A550
        replace H := Option.bind_eq_some_iff.mp H
        obtain ⟨⟨t278, t279⟩, A560, H⟩ := H
        replace H : (if t278 < 0 then (lZ.j1 kj15 l0 l1 t246 t247 t248 t259 t260 true) else ((laws_eqPartS.f kj15 t259 t246).bind fun t280 => (if t280 = true then ((laws_eqPartS.f kj15 t260 t247).bind fun t281 => (if t281 = true then (lZ.j1 kj15 l0 l1 t246 t247 t248 t259 t260 (t261 != t248)) else (lZ.j1 kj15 l0 l1 t246 t247 t248 t259 t260 true))) else (lZ.j1 kj15 l0 l1 t246 t247 t248 t259 t260 true)))) = some r := H
        have A56 := aM A560
        clear A560
        have HC57 := aM H
        clear H
        go_upto_region 21 with (first | ((with_reducible refine gate_callee (f := 11) rfl ?_); refine goesL_ (some 67) rfl rfl Try.func11 (by kernel_rfl) rfl #[.slice A0 l0.length c0] rfl mM ?_; (with_reducible refine (laws_toPartS.calls kj15 _ _ l0 t268 _ ?side1 ?side2 A49.out).mono ?_); (case side1 => exact cC (Kd.C_below HR0.out HB.out)); (case side2 => exact HC0.out); rintro e w58 ⟨v269, rfl, ho0, hb⟩; refine ⟨_, rfl, ?_⟩; have n0_ := aM (Kd.R_elder' (rR HO_6.out) (Kd.R_base ho0) hb); have n1_ := aM (Kd.R_elder' (rR HO_7.out) (Kd.R_base ho0) hb); have n2_ := aM (Kd.R_elder' (rR HO_9.out) (Kd.R_base ho0) hb); have n3_ := aM (Kd.R_elder' (rR HO_10.out) (Kd.R_base ho0) hb); have n4_ := aM (Kd.R_elder' (rR HO_11.out) (Kd.R_base ho0) hb); have n5_ := aM (Kd.R_elder' (rR HO_12.out) (Kd.R_base ho0) hb); have n6_ := aM (Kd.R_lower (Kd.R_new' (Kd.R_new' (Kd.R_new' (Kd.R_new' (Kd.R_new' (Kd.R_new' ho0 (Kd.R_lt (rR HO_6.out))) (Kd.R_lt (rR HO_7.out))) (Kd.R_lt (rR HO_9.out))) (Kd.R_lt (rR HO_10.out))) (Kd.R_lt (rR HO_11.out))) (Kd.R_lt (rR HO_12.out))) (below_size bB)); have n7_ := aM (below_step bB hb); clear HO_6; clear HO_7; clear HO_9; clear HO_10; clear HO_11; clear HO_12; clear HB; have HO_6 := n0_; have HO_7 := n1_; have HO_9 := n2_; have HO_10 := n3_; have HO_11 := n4_; have HO_12 := n5_; have HO270 := n6_; have HB := n7_; clear n0_ n1_ n2_ n3_ n4_ n5_ n6_ n7_; (try clear hb); (try clear hb2); (try clear hk); (try clear hi); (try clear ho0); obtain ⟨Ao59, co59, eo59⟩ := Kd.R_slice HO270.out; subst eo59) | ((with_reducible refine gate_callee (f := 13) rfl ?_); refine goesL_ (some 68) rfl rfl Try.func13 (by kernel_rfl) rfl #[.slice Ao26 t253.length co26, .slice Ao59 t268.length co59] rfl mM ?_; (with_reducible refine (laws_eqPartS.calls kj15 _ _ t253 _ _ t268 true _ ?side1 ?side2 ?side3 ?side4 A50.out).mono ?_); (case side1 => exact cC ((Kd.R_reads' HO_9.out).2.2)); (case side2 => exact (Kd.R_reads' HO_9.out).2.1); (case side3 => exact cC ((Kd.R_reads' HO270.out).2.2)); (case side4 => exact (Kd.R_reads' HO270.out).2.1); rintro e w60 ⟨rfl, hb⟩; refine ⟨_, rfl, ?_⟩; have n0_ := aM (Kd.R_below (rR HO_6.out) hb); have n1_ := aM (Kd.R_below (rR HO_7.out) hb); have n2_ := aM (Kd.R_below (rR HO_9.out) hb); have n3_ := aM (Kd.R_below (rR HO_10.out) hb); have n4_ := aM (Kd.R_below (rR HO_11.out) hb); have n5_ := aM (Kd.R_below (rR HO_12.out) hb); have n6_ := aM (Kd.R_below (rR HO270.out) hb); have n7_ := aM (below_step bB hb); clear HO_6; clear HO_7; clear HO_9; clear HO_10; clear HO_11; clear HO_12; clear HO270; clear HB; have HO_6 := n0_; have HO_7 := n1_; have HO_9 := n2_; have HO_10 := n3_; have HO_11 := n4_; have HO_12 := n5_; have HO270 := n6_; have HB := n7_; clear n0_ n1_ n2_ n3_ n4_ n5_ n6_ n7_; (try clear hb); (try clear hb2); (try clear hk); (try clear hi)) | ((with_reducible refine gate_callee (f := 11) rfl ?_); refine goesL_ (some 72) rfl rfl Try.func11 (by kernel_rfl) rfl #[.slice A1 l1.length c1] rfl mM ?_; (with_reducible refine (laws_toPartS.calls kj15 _ _ l1 t272 _ ?side1 ?side2 A52.out).mono ?_); (case side1 => exact cC (Kd.C_below HR1.out HB.out)); (case side2 => exact HC1.out); rintro e w61 ⟨v273, rfl, ho0, hb⟩; refine ⟨_, rfl, ?_⟩; have n0_ := aM (Kd.R_elder' (rR HO_6.out) (Kd.R_base ho0) hb); have n1_ := aM (Kd.R_elder' (rR HO_7.out) (Kd.R_base ho0) hb); have n2_ := aM (Kd.R_elder' (rR HO_9.out) (Kd.R_base ho0) hb); have n3_ := aM (Kd.R_elder' (rR HO_10.out) (Kd.R_base ho0) hb); have n4_ := aM (Kd.R_elder' (rR HO_11.out) (Kd.R_base ho0) hb); have n5_ := aM (Kd.R_elder' (rR HO_12.out) (Kd.R_base ho0) hb); have n6_ := aM (Kd.R_elder' (rR HO270.out) (Kd.R_base ho0) hb); have n7_ := aM (Kd.R_lower (Kd.R_new' (Kd.R_new' (Kd.R_new' (Kd.R_new' (Kd.R_new' (Kd.R_new' (Kd.R_new' ho0 (Kd.R_lt (rR HO_6.out))) (Kd.R_lt (rR HO_7.out))) (Kd.R_lt (rR HO_9.out))) (Kd.R_lt (rR HO_10.out))) (Kd.R_lt (rR HO_11.out))) (Kd.R_lt (rR HO_12.out))) (Kd.R_lt (rR HO270.out))) (below_size bB)); have n8_ := aM (below_step bB hb); clear HO_6; clear HO_7; clear HO_9; clear HO_10; clear HO_11; clear HO_12; clear HO270; clear HB; have HO_6 := n0_; have HO_7 := n1_; have HO_9 := n2_; have HO_10 := n3_; have HO_11 := n4_; have HO_12 := n5_; have HO270 := n6_; have HO274 := n7_; have HB := n8_; clear n0_ n1_ n2_ n3_ n4_ n5_ n6_ n7_ n8_; (try clear hb); (try clear hb2); (try clear hk); (try clear hi); (try clear ho0); obtain ⟨Ao62, co62, eo62⟩ := Kd.R_slice HO274.out; subst eo62) | ((with_reducible refine gate_callee (f := 13) rfl ?_); refine goesL_ (some 73) rfl rfl Try.func13 (by kernel_rfl) rfl #[.slice Ao27 t256.length co27, .slice Ao62 t272.length co62] rfl mM ?_; (with_reducible refine (laws_eqPartS.calls kj15 _ _ t256 _ _ t272 true _ ?side1 ?side2 ?side3 ?side4 A53.out).mono ?_); (case side1 => exact cC ((Kd.R_reads' HO_10.out).2.2)); (case side2 => exact (Kd.R_reads' HO_10.out).2.1); (case side3 => exact cC ((Kd.R_reads' HO274.out).2.2)); (case side4 => exact (Kd.R_reads' HO274.out).2.1); rintro e w63 ⟨rfl, hb⟩; refine ⟨_, rfl, ?_⟩; have n0_ := aM (Kd.R_below (rR HO_6.out) hb); have n1_ := aM (Kd.R_below (rR HO_7.out) hb); have n2_ := aM (Kd.R_below (rR HO_9.out) hb); have n3_ := aM (Kd.R_below (rR HO_10.out) hb); have n4_ := aM (Kd.R_below (rR HO_11.out) hb); have n5_ := aM (Kd.R_below (rR HO_12.out) hb); have n6_ := aM (Kd.R_below (rR HO270.out) hb); have n7_ := aM (Kd.R_below (rR HO274.out) hb); have n8_ := aM (below_step bB hb); clear HO_6; clear HO_7; clear HO_9; clear HO_10; clear HO_11; clear HO_12; clear HO270; clear HO274; clear HB; have HO_6 := n0_; have HO_7 := n1_; have HO_9 := n2_; have HO_10 := n3_; have HO_11 := n4_; have HO_12 := n5_; have HO270 := n6_; have HO274 := n7_; have HB := n8_; clear n0_ n1_ n2_ n3_ n4_ n5_ n6_ n7_ n8_; (try clear hb); (try clear hb2); (try clear hk); (try clear hi)) | ((with_reducible refine gate_callee (f := 18) rfl ?_); refine goesL_ (some 77) rfl rfl Try.func18 (by kernel_rfl) rfl #[.slice Ao26 t253.length co26, .int .i64 1] rfl mM ?_; (with_reducible refine (laws_markPartS.calls kj15 (fun k_ => some k_ = (.slice Ao26 t253.length co26 : Value).ownBlock) (.slice Ao26 t253.length co26) t253 1 t276 t277 w _ ?side1 ?side2 A55.out).mono ?_); (case side1 => exact bB); (case side2 => exact Kd.R_tight rfl HO_9.out); rintro e w64 ⟨rfl, hy0, hb, hkp⟩; refine ⟨_, rfl, ?_⟩; have n0_ := aM (Kd.R_mono (ok' := fun k_ => some k_ ≠ (v251 : Value).ownBlock ∧ some k_ ≠ (.slice Ao26 t253.length co26 : Value).ownBlock ∧ some k_ ≠ (.slice Ao27 t256.length co27 : Value).ownBlock ∧ some k_ ≠ (v262 : Value).ownBlock ∧ some k_ ≠ (v264 : Value).ownBlock ∧ some k_ ≠ (.slice Ao59 t268.length co59 : Value).ownBlock ∧ some k_ ≠ (.slice Ao62 t272.length co62 : Value).ownBlock) (Kd.R_keptB (HO_6.out) hkp (fun k_ hk_ hs_ => (hk_.1.1.2.1) hs_)) (fun k_ hk_ => ⟨hk_.1.1.1.1, hk_.1.1.1.2.1, hk_.1.1.1.2.2.1, hk_.1.1.1.2.2.2.1, hk_.1.1.1.2.2.2.2, hk_.1.1.2, hk_.1.2⟩)); have n1_ := aM (Kd.R_mono (ok' := fun k_ => some k_ ≠ (v249 : Value).ownBlock ∧ some k_ ≠ (.slice Ao26 t253.length co26 : Value).ownBlock ∧ some k_ ≠ (.slice Ao27 t256.length co27 : Value).ownBlock ∧ some k_ ≠ (v262 : Value).ownBlock ∧ some k_ ≠ (v264 : Value).ownBlock ∧ some k_ ≠ (.slice Ao59 t268.length co59 : Value).ownBlock ∧ some k_ ≠ (.slice Ao62 t272.length co62 : Value).ownBlock) (Kd.R_keptB (HO_7.out) hkp (fun k_ hk_ hs_ => (hk_.1.1.2.1) hs_)) (fun k_ hk_ => ⟨hk_.1.1.1.1, hk_.1.1.1.2.1, hk_.1.1.1.2.2.1, hk_.1.1.1.2.2.2.1, hk_.1.1.1.2.2.2.2, hk_.1.1.2, hk_.1.2⟩)); have n2_ := aM (Kd.R_reok rfl hy0 (fun k_ e_ => HO_9.out.1 k_ e_)); have n3_ := aM (Kd.R_mono (ok' := fun k_ => some k_ ≠ (v249 : Value).ownBlock ∧ some k_ ≠ (v251 : Value).ownBlock ∧ some k_ ≠ (.slice Ao26 t253.length co26 : Value).ownBlock ∧ some k_ ≠ (v262 : Value).ownBlock ∧ some k_ ≠ (v264 : Value).ownBlock ∧ some k_ ≠ (.slice Ao59 t268.length co59 : Value).ownBlock ∧ some k_ ≠ (.slice Ao62 t272.length co62 : Value).ownBlock) (Kd.R_keptB (HO_10.out) hkp (fun k_ hk_ hs_ => (hk_.1.1.2.2.1) hs_)) (fun k_ hk_ => ⟨hk_.1.1.1.1, hk_.1.1.1.2.1, hk_.1.1.1.2.2.1, hk_.1.1.1.2.2.2.1, hk_.1.1.1.2.2.2.2, hk_.1.1.2, hk_.1.2⟩)); have n4_ := aM (Kd.R_mono (ok' := fun k_ => some k_ ≠ (v249 : Value).ownBlock ∧ some k_ ≠ (v251 : Value).ownBlock ∧ some k_ ≠ (.slice Ao26 t253.length co26 : Value).ownBlock ∧ some k_ ≠ (.slice Ao27 t256.length co27 : Value).ownBlock ∧ some k_ ≠ (v264 : Value).ownBlock ∧ some k_ ≠ (.slice Ao59 t268.length co59 : Value).ownBlock ∧ some k_ ≠ (.slice Ao62 t272.length co62 : Value).ownBlock) (Kd.R_keptB (HO_11.out) hkp (fun k_ hk_ hs_ => (hk_.1.1.2.2.1) hs_)) (fun k_ hk_ => ⟨hk_.1.1.1.1, hk_.1.1.1.2.1, hk_.1.1.1.2.2.1, hk_.1.1.1.2.2.2.1, hk_.1.1.1.2.2.2.2, hk_.1.1.2, hk_.1.2⟩)); have n5_ := aM (Kd.R_mono (ok' := fun k_ => some k_ ≠ (v249 : Value).ownBlock ∧ some k_ ≠ (v251 : Value).ownBlock ∧ some k_ ≠ (.slice Ao26 t253.length co26 : Value).ownBlock ∧ some k_ ≠ (.slice Ao27 t256.length co27 : Value).ownBlock ∧ some k_ ≠ (v262 : Value).ownBlock ∧ some k_ ≠ (.slice Ao59 t268.length co59 : Value).ownBlock ∧ some k_ ≠ (.slice Ao62 t272.length co62 : Value).ownBlock) (Kd.R_keptB (HO_12.out) hkp (fun k_ hk_ hs_ => (hk_.1.1.2.2.1) hs_)) (fun k_ hk_ => ⟨hk_.1.1.1.1, hk_.1.1.1.2.1, hk_.1.1.1.2.2.1, hk_.1.1.1.2.2.2.1, hk_.1.1.1.2.2.2.2, hk_.1.1.2, hk_.1.2⟩)); have n6_ := aM (Kd.R_mono (ok' := fun k_ => some k_ ≠ (v249 : Value).ownBlock ∧ some k_ ≠ (v251 : Value).ownBlock ∧ some k_ ≠ (.slice Ao26 t253.length co26 : Value).ownBlock ∧ some k_ ≠ (.slice Ao27 t256.length co27 : Value).ownBlock ∧ some k_ ≠ (v262 : Value).ownBlock ∧ some k_ ≠ (v264 : Value).ownBlock ∧ some k_ ≠ (.slice Ao62 t272.length co62 : Value).ownBlock) (Kd.R_keptB (HO270.out) hkp (fun k_ hk_ hs_ => (hk_.1.1.1.1.2) hs_)) (fun k_ hk_ => ⟨hk_.1.1.1.1.1.1.1.2, hk_.1.1.1.1.1.1.2, hk_.1.1.1.1.1.2, hk_.1.1.1.1.2, hk_.1.1.1.2, hk_.1.1.2, hk_.1.2⟩)); have n7_ := aM (Kd.R_mono (ok' := fun k_ => some k_ ≠ (v249 : Value).ownBlock ∧ some k_ ≠ (v251 : Value).ownBlock ∧ some k_ ≠ (.slice Ao26 t253.length co26 : Value).ownBlock ∧ some k_ ≠ (.slice Ao27 t256.length co27 : Value).ownBlock ∧ some k_ ≠ (v262 : Value).ownBlock ∧ some k_ ≠ (v264 : Value).ownBlock ∧ some k_ ≠ (.slice Ao59 t268.length co59 : Value).ownBlock) (Kd.R_keptB (HO274.out) hkp (fun k_ hk_ hs_ => (hk_.1.1.1.1.2) hs_)) (fun k_ hk_ => ⟨hk_.1.1.1.1.1.1.1.2, hk_.1.1.1.1.1.1.2, hk_.1.1.1.1.1.2, hk_.1.1.1.1.2, hk_.1.1.1.2, hk_.1.1.2, hk_.1.2⟩)); have n8_ := aM (hb); clear HO_6; clear HO_7; clear HO_9; clear HO_10; clear HO_11; clear HO_12; clear HO270; clear HO274; clear HB; have HO_6 := n0_; have HO_7 := n1_; have HO_9 := n2_; have HO_10 := n3_; have HO_11 := n4_; have HO_12 := n5_; have HO270 := n6_; have HO274 := n7_; have HB := n8_; clear n0_ n1_ n2_ n3_ n4_ n5_ n6_ n7_ n8_; (try clear hb); (try clear hkp); (try clear hy0)) | ((with_reducible refine gate_callee (f := 18) rfl ?_); refine goesL_ (some 80) rfl rfl Try.func18 (by kernel_rfl) rfl #[.slice Ao27 t256.length co27, .int .i64 t276] rfl mM ?_; (with_reducible refine (laws_markPartS.calls kj15 (fun k_ => some k_ = (.slice Ao27 t256.length co27 : Value).ownBlock) (.slice Ao27 t256.length co27) t256 t276 t278 t279 w _ ?side1 ?side2 A56.out).mono ?_); (case side1 => exact bB); (case side2 => exact Kd.R_tight rfl HO_10.out); rintro e w65 ⟨rfl, hy0, hb, hkp⟩; refine ⟨_, rfl, ?_⟩; have n0_ := aM (Kd.R_mono (ok' := fun k_ => some k_ ≠ (v251 : Value).ownBlock ∧ some k_ ≠ (.slice Ao26 t253.length co26 : Value).ownBlock ∧ some k_ ≠ (.slice Ao27 t256.length co27 : Value).ownBlock ∧ some k_ ≠ (v262 : Value).ownBlock ∧ some k_ ≠ (v264 : Value).ownBlock ∧ some k_ ≠ (.slice Ao59 t268.length co59 : Value).ownBlock ∧ some k_ ≠ (.slice Ao62 t272.length co62 : Value).ownBlock) (Kd.R_keptB (HO_6.out) hkp (fun k_ hk_ hs_ => (hk_.2.2.1) hs_)) (fun k_ hk_ => ⟨hk_.1.1, hk_.1.2.1, hk_.1.2.2.1, hk_.1.2.2.2.1, hk_.1.2.2.2.2.1, hk_.1.2.2.2.2.2.1, hk_.1.2.2.2.2.2.2⟩)); have n1_ := aM (Kd.R_mono (ok' := fun k_ => some k_ ≠ (v249 : Value).ownBlock ∧ some k_ ≠ (.slice Ao26 t253.length co26 : Value).ownBlock ∧ some k_ ≠ (.slice Ao27 t256.length co27 : Value).ownBlock ∧ some k_ ≠ (v262 : Value).ownBlock ∧ some k_ ≠ (v264 : Value).ownBlock ∧ some k_ ≠ (.slice Ao59 t268.length co59 : Value).ownBlock ∧ some k_ ≠ (.slice Ao62 t272.length co62 : Value).ownBlock) (Kd.R_keptB (HO_7.out) hkp (fun k_ hk_ hs_ => (hk_.2.2.1) hs_)) (fun k_ hk_ => ⟨hk_.1.1, hk_.1.2.1, hk_.1.2.2.1, hk_.1.2.2.2.1, hk_.1.2.2.2.2.1, hk_.1.2.2.2.2.2.1, hk_.1.2.2.2.2.2.2⟩)); have n2_ := aM (Kd.R_mono (ok' := fun k_ => some k_ ≠ (v249 : Value).ownBlock ∧ some k_ ≠ (v251 : Value).ownBlock ∧ some k_ ≠ (.slice Ao27 t256.length co27 : Value).ownBlock ∧ some k_ ≠ (v262 : Value).ownBlock ∧ some k_ ≠ (v264 : Value).ownBlock ∧ some k_ ≠ (.slice Ao59 t268.length co59 : Value).ownBlock ∧ some k_ ≠ (.slice Ao62 t272.length co62 : Value).ownBlock) (Kd.R_keptB (HO_9.out) hkp (fun k_ hk_ hs_ => (hk_.1.1.2.2.1) hs_)) (fun k_ hk_ => ⟨hk_.1.1.1.1, hk_.1.1.1.2.1, hk_.1.1.1.2.2.1, hk_.1.1.1.2.2.2.1, hk_.1.1.1.2.2.2.2, hk_.1.1.2, hk_.1.2⟩)); have n3_ := aM (Kd.R_reok rfl hy0 (fun k_ e_ => HO_10.out.1 k_ e_)); have n4_ := aM (Kd.R_mono (ok' := fun k_ => some k_ ≠ (v249 : Value).ownBlock ∧ some k_ ≠ (v251 : Value).ownBlock ∧ some k_ ≠ (.slice Ao26 t253.length co26 : Value).ownBlock ∧ some k_ ≠ (.slice Ao27 t256.length co27 : Value).ownBlock ∧ some k_ ≠ (v264 : Value).ownBlock ∧ some k_ ≠ (.slice Ao59 t268.length co59 : Value).ownBlock ∧ some k_ ≠ (.slice Ao62 t272.length co62 : Value).ownBlock) (Kd.R_keptB (HO_11.out) hkp (fun k_ hk_ hs_ => (hk_.2.2.2.1) hs_)) (fun k_ hk_ => ⟨hk_.1.1, hk_.1.2.1, hk_.1.2.2.1, hk_.1.2.2.2.1, hk_.1.2.2.2.2.1, hk_.1.2.2.2.2.2.1, hk_.1.2.2.2.2.2.2⟩)); have n5_ := aM (Kd.R_mono (ok' := fun k_ => some k_ ≠ (v249 : Value).ownBlock ∧ some k_ ≠ (v251 : Value).ownBlock ∧ some k_ ≠ (.slice Ao26 t253.length co26 : Value).ownBlock ∧ some k_ ≠ (.slice Ao27 t256.length co27 : Value).ownBlock ∧ some k_ ≠ (v262 : Value).ownBlock ∧ some k_ ≠ (.slice Ao59 t268.length co59 : Value).ownBlock ∧ some k_ ≠ (.slice Ao62 t272.length co62 : Value).ownBlock) (Kd.R_keptB (HO_12.out) hkp (fun k_ hk_ hs_ => (hk_.2.2.2.1) hs_)) (fun k_ hk_ => ⟨hk_.1.1, hk_.1.2.1, hk_.1.2.2.1, hk_.1.2.2.2.1, hk_.1.2.2.2.2.1, hk_.1.2.2.2.2.2.1, hk_.1.2.2.2.2.2.2⟩)); have n6_ := aM (Kd.R_mono (ok' := fun k_ => some k_ ≠ (v249 : Value).ownBlock ∧ some k_ ≠ (v251 : Value).ownBlock ∧ some k_ ≠ (.slice Ao26 t253.length co26 : Value).ownBlock ∧ some k_ ≠ (.slice Ao27 t256.length co27 : Value).ownBlock ∧ some k_ ≠ (v262 : Value).ownBlock ∧ some k_ ≠ (v264 : Value).ownBlock ∧ some k_ ≠ (.slice Ao62 t272.length co62 : Value).ownBlock) (Kd.R_keptB (HO270.out) hkp (fun k_ hk_ hs_ => (hk_.2.2.2.1) hs_)) (fun k_ hk_ => ⟨hk_.1.1, hk_.1.2.1, hk_.1.2.2.1, hk_.1.2.2.2.1, hk_.1.2.2.2.2.1, hk_.1.2.2.2.2.2.1, hk_.1.2.2.2.2.2.2⟩)); have n7_ := aM (Kd.R_mono (ok' := fun k_ => some k_ ≠ (v249 : Value).ownBlock ∧ some k_ ≠ (v251 : Value).ownBlock ∧ some k_ ≠ (.slice Ao26 t253.length co26 : Value).ownBlock ∧ some k_ ≠ (.slice Ao27 t256.length co27 : Value).ownBlock ∧ some k_ ≠ (v262 : Value).ownBlock ∧ some k_ ≠ (v264 : Value).ownBlock ∧ some k_ ≠ (.slice Ao59 t268.length co59 : Value).ownBlock) (Kd.R_keptB (HO274.out) hkp (fun k_ hk_ hs_ => (hk_.2.2.2.1) hs_)) (fun k_ hk_ => ⟨hk_.1.1, hk_.1.2.1, hk_.1.2.2.1, hk_.1.2.2.2.1, hk_.1.2.2.2.2.1, hk_.1.2.2.2.2.2.1, hk_.1.2.2.2.2.2.2⟩)); have n8_ := aM (hb); clear HO_6; clear HO_7; clear HO_9; clear HO_10; clear HO_11; clear HO_12; clear HO270; clear HO274; clear HB; have HO_6 := n0_; have HO_7 := n1_; have HO_9 := n2_; have HO_10 := n3_; have HO_11 := n4_; have HO_12 := n5_; have HO270 := n6_; have HO274 := n7_; have HB := n8_; clear n0_ n1_ n2_ n3_ n4_ n5_ n6_ n7_ n8_; (try clear hb); (try clear hkp); (try clear hy0)))
        (try simp only [Act.put, List.setIfInBounds_toArray, List.set_cons_zero, List.set_cons_succ])
        go_cut [99] (fun v99 wc => ∃ (kq : Nat) (x99_56 : Bool), v99 = .bool x99_56 ∧ Aside0 (lZ.j1 kq l0 l1 t246 t247 t248 t259 t260 x99_56 = some r) ∧ Aside0 (kq ≤ kj15) ∧ Aside0 (Kd.R k60 60 wc w.heap.size (fun k_ => some k_ ≠ (v251 : Value).ownBlock ∧ some k_ ≠ (v262 : Value).ownBlock ∧ some k_ ≠ (v264 : Value).ownBlock) v249 t246) ∧ Aside0 (Kd.R k60 60 wc w.heap.size (fun k_ => some k_ ≠ (v249 : Value).ownBlock ∧ some k_ ≠ (v262 : Value).ownBlock ∧ some k_ ≠ (v264 : Value).ownBlock) v251 t247) ∧ Aside0 (Kd.R k60 60 wc w.heap.size (fun k_ => some k_ ≠ (v249 : Value).ownBlock ∧ some k_ ≠ (v251 : Value).ownBlock ∧ some k_ ≠ (v264 : Value).ownBlock) v262 t259) ∧ Aside0 (Kd.R k60 60 wc w.heap.size (fun k_ => some k_ ≠ (v249 : Value).ownBlock ∧ some k_ ≠ (v251 : Value).ownBlock ∧ some k_ ≠ (v262 : Value).ownBlock) v264 t260) ∧ Aside0 (Below w.heap.size w wc))
        case first =>
         have H := HC57.out
         clear HC57
         by_cases c66 : t278 < 0
         ·rw [if_pos c66] at H
          have c66b0 : decide (t278 < 0) = true := decide_eq_true c66
          clear c66
          (first | rw [c66b0] | (simp only [i64_w, i32_w]; rw [c66b0]) | rw [c66e] | skip)
          have H' := aM H
          clear H
          go_wp2
          go_meet
          case rel => exact ⟨_, (true), (by first | rfl | (simp; done) | (simp [*]; done)), H', ⟨by have := HJ15.out; first | omega | exact Nat.le_refl _⟩, ⟨by (with_reducible repeat (first | apply Kd.R_alloc | apply Kd.R_drewN | apply Kd.R_drew)); exact Kd.R_mono HO_6.out (fun _ hk => ⟨hk.1, ⟨hk.2.2.2.1, hk.2.2.2.2.1⟩⟩)⟩, ⟨by (with_reducible repeat (first | apply Kd.R_alloc | apply Kd.R_drewN | apply Kd.R_drew)); exact Kd.R_mono HO_7.out (fun _ hk => ⟨hk.1, ⟨hk.2.2.2.1, hk.2.2.2.2.1⟩⟩)⟩, ⟨by (with_reducible repeat (first | apply Kd.R_alloc | apply Kd.R_drewN | apply Kd.R_drew)); exact Kd.R_mono HO_11.out (fun _ hk => ⟨hk.1, ⟨hk.2.1, hk.2.2.2.2.1⟩⟩)⟩, ⟨by (with_reducible repeat (first | apply Kd.R_alloc | apply Kd.R_drewN | apply Kd.R_drew)); exact Kd.R_mono HO_12.out (fun _ hk => ⟨hk.1, ⟨hk.2.1, hk.2.2.2.2.1⟩⟩)⟩, ⟨bB⟩⟩
         ·rw [if_neg c66] at H
          have c66b0 : decide (t278 < 0) = false := decide_eq_false c66
          clear c66
          (first | rw [c66b0] | (simp only [i64_w, i32_w]; rw [c66b0]) | rw [c66e] | skip)
          replace H := Option.bind_eq_some_iff.mp H
          obtain ⟨t280, A670, H⟩ := H
          replace H : (if t280 = true then ((laws_eqPartS.f kj15 t260 t247).bind fun t281 => (if t281 = true then (lZ.j1 kj15 l0 l1 t246 t247 t248 t259 t260 (t261 != t248)) else (lZ.j1 kj15 l0 l1 t246 t247 t248 t259 t260 true))) else (lZ.j1 kj15 l0 l1 t246 t247 t248 t259 t260 true)) = some r := H
          have A67 := aM A670
          clear A670
          by_cases c68 : t280 = true
          ·subst c68
           have H1 : ((laws_eqPartS.f kj15 t260 t247).bind fun t281 => (if t281 = true then (lZ.j1 kj15 l0 l1 t246 t247 t248 t259 t260 (t261 != t248)) else (lZ.j1 kj15 l0 l1 t246 t247 t248 t259 t260 true))) = some r := by rw [if_pos rfl] at H; exact H
           clear H
           have H := H1
           clear H1
           replace H := Option.bind_eq_some_iff.mp H
           obtain ⟨t281, A690, H⟩ := H
           replace H : (if t281 = true then (lZ.j1 kj15 l0 l1 t246 t247 t248 t259 t260 (t261 != t248)) else (lZ.j1 kj15 l0 l1 t246 t247 t248 t259 t260 true)) = some r := H
           have A69 := aM A690
           clear A690
           by_cases c70 : t281 = true
           ·subst c70
            have H1 : (lZ.j1 kj15 l0 l1 t246 t247 t248 t259 t260 (t261 != t248)) = some r := by rw [if_pos rfl] at H; exact H
            clear H
            have H := H1
            clear H1
            have H' := aM H
            clear H
            obtain ⟨Ao71, co71, eo71⟩ := Kd.R_slice HO_11.out
            subst eo71
            obtain ⟨Ao72, co72, eo72⟩ := Kd.R_slice HO_6.out
            subst eo72
            go_wp2_with (first | (go_at_call 13; (with_reducible refine (laws_eqPartS.calls kj15 _ _ t259 _ _ t246 true _ ?side1 ?side2 ?side3 ?side4 A67.out).mono ?_); (case side1 => exact cC ((Kd.R_reads' HO_11.out).2.2)); (case side2 => exact (Kd.R_reads' HO_11.out).2.1); (case side3 => exact cC ((Kd.R_reads' HO_6.out).2.2)); (case side4 => exact (Kd.R_reads' HO_6.out).2.1); rintro e w73 ⟨rfl, hb⟩; have n0_ := aM (Kd.R_below (rR HO_6.out) hb); have n1_ := aM (Kd.R_below (rR HO_7.out) hb); have n2_ := aM (Kd.R_below (rR HO_9.out) hb); have n3_ := aM (Kd.R_below (rR HO_10.out) hb); have n4_ := aM (Kd.R_below (rR HO_11.out) hb); have n5_ := aM (Kd.R_below (rR HO_12.out) hb); have n6_ := aM (Kd.R_below (rR HO270.out) hb); have n7_ := aM (Kd.R_below (rR HO274.out) hb); have n8_ := aM (below_step bB hb); clear HO_6; clear HO_7; clear HO_9; clear HO_10; clear HO_11; clear HO_12; clear HO270; clear HO274; clear HB; have HO_6 := n0_; have HO_7 := n1_; have HO_9 := n2_; have HO_10 := n3_; have HO_11 := n4_; have HO_12 := n5_; have HO270 := n6_; have HO274 := n7_; have HB := n8_; clear n0_ n1_ n2_ n3_ n4_ n5_ n6_ n7_ n8_; (try clear hb); (try clear hb2); (try clear hk); (try clear hi); obtain ⟨Ao74, co74, eo74⟩ := Kd.R_slice HO_12.out; subst eo74; obtain ⟨Ao75, co75, eo75⟩ := Kd.R_slice HO_7.out; subst eo75) | (go_at_call 13; (with_reducible refine (laws_eqPartS.calls kj15 _ _ t260 _ _ t247 true _ ?side1 ?side2 ?side3 ?side4 A69.out).mono ?_); (case side1 => exact cC ((Kd.R_reads' HO_12.out).2.2)); (case side2 => exact (Kd.R_reads' HO_12.out).2.1); (case side3 => exact cC ((Kd.R_reads' HO_7.out).2.2)); (case side4 => exact (Kd.R_reads' HO_7.out).2.1); rintro e w76 ⟨rfl, hb⟩; have n0_ := aM (Kd.R_below (rR HO_6.out) hb); have n1_ := aM (Kd.R_below (rR HO_7.out) hb); have n2_ := aM (Kd.R_below (rR HO_9.out) hb); have n3_ := aM (Kd.R_below (rR HO_10.out) hb); have n4_ := aM (Kd.R_below (rR HO_11.out) hb); have n5_ := aM (Kd.R_below (rR HO_12.out) hb); have n6_ := aM (Kd.R_below (rR HO270.out) hb); have n7_ := aM (Kd.R_below (rR HO274.out) hb); have n8_ := aM (below_step bB hb); clear HO_6; clear HO_7; clear HO_9; clear HO_10; clear HO_11; clear HO_12; clear HO270; clear HO274; clear HB; have HO_6 := n0_; have HO_7 := n1_; have HO_9 := n2_; have HO_10 := n3_; have HO_11 := n4_; have HO_12 := n5_; have HO270 := n6_; have HO274 := n7_; have HB := n8_; clear n0_ n1_ n2_ n3_ n4_ n5_ n6_ n7_ n8_; (try clear hb); (try clear hb2); (try clear hk); (try clear hi)))
            go_meet
            case rel => exact ⟨_, ((t261 != t248)), (by first | rfl | (simp; done) | (simp [*]; done)), H', ⟨by have := HJ15.out; first | omega | exact Nat.le_refl _⟩, ⟨by (with_reducible repeat (first | apply Kd.R_alloc | apply Kd.R_drewN | apply Kd.R_drew)); exact Kd.R_mono HO_6.out (fun _ hk => ⟨hk.1, ⟨hk.2.2.2.1, hk.2.2.2.2.1⟩⟩)⟩, ⟨by (with_reducible repeat (first | apply Kd.R_alloc | apply Kd.R_drewN | apply Kd.R_drew)); exact Kd.R_mono HO_7.out (fun _ hk => ⟨hk.1, ⟨hk.2.2.2.1, hk.2.2.2.2.1⟩⟩)⟩, ⟨by (with_reducible repeat (first | apply Kd.R_alloc | apply Kd.R_drewN | apply Kd.R_drew)); exact Kd.R_mono HO_11.out (fun _ hk => ⟨hk.1, ⟨hk.2.1, hk.2.2.2.2.1⟩⟩)⟩, ⟨by (with_reducible repeat (first | apply Kd.R_alloc | apply Kd.R_drewN | apply Kd.R_drew)); exact Kd.R_mono HO_12.out (fun _ hk => ⟨hk.1, ⟨hk.2.1, hk.2.2.2.2.1⟩⟩)⟩, ⟨bB⟩⟩
           ·replace c70 := Bool.eq_false_iff.mpr c70
            subst c70
            have H1 : (lZ.j1 kj15 l0 l1 t246 t247 t248 t259 t260 true) = some r := by rw [if_neg (show ¬ (false = true) by decide)] at H; exact H
            clear H
            have H := H1
            clear H1
            have H' := aM H
            clear H
            obtain ⟨Ao77, co77, eo77⟩ := Kd.R_slice HO_11.out
            subst eo77
            obtain ⟨Ao78, co78, eo78⟩ := Kd.R_slice HO_6.out
            subst eo78
            go_wp2_with (first | (go_at_call 13; (with_reducible refine (laws_eqPartS.calls kj15 _ _ t259 _ _ t246 true _ ?side1 ?side2 ?side3 ?side4 A67.out).mono ?_); (case side1 => exact cC ((Kd.R_reads' HO_11.out).2.2)); (case side2 => exact (Kd.R_reads' HO_11.out).2.1); (case side3 => exact cC ((Kd.R_reads' HO_6.out).2.2)); (case side4 => exact (Kd.R_reads' HO_6.out).2.1); rintro e w79 ⟨rfl, hb⟩; have n0_ := aM (Kd.R_below (rR HO_6.out) hb); have n1_ := aM (Kd.R_below (rR HO_7.out) hb); have n2_ := aM (Kd.R_below (rR HO_9.out) hb); have n3_ := aM (Kd.R_below (rR HO_10.out) hb); have n4_ := aM (Kd.R_below (rR HO_11.out) hb); have n5_ := aM (Kd.R_below (rR HO_12.out) hb); have n6_ := aM (Kd.R_below (rR HO270.out) hb); have n7_ := aM (Kd.R_below (rR HO274.out) hb); have n8_ := aM (below_step bB hb); clear HO_6; clear HO_7; clear HO_9; clear HO_10; clear HO_11; clear HO_12; clear HO270; clear HO274; clear HB; have HO_6 := n0_; have HO_7 := n1_; have HO_9 := n2_; have HO_10 := n3_; have HO_11 := n4_; have HO_12 := n5_; have HO270 := n6_; have HO274 := n7_; have HB := n8_; clear n0_ n1_ n2_ n3_ n4_ n5_ n6_ n7_ n8_; (try clear hb); (try clear hb2); (try clear hk); (try clear hi); obtain ⟨Ao80, co80, eo80⟩ := Kd.R_slice HO_12.out; subst eo80; obtain ⟨Ao81, co81, eo81⟩ := Kd.R_slice HO_7.out; subst eo81) | (go_at_call 13; (with_reducible refine (laws_eqPartS.calls kj15 _ _ t260 _ _ t247 false _ ?side1 ?side2 ?side3 ?side4 A69.out).mono ?_); (case side1 => exact cC ((Kd.R_reads' HO_12.out).2.2)); (case side2 => exact (Kd.R_reads' HO_12.out).2.1); (case side3 => exact cC ((Kd.R_reads' HO_7.out).2.2)); (case side4 => exact (Kd.R_reads' HO_7.out).2.1); rintro e w82 ⟨rfl, hb⟩; have n0_ := aM (Kd.R_below (rR HO_6.out) hb); have n1_ := aM (Kd.R_below (rR HO_7.out) hb); have n2_ := aM (Kd.R_below (rR HO_9.out) hb); have n3_ := aM (Kd.R_below (rR HO_10.out) hb); have n4_ := aM (Kd.R_below (rR HO_11.out) hb); have n5_ := aM (Kd.R_below (rR HO_12.out) hb); have n6_ := aM (Kd.R_below (rR HO270.out) hb); have n7_ := aM (Kd.R_below (rR HO274.out) hb); have n8_ := aM (below_step bB hb); clear HO_6; clear HO_7; clear HO_9; clear HO_10; clear HO_11; clear HO_12; clear HO270; clear HO274; clear HB; have HO_6 := n0_; have HO_7 := n1_; have HO_9 := n2_; have HO_10 := n3_; have HO_11 := n4_; have HO_12 := n5_; have HO270 := n6_; have HO274 := n7_; have HB := n8_; clear n0_ n1_ n2_ n3_ n4_ n5_ n6_ n7_ n8_; (try clear hb); (try clear hb2); (try clear hk); (try clear hi)))
            go_meet
            case rel => exact ⟨_, (true), (by first | rfl | (simp; done) | (simp [*]; done)), H', ⟨by have := HJ15.out; first | omega | exact Nat.le_refl _⟩, ⟨by (with_reducible repeat (first | apply Kd.R_alloc | apply Kd.R_drewN | apply Kd.R_drew)); exact Kd.R_mono HO_6.out (fun _ hk => ⟨hk.1, ⟨hk.2.2.2.1, hk.2.2.2.2.1⟩⟩)⟩, ⟨by (with_reducible repeat (first | apply Kd.R_alloc | apply Kd.R_drewN | apply Kd.R_drew)); exact Kd.R_mono HO_7.out (fun _ hk => ⟨hk.1, ⟨hk.2.2.2.1, hk.2.2.2.2.1⟩⟩)⟩, ⟨by (with_reducible repeat (first | apply Kd.R_alloc | apply Kd.R_drewN | apply Kd.R_drew)); exact Kd.R_mono HO_11.out (fun _ hk => ⟨hk.1, ⟨hk.2.1, hk.2.2.2.2.1⟩⟩)⟩, ⟨by (with_reducible repeat (first | apply Kd.R_alloc | apply Kd.R_drewN | apply Kd.R_drew)); exact Kd.R_mono HO_12.out (fun _ hk => ⟨hk.1, ⟨hk.2.1, hk.2.2.2.2.1⟩⟩)⟩, ⟨bB⟩⟩
          ·replace c68 := Bool.eq_false_iff.mpr c68
           subst c68
           have H1 : (lZ.j1 kj15 l0 l1 t246 t247 t248 t259 t260 true) = some r := by rw [if_neg (show ¬ (false = true) by decide)] at H; exact H
           clear H
           have H := H1
           clear H1
           have H' := aM H
           clear H
           obtain ⟨Ao83, co83, eo83⟩ := Kd.R_slice HO_11.out
           subst eo83
           obtain ⟨Ao84, co84, eo84⟩ := Kd.R_slice HO_6.out
           subst eo84
           go_wp2_with (first | (go_at_call 13; (with_reducible refine (laws_eqPartS.calls kj15 _ _ t259 _ _ t246 false _ ?side1 ?side2 ?side3 ?side4 A67.out).mono ?_); (case side1 => exact cC ((Kd.R_reads' HO_11.out).2.2)); (case side2 => exact (Kd.R_reads' HO_11.out).2.1); (case side3 => exact cC ((Kd.R_reads' HO_6.out).2.2)); (case side4 => exact (Kd.R_reads' HO_6.out).2.1); rintro e w85 ⟨rfl, hb⟩; have n0_ := aM (Kd.R_below (rR HO_6.out) hb); have n1_ := aM (Kd.R_below (rR HO_7.out) hb); have n2_ := aM (Kd.R_below (rR HO_9.out) hb); have n3_ := aM (Kd.R_below (rR HO_10.out) hb); have n4_ := aM (Kd.R_below (rR HO_11.out) hb); have n5_ := aM (Kd.R_below (rR HO_12.out) hb); have n6_ := aM (Kd.R_below (rR HO270.out) hb); have n7_ := aM (Kd.R_below (rR HO274.out) hb); have n8_ := aM (below_step bB hb); clear HO_6; clear HO_7; clear HO_9; clear HO_10; clear HO_11; clear HO_12; clear HO270; clear HO274; clear HB; have HO_6 := n0_; have HO_7 := n1_; have HO_9 := n2_; have HO_10 := n3_; have HO_11 := n4_; have HO_12 := n5_; have HO270 := n6_; have HO274 := n7_; have HB := n8_; clear n0_ n1_ n2_ n3_ n4_ n5_ n6_ n7_ n8_; (try clear hb); (try clear hb2); (try clear hk); (try clear hi)))
           go_meet
           case rel => exact ⟨_, (true), (by first | rfl | (simp; done) | (simp [*]; done)), H', ⟨by have := HJ15.out; first | omega | exact Nat.le_refl _⟩, ⟨by (with_reducible repeat (first | apply Kd.R_alloc | apply Kd.R_drewN | apply Kd.R_drew)); exact Kd.R_mono HO_6.out (fun _ hk => ⟨hk.1, ⟨hk.2.2.2.1, hk.2.2.2.2.1⟩⟩)⟩, ⟨by (with_reducible repeat (first | apply Kd.R_alloc | apply Kd.R_drewN | apply Kd.R_drew)); exact Kd.R_mono HO_7.out (fun _ hk => ⟨hk.1, ⟨hk.2.2.2.1, hk.2.2.2.2.1⟩⟩)⟩, ⟨by (with_reducible repeat (first | apply Kd.R_alloc | apply Kd.R_drewN | apply Kd.R_drew)); exact Kd.R_mono HO_11.out (fun _ hk => ⟨hk.1, ⟨hk.2.1, hk.2.2.2.2.1⟩⟩)⟩, ⟨by (with_reducible repeat (first | apply Kd.R_alloc | apply Kd.R_drewN | apply Kd.R_drew)); exact Kd.R_mono HO_12.out (fun _ hk => ⟨hk.1, ⟨hk.2.1, hk.2.2.2.2.1⟩⟩)⟩, ⟨bB⟩⟩
        case rest =>
         clear HC57
         try clear c1
         try clear p2
         try clear c3
         try clear c4
         try clear c4b0
         try clear c5
         try clear c6
         try clear c7
         try clear c7b0
         try clear c9
         try clear c11
         try clear c13
         try clear c16
         try clear c17
         try clear c18
         try clear c30
         try clear c32
         try clear c48
         try clear c51
         try clear c54
         try clear c66
         try clear c66b0
         try clear c68
         try clear c70
         try clear p2
         obtain ⟨kq, x99_56, rfl, HA, HJ56, HO_6, HO_7, HO_11, HO_12, HB⟩ := hcut
         cases kq with
         | zero => exact absurd HA.out (by simp [lZ.j1])
         | succ kj56 =>
          have H := HA.out
          clear HA
          simp only [lZ.j1] at H
          by_cases c86 : x99_56 = true
          ·subst c86
           have H1 : (some false) = some r := by rw [if_pos rfl] at H; exact H
           clear H
           have H := H1
           clear H1
           obtain rfl := Option.some.inj H
           go_wp2
           go_ret
           exact ⟨by first | rfl | (simp [errW_none, errW_some] <;> rfl) | (simp [errW_none, errW_some]; exact isE _) | (simp [*, errW_none, errW_some] <;> rfl), bB⟩
          ·replace c86 := Bool.eq_false_iff.mpr c86
           subst c86
           have H1 : ((laws_markPartS.f kj56 t259 1).bind fun bt282 => ((laws_markPartS.f kj56 t260 bt282.1).bind fun bt284 => ((laws_heldPartS.f kj56 bt282.2 1).bind fun t286 => (if t286 < 0 then (some false) else ((laws_heldPartS.f kj56 bt284.2 t286).bind fun t287 => (if t287 < 0 then (some false) else (if t287 = bt284.1 then ((laws_toPartS.f kj56 l0).bind fun t288 => ((laws_toPartS.f kj56 l1).bind fun t291 => ((impl_TransformOps.f kj56 t288 t291).bind fun bt294 => ((laws_eqPartS.f kj56 bt294.1 t246).bind fun t301 => (if t301 = true then ((laws_eqPartS.f kj56 bt294.2.1 t247).bind fun t302 => (if t302 = true then (lZ.j2 kj56 bt282.2 bt284.2 bt284.1 (bt294.2.2 != t248)) else (lZ.j2 kj56 bt282.2 bt284.2 bt284.1 true))) else (lZ.j2 kj56 bt282.2 bt284.2 bt284.1 true)))))) else (some false)))))))) = some r := by rw [if_neg (show ¬ (false = true) by decide)] at H; exact H
           clear H
           have H := H1
           clear H1
           replace H := Option.bind_eq_some_iff.mp H
           obtain ⟨⟨t282, t283⟩, A870, H⟩ := H
           replace H : ((laws_markPartS.f kj56 t260 t282).bind fun bt284 => ((laws_heldPartS.f kj56 t283 1).bind fun t286 => (if t286 < 0 then (some false) else ((laws_heldPartS.f kj56 bt284.2 t286).bind fun t287 => (if t287 < 0 then (some false) else (if t287 = bt284.1 then ((laws_toPartS.f kj56 l0).bind fun t288 => ((laws_toPartS.f kj56 l1).bind fun t291 => ((impl_TransformOps.f kj56 t288 t291).bind fun bt294 => ((laws_eqPartS.f kj56 bt294.1 t246).bind fun t301 => (if t301 = true then ((laws_eqPartS.f kj56 bt294.2.1 t247).bind fun t302 => (if t302 = true then (lZ.j2 kj56 t283 bt284.2 bt284.1 (bt294.2.2 != t248)) else (lZ.j2 kj56 t283 bt284.2 bt284.1 true))) else (lZ.j2 kj56 t283 bt284.2 bt284.1 true)))))) else (some false))))))) = some r := H
           have A87 := aM A870
           clear A870
           replace H := Option.bind_eq_some_iff.mp H
           obtain ⟨⟨t284, t285⟩, A880, H⟩ := H
           replace H : ((laws_heldPartS.f kj56 t283 1).bind fun t286 => (if t286 < 0 then (some false) else ((laws_heldPartS.f kj56 t285 t286).bind fun t287 => (if t287 < 0 then (some false) else (if t287 = t284 then ((laws_toPartS.f kj56 l0).bind fun t288 => ((laws_toPartS.f kj56 l1).bind fun t291 => ((impl_TransformOps.f kj56 t288 t291).bind fun bt294 => ((laws_eqPartS.f kj56 bt294.1 t246).bind fun t301 => (if t301 = true then ((laws_eqPartS.f kj56 bt294.2.1 t247).bind fun t302 => (if t302 = true then (lZ.j2 kj56 t283 t285 t284 (bt294.2.2 != t248)) else (lZ.j2 kj56 t283 t285 t284 true))) else (lZ.j2 kj56 t283 t285 t284 true)))))) else (some false)))))) = some r := H
           have A88 := aM A880
           clear A880
           replace H := Option.bind_eq_some_iff.mp H
           obtain ⟨t286, A890, H⟩ := H
           replace H : (if t286 < 0 then (some false) else ((laws_heldPartS.f kj56 t285 t286).bind fun t287 => (if t287 < 0 then (some false) else (if t287 = t284 then ((laws_toPartS.f kj56 l0).bind fun t288 => ((laws_toPartS.f kj56 l1).bind fun t291 => ((impl_TransformOps.f kj56 t288 t291).bind fun bt294 => ((laws_eqPartS.f kj56 bt294.1 t246).bind fun t301 => (if t301 = true then ((laws_eqPartS.f kj56 bt294.2.1 t247).bind fun t302 => (if t302 = true then (lZ.j2 kj56 t283 t285 t284 (bt294.2.2 != t248)) else (lZ.j2 kj56 t283 t285 t284 true))) else (lZ.j2 kj56 t283 t285 t284 true)))))) else (some false))))) = some r := H
           have A89 := aM A890
           clear A890
           by_cases c90 : t286 < 0
           ·rw [if_pos c90] at H
            have c90b0 : decide (t286 < 0) = true := decide_eq_true c90
            clear c90
            obtain rfl := Option.some.inj H
            obtain ⟨Ao91, co91, eo91⟩ := Kd.R_slice HO_11.out
            subst eo91
            go_wp2_with (first | ((with_reducible refine gate_callee (f := 18) rfl ?_); refine goesL_ (some 102) rfl rfl Try.func18 (by kernel_rfl) rfl #[.slice Ao91 t259.length co91, .int .i64 1] rfl mM ?_; (with_reducible refine (laws_markPartS.calls kj56 (fun k_ => some k_ = (.slice Ao91 t259.length co91 : Value).ownBlock) (.slice Ao91 t259.length co91) t259 1 t282 t283 w _ ?side1 ?side2 A87.out).mono ?_); (case side1 => exact bB); (case side2 => exact Kd.R_tight rfl HO_11.out); rintro e w92 ⟨rfl, hy0, hb, hkp⟩; refine ⟨_, rfl, ?_⟩; have n0_ := aM (Kd.R_mono (ok' := fun k_ => some k_ ≠ (v251 : Value).ownBlock ∧ some k_ ≠ (.slice Ao91 t259.length co91 : Value).ownBlock ∧ some k_ ≠ (v264 : Value).ownBlock) (Kd.R_keptB (HO_6.out) hkp (fun k_ hk_ hs_ => (hk_.2.1) hs_)) (fun k_ hk_ => ⟨hk_.1.1, hk_.1.2.1, hk_.1.2.2⟩)); have n1_ := aM (Kd.R_mono (ok' := fun k_ => some k_ ≠ (v249 : Value).ownBlock ∧ some k_ ≠ (.slice Ao91 t259.length co91 : Value).ownBlock ∧ some k_ ≠ (v264 : Value).ownBlock) (Kd.R_keptB (HO_7.out) hkp (fun k_ hk_ hs_ => (hk_.2.1) hs_)) (fun k_ hk_ => ⟨hk_.1.1, hk_.1.2.1, hk_.1.2.2⟩)); have n2_ := aM (Kd.R_reok rfl hy0 (fun k_ e_ => HO_11.out.1 k_ e_)); have n3_ := aM (Kd.R_mono (ok' := fun k_ => some k_ ≠ (v249 : Value).ownBlock ∧ some k_ ≠ (v251 : Value).ownBlock ∧ some k_ ≠ (.slice Ao91 t259.length co91 : Value).ownBlock) (Kd.R_keptB (HO_12.out) hkp (fun k_ hk_ hs_ => (hk_.2.2) hs_)) (fun k_ hk_ => ⟨hk_.1.1, hk_.1.2.1, hk_.1.2.2⟩)); have n4_ := aM (hb); clear HO_6; clear HO_7; clear HO_11; clear HO_12; clear HB; have HO_6 := n0_; have HO_7 := n1_; have HO_11 := n2_; have HO_12 := n3_; have HB := n4_; clear n0_ n1_ n2_ n3_ n4_; (try clear hb); (try clear hkp); (try clear hy0); obtain ⟨Ao93, co93, eo93⟩ := Kd.R_slice HO_12.out; subst eo93) | ((with_reducible refine gate_callee (f := 18) rfl ?_); refine goesL_ (some 105) rfl rfl Try.func18 (by kernel_rfl) rfl #[.slice Ao93 t260.length co93, .int .i64 t282] rfl mM ?_; (with_reducible refine (laws_markPartS.calls kj56 (fun k_ => some k_ = (.slice Ao93 t260.length co93 : Value).ownBlock) (.slice Ao93 t260.length co93) t260 t282 t284 t285 w _ ?side1 ?side2 A88.out).mono ?_); (case side1 => exact bB); (case side2 => exact Kd.R_tight rfl HO_12.out); rintro e w94 ⟨rfl, hy0, hb, hkp⟩; refine ⟨_, rfl, ?_⟩; have n0_ := aM (Kd.R_mono (ok' := fun k_ => some k_ ≠ (v251 : Value).ownBlock ∧ some k_ ≠ (.slice Ao91 t259.length co91 : Value).ownBlock ∧ some k_ ≠ (.slice Ao93 t260.length co93 : Value).ownBlock) (Kd.R_keptB (HO_6.out) hkp (fun k_ hk_ hs_ => (hk_.2.2) hs_)) (fun k_ hk_ => ⟨hk_.1.1, hk_.1.2.1, hk_.1.2.2⟩)); have n1_ := aM (Kd.R_mono (ok' := fun k_ => some k_ ≠ (v249 : Value).ownBlock ∧ some k_ ≠ (.slice Ao91 t259.length co91 : Value).ownBlock ∧ some k_ ≠ (.slice Ao93 t260.length co93 : Value).ownBlock) (Kd.R_keptB (HO_7.out) hkp (fun k_ hk_ hs_ => (hk_.2.2) hs_)) (fun k_ hk_ => ⟨hk_.1.1, hk_.1.2.1, hk_.1.2.2⟩)); have n2_ := aM (Kd.R_mono (ok' := fun k_ => some k_ ≠ (v249 : Value).ownBlock ∧ some k_ ≠ (v251 : Value).ownBlock ∧ some k_ ≠ (.slice Ao93 t260.length co93 : Value).ownBlock) (Kd.R_keptB (HO_11.out) hkp (fun k_ hk_ hs_ => (hk_.2.2) hs_)) (fun k_ hk_ => ⟨hk_.1.1, hk_.1.2.1, hk_.1.2.2⟩)); have n3_ := aM (Kd.R_reok rfl hy0 (fun k_ e_ => HO_12.out.1 k_ e_)); have n4_ := aM (hb); clear HO_6; clear HO_7; clear HO_11; clear HO_12; clear HB; have HO_6 := n0_; have HO_7 := n1_; have HO_11 := n2_; have HO_12 := n3_; have HB := n4_; clear n0_ n1_ n2_ n3_ n4_; (try clear hb); (try clear hkp); (try clear hy0)) | ((with_reducible refine gate_callee (f := 19) rfl ?_); refine goesL_ (some 108) rfl rfl Try.func19 (by kernel_rfl) rfl #[.slice Ao91 t283.length co91, .int .i64 1] rfl (by (try simp only [List.map_toArray, List.map_cons, List.map_nil]); first | done | (rw [show t283.length = t259.length from (Kd.R_reads' HO_11.out).1.symm] <;> rfl) | rfl | (simp only [List.length_drop, List.length_take]; rfl)) ?_; (with_reducible refine (laws_heldPartS.calls kj56 _ _ t283 1 t286 _ ?side1 ?side2 A89.out).mono ?_); (case side1 => exact cC ((Kd.R_reads' HO_11.out).2.2)); (case side2 => rw [show t283.length = t259.length from (Kd.R_reads' HO_11.out).1.symm]; exact (Kd.R_reads' HO_11.out).2.1); rintro e w95 ⟨rfl, hb⟩; refine ⟨_, rfl, ?_⟩; have n0_ := aM (Kd.R_below (rR HO_6.out) hb); have n1_ := aM (Kd.R_below (rR HO_7.out) hb); have n2_ := aM (Kd.R_below (rR HO_11.out) hb); have n3_ := aM (Kd.R_below (rR HO_12.out) hb); have n4_ := aM (below_step bB hb); clear HO_6; clear HO_7; clear HO_11; clear HO_12; clear HB; have HO_6 := n0_; have HO_7 := n1_; have HO_11 := n2_; have HO_12 := n3_; have HB := n4_; clear n0_ n1_ n2_ n3_ n4_; (try clear hb); (try clear hb2); (try clear hk); (try clear hi)))
            go_ret
            exact ⟨by first | rfl | (simp [errW_none, errW_some] <;> rfl) | (simp [errW_none, errW_some]; exact isE _) | (simp [*, errW_none, errW_some] <;> rfl), bB⟩
           ·rw [if_neg c90] at H
            have c90b0 : decide (t286 < 0) = false := decide_eq_false c90
            clear c90
            replace H := Option.bind_eq_some_iff.mp H
            obtain ⟨t287, A960, H⟩ := H
            replace H : (if t287 < 0 then (some false) else (if t287 = t284 then ((laws_toPartS.f kj56 l0).bind fun t288 => ((laws_toPartS.f kj56 l1).bind fun t291 => ((impl_TransformOps.f kj56 t288 t291).bind fun bt294 => ((laws_eqPartS.f kj56 bt294.1 t246).bind fun t301 => (if t301 = true then ((laws_eqPartS.f kj56 bt294.2.1 t247).bind fun t302 => (if t302 = true then (lZ.j2 kj56 t283 t285 t284 (bt294.2.2 != t248)) else (lZ.j2 kj56 t283 t285 t284 true))) else (lZ.j2 kj56 t283 t285 t284 true)))))) else (some false))) = some r := H
            have A96 := aM A960
            clear A960
            by_cases c97 : t287 < 0
            ·rw [if_pos c97] at H
             have c97b0 : decide (t287 < 0) = true := decide_eq_true c97
             clear c97
             obtain rfl := Option.some.inj H
             obtain ⟨Ao98, co98, eo98⟩ := Kd.R_slice HO_11.out
             subst eo98
             go_wp2_with (first | ((with_reducible refine gate_callee (f := 18) rfl ?_); refine goesL_ (some 102) rfl rfl Try.func18 (by kernel_rfl) rfl #[.slice Ao98 t259.length co98, .int .i64 1] rfl mM ?_; (with_reducible refine (laws_markPartS.calls kj56 (fun k_ => some k_ = (.slice Ao98 t259.length co98 : Value).ownBlock) (.slice Ao98 t259.length co98) t259 1 t282 t283 w _ ?side1 ?side2 A87.out).mono ?_); (case side1 => exact bB); (case side2 => exact Kd.R_tight rfl HO_11.out); rintro e w99 ⟨rfl, hy0, hb, hkp⟩; refine ⟨_, rfl, ?_⟩; have n0_ := aM (Kd.R_mono (ok' := fun k_ => some k_ ≠ (v251 : Value).ownBlock ∧ some k_ ≠ (.slice Ao98 t259.length co98 : Value).ownBlock ∧ some k_ ≠ (v264 : Value).ownBlock) (Kd.R_keptB (HO_6.out) hkp (fun k_ hk_ hs_ => (hk_.2.1) hs_)) (fun k_ hk_ => ⟨hk_.1.1, hk_.1.2.1, hk_.1.2.2⟩)); have n1_ := aM (Kd.R_mono (ok' := fun k_ => some k_ ≠ (v249 : Value).ownBlock ∧ some k_ ≠ (.slice Ao98 t259.length co98 : Value).ownBlock ∧ some k_ ≠ (v264 : Value).ownBlock) (Kd.R_keptB (HO_7.out) hkp (fun k_ hk_ hs_ => (hk_.2.1) hs_)) (fun k_ hk_ => ⟨hk_.1.1, hk_.1.2.1, hk_.1.2.2⟩)); have n2_ := aM (Kd.R_reok rfl hy0 (fun k_ e_ => HO_11.out.1 k_ e_)); have n3_ := aM (Kd.R_mono (ok' := fun k_ => some k_ ≠ (v249 : Value).ownBlock ∧ some k_ ≠ (v251 : Value).ownBlock ∧ some k_ ≠ (.slice Ao98 t259.length co98 : Value).ownBlock) (Kd.R_keptB (HO_12.out) hkp (fun k_ hk_ hs_ => (hk_.2.2) hs_)) (fun k_ hk_ => ⟨hk_.1.1, hk_.1.2.1, hk_.1.2.2⟩)); have n4_ := aM (hb); clear HO_6; clear HO_7; clear HO_11; clear HO_12; clear HB; have HO_6 := n0_; have HO_7 := n1_; have HO_11 := n2_; have HO_12 := n3_; have HB := n4_; clear n0_ n1_ n2_ n3_ n4_; (try clear hb); (try clear hkp); (try clear hy0); obtain ⟨Ao100, co100, eo100⟩ := Kd.R_slice HO_12.out; subst eo100) | ((with_reducible refine gate_callee (f := 18) rfl ?_); refine goesL_ (some 105) rfl rfl Try.func18 (by kernel_rfl) rfl #[.slice Ao100 t260.length co100, .int .i64 t282] rfl mM ?_; (with_reducible refine (laws_markPartS.calls kj56 (fun k_ => some k_ = (.slice Ao100 t260.length co100 : Value).ownBlock) (.slice Ao100 t260.length co100) t260 t282 t284 t285 w _ ?side1 ?side2 A88.out).mono ?_); (case side1 => exact bB); (case side2 => exact Kd.R_tight rfl HO_12.out); rintro e w101 ⟨rfl, hy0, hb, hkp⟩; refine ⟨_, rfl, ?_⟩; have n0_ := aM (Kd.R_mono (ok' := fun k_ => some k_ ≠ (v251 : Value).ownBlock ∧ some k_ ≠ (.slice Ao98 t259.length co98 : Value).ownBlock ∧ some k_ ≠ (.slice Ao100 t260.length co100 : Value).ownBlock) (Kd.R_keptB (HO_6.out) hkp (fun k_ hk_ hs_ => (hk_.2.2) hs_)) (fun k_ hk_ => ⟨hk_.1.1, hk_.1.2.1, hk_.1.2.2⟩)); have n1_ := aM (Kd.R_mono (ok' := fun k_ => some k_ ≠ (v249 : Value).ownBlock ∧ some k_ ≠ (.slice Ao98 t259.length co98 : Value).ownBlock ∧ some k_ ≠ (.slice Ao100 t260.length co100 : Value).ownBlock) (Kd.R_keptB (HO_7.out) hkp (fun k_ hk_ hs_ => (hk_.2.2) hs_)) (fun k_ hk_ => ⟨hk_.1.1, hk_.1.2.1, hk_.1.2.2⟩)); have n2_ := aM (Kd.R_mono (ok' := fun k_ => some k_ ≠ (v249 : Value).ownBlock ∧ some k_ ≠ (v251 : Value).ownBlock ∧ some k_ ≠ (.slice Ao100 t260.length co100 : Value).ownBlock) (Kd.R_keptB (HO_11.out) hkp (fun k_ hk_ hs_ => (hk_.2.2) hs_)) (fun k_ hk_ => ⟨hk_.1.1, hk_.1.2.1, hk_.1.2.2⟩)); have n3_ := aM (Kd.R_reok rfl hy0 (fun k_ e_ => HO_12.out.1 k_ e_)); have n4_ := aM (hb); clear HO_6; clear HO_7; clear HO_11; clear HO_12; clear HB; have HO_6 := n0_; have HO_7 := n1_; have HO_11 := n2_; have HO_12 := n3_; have HB := n4_; clear n0_ n1_ n2_ n3_ n4_; (try clear hb); (try clear hkp); (try clear hy0)) | ((with_reducible refine gate_callee (f := 19) rfl ?_); refine goesL_ (some 108) rfl rfl Try.func19 (by kernel_rfl) rfl #[.slice Ao98 t283.length co98, .int .i64 1] rfl (by (try simp only [List.map_toArray, List.map_cons, List.map_nil]); first | done | (rw [show t283.length = t259.length from (Kd.R_reads' HO_11.out).1.symm] <;> rfl) | rfl | (simp only [List.length_drop, List.length_take]; rfl)) ?_; (with_reducible refine (laws_heldPartS.calls kj56 _ _ t283 1 t286 _ ?side1 ?side2 A89.out).mono ?_); (case side1 => exact cC ((Kd.R_reads' HO_11.out).2.2)); (case side2 => rw [show t283.length = t259.length from (Kd.R_reads' HO_11.out).1.symm]; exact (Kd.R_reads' HO_11.out).2.1); rintro e w102 ⟨rfl, hb⟩; refine ⟨_, rfl, ?_⟩; have n0_ := aM (Kd.R_below (rR HO_6.out) hb); have n1_ := aM (Kd.R_below (rR HO_7.out) hb); have n2_ := aM (Kd.R_below (rR HO_11.out) hb); have n3_ := aM (Kd.R_below (rR HO_12.out) hb); have n4_ := aM (below_step bB hb); clear HO_6; clear HO_7; clear HO_11; clear HO_12; clear HB; have HO_6 := n0_; have HO_7 := n1_; have HO_11 := n2_; have HO_12 := n3_; have HB := n4_; clear n0_ n1_ n2_ n3_ n4_; (try clear hb); (try clear hb2); (try clear hk); (try clear hi)) | ((with_reducible refine gate_callee (f := 19) rfl ?_); refine goesL_ (some 113) rfl rfl Try.func19 (by kernel_rfl) rfl #[.slice Ao100 t285.length co100, .int .i64 t286] rfl (by (try simp only [List.map_toArray, List.map_cons, List.map_nil]); first | done | (rw [show t285.length = t260.length from (Kd.R_reads' HO_12.out).1.symm] <;> rfl) | rfl | (simp only [List.length_drop, List.length_take]; rfl)) ?_; (with_reducible refine (laws_heldPartS.calls kj56 _ _ t285 t286 t287 _ ?side1 ?side2 A96.out).mono ?_); (case side1 => exact cC ((Kd.R_reads' HO_12.out).2.2)); (case side2 => rw [show t285.length = t260.length from (Kd.R_reads' HO_12.out).1.symm]; exact (Kd.R_reads' HO_12.out).2.1); rintro e w103 ⟨rfl, hb⟩; refine ⟨_, rfl, ?_⟩; have n0_ := aM (Kd.R_below (rR HO_6.out) hb); have n1_ := aM (Kd.R_below (rR HO_7.out) hb); have n2_ := aM (Kd.R_below (rR HO_11.out) hb); have n3_ := aM (Kd.R_below (rR HO_12.out) hb); have n4_ := aM (below_step bB hb); clear HO_6; clear HO_7; clear HO_11; clear HO_12; clear HB; have HO_6 := n0_; have HO_7 := n1_; have HO_11 := n2_; have HO_12 := n3_; have HB := n4_; clear n0_ n1_ n2_ n3_ n4_; (try clear hb); (try clear hb2); (try clear hk); (try clear hi)))
             go_ret
             exact ⟨by first | rfl | (simp [errW_none, errW_some] <;> rfl) | (simp [errW_none, errW_some]; exact isE _) | (simp [*, errW_none, errW_some] <;> rfl), bB⟩
            ·rw [if_neg c97] at H
             have c97b0 : decide (t287 < 0) = false := decide_eq_false c97
             clear c97
             by_cases c104 : t287 = t284
             ·rw [if_pos c104] at H
              have c104b0 : (t287 == t284) = true := beq_iff_eq.mpr c104
              have c104b1 : (t287 != t284) = false := bne_eq_false_iff_eq.mpr c104
              clear c104
              replace H := Option.bind_eq_some_iff.mp H
              obtain ⟨t288, A1050, H⟩ := H
              replace H : ((laws_toPartS.f kj56 l1).bind fun t291 => ((impl_TransformOps.f kj56 t288 t291).bind fun bt294 => ((laws_eqPartS.f kj56 bt294.1 t246).bind fun t301 => (if t301 = true then ((laws_eqPartS.f kj56 bt294.2.1 t247).bind fun t302 => (if t302 = true then (lZ.j2 kj56 t283 t285 t284 (bt294.2.2 != t248)) else (lZ.j2 kj56 t283 t285 t284 true))) else (lZ.j2 kj56 t283 t285 t284 true))))) = some r := H
              have A105 := aM A1050
              clear A1050
              replace H := Option.bind_eq_some_iff.mp H
              obtain ⟨t291, A1060, H⟩ := H
              replace H : ((impl_TransformOps.f kj56 t288 t291).bind fun bt294 => ((laws_eqPartS.f kj56 bt294.1 t246).bind fun t301 => (if t301 = true then ((laws_eqPartS.f kj56 bt294.2.1 t247).bind fun t302 => (if t302 = true then (lZ.j2 kj56 t283 t285 t284 (bt294.2.2 != t248)) else (lZ.j2 kj56 t283 t285 t284 true))) else (lZ.j2 kj56 t283 t285 t284 true)))) = some r := H
              have A106 := aM A1060
              clear A1060
              replace H := Option.bind_eq_some_iff.mp H
              obtain ⟨⟨t294, t295, t296⟩, A1070, H⟩ := H
              replace H : ((laws_eqPartS.f kj56 t294 t246).bind fun t301 => (if t301 = true then ((laws_eqPartS.f kj56 t295 t247).bind fun t302 => (if t302 = true then (lZ.j2 kj56 t283 t285 t284 (t296 != t248)) else (lZ.j2 kj56 t283 t285 t284 true))) else (lZ.j2 kj56 t283 t285 t284 true))) = some r := H
              have A107 := aM A1070
              clear A1070
              have HC108 := aM H
              clear H
              obtain ⟨Ao109, co109, eo109⟩ := Kd.R_slice HO_11.out
              subst eo109
              go_upto_region 36 with (first | ((with_reducible refine gate_callee (f := 18) rfl ?_); refine goesL_ (some 102) rfl rfl Try.func18 (by kernel_rfl) rfl #[.slice Ao109 t259.length co109, .int .i64 1] rfl mM ?_; (with_reducible refine (laws_markPartS.calls kj56 (fun k_ => some k_ = (.slice Ao109 t259.length co109 : Value).ownBlock) (.slice Ao109 t259.length co109) t259 1 t282 t283 w _ ?side1 ?side2 A87.out).mono ?_); (case side1 => exact bB); (case side2 => exact Kd.R_tight rfl HO_11.out); rintro e w110 ⟨rfl, hy0, hb, hkp⟩; refine ⟨_, rfl, ?_⟩; have n0_ := aM (Kd.R_mono (ok' := fun k_ => some k_ ≠ (v251 : Value).ownBlock ∧ some k_ ≠ (.slice Ao109 t259.length co109 : Value).ownBlock ∧ some k_ ≠ (v264 : Value).ownBlock) (Kd.R_keptB (HO_6.out) hkp (fun k_ hk_ hs_ => (hk_.2.1) hs_)) (fun k_ hk_ => ⟨hk_.1.1, hk_.1.2.1, hk_.1.2.2⟩)); have n1_ := aM (Kd.R_mono (ok' := fun k_ => some k_ ≠ (v249 : Value).ownBlock ∧ some k_ ≠ (.slice Ao109 t259.length co109 : Value).ownBlock ∧ some k_ ≠ (v264 : Value).ownBlock) (Kd.R_keptB (HO_7.out) hkp (fun k_ hk_ hs_ => (hk_.2.1) hs_)) (fun k_ hk_ => ⟨hk_.1.1, hk_.1.2.1, hk_.1.2.2⟩)); have n2_ := aM (Kd.R_reok rfl hy0 (fun k_ e_ => HO_11.out.1 k_ e_)); have n3_ := aM (Kd.R_mono (ok' := fun k_ => some k_ ≠ (v249 : Value).ownBlock ∧ some k_ ≠ (v251 : Value).ownBlock ∧ some k_ ≠ (.slice Ao109 t259.length co109 : Value).ownBlock) (Kd.R_keptB (HO_12.out) hkp (fun k_ hk_ hs_ => (hk_.2.2) hs_)) (fun k_ hk_ => ⟨hk_.1.1, hk_.1.2.1, hk_.1.2.2⟩)); have n4_ := aM (hb); clear HO_6; clear HO_7; clear HO_11; clear HO_12; clear HB; have HO_6 := n0_; have HO_7 := n1_; have HO_11 := n2_; have HO_12 := n3_; have HB := n4_; clear n0_ n1_ n2_ n3_ n4_; (try clear hb); (try clear hkp); (try clear hy0); obtain ⟨Ao111, co111, eo111⟩ := Kd.R_slice HO_12.out; subst eo111) | ((with_reducible refine gate_callee (f := 18) rfl ?_); refine goesL_ (some 105) rfl rfl Try.func18 (by kernel_rfl) rfl #[.slice Ao111 t260.length co111, .int .i64 t282] rfl mM ?_; (with_reducible refine (laws_markPartS.calls kj56 (fun k_ => some k_ = (.slice Ao111 t260.length co111 : Value).ownBlock) (.slice Ao111 t260.length co111) t260 t282 t284 t285 w _ ?side1 ?side2 A88.out).mono ?_); (case side1 => exact bB); (case side2 => exact Kd.R_tight rfl HO_12.out); rintro e w112 ⟨rfl, hy0, hb, hkp⟩; refine ⟨_, rfl, ?_⟩; have n0_ := aM (Kd.R_mono (ok' := fun k_ => some k_ ≠ (v251 : Value).ownBlock ∧ some k_ ≠ (.slice Ao109 t259.length co109 : Value).ownBlock ∧ some k_ ≠ (.slice Ao111 t260.length co111 : Value).ownBlock) (Kd.R_keptB (HO_6.out) hkp (fun k_ hk_ hs_ => (hk_.2.2) hs_)) (fun k_ hk_ => ⟨hk_.1.1, hk_.1.2.1, hk_.1.2.2⟩)); have n1_ := aM (Kd.R_mono (ok' := fun k_ => some k_ ≠ (v249 : Value).ownBlock ∧ some k_ ≠ (.slice Ao109 t259.length co109 : Value).ownBlock ∧ some k_ ≠ (.slice Ao111 t260.length co111 : Value).ownBlock) (Kd.R_keptB (HO_7.out) hkp (fun k_ hk_ hs_ => (hk_.2.2) hs_)) (fun k_ hk_ => ⟨hk_.1.1, hk_.1.2.1, hk_.1.2.2⟩)); have n2_ := aM (Kd.R_mono (ok' := fun k_ => some k_ ≠ (v249 : Value).ownBlock ∧ some k_ ≠ (v251 : Value).ownBlock ∧ some k_ ≠ (.slice Ao111 t260.length co111 : Value).ownBlock) (Kd.R_keptB (HO_11.out) hkp (fun k_ hk_ hs_ => (hk_.2.2) hs_)) (fun k_ hk_ => ⟨hk_.1.1, hk_.1.2.1, hk_.1.2.2⟩)); have n3_ := aM (Kd.R_reok rfl hy0 (fun k_ e_ => HO_12.out.1 k_ e_)); have n4_ := aM (hb); clear HO_6; clear HO_7; clear HO_11; clear HO_12; clear HB; have HO_6 := n0_; have HO_7 := n1_; have HO_11 := n2_; have HO_12 := n3_; have HB := n4_; clear n0_ n1_ n2_ n3_ n4_; (try clear hb); (try clear hkp); (try clear hy0)) | ((with_reducible refine gate_callee (f := 19) rfl ?_); refine goesL_ (some 108) rfl rfl Try.func19 (by kernel_rfl) rfl #[.slice Ao109 t283.length co109, .int .i64 1] rfl (by (try simp only [List.map_toArray, List.map_cons, List.map_nil]); first | done | (rw [show t283.length = t259.length from (Kd.R_reads' HO_11.out).1.symm] <;> rfl) | rfl | (simp only [List.length_drop, List.length_take]; rfl)) ?_; (with_reducible refine (laws_heldPartS.calls kj56 _ _ t283 1 t286 _ ?side1 ?side2 A89.out).mono ?_); (case side1 => exact cC ((Kd.R_reads' HO_11.out).2.2)); (case side2 => rw [show t283.length = t259.length from (Kd.R_reads' HO_11.out).1.symm]; exact (Kd.R_reads' HO_11.out).2.1); rintro e w113 ⟨rfl, hb⟩; refine ⟨_, rfl, ?_⟩; have n0_ := aM (Kd.R_below (rR HO_6.out) hb); have n1_ := aM (Kd.R_below (rR HO_7.out) hb); have n2_ := aM (Kd.R_below (rR HO_11.out) hb); have n3_ := aM (Kd.R_below (rR HO_12.out) hb); have n4_ := aM (below_step bB hb); clear HO_6; clear HO_7; clear HO_11; clear HO_12; clear HB; have HO_6 := n0_; have HO_7 := n1_; have HO_11 := n2_; have HO_12 := n3_; have HB := n4_; clear n0_ n1_ n2_ n3_ n4_; (try clear hb); (try clear hb2); (try clear hk); (try clear hi)) | ((with_reducible refine gate_callee (f := 19) rfl ?_); refine goesL_ (some 113) rfl rfl Try.func19 (by kernel_rfl) rfl #[.slice Ao111 t285.length co111, .int .i64 t286] rfl (by (try simp only [List.map_toArray, List.map_cons, List.map_nil]); first | done | (rw [show t285.length = t260.length from (Kd.R_reads' HO_12.out).1.symm] <;> rfl) | rfl | (simp only [List.length_drop, List.length_take]; rfl)) ?_; (with_reducible refine (laws_heldPartS.calls kj56 _ _ t285 t286 t287 _ ?side1 ?side2 A96.out).mono ?_); (case side1 => exact cC ((Kd.R_reads' HO_12.out).2.2)); (case side2 => rw [show t285.length = t260.length from (Kd.R_reads' HO_12.out).1.symm]; exact (Kd.R_reads' HO_12.out).2.1); rintro e w114 ⟨rfl, hb⟩; refine ⟨_, rfl, ?_⟩; have n0_ := aM (Kd.R_below (rR HO_6.out) hb); have n1_ := aM (Kd.R_below (rR HO_7.out) hb); have n2_ := aM (Kd.R_below (rR HO_11.out) hb); have n3_ := aM (Kd.R_below (rR HO_12.out) hb); have n4_ := aM (below_step bB hb); clear HO_6; clear HO_7; clear HO_11; clear HO_12; clear HB; have HO_6 := n0_; have HO_7 := n1_; have HO_11 := n2_; have HO_12 := n3_; have HB := n4_; clear n0_ n1_ n2_ n3_ n4_; (try clear hb); (try clear hb2); (try clear hk); (try clear hi)) | ((with_reducible refine gate_callee (f := 11) rfl ?_); refine goesL_ (some 121) rfl rfl Try.func11 (by kernel_rfl) rfl #[.slice A0 l0.length c0] rfl mM ?_; (with_reducible refine (laws_toPartS.calls kj56 _ _ l0 t288 _ ?side1 ?side2 A105.out).mono ?_); (case side1 => exact cC (Kd.C_below HR0.out HB.out)); (case side2 => exact HC0.out); rintro e w115 ⟨v289, rfl, ho0, hb⟩; refine ⟨_, rfl, ?_⟩; have n0_ := aM (Kd.R_elder' (rR HO_6.out) (Kd.R_base ho0) hb); have n1_ := aM (Kd.R_elder' (rR HO_7.out) (Kd.R_base ho0) hb); have n2_ := aM (Kd.R_elder' (rR HO_11.out) (Kd.R_base ho0) hb); have n3_ := aM (Kd.R_elder' (rR HO_12.out) (Kd.R_base ho0) hb); have n4_ := aM (Kd.R_lower (Kd.R_new' (Kd.R_new' (Kd.R_new' (Kd.R_new' ho0 (Kd.R_lt (rR HO_6.out))) (Kd.R_lt (rR HO_7.out))) (Kd.R_lt (rR HO_11.out))) (Kd.R_lt (rR HO_12.out))) (below_size bB)); have n5_ := aM (below_step bB hb); clear HO_6; clear HO_7; clear HO_11; clear HO_12; clear HB; have HO_6 := n0_; have HO_7 := n1_; have HO_11 := n2_; have HO_12 := n3_; have HO290 := n4_; have HB := n5_; clear n0_ n1_ n2_ n3_ n4_ n5_; (try clear hb); (try clear hb2); (try clear hk); (try clear hi); (try clear ho0)) | ((with_reducible refine gate_callee (f := 11) rfl ?_); refine goesL_ (some 123) rfl rfl Try.func11 (by kernel_rfl) rfl #[.slice A1 l1.length c1] rfl mM ?_; (with_reducible refine (laws_toPartS.calls kj56 _ _ l1 t291 _ ?side1 ?side2 A106.out).mono ?_); (case side1 => exact cC (Kd.C_below HR1.out HB.out)); (case side2 => exact HC1.out); rintro e w116 ⟨v292, rfl, ho0, hb⟩; refine ⟨_, rfl, ?_⟩; have n0_ := aM (Kd.R_elder' (rR HO_6.out) (Kd.R_base ho0) hb); have n1_ := aM (Kd.R_elder' (rR HO_7.out) (Kd.R_base ho0) hb); have n2_ := aM (Kd.R_elder' (rR HO_11.out) (Kd.R_base ho0) hb); have n3_ := aM (Kd.R_elder' (rR HO_12.out) (Kd.R_base ho0) hb); have n4_ := aM (Kd.R_elder' (rR HO290.out) (Kd.R_base ho0) hb); have n5_ := aM (Kd.R_lower (Kd.R_new' (Kd.R_new' (Kd.R_new' (Kd.R_new' (Kd.R_new' ho0 (Kd.R_lt (rR HO_6.out))) (Kd.R_lt (rR HO_7.out))) (Kd.R_lt (rR HO_11.out))) (Kd.R_lt (rR HO_12.out))) (Kd.R_lt (rR HO290.out))) (below_size bB)); have n6_ := aM (below_step bB hb); clear HO_6; clear HO_7; clear HO_11; clear HO_12; clear HO290; clear HB; have HO_6 := n0_; have HO_7 := n1_; have HO_11 := n2_; have HO_12 := n3_; have HO290 := n4_; have HO293 := n5_; have HB := n6_; clear n0_ n1_ n2_ n3_ n4_ n5_ n6_; (try clear hb); (try clear hb2); (try clear hk); (try clear hi); (try clear ho0); obtain ⟨Ao117, co117, eo117⟩ := Kd.R_slice HO290.out; subst eo117; obtain ⟨Ao118, co118, eo118⟩ := Kd.R_slice HO293.out; subst eo118) | ((with_reducible refine gate_callee (f := 17) rfl ?_); refine goesL_ (some 124) rfl rfl Try.func17 (by kernel_rfl) rfl #[.slice Ao117 t288.length co117, .slice Ao118 t291.length co118] rfl mM ?_; (with_reducible refine (impl_TransformOps.calls kj56 _ _ t288 _ _ t291 t294 t295 t296 _ ?side1 ?side2 ?side3 ?side4 A107.out).mono ?_); (case side1 => exact cC ((Kd.R_reads' HO290.out).2.2)); (case side2 => exact (Kd.R_reads' HO290.out).2.1); (case side3 => exact cC ((Kd.R_reads' HO293.out).2.2)); (case side4 => exact (Kd.R_reads' HO293.out).2.1); rintro e w119 ⟨v297, v299, rfl, ho0, ho1, hb⟩; refine ⟨_, rfl, ?_⟩; have n0_ := aM (Kd.R_mono (Kd.R_told (Kd.R_told (Kd.R_old (rR HO_6.out) hb) (Kd.R_base ho0)) (Kd.R_base ho1)) (fun _ h_ => h_.1)); have n1_ := aM (Kd.R_mono (Kd.R_told (Kd.R_told (Kd.R_old (rR HO_7.out) hb) (Kd.R_base ho0)) (Kd.R_base ho1)) (fun _ h_ => h_.1)); have n2_ := aM (Kd.R_mono (Kd.R_told (Kd.R_told (Kd.R_old (rR HO_11.out) hb) (Kd.R_base ho0)) (Kd.R_base ho1)) (fun _ h_ => h_.1)); have n3_ := aM (Kd.R_mono (Kd.R_told (Kd.R_told (Kd.R_old (rR HO_12.out) hb) (Kd.R_base ho0)) (Kd.R_base ho1)) (fun _ h_ => h_.1)); have n4_ := aM (Kd.R_mono (Kd.R_told (Kd.R_told (Kd.R_old (rR HO290.out) hb) (Kd.R_base ho0)) (Kd.R_base ho1)) (fun _ h_ => h_.1)); have n5_ := aM (Kd.R_mono (Kd.R_told (Kd.R_told (Kd.R_old (rR HO293.out) hb) (Kd.R_base ho0)) (Kd.R_base ho1)) (fun _ h_ => h_.1)); have n6_ := aM (Kd.R_lower (Kd.R_new' (Kd.R_new' (Kd.R_new' (Kd.R_new' (Kd.R_new' (Kd.R_new' ho0 (Kd.R_lt (rR HO_6.out))) (Kd.R_lt (rR HO_7.out))) (Kd.R_lt (rR HO_11.out))) (Kd.R_lt (rR HO_12.out))) (Kd.R_lt (rR HO290.out))) (Kd.R_lt (rR HO293.out))) (below_size bB)); have n7_ := aM (Kd.R_lower (Kd.R_new' (Kd.R_new' (Kd.R_new' (Kd.R_new' (Kd.R_new' (Kd.R_new' ho1 (Kd.R_lt (rR HO_6.out))) (Kd.R_lt (rR HO_7.out))) (Kd.R_lt (rR HO_11.out))) (Kd.R_lt (rR HO_12.out))) (Kd.R_lt (rR HO290.out))) (Kd.R_lt (rR HO293.out))) (below_size bB)); have n8_ := aM (below_step bB hb); clear HO_6; clear HO_7; clear HO_11; clear HO_12; clear HO290; clear HO293; clear HB; have HO_6 := n0_; have HO_7 := n1_; have HO_11 := n2_; have HO_12 := n3_; have HO290 := n4_; have HO293 := n5_; have HO298 := n6_; have HO300 := n7_; have HB := n8_; clear n0_ n1_ n2_ n3_ n4_ n5_ n6_ n7_ n8_; (try clear hb); (try clear hb2); (try clear hk); (try clear hi); (try clear ho0); (try clear ho1)))
              (try simp only [Act.put, List.setIfInBounds_toArray, List.set_cons_zero, List.set_cons_succ])
              go_cut [142] (fun v142 wc => ∃ (kq : Nat) (x142_107 : Bool), v142 = .bool x142_107 ∧ Aside0 (lZ.j2 kq t283 t285 t284 x142_107 = some r) ∧ Aside0 (kq ≤ kj56) ∧ Aside0 (Kd.R k60 60 wc w.heap.size (fun k_ => some k_ ≠ ((.slice Ao111 t260.length co111) : Value).ownBlock) (.slice Ao109 t259.length co109) t283) ∧ Aside0 (Kd.R k60 60 wc w.heap.size (fun k_ => some k_ ≠ ((.slice Ao109 t259.length co109) : Value).ownBlock) (.slice Ao111 t260.length co111) t285) ∧ Aside0 (Below w.heap.size w wc))
              case first =>
               have H := HC108.out
               clear HC108
               replace H := Option.bind_eq_some_iff.mp H
               obtain ⟨t301, A1200, H⟩ := H
               replace H : (if t301 = true then ((laws_eqPartS.f kj56 t295 t247).bind fun t302 => (if t302 = true then (lZ.j2 kj56 t283 t285 t284 (t296 != t248)) else (lZ.j2 kj56 t283 t285 t284 true))) else (lZ.j2 kj56 t283 t285 t284 true)) = some r := H
               have A120 := aM A1200
               clear A1200
               by_cases c121 : t301 = true
               ·subst c121
                have H1 : ((laws_eqPartS.f kj56 t295 t247).bind fun t302 => (if t302 = true then (lZ.j2 kj56 t283 t285 t284 (t296 != t248)) else (lZ.j2 kj56 t283 t285 t284 true))) = some r := by rw [if_pos rfl] at H; exact H
                clear H
                have H := H1
                clear H1
                replace H := Option.bind_eq_some_iff.mp H
                obtain ⟨t302, A1220, H⟩ := H
                replace H : (if t302 = true then (lZ.j2 kj56 t283 t285 t284 (t296 != t248)) else (lZ.j2 kj56 t283 t285 t284 true)) = some r := H
                have A122 := aM A1220
                clear A1220
                by_cases c123 : t302 = true
                ·subst c123
                 have H1 : (lZ.j2 kj56 t283 t285 t284 (t296 != t248)) = some r := by rw [if_pos rfl] at H; exact H
                 clear H
                 have H := H1
                 clear H1
                 have H' := aM H
                 clear H
                 obtain ⟨Ao124, co124, eo124⟩ := Kd.R_slice HO298.out
                 subst eo124
                 obtain ⟨Ao125, co125, eo125⟩ := Kd.R_slice HO_6.out
                 subst eo125
                 go_wp2_with (first | ((with_reducible refine gate_callee (f := 13) rfl ?_); refine goesL_ (some 130) rfl rfl Try.func13 (by kernel_rfl) rfl #[.slice Ao124 t294.length co124, .slice Ao125 t246.length co125] rfl mM ?_; (with_reducible refine (laws_eqPartS.calls kj56 _ _ t294 _ _ t246 true _ ?side1 ?side2 ?side3 ?side4 A120.out).mono ?_); (case side1 => exact cC ((Kd.R_reads' HO298.out).2.2)); (case side2 => exact (Kd.R_reads' HO298.out).2.1); (case side3 => exact cC ((Kd.R_reads' HO_6.out).2.2)); (case side4 => exact (Kd.R_reads' HO_6.out).2.1); rintro e w126 ⟨rfl, hb⟩; refine ⟨_, rfl, ?_⟩; have n0_ := aM (Kd.R_below (rR HO_6.out) hb); have n1_ := aM (Kd.R_below (rR HO_7.out) hb); have n2_ := aM (Kd.R_below (rR HO_11.out) hb); have n3_ := aM (Kd.R_below (rR HO_12.out) hb); have n4_ := aM (Kd.R_below (rR HO290.out) hb); have n5_ := aM (Kd.R_below (rR HO293.out) hb); have n6_ := aM (Kd.R_below (rR HO298.out) hb); have n7_ := aM (Kd.R_below (rR HO300.out) hb); have n8_ := aM (below_step bB hb); clear HO_6; clear HO_7; clear HO_11; clear HO_12; clear HO290; clear HO293; clear HO298; clear HO300; clear HB; have HO_6 := n0_; have HO_7 := n1_; have HO_11 := n2_; have HO_12 := n3_; have HO290 := n4_; have HO293 := n5_; have HO298 := n6_; have HO300 := n7_; have HB := n8_; clear n0_ n1_ n2_ n3_ n4_ n5_ n6_ n7_ n8_; (try clear hb); (try clear hb2); (try clear hk); (try clear hi); obtain ⟨Ao127, co127, eo127⟩ := Kd.R_slice HO300.out; subst eo127; obtain ⟨Ao128, co128, eo128⟩ := Kd.R_slice HO_7.out; subst eo128) | (go_at_call 13; (with_reducible refine (laws_eqPartS.calls kj56 _ _ t295 _ _ t247 true _ ?side1 ?side2 ?side3 ?side4 A122.out).mono ?_); (case side1 => exact cC ((Kd.R_reads' HO300.out).2.2)); (case side2 => exact (Kd.R_reads' HO300.out).2.1); (case side3 => exact cC ((Kd.R_reads' HO_7.out).2.2)); (case side4 => exact (Kd.R_reads' HO_7.out).2.1); rintro e w129 ⟨rfl, hb⟩; have n0_ := aM (Kd.R_below (rR HO_6.out) hb); have n1_ := aM (Kd.R_below (rR HO_7.out) hb); have n2_ := aM (Kd.R_below (rR HO_11.out) hb); have n3_ := aM (Kd.R_below (rR HO_12.out) hb); have n4_ := aM (Kd.R_below (rR HO290.out) hb); have n5_ := aM (Kd.R_below (rR HO293.out) hb); have n6_ := aM (Kd.R_below (rR HO298.out) hb); have n7_ := aM (Kd.R_below (rR HO300.out) hb); have n8_ := aM (below_step bB hb); clear HO_6; clear HO_7; clear HO_11; clear HO_12; clear HO290; clear HO293; clear HO298; clear HO300; clear HB; have HO_6 := n0_; have HO_7 := n1_; have HO_11 := n2_; have HO_12 := n3_; have HO290 := n4_; have HO293 := n5_; have HO298 := n6_; have HO300 := n7_; have HB := n8_; clear n0_ n1_ n2_ n3_ n4_ n5_ n6_ n7_ n8_; (try clear hb); (try clear hb2); (try clear hk); (try clear hi)))
                 go_meet
                 case rel => exact ⟨_, ((t296 != t248)), (by first | rfl | (simp; done) | (simp [*]; done)), H', ⟨by have := HJ15.out; have := HJ56.out; first | omega | exact Nat.le_refl _⟩, ⟨by (with_reducible repeat (first | apply Kd.R_alloc | apply Kd.R_drewN | apply Kd.R_drew)); exact Kd.R_mono HO_11.out (fun _ hk => hk.1.1.1.1.2.2)⟩, ⟨by (with_reducible repeat (first | apply Kd.R_alloc | apply Kd.R_drewN | apply Kd.R_drew)); exact Kd.R_mono HO_12.out (fun _ hk => hk.1.1.1.1.2.2)⟩, ⟨bB⟩⟩
                ·replace c123 := Bool.eq_false_iff.mpr c123
                 subst c123
                 have H1 : (lZ.j2 kj56 t283 t285 t284 true) = some r := by rw [if_neg (show ¬ (false = true) by decide)] at H; exact H
                 clear H
                 have H := H1
                 clear H1
                 have H' := aM H
                 clear H
                 obtain ⟨Ao130, co130, eo130⟩ := Kd.R_slice HO298.out
                 subst eo130
                 obtain ⟨Ao131, co131, eo131⟩ := Kd.R_slice HO_6.out
                 subst eo131
                 go_wp2_with (first | ((with_reducible refine gate_callee (f := 13) rfl ?_); refine goesL_ (some 130) rfl rfl Try.func13 (by kernel_rfl) rfl #[.slice Ao130 t294.length co130, .slice Ao131 t246.length co131] rfl mM ?_; (with_reducible refine (laws_eqPartS.calls kj56 _ _ t294 _ _ t246 true _ ?side1 ?side2 ?side3 ?side4 A120.out).mono ?_); (case side1 => exact cC ((Kd.R_reads' HO298.out).2.2)); (case side2 => exact (Kd.R_reads' HO298.out).2.1); (case side3 => exact cC ((Kd.R_reads' HO_6.out).2.2)); (case side4 => exact (Kd.R_reads' HO_6.out).2.1); rintro e w132 ⟨rfl, hb⟩; refine ⟨_, rfl, ?_⟩; have n0_ := aM (Kd.R_below (rR HO_6.out) hb); have n1_ := aM (Kd.R_below (rR HO_7.out) hb); have n2_ := aM (Kd.R_below (rR HO_11.out) hb); have n3_ := aM (Kd.R_below (rR HO_12.out) hb); have n4_ := aM (Kd.R_below (rR HO290.out) hb); have n5_ := aM (Kd.R_below (rR HO293.out) hb); have n6_ := aM (Kd.R_below (rR HO298.out) hb); have n7_ := aM (Kd.R_below (rR HO300.out) hb); have n8_ := aM (below_step bB hb); clear HO_6; clear HO_7; clear HO_11; clear HO_12; clear HO290; clear HO293; clear HO298; clear HO300; clear HB; have HO_6 := n0_; have HO_7 := n1_; have HO_11 := n2_; have HO_12 := n3_; have HO290 := n4_; have HO293 := n5_; have HO298 := n6_; have HO300 := n7_; have HB := n8_; clear n0_ n1_ n2_ n3_ n4_ n5_ n6_ n7_ n8_; (try clear hb); (try clear hb2); (try clear hk); (try clear hi); obtain ⟨Ao133, co133, eo133⟩ := Kd.R_slice HO300.out; subst eo133; obtain ⟨Ao134, co134, eo134⟩ := Kd.R_slice HO_7.out; subst eo134) | (go_at_call 13; (with_reducible refine (laws_eqPartS.calls kj56 _ _ t295 _ _ t247 false _ ?side1 ?side2 ?side3 ?side4 A122.out).mono ?_); (case side1 => exact cC ((Kd.R_reads' HO300.out).2.2)); (case side2 => exact (Kd.R_reads' HO300.out).2.1); (case side3 => exact cC ((Kd.R_reads' HO_7.out).2.2)); (case side4 => exact (Kd.R_reads' HO_7.out).2.1); rintro e w135 ⟨rfl, hb⟩; have n0_ := aM (Kd.R_below (rR HO_6.out) hb); have n1_ := aM (Kd.R_below (rR HO_7.out) hb); have n2_ := aM (Kd.R_below (rR HO_11.out) hb); have n3_ := aM (Kd.R_below (rR HO_12.out) hb); have n4_ := aM (Kd.R_below (rR HO290.out) hb); have n5_ := aM (Kd.R_below (rR HO293.out) hb); have n6_ := aM (Kd.R_below (rR HO298.out) hb); have n7_ := aM (Kd.R_below (rR HO300.out) hb); have n8_ := aM (below_step bB hb); clear HO_6; clear HO_7; clear HO_11; clear HO_12; clear HO290; clear HO293; clear HO298; clear HO300; clear HB; have HO_6 := n0_; have HO_7 := n1_; have HO_11 := n2_; have HO_12 := n3_; have HO290 := n4_; have HO293 := n5_; have HO298 := n6_; have HO300 := n7_; have HB := n8_; clear n0_ n1_ n2_ n3_ n4_ n5_ n6_ n7_ n8_; (try clear hb); (try clear hb2); (try clear hk); (try clear hi)))
                 go_meet
                 case rel => exact ⟨_, (true), (by first | rfl | (simp; done) | (simp [*]; done)), H', ⟨by have := HJ15.out; have := HJ56.out; first | omega | exact Nat.le_refl _⟩, ⟨by (with_reducible repeat (first | apply Kd.R_alloc | apply Kd.R_drewN | apply Kd.R_drew)); exact Kd.R_mono HO_11.out (fun _ hk => hk.1.1.1.1.2.2)⟩, ⟨by (with_reducible repeat (first | apply Kd.R_alloc | apply Kd.R_drewN | apply Kd.R_drew)); exact Kd.R_mono HO_12.out (fun _ hk => hk.1.1.1.1.2.2)⟩, ⟨bB⟩⟩
               ·replace c121 := Bool.eq_false_iff.mpr c121
                subst c121
                have H1 : (lZ.j2 kj56 t283 t285 t284 true) = some r := by rw [if_neg (show ¬ (false = true) by decide)] at H; exact H
                clear H
                have H := H1
                clear H1
                have H' := aM H
                clear H
                obtain ⟨Ao136, co136, eo136⟩ := Kd.R_slice HO298.out
                subst eo136
                obtain ⟨Ao137, co137, eo137⟩ := Kd.R_slice HO_6.out
                subst eo137
                go_wp2_with (first | ((with_reducible refine gate_callee (f := 13) rfl ?_); refine goesL_ (some 130) rfl rfl Try.func13 (by kernel_rfl) rfl #[.slice Ao136 t294.length co136, .slice Ao137 t246.length co137] rfl mM ?_; (with_reducible refine (laws_eqPartS.calls kj56 _ _ t294 _ _ t246 false _ ?side1 ?side2 ?side3 ?side4 A120.out).mono ?_); (case side1 => exact cC ((Kd.R_reads' HO298.out).2.2)); (case side2 => exact (Kd.R_reads' HO298.out).2.1); (case side3 => exact cC ((Kd.R_reads' HO_6.out).2.2)); (case side4 => exact (Kd.R_reads' HO_6.out).2.1); rintro e w138 ⟨rfl, hb⟩; refine ⟨_, rfl, ?_⟩; have n0_ := aM (Kd.R_below (rR HO_6.out) hb); have n1_ := aM (Kd.R_below (rR HO_7.out) hb); have n2_ := aM (Kd.R_below (rR HO_11.out) hb); have n3_ := aM (Kd.R_below (rR HO_12.out) hb); have n4_ := aM (Kd.R_below (rR HO290.out) hb); have n5_ := aM (Kd.R_below (rR HO293.out) hb); have n6_ := aM (Kd.R_below (rR HO298.out) hb); have n7_ := aM (Kd.R_below (rR HO300.out) hb); have n8_ := aM (below_step bB hb); clear HO_6; clear HO_7; clear HO_11; clear HO_12; clear HO290; clear HO293; clear HO298; clear HO300; clear HB; have HO_6 := n0_; have HO_7 := n1_; have HO_11 := n2_; have HO_12 := n3_; have HO290 := n4_; have HO293 := n5_; have HO298 := n6_; have HO300 := n7_; have HB := n8_; clear n0_ n1_ n2_ n3_ n4_ n5_ n6_ n7_ n8_; (try clear hb); (try clear hb2); (try clear hk); (try clear hi)))
                go_meet
                case rel => exact ⟨_, (true), (by first | rfl | (simp; done) | (simp [*]; done)), H', ⟨by have := HJ15.out; have := HJ56.out; first | omega | exact Nat.le_refl _⟩, ⟨by (with_reducible repeat (first | apply Kd.R_alloc | apply Kd.R_drewN | apply Kd.R_drew)); exact Kd.R_mono HO_11.out (fun _ hk => hk.1.1.1.1.2.2)⟩, ⟨by (with_reducible repeat (first | apply Kd.R_alloc | apply Kd.R_drewN | apply Kd.R_drew)); exact Kd.R_mono HO_12.out (fun _ hk => hk.1.1.1.1.2.2)⟩, ⟨bB⟩⟩
              case rest =>
               clear HC108
               try clear c1
               try clear p2
               try clear c3
               try clear c4
               try clear c4b0
               try clear c5
               try clear c6
               try clear c7
               try clear c7b0
               try clear c8
               try clear c9
               try clear c10
               try clear c11
               try clear c12
               try clear c13
               try clear c16
               try clear c17
               try clear c18
               try clear c19
               try clear c30
               try clear c32
               try clear c48
               try clear c51
               try clear c54
               try clear c66
               try clear c66b0
               try clear c68
               try clear c70
               try clear c86
               try clear c90
               try clear c90b0
               try clear c97
               try clear c97b0
               try clear c104
               try clear c104b0
               try clear c104b1
               try clear c121
               try clear c123
               try clear p2
               obtain ⟨kq, x142_107, rfl, HA, HJ107, HO_11, HO_12, HB⟩ := hcut
               have hl11_107 := (Kd.R_reads' HO_11.out).1
               rw [hl11_107] at HO_11
               (try simp only [hl11_107])
               (try simp only [hl11_107] at HO_12)
               have hl12_107 := (Kd.R_reads' HO_12.out).1
               rw [hl12_107] at HO_12
               (try simp only [hl12_107])
               (try simp only [hl12_107] at HO_11)
               cases kq with
               | zero => exact absurd HA.out (by simp [lZ.j2])
               | succ kj107 =>
                have H := HA.out
                clear HA
                simp only [lZ.j2] at H
                by_cases c139 : x142_107 = true
                ·subst c139
                 have H1 : (some false) = some r := by rw [if_pos rfl] at H; exact H
                 clear H
                 have H := H1
                 clear H1
                 obtain rfl := Option.some.inj H
                 go_wp2
                 go_ret
                 exact ⟨by first | rfl | (simp [errW_none, errW_some] <;> rfl) | (simp [errW_none, errW_some]; exact isE _) | (simp [*, errW_none, errW_some] <;> rfl), bB⟩
                ·replace c139 := Bool.eq_false_iff.mpr c139
                 subst c139
                 have H1 : ((laws_heldPartS.f kj107 t283 1).bind fun t303 => (if t303 < 0 then (some false) else ((laws_heldPartS.f kj107 t285 t303).bind fun t304 => (if t304 < 0 then (some false) else (if t304 = t284 then (some true) else (some false)))))) = some r := by rw [if_neg (show ¬ (false = true) by decide)] at H; exact H
                 clear H
                 have H := H1
                 clear H1
                 replace H := Option.bind_eq_some_iff.mp H
                 obtain ⟨t303, A1400, H⟩ := H
                 replace H : (if t303 < 0 then (some false) else ((laws_heldPartS.f kj107 t285 t303).bind fun t304 => (if t304 < 0 then (some false) else (if t304 = t284 then (some true) else (some false))))) = some r := H
                 have A140 := aM A1400
                 clear A1400
                 by_cases c141 : t303 < 0
                 ·rw [if_pos c141] at H
                  have c141b0 : decide (t303 < 0) = true := decide_eq_true c141
                  clear c141
                  obtain rfl := Option.some.inj H
                  go_wp2_with (first | ((with_reducible refine gate_callee (f := 19) rfl ?_); refine goesL_ (some 145) rfl rfl Try.func19 (by kernel_rfl) rfl #[.slice Ao109 t283.length co109, .int .i64 1] rfl mM ?_; (with_reducible refine (laws_heldPartS.calls kj107 _ _ t283 1 t303 _ ?side1 ?side2 A140.out).mono ?_); (case side1 => exact cC ((Kd.R_reads' HO_11.out).2.2)); (case side2 => exact (Kd.R_reads' HO_11.out).2.1); rintro e w142 ⟨rfl, hb⟩; refine ⟨_, rfl, ?_⟩; have n0_ := aM (Kd.R_below (rR HO_11.out) hb); have n1_ := aM (Kd.R_below (rR HO_12.out) hb); have n2_ := aM (below_step bB hb); clear HO_11; clear HO_12; clear HB; have HO_11 := n0_; have HO_12 := n1_; have HB := n2_; clear n0_ n1_ n2_; (try clear hb); (try clear hb2); (try clear hk); (try clear hi)))
                  go_ret
                  exact ⟨by first | rfl | (simp [errW_none, errW_some] <;> rfl) | (simp [errW_none, errW_some]; exact isE _) | (simp [*, errW_none, errW_some] <;> rfl), bB⟩
                 ·rw [if_neg c141] at H
                  have c141b0 : decide (t303 < 0) = false := decide_eq_false c141
                  clear c141
                  replace H := Option.bind_eq_some_iff.mp H
                  obtain ⟨t304, A1430, H⟩ := H
                  replace H : (if t304 < 0 then (some false) else (if t304 = t284 then (some true) else (some false))) = some r := H
                  have A143 := aM A1430
                  clear A1430
                  by_cases c144 : t304 < 0
                  ·rw [if_pos c144] at H
                   have c144b0 : decide (t304 < 0) = true := decide_eq_true c144
                   clear c144
                   obtain rfl := Option.some.inj H
                   go_wp2_with (first | ((with_reducible refine gate_callee (f := 19) rfl ?_); refine goesL_ (some 145) rfl rfl Try.func19 (by kernel_rfl) rfl #[.slice Ao109 t283.length co109, .int .i64 1] rfl mM ?_; (with_reducible refine (laws_heldPartS.calls kj107 _ _ t283 1 t303 _ ?side1 ?side2 A140.out).mono ?_); (case side1 => exact cC ((Kd.R_reads' HO_11.out).2.2)); (case side2 => exact (Kd.R_reads' HO_11.out).2.1); rintro e w145 ⟨rfl, hb⟩; refine ⟨_, rfl, ?_⟩; have n0_ := aM (Kd.R_below (rR HO_11.out) hb); have n1_ := aM (Kd.R_below (rR HO_12.out) hb); have n2_ := aM (below_step bB hb); clear HO_11; clear HO_12; clear HB; have HO_11 := n0_; have HO_12 := n1_; have HB := n2_; clear n0_ n1_ n2_; (try clear hb); (try clear hb2); (try clear hk); (try clear hi)) | ((with_reducible refine gate_callee (f := 19) rfl ?_); refine goesL_ (some 150) rfl rfl Try.func19 (by kernel_rfl) rfl #[.slice Ao111 t285.length co111, .int .i64 t303] rfl mM ?_; (with_reducible refine (laws_heldPartS.calls kj107 _ _ t285 t303 t304 _ ?side1 ?side2 A143.out).mono ?_); (case side1 => exact cC ((Kd.R_reads' HO_12.out).2.2)); (case side2 => exact (Kd.R_reads' HO_12.out).2.1); rintro e w146 ⟨rfl, hb⟩; refine ⟨_, rfl, ?_⟩; have n0_ := aM (Kd.R_below (rR HO_11.out) hb); have n1_ := aM (Kd.R_below (rR HO_12.out) hb); have n2_ := aM (below_step bB hb); clear HO_11; clear HO_12; clear HB; have HO_11 := n0_; have HO_12 := n1_; have HB := n2_; clear n0_ n1_ n2_; (try clear hb); (try clear hb2); (try clear hk); (try clear hi)))
                   go_ret
                   exact ⟨by first | rfl | (simp [errW_none, errW_some] <;> rfl) | (simp [errW_none, errW_some]; exact isE _) | (simp [*, errW_none, errW_some] <;> rfl), bB⟩
                  ·rw [if_neg c144] at H
                   have c144b0 : decide (t304 < 0) = false := decide_eq_false c144
                   clear c144
                   by_cases c147 : t304 = t284
                   ·rw [if_pos c147] at H
                    have c147b0 : (t304 == t284) = true := beq_iff_eq.mpr c147
                    have c147b1 : (t304 != t284) = false := bne_eq_false_iff_eq.mpr c147
                    clear c147
                    obtain rfl := Option.some.inj H
                    go_wp2_with (first | ((with_reducible refine gate_callee (f := 19) rfl ?_); refine goesL_ (some 145) rfl rfl Try.func19 (by kernel_rfl) rfl #[.slice Ao109 t283.length co109, .int .i64 1] rfl mM ?_; (with_reducible refine (laws_heldPartS.calls kj107 _ _ t283 1 t303 _ ?side1 ?side2 A140.out).mono ?_); (case side1 => exact cC ((Kd.R_reads' HO_11.out).2.2)); (case side2 => exact (Kd.R_reads' HO_11.out).2.1); rintro e w148 ⟨rfl, hb⟩; refine ⟨_, rfl, ?_⟩; have n0_ := aM (Kd.R_below (rR HO_11.out) hb); have n1_ := aM (Kd.R_below (rR HO_12.out) hb); have n2_ := aM (below_step bB hb); clear HO_11; clear HO_12; clear HB; have HO_11 := n0_; have HO_12 := n1_; have HB := n2_; clear n0_ n1_ n2_; (try clear hb); (try clear hb2); (try clear hk); (try clear hi)) | ((with_reducible refine gate_callee (f := 19) rfl ?_); refine goesL_ (some 150) rfl rfl Try.func19 (by kernel_rfl) rfl #[.slice Ao111 t285.length co111, .int .i64 t303] rfl mM ?_; (with_reducible refine (laws_heldPartS.calls kj107 _ _ t285 t303 t304 _ ?side1 ?side2 A143.out).mono ?_); (case side1 => exact cC ((Kd.R_reads' HO_12.out).2.2)); (case side2 => exact (Kd.R_reads' HO_12.out).2.1); rintro e w149 ⟨rfl, hb⟩; refine ⟨_, rfl, ?_⟩; have n0_ := aM (Kd.R_below (rR HO_11.out) hb); have n1_ := aM (Kd.R_below (rR HO_12.out) hb); have n2_ := aM (below_step bB hb); clear HO_11; clear HO_12; clear HB; have HO_11 := n0_; have HO_12 := n1_; have HB := n2_; clear n0_ n1_ n2_; (try clear hb); (try clear hb2); (try clear hk); (try clear hi)))
                    go_ret
                    exact ⟨by first | rfl | (simp [errW_none, errW_some] <;> rfl) | (simp [errW_none, errW_some]; exact isE _) | (simp [*, errW_none, errW_some] <;> rfl), bB⟩
                   ·rw [if_neg c147] at H
                    have c147b0 : (t304 == t284) = false := beq_eq_false_iff_ne.mpr c147
                    have c147b1 : (t304 != t284) = true := bne_iff_ne.mpr c147
                    obtain rfl := Option.some.inj H
                    go_wp2_with (first | ((with_reducible refine gate_callee (f := 19) rfl ?_); refine goesL_ (some 145) rfl rfl Try.func19 (by kernel_rfl) rfl #[.slice Ao109 t283.length co109, .int .i64 1] rfl mM ?_; (with_reducible refine (laws_heldPartS.calls kj107 _ _ t283 1 t303 _ ?side1 ?side2 A140.out).mono ?_); (case side1 => exact cC ((Kd.R_reads' HO_11.out).2.2)); (case side2 => exact (Kd.R_reads' HO_11.out).2.1); rintro e w150 ⟨rfl, hb⟩; refine ⟨_, rfl, ?_⟩; have n0_ := aM (Kd.R_below (rR HO_11.out) hb); have n1_ := aM (Kd.R_below (rR HO_12.out) hb); have n2_ := aM (below_step bB hb); clear HO_11; clear HO_12; clear HB; have HO_11 := n0_; have HO_12 := n1_; have HB := n2_; clear n0_ n1_ n2_; (try clear hb); (try clear hb2); (try clear hk); (try clear hi)) | ((with_reducible refine gate_callee (f := 19) rfl ?_); refine goesL_ (some 150) rfl rfl Try.func19 (by kernel_rfl) rfl #[.slice Ao111 t285.length co111, .int .i64 t303] rfl mM ?_; (with_reducible refine (laws_heldPartS.calls kj107 _ _ t285 t303 t304 _ ?side1 ?side2 A143.out).mono ?_); (case side1 => exact cC ((Kd.R_reads' HO_12.out).2.2)); (case side2 => exact (Kd.R_reads' HO_12.out).2.1); rintro e w151 ⟨rfl, hb⟩; refine ⟨_, rfl, ?_⟩; have n0_ := aM (Kd.R_below (rR HO_11.out) hb); have n1_ := aM (Kd.R_below (rR HO_12.out) hb); have n2_ := aM (below_step bB hb); clear HO_11; clear HO_12; clear HB; have HO_11 := n0_; have HO_12 := n1_; have HB := n2_; clear n0_ n1_ n2_; (try clear hb); (try clear hb2); (try clear hk); (try clear hi)))
                    go_ret
                    exact ⟨by first | rfl | (simp [errW_none, errW_some] <;> rfl) | (simp [errW_none, errW_some]; exact isE _) | (simp [*, errW_none, errW_some] <;> rfl), bB⟩
             ·rw [if_neg c104] at H
              have c104b0 : (t287 == t284) = false := beq_eq_false_iff_ne.mpr c104
              have c104b1 : (t287 != t284) = true := bne_iff_ne.mpr c104
              obtain rfl := Option.some.inj H
              obtain ⟨Ao152, co152, eo152⟩ := Kd.R_slice HO_11.out
              subst eo152
              go_wp2_with (first | ((with_reducible refine gate_callee (f := 18) rfl ?_); refine goesL_ (some 102) rfl rfl Try.func18 (by kernel_rfl) rfl #[.slice Ao152 t259.length co152, .int .i64 1] rfl mM ?_; (with_reducible refine (laws_markPartS.calls kj56 (fun k_ => some k_ = (.slice Ao152 t259.length co152 : Value).ownBlock) (.slice Ao152 t259.length co152) t259 1 t282 t283 w _ ?side1 ?side2 A87.out).mono ?_); (case side1 => exact bB); (case side2 => exact Kd.R_tight rfl HO_11.out); rintro e w153 ⟨rfl, hy0, hb, hkp⟩; refine ⟨_, rfl, ?_⟩; have n0_ := aM (Kd.R_mono (ok' := fun k_ => some k_ ≠ (v251 : Value).ownBlock ∧ some k_ ≠ (.slice Ao152 t259.length co152 : Value).ownBlock ∧ some k_ ≠ (v264 : Value).ownBlock) (Kd.R_keptB (HO_6.out) hkp (fun k_ hk_ hs_ => (hk_.2.1) hs_)) (fun k_ hk_ => ⟨hk_.1.1, hk_.1.2.1, hk_.1.2.2⟩)); have n1_ := aM (Kd.R_mono (ok' := fun k_ => some k_ ≠ (v249 : Value).ownBlock ∧ some k_ ≠ (.slice Ao152 t259.length co152 : Value).ownBlock ∧ some k_ ≠ (v264 : Value).ownBlock) (Kd.R_keptB (HO_7.out) hkp (fun k_ hk_ hs_ => (hk_.2.1) hs_)) (fun k_ hk_ => ⟨hk_.1.1, hk_.1.2.1, hk_.1.2.2⟩)); have n2_ := aM (Kd.R_reok rfl hy0 (fun k_ e_ => HO_11.out.1 k_ e_)); have n3_ := aM (Kd.R_mono (ok' := fun k_ => some k_ ≠ (v249 : Value).ownBlock ∧ some k_ ≠ (v251 : Value).ownBlock ∧ some k_ ≠ (.slice Ao152 t259.length co152 : Value).ownBlock) (Kd.R_keptB (HO_12.out) hkp (fun k_ hk_ hs_ => (hk_.2.2) hs_)) (fun k_ hk_ => ⟨hk_.1.1, hk_.1.2.1, hk_.1.2.2⟩)); have n4_ := aM (hb); clear HO_6; clear HO_7; clear HO_11; clear HO_12; clear HB; have HO_6 := n0_; have HO_7 := n1_; have HO_11 := n2_; have HO_12 := n3_; have HB := n4_; clear n0_ n1_ n2_ n3_ n4_; (try clear hb); (try clear hkp); (try clear hy0); obtain ⟨Ao154, co154, eo154⟩ := Kd.R_slice HO_12.out; subst eo154) | ((with_reducible refine gate_callee (f := 18) rfl ?_); refine goesL_ (some 105) rfl rfl Try.func18 (by kernel_rfl) rfl #[.slice Ao154 t260.length co154, .int .i64 t282] rfl mM ?_; (with_reducible refine (laws_markPartS.calls kj56 (fun k_ => some k_ = (.slice Ao154 t260.length co154 : Value).ownBlock) (.slice Ao154 t260.length co154) t260 t282 t284 t285 w _ ?side1 ?side2 A88.out).mono ?_); (case side1 => exact bB); (case side2 => exact Kd.R_tight rfl HO_12.out); rintro e w155 ⟨rfl, hy0, hb, hkp⟩; refine ⟨_, rfl, ?_⟩; have n0_ := aM (Kd.R_mono (ok' := fun k_ => some k_ ≠ (v251 : Value).ownBlock ∧ some k_ ≠ (.slice Ao152 t259.length co152 : Value).ownBlock ∧ some k_ ≠ (.slice Ao154 t260.length co154 : Value).ownBlock) (Kd.R_keptB (HO_6.out) hkp (fun k_ hk_ hs_ => (hk_.2.2) hs_)) (fun k_ hk_ => ⟨hk_.1.1, hk_.1.2.1, hk_.1.2.2⟩)); have n1_ := aM (Kd.R_mono (ok' := fun k_ => some k_ ≠ (v249 : Value).ownBlock ∧ some k_ ≠ (.slice Ao152 t259.length co152 : Value).ownBlock ∧ some k_ ≠ (.slice Ao154 t260.length co154 : Value).ownBlock) (Kd.R_keptB (HO_7.out) hkp (fun k_ hk_ hs_ => (hk_.2.2) hs_)) (fun k_ hk_ => ⟨hk_.1.1, hk_.1.2.1, hk_.1.2.2⟩)); have n2_ := aM (Kd.R_mono (ok' := fun k_ => some k_ ≠ (v249 : Value).ownBlock ∧ some k_ ≠ (v251 : Value).ownBlock ∧ some k_ ≠ (.slice Ao154 t260.length co154 : Value).ownBlock) (Kd.R_keptB (HO_11.out) hkp (fun k_ hk_ hs_ => (hk_.2.2) hs_)) (fun k_ hk_ => ⟨hk_.1.1, hk_.1.2.1, hk_.1.2.2⟩)); have n3_ := aM (Kd.R_reok rfl hy0 (fun k_ e_ => HO_12.out.1 k_ e_)); have n4_ := aM (hb); clear HO_6; clear HO_7; clear HO_11; clear HO_12; clear HB; have HO_6 := n0_; have HO_7 := n1_; have HO_11 := n2_; have HO_12 := n3_; have HB := n4_; clear n0_ n1_ n2_ n3_ n4_; (try clear hb); (try clear hkp); (try clear hy0)) | ((with_reducible refine gate_callee (f := 19) rfl ?_); refine goesL_ (some 108) rfl rfl Try.func19 (by kernel_rfl) rfl #[.slice Ao152 t283.length co152, .int .i64 1] rfl (by (try simp only [List.map_toArray, List.map_cons, List.map_nil]); first | done | (rw [show t283.length = t259.length from (Kd.R_reads' HO_11.out).1.symm] <;> rfl) | rfl | (simp only [List.length_drop, List.length_take]; rfl)) ?_; (with_reducible refine (laws_heldPartS.calls kj56 _ _ t283 1 t286 _ ?side1 ?side2 A89.out).mono ?_); (case side1 => exact cC ((Kd.R_reads' HO_11.out).2.2)); (case side2 => rw [show t283.length = t259.length from (Kd.R_reads' HO_11.out).1.symm]; exact (Kd.R_reads' HO_11.out).2.1); rintro e w156 ⟨rfl, hb⟩; refine ⟨_, rfl, ?_⟩; have n0_ := aM (Kd.R_below (rR HO_6.out) hb); have n1_ := aM (Kd.R_below (rR HO_7.out) hb); have n2_ := aM (Kd.R_below (rR HO_11.out) hb); have n3_ := aM (Kd.R_below (rR HO_12.out) hb); have n4_ := aM (below_step bB hb); clear HO_6; clear HO_7; clear HO_11; clear HO_12; clear HB; have HO_6 := n0_; have HO_7 := n1_; have HO_11 := n2_; have HO_12 := n3_; have HB := n4_; clear n0_ n1_ n2_ n3_ n4_; (try clear hb); (try clear hb2); (try clear hk); (try clear hi)) | ((with_reducible refine gate_callee (f := 19) rfl ?_); refine goesL_ (some 113) rfl rfl Try.func19 (by kernel_rfl) rfl #[.slice Ao154 t285.length co154, .int .i64 t286] rfl (by (try simp only [List.map_toArray, List.map_cons, List.map_nil]); first | done | (rw [show t285.length = t260.length from (Kd.R_reads' HO_12.out).1.symm] <;> rfl) | rfl | (simp only [List.length_drop, List.length_take]; rfl)) ?_; (with_reducible refine (laws_heldPartS.calls kj56 _ _ t285 t286 t287 _ ?side1 ?side2 A96.out).mono ?_); (case side1 => exact cC ((Kd.R_reads' HO_12.out).2.2)); (case side2 => rw [show t285.length = t260.length from (Kd.R_reads' HO_12.out).1.symm]; exact (Kd.R_reads' HO_12.out).2.1); rintro e w157 ⟨rfl, hb⟩; refine ⟨_, rfl, ?_⟩; have n0_ := aM (Kd.R_below (rR HO_6.out) hb); have n1_ := aM (Kd.R_below (rR HO_7.out) hb); have n2_ := aM (Kd.R_below (rR HO_11.out) hb); have n3_ := aM (Kd.R_below (rR HO_12.out) hb); have n4_ := aM (below_step bB hb); clear HO_6; clear HO_7; clear HO_11; clear HO_12; clear HB; have HO_6 := n0_; have HO_7 := n1_; have HO_11 := n2_; have HO_12 := n3_; have HB := n4_; clear n0_ n1_ n2_ n3_ n4_; (try clear hb); (try clear hb2); (try clear hk); (try clear hi)))
              go_ret
              exact ⟨by first | rfl | (simp [errW_none, errW_some] <;> rfl) | (simp [errW_none, errW_some]; exact isE _) | (simp [*, errW_none, errW_some] <;> rfl), bB⟩
       ·replace c54 := Bool.eq_false_iff.mpr c54
        subst c54
        have H1 : (some false) = some r := by rw [if_neg (show ¬ (false = true) by decide)] at H; exact H
        clear H
        have H := H1
        clear H1
        obtain rfl := Option.some.inj H
        go_wp2_with (first | ((with_reducible refine gate_callee (f := 11) rfl ?_); refine goesL_ (some 67) rfl rfl Try.func11 (by kernel_rfl) rfl #[.slice A0 l0.length c0] rfl mM ?_; (with_reducible refine (laws_toPartS.calls kj15 _ _ l0 t268 _ ?side1 ?side2 A49.out).mono ?_); (case side1 => exact cC (Kd.C_below HR0.out HB.out)); (case side2 => exact HC0.out); rintro e w158 ⟨v269, rfl, ho0, hb⟩; refine ⟨_, rfl, ?_⟩; have n0_ := aM (Kd.R_elder' (rR HO_6.out) (Kd.R_base ho0) hb); have n1_ := aM (Kd.R_elder' (rR HO_7.out) (Kd.R_base ho0) hb); have n2_ := aM (Kd.R_elder' (rR HO_9.out) (Kd.R_base ho0) hb); have n3_ := aM (Kd.R_elder' (rR HO_10.out) (Kd.R_base ho0) hb); have n4_ := aM (Kd.R_elder' (rR HO_11.out) (Kd.R_base ho0) hb); have n5_ := aM (Kd.R_elder' (rR HO_12.out) (Kd.R_base ho0) hb); have n6_ := aM (Kd.R_lower (Kd.R_new' (Kd.R_new' (Kd.R_new' (Kd.R_new' (Kd.R_new' (Kd.R_new' ho0 (Kd.R_lt (rR HO_6.out))) (Kd.R_lt (rR HO_7.out))) (Kd.R_lt (rR HO_9.out))) (Kd.R_lt (rR HO_10.out))) (Kd.R_lt (rR HO_11.out))) (Kd.R_lt (rR HO_12.out))) (below_size bB)); have n7_ := aM (below_step bB hb); clear HO_6; clear HO_7; clear HO_9; clear HO_10; clear HO_11; clear HO_12; clear HB; have HO_6 := n0_; have HO_7 := n1_; have HO_9 := n2_; have HO_10 := n3_; have HO_11 := n4_; have HO_12 := n5_; have HO270 := n6_; have HB := n7_; clear n0_ n1_ n2_ n3_ n4_ n5_ n6_ n7_; (try clear hb); (try clear hb2); (try clear hk); (try clear hi); (try clear ho0); obtain ⟨Ao159, co159, eo159⟩ := Kd.R_slice HO270.out; subst eo159) | ((with_reducible refine gate_callee (f := 13) rfl ?_); refine goesL_ (some 68) rfl rfl Try.func13 (by kernel_rfl) rfl #[.slice Ao26 t253.length co26, .slice Ao159 t268.length co159] rfl mM ?_; (with_reducible refine (laws_eqPartS.calls kj15 _ _ t253 _ _ t268 true _ ?side1 ?side2 ?side3 ?side4 A50.out).mono ?_); (case side1 => exact cC ((Kd.R_reads' HO_9.out).2.2)); (case side2 => exact (Kd.R_reads' HO_9.out).2.1); (case side3 => exact cC ((Kd.R_reads' HO270.out).2.2)); (case side4 => exact (Kd.R_reads' HO270.out).2.1); rintro e w160 ⟨rfl, hb⟩; refine ⟨_, rfl, ?_⟩; have n0_ := aM (Kd.R_below (rR HO_6.out) hb); have n1_ := aM (Kd.R_below (rR HO_7.out) hb); have n2_ := aM (Kd.R_below (rR HO_9.out) hb); have n3_ := aM (Kd.R_below (rR HO_10.out) hb); have n4_ := aM (Kd.R_below (rR HO_11.out) hb); have n5_ := aM (Kd.R_below (rR HO_12.out) hb); have n6_ := aM (Kd.R_below (rR HO270.out) hb); have n7_ := aM (below_step bB hb); clear HO_6; clear HO_7; clear HO_9; clear HO_10; clear HO_11; clear HO_12; clear HO270; clear HB; have HO_6 := n0_; have HO_7 := n1_; have HO_9 := n2_; have HO_10 := n3_; have HO_11 := n4_; have HO_12 := n5_; have HO270 := n6_; have HB := n7_; clear n0_ n1_ n2_ n3_ n4_ n5_ n6_ n7_; (try clear hb); (try clear hb2); (try clear hk); (try clear hi)) | ((with_reducible refine gate_callee (f := 11) rfl ?_); refine goesL_ (some 72) rfl rfl Try.func11 (by kernel_rfl) rfl #[.slice A1 l1.length c1] rfl mM ?_; (with_reducible refine (laws_toPartS.calls kj15 _ _ l1 t272 _ ?side1 ?side2 A52.out).mono ?_); (case side1 => exact cC (Kd.C_below HR1.out HB.out)); (case side2 => exact HC1.out); rintro e w161 ⟨v273, rfl, ho0, hb⟩; refine ⟨_, rfl, ?_⟩; have n0_ := aM (Kd.R_elder' (rR HO_6.out) (Kd.R_base ho0) hb); have n1_ := aM (Kd.R_elder' (rR HO_7.out) (Kd.R_base ho0) hb); have n2_ := aM (Kd.R_elder' (rR HO_9.out) (Kd.R_base ho0) hb); have n3_ := aM (Kd.R_elder' (rR HO_10.out) (Kd.R_base ho0) hb); have n4_ := aM (Kd.R_elder' (rR HO_11.out) (Kd.R_base ho0) hb); have n5_ := aM (Kd.R_elder' (rR HO_12.out) (Kd.R_base ho0) hb); have n6_ := aM (Kd.R_elder' (rR HO270.out) (Kd.R_base ho0) hb); have n7_ := aM (Kd.R_lower (Kd.R_new' (Kd.R_new' (Kd.R_new' (Kd.R_new' (Kd.R_new' (Kd.R_new' (Kd.R_new' ho0 (Kd.R_lt (rR HO_6.out))) (Kd.R_lt (rR HO_7.out))) (Kd.R_lt (rR HO_9.out))) (Kd.R_lt (rR HO_10.out))) (Kd.R_lt (rR HO_11.out))) (Kd.R_lt (rR HO_12.out))) (Kd.R_lt (rR HO270.out))) (below_size bB)); have n8_ := aM (below_step bB hb); clear HO_6; clear HO_7; clear HO_9; clear HO_10; clear HO_11; clear HO_12; clear HO270; clear HB; have HO_6 := n0_; have HO_7 := n1_; have HO_9 := n2_; have HO_10 := n3_; have HO_11 := n4_; have HO_12 := n5_; have HO270 := n6_; have HO274 := n7_; have HB := n8_; clear n0_ n1_ n2_ n3_ n4_ n5_ n6_ n7_ n8_; (try clear hb); (try clear hb2); (try clear hk); (try clear hi); (try clear ho0); obtain ⟨Ao162, co162, eo162⟩ := Kd.R_slice HO274.out; subst eo162) | ((with_reducible refine gate_callee (f := 13) rfl ?_); refine goesL_ (some 73) rfl rfl Try.func13 (by kernel_rfl) rfl #[.slice Ao27 t256.length co27, .slice Ao162 t272.length co162] rfl mM ?_; (with_reducible refine (laws_eqPartS.calls kj15 _ _ t256 _ _ t272 false _ ?side1 ?side2 ?side3 ?side4 A53.out).mono ?_); (case side1 => exact cC ((Kd.R_reads' HO_10.out).2.2)); (case side2 => exact (Kd.R_reads' HO_10.out).2.1); (case side3 => exact cC ((Kd.R_reads' HO274.out).2.2)); (case side4 => exact (Kd.R_reads' HO274.out).2.1); rintro e w163 ⟨rfl, hb⟩; refine ⟨_, rfl, ?_⟩; have n0_ := aM (Kd.R_below (rR HO_6.out) hb); have n1_ := aM (Kd.R_below (rR HO_7.out) hb); have n2_ := aM (Kd.R_below (rR HO_9.out) hb); have n3_ := aM (Kd.R_below (rR HO_10.out) hb); have n4_ := aM (Kd.R_below (rR HO_11.out) hb); have n5_ := aM (Kd.R_below (rR HO_12.out) hb); have n6_ := aM (Kd.R_below (rR HO270.out) hb); have n7_ := aM (Kd.R_below (rR HO274.out) hb); have n8_ := aM (below_step bB hb); clear HO_6; clear HO_7; clear HO_9; clear HO_10; clear HO_11; clear HO_12; clear HO270; clear HO274; clear HB; have HO_6 := n0_; have HO_7 := n1_; have HO_9 := n2_; have HO_10 := n3_; have HO_11 := n4_; have HO_12 := n5_; have HO270 := n6_; have HO274 := n7_; have HB := n8_; clear n0_ n1_ n2_ n3_ n4_ n5_ n6_ n7_ n8_; (try clear hb); (try clear hb2); (try clear hk); (try clear hi)))
        go_ret
        exact ⟨by first | rfl | (simp [errW_none, errW_some] <;> rfl) | (simp [errW_none, errW_some]; exact isE _) | (simp [*, errW_none, errW_some] <;> rfl), bB⟩
      ·replace c51 := Bool.eq_false_iff.mpr c51
       subst c51
       have H1 : (some false) = some r := by rw [if_neg (show ¬ (false = true) by decide)] at H; exact H
       clear H
       have H := H1
       clear H1
       obtain rfl := Option.some.inj H
       go_wp2_with (first | ((with_reducible refine gate_callee (f := 11) rfl ?_); refine goesL_ (some 67) rfl rfl Try.func11 (by kernel_rfl) rfl #[.slice A0 l0.length c0] rfl mM ?_; (with_reducible refine (laws_toPartS.calls kj15 _ _ l0 t268 _ ?side1 ?side2 A49.out).mono ?_); (case side1 => exact cC (Kd.C_below HR0.out HB.out)); (case side2 => exact HC0.out); rintro e w164 ⟨v269, rfl, ho0, hb⟩; refine ⟨_, rfl, ?_⟩; have n0_ := aM (Kd.R_elder' (rR HO_6.out) (Kd.R_base ho0) hb); have n1_ := aM (Kd.R_elder' (rR HO_7.out) (Kd.R_base ho0) hb); have n2_ := aM (Kd.R_elder' (rR HO_9.out) (Kd.R_base ho0) hb); have n3_ := aM (Kd.R_elder' (rR HO_10.out) (Kd.R_base ho0) hb); have n4_ := aM (Kd.R_elder' (rR HO_11.out) (Kd.R_base ho0) hb); have n5_ := aM (Kd.R_elder' (rR HO_12.out) (Kd.R_base ho0) hb); have n6_ := aM (Kd.R_lower (Kd.R_new' (Kd.R_new' (Kd.R_new' (Kd.R_new' (Kd.R_new' (Kd.R_new' ho0 (Kd.R_lt (rR HO_6.out))) (Kd.R_lt (rR HO_7.out))) (Kd.R_lt (rR HO_9.out))) (Kd.R_lt (rR HO_10.out))) (Kd.R_lt (rR HO_11.out))) (Kd.R_lt (rR HO_12.out))) (below_size bB)); have n7_ := aM (below_step bB hb); clear HO_6; clear HO_7; clear HO_9; clear HO_10; clear HO_11; clear HO_12; clear HB; have HO_6 := n0_; have HO_7 := n1_; have HO_9 := n2_; have HO_10 := n3_; have HO_11 := n4_; have HO_12 := n5_; have HO270 := n6_; have HB := n7_; clear n0_ n1_ n2_ n3_ n4_ n5_ n6_ n7_; (try clear hb); (try clear hb2); (try clear hk); (try clear hi); (try clear ho0); obtain ⟨Ao165, co165, eo165⟩ := Kd.R_slice HO270.out; subst eo165) | ((with_reducible refine gate_callee (f := 13) rfl ?_); refine goesL_ (some 68) rfl rfl Try.func13 (by kernel_rfl) rfl #[.slice Ao26 t253.length co26, .slice Ao165 t268.length co165] rfl mM ?_; (with_reducible refine (laws_eqPartS.calls kj15 _ _ t253 _ _ t268 false _ ?side1 ?side2 ?side3 ?side4 A50.out).mono ?_); (case side1 => exact cC ((Kd.R_reads' HO_9.out).2.2)); (case side2 => exact (Kd.R_reads' HO_9.out).2.1); (case side3 => exact cC ((Kd.R_reads' HO270.out).2.2)); (case side4 => exact (Kd.R_reads' HO270.out).2.1); rintro e w166 ⟨rfl, hb⟩; refine ⟨_, rfl, ?_⟩; have n0_ := aM (Kd.R_below (rR HO_6.out) hb); have n1_ := aM (Kd.R_below (rR HO_7.out) hb); have n2_ := aM (Kd.R_below (rR HO_9.out) hb); have n3_ := aM (Kd.R_below (rR HO_10.out) hb); have n4_ := aM (Kd.R_below (rR HO_11.out) hb); have n5_ := aM (Kd.R_below (rR HO_12.out) hb); have n6_ := aM (Kd.R_below (rR HO270.out) hb); have n7_ := aM (below_step bB hb); clear HO_6; clear HO_7; clear HO_9; clear HO_10; clear HO_11; clear HO_12; clear HO270; clear HB; have HO_6 := n0_; have HO_7 := n1_; have HO_9 := n2_; have HO_10 := n3_; have HO_11 := n4_; have HO_12 := n5_; have HO270 := n6_; have HB := n7_; clear n0_ n1_ n2_ n3_ n4_ n5_ n6_ n7_; (try clear hb); (try clear hb2); (try clear hk); (try clear hi)))
       go_ret
       exact ⟨by first | rfl | (simp [errW_none, errW_some] <;> rfl) | (simp [errW_none, errW_some]; exact isE _) | (simp [*, errW_none, errW_some] <;> rfl), bB⟩
/-- THE ONE PURE STATEMENT of lZ: yours. -/
def lZ.Pure : Prop := ∀ (l0 : List (S58)) (l1 : List (S58)), l0.length ≤ 9223372036854775807 → (∀ x ∈ l0, ((Lit.int .i64 x.f0).wf = true ∧ x.f1.size ≤ 9223372036854775807 ∧ x.f2.size ≤ 9223372036854775807)) → l1.length ≤ 9223372036854775807 → (∀ x ∈ l1, ((Lit.int .i64 x.f0).wf = true ∧ x.f1.size ≤ 9223372036854775807 ∧ x.f2.size ≤ 9223372036854775807)) → ∃ k, lZ.f k l0 l1 = some true
theorem lZ.walk (P : lZ.Pure) (a0 : Option Addr) (len0 cap0 : Nat) (l0 : List (S58)) (a1 : Option Addr) (len1 cap1 : Nat) (l1 : List (S58)) (w : World) (w0 : Read.IsRows k58 (fun x => ((Lit.int .i64 x.f0).wf = true ∧ x.f1.size ≤ 9223372036854775807 ∧ x.f2.size ≤ 9223372036854775807)) w a0 len0 cap0 l0) (w1 : Read.IsRows k58 (fun x => ((Lit.int .i64 x.f0).wf = true ∧ x.f1.size ≤ 9223372036854775807 ∧ x.f2.size ≤ 9223372036854775807)) w a1 len1 cap1 l1) :
  Calls Try.prog 5 #[.slice a0 len0 cap0, .slice a1 len1 cap1] w fun e w' => e = .returned (.bool true) ∧ Below w.heap.size w w' := by
 obtain ⟨e0, hc0, hr0, hm0, hw0⟩ := w0
 subst e0
 obtain ⟨e1, hc1, hr1, hm1, hw1⟩ := w1
 subst e1
 obtain ⟨k, h⟩ := P l0 l1 hm0 hw0 hm1 hw1
 refine (lZ.calls k _ _ l0 _ _ l1 true w hr0 hc0 hr1 hc1 h).mono ?_
 rintro e w' ⟨rfl, hd⟩
 exact ⟨rfl, hd⟩
end Go.Proofs.Ytoagljlnfakgjaa.PFnExactTransformOps
