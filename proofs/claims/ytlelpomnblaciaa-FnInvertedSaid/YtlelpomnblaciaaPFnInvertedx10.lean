/- Written by a program of this session (wip/ovl.py) over the kit's print: plain functions with the answers of the Go functions, and the proofs that they are; no condition. -/
import Derived.Test.YtlelpomnblaciaaPFnInvertedx0
import Derived.Test.YtlelpomnblaciaaPFnInvertedx2
import Derived.Test.YtlelpomnblaciaaPFnInvertedx4
import Derived.Test.YtlelpomnblaciaaPFnInvertedx6
import Derived.Test.YtlelpomnblaciaaPFnInvertedx9
namespace Go.Proofs.Ytlelpomnblaciaa.PFnInverted
open Go.RowKit Go.Proofs.YtlelpomnblaciaaW.PrintWords Go.Proofs.YtlelpomnblaciaaW.PrintLast Go.Proofs.YtlelpomnblaciaaW.PrintMore
attribute [local go_sem] max2_int min2_int max_two min_two max_three min_three max_four min_four   -- for this text's walks alone
set_option linter.unusedVariables false
set_option linter.unusedSimpArgs false

/-! ### laws_FnInverted: function 11 -/
mutual
def laws_FnInverted.j0 : Nat → List (S53) → ByteArray → ByteArray → Bool → List (S53) → Bool → Bool → Option (Bool)
  | 0, _, _, _, _, _, _, _ => none
  | k + 1, x3, x4, x5, x6, x9, x10, x73 => if x73 = true then (some false) else (if x10 = true then ((impl_InvertOp.f k x9).bind fun bt318 => ((impl_NormalOp.f k x3).bind fun bt322 => ((impl_SizesOf.f k x3).bind fun bt326 => ((impl_SizesOf.f k x9).bind fun bt329 => (if bt318.2 = true then (if bt322.2 = true then (if bt326.2.2 = true then (if bt329.2.2 = true then ((laws_sameOps.f k bt318.1 bt322.1).bind fun t332 => (if t332 = true then (if bt326.1 = bt329.2.1 then (laws_FnInverted.j1 k x4 x5 x6 x9 bt326.1 bt326.2.1 (bt326.2.1 != bt329.1)) else (laws_FnInverted.j1 k x4 x5 x6 x9 bt326.1 bt326.2.1 true)) else (laws_FnInverted.j1 k x4 x5 x6 x9 bt326.1 bt326.2.1 true))) else (laws_FnInverted.j1 k x4 x5 x6 x9 bt326.1 bt326.2.1 true)) else (laws_FnInverted.j1 k x4 x5 x6 x9 bt326.1 bt326.2.1 true)) else (laws_FnInverted.j1 k x4 x5 x6 x9 bt326.1 bt326.2.1 true)) else (laws_FnInverted.j1 k x4 x5 x6 x9 bt326.1 bt326.2.1 true)))))) else (some (!x6)))
def laws_FnInverted.j1 : Nat → ByteArray → ByteArray → Bool → List (S53) → Int → Int → Bool → Option (Bool)
  | 0, _, _, _, _, _, _, _ => none
  | k + 1, x4, x5, x6, x9, x17, x18, x129 => if x129 = true then (some false) else (if x6 = true then ((impl_ApplyOp.f k x9 x5).bind fun bt333 => (if bt333.2 = true then (if bt333.1.toList = x4.toList then (if (x4.size : Int) = x17 then (some ((x5.size : Int) == x18)) else (some false)) else (some false)) else (some false))) else (some true))
end
def laws_FnInverted.f (k : Nat) (l0 : List Int) : Option (Bool) := if (l0.length : Int) > 1048576 then (some true) else ((spec_DrawApplyOp.f k l0).bind fun bt301 => ((impl_ApplyOp.f k bt301.1 bt301.2).bind fun bt305 => ((spec_ApplyOp.f k bt301.1 bt301.2).bind fun bt307 => ((impl_InvertOp.f k bt301.1).bind fun bt309 => ((spec_InvertOp.f k bt301.1).bind fun bt313 => (if (bt305.2 != bt307.2) = true then (laws_FnInverted.j0 k bt301.1 bt301.2 bt305.1 bt305.2 bt309.1 bt309.2 true) else (if bt305.1.toList = bt307.1.toList then (if (bt309.2 != bt313.2) = true then (laws_FnInverted.j0 k bt301.1 bt301.2 bt305.1 bt305.2 bt309.1 bt309.2 true) else ((laws_sameOps.f k bt309.1 bt313.1).bind fun t317 => (laws_FnInverted.j0 k bt301.1 bt301.2 bt305.1 bt305.2 bt309.1 bt309.2 (!t317)))) else (laws_FnInverted.j0 k bt301.1 bt301.2 bt305.1 bt305.2 bt309.1 bt309.2 true))))))))
theorem laws_FnInverted.mono_l : ∀ k, (∀ y0 y1 y2 y3 y4 y5 y6, LeO (laws_FnInverted.j0 k y0 y1 y2 y3 y4 y5 y6) (laws_FnInverted.j0 (k + 1) y0 y1 y2 y3 y4 y5 y6)) ∧ (∀ y0 y1 y2 y3 y4 y5 y6, LeO (laws_FnInverted.j1 k y0 y1 y2 y3 y4 y5 y6) (laws_FnInverted.j1 (k + 1) y0 y1 y2 y3 y4 y5 y6))
  | 0 => ⟨fun _ _ _ _ _ _ _ r h => by simp [laws_FnInverted.j0] at h, fun _ _ _ _ _ _ _ r h => by simp [laws_FnInverted.j1] at h⟩
  | k + 1 => by
    obtain ⟨ih0, ih1⟩ := laws_FnInverted.mono_l k
    refine ⟨?_, ?_⟩
    · intro y0 y1 y2 y3 y4 y5 y6
      unfold laws_FnInverted.j0
      repeat' first
      | (with_reducible exact ih0 _ _ _ _ _ _ _)
      | (with_reducible exact ih1 _ _ _ _ _ _ _)
      | (with_reducible exact impl_ApplyOp.mono _ _ _)
      | (with_reducible exact impl_InvertOp.mono _ _)
      | (with_reducible exact impl_NormalOp.mono _ _)
      | (with_reducible exact impl_SizesOf.mono _ _)
      | (with_reducible exact laws_sameOps.mono _ _ _)
      | (with_reducible exact spec_ApplyOp.mono _ _ _)
      | (with_reducible exact spec_DrawApplyOp.mono _ _)
      | (with_reducible exact spec_InvertOp.mono _ _)
      | (with_reducible exact LeO.refl _)
      | (with_reducible exact LeO.none _)
      | (with_reducible refine LeO.ite ?_ ?_)
      | (with_reducible refine LeO.bind ?_ (fun _ => ?_))
      | exact ih0 _ _ _ _ _ _ _
      | exact ih1 _ _ _ _ _ _ _
      | exact impl_ApplyOp.mono _ _ _
      | exact impl_InvertOp.mono _ _
      | exact impl_NormalOp.mono _ _
      | exact impl_SizesOf.mono _ _
      | exact laws_sameOps.mono _ _ _
      | exact spec_ApplyOp.mono _ _ _
      | exact spec_DrawApplyOp.mono _ _
      | exact spec_InvertOp.mono _ _
      | exact LeO.none _
      | refine LeO.ite ?_ ?_
      | refine LeO.bind ?_ (fun _ => ?_)
    · intro y0 y1 y2 y3 y4 y5 y6
      unfold laws_FnInverted.j1
      repeat' first
      | (with_reducible exact ih0 _ _ _ _ _ _ _)
      | (with_reducible exact ih1 _ _ _ _ _ _ _)
      | (with_reducible exact impl_ApplyOp.mono _ _ _)
      | (with_reducible exact impl_InvertOp.mono _ _)
      | (with_reducible exact impl_NormalOp.mono _ _)
      | (with_reducible exact impl_SizesOf.mono _ _)
      | (with_reducible exact laws_sameOps.mono _ _ _)
      | (with_reducible exact spec_ApplyOp.mono _ _ _)
      | (with_reducible exact spec_DrawApplyOp.mono _ _)
      | (with_reducible exact spec_InvertOp.mono _ _)
      | (with_reducible exact LeO.refl _)
      | (with_reducible exact LeO.none _)
      | (with_reducible refine LeO.ite ?_ ?_)
      | (with_reducible refine LeO.bind ?_ (fun _ => ?_))
      | exact ih0 _ _ _ _ _ _ _
      | exact ih1 _ _ _ _ _ _ _
      | exact impl_ApplyOp.mono _ _ _
      | exact impl_InvertOp.mono _ _
      | exact impl_NormalOp.mono _ _
      | exact impl_SizesOf.mono _ _
      | exact laws_sameOps.mono _ _ _
      | exact spec_ApplyOp.mono _ _ _
      | exact spec_DrawApplyOp.mono _ _
      | exact spec_InvertOp.mono _ _
      | exact LeO.none _
      | refine LeO.ite ?_ ?_
      | refine LeO.bind ?_ (fun _ => ?_)
theorem laws_FnInverted.mono : ∀ a0 k, LeO (laws_FnInverted.f k a0) (laws_FnInverted.f (k + 1) a0) := by
  intro a0 k
  obtain ⟨ih0, ih1⟩ := laws_FnInverted.mono_l k
  unfold laws_FnInverted.f
  repeat' first
      | (with_reducible exact ih0 _ _ _ _ _ _ _)
      | (with_reducible exact ih1 _ _ _ _ _ _ _)
      | (with_reducible exact impl_ApplyOp.mono _ _ _)
      | (with_reducible exact impl_InvertOp.mono _ _)
      | (with_reducible exact impl_NormalOp.mono _ _)
      | (with_reducible exact impl_SizesOf.mono _ _)
      | (with_reducible exact laws_sameOps.mono _ _ _)
      | (with_reducible exact spec_ApplyOp.mono _ _ _)
      | (with_reducible exact spec_DrawApplyOp.mono _ _)
      | (with_reducible exact spec_InvertOp.mono _ _)
      | (with_reducible exact LeO.refl _)
      | (with_reducible exact LeO.none _)
      | (with_reducible refine LeO.ite ?_ ?_)
      | (with_reducible refine LeO.bind ?_ (fun _ => ?_))
      | exact ih0 _ _ _ _ _ _ _
      | exact ih1 _ _ _ _ _ _ _
      | exact impl_ApplyOp.mono _ _ _
      | exact impl_InvertOp.mono _ _
      | exact impl_NormalOp.mono _ _
      | exact impl_SizesOf.mono _ _
      | exact laws_sameOps.mono _ _ _
      | exact spec_ApplyOp.mono _ _ _
      | exact spec_DrawApplyOp.mono _ _
      | exact spec_InvertOp.mono _ _
      | exact LeO.none _
      | refine LeO.ite ?_ ?_
      | refine LeO.bind ?_ (fun _ => ?_)
set_option maxHeartbeats 8000000 in
set_option maxRecDepth 100000 in
theorem laws_FnInverted.calls (k : Nat) (A0 : Option Addr) (c0 : Nat) (l0 : List Int) (r : Bool) (w : World) (hr0 : Kd.C (Kd.int .u8) w A0 l0.length l0) (hc0 : l0.length ≤ c0) (h : laws_FnInverted.f k l0 = some r) :
    Calls Try.prog 11 #[.slice A0 l0.length c0] w fun e w' => e = .returned (.bool r) ∧ Below w.heap.size w w' := by
  have HR0 := Aside0.mk hr0
  have HC0 := Aside0.mk hc0
  clear hr0 hc0
  have HB := Aside0.mk (Below.refl w.heap.size w)
  have H : (if (l0.length : Int) > 1048576 then (some true) else ((spec_DrawApplyOp.f k l0).bind fun bt301 => ((impl_ApplyOp.f k bt301.1 bt301.2).bind fun bt305 => ((spec_ApplyOp.f k bt301.1 bt301.2).bind fun bt307 => ((impl_InvertOp.f k bt301.1).bind fun bt309 => ((spec_InvertOp.f k bt301.1).bind fun bt313 => (if (bt305.2 != bt307.2) = true then (laws_FnInverted.j0 k bt301.1 bt301.2 bt305.1 bt305.2 bt309.1 bt309.2 true) else (if bt305.1.toList = bt307.1.toList then (if (bt309.2 != bt313.2) = true then (laws_FnInverted.j0 k bt301.1 bt301.2 bt305.1 bt305.2 bt309.1 bt309.2 true) else ((laws_sameOps.f k bt309.1 bt313.1).bind fun t317 => (laws_FnInverted.j0 k bt301.1 bt301.2 bt305.1 bt305.2 bt309.1 bt309.2 (!t317)))) else (laws_FnInverted.j0 k bt301.1 bt301.2 bt305.1 bt305.2 bt309.1 bt309.2 true))))))))) = some r := h
  clear h
  by_cases c2 : (l0.length : Int) > 1048576
  · rw [if_pos c2] at H
    have c2b0 : decide (1048576 < (l0.length : Int)) = true := decide_eq_true c2
    have c2b1 : decide (1048576 < l0.length) = true := decide_eq_true (by omega)
    clear c2
    obtain rfl := Option.some.inj H
    go_enter Try.func11, Try.ntmps11
    go_wp2
    go_ret
    exact ⟨by first | rfl | (simp [errW_none, errW_some] <;> rfl) | (simp [errW_none, errW_some]; exact (show ∀ l_ : List UInt8, l_.isEmpty = !(l_ != []) from fun l_ => by cases l_ <;> rfl) _) | (simp [*, errW_none, errW_some] <;> rfl), by repeat (first | (with_reducible first | exact HB.out | apply below_alloc | apply pw_below_drewN | apply below_drew1) | exact HB.out)⟩
  · rw [if_neg c2] at H
    have c2b0 : decide (1048576 < (l0.length : Int)) = false := decide_eq_false c2
    have c2b1 : decide (1048576 < l0.length) = false := decide_eq_false (by omega)
    clear c2
    replace H := Option.bind_eq_some_iff.mp H
    obtain ⟨⟨t301, t302⟩, A30, H⟩ := H
    replace H : ((impl_ApplyOp.f k t301 t302).bind fun bt305 => ((spec_ApplyOp.f k t301 t302).bind fun bt307 => ((impl_InvertOp.f k t301).bind fun bt309 => ((spec_InvertOp.f k t301).bind fun bt313 => (if (bt305.2 != bt307.2) = true then (laws_FnInverted.j0 k t301 t302 bt305.1 bt305.2 bt309.1 bt309.2 true) else (if bt305.1.toList = bt307.1.toList then (if (bt309.2 != bt313.2) = true then (laws_FnInverted.j0 k t301 t302 bt305.1 bt305.2 bt309.1 bt309.2 true) else ((laws_sameOps.f k bt309.1 bt313.1).bind fun t317 => (laws_FnInverted.j0 k t301 t302 bt305.1 bt305.2 bt309.1 bt309.2 (!t317)))) else (laws_FnInverted.j0 k t301 t302 bt305.1 bt305.2 bt309.1 bt309.2 true))))))) = some r := H
    have A3 := Aside0.mk A30
    clear A30
    replace H := Option.bind_eq_some_iff.mp H
    obtain ⟨⟨t305, t306⟩, A40, H⟩ := H
    replace H : ((spec_ApplyOp.f k t301 t302).bind fun bt307 => ((impl_InvertOp.f k t301).bind fun bt309 => ((spec_InvertOp.f k t301).bind fun bt313 => (if (t306 != bt307.2) = true then (laws_FnInverted.j0 k t301 t302 t305 t306 bt309.1 bt309.2 true) else (if t305.toList = bt307.1.toList then (if (bt309.2 != bt313.2) = true then (laws_FnInverted.j0 k t301 t302 t305 t306 bt309.1 bt309.2 true) else ((laws_sameOps.f k bt309.1 bt313.1).bind fun t317 => (laws_FnInverted.j0 k t301 t302 t305 t306 bt309.1 bt309.2 (!t317)))) else (laws_FnInverted.j0 k t301 t302 t305 t306 bt309.1 bt309.2 true)))))) = some r := H
    have A4 := Aside0.mk A40
    clear A40
    replace H := Option.bind_eq_some_iff.mp H
    obtain ⟨⟨t307, t308⟩, A50, H⟩ := H
    replace H : ((impl_InvertOp.f k t301).bind fun bt309 => ((spec_InvertOp.f k t301).bind fun bt313 => (if (t306 != t308) = true then (laws_FnInverted.j0 k t301 t302 t305 t306 bt309.1 bt309.2 true) else (if t305.toList = t307.toList then (if (bt309.2 != bt313.2) = true then (laws_FnInverted.j0 k t301 t302 t305 t306 bt309.1 bt309.2 true) else ((laws_sameOps.f k bt309.1 bt313.1).bind fun t317 => (laws_FnInverted.j0 k t301 t302 t305 t306 bt309.1 bt309.2 (!t317)))) else (laws_FnInverted.j0 k t301 t302 t305 t306 bt309.1 bt309.2 true))))) = some r := H
    have A5 := Aside0.mk A50
    clear A50
    replace H := Option.bind_eq_some_iff.mp H
    obtain ⟨⟨t309, t310⟩, A60, H⟩ := H
    replace H : ((spec_InvertOp.f k t301).bind fun bt313 => (if (t306 != t308) = true then (laws_FnInverted.j0 k t301 t302 t305 t306 t309 t310 true) else (if t305.toList = t307.toList then (if (t310 != bt313.2) = true then (laws_FnInverted.j0 k t301 t302 t305 t306 t309 t310 true) else ((laws_sameOps.f k t309 bt313.1).bind fun t317 => (laws_FnInverted.j0 k t301 t302 t305 t306 t309 t310 (!t317)))) else (laws_FnInverted.j0 k t301 t302 t305 t306 t309 t310 true)))) = some r := H
    have A6 := Aside0.mk A60
    clear A60
    replace H := Option.bind_eq_some_iff.mp H
    obtain ⟨⟨t313, t314⟩, A70, H⟩ := H
    replace H : (if (t306 != t308) = true then (laws_FnInverted.j0 k t301 t302 t305 t306 t309 t310 true) else (if t305.toList = t307.toList then (if (t310 != t314) = true then (laws_FnInverted.j0 k t301 t302 t305 t306 t309 t310 true) else ((laws_sameOps.f k t309 t313).bind fun t317 => (laws_FnInverted.j0 k t301 t302 t305 t306 t309 t310 (!t317)))) else (laws_FnInverted.j0 k t301 t302 t305 t306 t309 t310 true))) = some r := H
    have A7 := Aside0.mk A70
    clear A70
    have HC8 := Aside0.mk H
    clear H
    go_enter Try.func11, Try.ntmps11
    go_upto_region 8 with (first | ((with_reducible refine gate_callee (f := 35) rfl ?_); refine goesL_ (some 30) rfl rfl Try.func35 (by kernel_rfl) rfl #[.slice A0 l0.length c0] rfl (by (try simp only [List.map_toArray, List.map_cons, List.map_nil]); first | done | rfl | (simp only [List.length_drop, List.length_take]; rfl)) ?_; (with_reducible refine (spec_DrawApplyOp.calls k _ _ l0 t301 t302 _ ?side1 ?side2 A3.out).mono ?_); (case side1 => repeat (first | exact HR0.out | (with_reducible refine Kd.C_alloc ?_ _) | (with_reducible refine Kd.C_drewN ?_ _) | (with_reducible refine Kd.C_drew ?_))); (case side2 => exact HC0.out); rintro e w9 ⟨v303, rfl, ho0, hb⟩; refine ⟨_, rfl, ?_⟩; have n0_ := Aside0.mk (Kd.R_lower ho0 (below_size (by repeat (first | (with_reducible first | exact HB.out | apply below_alloc | apply pw_below_drewN | apply below_drew1) | exact HB.out)))); have n1_ := Aside0.mk (below_step (by repeat (first | (with_reducible first | exact HB.out | apply below_alloc | apply pw_below_drewN | apply below_drew1) | exact HB.out)) hb); clear HB; have HO304 := n0_; have HB := n1_; clear n0_ n1_; (try clear hb); (try clear hb2); (try clear hk); (try clear hi); (try clear ho0); obtain ⟨Ao10, co10, eo10⟩ := Kd.R_slice HO304.out; subst eo10) | ((with_reducible refine gate_callee (f := 26) rfl ?_); refine goesL_ (some 36) rfl rfl Try.func26 (by kernel_rfl) rfl #[.slice Ao10 t301.length co10, .string t302] rfl (by (try simp only [List.map_toArray, List.map_cons, List.map_nil]); first | done | rfl | (simp only [List.length_drop, List.length_take]; rfl)) ?_; (with_reducible refine (impl_ApplyOp.calls k _ _ t301 t302 t305 t306 _ ?side1 ?side2 A4.out).mono ?_); (case side1 => repeat (first | exact (Kd.R_reads' HO304.out).2.2 | (with_reducible refine Kd.C_alloc ?_ _) | (with_reducible refine Kd.C_drewN ?_ _) | (with_reducible refine Kd.C_drew ?_))); (case side2 => exact (Kd.R_reads' HO304.out).2.1); rintro e w11 ⟨rfl, hb⟩; refine ⟨_, rfl, ?_⟩; have n0_ := Aside0.mk (Kd.R_below (by (with_reducible repeat (first | apply Kd.R_alloc | apply Kd.R_drewN | apply Kd.R_drew)); exact HO304.out) hb); have n1_ := Aside0.mk (below_step (by repeat (first | (with_reducible first | exact HB.out | apply below_alloc | apply pw_below_drewN | apply below_drew1) | exact HB.out)) hb); clear HO304; clear HB; have HO304 := n0_; have HB := n1_; clear n0_ n1_; (try clear hb); (try clear hb2); (try clear hk); (try clear hi)) | ((with_reducible refine gate_callee (f := 25) rfl ?_); refine goesL_ (some 42) rfl rfl Try.func25 (by kernel_rfl) rfl #[.slice Ao10 t301.length co10, .string t302] rfl (by (try simp only [List.map_toArray, List.map_cons, List.map_nil]); first | done | rfl | (simp only [List.length_drop, List.length_take]; rfl)) ?_; (with_reducible refine (spec_ApplyOp.calls k _ _ t301 t302 t307 t308 _ ?side1 ?side2 A5.out).mono ?_); (case side1 => repeat (first | exact (Kd.R_reads' HO304.out).2.2 | (with_reducible refine Kd.C_alloc ?_ _) | (with_reducible refine Kd.C_drewN ?_ _) | (with_reducible refine Kd.C_drew ?_))); (case side2 => exact (Kd.R_reads' HO304.out).2.1); rintro e w12 ⟨rfl, hb⟩; refine ⟨_, rfl, ?_⟩; have n0_ := Aside0.mk (Kd.R_below (by (with_reducible repeat (first | apply Kd.R_alloc | apply Kd.R_drewN | apply Kd.R_drew)); exact HO304.out) hb); have n1_ := Aside0.mk (below_step (by repeat (first | (with_reducible first | exact HB.out | apply below_alloc | apply pw_below_drewN | apply below_drew1) | exact HB.out)) hb); clear HO304; clear HB; have HO304 := n0_; have HB := n1_; clear n0_ n1_; (try clear hb); (try clear hb2); (try clear hk); (try clear hi)) | ((with_reducible refine gate_callee (f := 30) rfl ?_); refine goesL_ (some 47) rfl rfl Try.func30 (by kernel_rfl) rfl #[.slice Ao10 t301.length co10] rfl (by (try simp only [List.map_toArray, List.map_cons, List.map_nil]); first | done | rfl | (simp only [List.length_drop, List.length_take]; rfl)) ?_; (with_reducible refine (impl_InvertOp.calls k _ _ t301 t309 t310 _ ?side1 ?side2 A6.out).mono ?_); (case side1 => repeat (first | exact (Kd.R_reads' HO304.out).2.2 | (with_reducible refine Kd.C_alloc ?_ _) | (with_reducible refine Kd.C_drewN ?_ _) | (with_reducible refine Kd.C_drew ?_))); (case side2 => exact (Kd.R_reads' HO304.out).2.1); rintro e w13 ⟨v311, rfl, ho0, hb⟩; refine ⟨_, rfl, ?_⟩; have n0_ := Aside0.mk (Kd.R_elder' (by (with_reducible repeat (first | apply Kd.R_alloc | apply Kd.R_drewN | apply Kd.R_drew)); exact HO304.out) (Kd.R_base ho0) hb); have n1_ := Aside0.mk (Kd.R_lower (Kd.R_new' ho0 (Kd.R_lt (by (with_reducible repeat (first | apply Kd.R_alloc | apply Kd.R_drewN | apply Kd.R_drew)); exact HO304.out))) (below_size (by repeat (first | (with_reducible first | exact HB.out | apply below_alloc | apply pw_below_drewN | apply below_drew1) | exact HB.out)))); have n2_ := Aside0.mk (below_step (by repeat (first | (with_reducible first | exact HB.out | apply below_alloc | apply pw_below_drewN | apply below_drew1) | exact HB.out)) hb); clear HO304; clear HB; have HO304 := n0_; have HO312 := n1_; have HB := n2_; clear n0_ n1_ n2_; (try clear hb); (try clear hb2); (try clear hk); (try clear hi); (try clear ho0)) | ((with_reducible refine gate_callee (f := 29) rfl ?_); refine goesL_ (some 52) rfl rfl Try.func29 (by kernel_rfl) rfl #[.slice Ao10 t301.length co10] rfl (by (try simp only [List.map_toArray, List.map_cons, List.map_nil]); first | done | rfl | (simp only [List.length_drop, List.length_take]; rfl)) ?_; (with_reducible refine (spec_InvertOp.calls k _ _ t301 t313 t314 _ ?side1 ?side2 A7.out).mono ?_); (case side1 => repeat (first | exact (Kd.R_reads' HO304.out).2.2 | (with_reducible refine Kd.C_alloc ?_ _) | (with_reducible refine Kd.C_drewN ?_ _) | (with_reducible refine Kd.C_drew ?_))); (case side2 => exact (Kd.R_reads' HO304.out).2.1); rintro e w14 ⟨v315, rfl, ho0, hb⟩; refine ⟨_, rfl, ?_⟩; have n0_ := Aside0.mk (Kd.R_elder' (by (with_reducible repeat (first | apply Kd.R_alloc | apply Kd.R_drewN | apply Kd.R_drew)); exact HO304.out) (Kd.R_base ho0) hb); have n1_ := Aside0.mk (Kd.R_elder' (by (with_reducible repeat (first | apply Kd.R_alloc | apply Kd.R_drewN | apply Kd.R_drew)); exact HO312.out) (Kd.R_base ho0) hb); have n2_ := Aside0.mk (Kd.R_lower (Kd.R_new' (Kd.R_new' ho0 (Kd.R_lt (by (with_reducible repeat (first | apply Kd.R_alloc | apply Kd.R_drewN | apply Kd.R_drew)); exact HO304.out))) (Kd.R_lt (by (with_reducible repeat (first | apply Kd.R_alloc | apply Kd.R_drewN | apply Kd.R_drew)); exact HO312.out))) (below_size (by repeat (first | (with_reducible first | exact HB.out | apply below_alloc | apply pw_below_drewN | apply below_drew1) | exact HB.out)))); have n3_ := Aside0.mk (below_step (by repeat (first | (with_reducible first | exact HB.out | apply below_alloc | apply pw_below_drewN | apply below_drew1) | exact HB.out)) hb); clear HO304; clear HO312; clear HB; have HO304 := n0_; have HO312 := n1_; have HO316 := n2_; have HB := n3_; clear n0_ n1_ n2_ n3_; (try clear hb); (try clear hb2); (try clear hk); (try clear hi); (try clear ho0)))
    (try simp only [Act.put, List.setIfInBounds_toArray, List.set_cons_zero, List.set_cons_succ])
    go_cut [73] (fun v73 wc => ∃ (kq : Nat) (x73_7 : Bool), v73 = .bool x73_7 ∧ Aside0 (laws_FnInverted.j0 kq t301 t302 t305 t306 t309 t310 x73_7 = some r) ∧ Aside0 (kq ≤ k) ∧ Aside0 (Kd.R k53 53 wc w.heap.size (fun k_ => some k_ ≠ (v311 : Value).ownBlock) (.slice Ao10 t301.length co10) t301) ∧ Aside0 (Kd.R k53 53 wc w.heap.size (fun k_ => some k_ ≠ ((.slice Ao10 t301.length co10) : Value).ownBlock) v311 t309) ∧ Aside0 (Below w.heap.size w wc))
    case first =>
      have H := HC8.out
      clear HC8
      by_cases c15 : (t306 != t308) = true
      · rw [if_pos c15] at H
        have c15b0 : (t306 != t308) = true := c15
        (try (have c15b1 : decide (t306 = t308) = false := by simpa using c15))
        (try (have c15b2 : (t306 == t308) = false := by simpa using c15))
        (try (have c15b3 : ¬ (t306 = t308) := by simpa using c15))
        clear c15
        (first | rw [c15b0] | (simp only [i64_w, i32_w]; rw [c15b0]) | rw [c15e] | skip)
        have H' := Aside0.mk H
        clear H
        go_wp2
        go_meet
        case rel => exact ⟨_, (true), (by first | rfl | (simp; done) | (simp [*]; done)), H', ⟨by first | omega | exact Nat.le_refl _⟩, ⟨by (with_reducible repeat (first | apply Kd.R_alloc | apply Kd.R_drewN | apply Kd.R_drew)); exact Kd.R_mono HO304.out (fun _ hk => hk.1.2)⟩, ⟨by (with_reducible repeat (first | apply Kd.R_alloc | apply Kd.R_drewN | apply Kd.R_drew)); exact Kd.R_mono HO312.out (fun _ hk => hk.1.2)⟩, ⟨by repeat (first | (with_reducible first | exact HB.out | apply below_alloc | apply pw_below_drewN | apply below_drew1) | exact HB.out)⟩⟩
      · rw [if_neg c15] at H
        have c15b0 : (t306 != t308) = false := by simpa using c15
        (try (have c15b1 : decide (t306 = t308) = true := by simpa using c15))
        (try (have c15b2 : (t306 == t308) = true := by simpa using c15))
        clear c15
        (first | rw [c15b0] | (simp only [i64_w, i32_w]; rw [c15b0]) | rw [c15e] | skip)
        by_cases c16 : t305.toList = t307.toList
        · rw [if_pos c16] at H
          have c16b0 : (t305.toList == t307.toList) = true := beq_iff_eq.mpr c16
          have c16b1 : (t305.toList != t307.toList) = false := bne_eq_false_iff_eq.mpr c16
          clear c16
          by_cases c17 : (t310 != t314) = true
          · rw [if_pos c17] at H
            have c17b0 : (t310 != t314) = true := c17
            (try (have c17b1 : decide (t310 = t314) = false := by simpa using c17))
            (try (have c17b2 : (t310 == t314) = false := by simpa using c17))
            (try (have c17b3 : ¬ (t310 = t314) := by simpa using c17))
            clear c17
            have H' := Aside0.mk H
            clear H
            go_wp2
            go_meet
            case rel => exact ⟨_, (true), (by first | rfl | (simp; done) | (simp [*]; done)), H', ⟨by first | omega | exact Nat.le_refl _⟩, ⟨by (with_reducible repeat (first | apply Kd.R_alloc | apply Kd.R_drewN | apply Kd.R_drew)); exact Kd.R_mono HO304.out (fun _ hk => hk.1.2)⟩, ⟨by (with_reducible repeat (first | apply Kd.R_alloc | apply Kd.R_drewN | apply Kd.R_drew)); exact Kd.R_mono HO312.out (fun _ hk => hk.1.2)⟩, ⟨by repeat (first | (with_reducible first | exact HB.out | apply below_alloc | apply pw_below_drewN | apply below_drew1) | exact HB.out)⟩⟩
          · rw [if_neg c17] at H
            have c17b0 : (t310 != t314) = false := by simpa using c17
            (try (have c17b1 : decide (t310 = t314) = true := by simpa using c17))
            (try (have c17b2 : (t310 == t314) = true := by simpa using c17))
            clear c17
            replace H := Option.bind_eq_some_iff.mp H
            obtain ⟨t317, A180, H⟩ := H
            replace H : (laws_FnInverted.j0 k t301 t302 t305 t306 t309 t310 (!t317)) = some r := H
            have A18 := Aside0.mk A180
            clear A180
            have H' := Aside0.mk H
            clear H
            obtain ⟨Ao19, co19, eo19⟩ := Kd.R_slice HO312.out
            subst eo19
            obtain ⟨Ao20, co20, eo20⟩ := Kd.R_slice HO316.out
            subst eo20
            go_wp2_with (first | (go_at_call 36; (with_reducible refine (laws_sameOps.calls k _ _ t309 _ _ t313 t317 _ ?side1 ?side2 ?side3 ?side4 A18.out).mono ?_); (case side1 => repeat (first | exact (Kd.R_reads' HO312.out).2.2 | (with_reducible refine Kd.C_alloc ?_ _) | (with_reducible refine Kd.C_drewN ?_ _) | (with_reducible refine Kd.C_drew ?_))); (case side2 => exact (Kd.R_reads' HO312.out).2.1); (case side3 => repeat (first | exact (Kd.R_reads' HO316.out).2.2 | (with_reducible refine Kd.C_alloc ?_ _) | (with_reducible refine Kd.C_drewN ?_ _) | (with_reducible refine Kd.C_drew ?_))); (case side4 => exact (Kd.R_reads' HO316.out).2.1); rintro e w' ⟨rfl, ⟨nd, rfl⟩⟩))
            go_meet
            case rel => exact ⟨_, (!t317), (by first | rfl | (simp; done) | (simp [*]; done)), H', ⟨by first | omega | exact Nat.le_refl _⟩, ⟨by (with_reducible repeat (first | apply Kd.R_alloc | apply Kd.R_drewN | apply Kd.R_drew)); exact Kd.R_mono HO304.out (fun _ hk => hk.1.2)⟩, ⟨by (with_reducible repeat (first | apply Kd.R_alloc | apply Kd.R_drewN | apply Kd.R_drew)); exact Kd.R_mono HO312.out (fun _ hk => hk.1.2)⟩, ⟨by repeat (first | (with_reducible first | exact HB.out | apply below_alloc | apply pw_below_drewN | apply below_drew1) | exact HB.out)⟩⟩
        · rw [if_neg c16] at H
          have c16b0 : (t305.toList == t307.toList) = false := beq_eq_false_iff_ne.mpr c16
          have c16b1 : (t305.toList != t307.toList) = true := bne_iff_ne.mpr c16
          have H' := Aside0.mk H
          clear H
          go_wp2
          go_meet
          case rel => exact ⟨_, (true), (by first | rfl | (simp; done) | (simp [*]; done)), H', ⟨by first | omega | exact Nat.le_refl _⟩, ⟨by (with_reducible repeat (first | apply Kd.R_alloc | apply Kd.R_drewN | apply Kd.R_drew)); exact Kd.R_mono HO304.out (fun _ hk => hk.1.2)⟩, ⟨by (with_reducible repeat (first | apply Kd.R_alloc | apply Kd.R_drewN | apply Kd.R_drew)); exact Kd.R_mono HO312.out (fun _ hk => hk.1.2)⟩, ⟨by repeat (first | (with_reducible first | exact HB.out | apply below_alloc | apply pw_below_drewN | apply below_drew1) | exact HB.out)⟩⟩
    case rest =>
      clear HC8
      try clear c1
      try clear c2
      try clear c2b0
      try clear c2b1
      try clear p2
      try clear c3
      try clear c11
      try clear c15
      try clear c15b0
      try clear c15b1
      try clear c15b2
      try clear c16
      try clear c16b0
      try clear c16b1
      try clear c17
      try clear c17b0
      try clear c17b1
      try clear c17b2
      obtain ⟨kq, x73_7, rfl, HA, HJ7, HO_3, HO_9, HB⟩ := hcut
      cases kq with
      | zero => exact absurd HA.out (by simp [laws_FnInverted.j0])
      | succ kj7 =>
        have H := HA.out
        clear HA
        simp only [laws_FnInverted.j0] at H
        by_cases c21 : x73_7 = true
        · subst c21
          have H1 : (some false) = some r := by rw [if_pos rfl] at H; exact H
          clear H
          have H := H1
          clear H1
          obtain rfl := Option.some.inj H
          go_wp2
          go_ret
          exact ⟨by first | rfl | (simp [errW_none, errW_some] <;> rfl) | (simp [errW_none, errW_some]; exact (show ∀ l_ : List UInt8, l_.isEmpty = !(l_ != []) from fun l_ => by cases l_ <;> rfl) _) | (simp [*, errW_none, errW_some] <;> rfl), by repeat (first | (with_reducible first | exact HB.out | apply below_alloc | apply pw_below_drewN | apply below_drew1) | exact HB.out)⟩
        · replace c21 := Bool.eq_false_iff.mpr c21
          subst c21
          have H1 : (if t310 = true then ((impl_InvertOp.f kj7 t309).bind fun bt318 => ((impl_NormalOp.f kj7 t301).bind fun bt322 => ((impl_SizesOf.f kj7 t301).bind fun bt326 => ((impl_SizesOf.f kj7 t309).bind fun bt329 => (if bt318.2 = true then (if bt322.2 = true then (if bt326.2.2 = true then (if bt329.2.2 = true then ((laws_sameOps.f kj7 bt318.1 bt322.1).bind fun t332 => (if t332 = true then (if bt326.1 = bt329.2.1 then (laws_FnInverted.j1 kj7 t302 t305 t306 t309 bt326.1 bt326.2.1 (bt326.2.1 != bt329.1)) else (laws_FnInverted.j1 kj7 t302 t305 t306 t309 bt326.1 bt326.2.1 true)) else (laws_FnInverted.j1 kj7 t302 t305 t306 t309 bt326.1 bt326.2.1 true))) else (laws_FnInverted.j1 kj7 t302 t305 t306 t309 bt326.1 bt326.2.1 true)) else (laws_FnInverted.j1 kj7 t302 t305 t306 t309 bt326.1 bt326.2.1 true)) else (laws_FnInverted.j1 kj7 t302 t305 t306 t309 bt326.1 bt326.2.1 true)) else (laws_FnInverted.j1 kj7 t302 t305 t306 t309 bt326.1 bt326.2.1 true)))))) else (some (!t306))) = some r := by rw [if_neg (show ¬ (false = true) by decide)] at H; exact H
          clear H
          have H := H1
          clear H1
          by_cases c22 : t310 = true
          · subst c22
            have H1 : ((impl_InvertOp.f kj7 t309).bind fun bt318 => ((impl_NormalOp.f kj7 t301).bind fun bt322 => ((impl_SizesOf.f kj7 t301).bind fun bt326 => ((impl_SizesOf.f kj7 t309).bind fun bt329 => (if bt318.2 = true then (if bt322.2 = true then (if bt326.2.2 = true then (if bt329.2.2 = true then ((laws_sameOps.f kj7 bt318.1 bt322.1).bind fun t332 => (if t332 = true then (if bt326.1 = bt329.2.1 then (laws_FnInverted.j1 kj7 t302 t305 t306 t309 bt326.1 bt326.2.1 (bt326.2.1 != bt329.1)) else (laws_FnInverted.j1 kj7 t302 t305 t306 t309 bt326.1 bt326.2.1 true)) else (laws_FnInverted.j1 kj7 t302 t305 t306 t309 bt326.1 bt326.2.1 true))) else (laws_FnInverted.j1 kj7 t302 t305 t306 t309 bt326.1 bt326.2.1 true)) else (laws_FnInverted.j1 kj7 t302 t305 t306 t309 bt326.1 bt326.2.1 true)) else (laws_FnInverted.j1 kj7 t302 t305 t306 t309 bt326.1 bt326.2.1 true)) else (laws_FnInverted.j1 kj7 t302 t305 t306 t309 bt326.1 bt326.2.1 true)))))) = some r := by rw [if_pos rfl] at H; exact H
            clear H
            have H := H1
            clear H1
            replace H := Option.bind_eq_some_iff.mp H
            obtain ⟨⟨t318, t319⟩, A230, H⟩ := H
            replace H : ((impl_NormalOp.f kj7 t301).bind fun bt322 => ((impl_SizesOf.f kj7 t301).bind fun bt326 => ((impl_SizesOf.f kj7 t309).bind fun bt329 => (if t319 = true then (if bt322.2 = true then (if bt326.2.2 = true then (if bt329.2.2 = true then ((laws_sameOps.f kj7 t318 bt322.1).bind fun t332 => (if t332 = true then (if bt326.1 = bt329.2.1 then (laws_FnInverted.j1 kj7 t302 t305 t306 t309 bt326.1 bt326.2.1 (bt326.2.1 != bt329.1)) else (laws_FnInverted.j1 kj7 t302 t305 t306 t309 bt326.1 bt326.2.1 true)) else (laws_FnInverted.j1 kj7 t302 t305 t306 t309 bt326.1 bt326.2.1 true))) else (laws_FnInverted.j1 kj7 t302 t305 t306 t309 bt326.1 bt326.2.1 true)) else (laws_FnInverted.j1 kj7 t302 t305 t306 t309 bt326.1 bt326.2.1 true)) else (laws_FnInverted.j1 kj7 t302 t305 t306 t309 bt326.1 bt326.2.1 true)) else (laws_FnInverted.j1 kj7 t302 t305 t306 t309 bt326.1 bt326.2.1 true))))) = some r := H
            have A23 := Aside0.mk A230
            clear A230
            replace H := Option.bind_eq_some_iff.mp H
            obtain ⟨⟨t322, t323⟩, A240, H⟩ := H
            replace H : ((impl_SizesOf.f kj7 t301).bind fun bt326 => ((impl_SizesOf.f kj7 t309).bind fun bt329 => (if t319 = true then (if t323 = true then (if bt326.2.2 = true then (if bt329.2.2 = true then ((laws_sameOps.f kj7 t318 t322).bind fun t332 => (if t332 = true then (if bt326.1 = bt329.2.1 then (laws_FnInverted.j1 kj7 t302 t305 t306 t309 bt326.1 bt326.2.1 (bt326.2.1 != bt329.1)) else (laws_FnInverted.j1 kj7 t302 t305 t306 t309 bt326.1 bt326.2.1 true)) else (laws_FnInverted.j1 kj7 t302 t305 t306 t309 bt326.1 bt326.2.1 true))) else (laws_FnInverted.j1 kj7 t302 t305 t306 t309 bt326.1 bt326.2.1 true)) else (laws_FnInverted.j1 kj7 t302 t305 t306 t309 bt326.1 bt326.2.1 true)) else (laws_FnInverted.j1 kj7 t302 t305 t306 t309 bt326.1 bt326.2.1 true)) else (laws_FnInverted.j1 kj7 t302 t305 t306 t309 bt326.1 bt326.2.1 true)))) = some r := H
            have A24 := Aside0.mk A240
            clear A240
            replace H := Option.bind_eq_some_iff.mp H
            obtain ⟨⟨t326, t327, t328⟩, A250, H⟩ := H
            replace H : ((impl_SizesOf.f kj7 t309).bind fun bt329 => (if t319 = true then (if t323 = true then (if t328 = true then (if bt329.2.2 = true then ((laws_sameOps.f kj7 t318 t322).bind fun t332 => (if t332 = true then (if t326 = bt329.2.1 then (laws_FnInverted.j1 kj7 t302 t305 t306 t309 t326 t327 (t327 != bt329.1)) else (laws_FnInverted.j1 kj7 t302 t305 t306 t309 t326 t327 true)) else (laws_FnInverted.j1 kj7 t302 t305 t306 t309 t326 t327 true))) else (laws_FnInverted.j1 kj7 t302 t305 t306 t309 t326 t327 true)) else (laws_FnInverted.j1 kj7 t302 t305 t306 t309 t326 t327 true)) else (laws_FnInverted.j1 kj7 t302 t305 t306 t309 t326 t327 true)) else (laws_FnInverted.j1 kj7 t302 t305 t306 t309 t326 t327 true))) = some r := H
            have A25 := Aside0.mk A250
            clear A250
            replace H := Option.bind_eq_some_iff.mp H
            obtain ⟨⟨t329, t330, t331⟩, A260, H⟩ := H
            replace H : (if t319 = true then (if t323 = true then (if t328 = true then (if t331 = true then ((laws_sameOps.f kj7 t318 t322).bind fun t332 => (if t332 = true then (if t326 = t330 then (laws_FnInverted.j1 kj7 t302 t305 t306 t309 t326 t327 (t327 != t329)) else (laws_FnInverted.j1 kj7 t302 t305 t306 t309 t326 t327 true)) else (laws_FnInverted.j1 kj7 t302 t305 t306 t309 t326 t327 true))) else (laws_FnInverted.j1 kj7 t302 t305 t306 t309 t326 t327 true)) else (laws_FnInverted.j1 kj7 t302 t305 t306 t309 t326 t327 true)) else (laws_FnInverted.j1 kj7 t302 t305 t306 t309 t326 t327 true)) else (laws_FnInverted.j1 kj7 t302 t305 t306 t309 t326 t327 true)) = some r := H
            have A26 := Aside0.mk A260
            clear A260
            have HC27 := Aside0.mk H
            clear H
            obtain ⟨Ao28, co28, eo28⟩ := Kd.R_slice HO_9.out
            subst eo28
            go_upto_region 16 with (first | ((with_reducible refine gate_callee (f := 30) rfl ?_); refine goesL_ (some 80) rfl rfl Try.func30 (by kernel_rfl) rfl #[.slice Ao28 t309.length co28] rfl (by (try simp only [List.map_toArray, List.map_cons, List.map_nil]); first | done | rfl | (simp only [List.length_drop, List.length_take]; rfl)) ?_; (with_reducible refine (impl_InvertOp.calls kj7 _ _ t309 t318 t319 _ ?side1 ?side2 A23.out).mono ?_); (case side1 => repeat (first | exact (Kd.R_reads' HO_9.out).2.2 | (with_reducible refine Kd.C_alloc ?_ _) | (with_reducible refine Kd.C_drewN ?_ _) | (with_reducible refine Kd.C_drew ?_))); (case side2 => exact (Kd.R_reads' HO_9.out).2.1); rintro e w29 ⟨v320, rfl, ho0, hb⟩; refine ⟨_, rfl, ?_⟩; have n0_ := Aside0.mk (Kd.R_elder' (by (with_reducible repeat (first | apply Kd.R_alloc | apply Kd.R_drewN | apply Kd.R_drew)); exact HO_3.out) (Kd.R_base ho0) hb); have n1_ := Aside0.mk (Kd.R_elder' (by (with_reducible repeat (first | apply Kd.R_alloc | apply Kd.R_drewN | apply Kd.R_drew)); exact HO_9.out) (Kd.R_base ho0) hb); have n2_ := Aside0.mk (Kd.R_lower (Kd.R_new' (Kd.R_new' ho0 (Kd.R_lt (by (with_reducible repeat (first | apply Kd.R_alloc | apply Kd.R_drewN | apply Kd.R_drew)); exact HO_3.out))) (Kd.R_lt (by (with_reducible repeat (first | apply Kd.R_alloc | apply Kd.R_drewN | apply Kd.R_drew)); exact HO_9.out))) (below_size (by repeat (first | (with_reducible first | exact HB.out | apply below_alloc | apply pw_below_drewN | apply below_drew1) | exact HB.out)))); have n3_ := Aside0.mk (below_step (by repeat (first | (with_reducible first | exact HB.out | apply below_alloc | apply pw_below_drewN | apply below_drew1) | exact HB.out)) hb); clear HO_3; clear HO_9; clear HB; have HO_3 := n0_; have HO_9 := n1_; have HO321 := n2_; have HB := n3_; clear n0_ n1_ n2_ n3_; (try clear hb); (try clear hb2); (try clear hk); (try clear hi); (try clear ho0)) | ((with_reducible refine gate_callee (f := 32) rfl ?_); refine goesL_ (some 85) rfl rfl Try.func32 (by kernel_rfl) rfl #[.slice Ao10 t301.length co10] rfl (by (try simp only [List.map_toArray, List.map_cons, List.map_nil]); first | done | rfl | (simp only [List.length_drop, List.length_take]; rfl)) ?_; (with_reducible refine (impl_NormalOp.calls kj7 _ _ t301 t322 t323 _ ?side1 ?side2 A24.out).mono ?_); (case side1 => repeat (first | exact (Kd.R_reads' HO_3.out).2.2 | (with_reducible refine Kd.C_alloc ?_ _) | (with_reducible refine Kd.C_drewN ?_ _) | (with_reducible refine Kd.C_drew ?_))); (case side2 => exact (Kd.R_reads' HO_3.out).2.1); rintro e w30 ⟨v324, rfl, ho0, hb⟩; refine ⟨_, rfl, ?_⟩; have n0_ := Aside0.mk (Kd.R_elder' (by (with_reducible repeat (first | apply Kd.R_alloc | apply Kd.R_drewN | apply Kd.R_drew)); exact HO_3.out) (Kd.R_base ho0) hb); have n1_ := Aside0.mk (Kd.R_elder' (by (with_reducible repeat (first | apply Kd.R_alloc | apply Kd.R_drewN | apply Kd.R_drew)); exact HO_9.out) (Kd.R_base ho0) hb); have n2_ := Aside0.mk (Kd.R_elder' (by (with_reducible repeat (first | apply Kd.R_alloc | apply Kd.R_drewN | apply Kd.R_drew)); exact HO321.out) (Kd.R_base ho0) hb); have n3_ := Aside0.mk (Kd.R_lower (Kd.R_new' (Kd.R_new' (Kd.R_new' ho0 (Kd.R_lt (by (with_reducible repeat (first | apply Kd.R_alloc | apply Kd.R_drewN | apply Kd.R_drew)); exact HO_3.out))) (Kd.R_lt (by (with_reducible repeat (first | apply Kd.R_alloc | apply Kd.R_drewN | apply Kd.R_drew)); exact HO_9.out))) (Kd.R_lt (by (with_reducible repeat (first | apply Kd.R_alloc | apply Kd.R_drewN | apply Kd.R_drew)); exact HO321.out))) (below_size (by repeat (first | (with_reducible first | exact HB.out | apply below_alloc | apply pw_below_drewN | apply below_drew1) | exact HB.out)))); have n4_ := Aside0.mk (below_step (by repeat (first | (with_reducible first | exact HB.out | apply below_alloc | apply pw_below_drewN | apply below_drew1) | exact HB.out)) hb); clear HO_3; clear HO_9; clear HO321; clear HB; have HO_3 := n0_; have HO_9 := n1_; have HO321 := n2_; have HO325 := n3_; have HB := n4_; clear n0_ n1_ n2_ n3_ n4_; (try clear hb); (try clear hb2); (try clear hk); (try clear hi); (try clear ho0)) | ((with_reducible refine gate_callee (f := 24) rfl ?_); refine goesL_ (some 90) rfl rfl Try.func24 (by kernel_rfl) rfl #[.slice Ao10 t301.length co10] rfl (by (try simp only [List.map_toArray, List.map_cons, List.map_nil]); first | done | rfl | (simp only [List.length_drop, List.length_take]; rfl)) ?_; (with_reducible refine (impl_SizesOf.calls kj7 _ _ t301 t326 t327 t328 _ ?side1 ?side2 A25.out).mono ?_); (case side1 => repeat (first | exact (Kd.R_reads' HO_3.out).2.2 | (with_reducible refine Kd.C_alloc ?_ _) | (with_reducible refine Kd.C_drewN ?_ _) | (with_reducible refine Kd.C_drew ?_))); (case side2 => exact (Kd.R_reads' HO_3.out).2.1); rintro e w31 ⟨rfl, hb⟩; refine ⟨_, rfl, ?_⟩; have n0_ := Aside0.mk (Kd.R_below (by (with_reducible repeat (first | apply Kd.R_alloc | apply Kd.R_drewN | apply Kd.R_drew)); exact HO_3.out) hb); have n1_ := Aside0.mk (Kd.R_below (by (with_reducible repeat (first | apply Kd.R_alloc | apply Kd.R_drewN | apply Kd.R_drew)); exact HO_9.out) hb); have n2_ := Aside0.mk (Kd.R_below (by (with_reducible repeat (first | apply Kd.R_alloc | apply Kd.R_drewN | apply Kd.R_drew)); exact HO321.out) hb); have n3_ := Aside0.mk (Kd.R_below (by (with_reducible repeat (first | apply Kd.R_alloc | apply Kd.R_drewN | apply Kd.R_drew)); exact HO325.out) hb); have n4_ := Aside0.mk (below_step (by repeat (first | (with_reducible first | exact HB.out | apply below_alloc | apply pw_below_drewN | apply below_drew1) | exact HB.out)) hb); clear HO_3; clear HO_9; clear HO321; clear HO325; clear HB; have HO_3 := n0_; have HO_9 := n1_; have HO321 := n2_; have HO325 := n3_; have HB := n4_; clear n0_ n1_ n2_ n3_ n4_; (try clear hb); (try clear hb2); (try clear hk); (try clear hi)) | ((with_reducible refine gate_callee (f := 24) rfl ?_); refine goesL_ (some 96) rfl rfl Try.func24 (by kernel_rfl) rfl #[.slice Ao28 t309.length co28] rfl (by (try simp only [List.map_toArray, List.map_cons, List.map_nil]); first | done | rfl | (simp only [List.length_drop, List.length_take]; rfl)) ?_; (with_reducible refine (impl_SizesOf.calls kj7 _ _ t309 t329 t330 t331 _ ?side1 ?side2 A26.out).mono ?_); (case side1 => repeat (first | exact (Kd.R_reads' HO_9.out).2.2 | (with_reducible refine Kd.C_alloc ?_ _) | (with_reducible refine Kd.C_drewN ?_ _) | (with_reducible refine Kd.C_drew ?_))); (case side2 => exact (Kd.R_reads' HO_9.out).2.1); rintro e w32 ⟨rfl, hb⟩; refine ⟨_, rfl, ?_⟩; have n0_ := Aside0.mk (Kd.R_below (by (with_reducible repeat (first | apply Kd.R_alloc | apply Kd.R_drewN | apply Kd.R_drew)); exact HO_3.out) hb); have n1_ := Aside0.mk (Kd.R_below (by (with_reducible repeat (first | apply Kd.R_alloc | apply Kd.R_drewN | apply Kd.R_drew)); exact HO_9.out) hb); have n2_ := Aside0.mk (Kd.R_below (by (with_reducible repeat (first | apply Kd.R_alloc | apply Kd.R_drewN | apply Kd.R_drew)); exact HO321.out) hb); have n3_ := Aside0.mk (Kd.R_below (by (with_reducible repeat (first | apply Kd.R_alloc | apply Kd.R_drewN | apply Kd.R_drew)); exact HO325.out) hb); have n4_ := Aside0.mk (below_step (by repeat (first | (with_reducible first | exact HB.out | apply below_alloc | apply pw_below_drewN | apply below_drew1) | exact HB.out)) hb); clear HO_3; clear HO_9; clear HO321; clear HO325; clear HB; have HO_3 := n0_; have HO_9 := n1_; have HO321 := n2_; have HO325 := n3_; have HB := n4_; clear n0_ n1_ n2_ n3_ n4_; (try clear hb); (try clear hb2); (try clear hk); (try clear hi)))
            (try simp only [Act.put, List.setIfInBounds_toArray, List.set_cons_zero, List.set_cons_succ])
            go_cut [129] (fun v129 wc => ∃ (kq : Nat) (x129_26 : Bool), v129 = .bool x129_26 ∧ Aside0 (laws_FnInverted.j1 kq t302 t305 t306 t309 t326 t327 x129_26 = some r) ∧ Aside0 (kq ≤ kj7) ∧ Aside0 (Kd.R k53 53 wc w.heap.size (fun _ => True) (.slice Ao28 t309.length co28) t309) ∧ Aside0 (Below w.heap.size w wc))
            case first =>
              have H := HC27.out
              clear HC27
              by_cases c33 : t319 = true
              · subst c33
                have H1 : (if t323 = true then (if t328 = true then (if t331 = true then ((laws_sameOps.f kj7 t318 t322).bind fun t332 => (if t332 = true then (if t326 = t330 then (laws_FnInverted.j1 kj7 t302 t305 t306 t309 t326 t327 (t327 != t329)) else (laws_FnInverted.j1 kj7 t302 t305 t306 t309 t326 t327 true)) else (laws_FnInverted.j1 kj7 t302 t305 t306 t309 t326 t327 true))) else (laws_FnInverted.j1 kj7 t302 t305 t306 t309 t326 t327 true)) else (laws_FnInverted.j1 kj7 t302 t305 t306 t309 t326 t327 true)) else (laws_FnInverted.j1 kj7 t302 t305 t306 t309 t326 t327 true)) = some r := by rw [if_pos rfl] at H; exact H
                clear H
                have H := H1
                clear H1
                by_cases c34 : t323 = true
                · subst c34
                  have H1 : (if t328 = true then (if t331 = true then ((laws_sameOps.f kj7 t318 t322).bind fun t332 => (if t332 = true then (if t326 = t330 then (laws_FnInverted.j1 kj7 t302 t305 t306 t309 t326 t327 (t327 != t329)) else (laws_FnInverted.j1 kj7 t302 t305 t306 t309 t326 t327 true)) else (laws_FnInverted.j1 kj7 t302 t305 t306 t309 t326 t327 true))) else (laws_FnInverted.j1 kj7 t302 t305 t306 t309 t326 t327 true)) else (laws_FnInverted.j1 kj7 t302 t305 t306 t309 t326 t327 true)) = some r := by rw [if_pos rfl] at H; exact H
                  clear H
                  have H := H1
                  clear H1
                  by_cases c35 : t328 = true
                  · subst c35
                    have H1 : (if t331 = true then ((laws_sameOps.f kj7 t318 t322).bind fun t332 => (if t332 = true then (if t326 = t330 then (laws_FnInverted.j1 kj7 t302 t305 t306 t309 t326 t327 (t327 != t329)) else (laws_FnInverted.j1 kj7 t302 t305 t306 t309 t326 t327 true)) else (laws_FnInverted.j1 kj7 t302 t305 t306 t309 t326 t327 true))) else (laws_FnInverted.j1 kj7 t302 t305 t306 t309 t326 t327 true)) = some r := by rw [if_pos rfl] at H; exact H
                    clear H
                    have H := H1
                    clear H1
                    by_cases c36 : t331 = true
                    · subst c36
                      have H1 : ((laws_sameOps.f kj7 t318 t322).bind fun t332 => (if t332 = true then (if t326 = t330 then (laws_FnInverted.j1 kj7 t302 t305 t306 t309 t326 t327 (t327 != t329)) else (laws_FnInverted.j1 kj7 t302 t305 t306 t309 t326 t327 true)) else (laws_FnInverted.j1 kj7 t302 t305 t306 t309 t326 t327 true))) = some r := by rw [if_pos rfl] at H; exact H
                      clear H
                      have H := H1
                      clear H1
                      replace H := Option.bind_eq_some_iff.mp H
                      obtain ⟨t332, A370, H⟩ := H
                      replace H : (if t332 = true then (if t326 = t330 then (laws_FnInverted.j1 kj7 t302 t305 t306 t309 t326 t327 (t327 != t329)) else (laws_FnInverted.j1 kj7 t302 t305 t306 t309 t326 t327 true)) else (laws_FnInverted.j1 kj7 t302 t305 t306 t309 t326 t327 true)) = some r := H
                      have A37 := Aside0.mk A370
                      clear A370
                      by_cases c38 : t332 = true
                      · subst c38
                        have H1 : (if t326 = t330 then (laws_FnInverted.j1 kj7 t302 t305 t306 t309 t326 t327 (t327 != t329)) else (laws_FnInverted.j1 kj7 t302 t305 t306 t309 t326 t327 true)) = some r := by rw [if_pos rfl] at H; exact H
                        clear H
                        have H := H1
                        clear H1
                        by_cases c39 : t326 = t330
                        · rw [if_pos c39] at H
                          have c39b0 : (t326 == t330) = true := beq_iff_eq.mpr c39
                          have c39b1 : (t326 != t330) = false := bne_eq_false_iff_eq.mpr c39
                          clear c39
                          (first | rw [c39b0] | (simp only [i64_w, i32_w]; rw [c39b0]) | rw [c39e] | skip)
                          have H' := Aside0.mk H
                          clear H
                          obtain ⟨Ao40, co40, eo40⟩ := Kd.R_slice HO321.out
                          subst eo40
                          obtain ⟨Ao41, co41, eo41⟩ := Kd.R_slice HO325.out
                          subst eo41
                          go_wp2_with (first | (go_at_call 36; (with_reducible refine (laws_sameOps.calls kj7 _ _ t318 _ _ t322 true _ ?side1 ?side2 ?side3 ?side4 A37.out).mono ?_); (case side1 => repeat (first | exact (Kd.R_reads' HO321.out).2.2 | (with_reducible refine Kd.C_alloc ?_ _) | (with_reducible refine Kd.C_drewN ?_ _) | (with_reducible refine Kd.C_drew ?_))); (case side2 => exact (Kd.R_reads' HO321.out).2.1); (case side3 => repeat (first | exact (Kd.R_reads' HO325.out).2.2 | (with_reducible refine Kd.C_alloc ?_ _) | (with_reducible refine Kd.C_drewN ?_ _) | (with_reducible refine Kd.C_drew ?_))); (case side4 => exact (Kd.R_reads' HO325.out).2.1); rintro e w' ⟨rfl, ⟨nd, rfl⟩⟩))
                          go_meet
                          case rel => exact ⟨_, ((t327 != t329)), (by first | rfl | (simp; done) | (simp [*]; done)), H', ⟨by have := HJ7.out; first | omega | exact Nat.le_refl _⟩, ⟨by (with_reducible repeat (first | apply Kd.R_alloc | apply Kd.R_drewN | apply Kd.R_drew)); exact Kd.R_mono HO_9.out (fun _ hk => trivial)⟩, ⟨by repeat (first | (with_reducible first | exact HB.out | apply below_alloc | apply pw_below_drewN | apply below_drew1) | exact HB.out)⟩⟩
                        · rw [if_neg c39] at H
                          have c39b0 : (t326 == t330) = false := beq_eq_false_iff_ne.mpr c39
                          have c39b1 : (t326 != t330) = true := bne_iff_ne.mpr c39
                          (first | rw [c39b0] | (simp only [i64_w, i32_w]; rw [c39b0]) | rw [c39e] | skip)
                          have H' := Aside0.mk H
                          clear H
                          obtain ⟨Ao42, co42, eo42⟩ := Kd.R_slice HO321.out
                          subst eo42
                          obtain ⟨Ao43, co43, eo43⟩ := Kd.R_slice HO325.out
                          subst eo43
                          go_wp2_with (first | (go_at_call 36; (with_reducible refine (laws_sameOps.calls kj7 _ _ t318 _ _ t322 true _ ?side1 ?side2 ?side3 ?side4 A37.out).mono ?_); (case side1 => repeat (first | exact (Kd.R_reads' HO321.out).2.2 | (with_reducible refine Kd.C_alloc ?_ _) | (with_reducible refine Kd.C_drewN ?_ _) | (with_reducible refine Kd.C_drew ?_))); (case side2 => exact (Kd.R_reads' HO321.out).2.1); (case side3 => repeat (first | exact (Kd.R_reads' HO325.out).2.2 | (with_reducible refine Kd.C_alloc ?_ _) | (with_reducible refine Kd.C_drewN ?_ _) | (with_reducible refine Kd.C_drew ?_))); (case side4 => exact (Kd.R_reads' HO325.out).2.1); rintro e w' ⟨rfl, ⟨nd, rfl⟩⟩))
                          go_meet
                          case rel => exact ⟨_, (true), (by first | rfl | (simp; done) | (simp [*]; done)), H', ⟨by have := HJ7.out; first | omega | exact Nat.le_refl _⟩, ⟨by (with_reducible repeat (first | apply Kd.R_alloc | apply Kd.R_drewN | apply Kd.R_drew)); exact Kd.R_mono HO_9.out (fun _ hk => trivial)⟩, ⟨by repeat (first | (with_reducible first | exact HB.out | apply below_alloc | apply pw_below_drewN | apply below_drew1) | exact HB.out)⟩⟩
                      · replace c38 := Bool.eq_false_iff.mpr c38
                        subst c38
                        have H1 : (laws_FnInverted.j1 kj7 t302 t305 t306 t309 t326 t327 true) = some r := by rw [if_neg (show ¬ (false = true) by decide)] at H; exact H
                        clear H
                        have H := H1
                        clear H1
                        have H' := Aside0.mk H
                        clear H
                        obtain ⟨Ao44, co44, eo44⟩ := Kd.R_slice HO321.out
                        subst eo44
                        obtain ⟨Ao45, co45, eo45⟩ := Kd.R_slice HO325.out
                        subst eo45
                        go_wp2_with (first | (go_at_call 36; (with_reducible refine (laws_sameOps.calls kj7 _ _ t318 _ _ t322 false _ ?side1 ?side2 ?side3 ?side4 A37.out).mono ?_); (case side1 => repeat (first | exact (Kd.R_reads' HO321.out).2.2 | (with_reducible refine Kd.C_alloc ?_ _) | (with_reducible refine Kd.C_drewN ?_ _) | (with_reducible refine Kd.C_drew ?_))); (case side2 => exact (Kd.R_reads' HO321.out).2.1); (case side3 => repeat (first | exact (Kd.R_reads' HO325.out).2.2 | (with_reducible refine Kd.C_alloc ?_ _) | (with_reducible refine Kd.C_drewN ?_ _) | (with_reducible refine Kd.C_drew ?_))); (case side4 => exact (Kd.R_reads' HO325.out).2.1); rintro e w' ⟨rfl, ⟨nd, rfl⟩⟩))
                        go_meet
                        case rel => exact ⟨_, (true), (by first | rfl | (simp; done) | (simp [*]; done)), H', ⟨by have := HJ7.out; first | omega | exact Nat.le_refl _⟩, ⟨by (with_reducible repeat (first | apply Kd.R_alloc | apply Kd.R_drewN | apply Kd.R_drew)); exact Kd.R_mono HO_9.out (fun _ hk => trivial)⟩, ⟨by repeat (first | (with_reducible first | exact HB.out | apply below_alloc | apply pw_below_drewN | apply below_drew1) | exact HB.out)⟩⟩
                    · replace c36 := Bool.eq_false_iff.mpr c36
                      subst c36
                      have H1 : (laws_FnInverted.j1 kj7 t302 t305 t306 t309 t326 t327 true) = some r := by rw [if_neg (show ¬ (false = true) by decide)] at H; exact H
                      clear H
                      have H := H1
                      clear H1
                      have H' := Aside0.mk H
                      clear H
                      go_wp2
                      go_meet
                      case rel => exact ⟨_, (true), (by first | rfl | (simp; done) | (simp [*]; done)), H', ⟨by have := HJ7.out; first | omega | exact Nat.le_refl _⟩, ⟨by (with_reducible repeat (first | apply Kd.R_alloc | apply Kd.R_drewN | apply Kd.R_drew)); exact Kd.R_mono HO_9.out (fun _ hk => trivial)⟩, ⟨by repeat (first | (with_reducible first | exact HB.out | apply below_alloc | apply pw_below_drewN | apply below_drew1) | exact HB.out)⟩⟩
                  · replace c35 := Bool.eq_false_iff.mpr c35
                    subst c35
                    have H1 : (laws_FnInverted.j1 kj7 t302 t305 t306 t309 t326 t327 true) = some r := by rw [if_neg (show ¬ (false = true) by decide)] at H; exact H
                    clear H
                    have H := H1
                    clear H1
                    have H' := Aside0.mk H
                    clear H
                    go_wp2
                    go_meet
                    case rel => exact ⟨_, (true), (by first | rfl | (simp; done) | (simp [*]; done)), H', ⟨by have := HJ7.out; first | omega | exact Nat.le_refl _⟩, ⟨by (with_reducible repeat (first | apply Kd.R_alloc | apply Kd.R_drewN | apply Kd.R_drew)); exact Kd.R_mono HO_9.out (fun _ hk => trivial)⟩, ⟨by repeat (first | (with_reducible first | exact HB.out | apply below_alloc | apply pw_below_drewN | apply below_drew1) | exact HB.out)⟩⟩
                · replace c34 := Bool.eq_false_iff.mpr c34
                  subst c34
                  have H1 : (laws_FnInverted.j1 kj7 t302 t305 t306 t309 t326 t327 true) = some r := by rw [if_neg (show ¬ (false = true) by decide)] at H; exact H
                  clear H
                  have H := H1
                  clear H1
                  have H' := Aside0.mk H
                  clear H
                  go_wp2
                  go_meet
                  case rel => exact ⟨_, (true), (by first | rfl | (simp; done) | (simp [*]; done)), H', ⟨by have := HJ7.out; first | omega | exact Nat.le_refl _⟩, ⟨by (with_reducible repeat (first | apply Kd.R_alloc | apply Kd.R_drewN | apply Kd.R_drew)); exact Kd.R_mono HO_9.out (fun _ hk => trivial)⟩, ⟨by repeat (first | (with_reducible first | exact HB.out | apply below_alloc | apply pw_below_drewN | apply below_drew1) | exact HB.out)⟩⟩
              · replace c33 := Bool.eq_false_iff.mpr c33
                subst c33
                have H1 : (laws_FnInverted.j1 kj7 t302 t305 t306 t309 t326 t327 true) = some r := by rw [if_neg (show ¬ (false = true) by decide)] at H; exact H
                clear H
                have H := H1
                clear H1
                have H' := Aside0.mk H
                clear H
                go_wp2
                go_meet
                case rel => exact ⟨_, (true), (by first | rfl | (simp; done) | (simp [*]; done)), H', ⟨by have := HJ7.out; first | omega | exact Nat.le_refl _⟩, ⟨by (with_reducible repeat (first | apply Kd.R_alloc | apply Kd.R_drewN | apply Kd.R_drew)); exact Kd.R_mono HO_9.out (fun _ hk => trivial)⟩, ⟨by repeat (first | (with_reducible first | exact HB.out | apply below_alloc | apply pw_below_drewN | apply below_drew1) | exact HB.out)⟩⟩
            case rest =>
              clear HC27
              try clear c1
              try clear c2
              try clear c2b0
              try clear c2b1
              try clear p2
              try clear c3
              try clear c11
              try clear c15
              try clear c15b0
              try clear c15b1
              try clear c15b2
              try clear c16
              try clear c16b0
              try clear c16b1
              try clear c17
              try clear c17b0
              try clear c17b1
              try clear c17b2
              try clear c21
              try clear c22
              try clear c24
              try clear c25
              try clear c26
              try clear c29
              try clear c30
              try clear c32
              try clear c33
              try clear c34
              try clear c35
              try clear c36
              try clear c38
              try clear c39
              try clear c39b0
              try clear c39b1
              try clear p2
              obtain ⟨kq, x129_26, rfl, HA, HJ26, HO_9, HB⟩ := hcut
              cases kq with
              | zero => exact absurd HA.out (by simp [laws_FnInverted.j1])
              | succ kj26 =>
                have H := HA.out
                clear HA
                simp only [laws_FnInverted.j1] at H
                by_cases c46 : x129_26 = true
                · subst c46
                  have H1 : (some false) = some r := by rw [if_pos rfl] at H; exact H
                  clear H
                  have H := H1
                  clear H1
                  obtain rfl := Option.some.inj H
                  go_wp2
                  go_ret
                  exact ⟨by first | rfl | (simp [errW_none, errW_some] <;> rfl) | (simp [errW_none, errW_some]; exact (show ∀ l_ : List UInt8, l_.isEmpty = !(l_ != []) from fun l_ => by cases l_ <;> rfl) _) | (simp [*, errW_none, errW_some] <;> rfl), by repeat (first | (with_reducible first | exact HB.out | apply below_alloc | apply pw_below_drewN | apply below_drew1) | exact HB.out)⟩
                · replace c46 := Bool.eq_false_iff.mpr c46
                  subst c46
                  have H1 : (if t306 = true then ((impl_ApplyOp.f kj26 t309 t305).bind fun bt333 => (if bt333.2 = true then (if bt333.1.toList = t302.toList then (if (t302.size : Int) = t326 then (some ((t305.size : Int) == t327)) else (some false)) else (some false)) else (some false))) else (some true)) = some r := by rw [if_neg (show ¬ (false = true) by decide)] at H; exact H
                  clear H
                  have H := H1
                  clear H1
                  by_cases c47 : t306 = true
                  · subst c47
                    have H1 : ((impl_ApplyOp.f kj26 t309 t305).bind fun bt333 => (if bt333.2 = true then (if bt333.1.toList = t302.toList then (if (t302.size : Int) = t326 then (some ((t305.size : Int) == t327)) else (some false)) else (some false)) else (some false))) = some r := by rw [if_pos rfl] at H; exact H
                    clear H
                    have H := H1
                    clear H1
                    replace H := Option.bind_eq_some_iff.mp H
                    obtain ⟨⟨t333, t334⟩, A480, H⟩ := H
                    replace H : (if t334 = true then (if t333.toList = t302.toList then (if (t302.size : Int) = t326 then (some ((t305.size : Int) == t327)) else (some false)) else (some false)) else (some false)) = some r := H
                    have A48 := Aside0.mk A480
                    clear A480
                    by_cases c49 : t334 = true
                    · subst c49
                      have H1 : (if t333.toList = t302.toList then (if (t302.size : Int) = t326 then (some ((t305.size : Int) == t327)) else (some false)) else (some false)) = some r := by rw [if_pos rfl] at H; exact H
                      clear H
                      have H := H1
                      clear H1
                      by_cases c50 : t333.toList = t302.toList
                      · rw [if_pos c50] at H
                        have c50b0 : (t333.toList == t302.toList) = true := beq_iff_eq.mpr c50
                        have c50b1 : (t333.toList != t302.toList) = false := bne_eq_false_iff_eq.mpr c50
                        clear c50
                        by_cases c51 : (t302.size : Int) = t326
                        · rw [if_pos c51] at H
                          have c51b0 : ((t302.size : Int) == t326) = true := beq_iff_eq.mpr c51
                          have c51b1 : ((t302.size : Int) != t326) = false := bne_eq_false_iff_eq.mpr c51
                          clear c51
                          obtain rfl := Option.some.inj H
                          go_wp2_with (first | ((with_reducible refine gate_callee (f := 26) rfl ?_); refine goesL_ (some 135) rfl rfl Try.func26 (by kernel_rfl) rfl #[.slice Ao28 t309.length co28, .string t305] rfl (by (try simp only [List.map_toArray, List.map_cons, List.map_nil]); first | done | rfl | (simp only [List.length_drop, List.length_take]; rfl)) ?_; (with_reducible refine (impl_ApplyOp.calls kj26 _ _ t309 t305 t333 true _ ?side1 ?side2 A48.out).mono ?_); (case side1 => repeat (first | exact (Kd.R_reads' HO_9.out).2.2 | (with_reducible refine Kd.C_alloc ?_ _) | (with_reducible refine Kd.C_drewN ?_ _) | (with_reducible refine Kd.C_drew ?_))); (case side2 => exact (Kd.R_reads' HO_9.out).2.1); rintro e w52 ⟨rfl, hb⟩; refine ⟨_, rfl, ?_⟩; have n0_ := Aside0.mk (Kd.R_below (by (with_reducible repeat (first | apply Kd.R_alloc | apply Kd.R_drewN | apply Kd.R_drew)); exact HO_9.out) hb); have n1_ := Aside0.mk (below_step (by repeat (first | (with_reducible first | exact HB.out | apply below_alloc | apply pw_below_drewN | apply below_drew1) | exact HB.out)) hb); clear HO_9; clear HB; have HO_9 := n0_; have HB := n1_; clear n0_ n1_; (try clear hb); (try clear hb2); (try clear hk); (try clear hi)))
                          go_ret
                          exact ⟨by first | rfl | (simp [errW_none, errW_some] <;> rfl) | (simp [errW_none, errW_some]; exact (show ∀ l_ : List UInt8, l_.isEmpty = !(l_ != []) from fun l_ => by cases l_ <;> rfl) _) | (simp [*, errW_none, errW_some] <;> rfl), by repeat (first | (with_reducible first | exact HB.out | apply below_alloc | apply pw_below_drewN | apply below_drew1) | exact HB.out)⟩
                        · rw [if_neg c51] at H
                          have c51b0 : ((t302.size : Int) == t326) = false := beq_eq_false_iff_ne.mpr c51
                          have c51b1 : ((t302.size : Int) != t326) = true := bne_iff_ne.mpr c51
                          obtain rfl := Option.some.inj H
                          go_wp2_with (first | ((with_reducible refine gate_callee (f := 26) rfl ?_); refine goesL_ (some 135) rfl rfl Try.func26 (by kernel_rfl) rfl #[.slice Ao28 t309.length co28, .string t305] rfl (by (try simp only [List.map_toArray, List.map_cons, List.map_nil]); first | done | rfl | (simp only [List.length_drop, List.length_take]; rfl)) ?_; (with_reducible refine (impl_ApplyOp.calls kj26 _ _ t309 t305 t333 true _ ?side1 ?side2 A48.out).mono ?_); (case side1 => repeat (first | exact (Kd.R_reads' HO_9.out).2.2 | (with_reducible refine Kd.C_alloc ?_ _) | (with_reducible refine Kd.C_drewN ?_ _) | (with_reducible refine Kd.C_drew ?_))); (case side2 => exact (Kd.R_reads' HO_9.out).2.1); rintro e w53 ⟨rfl, hb⟩; refine ⟨_, rfl, ?_⟩; have n0_ := Aside0.mk (Kd.R_below (by (with_reducible repeat (first | apply Kd.R_alloc | apply Kd.R_drewN | apply Kd.R_drew)); exact HO_9.out) hb); have n1_ := Aside0.mk (below_step (by repeat (first | (with_reducible first | exact HB.out | apply below_alloc | apply pw_below_drewN | apply below_drew1) | exact HB.out)) hb); clear HO_9; clear HB; have HO_9 := n0_; have HB := n1_; clear n0_ n1_; (try clear hb); (try clear hb2); (try clear hk); (try clear hi)))
                          go_ret
                          exact ⟨by first | rfl | (simp [errW_none, errW_some] <;> rfl) | (simp [errW_none, errW_some]; exact (show ∀ l_ : List UInt8, l_.isEmpty = !(l_ != []) from fun l_ => by cases l_ <;> rfl) _) | (simp [*, errW_none, errW_some] <;> rfl), by repeat (first | (with_reducible first | exact HB.out | apply below_alloc | apply pw_below_drewN | apply below_drew1) | exact HB.out)⟩
                      · rw [if_neg c50] at H
                        have c50b0 : (t333.toList == t302.toList) = false := beq_eq_false_iff_ne.mpr c50
                        have c50b1 : (t333.toList != t302.toList) = true := bne_iff_ne.mpr c50
                        obtain rfl := Option.some.inj H
                        go_wp2_with (first | ((with_reducible refine gate_callee (f := 26) rfl ?_); refine goesL_ (some 135) rfl rfl Try.func26 (by kernel_rfl) rfl #[.slice Ao28 t309.length co28, .string t305] rfl (by (try simp only [List.map_toArray, List.map_cons, List.map_nil]); first | done | rfl | (simp only [List.length_drop, List.length_take]; rfl)) ?_; (with_reducible refine (impl_ApplyOp.calls kj26 _ _ t309 t305 t333 true _ ?side1 ?side2 A48.out).mono ?_); (case side1 => repeat (first | exact (Kd.R_reads' HO_9.out).2.2 | (with_reducible refine Kd.C_alloc ?_ _) | (with_reducible refine Kd.C_drewN ?_ _) | (with_reducible refine Kd.C_drew ?_))); (case side2 => exact (Kd.R_reads' HO_9.out).2.1); rintro e w54 ⟨rfl, hb⟩; refine ⟨_, rfl, ?_⟩; have n0_ := Aside0.mk (Kd.R_below (by (with_reducible repeat (first | apply Kd.R_alloc | apply Kd.R_drewN | apply Kd.R_drew)); exact HO_9.out) hb); have n1_ := Aside0.mk (below_step (by repeat (first | (with_reducible first | exact HB.out | apply below_alloc | apply pw_below_drewN | apply below_drew1) | exact HB.out)) hb); clear HO_9; clear HB; have HO_9 := n0_; have HB := n1_; clear n0_ n1_; (try clear hb); (try clear hb2); (try clear hk); (try clear hi)))
                        go_ret
                        exact ⟨by first | rfl | (simp [errW_none, errW_some] <;> rfl) | (simp [errW_none, errW_some]; exact (show ∀ l_ : List UInt8, l_.isEmpty = !(l_ != []) from fun l_ => by cases l_ <;> rfl) _) | (simp [*, errW_none, errW_some] <;> rfl), by repeat (first | (with_reducible first | exact HB.out | apply below_alloc | apply pw_below_drewN | apply below_drew1) | exact HB.out)⟩
                    · replace c49 := Bool.eq_false_iff.mpr c49
                      subst c49
                      have H1 : (some false) = some r := by rw [if_neg (show ¬ (false = true) by decide)] at H; exact H
                      clear H
                      have H := H1
                      clear H1
                      obtain rfl := Option.some.inj H
                      go_wp2_with (first | ((with_reducible refine gate_callee (f := 26) rfl ?_); refine goesL_ (some 135) rfl rfl Try.func26 (by kernel_rfl) rfl #[.slice Ao28 t309.length co28, .string t305] rfl (by (try simp only [List.map_toArray, List.map_cons, List.map_nil]); first | done | rfl | (simp only [List.length_drop, List.length_take]; rfl)) ?_; (with_reducible refine (impl_ApplyOp.calls kj26 _ _ t309 t305 t333 false _ ?side1 ?side2 A48.out).mono ?_); (case side1 => repeat (first | exact (Kd.R_reads' HO_9.out).2.2 | (with_reducible refine Kd.C_alloc ?_ _) | (with_reducible refine Kd.C_drewN ?_ _) | (with_reducible refine Kd.C_drew ?_))); (case side2 => exact (Kd.R_reads' HO_9.out).2.1); rintro e w55 ⟨rfl, hb⟩; refine ⟨_, rfl, ?_⟩; have n0_ := Aside0.mk (Kd.R_below (by (with_reducible repeat (first | apply Kd.R_alloc | apply Kd.R_drewN | apply Kd.R_drew)); exact HO_9.out) hb); have n1_ := Aside0.mk (below_step (by repeat (first | (with_reducible first | exact HB.out | apply below_alloc | apply pw_below_drewN | apply below_drew1) | exact HB.out)) hb); clear HO_9; clear HB; have HO_9 := n0_; have HB := n1_; clear n0_ n1_; (try clear hb); (try clear hb2); (try clear hk); (try clear hi)))
                      go_ret
                      exact ⟨by first | rfl | (simp [errW_none, errW_some] <;> rfl) | (simp [errW_none, errW_some]; exact (show ∀ l_ : List UInt8, l_.isEmpty = !(l_ != []) from fun l_ => by cases l_ <;> rfl) _) | (simp [*, errW_none, errW_some] <;> rfl), by repeat (first | (with_reducible first | exact HB.out | apply below_alloc | apply pw_below_drewN | apply below_drew1) | exact HB.out)⟩
                  · replace c47 := Bool.eq_false_iff.mpr c47
                    subst c47
                    have H1 : (some true) = some r := by rw [if_neg (show ¬ (false = true) by decide)] at H; exact H
                    clear H
                    have H := H1
                    clear H1
                    obtain rfl := Option.some.inj H
                    go_wp2
                    go_ret
                    exact ⟨by first | rfl | (simp [errW_none, errW_some] <;> rfl) | (simp [errW_none, errW_some]; exact (show ∀ l_ : List UInt8, l_.isEmpty = !(l_ != []) from fun l_ => by cases l_ <;> rfl) _) | (simp [*, errW_none, errW_some] <;> rfl), by repeat (first | (with_reducible first | exact HB.out | apply below_alloc | apply pw_below_drewN | apply below_drew1) | exact HB.out)⟩
          · replace c22 := Bool.eq_false_iff.mpr c22
            subst c22
            have H1 : (some (!t306)) = some r := by rw [if_neg (show ¬ (false = true) by decide)] at H; exact H
            clear H
            have H := H1
            clear H1
            obtain rfl := Option.some.inj H
            go_wp2
            go_ret
            exact ⟨by first | rfl | (simp [errW_none, errW_some] <;> rfl) | (simp [errW_none, errW_some]; exact (show ∀ l_ : List UInt8, l_.isEmpty = !(l_ != []) from fun l_ => by cases l_ <;> rfl) _) | (simp [*, errW_none, errW_some] <;> rfl), by repeat (first | (with_reducible first | exact HB.out | apply below_alloc | apply pw_below_drewN | apply below_drew1) | exact HB.out)⟩

/-- THE ONE PURE STATEMENT of laws_FnInverted: yours. -/
def laws_FnInverted.Pure : Prop := ∀ (l0 : List Int), l0.length ≤ maxLen → l0.length * 1 ≤ 140737488351232 → (∀ x ∈ l0, (Lit.int .u8 x).wf = true) → ∃ k, laws_FnInverted.f k l0 = some true
theorem laws_FnInverted.walk (P : laws_FnInverted.Pure) (a0 : Option Addr) (len0 cap0 : Nat) (z0 : List Int) (w : World) (w0 : (a0 = none ∧ len0 = 0 ∧ cap0 = 0 ∧ z0 = []) ∨ ∃ x, a0 = some x ∧ len0 ≤ cap0 ∧ cap0 ≤ maxLen ∧ z0.length = cap0 ∧ (∀ i, i < z0.length → w.cell? (x.add i) = some (.int .u8 (z0.getD i 0))) ∧ ∀ n ∈ z0, (Lit.int .u8 n).wf = true) (y0 : len0 * 1 ≤ 140737488351232) :
    Calls Try.prog 11 #[.slice a0 len0 cap0] w fun e w' => e = .returned (.bool true) ∧ Below w.heap.size w w' := by
  obtain ⟨l0, rfl, hr0, hm0, hw0, hc0⟩ := ReadsInt.ofRowC w0
  obtain ⟨k, h⟩ := P l0 hm0 y0 hw0
  refine (laws_FnInverted.calls k _ _ l0 true w (Kd.C_of_reads (d := (0 : Int)) (h1 := fun _ => rfl) hr0) hc0 h).mono ?_
  rintro e w' ⟨rfl, hd⟩
  exact ⟨rfl, hd⟩

end Go.Proofs.Ytlelpomnblaciaa.PFnInverted
