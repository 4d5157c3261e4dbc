/- (thin) Written by a program of this session (wip/ovl.py) over the kit's print: plain functions with the answers of the Go functions, and the proofs that they are; no condition. -/
import Derived.Test.YtmhcmcdppimcpaaPFnPlacesx0
import Derived.Test.YtmhcmcdppimcpaaPFnPlacesx3
import Derived.Test.YtmhcmcdppimcpaaPFnPlacesx5
import Derived.Test.YtmhcmcdppimcpaaPFnPlacesx9
namespace Go.Proofs.Ytmhcmcdppimcpaa.PFnPlaces
open Go.RowKit Go.Proofs.YtmhcmcdppimcpaaW.PrintWords Go.Proofs.YtmhcmcdppimcpaaW.PrintLast Go.Proofs.YtmhcmcdppimcpaaW.PrintMore
attribute [local go_sem] max2_int min2_int max_two min_two max_three min_three max_four min_four   -- for this text's walks alone
set_option linter.unusedVariables false
set_option linter.unusedSimpArgs false
/-! ### laws_FnPlaces: function 9 -/
mutual
def laws_FnPlaces.j0 : Nat → List Int → List (S61) → Int → Int → Bool → Bool → Option (Bool)
 | 0, _, _, _, _, _, _ => none
 | k + 1, x1, x5, x6, x8, x9, x68 => if x68 = true then (some false) else (if x9 = true then ((spec_SizesOf.f k x5).bind fun bt368 => ((impl_MovePlace.f k x5 x6 false).bind fun bt371 => ((impl_MovePlace.f k x5 x6 true).bind fun bt373 => ((impl_MovePlace.f k x5 0 false).bind fun bt375 => ((impl_MovePlace.f k x5 bt368.1 true).bind fun bt377 => (if bt371.2 = true then (if bt373.2 = true then (if bt375.2 = true then (if bt377.2 = true then (if bt371.1 > bt373.1 then (laws_FnPlaces.j1 k x1 x5 x6 bt368.1 bt371.1 bt373.1 true) else (if bt375.1 = 0 then (laws_FnPlaces.j1 k x1 x5 x6 bt368.1 bt371.1 bt373.1 (bt377.1 != bt368.2.1)) else (laws_FnPlaces.j1 k x1 x5 x6 bt368.1 bt371.1 bt373.1 true))) else (laws_FnPlaces.j1 k x1 x5 x6 bt368.1 bt371.1 bt373.1 true)) else (laws_FnPlaces.j1 k x1 x5 x6 bt368.1 bt371.1 bt373.1 true)) else (laws_FnPlaces.j1 k x1 x5 x6 bt368.1 bt371.1 bt373.1 true)) else (laws_FnPlaces.j1 k x1 x5 x6 bt368.1 bt371.1 bt373.1 true))))))) else (some (x8 == 0)))
def laws_FnPlaces.j1 : Nat → List Int → List (S61) → Int → Int → Int → Int → Bool → Option (Bool)
 | 0, _, _, _, _, _, _, _ => none
 | k + 1, x1, x5, x6, x12, x15, x17, x129 => if x129 = true then (some false) else ((laws_numberOf.f k x1).bind fun t379 => (if (wrap64 (x12 + 1)) = 0 then (none) else ((impl_MovePlace.f k x5 (Int.tmod t379 (wrap64 (x12 + 1))) false).bind fun bt380 => ((impl_MovePlace.f k x5 (Int.tmod t379 (wrap64 (x12 + 1))) true).bind fun bt382 => (if bt380.2 = true then (if bt382.2 = true then (if (Int.tmod t379 (wrap64 (x12 + 1))) ≤ x6 then (if bt380.1 > x15 then (laws_FnPlaces.j2 k x5 x6 x17 true) else (if bt382.1 > x17 then (laws_FnPlaces.j2 k x5 x6 x17 true) else (if (Int.tmod t379 (wrap64 (x12 + 1))) ≥ x6 then (if bt380.1 < x15 then (laws_FnPlaces.j2 k x5 x6 x17 true) else (laws_FnPlaces.j2 k x5 x6 x17 (decide (bt382.1 < x17)))) else (laws_FnPlaces.j2 k x5 x6 x17 false)))) else (if (Int.tmod t379 (wrap64 (x12 + 1))) ≥ x6 then (if bt380.1 < x15 then (laws_FnPlaces.j2 k x5 x6 x17 true) else (laws_FnPlaces.j2 k x5 x6 x17 (decide (bt382.1 < x17)))) else (laws_FnPlaces.j2 k x5 x6 x17 false))) else (laws_FnPlaces.j2 k x5 x6 x17 true)) else (laws_FnPlaces.j2 k x5 x6 x17 true))))))
def laws_FnPlaces.j2 : Nat → List (S61) → Int → Int → Bool → Option (Bool)
 | 0, _, _, _, _ => none
 | k + 1, x5, x6, x17, x182 => if x182 = true then (some false) else ((spec_NormalOp.f k x5).bind fun bt384 => (laws_FnPlaces.l0 k x6 x17 0 0 bt384.1 (bt384.1.length : Int) 0))
def laws_FnPlaces.l0 : Nat → Int → Int → Int → Int → List (S61) → Int → Int → Option (Bool)
 | 0, _, _, _, _, _, _, _ => none
 | k + 1, x6, x17, x28, x29, x188, x189, x190 => if x190 < x189 then (if 0 ≤ x190 then (if x190 < (x188.length : Int) then (laws_FnPlaces.l1 k x6 x17 x28 x29 0 x188 x189 x190 ((rd_T61 x188 x190).f0) ((rd_T61 x188 x190).f1) ((rd_T61 x188 x190).f2)) else (none)) else (none)) else (some true)
def laws_FnPlaces.l1 : Nat → Int → Int → Int → Int → Int → List (S61) → Int → Int → Int → ByteArray → ByteArray → Option (Bool)
 | 0, _, _, _, _, _, _, _, _, _, _, _ => none
 | k + 1, x6, x17, x28, x29, x34, x188, x189, x190, x390000, x390001, x390002 => if x34 < x390000 then (if (wrap64 (x28 + x34)) = x6 then (if x17 = (wrap64 ((wrap64 (x29 + x34)) + (x390001.size : Int))) then (laws_FnPlaces.l1 k x6 x17 x28 x29 (wrap64 (x34 + 1)) x188 x189 x190 x390000 x390001 x390002) else (some false)) else (laws_FnPlaces.l1 k x6 x17 x28 x29 (wrap64 (x34 + 1)) x188 x189 x190 x390000 x390001 x390002)) else (laws_FnPlaces.l0 k x6 x17 (wrap64 (x28 + (wrap64 (x390000 + (x390002.size : Int))))) (wrap64 (x29 + (wrap64 (x390000 + (x390001.size : Int))))) x188 x189 (wrap64 (x190 + 1)))
end
def laws_FnPlaces.f (k : Nat) (l0 : List Int) (l1 : List Int) : Option (Bool) := if (wrap64 ((l0.length : Int) + (l1.length : Int))) > 1048576 then (some true) else ((spec_DrawMovePlace.f k l0).bind fun bt359 => ((impl_MovePlace.f k bt359.1 bt359.2.1 bt359.2.2).bind fun bt364 => ((spec_MovePlace.f k bt359.1 bt359.2.1 bt359.2.2).bind fun bt366 => (if (bt364.2 != bt366.2) = true then (laws_FnPlaces.j0 k l1 bt359.1 bt359.2.1 bt364.1 bt364.2 true) else (laws_FnPlaces.j0 k l1 bt359.1 bt359.2.1 bt364.1 bt364.2 (bt364.1 != bt366.1))))))
theorem laws_FnPlaces.mono_l : ∀ k, (∀ y0 y1 y2 y3 y4 y5, LeO (laws_FnPlaces.j0 k y0 y1 y2 y3 y4 y5) (laws_FnPlaces.j0 (k + 1) y0 y1 y2 y3 y4 y5)) ∧ (∀ y0 y1 y2 y3 y4 y5 y6, LeO (laws_FnPlaces.j1 k y0 y1 y2 y3 y4 y5 y6) (laws_FnPlaces.j1 (k + 1) y0 y1 y2 y3 y4 y5 y6)) ∧ (∀ y0 y1 y2 y3, LeO (laws_FnPlaces.j2 k y0 y1 y2 y3) (laws_FnPlaces.j2 (k + 1) y0 y1 y2 y3)) ∧ (∀ y0 y1 y2 y3 y4 y5 y6, LeO (laws_FnPlaces.l0 k y0 y1 y2 y3 y4 y5 y6) (laws_FnPlaces.l0 (k + 1) y0 y1 y2 y3 y4 y5 y6)) ∧ (∀ y0 y1 y2 y3 y4 y5 y6 y7 y8 y9 y10, LeO (laws_FnPlaces.l1 k y0 y1 y2 y3 y4 y5 y6 y7 y8 y9 y10) (laws_FnPlaces.l1 (k + 1) y0 y1 y2 y3 y4 y5 y6 y7 y8 y9 y10))
 | 0 => ⟨fun _ _ _ _ _ _ r h => by simp [laws_FnPlaces.j0] at h, fun _ _ _ _ _ _ _ r h => by simp [laws_FnPlaces.j1] at h, fun _ _ _ _ r h => by simp [laws_FnPlaces.j2] at h, fun _ _ _ _ _ _ _ r h => by simp [laws_FnPlaces.l0] at h, fun _ _ _ _ _ _ _ _ _ _ _ r h => by simp [laws_FnPlaces.l1] at h⟩
 | k + 1 => by
  obtain ⟨ih0, ih1, ih2, ih3, ih4⟩ := laws_FnPlaces.mono_l k
  refine ⟨?_, ?_, ?_, ?_, ?_⟩
  ·intro y0 y1 y2 y3 y4 y5
   unfold laws_FnPlaces.j0
   repeat' first
   | (with_reducible exact ih0 _ _ _ _ _ _)
   | (with_reducible exact ih1 _ _ _ _ _ _ _)
   | (with_reducible exact ih2 _ _ _ _)
   | (with_reducible exact ih3 _ _ _ _ _ _ _)
   | (with_reducible exact ih4 _ _ _ _ _ _ _ _ _ _ _)
   | (with_reducible exact impl_MovePlace.mono _ _ _ _)
   | (with_reducible exact laws_numberOf.mono _ _)
   | (with_reducible exact spec_DrawMovePlace.mono _ _)
   | (with_reducible exact spec_MovePlace.mono _ _ _ _)
   | (with_reducible exact spec_NormalOp.mono _ _)
   | (with_reducible exact spec_SizesOf.mono _ _)
   | (with_reducible exact LeO.refl _)
   | (with_reducible exact LeO.none _)
   | (with_reducible refine LeO.ite ?_ ?_)
   | (with_reducible refine LeO.bind ?_ (fun _ => ?_))
   | exact ih0 _ _ _ _ _ _
   | exact ih1 _ _ _ _ _ _ _
   | exact ih2 _ _ _ _
   | exact ih3 _ _ _ _ _ _ _
   | exact ih4 _ _ _ _ _ _ _ _ _ _ _
   | exact impl_MovePlace.mono _ _ _ _
   | exact laws_numberOf.mono _ _
   | exact spec_DrawMovePlace.mono _ _
   | exact spec_MovePlace.mono _ _ _ _
   | exact spec_NormalOp.mono _ _
   | exact spec_SizesOf.mono _ _
   | exact LeO.none _
   | refine LeO.ite ?_ ?_
   | refine LeO.bind ?_ (fun _ => ?_)
  ·intro y0 y1 y2 y3 y4 y5 y6
   unfold laws_FnPlaces.j1
   repeat' first
   | (with_reducible exact ih0 _ _ _ _ _ _)
   | (with_reducible exact ih1 _ _ _ _ _ _ _)
   | (with_reducible exact ih2 _ _ _ _)
   | (with_reducible exact ih3 _ _ _ _ _ _ _)
   | (with_reducible exact ih4 _ _ _ _ _ _ _ _ _ _ _)
   | (with_reducible exact impl_MovePlace.mono _ _ _ _)
   | (with_reducible exact laws_numberOf.mono _ _)
   | (with_reducible exact spec_DrawMovePlace.mono _ _)
   | (with_reducible exact spec_MovePlace.mono _ _ _ _)
   | (with_reducible exact spec_NormalOp.mono _ _)
   | (with_reducible exact spec_SizesOf.mono _ _)
   | (with_reducible exact LeO.refl _)
   | (with_reducible exact LeO.none _)
   | (with_reducible refine LeO.ite ?_ ?_)
   | (with_reducible refine LeO.bind ?_ (fun _ => ?_))
   | exact ih0 _ _ _ _ _ _
   | exact ih1 _ _ _ _ _ _ _
   | exact ih2 _ _ _ _
   | exact ih3 _ _ _ _ _ _ _
   | exact ih4 _ _ _ _ _ _ _ _ _ _ _
   | exact impl_MovePlace.mono _ _ _ _
   | exact laws_numberOf.mono _ _
   | exact spec_DrawMovePlace.mono _ _
   | exact spec_MovePlace.mono _ _ _ _
   | exact spec_NormalOp.mono _ _
   | exact spec_SizesOf.mono _ _
   | exact LeO.none _
   | refine LeO.ite ?_ ?_
   | refine LeO.bind ?_ (fun _ => ?_)
  ·intro y0 y1 y2 y3
   unfold laws_FnPlaces.j2
   repeat' first
   | (with_reducible exact ih0 _ _ _ _ _ _)
   | (with_reducible exact ih1 _ _ _ _ _ _ _)
   | (with_reducible exact ih2 _ _ _ _)
   | (with_reducible exact ih3 _ _ _ _ _ _ _)
   | (with_reducible exact ih4 _ _ _ _ _ _ _ _ _ _ _)
   | (with_reducible exact impl_MovePlace.mono _ _ _ _)
   | (with_reducible exact laws_numberOf.mono _ _)
   | (with_reducible exact spec_DrawMovePlace.mono _ _)
   | (with_reducible exact spec_MovePlace.mono _ _ _ _)
   | (with_reducible exact spec_NormalOp.mono _ _)
   | (with_reducible exact spec_SizesOf.mono _ _)
   | (with_reducible exact LeO.refl _)
   | (with_reducible exact LeO.none _)
   | (with_reducible refine LeO.ite ?_ ?_)
   | (with_reducible refine LeO.bind ?_ (fun _ => ?_))
   | exact ih0 _ _ _ _ _ _
   | exact ih1 _ _ _ _ _ _ _
   | exact ih2 _ _ _ _
   | exact ih3 _ _ _ _ _ _ _
   | exact ih4 _ _ _ _ _ _ _ _ _ _ _
   | exact impl_MovePlace.mono _ _ _ _
   | exact laws_numberOf.mono _ _
   | exact spec_DrawMovePlace.mono _ _
   | exact spec_MovePlace.mono _ _ _ _
   | exact spec_NormalOp.mono _ _
   | exact spec_SizesOf.mono _ _
   | exact LeO.none _
   | refine LeO.ite ?_ ?_
   | refine LeO.bind ?_ (fun _ => ?_)
  ·intro y0 y1 y2 y3 y4 y5 y6
   unfold laws_FnPlaces.l0
   repeat' first
   | (with_reducible exact ih0 _ _ _ _ _ _)
   | (with_reducible exact ih1 _ _ _ _ _ _ _)
   | (with_reducible exact ih2 _ _ _ _)
   | (with_reducible exact ih3 _ _ _ _ _ _ _)
   | (with_reducible exact ih4 _ _ _ _ _ _ _ _ _ _ _)
   | (with_reducible exact impl_MovePlace.mono _ _ _ _)
   | (with_reducible exact laws_numberOf.mono _ _)
   | (with_reducible exact spec_DrawMovePlace.mono _ _)
   | (with_reducible exact spec_MovePlace.mono _ _ _ _)
   | (with_reducible exact spec_NormalOp.mono _ _)
   | (with_reducible exact spec_SizesOf.mono _ _)
   | (with_reducible exact LeO.refl _)
   | (with_reducible exact LeO.none _)
   | (with_reducible refine LeO.ite ?_ ?_)
   | (with_reducible refine LeO.bind ?_ (fun _ => ?_))
   | exact ih0 _ _ _ _ _ _
   | exact ih1 _ _ _ _ _ _ _
   | exact ih2 _ _ _ _
   | exact ih3 _ _ _ _ _ _ _
   | exact ih4 _ _ _ _ _ _ _ _ _ _ _
   | exact impl_MovePlace.mono _ _ _ _
   | exact laws_numberOf.mono _ _
   | exact spec_DrawMovePlace.mono _ _
   | exact spec_MovePlace.mono _ _ _ _
   | exact spec_NormalOp.mono _ _
   | exact spec_SizesOf.mono _ _
   | exact LeO.none _
   | refine LeO.ite ?_ ?_
   | refine LeO.bind ?_ (fun _ => ?_)
  ·intro y0 y1 y2 y3 y4 y5 y6 y7 y8 y9 y10
   unfold laws_FnPlaces.l1
   repeat' first
   | (with_reducible exact ih0 _ _ _ _ _ _)
   | (with_reducible exact ih1 _ _ _ _ _ _ _)
   | (with_reducible exact ih2 _ _ _ _)
   | (with_reducible exact ih3 _ _ _ _ _ _ _)
   | (with_reducible exact ih4 _ _ _ _ _ _ _ _ _ _ _)
   | (with_reducible exact impl_MovePlace.mono _ _ _ _)
   | (with_reducible exact laws_numberOf.mono _ _)
   | (with_reducible exact spec_DrawMovePlace.mono _ _)
   | (with_reducible exact spec_MovePlace.mono _ _ _ _)
   | (with_reducible exact spec_NormalOp.mono _ _)
   | (with_reducible exact spec_SizesOf.mono _ _)
   | (with_reducible exact LeO.refl _)
   | (with_reducible exact LeO.none _)
   | (with_reducible refine LeO.ite ?_ ?_)
   | (with_reducible refine LeO.bind ?_ (fun _ => ?_))
   | exact ih0 _ _ _ _ _ _
   | exact ih1 _ _ _ _ _ _ _
   | exact ih2 _ _ _ _
   | exact ih3 _ _ _ _ _ _ _
   | exact ih4 _ _ _ _ _ _ _ _ _ _ _
   | exact impl_MovePlace.mono _ _ _ _
   | exact laws_numberOf.mono _ _
   | exact spec_DrawMovePlace.mono _ _
   | exact spec_MovePlace.mono _ _ _ _
   | exact spec_NormalOp.mono _ _
   | exact spec_SizesOf.mono _ _
   | exact LeO.none _
   | refine LeO.ite ?_ ?_
   | refine LeO.bind ?_ (fun _ => ?_)
theorem laws_FnPlaces.mono : ∀ a0 a1 k, LeO (laws_FnPlaces.f k a0 a1) (laws_FnPlaces.f (k + 1) a0 a1) := by
 intro a0 a1 k
 obtain ⟨ih0, ih1, ih2, ih3, ih4⟩ := laws_FnPlaces.mono_l k
 unfold laws_FnPlaces.f
 repeat' first
   | (with_reducible exact ih0 _ _ _ _ _ _)
   | (with_reducible exact ih1 _ _ _ _ _ _ _)
   | (with_reducible exact ih2 _ _ _ _)
   | (with_reducible exact ih3 _ _ _ _ _ _ _)
   | (with_reducible exact ih4 _ _ _ _ _ _ _ _ _ _ _)
   | (with_reducible exact impl_MovePlace.mono _ _ _ _)
   | (with_reducible exact laws_numberOf.mono _ _)
   | (with_reducible exact spec_DrawMovePlace.mono _ _)
   | (with_reducible exact spec_MovePlace.mono _ _ _ _)
   | (with_reducible exact spec_NormalOp.mono _ _)
   | (with_reducible exact spec_SizesOf.mono _ _)
   | (with_reducible exact LeO.refl _)
   | (with_reducible exact LeO.none _)
   | (with_reducible refine LeO.ite ?_ ?_)
   | (with_reducible refine LeO.bind ?_ (fun _ => ?_))
   | exact ih0 _ _ _ _ _ _
   | exact ih1 _ _ _ _ _ _ _
   | exact ih2 _ _ _ _
   | exact ih3 _ _ _ _ _ _ _
   | exact ih4 _ _ _ _ _ _ _ _ _ _ _
   | exact impl_MovePlace.mono _ _ _ _
   | exact laws_numberOf.mono _ _
   | exact spec_DrawMovePlace.mono _ _
   | exact spec_MovePlace.mono _ _ _ _
   | exact spec_NormalOp.mono _ _
   | exact spec_SizesOf.mono _ _
   | exact LeO.none _
   | refine LeO.ite ?_ ?_
   | refine LeO.bind ?_ (fun _ => ?_)
set_option maxHeartbeats 8000000 in
set_option maxRecDepth 100000 in
theorem laws_FnPlaces.calls (k : Nat) (A0 : Option Addr) (c0 : Nat) (l0 : List Int) (A1 : Option Addr) (c1 : Nat) (l1 : List Int) (r : Bool) (w : World) (hr0 : Kd.C (Kd.int .u8) w A0 l0.length l0) (hc0 : l0.length ≤ c0) (hr1 : Kd.C (Kd.int .u8) w A1 l1.length l1) (hc1 : l1.length ≤ c1) (h : laws_FnPlaces.f k l0 l1 = some r) :
  Calls Try.prog 9 #[.slice A0 l0.length c0, .slice A1 l1.length c1] w fun e w' => e = .returned (.bool r) ∧ Below w.heap.size w w' := by
 have hu61 := Try.underlying61
 have HR0 := Aside0.mk hr0
 have HC0 := Aside0.mk hc0
 clear hr0 hc0
 have HR1 := Aside0.mk hr1
 have HC1 := Aside0.mk hc1
 clear hr1 hc1
 have HB := Aside0.mk (Below.refl w.heap.size w)
 have H : (if (wrap64 ((l0.length : Int) + (l1.length : Int))) > 1048576 then (some true) else ((spec_DrawMovePlace.f k l0).bind fun bt359 => ((impl_MovePlace.f k bt359.1 bt359.2.1 bt359.2.2).bind fun bt364 => ((spec_MovePlace.f k bt359.1 bt359.2.1 bt359.2.2).bind fun bt366 => (if (bt364.2 != bt366.2) = true then (laws_FnPlaces.j0 k l1 bt359.1 bt359.2.1 bt364.1 bt364.2 true) else (laws_FnPlaces.j0 k l1 bt359.1 bt359.2.1 bt364.1 bt364.2 (bt364.1 != bt366.1))))))) = some r := h
 clear h
 by_cases c3 : (wrap64 ((l0.length : Int) + (l1.length : Int))) > 1048576
 ·rw [if_pos c3] at H
  have c3b0 : decide (1048576 < (wrap64 ((l0.length : Int) + (l1.length : Int)))) = true := decide_eq_true c3
  clear c3
  obtain rfl := Option.some.inj H
  go_enter Try.func9, Try.ntmps9
  go_wp2
  go_ret
  exact ⟨by first | rfl | (simp [errW_none, errW_some] <;> rfl) | (simp [errW_none, errW_some]; exact (show ∀ l_ : List UInt8, l_.isEmpty = !(l_ != []) from fun l_ => by cases l_ <;> rfl) _) | (simp [errW_none, errW_some]; exact (show ∀ l_ : List UInt8, l_.isEmpty = !(l_ != []) from fun l_ => by cases l_ <;> rfl) _) | (simp [*, errW_none, errW_some] <;> rfl), by repeat (first | (with_reducible first | exact HB.out | apply below_alloc | apply pw_below_drewN | apply below_drew1) | exact HB.out)⟩
 ·rw [if_neg c3] at H
  have c3b0 : decide (1048576 < (wrap64 ((l0.length : Int) + (l1.length : Int)))) = false := decide_eq_false c3
  clear c3
  replace H := Option.bind_eq_some_iff.mp H
  obtain ⟨⟨t359, t360, t361⟩, A40, H⟩ := H
  replace H : ((impl_MovePlace.f k t359 t360 t361).bind fun bt364 => ((spec_MovePlace.f k t359 t360 t361).bind fun bt366 => (if (bt364.2 != bt366.2) = true then (laws_FnPlaces.j0 k l1 t359 t360 bt364.1 bt364.2 true) else (laws_FnPlaces.j0 k l1 t359 t360 bt364.1 bt364.2 (bt364.1 != bt366.1))))) = some r := H
  have A4 := Aside0.mk A40
  clear A40
  replace H := Option.bind_eq_some_iff.mp H
  obtain ⟨⟨t364, t365⟩, A50, H⟩ := H
  replace H : ((spec_MovePlace.f k t359 t360 t361).bind fun bt366 => (if (t365 != bt366.2) = true then (laws_FnPlaces.j0 k l1 t359 t360 t364 t365 true) else (laws_FnPlaces.j0 k l1 t359 t360 t364 t365 (t364 != bt366.1)))) = some r := H
  have A5 := Aside0.mk A50
  clear A50
  replace H := Option.bind_eq_some_iff.mp H
  obtain ⟨⟨t366, t367⟩, A60, H⟩ := H
  replace H : (if (t365 != t367) = true then (laws_FnPlaces.j0 k l1 t359 t360 t364 t365 true) else (laws_FnPlaces.j0 k l1 t359 t360 t364 t365 (t364 != t366))) = some r := H
  have A6 := Aside0.mk A60
  clear A60
  have HC7 := Aside0.mk H
  clear H
  go_enter Try.func9, Try.ntmps9
  go_upto_region 6 with (first | ((with_reducible refine gate_callee (f := 35) rfl ?_); refine goesL_ (some 43) rfl rfl Try.func35 (by kernel_rfl) rfl #[.slice A0 l0.length c0] rfl (by first | rfl | (simp only [List.map_toArray, List.map_cons, List.map_nil]; rfl)) ?_; (with_reducible refine (spec_DrawMovePlace.calls k _ _ l0 t359 t360 t361 _ ?side1 ?side2 A4.out).mono ?_); (case side1 => repeat (first | exact HR0.out | (with_reducible refine Kd.C_alloc ?_ _) | (with_reducible refine Kd.C_drewN ?_ _) | (with_reducible refine Kd.C_drew ?_))); (case side2 => exact HC0.out); rintro e w8 ⟨v362, rfl, ho0, hb⟩; refine ⟨_, rfl, ?_⟩; have n0_ := Aside0.mk (Kd.R_lower ho0 (below_size (by repeat (first | (with_reducible first | exact HB.out | apply below_alloc | apply pw_below_drewN | apply below_drew1) | exact HB.out)))); have n1_ := Aside0.mk (below_step (by repeat (first | (with_reducible first | exact HB.out | apply below_alloc | apply pw_below_drewN | apply below_drew1) | exact HB.out)) hb); clear HB; have HO363 := n0_; have HB := n1_; clear n0_ n1_; (try clear hb); (try clear hb2); (try clear hk); (try clear hi); (try clear ho0); obtain ⟨Ao9, co9, eo9⟩ := Kd.R_slice HO363.out; subst eo9) | ((with_reducible refine gate_callee (f := 34) rfl ?_); refine goesL_ (some 51) rfl rfl Try.func34 (by kernel_rfl) rfl #[.slice Ao9 t359.length co9, .int .i64 t360, .bool t361] rfl (by first | rfl | (simp only [List.map_toArray, List.map_cons, List.map_nil]; rfl)) ?_; (with_reducible refine (impl_MovePlace.calls k _ _ t359 t360 t361 t364 t365 _ ?side1 ?side2 A5.out).mono ?_); (case side1 => repeat (first | exact (Kd.R_reads' HO363.out).2.2 | (with_reducible refine Kd.C_alloc ?_ _) | (with_reducible refine Kd.C_drewN ?_ _) | (with_reducible refine Kd.C_drew ?_))); (case side2 => exact (Kd.R_reads' HO363.out).2.1); rintro e w10 ⟨rfl, hb⟩; refine ⟨_, rfl, ?_⟩; have n0_ := Aside0.mk (Kd.R_below (by (with_reducible repeat (first | apply Kd.R_alloc | apply Kd.R_drewN | apply Kd.R_drew)); exact HO363.out) hb); have n1_ := Aside0.mk (below_step (by repeat (first | (with_reducible first | exact HB.out | apply below_alloc | apply pw_below_drewN | apply below_drew1) | exact HB.out)) hb); clear HO363; clear HB; have HO363 := n0_; have HB := n1_; clear n0_ n1_; (try clear hb); (try clear hb2); (try clear hk); (try clear hi)) | ((with_reducible refine gate_callee (f := 33) rfl ?_); refine goesL_ (some 58) rfl rfl Try.func33 (by kernel_rfl) rfl #[.slice Ao9 t359.length co9, .int .i64 t360, .bool t361] rfl (by first | rfl | (simp only [List.map_toArray, List.map_cons, List.map_nil]; rfl)) ?_; (with_reducible refine (spec_MovePlace.calls k _ _ t359 t360 t361 t366 t367 _ ?side1 ?side2 A6.out).mono ?_); (case side1 => repeat (first | exact (Kd.R_reads' HO363.out).2.2 | (with_reducible refine Kd.C_alloc ?_ _) | (with_reducible refine Kd.C_drewN ?_ _) | (with_reducible refine Kd.C_drew ?_))); (case side2 => exact (Kd.R_reads' HO363.out).2.1); rintro e w11 ⟨rfl, hb⟩; refine ⟨_, rfl, ?_⟩; have n0_ := Aside0.mk (Kd.R_below (by (with_reducible repeat (first | apply Kd.R_alloc | apply Kd.R_drewN | apply Kd.R_drew)); exact HO363.out) hb); have n1_ := Aside0.mk (below_step (by repeat (first | (with_reducible first | exact HB.out | apply below_alloc | apply pw_below_drewN | apply below_drew1) | exact HB.out)) hb); clear HO363; clear HB; have HO363 := n0_; have HB := n1_; clear n0_ n1_; (try clear hb); (try clear hb2); (try clear hk); (try clear hi)))
  (try simp only [Act.put, List.setIfInBounds_toArray, List.set_cons_zero, List.set_cons_succ])
  go_cut [68] (fun v68 wc => ∃ (kq : Nat) (x68_6 : Bool), v68 = .bool x68_6 ∧ Aside0 (laws_FnPlaces.j0 kq l1 t359 t360 t364 t365 x68_6 = some r) ∧ Aside0 (kq ≤ k) ∧ Aside0 (Kd.R k61 61 wc w.heap.size (fun _ => True) (.slice Ao9 t359.length co9) t359) ∧ Aside0 (Below w.heap.size w wc))
  case first => as_aux_lemma =>
   have H := HC7.out
   clear HC7
   by_cases c12 : (t365 != t367) = true
   ·rw [if_pos c12] at H
    have c12b0 : (t365 != t367) = true := c12
    (try (have c12b1 : decide (t365 = t367) = false := by simpa using c12))
    (try (have c12b2 : (t365 == t367) = false := by simpa using c12))
    (try (have c12b3 : ¬ (t365 = t367) := by simpa using c12))
    clear c12
    (first | rw [c12b0] | (simp only [i64_w, i32_w]; rw [c12b0]) | rw [c12e] | skip)
    have H' := Aside0.mk H
    clear H
    go_wp2
    go_meet
    case rel => exact ⟨_, (true), (by first | rfl | (simp; done) | (simp [*]; done)), H', ⟨by first | omega | exact Nat.le_refl _⟩, ⟨by (with_reducible repeat (first | apply Kd.R_alloc | apply Kd.R_drewN | apply Kd.R_drew)); exact HO363.out⟩, ⟨by repeat (first | (with_reducible first | exact HB.out | apply below_alloc | apply pw_below_drewN | apply below_drew1) | exact HB.out)⟩⟩
   ·rw [if_neg c12] at H
    have c12b0 : (t365 != t367) = false := by simpa using c12
    (try (have c12b1 : decide (t365 = t367) = true := by simpa using c12))
    (try (have c12b2 : (t365 == t367) = true := by simpa using c12))
    clear c12
    (first | rw [c12b0] | (simp only [i64_w, i32_w]; rw [c12b0]) | rw [c12e] | skip)
    have H' := Aside0.mk H
    clear H
    go_wp2
    go_meet
    case rel => exact ⟨_, ((t364 != t366)), (by first | rfl | (simp; done) | (simp [*]; done)), H', ⟨by first | omega | exact Nat.le_refl _⟩, ⟨by (with_reducible repeat (first | apply Kd.R_alloc | apply Kd.R_drewN | apply Kd.R_drew)); exact HO363.out⟩, ⟨by repeat (first | (with_reducible first | exact HB.out | apply below_alloc | apply pw_below_drewN | apply below_drew1) | exact HB.out)⟩⟩
  case rest => as_aux_lemma =>
   clear HC7
   try clear c1
   try clear p2
   try clear c3
   try clear c3b0
   try clear p6
   try clear c9
   try clear c12
   try clear c12b0
   try clear c12b1
   try clear c12b2
   obtain ⟨kq, x68_6, rfl, HA, HJ6, HO_5, HB⟩ := hcut
   cases kq with
   | zero => exact absurd HA.out (by simp [laws_FnPlaces.j0])
   | succ kj6 =>
    have H := HA.out
    clear HA
    simp only [laws_FnPlaces.j0] at H
    by_cases c13 : x68_6 = true
    ·subst c13
     have H1 : (some false) = some r := by rw [if_pos rfl] at H; exact H
     clear H
     have H := H1
     clear H1
     obtain rfl := Option.some.inj H
     go_wp2
     go_ret
     exact ⟨by first | rfl | (simp [errW_none, errW_some] <;> rfl) | (simp [errW_none, errW_some]; exact (show ∀ l_ : List UInt8, l_.isEmpty = !(l_ != []) from fun l_ => by cases l_ <;> rfl) _) | (simp [errW_none, errW_some]; exact (show ∀ l_ : List UInt8, l_.isEmpty = !(l_ != []) from fun l_ => by cases l_ <;> rfl) _) | (simp [*, errW_none, errW_some] <;> rfl), by repeat (first | (with_reducible first | exact HB.out | apply below_alloc | apply pw_below_drewN | apply below_drew1) | exact HB.out)⟩
    ·replace c13 := Bool.eq_false_iff.mpr c13
     subst c13
     have H1 : (if t365 = true then ((spec_SizesOf.f kj6 t359).bind fun bt368 => ((impl_MovePlace.f kj6 t359 t360 false).bind fun bt371 => ((impl_MovePlace.f kj6 t359 t360 true).bind fun bt373 => ((impl_MovePlace.f kj6 t359 0 false).bind fun bt375 => ((impl_MovePlace.f kj6 t359 bt368.1 true).bind fun bt377 => (if bt371.2 = true then (if bt373.2 = true then (if bt375.2 = true then (if bt377.2 = true then (if bt371.1 > bt373.1 then (laws_FnPlaces.j1 kj6 l1 t359 t360 bt368.1 bt371.1 bt373.1 true) else (if bt375.1 = 0 then (laws_FnPlaces.j1 kj6 l1 t359 t360 bt368.1 bt371.1 bt373.1 (bt377.1 != bt368.2.1)) else (laws_FnPlaces.j1 kj6 l1 t359 t360 bt368.1 bt371.1 bt373.1 true))) else (laws_FnPlaces.j1 kj6 l1 t359 t360 bt368.1 bt371.1 bt373.1 true)) else (laws_FnPlaces.j1 kj6 l1 t359 t360 bt368.1 bt371.1 bt373.1 true)) else (laws_FnPlaces.j1 kj6 l1 t359 t360 bt368.1 bt371.1 bt373.1 true)) else (laws_FnPlaces.j1 kj6 l1 t359 t360 bt368.1 bt371.1 bt373.1 true))))))) else (some (t364 == 0))) = some r := by rw [if_neg (show ¬ (false = true) by decide)] at H; exact H
     clear H
     have H := H1
     clear H1
     by_cases c14 : t365 = true
     ·subst c14
      have H1 : ((spec_SizesOf.f kj6 t359).bind fun bt368 => ((impl_MovePlace.f kj6 t359 t360 false).bind fun bt371 => ((impl_MovePlace.f kj6 t359 t360 true).bind fun bt373 => ((impl_MovePlace.f kj6 t359 0 false).bind fun bt375 => ((impl_MovePlace.f kj6 t359 bt368.1 true).bind fun bt377 => (if bt371.2 = true then (if bt373.2 = true then (if bt375.2 = true then (if bt377.2 = true then (if bt371.1 > bt373.1 then (laws_FnPlaces.j1 kj6 l1 t359 t360 bt368.1 bt371.1 bt373.1 true) else (if bt375.1 = 0 then (laws_FnPlaces.j1 kj6 l1 t359 t360 bt368.1 bt371.1 bt373.1 (bt377.1 != bt368.2.1)) else (laws_FnPlaces.j1 kj6 l1 t359 t360 bt368.1 bt371.1 bt373.1 true))) else (laws_FnPlaces.j1 kj6 l1 t359 t360 bt368.1 bt371.1 bt373.1 true)) else (laws_FnPlaces.j1 kj6 l1 t359 t360 bt368.1 bt371.1 bt373.1 true)) else (laws_FnPlaces.j1 kj6 l1 t359 t360 bt368.1 bt371.1 bt373.1 true)) else (laws_FnPlaces.j1 kj6 l1 t359 t360 bt368.1 bt371.1 bt373.1 true))))))) = some r := by rw [if_pos rfl] at H; exact H
      clear H
      have H := H1
      clear H1
      replace H := Option.bind_eq_some_iff.mp H
      obtain ⟨⟨t368, t369, t370⟩, A150, H⟩ := H
      replace H : ((impl_MovePlace.f kj6 t359 t360 false).bind fun bt371 => ((impl_MovePlace.f kj6 t359 t360 true).bind fun bt373 => ((impl_MovePlace.f kj6 t359 0 false).bind fun bt375 => ((impl_MovePlace.f kj6 t359 t368 true).bind fun bt377 => (if bt371.2 = true then (if bt373.2 = true then (if bt375.2 = true then (if bt377.2 = true then (if bt371.1 > bt373.1 then (laws_FnPlaces.j1 kj6 l1 t359 t360 t368 bt371.1 bt373.1 true) else (if bt375.1 = 0 then (laws_FnPlaces.j1 kj6 l1 t359 t360 t368 bt371.1 bt373.1 (bt377.1 != t369)) else (laws_FnPlaces.j1 kj6 l1 t359 t360 t368 bt371.1 bt373.1 true))) else (laws_FnPlaces.j1 kj6 l1 t359 t360 t368 bt371.1 bt373.1 true)) else (laws_FnPlaces.j1 kj6 l1 t359 t360 t368 bt371.1 bt373.1 true)) else (laws_FnPlaces.j1 kj6 l1 t359 t360 t368 bt371.1 bt373.1 true)) else (laws_FnPlaces.j1 kj6 l1 t359 t360 t368 bt371.1 bt373.1 true)))))) = some r := H
      have A15 := Aside0.mk A150
      clear A150
      replace H := Option.bind_eq_some_iff.mp H
      obtain ⟨⟨t371, t372⟩, A160, H⟩ := H
      replace H : ((impl_MovePlace.f kj6 t359 t360 true).bind fun bt373 => ((impl_MovePlace.f kj6 t359 0 false).bind fun bt375 => ((impl_MovePlace.f kj6 t359 t368 true).bind fun bt377 => (if t372 = true then (if bt373.2 = true then (if bt375.2 = true then (if bt377.2 = true then (if t371 > bt373.1 then (laws_FnPlaces.j1 kj6 l1 t359 t360 t368 t371 bt373.1 true) else (if bt375.1 = 0 then (laws_FnPlaces.j1 kj6 l1 t359 t360 t368 t371 bt373.1 (bt377.1 != t369)) else (laws_FnPlaces.j1 kj6 l1 t359 t360 t368 t371 bt373.1 true))) else (laws_FnPlaces.j1 kj6 l1 t359 t360 t368 t371 bt373.1 true)) else (laws_FnPlaces.j1 kj6 l1 t359 t360 t368 t371 bt373.1 true)) else (laws_FnPlaces.j1 kj6 l1 t359 t360 t368 t371 bt373.1 true)) else (laws_FnPlaces.j1 kj6 l1 t359 t360 t368 t371 bt373.1 true))))) = some r := H
      have A16 := Aside0.mk A160
      clear A160
      replace H := Option.bind_eq_some_iff.mp H
      obtain ⟨⟨t373, t374⟩, A170, H⟩ := H
      replace H : ((impl_MovePlace.f kj6 t359 0 false).bind fun bt375 => ((impl_MovePlace.f kj6 t359 t368 true).bind fun bt377 => (if t372 = true then (if t374 = true then (if bt375.2 = true then (if bt377.2 = true then (if t371 > t373 then (laws_FnPlaces.j1 kj6 l1 t359 t360 t368 t371 t373 true) else (if bt375.1 = 0 then (laws_FnPlaces.j1 kj6 l1 t359 t360 t368 t371 t373 (bt377.1 != t369)) else (laws_FnPlaces.j1 kj6 l1 t359 t360 t368 t371 t373 true))) else (laws_FnPlaces.j1 kj6 l1 t359 t360 t368 t371 t373 true)) else (laws_FnPlaces.j1 kj6 l1 t359 t360 t368 t371 t373 true)) else (laws_FnPlaces.j1 kj6 l1 t359 t360 t368 t371 t373 true)) else (laws_FnPlaces.j1 kj6 l1 t359 t360 t368 t371 t373 true)))) = some r := H
      have A17 := Aside0.mk A170
      clear A170
      replace H := Option.bind_eq_some_iff.mp H
      obtain ⟨⟨t375, t376⟩, A180, H⟩ := H
      replace H : ((impl_MovePlace.f kj6 t359 t368 true).bind fun bt377 => (if t372 = true then (if t374 = true then (if t376 = true then (if bt377.2 = true then (if t371 > t373 then (laws_FnPlaces.j1 kj6 l1 t359 t360 t368 t371 t373 true) else (if t375 = 0 then (laws_FnPlaces.j1 kj6 l1 t359 t360 t368 t371 t373 (bt377.1 != t369)) else (laws_FnPlaces.j1 kj6 l1 t359 t360 t368 t371 t373 true))) else (laws_FnPlaces.j1 kj6 l1 t359 t360 t368 t371 t373 true)) else (laws_FnPlaces.j1 kj6 l1 t359 t360 t368 t371 t373 true)) else (laws_FnPlaces.j1 kj6 l1 t359 t360 t368 t371 t373 true)) else (laws_FnPlaces.j1 kj6 l1 t359 t360 t368 t371 t373 true))) = some r := H
      have A18 := Aside0.mk A180
      clear A180
      replace H := Option.bind_eq_some_iff.mp H
      obtain ⟨⟨t377, t378⟩, A190, H⟩ := H
      replace H : (if t372 = true then (if t374 = true then (if t376 = true then (if t378 = true then (if t371 > t373 then (laws_FnPlaces.j1 kj6 l1 t359 t360 t368 t371 t373 true) else (if t375 = 0 then (laws_FnPlaces.j1 kj6 l1 t359 t360 t368 t371 t373 (t377 != t369)) else (laws_FnPlaces.j1 kj6 l1 t359 t360 t368 t371 t373 true))) else (laws_FnPlaces.j1 kj6 l1 t359 t360 t368 t371 t373 true)) else (laws_FnPlaces.j1 kj6 l1 t359 t360 t368 t371 t373 true)) else (laws_FnPlaces.j1 kj6 l1 t359 t360 t368 t371 t373 true)) else (laws_FnPlaces.j1 kj6 l1 t359 t360 t368 t371 t373 true)) = some r := H
      have A19 := Aside0.mk A190
      clear A190
      have HC20 := Aside0.mk H
      clear H
      go_upto_region 15 with (first | ((with_reducible refine gate_callee (f := 36) rfl ?_); refine goesL_ (some 75) rfl rfl Try.func36 (by kernel_rfl) rfl #[.slice Ao9 t359.length co9] rfl (by first | rfl | (simp only [List.map_toArray, List.map_cons, List.map_nil]; rfl)) ?_; (with_reducible refine (spec_SizesOf.calls kj6 _ _ t359 t368 t369 t370 _ ?side1 ?side2 A15.out).mono ?_); (case side1 => repeat (first | exact (Kd.R_reads' HO_5.out).2.2 | (with_reducible refine Kd.C_alloc ?_ _) | (with_reducible refine Kd.C_drewN ?_ _) | (with_reducible refine Kd.C_drew ?_))); (case side2 => exact (Kd.R_reads' HO_5.out).2.1); rintro e w21 ⟨rfl, hb⟩; refine ⟨_, rfl, ?_⟩; have n0_ := Aside0.mk (Kd.R_below (by (with_reducible repeat (first | apply Kd.R_alloc | apply Kd.R_drewN | apply Kd.R_drew)); exact HO_5.out) hb); have n1_ := Aside0.mk (below_step (by repeat (first | (with_reducible first | exact HB.out | apply below_alloc | apply pw_below_drewN | apply below_drew1) | exact HB.out)) hb); clear HO_5; clear HB; have HO_5 := n0_; have HB := n1_; clear n0_ n1_; (try clear hb); (try clear hb2); (try clear hk); (try clear hi)) | ((with_reducible refine gate_callee (f := 34) rfl ?_); refine goesL_ (some 82) rfl rfl Try.func34 (by kernel_rfl) rfl #[.slice Ao9 t359.length co9, .int .i64 t360, .bool false] rfl (by first | rfl | (simp only [List.map_toArray, List.map_cons, List.map_nil]; rfl)) ?_; (with_reducible refine (impl_MovePlace.calls kj6 _ _ t359 t360 false t371 t372 _ ?side1 ?side2 A16.out).mono ?_); (case side1 => repeat (first | exact (Kd.R_reads' HO_5.out).2.2 | (with_reducible refine Kd.C_alloc ?_ _) | (with_reducible refine Kd.C_drewN ?_ _) | (with_reducible refine Kd.C_drew ?_))); (case side2 => exact (Kd.R_reads' HO_5.out).2.1); rintro e w22 ⟨rfl, hb⟩; refine ⟨_, rfl, ?_⟩; have n0_ := Aside0.mk (Kd.R_below (by (with_reducible repeat (first | apply Kd.R_alloc | apply Kd.R_drewN | apply Kd.R_drew)); exact HO_5.out) hb); have n1_ := Aside0.mk (below_step (by repeat (first | (with_reducible first | exact HB.out | apply below_alloc | apply pw_below_drewN | apply below_drew1) | exact HB.out)) hb); clear HO_5; clear HB; have HO_5 := n0_; have HB := n1_; clear n0_ n1_; (try clear hb); (try clear hb2); (try clear hk); (try clear hi)) | ((with_reducible refine gate_callee (f := 34) rfl ?_); refine goesL_ (some 88) rfl rfl Try.func34 (by kernel_rfl) rfl #[.slice Ao9 t359.length co9, .int .i64 t360, .bool true] rfl (by first | rfl | (simp only [List.map_toArray, List.map_cons, List.map_nil]; rfl)) ?_; (with_reducible refine (impl_MovePlace.calls kj6 _ _ t359 t360 true t373 t374 _ ?side1 ?side2 A17.out).mono ?_); (case side1 => repeat (first | exact (Kd.R_reads' HO_5.out).2.2 | (with_reducible refine Kd.C_alloc ?_ _) | (with_reducible refine Kd.C_drewN ?_ _) | (with_reducible refine Kd.C_drew ?_))); (case side2 => exact (Kd.R_reads' HO_5.out).2.1); rintro e w23 ⟨rfl, hb⟩; refine ⟨_, rfl, ?_⟩; have n0_ := Aside0.mk (Kd.R_below (by (with_reducible repeat (first | apply Kd.R_alloc | apply Kd.R_drewN | apply Kd.R_drew)); exact HO_5.out) hb); have n1_ := Aside0.mk (below_step (by repeat (first | (with_reducible first | exact HB.out | apply below_alloc | apply pw_below_drewN | apply below_drew1) | exact HB.out)) hb); clear HO_5; clear HB; have HO_5 := n0_; have HB := n1_; clear n0_ n1_; (try clear hb); (try clear hb2); (try clear hk); (try clear hi)) | ((with_reducible refine gate_callee (f := 34) rfl ?_); refine goesL_ (some 93) rfl rfl Try.func34 (by kernel_rfl) rfl #[.slice Ao9 t359.length co9, .int .i64 0, .bool false] rfl (by first | rfl | (simp only [List.map_toArray, List.map_cons, List.map_nil]; rfl)) ?_; (with_reducible refine (impl_MovePlace.calls kj6 _ _ t359 0 false t375 t376 _ ?side1 ?side2 A18.out).mono ?_); (case side1 => repeat (first | exact (Kd.R_reads' HO_5.out).2.2 | (with_reducible refine Kd.C_alloc ?_ _) | (with_reducible refine Kd.C_drewN ?_ _) | (with_reducible refine Kd.C_drew ?_))); (case side2 => exact (Kd.R_reads' HO_5.out).2.1); rintro e w24 ⟨rfl, hb⟩; refine ⟨_, rfl, ?_⟩; have n0_ := Aside0.mk (Kd.R_below (by (with_reducible repeat (first | apply Kd.R_alloc | apply Kd.R_drewN | apply Kd.R_drew)); exact HO_5.out) hb); have n1_ := Aside0.mk (below_step (by repeat (first | (with_reducible first | exact HB.out | apply below_alloc | apply pw_below_drewN | apply below_drew1) | exact HB.out)) hb); clear HO_5; clear HB; have HO_5 := n0_; have HB := n1_; clear n0_ n1_; (try clear hb); (try clear hb2); (try clear hk); (try clear hi)) | ((with_reducible refine gate_callee (f := 34) rfl ?_); refine goesL_ (some 99) rfl rfl Try.func34 (by kernel_rfl) rfl #[.slice Ao9 t359.length co9, .int .i64 t368, .bool true] rfl (by first | rfl | (simp only [List.map_toArray, List.map_cons, List.map_nil]; rfl)) ?_; (with_reducible refine (impl_MovePlace.calls kj6 _ _ t359 t368 true t377 t378 _ ?side1 ?side2 A19.out).mono ?_); (case side1 => repeat (first | exact (Kd.R_reads' HO_5.out).2.2 | (with_reducible refine Kd.C_alloc ?_ _) | (with_reducible refine Kd.C_drewN ?_ _) | (with_reducible refine Kd.C_drew ?_))); (case side2 => exact (Kd.R_reads' HO_5.out).2.1); rintro e w25 ⟨rfl, hb⟩; refine ⟨_, rfl, ?_⟩; have n0_ := Aside0.mk (Kd.R_below (by (with_reducible repeat (first | apply Kd.R_alloc | apply Kd.R_drewN | apply Kd.R_drew)); exact HO_5.out) hb); have n1_ := Aside0.mk (below_step (by repeat (first | (with_reducible first | exact HB.out | apply below_alloc | apply pw_below_drewN | apply below_drew1) | exact HB.out)) hb); clear HO_5; clear HB; have HO_5 := n0_; have HB := n1_; clear n0_ n1_; (try clear hb); (try clear hb2); (try clear hk); (try clear hi)))
      (try simp only [Act.put, List.setIfInBounds_toArray, List.set_cons_zero, List.set_cons_succ])
      go_cut [129] (fun v129 wc => ∃ (kq : Nat) (x129_19 : Bool), v129 = .bool x129_19 ∧ Aside0 (laws_FnPlaces.j1 kq l1 t359 t360 t368 t371 t373 x129_19 = some r) ∧ Aside0 (kq ≤ kj6) ∧ Aside0 (Kd.R k61 61 wc w.heap.size (fun _ => True) (.slice Ao9 t359.length co9) t359) ∧ Aside0 (Below w.heap.size w wc))
      case first => as_aux_lemma =>
       have H := HC20.out
       clear HC20
       by_cases c26 : t372 = true
       ·subst c26
        have H1 : (if t374 = true then (if t376 = true then (if t378 = true then (if t371 > t373 then (laws_FnPlaces.j1 kj6 l1 t359 t360 t368 t371 t373 true) else (if t375 = 0 then (laws_FnPlaces.j1 kj6 l1 t359 t360 t368 t371 t373 (t377 != t369)) else (laws_FnPlaces.j1 kj6 l1 t359 t360 t368 t371 t373 true))) else (laws_FnPlaces.j1 kj6 l1 t359 t360 t368 t371 t373 true)) else (laws_FnPlaces.j1 kj6 l1 t359 t360 t368 t371 t373 true)) else (laws_FnPlaces.j1 kj6 l1 t359 t360 t368 t371 t373 true)) = some r := by rw [if_pos rfl] at H; exact H
        clear H
        have H := H1
        clear H1
        by_cases c27 : t374 = true
        ·subst c27
         have H1 : (if t376 = true then (if t378 = true then (if t371 > t373 then (laws_FnPlaces.j1 kj6 l1 t359 t360 t368 t371 t373 true) else (if t375 = 0 then (laws_FnPlaces.j1 kj6 l1 t359 t360 t368 t371 t373 (t377 != t369)) else (laws_FnPlaces.j1 kj6 l1 t359 t360 t368 t371 t373 true))) else (laws_FnPlaces.j1 kj6 l1 t359 t360 t368 t371 t373 true)) else (laws_FnPlaces.j1 kj6 l1 t359 t360 t368 t371 t373 true)) = some r := by rw [if_pos rfl] at H; exact H
         clear H
         have H := H1
         clear H1
         by_cases c28 : t376 = true
         ·subst c28
          have H1 : (if t378 = true then (if t371 > t373 then (laws_FnPlaces.j1 kj6 l1 t359 t360 t368 t371 t373 true) else (if t375 = 0 then (laws_FnPlaces.j1 kj6 l1 t359 t360 t368 t371 t373 (t377 != t369)) else (laws_FnPlaces.j1 kj6 l1 t359 t360 t368 t371 t373 true))) else (laws_FnPlaces.j1 kj6 l1 t359 t360 t368 t371 t373 true)) = some r := by rw [if_pos rfl] at H; exact H
          clear H
          have H := H1
          clear H1
          by_cases c29 : t378 = true
          ·subst c29
           have H1 : (if t371 > t373 then (laws_FnPlaces.j1 kj6 l1 t359 t360 t368 t371 t373 true) else (if t375 = 0 then (laws_FnPlaces.j1 kj6 l1 t359 t360 t368 t371 t373 (t377 != t369)) else (laws_FnPlaces.j1 kj6 l1 t359 t360 t368 t371 t373 true))) = some r := by rw [if_pos rfl] at H; exact H
           clear H
           have H := H1
           clear H1
           by_cases c30 : t371 > t373
           ·rw [if_pos c30] at H
            have c30b0 : decide (t373 < t371) = true := decide_eq_true c30
            clear c30
            (first | rw [c30b0] | (simp only [i64_w, i32_w]; rw [c30b0]) | rw [c30e] | skip)
            have H' := Aside0.mk H
            clear H
            go_wp2
            go_meet
            case rel => exact ⟨_, (true), (by first | rfl | (simp; done) | (simp [*]; done)), H', ⟨by have := HJ6.out; first | omega | exact Nat.le_refl _⟩, ⟨by (with_reducible repeat (first | apply Kd.R_alloc | apply Kd.R_drewN | apply Kd.R_drew)); exact HO_5.out⟩, ⟨by repeat (first | (with_reducible first | exact HB.out | apply below_alloc | apply pw_below_drewN | apply below_drew1) | exact HB.out)⟩⟩
           ·rw [if_neg c30] at H
            have c30b0 : decide (t373 < t371) = false := decide_eq_false c30
            clear c30
            (first | rw [c30b0] | (simp only [i64_w, i32_w]; rw [c30b0]) | rw [c30e] | skip)
            by_cases c31 : t375 = 0
            ·rw [if_pos c31] at H
             have c31b0 : (t375 == 0) = true := beq_iff_eq.mpr c31
             have c31b1 : (t375 != 0) = false := bne_eq_false_iff_eq.mpr c31
             clear c31
             have H' := Aside0.mk H
             clear H
             go_wp2
             go_meet
             case rel => exact ⟨_, ((t377 != t369)), (by first | rfl | (simp; done) | (simp [*]; done)), H', ⟨by have := HJ6.out; first | omega | exact Nat.le_refl _⟩, ⟨by (with_reducible repeat (first | apply Kd.R_alloc | apply Kd.R_drewN | apply Kd.R_drew)); exact HO_5.out⟩, ⟨by repeat (first | (with_reducible first | exact HB.out | apply below_alloc | apply pw_below_drewN | apply below_drew1) | exact HB.out)⟩⟩
            ·rw [if_neg c31] at H
             have c31b0 : (t375 == 0) = false := beq_eq_false_iff_ne.mpr c31
             have c31b1 : (t375 != 0) = true := bne_iff_ne.mpr c31
             have H' := Aside0.mk H
             clear H
             go_wp2
             go_meet
             case rel => exact ⟨_, (true), (by first | rfl | (simp; done) | (simp [*]; done)), H', ⟨by have := HJ6.out; first | omega | exact Nat.le_refl _⟩, ⟨by (with_reducible repeat (first | apply Kd.R_alloc | apply Kd.R_drewN | apply Kd.R_drew)); exact HO_5.out⟩, ⟨by repeat (first | (with_reducible first | exact HB.out | apply below_alloc | apply pw_below_drewN | apply below_drew1) | exact HB.out)⟩⟩
          ·replace c29 := Bool.eq_false_iff.mpr c29
           subst c29
           have H1 : (laws_FnPlaces.j1 kj6 l1 t359 t360 t368 t371 t373 true) = some r := by rw [if_neg (show ¬ (false = true) by decide)] at H; exact H
           clear H
           have H := H1
           clear H1
           have H' := Aside0.mk H
           clear H
           go_wp2
           go_meet
           case rel => exact ⟨_, (true), (by first | rfl | (simp; done) | (simp [*]; done)), H', ⟨by have := HJ6.out; first | omega | exact Nat.le_refl _⟩, ⟨by (with_reducible repeat (first | apply Kd.R_alloc | apply Kd.R_drewN | apply Kd.R_drew)); exact HO_5.out⟩, ⟨by repeat (first | (with_reducible first | exact HB.out | apply below_alloc | apply pw_below_drewN | apply below_drew1) | exact HB.out)⟩⟩
         ·replace c28 := Bool.eq_false_iff.mpr c28
          subst c28
          have H1 : (laws_FnPlaces.j1 kj6 l1 t359 t360 t368 t371 t373 true) = some r := by rw [if_neg (show ¬ (false = true) by decide)] at H; exact H
          clear H
          have H := H1
          clear H1
          have H' := Aside0.mk H
          clear H
          go_wp2
          go_meet
          case rel => exact ⟨_, (true), (by first | rfl | (simp; done) | (simp [*]; done)), H', ⟨by have := HJ6.out; first | omega | exact Nat.le_refl _⟩, ⟨by (with_reducible repeat (first | apply Kd.R_alloc | apply Kd.R_drewN | apply Kd.R_drew)); exact HO_5.out⟩, ⟨by repeat (first | (with_reducible first | exact HB.out | apply below_alloc | apply pw_below_drewN | apply below_drew1) | exact HB.out)⟩⟩
        ·replace c27 := Bool.eq_false_iff.mpr c27
         subst c27
         have H1 : (laws_FnPlaces.j1 kj6 l1 t359 t360 t368 t371 t373 true) = some r := by rw [if_neg (show ¬ (false = true) by decide)] at H; exact H
         clear H
         have H := H1
         clear H1
         have H' := Aside0.mk H
         clear H
         go_wp2
         go_meet
         case rel => exact ⟨_, (true), (by first | rfl | (simp; done) | (simp [*]; done)), H', ⟨by have := HJ6.out; first | omega | exact Nat.le_refl _⟩, ⟨by (with_reducible repeat (first | apply Kd.R_alloc | apply Kd.R_drewN | apply Kd.R_drew)); exact HO_5.out⟩, ⟨by repeat (first | (with_reducible first | exact HB.out | apply below_alloc | apply pw_below_drewN | apply below_drew1) | exact HB.out)⟩⟩
       ·replace c26 := Bool.eq_false_iff.mpr c26
        subst c26
        have H1 : (laws_FnPlaces.j1 kj6 l1 t359 t360 t368 t371 t373 true) = some r := by rw [if_neg (show ¬ (false = true) by decide)] at H; exact H
        clear H
        have H := H1
        clear H1
        have H' := Aside0.mk H
        clear H
        go_wp2
        go_meet
        case rel => exact ⟨_, (true), (by first | rfl | (simp; done) | (simp [*]; done)), H', ⟨by have := HJ6.out; first | omega | exact Nat.le_refl _⟩, ⟨by (with_reducible repeat (first | apply Kd.R_alloc | apply Kd.R_drewN | apply Kd.R_drew)); exact HO_5.out⟩, ⟨by repeat (first | (with_reducible first | exact HB.out | apply below_alloc | apply pw_below_drewN | apply below_drew1) | exact HB.out)⟩⟩
      case rest => as_aux_lemma =>
       clear HC20
       try clear c1
       try clear c2
       try clear p2
       try clear c3
       try clear c3b0
       try clear p6
       try clear c9
       try clear c12
       try clear c12b0
       try clear c12b1
       try clear c12b2
       try clear c13
       try clear c14
       try clear c26
       try clear c27
       try clear c28
       try clear c29
       try clear c30
       try clear c30b0
       try clear c31
       try clear c31b0
       try clear c31b1
       try clear p2
       try clear p6
       obtain ⟨kq, x129_19, rfl, HA, HJ19, HO_5, HB⟩ := hcut
       cases kq with
       | zero => exact absurd HA.out (by simp [laws_FnPlaces.j1])
       | succ kj19 =>
        have H := HA.out
        clear HA
        simp only [laws_FnPlaces.j1] at H
        by_cases c32 : x129_19 = true
        ·subst c32
         have H1 : (some false) = some r := by rw [if_pos rfl] at H; exact H
         clear H
         have H := H1
         clear H1
         obtain rfl := Option.some.inj H
         go_wp2
         go_ret
         exact ⟨by first | rfl | (simp [errW_none, errW_some] <;> rfl) | (simp [errW_none, errW_some]; exact (show ∀ l_ : List UInt8, l_.isEmpty = !(l_ != []) from fun l_ => by cases l_ <;> rfl) _) | (simp [errW_none, errW_some]; exact (show ∀ l_ : List UInt8, l_.isEmpty = !(l_ != []) from fun l_ => by cases l_ <;> rfl) _) | (simp [*, errW_none, errW_some] <;> rfl), by repeat (first | (with_reducible first | exact HB.out | apply below_alloc | apply pw_below_drewN | apply below_drew1) | exact HB.out)⟩
        ·replace c32 := Bool.eq_false_iff.mpr c32
         subst c32
         have H1 : ((laws_numberOf.f kj19 l1).bind fun t379 => (if (wrap64 (t368 + 1)) = 0 then (none) else ((impl_MovePlace.f kj19 t359 (Int.tmod t379 (wrap64 (t368 + 1))) false).bind fun bt380 => ((impl_MovePlace.f kj19 t359 (Int.tmod t379 (wrap64 (t368 + 1))) true).bind fun bt382 => (if bt380.2 = true then (if bt382.2 = true then (if (Int.tmod t379 (wrap64 (t368 + 1))) ≤ t360 then (if bt380.1 > t371 then (laws_FnPlaces.j2 kj19 t359 t360 t373 true) else (if bt382.1 > t373 then (laws_FnPlaces.j2 kj19 t359 t360 t373 true) else (if (Int.tmod t379 (wrap64 (t368 + 1))) ≥ t360 then (if bt380.1 < t371 then (laws_FnPlaces.j2 kj19 t359 t360 t373 true) else (laws_FnPlaces.j2 kj19 t359 t360 t373 (decide (bt382.1 < t373)))) else (laws_FnPlaces.j2 kj19 t359 t360 t373 false)))) else (if (Int.tmod t379 (wrap64 (t368 + 1))) ≥ t360 then (if bt380.1 < t371 then (laws_FnPlaces.j2 kj19 t359 t360 t373 true) else (laws_FnPlaces.j2 kj19 t359 t360 t373 (decide (bt382.1 < t373)))) else (laws_FnPlaces.j2 kj19 t359 t360 t373 false))) else (laws_FnPlaces.j2 kj19 t359 t360 t373 true)) else (laws_FnPlaces.j2 kj19 t359 t360 t373 true)))))) = some r := by rw [if_neg (show ¬ (false = true) by decide)] at H; exact H
         clear H
         have H := H1
         clear H1
         replace H := Option.bind_eq_some_iff.mp H
         obtain ⟨t379, A330, H⟩ := H
         replace H : (if (wrap64 (t368 + 1)) = 0 then (none) else ((impl_MovePlace.f kj19 t359 (Int.tmod t379 (wrap64 (t368 + 1))) false).bind fun bt380 => ((impl_MovePlace.f kj19 t359 (Int.tmod t379 (wrap64 (t368 + 1))) true).bind fun bt382 => (if bt380.2 = true then (if bt382.2 = true then (if (Int.tmod t379 (wrap64 (t368 + 1))) ≤ t360 then (if bt380.1 > t371 then (laws_FnPlaces.j2 kj19 t359 t360 t373 true) else (if bt382.1 > t373 then (laws_FnPlaces.j2 kj19 t359 t360 t373 true) else (if (Int.tmod t379 (wrap64 (t368 + 1))) ≥ t360 then (if bt380.1 < t371 then (laws_FnPlaces.j2 kj19 t359 t360 t373 true) else (laws_FnPlaces.j2 kj19 t359 t360 t373 (decide (bt382.1 < t373)))) else (laws_FnPlaces.j2 kj19 t359 t360 t373 false)))) else (if (Int.tmod t379 (wrap64 (t368 + 1))) ≥ t360 then (if bt380.1 < t371 then (laws_FnPlaces.j2 kj19 t359 t360 t373 true) else (laws_FnPlaces.j2 kj19 t359 t360 t373 (decide (bt382.1 < t373)))) else (laws_FnPlaces.j2 kj19 t359 t360 t373 false))) else (laws_FnPlaces.j2 kj19 t359 t360 t373 true)) else (laws_FnPlaces.j2 kj19 t359 t360 t373 true))))) = some r := H
         have A33 := Aside0.mk A330
         clear A330
         by_cases c34 : (wrap64 (t368 + 1)) = 0
         ·rw [if_pos c34] at H
          exact absurd H (by simp)
         ·rw [if_neg c34] at H
          have c34b0 : ((wrap64 (t368 + 1)) == 0) = false := beq_eq_false_iff_ne.mpr c34
          have c34b1 : ((wrap64 (t368 + 1)) != 0) = true := bne_iff_ne.mpr c34
          replace H := Option.bind_eq_some_iff.mp H
          obtain ⟨⟨t380, t381⟩, A350, H⟩ := H
          replace H : ((impl_MovePlace.f kj19 t359 (Int.tmod t379 (wrap64 (t368 + 1))) true).bind fun bt382 => (if t381 = true then (if bt382.2 = true then (if (Int.tmod t379 (wrap64 (t368 + 1))) ≤ t360 then (if t380 > t371 then (laws_FnPlaces.j2 kj19 t359 t360 t373 true) else (if bt382.1 > t373 then (laws_FnPlaces.j2 kj19 t359 t360 t373 true) else (if (Int.tmod t379 (wrap64 (t368 + 1))) ≥ t360 then (if t380 < t371 then (laws_FnPlaces.j2 kj19 t359 t360 t373 true) else (laws_FnPlaces.j2 kj19 t359 t360 t373 (decide (bt382.1 < t373)))) else (laws_FnPlaces.j2 kj19 t359 t360 t373 false)))) else (if (Int.tmod t379 (wrap64 (t368 + 1))) ≥ t360 then (if t380 < t371 then (laws_FnPlaces.j2 kj19 t359 t360 t373 true) else (laws_FnPlaces.j2 kj19 t359 t360 t373 (decide (bt382.1 < t373)))) else (laws_FnPlaces.j2 kj19 t359 t360 t373 false))) else (laws_FnPlaces.j2 kj19 t359 t360 t373 true)) else (laws_FnPlaces.j2 kj19 t359 t360 t373 true))) = some r := H
          have A35 := Aside0.mk A350
          clear A350
          replace H := Option.bind_eq_some_iff.mp H
          obtain ⟨⟨t382, t383⟩, A360, H⟩ := H
          replace H : (if t381 = true then (if t383 = true then (if (Int.tmod t379 (wrap64 (t368 + 1))) ≤ t360 then (if t380 > t371 then (laws_FnPlaces.j2 kj19 t359 t360 t373 true) else (if t382 > t373 then (laws_FnPlaces.j2 kj19 t359 t360 t373 true) else (if (Int.tmod t379 (wrap64 (t368 + 1))) ≥ t360 then (if t380 < t371 then (laws_FnPlaces.j2 kj19 t359 t360 t373 true) else (laws_FnPlaces.j2 kj19 t359 t360 t373 (decide (t382 < t373)))) else (laws_FnPlaces.j2 kj19 t359 t360 t373 false)))) else (if (Int.tmod t379 (wrap64 (t368 + 1))) ≥ t360 then (if t380 < t371 then (laws_FnPlaces.j2 kj19 t359 t360 t373 true) else (laws_FnPlaces.j2 kj19 t359 t360 t373 (decide (t382 < t373)))) else (laws_FnPlaces.j2 kj19 t359 t360 t373 false))) else (laws_FnPlaces.j2 kj19 t359 t360 t373 true)) else (laws_FnPlaces.j2 kj19 t359 t360 t373 true)) = some r := H
          have A36 := Aside0.mk A360
          clear A360
          have HC37 := Aside0.mk H
          clear H
          go_upto_region 20 with (first | ((with_reducible refine gate_callee (f := 37) rfl ?_); refine goesL_ (some 131) rfl rfl Try.func37 (by kernel_rfl) rfl #[.slice A1 l1.length c1] rfl (by first | rfl | (simp only [List.map_toArray, List.map_cons, List.map_nil]; rfl)) ?_; (with_reducible refine (laws_numberOf.calls kj19 _ _ l1 t379 _ ?side1 ?side2 A33.out).mono ?_); (case side1 => repeat (first | exact (Kd.C_below HR1.out HB.out) | (with_reducible refine Kd.C_alloc ?_ _) | (with_reducible refine Kd.C_drewN ?_ _) | (with_reducible refine Kd.C_drew ?_))); (case side2 => exact HC1.out); rintro e w' ⟨rfl, ⟨nd, rfl⟩⟩; refine ⟨_, rfl, ?_⟩) | ((with_reducible refine gate_callee (f := 34) rfl ?_); refine goesL_ (some 138) rfl rfl Try.func34 (by kernel_rfl) rfl #[.slice Ao9 t359.length co9, .int .i64 (Int.tmod t379 (wrap64 (t368 + 1))), .bool false] rfl (by first | rfl | (simp only [List.map_toArray, List.map_cons, List.map_nil]; rfl)) ?_; (with_reducible refine (impl_MovePlace.calls kj19 _ _ t359 (Int.tmod t379 (wrap64 (t368 + 1))) false t380 t381 _ ?side1 ?side2 A35.out).mono ?_); (case side1 => repeat (first | exact (Kd.R_reads' HO_5.out).2.2 | (with_reducible refine Kd.C_alloc ?_ _) | (with_reducible refine Kd.C_drewN ?_ _) | (with_reducible refine Kd.C_drew ?_))); (case side2 => exact (Kd.R_reads' HO_5.out).2.1); rintro e w38 ⟨rfl, hb⟩; refine ⟨_, rfl, ?_⟩; have n0_ := Aside0.mk (Kd.R_below (by (with_reducible repeat (first | apply Kd.R_alloc | apply Kd.R_drewN | apply Kd.R_drew)); exact HO_5.out) hb); have n1_ := Aside0.mk (below_step (by repeat (first | (with_reducible first | exact HB.out | apply below_alloc | apply pw_below_drewN | apply below_drew1) | exact HB.out)) hb); clear HO_5; clear HB; have HO_5 := n0_; have HB := n1_; clear n0_ n1_; (try clear hb); (try clear hb2); (try clear hk); (try clear hi)) | ((with_reducible refine gate_callee (f := 34) rfl ?_); refine goesL_ (some 144) rfl rfl Try.func34 (by kernel_rfl) rfl #[.slice Ao9 t359.length co9, .int .i64 (Int.tmod t379 (wrap64 (t368 + 1))), .bool true] rfl (by first | rfl | (simp only [List.map_toArray, List.map_cons, List.map_nil]; rfl)) ?_; (with_reducible refine (impl_MovePlace.calls kj19 _ _ t359 (Int.tmod t379 (wrap64 (t368 + 1))) true t382 t383 _ ?side1 ?side2 A36.out).mono ?_); (case side1 => repeat (first | exact (Kd.R_reads' HO_5.out).2.2 | (with_reducible refine Kd.C_alloc ?_ _) | (with_reducible refine Kd.C_drewN ?_ _) | (with_reducible refine Kd.C_drew ?_))); (case side2 => exact (Kd.R_reads' HO_5.out).2.1); rintro e w39 ⟨rfl, hb⟩; refine ⟨_, rfl, ?_⟩; have n0_ := Aside0.mk (Kd.R_below (by (with_reducible repeat (first | apply Kd.R_alloc | apply Kd.R_drewN | apply Kd.R_drew)); exact HO_5.out) hb); have n1_ := Aside0.mk (below_step (by repeat (first | (with_reducible first | exact HB.out | apply below_alloc | apply pw_below_drewN | apply below_drew1) | exact HB.out)) hb); clear HO_5; clear HB; have HO_5 := n0_; have HB := n1_; clear n0_ n1_; (try clear hb); (try clear hb2); (try clear hk); (try clear hi)))
          (try simp only [Act.put, List.setIfInBounds_toArray, List.set_cons_zero, List.set_cons_succ])
          go_cut [182] (fun v182 wc => ∃ (kq : Nat) (x182_36 : Bool), v182 = .bool x182_36 ∧ Aside0 (laws_FnPlaces.j2 kq t359 t360 t373 x182_36 = some r) ∧ Aside0 (kq ≤ kj19) ∧ Aside0 (Kd.R k61 61 wc w.heap.size (fun _ => True) (.slice Ao9 t359.length co9) t359) ∧ Aside0 (Below w.heap.size w wc))
          case first => as_aux_lemma =>
           have H := HC37.out
           clear HC37
           by_cases c40 : t381 = true
           ·subst c40
            have H1 : (if t383 = true then (if (Int.tmod t379 (wrap64 (t368 + 1))) ≤ t360 then (if t380 > t371 then (laws_FnPlaces.j2 kj19 t359 t360 t373 true) else (if t382 > t373 then (laws_FnPlaces.j2 kj19 t359 t360 t373 true) else (if (Int.tmod t379 (wrap64 (t368 + 1))) ≥ t360 then (if t380 < t371 then (laws_FnPlaces.j2 kj19 t359 t360 t373 true) else (laws_FnPlaces.j2 kj19 t359 t360 t373 (decide (t382 < t373)))) else (laws_FnPlaces.j2 kj19 t359 t360 t373 false)))) else (if (Int.tmod t379 (wrap64 (t368 + 1))) ≥ t360 then (if t380 < t371 then (laws_FnPlaces.j2 kj19 t359 t360 t373 true) else (laws_FnPlaces.j2 kj19 t359 t360 t373 (decide (t382 < t373)))) else (laws_FnPlaces.j2 kj19 t359 t360 t373 false))) else (laws_FnPlaces.j2 kj19 t359 t360 t373 true)) = some r := by rw [if_pos rfl] at H; exact H
            clear H
            have H := H1
            clear H1
            by_cases c41 : t383 = true
            ·subst c41
             have H1 : (if (Int.tmod t379 (wrap64 (t368 + 1))) ≤ t360 then (if t380 > t371 then (laws_FnPlaces.j2 kj19 t359 t360 t373 true) else (if t382 > t373 then (laws_FnPlaces.j2 kj19 t359 t360 t373 true) else (if (Int.tmod t379 (wrap64 (t368 + 1))) ≥ t360 then (if t380 < t371 then (laws_FnPlaces.j2 kj19 t359 t360 t373 true) else (laws_FnPlaces.j2 kj19 t359 t360 t373 (decide (t382 < t373)))) else (laws_FnPlaces.j2 kj19 t359 t360 t373 false)))) else (if (Int.tmod t379 (wrap64 (t368 + 1))) ≥ t360 then (if t380 < t371 then (laws_FnPlaces.j2 kj19 t359 t360 t373 true) else (laws_FnPlaces.j2 kj19 t359 t360 t373 (decide (t382 < t373)))) else (laws_FnPlaces.j2 kj19 t359 t360 t373 false))) = some r := by rw [if_pos rfl] at H; exact H
             clear H
             have H := H1
             clear H1
             by_cases c42 : (Int.tmod t379 (wrap64 (t368 + 1))) ≤ t360
             ·rw [if_pos c42] at H
              have c42b0 : decide ((Int.tmod t379 (wrap64 (t368 + 1))) ≤ t360) = true := decide_eq_true c42
              clear c42
              (first | rw [c42b0] | (simp only [i64_w, i32_w]; rw [c42b0]) | rw [c42e] | skip)
              by_cases c43 : t380 > t371
              ·rw [if_pos c43] at H
               have c43b0 : decide (t371 < t380) = true := decide_eq_true c43
               clear c43
               have H' := Aside0.mk H
               clear H
               go_wp2
               go_meet
               case rel => exact ⟨_, (true), (by first | rfl | (simp; done) | (simp [*]; done)), H', ⟨by have := HJ6.out; have := HJ19.out; first | omega | exact Nat.le_refl _⟩, ⟨by (with_reducible repeat (first | apply Kd.R_alloc | apply Kd.R_drewN | apply Kd.R_drew)); exact HO_5.out⟩, ⟨by repeat (first | (with_reducible first | exact HB.out | apply below_alloc | apply pw_below_drewN | apply below_drew1) | exact HB.out)⟩⟩
              ·rw [if_neg c43] at H
               have c43b0 : decide (t371 < t380) = false := decide_eq_false c43
               clear c43
               by_cases c44 : t382 > t373
               ·rw [if_pos c44] at H
                have c44b0 : decide (t373 < t382) = true := decide_eq_true c44
                clear c44
                have H' := Aside0.mk H
                clear H
                go_wp2
                go_meet
                case rel => exact ⟨_, (true), (by first | rfl | (simp; done) | (simp [*]; done)), H', ⟨by have := HJ6.out; have := HJ19.out; first | omega | exact Nat.le_refl _⟩, ⟨by (with_reducible repeat (first | apply Kd.R_alloc | apply Kd.R_drewN | apply Kd.R_drew)); exact HO_5.out⟩, ⟨by repeat (first | (with_reducible first | exact HB.out | apply below_alloc | apply pw_below_drewN | apply below_drew1) | exact HB.out)⟩⟩
               ·rw [if_neg c44] at H
                have c44b0 : decide (t373 < t382) = false := decide_eq_false c44
                clear c44
                by_cases c45 : (Int.tmod t379 (wrap64 (t368 + 1))) ≥ t360
                ·rw [if_pos c45] at H
                 have c45b0 : decide (t360 ≤ (Int.tmod t379 (wrap64 (t368 + 1)))) = true := decide_eq_true c45
                 clear c45
                 by_cases c46 : t380 < t371
                 ·rw [if_pos c46] at H
                  have c46b0 : decide (t380 < t371) = true := decide_eq_true c46
                  clear c46
                  have H' := Aside0.mk H
                  clear H
                  go_wp2
                  go_meet
                  case rel => exact ⟨_, (true), (by first | rfl | (simp; done) | (simp [*]; done)), H', ⟨by have := HJ6.out; have := HJ19.out; first | omega | exact Nat.le_refl _⟩, ⟨by (with_reducible repeat (first | apply Kd.R_alloc | apply Kd.R_drewN | apply Kd.R_drew)); exact HO_5.out⟩, ⟨by repeat (first | (with_reducible first | exact HB.out | apply below_alloc | apply pw_below_drewN | apply below_drew1) | exact HB.out)⟩⟩
                 ·rw [if_neg c46] at H
                  have c46b0 : decide (t380 < t371) = false := decide_eq_false c46
                  clear c46
                  have H' := Aside0.mk H
                  clear H
                  go_wp2
                  go_meet
                  case rel => exact ⟨_, (decide (t382 < t373)), (by first | rfl | (simp; done) | (simp [*]; done)), H', ⟨by have := HJ6.out; have := HJ19.out; first | omega | exact Nat.le_refl _⟩, ⟨by (with_reducible repeat (first | apply Kd.R_alloc | apply Kd.R_drewN | apply Kd.R_drew)); exact HO_5.out⟩, ⟨by repeat (first | (with_reducible first | exact HB.out | apply below_alloc | apply pw_below_drewN | apply below_drew1) | exact HB.out)⟩⟩
                ·rw [if_neg c45] at H
                 have c45b0 : decide (t360 ≤ (Int.tmod t379 (wrap64 (t368 + 1)))) = false := decide_eq_false c45
                 clear c45
                 have H' := Aside0.mk H
                 clear H
                 go_wp2
                 go_meet
                 case rel => exact ⟨_, (false), (by first | rfl | (simp; done) | (simp [*]; done)), H', ⟨by have := HJ6.out; have := HJ19.out; first | omega | exact Nat.le_refl _⟩, ⟨by (with_reducible repeat (first | apply Kd.R_alloc | apply Kd.R_drewN | apply Kd.R_drew)); exact HO_5.out⟩, ⟨by repeat (first | (with_reducible first | exact HB.out | apply below_alloc | apply pw_below_drewN | apply below_drew1) | exact HB.out)⟩⟩
             ·rw [if_neg c42] at H
              have c42b0 : decide ((Int.tmod t379 (wrap64 (t368 + 1))) ≤ t360) = false := decide_eq_false c42
              clear c42
              (first | rw [c42b0] | (simp only [i64_w, i32_w]; rw [c42b0]) | rw [c42e] | skip)
              by_cases c47 : (Int.tmod t379 (wrap64 (t368 + 1))) ≥ t360
              ·rw [if_pos c47] at H
               have c47b0 : decide (t360 ≤ (Int.tmod t379 (wrap64 (t368 + 1)))) = true := decide_eq_true c47
               clear c47
               by_cases c48 : t380 < t371
               ·rw [if_pos c48] at H
                have c48b0 : decide (t380 < t371) = true := decide_eq_true c48
                clear c48
                have H' := Aside0.mk H
                clear H
                go_wp2
                go_meet
                case rel => exact ⟨_, (true), (by first | rfl | (simp; done) | (simp [*]; done)), H', ⟨by have := HJ6.out; have := HJ19.out; first | omega | exact Nat.le_refl _⟩, ⟨by (with_reducible repeat (first | apply Kd.R_alloc | apply Kd.R_drewN | apply Kd.R_drew)); exact HO_5.out⟩, ⟨by repeat (first | (with_reducible first | exact HB.out | apply below_alloc | apply pw_below_drewN | apply below_drew1) | exact HB.out)⟩⟩
               ·rw [if_neg c48] at H
                have c48b0 : decide (t380 < t371) = false := decide_eq_false c48
                clear c48
                have H' := Aside0.mk H
                clear H
                go_wp2
                go_meet
                case rel => exact ⟨_, (decide (t382 < t373)), (by first | rfl | (simp; done) | (simp [*]; done)), H', ⟨by have := HJ6.out; have := HJ19.out; first | omega | exact Nat.le_refl _⟩, ⟨by (with_reducible repeat (first | apply Kd.R_alloc | apply Kd.R_drewN | apply Kd.R_drew)); exact HO_5.out⟩, ⟨by repeat (first | (with_reducible first | exact HB.out | apply below_alloc | apply pw_below_drewN | apply below_drew1) | exact HB.out)⟩⟩
              ·rw [if_neg c47] at H
               have c47b0 : decide (t360 ≤ (Int.tmod t379 (wrap64 (t368 + 1)))) = false := decide_eq_false c47
               clear c47
               have H' := Aside0.mk H
               clear H
               go_wp2
               go_meet
               case rel => exact ⟨_, (false), (by first | rfl | (simp; done) | (simp [*]; done)), H', ⟨by have := HJ6.out; have := HJ19.out; first | omega | exact Nat.le_refl _⟩, ⟨by (with_reducible repeat (first | apply Kd.R_alloc | apply Kd.R_drewN | apply Kd.R_drew)); exact HO_5.out⟩, ⟨by repeat (first | (with_reducible first | exact HB.out | apply below_alloc | apply pw_below_drewN | apply below_drew1) | exact HB.out)⟩⟩
            ·replace c41 := Bool.eq_false_iff.mpr c41
             subst c41
             have H1 : (laws_FnPlaces.j2 kj19 t359 t360 t373 true) = some r := by rw [if_neg (show ¬ (false = true) by decide)] at H; exact H
             clear H
             have H := H1
             clear H1
             have H' := Aside0.mk H
             clear H
             go_wp2
             go_meet
             case rel => exact ⟨_, (true), (by first | rfl | (simp; done) | (simp [*]; done)), H', ⟨by have := HJ6.out; have := HJ19.out; first | omega | exact Nat.le_refl _⟩, ⟨by (with_reducible repeat (first | apply Kd.R_alloc | apply Kd.R_drewN | apply Kd.R_drew)); exact HO_5.out⟩, ⟨by repeat (first | (with_reducible first | exact HB.out | apply below_alloc | apply pw_below_drewN | apply below_drew1) | exact HB.out)⟩⟩
           ·replace c40 := Bool.eq_false_iff.mpr c40
            subst c40
            have H1 : (laws_FnPlaces.j2 kj19 t359 t360 t373 true) = some r := by rw [if_neg (show ¬ (false = true) by decide)] at H; exact H
            clear H
            have H := H1
            clear H1
            have H' := Aside0.mk H
            clear H
            go_wp2
            go_meet
            case rel => exact ⟨_, (true), (by first | rfl | (simp; done) | (simp [*]; done)), H', ⟨by have := HJ6.out; have := HJ19.out; first | omega | exact Nat.le_refl _⟩, ⟨by (with_reducible repeat (first | apply Kd.R_alloc | apply Kd.R_drewN | apply Kd.R_drew)); exact HO_5.out⟩, ⟨by repeat (first | (with_reducible first | exact HB.out | apply below_alloc | apply pw_below_drewN | apply below_drew1) | exact HB.out)⟩⟩
          case rest => as_aux_lemma =>
           clear HC37
           try clear c1
           try clear c2
           try clear p2
           try clear c3
           try clear c3b0
           try clear c4
           try clear p6
           try clear c9
           try clear c12
           try clear c12b0
           try clear c12b1
           try clear c12b2
           try clear c13
           try clear c14
           try clear c26
           try clear c27
           try clear c28
           try clear c29
           try clear c30
           try clear c30b0
           try clear c31
           try clear c31b0
           try clear c31b1
           try clear c32
           try clear c33
           try clear c34
           try clear c34b0
           try clear c34b1
           try clear c35
           try clear c36
           try clear c37
           try clear c40
           try clear c41
           try clear c42
           try clear c42b0
           try clear c43
           try clear c43b0
           try clear c44
           try clear c44b0
           try clear c45
           try clear c45b0
           try clear c46
           try clear c46b0
           try clear c47
           try clear c47b0
           try clear c48
           try clear c48b0
           try clear p2
           try clear p6
           obtain ⟨kq, x182_36, rfl, HA, HJ36, HO_5, HB⟩ := hcut
           cases kq with
           | zero => exact absurd HA.out (by simp [laws_FnPlaces.j2])
           | succ kj36 =>
            have H := HA.out
            clear HA
            simp only [laws_FnPlaces.j2] at H
            by_cases c49 : x182_36 = true
            ·subst c49
             have H1 : (some false) = some r := by rw [if_pos rfl] at H; exact H
             clear H
             have H := H1
             clear H1
             obtain rfl := Option.some.inj H
             go_wp2
             go_ret
             exact ⟨by first | rfl | (simp [errW_none, errW_some] <;> rfl) | (simp [errW_none, errW_some]; exact (show ∀ l_ : List UInt8, l_.isEmpty = !(l_ != []) from fun l_ => by cases l_ <;> rfl) _) | (simp [errW_none, errW_some]; exact (show ∀ l_ : List UInt8, l_.isEmpty = !(l_ != []) from fun l_ => by cases l_ <;> rfl) _) | (simp [*, errW_none, errW_some] <;> rfl), by repeat (first | (with_reducible first | exact HB.out | apply below_alloc | apply pw_below_drewN | apply below_drew1) | exact HB.out)⟩
            ·replace c49 := Bool.eq_false_iff.mpr c49
             subst c49
             have H1 : ((spec_NormalOp.f kj36 t359).bind fun bt384 => (laws_FnPlaces.l0 kj36 t360 t373 0 0 bt384.1 (bt384.1.length : Int) 0)) = some r := by rw [if_neg (show ¬ (false = true) by decide)] at H; exact H
             clear H
             have H := H1
             clear H1
             replace H := Option.bind_eq_some_iff.mp H
             obtain ⟨⟨t384, t385⟩, A500, H⟩ := H
             replace H : (laws_FnPlaces.l0 kj36 t360 t373 0 0 t384 (t384.length : Int) 0) = some r := H
             have A50 := Aside0.mk A500
             clear A500
             have H' := Aside0.mk H
             clear H
             go_wp2_with (first | ((with_reducible refine gate_callee (f := 38) rfl ?_); refine goesL_ (some 185) rfl rfl Try.func38 (by kernel_rfl) rfl #[.slice Ao9 t359.length co9] rfl (by first | rfl | (simp only [List.map_toArray, List.map_cons, List.map_nil]; rfl)) ?_; (with_reducible refine (spec_NormalOp.calls kj36 _ _ t359 t384 t385 _ ?side1 ?side2 A50.out).mono ?_); (case side1 => repeat (first | exact (Kd.R_reads' HO_5.out).2.2 | (with_reducible refine Kd.C_alloc ?_ _) | (with_reducible refine Kd.C_drewN ?_ _) | (with_reducible refine Kd.C_drew ?_))); (case side2 => exact (Kd.R_reads' HO_5.out).2.1); rintro e w51 ⟨v386, rfl, ho0, hb⟩; refine ⟨_, rfl, ?_⟩; have n0_ := Aside0.mk (Kd.R_elder' (by (with_reducible repeat (first | apply Kd.R_alloc | apply Kd.R_drewN | apply Kd.R_drew)); exact HO_5.out) (Kd.R_base ho0) hb); have n1_ := Aside0.mk (Kd.R_lower (Kd.R_new' ho0 (Kd.R_lt (by (with_reducible repeat (first | apply Kd.R_alloc | apply Kd.R_drewN | apply Kd.R_drew)); exact HO_5.out))) (below_size (by repeat (first | (with_reducible first | exact HB.out | apply below_alloc | apply pw_below_drewN | apply below_drew1) | exact HB.out)))); have n2_ := Aside0.mk (below_step (by repeat (first | (with_reducible first | exact HB.out | apply below_alloc | apply pw_below_drewN | apply below_drew1) | exact HB.out)) hb); clear HO_5; clear HB; have HO_5 := n0_; have HO387 := n1_; have HB := n2_; clear n0_ n1_ n2_; (try clear hb); (try clear hb2); (try clear hk); (try clear hi); (try clear ho0); obtain ⟨Ao52, co52, eo52⟩ := Kd.R_slice HO387.out; subst eo52))
             go_loopg [28, 29, 190] kj36 (fun kq v28 v29 v190 w' => ∃ (x28_4 : Int) (x29_4 : Int) (x190_4 : Int), v28 = .int .i64 x28_4 ∧ v29 = .int .i64 x29_4 ∧ v190 = .int .i64 x190_4 ∧ Aside0 (laws_FnPlaces.l0 kq t360 t373 x28_4 x29_4 t384 (t384.length : Int) x190_4 = some r) ∧ Aside0 (kq ≤ kj36) ∧ Aside0 (Kd.R k61 61 w' w.heap.size (fun _ => True) (.slice Ao52 t384.length co52) t384) ∧ Aside0 (Below w.heap.size w w'))
             case atStart => exact ⟨(0), (0), (0), (by first | rfl | (simp; done) | (simp [*]; done)), (by first | rfl | (simp; done) | (simp [*]; done)), (by first | rfl | (simp; done) | (simp [*]; done)), H', ⟨Nat.le_refl _⟩, ⟨by (with_reducible repeat (first | apply Kd.R_alloc | apply Kd.R_drewN | apply Kd.R_drew)); exact Kd.R_mono HO387.out (fun _ hk => trivial)⟩, ⟨by repeat (first | (with_reducible first | exact HB.out | apply below_alloc | apply pw_below_drewN | apply below_drew1) | exact HB.out)⟩⟩
             case round =>
              clear H'
              try clear c1
              try clear c2
              try clear p2
              try clear c3
              try clear c3b0
              try clear c4
              try clear p6
              try clear c9
              try clear c12
              try clear c12b0
              try clear c12b1
              try clear c12b2
              try clear c13
              try clear c14
              try clear c26
              try clear c27
              try clear c28
              try clear c29
              try clear c30
              try clear c30b0
              try clear c31
              try clear c31b0
              try clear c31b1
              try clear c32
              try clear c33
              try clear c34
              try clear c34b0
              try clear c34b1
              try clear c35
              try clear c36
              try clear c37
              try clear c38
              try clear c40
              try clear c41
              try clear c42
              try clear c42b0
              try clear c43
              try clear c43b0
              try clear c44
              try clear c44b0
              try clear c45
              try clear c45b0
              try clear c46
              try clear c46b0
              try clear c47
              try clear c47b0
              try clear c48
              try clear c48b0
              try clear c49
              try clear p2
              try clear p6
              obtain ⟨x28_4, x29_4, x190_4, rfl, rfl, rfl, HA, HK4, HO_188, HB⟩ := hrel
              cases gk with
              | zero => exact absurd HA.out (by simp [laws_FnPlaces.l0])
              | succ k4 =>
               have H := HA.out
               clear HA
               simp only [laws_FnPlaces.l0] at H
               by_cases c53 : x190_4 < (t384.length : Int)
               ·rw [if_pos c53] at H
                have c53b0 : decide (x190_4 < (t384.length : Int)) = true := decide_eq_true c53
                clear c53
                by_cases c54 : 0 ≤ x190_4
                ·rw [if_pos c54] at H
                 have c54b0 : decide (0 ≤ x190_4) = true := decide_eq_true c54
                 clear c54
                 by_cases c55 : x190_4 < (t384.length : Int)
                 ·rw [if_pos c55] at H
                  have c55b0 : decide (x190_4 < (t384.length : Int)) = true := decide_eq_true c55
                  clear c55
                  have H' := Aside0.mk H
                  clear H
                  have p388 : 0 ≤ (x190_4 : Int) := of_decide_eq_true (by assumption)
                  have q388 : x190_4 < (t384.length : Int) := of_decide_eq_true (by assumption)
                  obtain ⟨ad388, e388, hx388_0, hx388_1, hx388_2⟩ := at_T61 (Kd.R_reads' HO_188.out).2.2 x190_4 p388 q388
                  cases e388
                  replace p388 := eq_true p388
                  replace q388 := eq_true q388
                  go_wp2_with (first | ((with_reducible refine gate_dst (N := 33) rfl ?_); (try (refine gate_guard (by rfl) ?_; dsimp only)); refine box_event ?hg (N := 33) ?hd (cs := #[.int .i64 0, .string (⟨#[]⟩ : ByteArray), .string (⟨#[]⟩ : ByteArray)]) (t := 61) ?hr ?_; (case hd => rfl); (case hg => rfl); (case hr => first | (go_simp; done) | (go_simp; rfl)); intro gb389 hg w56 hbox hb; have n0_ := Aside0.mk (Kd.R_below (Kd.R_elderB (by (with_reducible repeat (first | apply Kd.R_alloc | apply Kd.R_drewN | apply Kd.R_drew)); exact HO_188.out) gb389 (Nat.le_of_eq hg.symm)) hb); have n1_ := Aside0.mk (below_step (by repeat (first | (with_reducible first | exact HB.out | apply below_alloc | apply pw_below_drewN | apply below_drew1) | exact HB.out)) hb); have n2_ := Aside0.mk (hbox); have n3_ := Aside0.mk ((by rw [hg]; exact (below_size (by repeat (first | (with_reducible first | exact HB.out | apply below_alloc | apply pw_below_drewN | apply below_drew1) | exact HB.out))) : w.heap.size ≤ gb389)); have n4_ := Aside0.mk ((by rw [hg]; exact (below_size (by repeat (first | (with_reducible first | exact HB.out | apply below_alloc | apply pw_below_drewN | apply below_drew1) | exact HB.out))) : w.heap.size ≤ gb389)); clear HO_188; clear HB; have HO_188 := n0_; have HB := n1_; have BK389 := n2_; have GW389 := n3_; have GE389 := n4_; clear n0_ n1_ n2_ n3_ n4_; clear hb hbox hg; have hcz57_0 : w56.cell? ⟨gb389, 0, none⟩ = some (.int .i64 0) := (blk_cell BK389.out 0).trans rfl; have hcz57_1 : w56.cell? ⟨gb389, 1, none⟩ = some (.string (⟨#[]⟩ : ByteArray)) := (blk_cell BK389.out 1).trans rfl; have hcz57_2 : w56.cell? ⟨gb389, 2, none⟩ = some (.string (⟨#[]⟩ : ByteArray)) := (blk_cell BK389.out 2).trans rfl; have hfz57_0 := blk_frozen BK389.out 0; have hfz57_1 := blk_frozen BK389.out 1; have hfz57_2 := blk_frozen BK389.out 2))
                  go_loopg [34] k4 (fun kq v34 w' => ∃ (x34_5 : Int), v34 = .int .i64 x34_5 ∧ Aside0 (laws_FnPlaces.l1 kq t360 t373 x28_4 x29_4 x34_5 t384 (t384.length : Int) x190_4 ((rd_T61 t384 x190_4).f0) ((rd_T61 t384 x190_4).f1) ((rd_T61 t384 x190_4).f2) = some r) ∧ Aside0 (kq ≤ k4) ∧ Aside0 (Kd.R k61 61 w' w.heap.size (fun k_ => k_ ≠ gb389) (.slice (some ad388) t384.length co52) t384) ∧ Aside0 (w'.heap[gb389]? = some (.cells #[.int .i64 ((rd_T61 t384 x190_4).f0), .string ((rd_T61 t384 x190_4).f1), .string ((rd_T61 t384 x190_4).f2)] 61 (0, 0))) ∧ Aside0 (Below w.heap.size w w'))
                  case atStart => exact ⟨(0), (by first | rfl | (simp; done) | (simp [*]; done)), H', ⟨Nat.le_refl _⟩, ⟨by (with_reducible repeat (first | apply Kd.R_alloc | apply Kd.R_drewN | apply Kd.R_drew)); exact Kd.R_mono (Kd.R_far (p := ⟨gb389, 2, none⟩) (Kd.R_far (p := ⟨gb389, 1, none⟩) (Kd.R_far (p := ⟨gb389, 0, none⟩) (Kd.R_mono HO_188.out (fun k_ hk => (⟨hk, hk.2⟩ : _ ∧ k_ ≠ gb389))) (fun _ hk => hk.2) (.int .i64 ((rd_T61 t384 x190_4).f0))) (fun _ hk => hk.2) (.string ((rd_T61 t384 x190_4).f1))) (fun _ hk => hk.2) (.string ((rd_T61 t384 x190_4).f2))) (fun _ hk => hk.1.2)⟩, ⟨by (with_reducible repeat (first | refine blk_drewN ?_ _ | refine blk_drew ?_ | refine blk_alloc ?_ _)); refine blk_put (cs := #[.int .i64 ((rd_T61 t384 x190_4).f0), .string ((rd_T61 t384 x190_4).f1), .string (⟨#[]⟩ : ByteArray)]) ?_ 2 _ rfl; (with_reducible repeat (first | refine blk_drewN ?_ _ | refine blk_drew ?_ | refine blk_alloc ?_ _)); refine blk_put (cs := #[.int .i64 ((rd_T61 t384 x190_4).f0), .string (⟨#[]⟩ : ByteArray), .string (⟨#[]⟩ : ByteArray)]) ?_ 1 _ rfl; (with_reducible repeat (first | refine blk_drewN ?_ _ | refine blk_drew ?_ | refine blk_alloc ?_ _)); refine blk_put (cs := #[.int .i64 0, .string (⟨#[]⟩ : ByteArray), .string (⟨#[]⟩ : ByteArray)]) ?_ 0 _ rfl; (with_reducible repeat (first | refine blk_drewN ?_ _ | refine blk_drew ?_ | refine blk_alloc ?_ _)); exact BK389.out⟩, ⟨by repeat (first | (with_reducible first | exact HB.out | apply below_alloc | apply pw_below_drewN | apply below_drew1 | refine below_set ?_ GE389.out) | exact HB.out)⟩⟩
                  case round =>
                   clear H'
                   try clear c1
                   try clear c2
                   try clear p2
                   try clear c3
                   try clear c3b0
                   try clear p3
                   try clear q3
                   try clear hx3
                   try clear c4
                   try clear c5
                   try clear p6
                   try clear c9
                   try clear c12
                   try clear c12b0
                   try clear c12b1
                   try clear c12b2
                   try clear c13
                   try clear c14
                   try clear c26
                   try clear c27
                   try clear c28
                   try clear c29
                   try clear c30
                   try clear c30b0
                   try clear c31
                   try clear c31b0
                   try clear c31b1
                   try clear c32
                   try clear c33
                   try clear c34
                   try clear c34b0
                   try clear c34b1
                   try clear c35
                   try clear c36
                   try clear c37
                   try clear c38
                   try clear p38
                   try clear q38
                   try clear hx38
                   try clear c40
                   try clear c41
                   try clear c42
                   try clear c42b0
                   try clear c43
                   try clear c43b0
                   try clear c44
                   try clear c44b0
                   try clear c45
                   try clear c45b0
                   try clear c46
                   try clear c46b0
                   try clear c47
                   try clear c47b0
                   try clear c48
                   try clear c48b0
                   try clear c49
                   try clear c53
                   try clear c53b0
                   try clear c54
                   try clear c54b0
                   try clear c55
                   try clear c55b0
                   try clear hcz57_0
                   try clear hcz57_1
                   try clear hcz57_2
                   try clear hfz57_0
                   try clear hfz57_1
                   try clear hfz57_2
                   try clear hx388_0
                   try clear hx388_1
                   try clear hx388_2
                   try clear p2
                   try clear p388
                   try clear p6
                   try clear q388
                   obtain ⟨x34_5, rfl, HA, HK5, HO_188, BK389, HB⟩ := hrel
                   cases gk with
                   | zero => exact absurd HA.out (by simp [laws_FnPlaces.l1])
                   | succ k5 =>
                    have H := HA.out
                    clear HA
                    simp only [laws_FnPlaces.l1] at H
                    by_cases c58 : x34_5 < ((rd_T61 t384 x190_4).f0)
                    ·rw [if_pos c58] at H
                     have c58b0 : decide (x34_5 < ((rd_T61 t384 x190_4).f0)) = true := decide_eq_true c58
                     clear c58
                     by_cases c59 : (wrap64 (x28_4 + x34_5)) = t360
                     ·rw [if_pos c59] at H
                      have c59b0 : ((wrap64 (x28_4 + x34_5)) == t360) = true := beq_iff_eq.mpr c59
                      have c59b1 : ((wrap64 (x28_4 + x34_5)) != t360) = false := bne_eq_false_iff_eq.mpr c59
                      clear c59
                      by_cases c60 : t373 = (wrap64 ((wrap64 (x29_4 + x34_5)) + (((rd_T61 t384 x190_4).f1).size : Int)))
                      ·rw [if_pos c60] at H
                       have c60b0 : (t373 == (wrap64 ((wrap64 (x29_4 + x34_5)) + (((rd_T61 t384 x190_4).f1).size : Int)))) = true := beq_iff_eq.mpr c60
                       have c60b1 : (t373 != (wrap64 ((wrap64 (x29_4 + x34_5)) + (((rd_T61 t384 x190_4).f1).size : Int)))) = false := bne_eq_false_iff_eq.mpr c60
                       clear c60
                       have H' := Aside0.mk H
                       clear H
                       have hcz61_0 : wr.cell? ⟨gb389, 0, none⟩ = some (.int .i64 ((rd_T61 t384 x190_4).f0)) := (blk_cell BK389.out 0).trans rfl
                       have hcz61_1 : wr.cell? ⟨gb389, 1, none⟩ = some (.string ((rd_T61 t384 x190_4).f1)) := (blk_cell BK389.out 1).trans rfl
                       have hcz61_2 : wr.cell? ⟨gb389, 2, none⟩ = some (.string ((rd_T61 t384 x190_4).f2)) := (blk_cell BK389.out 2).trans rfl
                       have hfz61_0 := blk_frozen BK389.out 0
                       have hfz61_1 := blk_frozen BK389.out 1
                       have hfz61_2 := blk_frozen BK389.out 2
                       go_wp2
                       go_roundg k5
                       case measure => have := HJ6.out; have := HJ19.out; have := HJ36.out; have := HK4.out; have := HK5.out; omega
                       case rel => exact ⟨(wrap64 (x34_5 + 1)), (by first | rfl | (simp; done) | (simp [*]; done)), H', ⟨by have := HJ6.out; have := HJ19.out; have := HJ36.out; have := HK4.out; have := HK5.out; omega⟩, ⟨by (with_reducible repeat (first | apply Kd.R_alloc | apply Kd.R_drewN | apply Kd.R_drew)); exact HO_188.out⟩, ⟨by (with_reducible repeat (first | refine blk_drewN ?_ _ | refine blk_drew ?_ | refine blk_alloc ?_ _)); exact BK389.out⟩, ⟨by repeat (first | (with_reducible first | exact HB.out | apply below_alloc | apply pw_below_drewN | apply below_drew1 | refine below_set ?_ GE389.out) | exact HB.out)⟩⟩
                      ·rw [if_neg c60] at H
                       have c60b0 : (t373 == (wrap64 ((wrap64 (x29_4 + x34_5)) + (((rd_T61 t384 x190_4).f1).size : Int)))) = false := beq_eq_false_iff_ne.mpr c60
                       have c60b1 : (t373 != (wrap64 ((wrap64 (x29_4 + x34_5)) + (((rd_T61 t384 x190_4).f1).size : Int)))) = true := bne_iff_ne.mpr c60
                       obtain rfl := Option.some.inj H
                       have hcz62_0 : wr.cell? ⟨gb389, 0, none⟩ = some (.int .i64 ((rd_T61 t384 x190_4).f0)) := (blk_cell BK389.out 0).trans rfl
                       have hcz62_1 : wr.cell? ⟨gb389, 1, none⟩ = some (.string ((rd_T61 t384 x190_4).f1)) := (blk_cell BK389.out 1).trans rfl
                       have hcz62_2 : wr.cell? ⟨gb389, 2, none⟩ = some (.string ((rd_T61 t384 x190_4).f2)) := (blk_cell BK389.out 2).trans rfl
                       have hfz62_0 := blk_frozen BK389.out 0
                       have hfz62_1 := blk_frozen BK389.out 1
                       have hfz62_2 := blk_frozen BK389.out 2
                       go_wp2
                       go_ret
                       exact ⟨by first | rfl | (simp [errW_none, errW_some] <;> rfl) | (simp [errW_none, errW_some]; exact (show ∀ l_ : List UInt8, l_.isEmpty = !(l_ != []) from fun l_ => by cases l_ <;> rfl) _) | (simp [errW_none, errW_some]; exact (show ∀ l_ : List UInt8, l_.isEmpty = !(l_ != []) from fun l_ => by cases l_ <;> rfl) _) | (simp [*, errW_none, errW_some] <;> rfl), by repeat (first | (with_reducible first | exact HB.out | apply below_alloc | apply pw_below_drewN | apply below_drew1 | refine below_set ?_ GE389.out) | exact HB.out)⟩
                     ·rw [if_neg c59] at H
                      have c59b0 : ((wrap64 (x28_4 + x34_5)) == t360) = false := beq_eq_false_iff_ne.mpr c59
                      have c59b1 : ((wrap64 (x28_4 + x34_5)) != t360) = true := bne_iff_ne.mpr c59
                      have H' := Aside0.mk H
                      clear H
                      have hcz63_0 : wr.cell? ⟨gb389, 0, none⟩ = some (.int .i64 ((rd_T61 t384 x190_4).f0)) := (blk_cell BK389.out 0).trans rfl
                      have hcz63_1 : wr.cell? ⟨gb389, 1, none⟩ = some (.string ((rd_T61 t384 x190_4).f1)) := (blk_cell BK389.out 1).trans rfl
                      have hcz63_2 : wr.cell? ⟨gb389, 2, none⟩ = some (.string ((rd_T61 t384 x190_4).f2)) := (blk_cell BK389.out 2).trans rfl
                      have hfz63_0 := blk_frozen BK389.out 0
                      have hfz63_1 := blk_frozen BK389.out 1
                      have hfz63_2 := blk_frozen BK389.out 2
                      go_wp2
                      go_roundg k5
                      case measure => have := HJ6.out; have := HJ19.out; have := HJ36.out; have := HK4.out; have := HK5.out; omega
                      case rel => exact ⟨(wrap64 (x34_5 + 1)), (by first | rfl | (simp; done) | (simp [*]; done)), H', ⟨by have := HJ6.out; have := HJ19.out; have := HJ36.out; have := HK4.out; have := HK5.out; omega⟩, ⟨by (with_reducible repeat (first | apply Kd.R_alloc | apply Kd.R_drewN | apply Kd.R_drew)); exact HO_188.out⟩, ⟨by (with_reducible repeat (first | refine blk_drewN ?_ _ | refine blk_drew ?_ | refine blk_alloc ?_ _)); exact BK389.out⟩, ⟨by repeat (first | (with_reducible first | exact HB.out | apply below_alloc | apply pw_below_drewN | apply below_drew1 | refine below_set ?_ GE389.out) | exact HB.out)⟩⟩
                    ·rw [if_neg c58] at H
                     have c58b0 : decide (x34_5 < ((rd_T61 t384 x190_4).f0)) = false := decide_eq_false c58
                     clear c58
                     have H' := Aside0.mk H
                     clear H
                     have hcz64_0 : wr.cell? ⟨gb389, 0, none⟩ = some (.int .i64 ((rd_T61 t384 x190_4).f0)) := (blk_cell BK389.out 0).trans rfl
                     have hcz64_1 : wr.cell? ⟨gb389, 1, none⟩ = some (.string ((rd_T61 t384 x190_4).f1)) := (blk_cell BK389.out 1).trans rfl
                     have hcz64_2 : wr.cell? ⟨gb389, 2, none⟩ = some (.string ((rd_T61 t384 x190_4).f2)) := (blk_cell BK389.out 2).trans rfl
                     have hfz64_0 := blk_frozen BK389.out 0
                     have hfz64_1 := blk_frozen BK389.out 1
                     have hfz64_2 := blk_frozen BK389.out 2
                     go_wp2
                     go_roundg k5
                     case measure => have := HJ6.out; have := HJ19.out; have := HJ36.out; have := HK4.out; have := HK5.out; omega
                     case rel => exact ⟨(wrap64 (x28_4 + (wrap64 (((rd_T61 t384 x190_4).f0) + (((rd_T61 t384 x190_4).f2).size : Int))))), (wrap64 (x29_4 + (wrap64 (((rd_T61 t384 x190_4).f0) + (((rd_T61 t384 x190_4).f1).size : Int))))), (wrap64 (x190_4 + 1)), (by first | rfl | (simp; done) | (simp [*]; done)), (by first | rfl | (simp; done) | (simp [*]; done)), (by first | rfl | (simp; done) | (simp [*]; done)), H', ⟨by have := HJ6.out; have := HJ19.out; have := HJ36.out; have := HK4.out; have := HK5.out; omega⟩, ⟨by (with_reducible repeat (first | apply Kd.R_alloc | apply Kd.R_drewN | apply Kd.R_drew)); exact Kd.R_mono HO_188.out (fun _ hk => trivial)⟩, ⟨by repeat (first | (with_reducible first | exact HB.out | apply below_alloc | apply pw_below_drewN | apply below_drew1 | refine below_set ?_ GE389.out) | exact HB.out)⟩⟩
                 ·rw [if_neg c55] at H
                  exact absurd H (by simp)
                ·rw [if_neg c54] at H
                 exact absurd H (by simp)
               ·rw [if_neg c53] at H
                have c53b0 : decide (x190_4 < (t384.length : Int)) = false := decide_eq_false c53
                clear c53
                obtain rfl := Option.some.inj H
                go_wp2
                go_ret
                exact ⟨by first | rfl | (simp [errW_none, errW_some] <;> rfl) | (simp [errW_none, errW_some]; exact (show ∀ l_ : List UInt8, l_.isEmpty = !(l_ != []) from fun l_ => by cases l_ <;> rfl) _) | (simp [errW_none, errW_some]; exact (show ∀ l_ : List UInt8, l_.isEmpty = !(l_ != []) from fun l_ => by cases l_ <;> rfl) _) | (simp [*, errW_none, errW_some] <;> rfl), by repeat (first | (with_reducible first | exact HB.out | apply below_alloc | apply pw_below_drewN | apply below_drew1) | exact HB.out)⟩
     ·replace c14 := Bool.eq_false_iff.mpr c14
      subst c14
      have H1 : (some (t364 == 0)) = some r := by rw [if_neg (show ¬ (false = true) by decide)] at H; exact H
      clear H
      have H := H1
      clear H1
      obtain rfl := Option.some.inj H
      go_wp2
      go_ret
      exact ⟨by first | rfl | (simp [errW_none, errW_some] <;> rfl) | (simp [errW_none, errW_some]; exact (show ∀ l_ : List UInt8, l_.isEmpty = !(l_ != []) from fun l_ => by cases l_ <;> rfl) _) | (simp [errW_none, errW_some]; exact (show ∀ l_ : List UInt8, l_.isEmpty = !(l_ != []) from fun l_ => by cases l_ <;> rfl) _) | (simp [*, errW_none, errW_some] <;> rfl), by repeat (first | (with_reducible first | exact HB.out | apply below_alloc | apply pw_below_drewN | apply below_drew1) | exact HB.out)⟩
/-- THE ONE PURE STATEMENT of laws_FnPlaces: yours. -/
def laws_FnPlaces.Pure : Prop := ∀ (l0 : List Int) (l1 : List Int), l0.length ≤ maxLen → l0.length * 1 ≤ 140737488351232 → (∀ x ∈ l0, (Lit.int .u8 x).wf = true) → l1.length ≤ maxLen → l1.length * 1 ≤ 140737488351232 → (∀ x ∈ l1, (Lit.int .u8 x).wf = true) → ∃ k, laws_FnPlaces.f k l0 l1 = some true
theorem laws_FnPlaces.walk (P : laws_FnPlaces.Pure) (a0 : Option Addr) (len0 cap0 : Nat) (z0 : List Int) (a1 : Option Addr) (len1 cap1 : Nat) (z1 : List Int) (w : World) (w0 : (a0 = none ∧ len0 = 0 ∧ cap0 = 0 ∧ z0 = []) ∨ ∃ x, a0 = some x ∧ len0 ≤ cap0 ∧ cap0 ≤ maxLen ∧ z0.length = cap0 ∧ (∀ i, i < z0.length → w.cell? (x.add i) = some (.int .u8 (z0.getD i 0))) ∧ ∀ n ∈ z0, (Lit.int .u8 n).wf = true) (y0 : len0 * 1 ≤ 140737488351232) (w1 : (a1 = none ∧ len1 = 0 ∧ cap1 = 0 ∧ z1 = []) ∨ ∃ x, a1 = some x ∧ len1 ≤ cap1 ∧ cap1 ≤ maxLen ∧ z1.length = cap1 ∧ (∀ i, i < z1.length → w.cell? (x.add i) = some (.int .u8 (z1.getD i 0))) ∧ ∀ n ∈ z1, (Lit.int .u8 n).wf = true) (y1 : len1 * 1 ≤ 140737488351232) :
  Calls Try.prog 9 #[.slice a0 len0 cap0, .slice a1 len1 cap1] w fun e w' => e = .returned (.bool true) ∧ Below w.heap.size w w' := by
 obtain ⟨l0, rfl, hr0, hm0, hw0, hc0⟩ := ReadsInt.ofRowC w0
 obtain ⟨l1, rfl, hr1, hm1, hw1, hc1⟩ := ReadsInt.ofRowC w1
 obtain ⟨k, h⟩ := P l0 l1 hm0 y0 hw0 hm1 y1 hw1
 refine (laws_FnPlaces.calls k _ _ l0 _ _ l1 true w (Kd.C_of_reads (d := (0 : Int)) (h1 := fun _ => rfl) hr0) hc0 (Kd.C_of_reads (d := (0 : Int)) (h1 := fun _ => rfl) hr1) hc1 h).mono ?_
 rintro e w' ⟨rfl, hd⟩
 exact ⟨rfl, hd⟩
end Go.Proofs.Ytmhcmcdppimcpaa.PFnPlaces
