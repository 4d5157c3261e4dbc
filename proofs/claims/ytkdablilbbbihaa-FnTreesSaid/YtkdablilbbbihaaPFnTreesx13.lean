/- Written by a program of this session (wip/ovl.py) over the kit's print: plain functions with the answers of the Go functions, and the proofs that they are; no condition. -/
import Derived.Test.YtkdablilbbbihaaPFnTreesx0
import Derived.Test.YtkdablilbbbihaaPFnTreesx4
import Derived.Test.YtkdablilbbbihaaPFnTreesx5
import Derived.Test.YtkdablilbbbihaaPFnTreesx7
import Derived.Test.YtkdablilbbbihaaPFnTreesx8
import Derived.Test.YtkdablilbbbihaaPFnTreesx11
import Derived.Test.YtkdablilbbbihaaPFnTreesx12
namespace Go.Proofs.Ytkdablilbbbihaa.PFnTrees
open Go.RowKit Go.Proofs.YtkdablilbbbihaaW.PrintWords Go.Proofs.YtkdablilbbbihaaW.PrintLast Go.Proofs.YtkdablilbbbihaaW.PrintMore
attribute [local go_sem] max2_int min2_int max_two min_two max_three min_three max_four min_four   -- for this text's walks alone
set_option linter.unusedVariables false
set_option linter.unusedSimpArgs false

/-! ### laws_FnTrees: function 11 -/
mutual
def laws_FnTrees.j0 : Nat → List Int → ByteArray → List (S54) → Bool → Bool → Option (Bool)
  | 0, _, _, _, _, _ => none
  | k + 1, x1, x5, x6, x7, x51 => if x51 = true then (some false) else (if x7 = true then ((impl_FlatOf.f k x6).bind fun bt353 => (if bt353.2 = true then (if bt353.1.toList = x5.toList then ((impl_GoodTree.f k x6).bind fun t355 => (if t355 = true then (laws_FnTrees.j1 k x1) else (some false))) else (some false)) else (some false))) else (laws_FnTrees.j1 k x1))
def laws_FnTrees.j1 : Nat → List Int → Option (Bool)
  | 0, _ => none
  | k + 1, x1 => (spec_DrawKidsOf.f k x1).bind fun bt356 => ((impl_KidsOf.f k bt356.1 bt356.2).bind fun bt360 => ((spec_KidsOf.f k bt356.1 bt356.2).bind fun bt364 => (if (bt360.2 != bt364.2) = true then (laws_FnTrees.j2 k bt356.1 bt356.2 bt360.1 bt360.2 true) else ((laws_sameInts.f k bt360.1 bt364.1).bind fun t368 => (laws_FnTrees.j2 k bt356.1 bt356.2 bt360.1 bt360.2 (!t368))))))
def laws_FnTrees.j2 : Nat → List (S54) → Int → List Int → Bool → Bool → Option (Bool)
  | 0, _, _, _, _, _ => none
  | k + 1, x12, x13, x14, x15, x95 => if x95 = true then (some false) else (if x15 = true then ((impl_SizeOf.f k x12 x13).bind fun bt369 => (if 0 ≤ x13 then (if x13 < (x12.length : Int) then (if ((rd_T54 x12 x13).f0).toList = ([] : List UInt8) then (laws_FnTrees.j3 k x12 x13 x14 bt369.1 bt369.2 (((rd_T54 x12 x13).f1).size : Int)) else (laws_FnTrees.j3 k x12 x13 x14 bt369.1 bt369.2 (wrap64 ((((rd_T54 x12 x13).f1).size : Int) + 2)))) else (none)) else (none))) else (some ((x14.length : Int) == 0)))
def laws_FnTrees.j3 : Nat → List (S54) → Int → List Int → Int → Bool → Int → Option (Bool)
  | 0, _, _, _, _, _, _ => none
  | k + 1, x12, x13, x14, x18, x19, x20 => laws_FnTrees.l0 k x12 x13 x18 x19 x20 x14 (x14.length : Int) 0
def laws_FnTrees.l0 : Nat → List (S54) → Int → Int → Bool → Int → List Int → Int → Int → Option (Bool)
  | 0, _, _, _, _, _, _, _, _ => none
  | k + 1, x12, x13, x18, x19, x20, x121, x122, x123 => if x123 < x122 then (if 0 ≤ x123 then (if x123 < (x121.length : Int) then ((impl_SizeOf.f k x12 (rd x121 x123)).bind fun bt374 => (if bt374.2 = true then (if 0 ≤ (rd x121 x123) then (if (rd x121 x123) < (x12.length : Int) then (if ((rd_T54 x12 (rd x121 x123)).f2) = x13 then (laws_FnTrees.l0 k x12 x13 x18 x19 (wrap64 (x20 + bt374.1)) x121 x122 (wrap64 (x123 + 1))) else (some false)) else (none)) else (none)) else (some false))) else (none)) else (none)) else (if x19 = true then (some (x18 == x20)) else (some false))
end
def laws_FnTrees.f (k : Nat) (l0 : List Int) (l1 : List Int) : Option (Bool) := if (wrap64 ((l0.length : Int) + (l1.length : Int))) > 1048576 then (some true) else ((spec_DrawTreeOf.f k l0).bind fun t343 => ((impl_TreeOf.f k t343).bind fun bt344 => ((spec_TreeOf.f k t343).bind fun bt348 => (if (bt344.2 != bt348.2) = true then (laws_FnTrees.j0 k l1 t343 bt344.1 bt344.2 true) else ((laws_sameNodes.f k bt344.1 bt348.1).bind fun t352 => (laws_FnTrees.j0 k l1 t343 bt344.1 bt344.2 (!t352)))))))
theorem laws_FnTrees.mono_l : ∀ k, (∀ y0 y1 y2 y3 y4, LeO (laws_FnTrees.j0 k y0 y1 y2 y3 y4) (laws_FnTrees.j0 (k + 1) y0 y1 y2 y3 y4)) ∧ (∀ y0, LeO (laws_FnTrees.j1 k y0) (laws_FnTrees.j1 (k + 1) y0)) ∧ (∀ y0 y1 y2 y3 y4, LeO (laws_FnTrees.j2 k y0 y1 y2 y3 y4) (laws_FnTrees.j2 (k + 1) y0 y1 y2 y3 y4)) ∧ (∀ y0 y1 y2 y3 y4 y5, LeO (laws_FnTrees.j3 k y0 y1 y2 y3 y4 y5) (laws_FnTrees.j3 (k + 1) y0 y1 y2 y3 y4 y5)) ∧ (∀ y0 y1 y2 y3 y4 y5 y6 y7, LeO (laws_FnTrees.l0 k y0 y1 y2 y3 y4 y5 y6 y7) (laws_FnTrees.l0 (k + 1) y0 y1 y2 y3 y4 y5 y6 y7))
  | 0 => ⟨fun _ _ _ _ _ r h => by simp [laws_FnTrees.j0] at h, fun _ r h => by simp [laws_FnTrees.j1] at h, fun _ _ _ _ _ r h => by simp [laws_FnTrees.j2] at h, fun _ _ _ _ _ _ r h => by simp [laws_FnTrees.j3] at h, fun _ _ _ _ _ _ _ _ r h => by simp [laws_FnTrees.l0] at h⟩
  | k + 1 => by
    obtain ⟨ih0, ih1, ih2, ih3, ih4⟩ := laws_FnTrees.mono_l k
    refine ⟨?_, ?_, ?_, ?_, ?_⟩
    · intro y0 y1 y2 y3 y4
      unfold laws_FnTrees.j0
      repeat' first
      | (with_reducible exact ih0 _ _ _ _ _)
      | (with_reducible exact ih1 _)
      | (with_reducible exact ih2 _ _ _ _ _)
      | (with_reducible exact ih3 _ _ _ _ _ _)
      | (with_reducible exact ih4 _ _ _ _ _ _ _ _)
      | (with_reducible exact impl_FlatOf.mono _ _)
      | (with_reducible exact impl_GoodTree.mono _ _)
      | (with_reducible exact impl_KidsOf.mono _ _ _)
      | (with_reducible exact impl_SizeOf.mono _ _ _)
      | (with_reducible exact impl_TreeOf.mono _ _)
      | (with_reducible exact laws_sameInts.mono _ _ _)
      | (with_reducible exact laws_sameNodes.mono _ _ _)
      | (with_reducible exact spec_DrawKidsOf.mono _ _)
      | (with_reducible exact spec_DrawTreeOf.mono _ _)
      | (with_reducible exact spec_KidsOf.mono _ _ _)
      | (with_reducible exact spec_TreeOf.mono _ _)
      | (with_reducible exact LeO.refl _)
      | (with_reducible exact LeO.none _)
      | (with_reducible refine LeO.ite ?_ ?_)
      | (with_reducible refine LeO.bind ?_ (fun _ => ?_))
      | exact ih0 _ _ _ _ _
      | exact ih1 _
      | exact ih2 _ _ _ _ _
      | exact ih3 _ _ _ _ _ _
      | exact ih4 _ _ _ _ _ _ _ _
      | exact impl_FlatOf.mono _ _
      | exact impl_GoodTree.mono _ _
      | exact impl_KidsOf.mono _ _ _
      | exact impl_SizeOf.mono _ _ _
      | exact impl_TreeOf.mono _ _
      | exact laws_sameInts.mono _ _ _
      | exact laws_sameNodes.mono _ _ _
      | exact spec_DrawKidsOf.mono _ _
      | exact spec_DrawTreeOf.mono _ _
      | exact spec_KidsOf.mono _ _ _
      | exact spec_TreeOf.mono _ _
      | exact LeO.none _
      | refine LeO.ite ?_ ?_
      | refine LeO.bind ?_ (fun _ => ?_)
    · intro y0
      unfold laws_FnTrees.j1
      repeat' first
      | (with_reducible exact ih0 _ _ _ _ _)
      | (with_reducible exact ih1 _)
      | (with_reducible exact ih2 _ _ _ _ _)
      | (with_reducible exact ih3 _ _ _ _ _ _)
      | (with_reducible exact ih4 _ _ _ _ _ _ _ _)
      | (with_reducible exact impl_FlatOf.mono _ _)
      | (with_reducible exact impl_GoodTree.mono _ _)
      | (with_reducible exact impl_KidsOf.mono _ _ _)
      | (with_reducible exact impl_SizeOf.mono _ _ _)
      | (with_reducible exact impl_TreeOf.mono _ _)
      | (with_reducible exact laws_sameInts.mono _ _ _)
      | (with_reducible exact laws_sameNodes.mono _ _ _)
      | (with_reducible exact spec_DrawKidsOf.mono _ _)
      | (with_reducible exact spec_DrawTreeOf.mono _ _)
      | (with_reducible exact spec_KidsOf.mono _ _ _)
      | (with_reducible exact spec_TreeOf.mono _ _)
      | (with_reducible exact LeO.refl _)
      | (with_reducible exact LeO.none _)
      | (with_reducible refine LeO.ite ?_ ?_)
      | (with_reducible refine LeO.bind ?_ (fun _ => ?_))
      | exact ih0 _ _ _ _ _
      | exact ih1 _
      | exact ih2 _ _ _ _ _
      | exact ih3 _ _ _ _ _ _
      | exact ih4 _ _ _ _ _ _ _ _
      | exact impl_FlatOf.mono _ _
      | exact impl_GoodTree.mono _ _
      | exact impl_KidsOf.mono _ _ _
      | exact impl_SizeOf.mono _ _ _
      | exact impl_TreeOf.mono _ _
      | exact laws_sameInts.mono _ _ _
      | exact laws_sameNodes.mono _ _ _
      | exact spec_DrawKidsOf.mono _ _
      | exact spec_DrawTreeOf.mono _ _
      | exact spec_KidsOf.mono _ _ _
      | exact spec_TreeOf.mono _ _
      | exact LeO.none _
      | refine LeO.ite ?_ ?_
      | refine LeO.bind ?_ (fun _ => ?_)
    · intro y0 y1 y2 y3 y4
      unfold laws_FnTrees.j2
      repeat' first
      | (with_reducible exact ih0 _ _ _ _ _)
      | (with_reducible exact ih1 _)
      | (with_reducible exact ih2 _ _ _ _ _)
      | (with_reducible exact ih3 _ _ _ _ _ _)
      | (with_reducible exact ih4 _ _ _ _ _ _ _ _)
      | (with_reducible exact impl_FlatOf.mono _ _)
      | (with_reducible exact impl_GoodTree.mono _ _)
      | (with_reducible exact impl_KidsOf.mono _ _ _)
      | (with_reducible exact impl_SizeOf.mono _ _ _)
      | (with_reducible exact impl_TreeOf.mono _ _)
      | (with_reducible exact laws_sameInts.mono _ _ _)
      | (with_reducible exact laws_sameNodes.mono _ _ _)
      | (with_reducible exact spec_DrawKidsOf.mono _ _)
      | (with_reducible exact spec_DrawTreeOf.mono _ _)
      | (with_reducible exact spec_KidsOf.mono _ _ _)
      | (with_reducible exact spec_TreeOf.mono _ _)
      | (with_reducible exact LeO.refl _)
      | (with_reducible exact LeO.none _)
      | (with_reducible refine LeO.ite ?_ ?_)
      | (with_reducible refine LeO.bind ?_ (fun _ => ?_))
      | exact ih0 _ _ _ _ _
      | exact ih1 _
      | exact ih2 _ _ _ _ _
      | exact ih3 _ _ _ _ _ _
      | exact ih4 _ _ _ _ _ _ _ _
      | exact impl_FlatOf.mono _ _
      | exact impl_GoodTree.mono _ _
      | exact impl_KidsOf.mono _ _ _
      | exact impl_SizeOf.mono _ _ _
      | exact impl_TreeOf.mono _ _
      | exact laws_sameInts.mono _ _ _
      | exact laws_sameNodes.mono _ _ _
      | exact spec_DrawKidsOf.mono _ _
      | exact spec_DrawTreeOf.mono _ _
      | exact spec_KidsOf.mono _ _ _
      | exact spec_TreeOf.mono _ _
      | exact LeO.none _
      | refine LeO.ite ?_ ?_
      | refine LeO.bind ?_ (fun _ => ?_)
    · intro y0 y1 y2 y3 y4 y5
      unfold laws_FnTrees.j3
      repeat' first
      | (with_reducible exact ih0 _ _ _ _ _)
      | (with_reducible exact ih1 _)
      | (with_reducible exact ih2 _ _ _ _ _)
      | (with_reducible exact ih3 _ _ _ _ _ _)
      | (with_reducible exact ih4 _ _ _ _ _ _ _ _)
      | (with_reducible exact impl_FlatOf.mono _ _)
      | (with_reducible exact impl_GoodTree.mono _ _)
      | (with_reducible exact impl_KidsOf.mono _ _ _)
      | (with_reducible exact impl_SizeOf.mono _ _ _)
      | (with_reducible exact impl_TreeOf.mono _ _)
      | (with_reducible exact laws_sameInts.mono _ _ _)
      | (with_reducible exact laws_sameNodes.mono _ _ _)
      | (with_reducible exact spec_DrawKidsOf.mono _ _)
      | (with_reducible exact spec_DrawTreeOf.mono _ _)
      | (with_reducible exact spec_KidsOf.mono _ _ _)
      | (with_reducible exact spec_TreeOf.mono _ _)
      | (with_reducible exact LeO.refl _)
      | (with_reducible exact LeO.none _)
      | (with_reducible refine LeO.ite ?_ ?_)
      | (with_reducible refine LeO.bind ?_ (fun _ => ?_))
      | exact ih0 _ _ _ _ _
      | exact ih1 _
      | exact ih2 _ _ _ _ _
      | exact ih3 _ _ _ _ _ _
      | exact ih4 _ _ _ _ _ _ _ _
      | exact impl_FlatOf.mono _ _
      | exact impl_GoodTree.mono _ _
      | exact impl_KidsOf.mono _ _ _
      | exact impl_SizeOf.mono _ _ _
      | exact impl_TreeOf.mono _ _
      | exact laws_sameInts.mono _ _ _
      | exact laws_sameNodes.mono _ _ _
      | exact spec_DrawKidsOf.mono _ _
      | exact spec_DrawTreeOf.mono _ _
      | exact spec_KidsOf.mono _ _ _
      | exact spec_TreeOf.mono _ _
      | exact LeO.none _
      | refine LeO.ite ?_ ?_
      | refine LeO.bind ?_ (fun _ => ?_)
    · intro y0 y1 y2 y3 y4 y5 y6 y7
      unfold laws_FnTrees.l0
      repeat' first
      | (with_reducible exact ih0 _ _ _ _ _)
      | (with_reducible exact ih1 _)
      | (with_reducible exact ih2 _ _ _ _ _)
      | (with_reducible exact ih3 _ _ _ _ _ _)
      | (with_reducible exact ih4 _ _ _ _ _ _ _ _)
      | (with_reducible exact impl_FlatOf.mono _ _)
      | (with_reducible exact impl_GoodTree.mono _ _)
      | (with_reducible exact impl_KidsOf.mono _ _ _)
      | (with_reducible exact impl_SizeOf.mono _ _ _)
      | (with_reducible exact impl_TreeOf.mono _ _)
      | (with_reducible exact laws_sameInts.mono _ _ _)
      | (with_reducible exact laws_sameNodes.mono _ _ _)
      | (with_reducible exact spec_DrawKidsOf.mono _ _)
      | (with_reducible exact spec_DrawTreeOf.mono _ _)
      | (with_reducible exact spec_KidsOf.mono _ _ _)
      | (with_reducible exact spec_TreeOf.mono _ _)
      | (with_reducible exact LeO.refl _)
      | (with_reducible exact LeO.none _)
      | (with_reducible refine LeO.ite ?_ ?_)
      | (with_reducible refine LeO.bind ?_ (fun _ => ?_))
      | exact ih0 _ _ _ _ _
      | exact ih1 _
      | exact ih2 _ _ _ _ _
      | exact ih3 _ _ _ _ _ _
      | exact ih4 _ _ _ _ _ _ _ _
      | exact impl_FlatOf.mono _ _
      | exact impl_GoodTree.mono _ _
      | exact impl_KidsOf.mono _ _ _
      | exact impl_SizeOf.mono _ _ _
      | exact impl_TreeOf.mono _ _
      | exact laws_sameInts.mono _ _ _
      | exact laws_sameNodes.mono _ _ _
      | exact spec_DrawKidsOf.mono _ _
      | exact spec_DrawTreeOf.mono _ _
      | exact spec_KidsOf.mono _ _ _
      | exact spec_TreeOf.mono _ _
      | exact LeO.none _
      | refine LeO.ite ?_ ?_
      | refine LeO.bind ?_ (fun _ => ?_)
theorem laws_FnTrees.mono : ∀ a0 a1 k, LeO (laws_FnTrees.f k a0 a1) (laws_FnTrees.f (k + 1) a0 a1) := by
  intro a0 a1 k
  obtain ⟨ih0, ih1, ih2, ih3, ih4⟩ := laws_FnTrees.mono_l k
  unfold laws_FnTrees.f
  repeat' first
      | (with_reducible exact ih0 _ _ _ _ _)
      | (with_reducible exact ih1 _)
      | (with_reducible exact ih2 _ _ _ _ _)
      | (with_reducible exact ih3 _ _ _ _ _ _)
      | (with_reducible exact ih4 _ _ _ _ _ _ _ _)
      | (with_reducible exact impl_FlatOf.mono _ _)
      | (with_reducible exact impl_GoodTree.mono _ _)
      | (with_reducible exact impl_KidsOf.mono _ _ _)
      | (with_reducible exact impl_SizeOf.mono _ _ _)
      | (with_reducible exact impl_TreeOf.mono _ _)
      | (with_reducible exact laws_sameInts.mono _ _ _)
      | (with_reducible exact laws_sameNodes.mono _ _ _)
      | (with_reducible exact spec_DrawKidsOf.mono _ _)
      | (with_reducible exact spec_DrawTreeOf.mono _ _)
      | (with_reducible exact spec_KidsOf.mono _ _ _)
      | (with_reducible exact spec_TreeOf.mono _ _)
      | (with_reducible exact LeO.refl _)
      | (with_reducible exact LeO.none _)
      | (with_reducible refine LeO.ite ?_ ?_)
      | (with_reducible refine LeO.bind ?_ (fun _ => ?_))
      | exact ih0 _ _ _ _ _
      | exact ih1 _
      | exact ih2 _ _ _ _ _
      | exact ih3 _ _ _ _ _ _
      | exact ih4 _ _ _ _ _ _ _ _
      | exact impl_FlatOf.mono _ _
      | exact impl_GoodTree.mono _ _
      | exact impl_KidsOf.mono _ _ _
      | exact impl_SizeOf.mono _ _ _
      | exact impl_TreeOf.mono _ _
      | exact laws_sameInts.mono _ _ _
      | exact laws_sameNodes.mono _ _ _
      | exact spec_DrawKidsOf.mono _ _
      | exact spec_DrawTreeOf.mono _ _
      | exact spec_KidsOf.mono _ _ _
      | exact spec_TreeOf.mono _ _
      | exact LeO.none _
      | refine LeO.ite ?_ ?_
      | refine LeO.bind ?_ (fun _ => ?_)
set_option maxHeartbeats 8000000 in
set_option maxRecDepth 100000 in
theorem laws_FnTrees.calls (k : Nat) (A0 : Option Addr) (c0 : Nat) (l0 : List Int) (A1 : Option Addr) (c1 : Nat) (l1 : List Int) (r : Bool) (w : World) (hr0 : Kd.C (Kd.int .u8) w A0 l0.length l0) (hc0 : l0.length ≤ c0) (hr1 : Kd.C (Kd.int .u8) w A1 l1.length l1) (hc1 : l1.length ≤ c1) (h : laws_FnTrees.f k l0 l1 = some r) :
    Calls Try.prog 11 #[.slice A0 l0.length c0, .slice A1 l1.length c1] w fun e w' => e = .returned (.bool r) ∧ Below w.heap.size w w' := by
  have HR0 := Aside0.mk hr0
  have HC0 := Aside0.mk hc0
  clear hr0 hc0
  have HR1 := Aside0.mk hr1
  have HC1 := Aside0.mk hc1
  clear hr1 hc1
  have HB := Aside0.mk (Below.refl w.heap.size w)
  have H : (if (wrap64 ((l0.length : Int) + (l1.length : Int))) > 1048576 then (some true) else ((spec_DrawTreeOf.f k l0).bind fun t343 => ((impl_TreeOf.f k t343).bind fun bt344 => ((spec_TreeOf.f k t343).bind fun bt348 => (if (bt344.2 != bt348.2) = true then (laws_FnTrees.j0 k l1 t343 bt344.1 bt344.2 true) else ((laws_sameNodes.f k bt344.1 bt348.1).bind fun t352 => (laws_FnTrees.j0 k l1 t343 bt344.1 bt344.2 (!t352)))))))) = some r := h
  clear h
  by_cases c3 : (wrap64 ((l0.length : Int) + (l1.length : Int))) > 1048576
  · rw [if_pos c3] at H
    have c3b0 : decide (1048576 < (wrap64 ((l0.length : Int) + (l1.length : Int)))) = true := decide_eq_true c3
    clear c3
    obtain rfl := Option.some.inj H
    go_enter Try.func11, Try.ntmps11
    go_wp2
    go_ret
    exact ⟨by first | rfl | (simp [errW_none, errW_some] <;> rfl) | (simp [errW_none, errW_some]; exact (show ∀ l_ : List UInt8, l_.isEmpty = !(l_ != []) from fun l_ => by cases l_ <;> rfl) _) | (simp [*, errW_none, errW_some] <;> rfl), by repeat (first | (with_reducible first | exact HB.out | apply below_alloc | apply pw_below_drewN | apply below_drew1) | exact HB.out)⟩
  · rw [if_neg c3] at H
    have c3b0 : decide (1048576 < (wrap64 ((l0.length : Int) + (l1.length : Int)))) = false := decide_eq_false c3
    clear c3
    replace H := Option.bind_eq_some_iff.mp H
    obtain ⟨t343, A40, H⟩ := H
    replace H : ((impl_TreeOf.f k t343).bind fun bt344 => ((spec_TreeOf.f k t343).bind fun bt348 => (if (bt344.2 != bt348.2) = true then (laws_FnTrees.j0 k l1 t343 bt344.1 bt344.2 true) else ((laws_sameNodes.f k bt344.1 bt348.1).bind fun t352 => (laws_FnTrees.j0 k l1 t343 bt344.1 bt344.2 (!t352)))))) = some r := H
    have A4 := Aside0.mk A40
    clear A40
    replace H := Option.bind_eq_some_iff.mp H
    obtain ⟨⟨t344, t345⟩, A50, H⟩ := H
    replace H : ((spec_TreeOf.f k t343).bind fun bt348 => (if (t345 != bt348.2) = true then (laws_FnTrees.j0 k l1 t343 t344 t345 true) else ((laws_sameNodes.f k t344 bt348.1).bind fun t352 => (laws_FnTrees.j0 k l1 t343 t344 t345 (!t352))))) = some r := H
    have A5 := Aside0.mk A50
    clear A50
    replace H := Option.bind_eq_some_iff.mp H
    obtain ⟨⟨t348, t349⟩, A60, H⟩ := H
    replace H : (if (t345 != t349) = true then (laws_FnTrees.j0 k l1 t343 t344 t345 true) else ((laws_sameNodes.f k t344 t348).bind fun t352 => (laws_FnTrees.j0 k l1 t343 t344 t345 (!t352)))) = some r := H
    have A6 := Aside0.mk A60
    clear A60
    have HC7 := Aside0.mk H
    clear H
    go_enter Try.func11, Try.ntmps11
    go_upto_region 6 with (first | ((with_reducible refine gate_callee (f := 38) rfl ?_); refine goesL_ (some 32) rfl rfl Try.func38 (by kernel_rfl) rfl #[.slice A0 l0.length c0] rfl (by (try simp only [List.map_toArray, List.map_cons, List.map_nil]); first | done | rfl | (simp only [List.length_drop, List.length_take]; rfl)) ?_; (with_reducible refine (spec_DrawTreeOf.calls k _ _ l0 t343 _ ?side1 ?side2 A4.out).mono ?_); (case side1 => repeat (first | exact HR0.out | (with_reducible refine Kd.C_alloc ?_ _) | (with_reducible refine Kd.C_drewN ?_ _) | (with_reducible refine Kd.C_drew ?_))); (case side2 => exact HC0.out); rintro e w8 ⟨rfl, hb⟩; refine ⟨_, rfl, ?_⟩; have n0_ := Aside0.mk (below_step (by repeat (first | (with_reducible first | exact HB.out | apply below_alloc | apply pw_below_drewN | apply below_drew1) | exact HB.out)) hb); clear HB; have HB := n0_; clear n0_; (try clear hb); (try clear hb2); (try clear hk); (try clear hi)) | ((with_reducible refine gate_callee (f := 19) rfl ?_); refine goesL_ (some 35) rfl rfl Try.func19 (by kernel_rfl) rfl #[.string t343] rfl (by (try simp only [List.map_toArray, List.map_cons, List.map_nil]); first | done | rfl | (simp only [List.length_drop, List.length_take]; rfl)) ?_; (with_reducible refine (impl_TreeOf.calls k t343 t344 t345 _ A5.out).mono ?_); rintro e w9 ⟨v346, rfl, ho0, hb⟩; refine ⟨_, rfl, ?_⟩; have n0_ := Aside0.mk (Kd.R_lower ho0 (below_size (by repeat (first | (with_reducible first | exact HB.out | apply below_alloc | apply pw_below_drewN | apply below_drew1) | exact HB.out)))); have n1_ := Aside0.mk (below_step (by repeat (first | (with_reducible first | exact HB.out | apply below_alloc | apply pw_below_drewN | apply below_drew1) | exact HB.out)) hb); clear HB; have HO347 := n0_; have HB := n1_; clear n0_ n1_; (try clear hb); (try clear hb2); (try clear hk); (try clear hi); (try clear ho0)) | ((with_reducible refine gate_callee (f := 18) rfl ?_); refine goesL_ (some 40) rfl rfl Try.func18 (by kernel_rfl) rfl #[.string t343] rfl (by (try simp only [List.map_toArray, List.map_cons, List.map_nil]); first | done | rfl | (simp only [List.length_drop, List.length_take]; rfl)) ?_; (with_reducible refine (spec_TreeOf.calls k t343 t348 t349 _ A6.out).mono ?_); rintro e w10 ⟨v350, rfl, ho0, hb⟩; refine ⟨_, rfl, ?_⟩; have n0_ := Aside0.mk (Kd.R_elder' (by (with_reducible repeat (first | apply Kd.R_alloc | apply Kd.R_drewN | apply Kd.R_drew)); exact HO347.out) (Kd.R_base ho0) hb); have n1_ := Aside0.mk (Kd.R_lower (Kd.R_new' ho0 (Kd.R_lt (by (with_reducible repeat (first | apply Kd.R_alloc | apply Kd.R_drewN | apply Kd.R_drew)); exact HO347.out))) (below_size (by repeat (first | (with_reducible first | exact HB.out | apply below_alloc | apply pw_below_drewN | apply below_drew1) | exact HB.out)))); have n2_ := Aside0.mk (below_step (by repeat (first | (with_reducible first | exact HB.out | apply below_alloc | apply pw_below_drewN | apply below_drew1) | exact HB.out)) hb); clear HO347; clear HB; have HO347 := n0_; have HO351 := n1_; have HB := n2_; clear n0_ n1_ n2_; (try clear hb); (try clear hb2); (try clear hk); (try clear hi); (try clear ho0)))
    (try simp only [Act.put, List.setIfInBounds_toArray, List.set_cons_zero, List.set_cons_succ])
    go_cut [51] (fun v51 wc => ∃ (kq : Nat) (x51_6 : Bool), v51 = .bool x51_6 ∧ Aside0 (laws_FnTrees.j0 kq l1 t343 t344 t345 x51_6 = some r) ∧ Aside0 (kq ≤ k) ∧ Aside0 (Kd.R k54 54 wc w.heap.size (fun _ => True) v346 t344) ∧ Aside0 (Below w.heap.size w wc))
    case first =>
      have H := HC7.out
      clear HC7
      by_cases c11 : (t345 != t349) = true
      · rw [if_pos c11] at H
        have c11b0 : (t345 != t349) = true := c11
        (try (have c11b1 : decide (t345 = t349) = false := by simpa using c11))
        (try (have c11b2 : (t345 == t349) = false := by simpa using c11))
        (try (have c11b3 : ¬ (t345 = t349) := by simpa using c11))
        clear c11
        (first | rw [c11b0] | (simp only [i64_w, i32_w]; rw [c11b0]) | rw [c11e] | skip)
        have H' := Aside0.mk H
        clear H
        go_wp2
        go_meet
        case rel => exact ⟨_, (true), (by first | rfl | (simp; done) | (simp [*]; done)), H', ⟨by first | omega | exact Nat.le_refl _⟩, ⟨by (with_reducible repeat (first | apply Kd.R_alloc | apply Kd.R_drewN | apply Kd.R_drew)); exact Kd.R_mono HO347.out (fun _ hk => trivial)⟩, ⟨by repeat (first | (with_reducible first | exact HB.out | apply below_alloc | apply pw_below_drewN | apply below_drew1) | exact HB.out)⟩⟩
      · rw [if_neg c11] at H
        have c11b0 : (t345 != t349) = false := by simpa using c11
        (try (have c11b1 : decide (t345 = t349) = true := by simpa using c11))
        (try (have c11b2 : (t345 == t349) = true := by simpa using c11))
        clear c11
        (first | rw [c11b0] | (simp only [i64_w, i32_w]; rw [c11b0]) | rw [c11e] | skip)
        replace H := Option.bind_eq_some_iff.mp H
        obtain ⟨t352, A120, H⟩ := H
        replace H : (laws_FnTrees.j0 k l1 t343 t344 t345 (!t352)) = some r := H
        have A12 := Aside0.mk A120
        clear A120
        have H' := Aside0.mk H
        clear H
        obtain ⟨Ao13, co13, eo13⟩ := Kd.R_slice HO347.out
        subst eo13
        obtain ⟨Ao14, co14, eo14⟩ := Kd.R_slice HO351.out
        subst eo14
        go_wp2_with (first | (go_at_call 39; (with_reducible refine (laws_sameNodes.calls k _ _ t344 _ _ t348 t352 _ ?side1 ?side2 ?side3 ?side4 A12.out).mono ?_); (case side1 => repeat (first | exact (Kd.R_reads' HO347.out).2.2 | (with_reducible refine Kd.C_alloc ?_ _) | (with_reducible refine Kd.C_drewN ?_ _) | (with_reducible refine Kd.C_drew ?_))); (case side2 => exact (Kd.R_reads' HO347.out).2.1); (case side3 => repeat (first | exact (Kd.R_reads' HO351.out).2.2 | (with_reducible refine Kd.C_alloc ?_ _) | (with_reducible refine Kd.C_drewN ?_ _) | (with_reducible refine Kd.C_drew ?_))); (case side4 => exact (Kd.R_reads' HO351.out).2.1); rintro e w' ⟨rfl, ⟨nd, rfl⟩⟩))
        go_meet
        case rel => exact ⟨_, (!t352), (by first | rfl | (simp; done) | (simp [*]; done)), H', ⟨by first | omega | exact Nat.le_refl _⟩, ⟨by (with_reducible repeat (first | apply Kd.R_alloc | apply Kd.R_drewN | apply Kd.R_drew)); exact Kd.R_mono HO347.out (fun _ hk => trivial)⟩, ⟨by repeat (first | (with_reducible first | exact HB.out | apply below_alloc | apply pw_below_drewN | apply below_drew1) | exact HB.out)⟩⟩
    case rest =>
      clear HC7
      try clear c1
      try clear p2
      try clear c3
      try clear c3b0
      try clear p6
      try clear c11
      try clear c11b0
      try clear c11b1
      try clear c11b2
      obtain ⟨kq, x51_6, rfl, HA, HJ6, HO_6, HB⟩ := hcut
      cases kq with
      | zero => exact absurd HA.out (by simp [laws_FnTrees.j0])
      | succ kj6 =>
        have H := HA.out
        clear HA
        simp only [laws_FnTrees.j0] at H
        by_cases c15 : x51_6 = true
        · subst c15
          have H1 : (some false) = some r := by rw [if_pos rfl] at H; exact H
          clear H
          have H := H1
          clear H1
          obtain rfl := Option.some.inj H
          go_wp2
          go_ret
          exact ⟨by first | rfl | (simp [errW_none, errW_some] <;> rfl) | (simp [errW_none, errW_some]; exact (show ∀ l_ : List UInt8, l_.isEmpty = !(l_ != []) from fun l_ => by cases l_ <;> rfl) _) | (simp [*, errW_none, errW_some] <;> rfl), by repeat (first | (with_reducible first | exact HB.out | apply below_alloc | apply pw_below_drewN | apply below_drew1) | exact HB.out)⟩
        · replace c15 := Bool.eq_false_iff.mpr c15
          subst c15
          have H1 : (if t345 = true then ((impl_FlatOf.f kj6 t344).bind fun bt353 => (if bt353.2 = true then (if bt353.1.toList = t343.toList then ((impl_GoodTree.f kj6 t344).bind fun t355 => (if t355 = true then (laws_FnTrees.j1 kj6 l1) else (some false))) else (some false)) else (some false))) else (laws_FnTrees.j1 kj6 l1)) = some r := by rw [if_neg (show ¬ (false = true) by decide)] at H; exact H
          clear H
          have H := H1
          clear H1
          have HC16 := Aside0.mk H
          clear H
          go_upto_if 52 with (fail)
          go_cut [] (fun wc => ∃ (kq : Nat), Aside0 (laws_FnTrees.j1 kq l1 = some r) ∧ Aside0 (kq ≤ kj6) ∧ Aside0 (Below w.heap.size w wc))
          case first =>
            have H := HC16.out
            clear HC16
            by_cases c17 : t345 = true
            · subst c17
              have H1 : ((impl_FlatOf.f kj6 t344).bind fun bt353 => (if bt353.2 = true then (if bt353.1.toList = t343.toList then ((impl_GoodTree.f kj6 t344).bind fun t355 => (if t355 = true then (laws_FnTrees.j1 kj6 l1) else (some false))) else (some false)) else (some false))) = some r := by rw [if_pos rfl] at H; exact H
              clear H
              have H := H1
              clear H1
              replace H := Option.bind_eq_some_iff.mp H
              obtain ⟨⟨t353, t354⟩, A180, H⟩ := H
              replace H : (if t354 = true then (if t353.toList = t343.toList then ((impl_GoodTree.f kj6 t344).bind fun t355 => (if t355 = true then (laws_FnTrees.j1 kj6 l1) else (some false))) else (some false)) else (some false)) = some r := H
              have A18 := Aside0.mk A180
              clear A180
              by_cases c19 : t354 = true
              · subst c19
                have H1 : (if t353.toList = t343.toList then ((impl_GoodTree.f kj6 t344).bind fun t355 => (if t355 = true then (laws_FnTrees.j1 kj6 l1) else (some false))) else (some false)) = some r := by rw [if_pos rfl] at H; exact H
                clear H
                have H := H1
                clear H1
                by_cases c20 : t353.toList = t343.toList
                · rw [if_pos c20] at H
                  have c20b0 : (t353.toList == t343.toList) = true := beq_iff_eq.mpr c20
                  have c20b1 : (t353.toList != t343.toList) = false := bne_eq_false_iff_eq.mpr c20
                  clear c20
                  (first | rw [c20b0] | (simp only [i64_w, i32_w]; rw [c20b0]) | rw [c20e] | skip)
                  replace H := Option.bind_eq_some_iff.mp H
                  obtain ⟨t355, A210, H⟩ := H
                  replace H : (if t355 = true then (laws_FnTrees.j1 kj6 l1) else (some false)) = some r := H
                  have A21 := Aside0.mk A210
                  clear A210
                  by_cases c22 : t355 = true
                  · subst c22
                    have H1 : (laws_FnTrees.j1 kj6 l1) = some r := by rw [if_pos rfl] at H; exact H
                    clear H
                    have H := H1
                    clear H1
                    have H' := Aside0.mk H
                    clear H
                    obtain ⟨Ao23, co23, eo23⟩ := Kd.R_slice HO_6.out
                    subst eo23
                    go_wp2_with (first | ((with_reducible refine gate_callee (f := 31) rfl ?_); refine goesL_ (some 55) rfl rfl Try.func31 (by kernel_rfl) rfl #[.slice Ao23 t344.length co23] rfl (by (try simp only [List.map_toArray, List.map_cons, List.map_nil]); first | done | rfl | (simp only [List.length_drop, List.length_take]; rfl)) ?_; (with_reducible refine (impl_FlatOf.calls kj6 _ _ t344 t353 true _ ?side1 ?side2 A18.out).mono ?_); (case side1 => repeat (first | exact (Kd.R_reads' HO_6.out).2.2 | (with_reducible refine Kd.C_alloc ?_ _) | (with_reducible refine Kd.C_drewN ?_ _) | (with_reducible refine Kd.C_drew ?_))); (case side2 => exact (Kd.R_reads' HO_6.out).2.1); rintro e w24 ⟨rfl, hb⟩; refine ⟨_, rfl, ?_⟩; have n0_ := Aside0.mk (Kd.R_below (by (with_reducible repeat (first | apply Kd.R_alloc | apply Kd.R_drewN | apply Kd.R_drew)); exact HO_6.out) hb); have n1_ := Aside0.mk (below_step (by repeat (first | (with_reducible first | exact HB.out | apply below_alloc | apply pw_below_drewN | apply below_drew1) | exact HB.out)) hb); clear HO_6; clear HB; have HO_6 := n0_; have HB := n1_; clear n0_ n1_; (try clear hb); (try clear hb2); (try clear hk); (try clear hi)) | (go_at_call 29; (with_reducible refine (impl_GoodTree.calls kj6 _ _ t344 true _ ?side1 ?side2 A21.out).mono ?_); (case side1 => repeat (first | exact (Kd.R_reads' HO_6.out).2.2 | (with_reducible refine Kd.C_alloc ?_ _) | (with_reducible refine Kd.C_drewN ?_ _) | (with_reducible refine Kd.C_drew ?_))); (case side2 => exact (Kd.R_reads' HO_6.out).2.1); rintro e w25 ⟨rfl, hb⟩; have n0_ := Aside0.mk (Kd.R_below (by (with_reducible repeat (first | apply Kd.R_alloc | apply Kd.R_drewN | apply Kd.R_drew)); exact HO_6.out) hb); have n1_ := Aside0.mk (below_step (by repeat (first | (with_reducible first | exact HB.out | apply below_alloc | apply pw_below_drewN | apply below_drew1) | exact HB.out)) hb); clear HO_6; clear HB; have HO_6 := n0_; have HB := n1_; clear n0_ n1_; (try clear hb); (try clear hb2); (try clear hk); (try clear hi)))
                    go_meet
                    case rel => exact ⟨_, H', ⟨by have := HJ6.out; first | omega | exact Nat.le_refl _⟩, ⟨by repeat (first | (with_reducible first | exact HB.out | apply below_alloc | apply pw_below_drewN | apply below_drew1) | exact HB.out)⟩⟩
                  · replace c22 := Bool.eq_false_iff.mpr c22
                    subst c22
                    have H1 : (some false) = some r := by rw [if_neg (show ¬ (false = true) by decide)] at H; exact H
                    clear H
                    have H := H1
                    clear H1
                    obtain rfl := Option.some.inj H
                    obtain ⟨Ao26, co26, eo26⟩ := Kd.R_slice HO_6.out
                    subst eo26
                    go_wp2_with (first | ((with_reducible refine gate_callee (f := 31) rfl ?_); refine goesL_ (some 55) rfl rfl Try.func31 (by kernel_rfl) rfl #[.slice Ao26 t344.length co26] rfl (by (try simp only [List.map_toArray, List.map_cons, List.map_nil]); first | done | rfl | (simp only [List.length_drop, List.length_take]; rfl)) ?_; (with_reducible refine (impl_FlatOf.calls kj6 _ _ t344 t353 true _ ?side1 ?side2 A18.out).mono ?_); (case side1 => repeat (first | exact (Kd.R_reads' HO_6.out).2.2 | (with_reducible refine Kd.C_alloc ?_ _) | (with_reducible refine Kd.C_drewN ?_ _) | (with_reducible refine Kd.C_drew ?_))); (case side2 => exact (Kd.R_reads' HO_6.out).2.1); rintro e w27 ⟨rfl, hb⟩; refine ⟨_, rfl, ?_⟩; have n0_ := Aside0.mk (Kd.R_below (by (with_reducible repeat (first | apply Kd.R_alloc | apply Kd.R_drewN | apply Kd.R_drew)); exact HO_6.out) hb); have n1_ := Aside0.mk (below_step (by repeat (first | (with_reducible first | exact HB.out | apply below_alloc | apply pw_below_drewN | apply below_drew1) | exact HB.out)) hb); clear HO_6; clear HB; have HO_6 := n0_; have HB := n1_; clear n0_ n1_; (try clear hb); (try clear hb2); (try clear hk); (try clear hi)) | (go_at_call 29; (with_reducible refine (impl_GoodTree.calls kj6 _ _ t344 false _ ?side1 ?side2 A21.out).mono ?_); (case side1 => repeat (first | exact (Kd.R_reads' HO_6.out).2.2 | (with_reducible refine Kd.C_alloc ?_ _) | (with_reducible refine Kd.C_drewN ?_ _) | (with_reducible refine Kd.C_drew ?_))); (case side2 => exact (Kd.R_reads' HO_6.out).2.1); rintro e w28 ⟨rfl, hb⟩; have n0_ := Aside0.mk (Kd.R_below (by (with_reducible repeat (first | apply Kd.R_alloc | apply Kd.R_drewN | apply Kd.R_drew)); exact HO_6.out) hb); have n1_ := Aside0.mk (below_step (by repeat (first | (with_reducible first | exact HB.out | apply below_alloc | apply pw_below_drewN | apply below_drew1) | exact HB.out)) hb); clear HO_6; clear HB; have HO_6 := n0_; have HB := n1_; clear n0_ n1_; (try clear hb); (try clear hb2); (try clear hk); (try clear hi)))
                    go_ret
                    exact ⟨by first | rfl | (simp [errW_none, errW_some] <;> rfl) | (simp [errW_none, errW_some]; exact (show ∀ l_ : List UInt8, l_.isEmpty = !(l_ != []) from fun l_ => by cases l_ <;> rfl) _) | (simp [*, errW_none, errW_some] <;> rfl), by repeat (first | (with_reducible first | exact HB.out | apply below_alloc | apply pw_below_drewN | apply below_drew1) | exact HB.out)⟩
                · rw [if_neg c20] at H
                  have c20b0 : (t353.toList == t343.toList) = false := beq_eq_false_iff_ne.mpr c20
                  have c20b1 : (t353.toList != t343.toList) = true := bne_iff_ne.mpr c20
                  (first | rw [c20b0] | (simp only [i64_w, i32_w]; rw [c20b0]) | rw [c20e] | skip)
                  obtain rfl := Option.some.inj H
                  obtain ⟨Ao29, co29, eo29⟩ := Kd.R_slice HO_6.out
                  subst eo29
                  go_wp2_with (first | ((with_reducible refine gate_callee (f := 31) rfl ?_); refine goesL_ (some 55) rfl rfl Try.func31 (by kernel_rfl) rfl #[.slice Ao29 t344.length co29] rfl (by (try simp only [List.map_toArray, List.map_cons, List.map_nil]); first | done | rfl | (simp only [List.length_drop, List.length_take]; rfl)) ?_; (with_reducible refine (impl_FlatOf.calls kj6 _ _ t344 t353 true _ ?side1 ?side2 A18.out).mono ?_); (case side1 => repeat (first | exact (Kd.R_reads' HO_6.out).2.2 | (with_reducible refine Kd.C_alloc ?_ _) | (with_reducible refine Kd.C_drewN ?_ _) | (with_reducible refine Kd.C_drew ?_))); (case side2 => exact (Kd.R_reads' HO_6.out).2.1); rintro e w30 ⟨rfl, hb⟩; refine ⟨_, rfl, ?_⟩; have n0_ := Aside0.mk (Kd.R_below (by (with_reducible repeat (first | apply Kd.R_alloc | apply Kd.R_drewN | apply Kd.R_drew)); exact HO_6.out) hb); have n1_ := Aside0.mk (below_step (by repeat (first | (with_reducible first | exact HB.out | apply below_alloc | apply pw_below_drewN | apply below_drew1) | exact HB.out)) hb); clear HO_6; clear HB; have HO_6 := n0_; have HB := n1_; clear n0_ n1_; (try clear hb); (try clear hb2); (try clear hk); (try clear hi)))
                  go_ret
                  exact ⟨by first | rfl | (simp [errW_none, errW_some] <;> rfl) | (simp [errW_none, errW_some]; exact (show ∀ l_ : List UInt8, l_.isEmpty = !(l_ != []) from fun l_ => by cases l_ <;> rfl) _) | (simp [*, errW_none, errW_some] <;> rfl), by repeat (first | (with_reducible first | exact HB.out | apply below_alloc | apply pw_below_drewN | apply below_drew1) | exact HB.out)⟩
              · replace c19 := Bool.eq_false_iff.mpr c19
                subst c19
                have H1 : (some false) = some r := by rw [if_neg (show ¬ (false = true) by decide)] at H; exact H
                clear H
                have H := H1
                clear H1
                obtain rfl := Option.some.inj H
                obtain ⟨Ao31, co31, eo31⟩ := Kd.R_slice HO_6.out
                subst eo31
                go_wp2_with (first | ((with_reducible refine gate_callee (f := 31) rfl ?_); refine goesL_ (some 55) rfl rfl Try.func31 (by kernel_rfl) rfl #[.slice Ao31 t344.length co31] rfl (by (try simp only [List.map_toArray, List.map_cons, List.map_nil]); first | done | rfl | (simp only [List.length_drop, List.length_take]; rfl)) ?_; (with_reducible refine (impl_FlatOf.calls kj6 _ _ t344 t353 false _ ?side1 ?side2 A18.out).mono ?_); (case side1 => repeat (first | exact (Kd.R_reads' HO_6.out).2.2 | (with_reducible refine Kd.C_alloc ?_ _) | (with_reducible refine Kd.C_drewN ?_ _) | (with_reducible refine Kd.C_drew ?_))); (case side2 => exact (Kd.R_reads' HO_6.out).2.1); rintro e w32 ⟨rfl, hb⟩; refine ⟨_, rfl, ?_⟩; have n0_ := Aside0.mk (Kd.R_below (by (with_reducible repeat (first | apply Kd.R_alloc | apply Kd.R_drewN | apply Kd.R_drew)); exact HO_6.out) hb); have n1_ := Aside0.mk (below_step (by repeat (first | (with_reducible first | exact HB.out | apply below_alloc | apply pw_below_drewN | apply below_drew1) | exact HB.out)) hb); clear HO_6; clear HB; have HO_6 := n0_; have HB := n1_; clear n0_ n1_; (try clear hb); (try clear hb2); (try clear hk); (try clear hi)))
                go_ret
                exact ⟨by first | rfl | (simp [errW_none, errW_some] <;> rfl) | (simp [errW_none, errW_some]; exact (show ∀ l_ : List UInt8, l_.isEmpty = !(l_ != []) from fun l_ => by cases l_ <;> rfl) _) | (simp [*, errW_none, errW_some] <;> rfl), by repeat (first | (with_reducible first | exact HB.out | apply below_alloc | apply pw_below_drewN | apply below_drew1) | exact HB.out)⟩
            · replace c17 := Bool.eq_false_iff.mpr c17
              subst c17
              have H1 : (laws_FnTrees.j1 kj6 l1) = some r := by rw [if_neg (show ¬ (false = true) by decide)] at H; exact H
              clear H
              have H := H1
              clear H1
              have H' := Aside0.mk H
              clear H
              go_wp2
              go_meet
              case rel => exact ⟨_, H', ⟨by have := HJ6.out; first | omega | exact Nat.le_refl _⟩, ⟨by repeat (first | (with_reducible first | exact HB.out | apply below_alloc | apply pw_below_drewN | apply below_drew1) | exact HB.out)⟩⟩
          case rest =>
            clear HC16
            try clear c1
            try clear c2
            try clear p2
            try clear c3
            try clear c3b0
            try clear p6
            try clear c11
            try clear c11b0
            try clear c11b1
            try clear c11b2
            try clear c15
            try clear c17
            try clear c18
            try clear c19
            try clear c20
            try clear c20b0
            try clear c20b1
            try clear c22
            try clear c31
            try clear p2
            try clear p6
            obtain ⟨kq, HA, HJ15, HB⟩ := hcut
            cases kq with
            | zero => exact absurd HA.out (by simp [laws_FnTrees.j1])
            | succ kj15 =>
              have H := HA.out
              clear HA
              simp only [laws_FnTrees.j1] at H
              replace H := Option.bind_eq_some_iff.mp H
              obtain ⟨⟨t356, t357⟩, A330, H⟩ := H
              replace H : ((impl_KidsOf.f kj15 t356 t357).bind fun bt360 => ((spec_KidsOf.f kj15 t356 t357).bind fun bt364 => (if (bt360.2 != bt364.2) = true then (laws_FnTrees.j2 kj15 t356 t357 bt360.1 bt360.2 true) else ((laws_sameInts.f kj15 bt360.1 bt364.1).bind fun t368 => (laws_FnTrees.j2 kj15 t356 t357 bt360.1 bt360.2 (!t368)))))) = some r := H
              have A33 := Aside0.mk A330
              clear A330
              replace H := Option.bind_eq_some_iff.mp H
              obtain ⟨⟨t360, t361⟩, A340, H⟩ := H
              replace H : ((spec_KidsOf.f kj15 t356 t357).bind fun bt364 => (if (t361 != bt364.2) = true then (laws_FnTrees.j2 kj15 t356 t357 t360 t361 true) else ((laws_sameInts.f kj15 t360 bt364.1).bind fun t368 => (laws_FnTrees.j2 kj15 t356 t357 t360 t361 (!t368))))) = some r := H
              have A34 := Aside0.mk A340
              clear A340
              replace H := Option.bind_eq_some_iff.mp H
              obtain ⟨⟨t364, t365⟩, A350, H⟩ := H
              replace H : (if (t361 != t365) = true then (laws_FnTrees.j2 kj15 t356 t357 t360 t361 true) else ((laws_sameInts.f kj15 t360 t364).bind fun t368 => (laws_FnTrees.j2 kj15 t356 t357 t360 t361 (!t368)))) = some r := H
              have A35 := Aside0.mk A350
              clear A350
              have HC36 := Aside0.mk H
              clear H
              go_upto_region 15 with (first | ((with_reducible refine gate_callee (f := 40) rfl ?_); refine goesL_ (some 72) rfl rfl Try.func40 (by kernel_rfl) rfl #[.slice A1 l1.length c1] rfl (by (try simp only [List.map_toArray, List.map_cons, List.map_nil]); first | done | rfl | (simp only [List.length_drop, List.length_take]; rfl)) ?_; (with_reducible refine (spec_DrawKidsOf.calls kj15 _ _ l1 t356 t357 _ ?side1 ?side2 A33.out).mono ?_); (case side1 => repeat (first | exact (Kd.C_below HR1.out HB.out) | (with_reducible refine Kd.C_alloc ?_ _) | (with_reducible refine Kd.C_drewN ?_ _) | (with_reducible refine Kd.C_drew ?_))); (case side2 => exact HC1.out); rintro e w37 ⟨v358, rfl, ho0, hb⟩; refine ⟨_, rfl, ?_⟩; have n0_ := Aside0.mk (Kd.R_lower ho0 (below_size (by repeat (first | (with_reducible first | exact HB.out | apply below_alloc | apply pw_below_drewN | apply below_drew1) | exact HB.out)))); have n1_ := Aside0.mk (below_step (by repeat (first | (with_reducible first | exact HB.out | apply below_alloc | apply pw_below_drewN | apply below_drew1) | exact HB.out)) hb); clear HB; have HO359 := n0_; have HB := n1_; clear n0_ n1_; (try clear hb); (try clear hb2); (try clear hk); (try clear hi); (try clear ho0); obtain ⟨Ao38, co38, eo38⟩ := Kd.R_slice HO359.out; subst eo38) | ((with_reducible refine gate_callee (f := 35) rfl ?_); refine goesL_ (some 78) rfl rfl Try.func35 (by kernel_rfl) rfl #[.slice Ao38 t356.length co38, .int .i64 t357] rfl (by (try simp only [List.map_toArray, List.map_cons, List.map_nil]); first | done | rfl | (simp only [List.length_drop, List.length_take]; rfl)) ?_; (with_reducible refine (impl_KidsOf.calls kj15 _ _ t356 t357 t360 t361 _ ?side1 ?side2 A34.out).mono ?_); (case side1 => repeat (first | exact (Kd.R_reads' HO359.out).2.2 | (with_reducible refine Kd.C_alloc ?_ _) | (with_reducible refine Kd.C_drewN ?_ _) | (with_reducible refine Kd.C_drew ?_))); (case side2 => exact (Kd.R_reads' HO359.out).2.1); rintro e w39 ⟨v362, rfl, ho0, hb⟩; refine ⟨_, rfl, ?_⟩; have n0_ := Aside0.mk (Kd.R_below (by (with_reducible repeat (first | apply Kd.R_alloc | apply Kd.R_drewN | apply Kd.R_drew)); exact HO359.out) hb); have n1_ := Aside0.mk (Kd.R_lower ho0 (below_size (by repeat (first | (with_reducible first | exact HB.out | apply below_alloc | apply pw_below_drewN | apply below_drew1) | exact HB.out)))); have n2_ := Aside0.mk (below_step (by repeat (first | (with_reducible first | exact HB.out | apply below_alloc | apply pw_below_drewN | apply below_drew1) | exact HB.out)) hb); clear HO359; clear HB; have HO359 := n0_; have HO363 := n1_; have HB := n2_; clear n0_ n1_ n2_; (try clear hb); (try clear hb2); (try clear hk); (try clear hi); (try clear ho0)) | ((with_reducible refine gate_callee (f := 34) rfl ?_); refine goesL_ (some 84) rfl rfl Try.func34 (by kernel_rfl) rfl #[.slice Ao38 t356.length co38, .int .i64 t357] rfl (by (try simp only [List.map_toArray, List.map_cons, List.map_nil]); first | done | rfl | (simp only [List.length_drop, List.length_take]; rfl)) ?_; (with_reducible refine (spec_KidsOf.calls kj15 _ _ t356 t357 t364 t365 _ ?side1 ?side2 A35.out).mono ?_); (case side1 => repeat (first | exact (Kd.R_reads' HO359.out).2.2 | (with_reducible refine Kd.C_alloc ?_ _) | (with_reducible refine Kd.C_drewN ?_ _) | (with_reducible refine Kd.C_drew ?_))); (case side2 => exact (Kd.R_reads' HO359.out).2.1); rintro e w40 ⟨v366, rfl, ho0, hb⟩; refine ⟨_, rfl, ?_⟩; have n0_ := Aside0.mk (Kd.R_below (by (with_reducible repeat (first | apply Kd.R_alloc | apply Kd.R_drewN | apply Kd.R_drew)); exact HO359.out) hb); have n1_ := Aside0.mk (Kd.R_elder' (by (with_reducible repeat (first | apply Kd.R_alloc | apply Kd.R_drewN | apply Kd.R_drew)); exact HO363.out) (Kd.R_base ho0) hb); have n2_ := Aside0.mk (Kd.R_lower (Kd.R_new' ho0 (Kd.R_lt (by (with_reducible repeat (first | apply Kd.R_alloc | apply Kd.R_drewN | apply Kd.R_drew)); exact HO363.out))) (below_size (by repeat (first | (with_reducible first | exact HB.out | apply below_alloc | apply pw_below_drewN | apply below_drew1) | exact HB.out)))); have n3_ := Aside0.mk (below_step (by repeat (first | (with_reducible first | exact HB.out | apply below_alloc | apply pw_below_drewN | apply below_drew1) | exact HB.out)) hb); clear HO359; clear HO363; clear HB; have HO359 := n0_; have HO363 := n1_; have HO367 := n2_; have HB := n3_; clear n0_ n1_ n2_ n3_; (try clear hb); (try clear hb2); (try clear hk); (try clear hi); (try clear ho0)))
              (try simp only [Act.put, List.setIfInBounds_toArray, List.set_cons_zero, List.set_cons_succ])
              go_cut [95] (fun v95 wc => ∃ (kq : Nat) (x95_35 : Bool), v95 = .bool x95_35 ∧ Aside0 (laws_FnTrees.j2 kq t356 t357 t360 t361 x95_35 = some r) ∧ Aside0 (kq ≤ kj15) ∧ Aside0 (Kd.R k54 54 wc w.heap.size (fun _ => True) (.slice Ao38 t356.length co38) t356) ∧ Aside0 (Kd.R (Kd.int .i64) 3 wc w.heap.size (fun _ => True) v362 t360) ∧ Aside0 (Below w.heap.size w wc))
              case first =>
                have H := HC36.out
                clear HC36
                by_cases c41 : (t361 != t365) = true
                · rw [if_pos c41] at H
                  have c41b0 : (t361 != t365) = true := c41
                  (try (have c41b1 : decide (t361 = t365) = false := by simpa using c41))
                  (try (have c41b2 : (t361 == t365) = false := by simpa using c41))
                  (try (have c41b3 : ¬ (t361 = t365) := by simpa using c41))
                  clear c41
                  (first | rw [c41b0] | (simp only [i64_w, i32_w]; rw [c41b0]) | rw [c41e] | skip)
                  have H' := Aside0.mk H
                  clear H
                  go_wp2
                  go_meet
                  case rel => exact ⟨_, (true), (by first | rfl | (simp; done) | (simp [*]; done)), H', ⟨by have := HJ6.out; have := HJ15.out; first | omega | exact Nat.le_refl _⟩, ⟨by (with_reducible repeat (first | apply Kd.R_alloc | apply Kd.R_drewN | apply Kd.R_drew)); exact HO359.out⟩, ⟨by (with_reducible repeat (first | apply Kd.R_alloc | apply Kd.R_drewN | apply Kd.R_drew)); exact Kd.R_mono HO363.out (fun _ hk => trivial)⟩, ⟨by repeat (first | (with_reducible first | exact HB.out | apply below_alloc | apply pw_below_drewN | apply below_drew1) | exact HB.out)⟩⟩
                · rw [if_neg c41] at H
                  have c41b0 : (t361 != t365) = false := by simpa using c41
                  (try (have c41b1 : decide (t361 = t365) = true := by simpa using c41))
                  (try (have c41b2 : (t361 == t365) = true := by simpa using c41))
                  clear c41
                  (first | rw [c41b0] | (simp only [i64_w, i32_w]; rw [c41b0]) | rw [c41e] | skip)
                  replace H := Option.bind_eq_some_iff.mp H
                  obtain ⟨t368, A420, H⟩ := H
                  replace H : (laws_FnTrees.j2 kj15 t356 t357 t360 t361 (!t368)) = some r := H
                  have A42 := Aside0.mk A420
                  clear A420
                  have H' := Aside0.mk H
                  clear H
                  obtain ⟨Ao43, co43, eo43⟩ := Kd.R_slice HO363.out
                  subst eo43
                  obtain ⟨Ao44, co44, eo44⟩ := Kd.R_slice HO367.out
                  subst eo44
                  go_wp2_with (first | (go_at_call 41; (with_reducible refine (laws_sameInts.calls kj15 _ _ t360 _ _ t364 t368 _ ?side1 ?side2 ?side3 ?side4 A42.out).mono ?_); (case side1 => repeat (first | exact (Kd.R_reads' HO363.out).2.2 | (with_reducible refine Kd.C_alloc ?_ _) | (with_reducible refine Kd.C_drewN ?_ _) | (with_reducible refine Kd.C_drew ?_))); (case side2 => exact (Kd.R_reads' HO363.out).2.1); (case side3 => repeat (first | exact (Kd.R_reads' HO367.out).2.2 | (with_reducible refine Kd.C_alloc ?_ _) | (with_reducible refine Kd.C_drewN ?_ _) | (with_reducible refine Kd.C_drew ?_))); (case side4 => exact (Kd.R_reads' HO367.out).2.1); rintro e w' ⟨rfl, ⟨nd, rfl⟩⟩))
                  go_meet
                  case rel => exact ⟨_, (!t368), (by first | rfl | (simp; done) | (simp [*]; done)), H', ⟨by have := HJ6.out; have := HJ15.out; first | omega | exact Nat.le_refl _⟩, ⟨by (with_reducible repeat (first | apply Kd.R_alloc | apply Kd.R_drewN | apply Kd.R_drew)); exact HO359.out⟩, ⟨by (with_reducible repeat (first | apply Kd.R_alloc | apply Kd.R_drewN | apply Kd.R_drew)); exact Kd.R_mono HO363.out (fun _ hk => trivial)⟩, ⟨by repeat (first | (with_reducible first | exact HB.out | apply below_alloc | apply pw_below_drewN | apply below_drew1) | exact HB.out)⟩⟩
              case rest =>
                clear HC36
                try clear c1
                try clear c2
                try clear p2
                try clear c3
                try clear c3b0
                try clear c4
                try clear p6
                try clear c11
                try clear c11b0
                try clear c11b1
                try clear c11b2
                try clear c15
                try clear c17
                try clear c18
                try clear c19
                try clear c20
                try clear c20b0
                try clear c20b1
                try clear c22
                try clear c31
                try clear c34
                try clear c35
                try clear c38
                try clear c40
                try clear c41
                try clear c41b0
                try clear c41b1
                try clear c41b2
                try clear p2
                try clear p6
                obtain ⟨kq, x95_35, rfl, HA, HJ35, HO_12, HO_14, HB⟩ := hcut
                cases kq with
                | zero => exact absurd HA.out (by simp [laws_FnTrees.j2])
                | succ kj35 =>
                  have H := HA.out
                  clear HA
                  simp only [laws_FnTrees.j2] at H
                  by_cases c45 : x95_35 = true
                  · subst c45
                    have H1 : (some false) = some r := by rw [if_pos rfl] at H; exact H
                    clear H
                    have H := H1
                    clear H1
                    obtain rfl := Option.some.inj H
                    go_wp2
                    go_ret
                    exact ⟨by first | rfl | (simp [errW_none, errW_some] <;> rfl) | (simp [errW_none, errW_some]; exact (show ∀ l_ : List UInt8, l_.isEmpty = !(l_ != []) from fun l_ => by cases l_ <;> rfl) _) | (simp [*, errW_none, errW_some] <;> rfl), by repeat (first | (with_reducible first | exact HB.out | apply below_alloc | apply pw_below_drewN | apply below_drew1) | exact HB.out)⟩
                  · replace c45 := Bool.eq_false_iff.mpr c45
                    subst c45
                    have H1 : (if t361 = true then ((impl_SizeOf.f kj35 t356 t357).bind fun bt369 => (if 0 ≤ t357 then (if t357 < (t356.length : Int) then (if ((rd_T54 t356 t357).f0).toList = ([] : List UInt8) then (laws_FnTrees.j3 kj35 t356 t357 t360 bt369.1 bt369.2 (((rd_T54 t356 t357).f1).size : Int)) else (laws_FnTrees.j3 kj35 t356 t357 t360 bt369.1 bt369.2 (wrap64 ((((rd_T54 t356 t357).f1).size : Int) + 2)))) else (none)) else (none))) else (some ((t360.length : Int) == 0))) = some r := by rw [if_neg (show ¬ (false = true) by decide)] at H; exact H
                    clear H
                    have H := H1
                    clear H1
                    by_cases c46 : t361 = true
                    · subst c46
                      have H1 : ((impl_SizeOf.f kj35 t356 t357).bind fun bt369 => (if 0 ≤ t357 then (if t357 < (t356.length : Int) then (if ((rd_T54 t356 t357).f0).toList = ([] : List UInt8) then (laws_FnTrees.j3 kj35 t356 t357 t360 bt369.1 bt369.2 (((rd_T54 t356 t357).f1).size : Int)) else (laws_FnTrees.j3 kj35 t356 t357 t360 bt369.1 bt369.2 (wrap64 ((((rd_T54 t356 t357).f1).size : Int) + 2)))) else (none)) else (none))) = some r := by rw [if_pos rfl] at H; exact H
                      clear H
                      have H := H1
                      clear H1
                      replace H := Option.bind_eq_some_iff.mp H
                      obtain ⟨⟨t369, t370⟩, A470, H⟩ := H
                      replace H : (if 0 ≤ t357 then (if t357 < (t356.length : Int) then (if ((rd_T54 t356 t357).f0).toList = ([] : List UInt8) then (laws_FnTrees.j3 kj35 t356 t357 t360 t369 t370 (((rd_T54 t356 t357).f1).size : Int)) else (laws_FnTrees.j3 kj35 t356 t357 t360 t369 t370 (wrap64 ((((rd_T54 t356 t357).f1).size : Int) + 2)))) else (none)) else (none)) = some r := H
                      have A47 := Aside0.mk A470
                      clear A470
                      by_cases c48 : 0 ≤ t357
                      · rw [if_pos c48] at H
                        have c48b0 : decide (0 ≤ t357) = true := decide_eq_true c48
                        clear c48
                        by_cases c49 : t357 < (t356.length : Int)
                        · rw [if_pos c49] at H
                          have c49b0 : decide (t357 < (t356.length : Int)) = true := decide_eq_true c49
                          clear c49
                          have HC50 := Aside0.mk H
                          clear H
                          go_upto_if 118 with (first | ((with_reducible refine gate_callee (f := 33) rfl ?_); refine goesL_ (some 104) rfl rfl Try.func33 (by kernel_rfl) rfl #[.slice Ao38 t356.length co38, .int .i64 t357] rfl (by (try simp only [List.map_toArray, List.map_cons, List.map_nil]); first | done | rfl | (simp only [List.length_drop, List.length_take]; rfl)) ?_; (with_reducible refine (impl_SizeOf.calls kj35 _ _ t356 t357 t369 t370 _ ?side1 ?side2 A47.out).mono ?_); (case side1 => repeat (first | exact (Kd.R_reads' HO_12.out).2.2 | (with_reducible refine Kd.C_alloc ?_ _) | (with_reducible refine Kd.C_drewN ?_ _) | (with_reducible refine Kd.C_drew ?_))); (case side2 => exact (Kd.R_reads' HO_12.out).2.1); rintro e w51 ⟨rfl, hb⟩; refine ⟨_, rfl, ?_⟩; have n0_ := Aside0.mk (Kd.R_below (by (with_reducible repeat (first | apply Kd.R_alloc | apply Kd.R_drewN | apply Kd.R_drew)); exact HO_12.out) hb); have n1_ := Aside0.mk (Kd.R_below (by (with_reducible repeat (first | apply Kd.R_alloc | apply Kd.R_drewN | apply Kd.R_drew)); exact HO_14.out) hb); have n2_ := Aside0.mk (below_step (by repeat (first | (with_reducible first | exact HB.out | apply below_alloc | apply pw_below_drewN | apply below_drew1) | exact HB.out)) hb); clear HO_12; clear HO_14; clear HB; have HO_12 := n0_; have HO_14 := n1_; have HB := n2_; clear n0_ n1_ n2_; (try clear hb); (try clear hb2); (try clear hk); (try clear hi); have p371 : 0 ≤ (t357 : Int) := of_decide_eq_true (by first | (with_reducible assumption) | assumption); have q371 : t357 < (t356.length : Int) := of_decide_eq_true (by first | (with_reducible assumption) | assumption); obtain ⟨ad371, e371, hx371_0, hx371_1, hx371_2⟩ := at_T54 (Kd.R_reads' HO_12.out).2.2 t357 p371 q371; cases e371; replace p371 := eq_true p371; replace q371 := eq_true q371; have p372 : 0 ≤ (t357 : Int) := of_decide_eq_true (by first | (with_reducible assumption) | assumption); have q372 : t357 < (t356.length : Int) := of_decide_eq_true (by first | (with_reducible assumption) | assumption); obtain ⟨ad372, e372, hx372_0, hx372_1, hx372_2⟩ := at_T54 (Kd.R_reads' HO_12.out).2.2 t357 p372 q372; obtain rfl : ad371 = ad372 := (by injection e372); replace p372 := eq_true p372; replace q372 := eq_true q372))
                          (try simp only [Act.put, List.setIfInBounds_toArray, List.set_cons_zero, List.set_cons_succ])
                          go_cut [20] (fun v20 wc => ∃ (kq : Nat) (x20_49 : Int), v20 = .int .i64 x20_49 ∧ Aside0 (laws_FnTrees.j3 kq t356 t357 t360 t369 t370 x20_49 = some r) ∧ Aside0 (kq ≤ kj35) ∧ Aside0 (Kd.R k54 54 wc w.heap.size (fun _ => True) (.slice (some ad371) t356.length co38) t356) ∧ Aside0 (Kd.R (Kd.int .i64) 3 wc w.heap.size (fun _ => True) v362 t360) ∧ Aside0 (Below w.heap.size w wc))
                          case first =>
                            have H := HC50.out
                            clear HC50
                            by_cases c52 : ((rd_T54 t356 t357).f0).toList = ([] : List UInt8)
                            · rw [if_pos c52] at H
                              have c52b0 : (((rd_T54 t356 t357).f0).toList == ([] : List UInt8)) = true := beq_iff_eq.mpr c52
                              have c52b1 : (((rd_T54 t356 t357).f0).toList != ([] : List UInt8)) = false := bne_eq_false_iff_eq.mpr c52
                              try have c52e : ((rd_T54 t356 t357).f0).toList.isEmpty = true := List.isEmpty_iff.mpr c52
                              clear c52
                              (first | rw [c52b0] | (simp only [i64_w, i32_w]; rw [c52b0]) | rw [c52e] | skip)
                              have H' := Aside0.mk H
                              clear H
                              go_wp2
                              go_meet
                              case rel => exact ⟨_, ((((rd_T54 t356 t357).f1).size : Int)), (by first | rfl | (simp; done) | (simp [*]; done)), H', ⟨by have := HJ6.out; have := HJ15.out; have := HJ35.out; first | omega | exact Nat.le_refl _⟩, ⟨by (with_reducible repeat (first | apply Kd.R_alloc | apply Kd.R_drewN | apply Kd.R_drew)); exact HO_12.out⟩, ⟨by (with_reducible repeat (first | apply Kd.R_alloc | apply Kd.R_drewN | apply Kd.R_drew)); exact HO_14.out⟩, ⟨by repeat (first | (with_reducible first | exact HB.out | apply below_alloc | apply pw_below_drewN | apply below_drew1) | exact HB.out)⟩⟩
                            · rw [if_neg c52] at H
                              have c52b0 : (((rd_T54 t356 t357).f0).toList == ([] : List UInt8)) = false := beq_eq_false_iff_ne.mpr c52
                              have c52b1 : (((rd_T54 t356 t357).f0).toList != ([] : List UInt8)) = true := bne_iff_ne.mpr c52
                              try have c52e : ((rd_T54 t356 t357).f0).toList.isEmpty = false := List.isEmpty_eq_false_iff.mpr c52
                              (first | rw [c52b0] | (simp only [i64_w, i32_w]; rw [c52b0]) | rw [c52e] | skip)
                              have H' := Aside0.mk H
                              clear H
                              go_wp2
                              go_meet
                              case rel => exact ⟨_, (wrap64 ((((rd_T54 t356 t357).f1).size : Int) + 2)), (by first | rfl | (simp; done) | (simp [*]; done)), H', ⟨by have := HJ6.out; have := HJ15.out; have := HJ35.out; first | omega | exact Nat.le_refl _⟩, ⟨by (with_reducible repeat (first | apply Kd.R_alloc | apply Kd.R_drewN | apply Kd.R_drew)); exact HO_12.out⟩, ⟨by (with_reducible repeat (first | apply Kd.R_alloc | apply Kd.R_drewN | apply Kd.R_drew)); exact HO_14.out⟩, ⟨by repeat (first | (with_reducible first | exact HB.out | apply below_alloc | apply pw_below_drewN | apply below_drew1) | exact HB.out)⟩⟩
                          case rest =>
                            clear HC50
                            try clear c1
                            try clear c2
                            try clear p2
                            try clear c3
                            try clear c3b0
                            try clear p3
                            try clear q3
                            try clear hx3
                            try clear c4
                            try clear c5
                            try clear p6
                            try clear c11
                            try clear c11b0
                            try clear c11b1
                            try clear c11b2
                            try clear c15
                            try clear c17
                            try clear c18
                            try clear c19
                            try clear c20
                            try clear c20b0
                            try clear c20b1
                            try clear c22
                            try clear c31
                            try clear c33
                            try clear c34
                            try clear c35
                            try clear p37
                            try clear q37
                            try clear hx37
                            try clear c38
                            try clear c40
                            try clear c41
                            try clear c41b0
                            try clear c41b1
                            try clear c41b2
                            try clear c45
                            try clear c46
                            try clear c48
                            try clear c48b0
                            try clear c49
                            try clear c49b0
                            try clear c52
                            try clear c52b0
                            try clear c52b1
                            try clear hx371_0
                            try clear hx371_1
                            try clear hx371_2
                            try clear hx372_0
                            try clear hx372_1
                            try clear hx372_2
                            try clear p2
                            try clear p371
                            try clear p372
                            try clear p6
                            try clear q371
                            try clear q372
                            obtain ⟨kq, x20_49, rfl, HA, HJ49, HO_12, HO_14, HB⟩ := hcut
                            cases kq with
                            | zero => exact absurd HA.out (by simp [laws_FnTrees.j3])
                            | succ kj49 =>
                              have H := HA.out
                              clear HA
                              simp only [laws_FnTrees.j3] at H
                              have H' := Aside0.mk H
                              clear H
                              obtain ⟨Ao53, co53, eo53⟩ := Kd.R_slice HO_14.out
                              subst eo53
                              go_wp2
                              go_loopg [20, 123] kj49 (fun kq v20 v123 w' => ∃ (x20_5 : Int) (x123_5 : Int), v20 = .int .i64 x20_5 ∧ v123 = .int .i64 x123_5 ∧ Aside0 (laws_FnTrees.l0 kq t356 t357 t369 t370 x20_5 t360 (t360.length : Int) x123_5 = some r) ∧ Aside0 (kq ≤ kj49) ∧ Aside0 (Kd.R k54 54 w' w.heap.size (fun _ => True) (.slice (some ad371) t356.length co38) t356) ∧ Aside0 (Kd.R (Kd.int .i64) 3 w' w.heap.size (fun _ => True) (.slice Ao53 t360.length co53) t360) ∧ Aside0 (Below w.heap.size w w'))
                              case atStart => exact ⟨(x20_49), (0), (by first | rfl | (simp; done) | (simp [*]; done)), (by first | rfl | (simp; done) | (simp [*]; done)), H', ⟨Nat.le_refl _⟩, ⟨by (with_reducible repeat (first | apply Kd.R_alloc | apply Kd.R_drewN | apply Kd.R_drew)); exact HO_12.out⟩, ⟨by (with_reducible repeat (first | apply Kd.R_alloc | apply Kd.R_drewN | apply Kd.R_drew)); exact HO_14.out⟩, ⟨by repeat (first | (with_reducible first | exact HB.out | apply below_alloc | apply pw_below_drewN | apply below_drew1) | exact HB.out)⟩⟩
                              case round =>
                                clear H'
                                try clear c1
                                try clear c2
                                try clear p2
                                try clear c3
                                try clear c3b0
                                try clear p3
                                try clear q3
                                try clear hx3
                                try clear c4
                                try clear c5
                                try clear p6
                                try clear c11
                                try clear c11b0
                                try clear c11b1
                                try clear c11b2
                                try clear c15
                                try clear c17
                                try clear c18
                                try clear c19
                                try clear c20
                                try clear c20b0
                                try clear c20b1
                                try clear c22
                                try clear c31
                                try clear c33
                                try clear c34
                                try clear c35
                                try clear p37
                                try clear q37
                                try clear hx37
                                try clear c38
                                try clear c40
                                try clear c41
                                try clear c41b0
                                try clear c41b1
                                try clear c41b2
                                try clear c45
                                try clear c46
                                try clear c48
                                try clear c48b0
                                try clear c49
                                try clear c49b0
                                try clear c52
                                try clear c52b0
                                try clear c52b1
                                try clear hx371_0
                                try clear hx371_1
                                try clear hx371_2
                                try clear hx372_0
                                try clear hx372_1
                                try clear hx372_2
                                try clear p2
                                try clear p3
                                try clear p37
                                try clear p371
                                try clear p372
                                try clear p6
                                try clear q3
                                try clear q37
                                try clear q371
                                try clear q372
                                obtain ⟨x20_5, x123_5, rfl, rfl, HA, HK5, HO_12, HO_121, HB⟩ := hrel
                                cases gk with
                                | zero => exact absurd HA.out (by simp [laws_FnTrees.l0])
                                | succ k5 =>
                                  have H := HA.out
                                  clear HA
                                  simp only [laws_FnTrees.l0] at H
                                  by_cases c54 : x123_5 < (t360.length : Int)
                                  · rw [if_pos c54] at H
                                    have c54b0 : decide (x123_5 < (t360.length : Int)) = true := decide_eq_true c54
                                    clear c54
                                    by_cases c55 : 0 ≤ x123_5
                                    · rw [if_pos c55] at H
                                      have c55b0 : decide (0 ≤ x123_5) = true := decide_eq_true c55
                                      clear c55
                                      by_cases c56 : x123_5 < (t360.length : Int)
                                      · rw [if_pos c56] at H
                                        have c56b0 : decide (x123_5 < (t360.length : Int)) = true := decide_eq_true c56
                                        clear c56
                                        replace H := Option.bind_eq_some_iff.mp H
                                        obtain ⟨⟨t374, t375⟩, A570, H⟩ := H
                                        replace H : (if t375 = true then (if 0 ≤ (rd t360 x123_5) then (if (rd t360 x123_5) < (t356.length : Int) then (if ((rd_T54 t356 (rd t360 x123_5)).f2) = t357 then (laws_FnTrees.l0 k5 t356 t357 t369 t370 (wrap64 (x20_5 + t374)) t360 (t360.length : Int) (wrap64 (x123_5 + 1))) else (some false)) else (none)) else (none)) else (some false)) = some r := H
                                        have A57 := Aside0.mk A570
                                        clear A570
                                        by_cases c58 : t375 = true
                                        · subst c58
                                          have H1 : (if 0 ≤ (rd t360 x123_5) then (if (rd t360 x123_5) < (t356.length : Int) then (if ((rd_T54 t356 (rd t360 x123_5)).f2) = t357 then (laws_FnTrees.l0 k5 t356 t357 t369 t370 (wrap64 (x20_5 + t374)) t360 (t360.length : Int) (wrap64 (x123_5 + 1))) else (some false)) else (none)) else (none)) = some r := by rw [if_pos rfl] at H; exact H
                                          clear H
                                          have H := H1
                                          clear H1
                                          by_cases c59 : 0 ≤ (rd t360 x123_5)
                                          · rw [if_pos c59] at H
                                            have c59b0 : decide (0 ≤ (rd t360 x123_5)) = true := decide_eq_true c59
                                            clear c59
                                            by_cases c60 : (rd t360 x123_5) < (t356.length : Int)
                                            · rw [if_pos c60] at H
                                              have c60b0 : decide ((rd t360 x123_5) < (t356.length : Int)) = true := decide_eq_true c60
                                              clear c60
                                              by_cases c61 : ((rd_T54 t356 (rd t360 x123_5)).f2) = t357
                                              · rw [if_pos c61] at H
                                                have c61b0 : (((rd_T54 t356 (rd t360 x123_5)).f2) == t357) = true := beq_iff_eq.mpr c61
                                                have c61b1 : (((rd_T54 t356 (rd t360 x123_5)).f2) != t357) = false := bne_eq_false_iff_eq.mpr c61
                                                clear c61
                                                have H' := Aside0.mk H
                                                clear H
                                                have p373 : 0 ≤ (x123_5 : Int) := of_decide_eq_true (by first | (with_reducible assumption) | assumption)
                                                have q373 : x123_5 < (t360.length : Int) := of_decide_eq_true (by first | (with_reducible assumption) | assumption)
                                                obtain ⟨ad373, e373, hx373_0⟩ := Kd.at_int (Kd.R_reads' HO_121.out).2.2 x123_5 p373 q373
                                                cases e373
                                                replace p373 := eq_true p373
                                                replace q373 := eq_true q373
                                                go_wp2_with (first | ((with_reducible refine gate_callee (f := 33) rfl ?_); refine goesL_ (some 130) rfl rfl Try.func33 (by kernel_rfl) rfl #[.slice (some ad371) t356.length co38, .int .i64 (rd t360 x123_5)] rfl (by (try simp only [List.map_toArray, List.map_cons, List.map_nil]); first | done | rfl | (simp only [List.length_drop, List.length_take]; rfl)) ?_; (with_reducible refine (impl_SizeOf.calls k5 _ _ t356 (rd t360 x123_5) t374 true _ ?side1 ?side2 A57.out).mono ?_); (case side1 => repeat (first | exact (Kd.R_reads' HO_12.out).2.2 | (with_reducible refine Kd.C_alloc ?_ _) | (with_reducible refine Kd.C_drewN ?_ _) | (with_reducible refine Kd.C_drew ?_))); (case side2 => exact (Kd.R_reads' HO_12.out).2.1); rintro e w62 ⟨rfl, hb⟩; refine ⟨_, rfl, ?_⟩; have n0_ := Aside0.mk (Kd.R_below (by (with_reducible repeat (first | apply Kd.R_alloc | apply Kd.R_drewN | apply Kd.R_drew)); exact HO_12.out) hb); have n1_ := Aside0.mk (Kd.R_below (by (with_reducible repeat (first | apply Kd.R_alloc | apply Kd.R_drewN | apply Kd.R_drew)); exact HO_121.out) hb); have n2_ := Aside0.mk (below_step (by repeat (first | (with_reducible first | exact HB.out | apply below_alloc | apply pw_below_drewN | apply below_drew1) | exact HB.out)) hb); clear HO_12; clear HO_121; clear HB; have HO_12 := n0_; have HO_121 := n1_; have HB := n2_; clear n0_ n1_ n2_; (try clear hb); (try clear hb2); (try clear hk); (try clear hi); have p376 : 0 ≤ ((rd t360 x123_5) : Int) := of_decide_eq_true (by first | (with_reducible assumption) | assumption); have q376 : (rd t360 x123_5) < (t356.length : Int) := of_decide_eq_true (by first | (with_reducible assumption) | assumption); obtain ⟨ad376, e376, hx376_0, hx376_1, hx376_2⟩ := at_T54 (Kd.R_reads' HO_12.out).2.2 (rd t360 x123_5) p376 q376; obtain rfl : ad371 = ad376 := (by injection e376); replace p376 := eq_true p376; replace q376 := eq_true q376))
                                                go_roundg k5
                                                case measure => have := HJ6.out; have := HJ15.out; have := HJ35.out; have := HJ49.out; have := HK5.out; omega
                                                case rel => exact ⟨(wrap64 (x20_5 + t374)), (wrap64 (x123_5 + 1)), (by first | rfl | (simp; done) | (simp [*]; done)), (by first | rfl | (simp; done) | (simp [*]; done)), H', ⟨by have := HJ6.out; have := HJ15.out; have := HJ35.out; have := HJ49.out; have := HK5.out; omega⟩, ⟨by (with_reducible repeat (first | apply Kd.R_alloc | apply Kd.R_drewN | apply Kd.R_drew)); exact HO_12.out⟩, ⟨by (with_reducible repeat (first | apply Kd.R_alloc | apply Kd.R_drewN | apply Kd.R_drew)); exact HO_121.out⟩, ⟨by repeat (first | (with_reducible first | exact HB.out | apply below_alloc | apply pw_below_drewN | apply below_drew1) | exact HB.out)⟩⟩
                                              · rw [if_neg c61] at H
                                                have c61b0 : (((rd_T54 t356 (rd t360 x123_5)).f2) == t357) = false := beq_eq_false_iff_ne.mpr c61
                                                have c61b1 : (((rd_T54 t356 (rd t360 x123_5)).f2) != t357) = true := bne_iff_ne.mpr c61
                                                obtain rfl := Option.some.inj H
                                                have p373 : 0 ≤ (x123_5 : Int) := of_decide_eq_true (by first | (with_reducible assumption) | assumption)
                                                have q373 : x123_5 < (t360.length : Int) := of_decide_eq_true (by first | (with_reducible assumption) | assumption)
                                                obtain ⟨ad373, e373, hx373_0⟩ := Kd.at_int (Kd.R_reads' HO_121.out).2.2 x123_5 p373 q373
                                                cases e373
                                                replace p373 := eq_true p373
                                                replace q373 := eq_true q373
                                                go_wp2_with (first | ((with_reducible refine gate_callee (f := 33) rfl ?_); refine goesL_ (some 130) rfl rfl Try.func33 (by kernel_rfl) rfl #[.slice (some ad371) t356.length co38, .int .i64 (rd t360 x123_5)] rfl (by (try simp only [List.map_toArray, List.map_cons, List.map_nil]); first | done | rfl | (simp only [List.length_drop, List.length_take]; rfl)) ?_; (with_reducible refine (impl_SizeOf.calls k5 _ _ t356 (rd t360 x123_5) t374 true _ ?side1 ?side2 A57.out).mono ?_); (case side1 => repeat (first | exact (Kd.R_reads' HO_12.out).2.2 | (with_reducible refine Kd.C_alloc ?_ _) | (with_reducible refine Kd.C_drewN ?_ _) | (with_reducible refine Kd.C_drew ?_))); (case side2 => exact (Kd.R_reads' HO_12.out).2.1); rintro e w63 ⟨rfl, hb⟩; refine ⟨_, rfl, ?_⟩; have n0_ := Aside0.mk (Kd.R_below (by (with_reducible repeat (first | apply Kd.R_alloc | apply Kd.R_drewN | apply Kd.R_drew)); exact HO_12.out) hb); have n1_ := Aside0.mk (Kd.R_below (by (with_reducible repeat (first | apply Kd.R_alloc | apply Kd.R_drewN | apply Kd.R_drew)); exact HO_121.out) hb); have n2_ := Aside0.mk (below_step (by repeat (first | (with_reducible first | exact HB.out | apply below_alloc | apply pw_below_drewN | apply below_drew1) | exact HB.out)) hb); clear HO_12; clear HO_121; clear HB; have HO_12 := n0_; have HO_121 := n1_; have HB := n2_; clear n0_ n1_ n2_; (try clear hb); (try clear hb2); (try clear hk); (try clear hi); have p376 : 0 ≤ ((rd t360 x123_5) : Int) := of_decide_eq_true (by first | (with_reducible assumption) | assumption); have q376 : (rd t360 x123_5) < (t356.length : Int) := of_decide_eq_true (by first | (with_reducible assumption) | assumption); obtain ⟨ad376, e376, hx376_0, hx376_1, hx376_2⟩ := at_T54 (Kd.R_reads' HO_12.out).2.2 (rd t360 x123_5) p376 q376; obtain rfl : ad371 = ad376 := (by injection e376); replace p376 := eq_true p376; replace q376 := eq_true q376))
                                                go_ret
                                                exact ⟨by first | rfl | (simp [errW_none, errW_some] <;> rfl) | (simp [errW_none, errW_some]; exact (show ∀ l_ : List UInt8, l_.isEmpty = !(l_ != []) from fun l_ => by cases l_ <;> rfl) _) | (simp [*, errW_none, errW_some] <;> rfl), by repeat (first | (with_reducible first | exact HB.out | apply below_alloc | apply pw_below_drewN | apply below_drew1) | exact HB.out)⟩
                                            · rw [if_neg c60] at H
                                              exact absurd H (by simp)
                                          · rw [if_neg c59] at H
                                            exact absurd H (by simp)
                                        · replace c58 := Bool.eq_false_iff.mpr c58
                                          subst c58
                                          have H1 : (some false) = some r := by rw [if_neg (show ¬ (false = true) by decide)] at H; exact H
                                          clear H
                                          have H := H1
                                          clear H1
                                          obtain rfl := Option.some.inj H
                                          have p373 : 0 ≤ (x123_5 : Int) := of_decide_eq_true (by first | (with_reducible assumption) | assumption)
                                          have q373 : x123_5 < (t360.length : Int) := of_decide_eq_true (by first | (with_reducible assumption) | assumption)
                                          obtain ⟨ad373, e373, hx373_0⟩ := Kd.at_int (Kd.R_reads' HO_121.out).2.2 x123_5 p373 q373
                                          cases e373
                                          replace p373 := eq_true p373
                                          replace q373 := eq_true q373
                                          go_wp2_with (first | ((with_reducible refine gate_callee (f := 33) rfl ?_); refine goesL_ (some 130) rfl rfl Try.func33 (by kernel_rfl) rfl #[.slice (some ad371) t356.length co38, .int .i64 (rd t360 x123_5)] rfl (by (try simp only [List.map_toArray, List.map_cons, List.map_nil]); first | done | rfl | (simp only [List.length_drop, List.length_take]; rfl)) ?_; (with_reducible refine (impl_SizeOf.calls k5 _ _ t356 (rd t360 x123_5) t374 false _ ?side1 ?side2 A57.out).mono ?_); (case side1 => repeat (first | exact (Kd.R_reads' HO_12.out).2.2 | (with_reducible refine Kd.C_alloc ?_ _) | (with_reducible refine Kd.C_drewN ?_ _) | (with_reducible refine Kd.C_drew ?_))); (case side2 => exact (Kd.R_reads' HO_12.out).2.1); rintro e w64 ⟨rfl, hb⟩; refine ⟨_, rfl, ?_⟩; have n0_ := Aside0.mk (Kd.R_below (by (with_reducible repeat (first | apply Kd.R_alloc | apply Kd.R_drewN | apply Kd.R_drew)); exact HO_12.out) hb); have n1_ := Aside0.mk (Kd.R_below (by (with_reducible repeat (first | apply Kd.R_alloc | apply Kd.R_drewN | apply Kd.R_drew)); exact HO_121.out) hb); have n2_ := Aside0.mk (below_step (by repeat (first | (with_reducible first | exact HB.out | apply below_alloc | apply pw_below_drewN | apply below_drew1) | exact HB.out)) hb); clear HO_12; clear HO_121; clear HB; have HO_12 := n0_; have HO_121 := n1_; have HB := n2_; clear n0_ n1_ n2_; (try clear hb); (try clear hb2); (try clear hk); (try clear hi)))
                                          go_ret
                                          exact ⟨by first | rfl | (simp [errW_none, errW_some] <;> rfl) | (simp [errW_none, errW_some]; exact (show ∀ l_ : List UInt8, l_.isEmpty = !(l_ != []) from fun l_ => by cases l_ <;> rfl) _) | (simp [*, errW_none, errW_some] <;> rfl), by repeat (first | (with_reducible first | exact HB.out | apply below_alloc | apply pw_below_drewN | apply below_drew1) | exact HB.out)⟩
                                      · rw [if_neg c56] at H
                                        exact absurd H (by simp)
                                    · rw [if_neg c55] at H
                                      exact absurd H (by simp)
                                  · rw [if_neg c54] at H
                                    have c54b0 : decide (x123_5 < (t360.length : Int)) = false := decide_eq_false c54
                                    clear c54
                                    by_cases c65 : t370 = true
                                    · subst c65
                                      have H1 : (some (t369 == x20_5)) = some r := by rw [if_pos rfl] at H; exact H
                                      clear H
                                      have H := H1
                                      clear H1
                                      obtain rfl := Option.some.inj H
                                      go_wp2
                                      go_ret
                                      exact ⟨by first | rfl | (simp [errW_none, errW_some] <;> rfl) | (simp [errW_none, errW_some]; exact (show ∀ l_ : List UInt8, l_.isEmpty = !(l_ != []) from fun l_ => by cases l_ <;> rfl) _) | (simp [*, errW_none, errW_some] <;> rfl), by repeat (first | (with_reducible first | exact HB.out | apply below_alloc | apply pw_below_drewN | apply below_drew1) | exact HB.out)⟩
                                    · replace c65 := Bool.eq_false_iff.mpr c65
                                      subst c65
                                      have H1 : (some false) = some r := by rw [if_neg (show ¬ (false = true) by decide)] at H; exact H
                                      clear H
                                      have H := H1
                                      clear H1
                                      obtain rfl := Option.some.inj H
                                      go_wp2
                                      go_ret
                                      exact ⟨by first | rfl | (simp [errW_none, errW_some] <;> rfl) | (simp [errW_none, errW_some]; exact (show ∀ l_ : List UInt8, l_.isEmpty = !(l_ != []) from fun l_ => by cases l_ <;> rfl) _) | (simp [*, errW_none, errW_some] <;> rfl), by repeat (first | (with_reducible first | exact HB.out | apply below_alloc | apply pw_below_drewN | apply below_drew1) | exact HB.out)⟩
                        · rw [if_neg c49] at H
                          exact absurd H (by simp)
                      · rw [if_neg c48] at H
                        exact absurd H (by simp)
                    · replace c46 := Bool.eq_false_iff.mpr c46
                      subst c46
                      have H1 : (some ((t360.length : Int) == 0)) = some r := by rw [if_neg (show ¬ (false = true) by decide)] at H; exact H
                      clear H
                      have H := H1
                      clear H1
                      obtain rfl := Option.some.inj H
                      obtain ⟨Ao66, co66, eo66⟩ := Kd.R_slice HO_14.out
                      subst eo66
                      go_wp2
                      go_ret
                      exact ⟨by first | rfl | (simp [errW_none, errW_some] <;> rfl) | (simp [errW_none, errW_some]; exact (show ∀ l_ : List UInt8, l_.isEmpty = !(l_ != []) from fun l_ => by cases l_ <;> rfl) _) | (simp [*, errW_none, errW_some] <;> rfl), by repeat (first | (with_reducible first | exact HB.out | apply below_alloc | apply pw_below_drewN | apply below_drew1) | exact HB.out)⟩

/-- THE ONE PURE STATEMENT of laws_FnTrees: yours. -/
def laws_FnTrees.Pure : Prop := ∀ (l0 : List Int) (l1 : List Int), l0.length ≤ maxLen → l0.length * 1 ≤ 140737488351232 → (∀ x ∈ l0, (Lit.int .u8 x).wf = true) → l1.length ≤ maxLen → l1.length * 1 ≤ 140737488351232 → (∀ x ∈ l1, (Lit.int .u8 x).wf = true) → ∃ k, laws_FnTrees.f k l0 l1 = some true
theorem laws_FnTrees.walk (P : laws_FnTrees.Pure) (a0 : Option Addr) (len0 cap0 : Nat) (z0 : List Int) (a1 : Option Addr) (len1 cap1 : Nat) (z1 : List Int) (w : World) (w0 : (a0 = none ∧ len0 = 0 ∧ cap0 = 0 ∧ z0 = []) ∨ ∃ x, a0 = some x ∧ len0 ≤ cap0 ∧ cap0 ≤ maxLen ∧ z0.length = cap0 ∧ (∀ i, i < z0.length → w.cell? (x.add i) = some (.int .u8 (z0.getD i 0))) ∧ ∀ n ∈ z0, (Lit.int .u8 n).wf = true) (y0 : len0 * 1 ≤ 140737488351232) (w1 : (a1 = none ∧ len1 = 0 ∧ cap1 = 0 ∧ z1 = []) ∨ ∃ x, a1 = some x ∧ len1 ≤ cap1 ∧ cap1 ≤ maxLen ∧ z1.length = cap1 ∧ (∀ i, i < z1.length → w.cell? (x.add i) = some (.int .u8 (z1.getD i 0))) ∧ ∀ n ∈ z1, (Lit.int .u8 n).wf = true) (y1 : len1 * 1 ≤ 140737488351232) :
    Calls Try.prog 11 #[.slice a0 len0 cap0, .slice a1 len1 cap1] w fun e w' => e = .returned (.bool true) ∧ Below w.heap.size w w' := by
  obtain ⟨l0, rfl, hr0, hm0, hw0, hc0⟩ := ReadsInt.ofRowC w0
  obtain ⟨l1, rfl, hr1, hm1, hw1, hc1⟩ := ReadsInt.ofRowC w1
  obtain ⟨k, h⟩ := P l0 l1 hm0 y0 hw0 hm1 y1 hw1
  refine (laws_FnTrees.calls k _ _ l0 _ _ l1 true w (Kd.C_of_reads (d := (0 : Int)) (h1 := fun _ => rfl) hr0) hc0 (Kd.C_of_reads (d := (0 : Int)) (h1 := fun _ => rfl) hr1) hc1 h).mono ?_
  rintro e w' ⟨rfl, hd⟩
  exact ⟨rfl, hd⟩

end Go.Proofs.Ytkdablilbbbihaa.PFnTrees
