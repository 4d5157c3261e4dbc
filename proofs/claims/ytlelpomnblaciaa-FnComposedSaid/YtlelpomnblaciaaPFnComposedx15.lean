/- (thin) Written by a program of this session (wip/ovl.py) over the kit's print: plain functions with the answers of the Go functions, and the proofs that they are; no condition. -/
import Derived.Test.YtlelpomnblaciaaPFnComposedx0
import Derived.Test.YtlelpomnblaciaaPFnComposedx3
import Derived.Test.YtlelpomnblaciaaPFnComposedx4
import Derived.Test.YtlelpomnblaciaaPFnComposedx7
import Derived.Test.YtlelpomnblaciaaPFnComposedx10
import Derived.Test.YtlelpomnblaciaaPFnComposedx14
namespace Go.Proofs.Ytlelpomnblaciaa.PFnComposed
open Go.RowKit Go.Proofs.YtlelpomnblaciaaW.PrintWords Go.Proofs.YtlelpomnblaciaaW.PrintLast Go.Proofs.YtlelpomnblaciaaW.PrintMore
attribute [local go_sem] max2_int min2_int max_two min_two max_three min_three max_four min_four   -- for this text's walks alone
set_option linter.unusedVariables false
set_option linter.unusedSimpArgs false
mutual
def lZ.j0 : Nat → List Int → List (S53) → List (S53) → List (S53) → Bool → Bool → Option (Bool)
 | 0, _, _, _, _, _, _ => none
 | k + 1, x1, x5, x6, x7, x8, x63 => if x63 = true then (some false) else (if x8 = true then (lZ.l0 k x1 x5 x6 x7 (⟨#[]⟩ : ByteArray) (⟨#[]⟩ : ByteArray) x5 (x5.length : Int) 0) else (some ((x7.length : Int) == 0)))
def lZ.l0 : Nat → List Int → List (S53) → List (S53) → List (S53) → ByteArray → ByteArray → List (S53) → Int → Int → Option (Bool)
 | 0, _, _, _, _, _, _, _, _, _ => none
 | k + 1, x1, x5, x6, x7, x11, x12, x69, x70, x71 => if x71 < x70 then (if 0 ≤ x71 then (if x71 < (x69.length : Int) then (lZ.l1 k x1 x5 x6 x7 x11 x12 0 x69 x70 x71 ((rd_T53 x69 x71).f0) ((rd_T53 x69 x71).f1) ((rd_T53 x69 x71).f2)) else (none)) else (none)) else ((jF.f k x6 x12).bind fun bt319 => ((jF.f k x7 x11).bind fun bt321 => (if (bt319.2 != bt321.2) = true then (lZ.j3 k x1 x5 x6 x7 true) else (if bt319.2 = true then (lZ.j3 k x1 x5 x6 x7 (bt319.1.toList != bt321.1.toList)) else (lZ.j3 k x1 x5 x6 x7 false)))))
def lZ.l1 : Nat → List Int → List (S53) → List (S53) → List (S53) → ByteArray → ByteArray → Int → List (S53) → Int → Int → Int → ByteArray → ByteArray → Option (Bool)
 | 0, _, _, _, _, _, _, _, _, _, _, _, _, _ => none
 | k + 1, x1, x5, x6, x7, x11, x12, x15, x69, x70, x71, x319000, x319001, x319002 => if x15 < x319000 then (if x11.size + 1 ≤ 9223372036854775807 then (if x12.size + 1 ≤ 9223372036854775807 then (lZ.l1 k x1 x5 x6 x7 (x11 ++ (⟨#[107]⟩ : ByteArray)) (x12 ++ (⟨#[107]⟩ : ByteArray)) (wrap64 (x15 + 1)) x69 x70 x71 x319000 x319001 x319002) else (none)) else (none)) else (if x11.size + x319002.size ≤ 9223372036854775807 then (if x12.size + x319001.size ≤ 9223372036854775807 then (lZ.l0 k x1 x5 x6 x7 (x11 ++ x319002) (x12 ++ x319001) x69 x70 (wrap64 (x71 + 1))) else (none)) else (none))
def lZ.j3 : Nat → List Int → List (S53) → List (S53) → List (S53) → Bool → Option (Bool)
 | 0, _, _, _, _, _ => none
 | k + 1, x1, x5, x6, x7, x116 => if x116 = true then (some false) else ((jX.f k x6).bind fun bt323 => ((some (([] : List (S53)) : List (S53))).bind fun y326 => ((jK.f k x1).bind fun t329 => (if (wrap64 (bt323.2.1 + 1)) = 0 then (none) else (if (Int.tmod t329 (wrap64 (bt323.2.1 + 1))) > 0 then (if y326.length < 3518437208883 then (lZ.j4 k x1 x5 x6 x7 bt323.2.1 (y326 ++ [(⟨Int.tmod t329 (wrap64 (bt323.2.1 + 1)), (⟨#[]⟩ : ByteArray), (⟨#[]⟩ : ByteArray)⟩ : S53)])) else (none)) else (lZ.j4 k x1 x5 x6 x7 bt323.2.1 y326))))))
def lZ.j4 : Nat → List Int → List (S53) → List (S53) → List (S53) → Int → List (S53) → Option (Bool)
 | 0, _, _, _, _, _, _ => none
 | k + 1, x1, x5, x6, x7, x21, x23 => if x23.length < 3518437208883 then ((some (x23 ++ [(⟨0, (⟨#[110, 101, 119]⟩ : ByteArray), (⟨#[]⟩ : ByteArray)⟩ : S53)] : List (S53))).bind fun y333 => ((jK.f k x1).bind fun t336 => (if (wrap64 (x21 + 1)) = 0 then (none) else (if (wrap64 (x21 - (Int.tmod t336 (wrap64 (x21 + 1))))) > 0 then (if y333.length < 3518437208883 then (lZ.j5 k x5 x6 x7 (y333 ++ [(⟨wrap64 (x21 - (Int.tmod t336 (wrap64 (x21 + 1)))), (⟨#[]⟩ : ByteArray), (⟨#[]⟩ : ByteArray)⟩ : S53)])) else (none)) else (lZ.j5 k x5 x6 x7 y333))))) else (none)
def lZ.j5 : Nat → List (S53) → List (S53) → List (S53) → List (S53) → Option (Bool)
 | 0, _, _, _, _ => none
 | k + 1, x5, x6, x7, x23 => (jN.f k x6 x23).bind fun bt340 => ((jN.f k x7 x23).bind fun bt344 => (if bt340.2 = true then (lZ.j6 k x5 bt340.1 bt344.1 (!bt344.2)) else (lZ.j6 k x5 bt340.1 bt344.1 true)))
def lZ.j6 : Nat → List (S53) → List (S53) → List (S53) → Bool → Option (Bool)
 | 0, _, _, _, _ => none
 | k + 1, x5, x26, x28, x171 => if x171 = true then (some true) else ((jN.f k x5 x26).bind fun bt348 => (if bt348.2 = true then ((jL.f k x28 bt348.1).bind fun t352 => (some t352)) else (some true)))
end
def lZ.f (k : Nat) (l0 : List Int) (l1 : List Int) : Option (Bool) := if (wrap64 ((l0.length : Int) + (l1.length : Int))) > 1048576 then (some true) else ((jP.f k l0).bind fun bt302 => ((jN.f k bt302.1 bt302.2).bind fun bt308 => ((jG.f k bt302.1 bt302.2).bind fun bt312 => (if (bt308.2 != bt312.2) = true then (lZ.j0 k l1 bt302.1 bt302.2 bt308.1 bt308.2 true) else ((jL.f k bt308.1 bt312.1).bind fun t316 => (lZ.j0 k l1 bt302.1 bt302.2 bt308.1 bt308.2 (!t316)))))))
theorem lZ.mono_l : ∀ k, (∀ y0 y1 y2 y3 y4 y5, LeO (lZ.j0 k y0 y1 y2 y3 y4 y5) (lZ.j0 (k + 1) y0 y1 y2 y3 y4 y5)) ∧ (∀ y0 y1 y2 y3 y4 y5 y6 y7 y8, LeO (lZ.l0 k y0 y1 y2 y3 y4 y5 y6 y7 y8) (lZ.l0 (k + 1) y0 y1 y2 y3 y4 y5 y6 y7 y8)) ∧ (∀ y0 y1 y2 y3 y4 y5 y6 y7 y8 y9 y10 y11 y12, LeO (lZ.l1 k y0 y1 y2 y3 y4 y5 y6 y7 y8 y9 y10 y11 y12) (lZ.l1 (k + 1) y0 y1 y2 y3 y4 y5 y6 y7 y8 y9 y10 y11 y12)) ∧ (∀ y0 y1 y2 y3 y4, LeO (lZ.j3 k y0 y1 y2 y3 y4) (lZ.j3 (k + 1) y0 y1 y2 y3 y4)) ∧ (∀ y0 y1 y2 y3 y4 y5, LeO (lZ.j4 k y0 y1 y2 y3 y4 y5) (lZ.j4 (k + 1) y0 y1 y2 y3 y4 y5)) ∧ (∀ y0 y1 y2 y3, LeO (lZ.j5 k y0 y1 y2 y3) (lZ.j5 (k + 1) y0 y1 y2 y3)) ∧ (∀ y0 y1 y2 y3, LeO (lZ.j6 k y0 y1 y2 y3) (lZ.j6 (k + 1) y0 y1 y2 y3))
 | 0 => ⟨fun _ _ _ _ _ _ r h => by simp [lZ.j0] at h, fun _ _ _ _ _ _ _ _ _ r h => by simp [lZ.l0] at h, fun _ _ _ _ _ _ _ _ _ _ _ _ _ r h => by simp [lZ.l1] at h, fun _ _ _ _ _ r h => by simp [lZ.j3] at h, fun _ _ _ _ _ _ r h => by simp [lZ.j4] at h, fun _ _ _ _ r h => by simp [lZ.j5] at h, fun _ _ _ _ r h => by simp [lZ.j6] at h⟩
 | k + 1 => by
  obtain ⟨ih0, ih1, ih2, ih3, ih4, ih5, ih6⟩ := lZ.mono_l k
  refine ⟨?_, ?_, ?_, ?_, ?_, ?_, ?_⟩
  ·intro y0 y1 y2 y3 y4 y5
   unfold lZ.j0
   repeat' first
   | (with_reducible exact ih0 _ _ _ _ _ _)
   | (with_reducible exact ih1 _ _ _ _ _ _ _ _ _)
   | (with_reducible exact ih2 _ _ _ _ _ _ _ _ _ _ _ _ _)
   | (with_reducible exact ih3 _ _ _ _ _)
   | (with_reducible exact ih4 _ _ _ _ _ _)
   | (with_reducible exact ih5 _ _ _ _)
   | (with_reducible exact ih6 _ _ _ _)
   | (with_reducible exact jF.mono _ _ _)
   | (with_reducible exact jN.mono _ _ _)
   | (with_reducible exact jK.mono _ _)
   | (with_reducible exact jL.mono _ _ _)
   | (with_reducible exact jG.mono _ _ _)
   | (with_reducible exact jP.mono _ _)
   | (with_reducible exact jX.mono _ _)
   | (with_reducible exact LeO.refl _)
   | (with_reducible exact LeO.none _)
   | (with_reducible refine LeO.ite ?_ ?_)
   | (with_reducible refine LeO.bind ?_ (fun _ => ?_))
   | exact ih0 _ _ _ _ _ _
   | exact ih1 _ _ _ _ _ _ _ _ _
   | exact ih2 _ _ _ _ _ _ _ _ _ _ _ _ _
   | exact ih3 _ _ _ _ _
   | exact ih4 _ _ _ _ _ _
   | exact ih5 _ _ _ _
   | exact ih6 _ _ _ _
   | exact jF.mono _ _ _
   | exact jN.mono _ _ _
   | exact jK.mono _ _
   | exact jL.mono _ _ _
   | exact jG.mono _ _ _
   | exact jP.mono _ _
   | exact jX.mono _ _
   | exact LeO.none _
   | refine LeO.ite ?_ ?_
   | refine LeO.bind ?_ (fun _ => ?_)
  ·intro y0 y1 y2 y3 y4 y5 y6 y7 y8
   unfold lZ.l0
   repeat' first
   | (with_reducible exact ih0 _ _ _ _ _ _)
   | (with_reducible exact ih1 _ _ _ _ _ _ _ _ _)
   | (with_reducible exact ih2 _ _ _ _ _ _ _ _ _ _ _ _ _)
   | (with_reducible exact ih3 _ _ _ _ _)
   | (with_reducible exact ih4 _ _ _ _ _ _)
   | (with_reducible exact ih5 _ _ _ _)
   | (with_reducible exact ih6 _ _ _ _)
   | (with_reducible exact jF.mono _ _ _)
   | (with_reducible exact jN.mono _ _ _)
   | (with_reducible exact jK.mono _ _)
   | (with_reducible exact jL.mono _ _ _)
   | (with_reducible exact jG.mono _ _ _)
   | (with_reducible exact jP.mono _ _)
   | (with_reducible exact jX.mono _ _)
   | (with_reducible exact LeO.refl _)
   | (with_reducible exact LeO.none _)
   | (with_reducible refine LeO.ite ?_ ?_)
   | (with_reducible refine LeO.bind ?_ (fun _ => ?_))
   | exact ih0 _ _ _ _ _ _
   | exact ih1 _ _ _ _ _ _ _ _ _
   | exact ih2 _ _ _ _ _ _ _ _ _ _ _ _ _
   | exact ih3 _ _ _ _ _
   | exact ih4 _ _ _ _ _ _
   | exact ih5 _ _ _ _
   | exact ih6 _ _ _ _
   | exact jF.mono _ _ _
   | exact jN.mono _ _ _
   | exact jK.mono _ _
   | exact jL.mono _ _ _
   | exact jG.mono _ _ _
   | exact jP.mono _ _
   | exact jX.mono _ _
   | exact LeO.none _
   | refine LeO.ite ?_ ?_
   | refine LeO.bind ?_ (fun _ => ?_)
  ·intro y0 y1 y2 y3 y4 y5 y6 y7 y8 y9 y10 y11 y12
   unfold lZ.l1
   repeat' first
   | (with_reducible exact ih0 _ _ _ _ _ _)
   | (with_reducible exact ih1 _ _ _ _ _ _ _ _ _)
   | (with_reducible exact ih2 _ _ _ _ _ _ _ _ _ _ _ _ _)
   | (with_reducible exact ih3 _ _ _ _ _)
   | (with_reducible exact ih4 _ _ _ _ _ _)
   | (with_reducible exact ih5 _ _ _ _)
   | (with_reducible exact ih6 _ _ _ _)
   | (with_reducible exact jF.mono _ _ _)
   | (with_reducible exact jN.mono _ _ _)
   | (with_reducible exact jK.mono _ _)
   | (with_reducible exact jL.mono _ _ _)
   | (with_reducible exact jG.mono _ _ _)
   | (with_reducible exact jP.mono _ _)
   | (with_reducible exact jX.mono _ _)
   | (with_reducible exact LeO.refl _)
   | (with_reducible exact LeO.none _)
   | (with_reducible refine LeO.ite ?_ ?_)
   | (with_reducible refine LeO.bind ?_ (fun _ => ?_))
   | exact ih0 _ _ _ _ _ _
   | exact ih1 _ _ _ _ _ _ _ _ _
   | exact ih2 _ _ _ _ _ _ _ _ _ _ _ _ _
   | exact ih3 _ _ _ _ _
   | exact ih4 _ _ _ _ _ _
   | exact ih5 _ _ _ _
   | exact ih6 _ _ _ _
   | exact jF.mono _ _ _
   | exact jN.mono _ _ _
   | exact jK.mono _ _
   | exact jL.mono _ _ _
   | exact jG.mono _ _ _
   | exact jP.mono _ _
   | exact jX.mono _ _
   | exact LeO.none _
   | refine LeO.ite ?_ ?_
   | refine LeO.bind ?_ (fun _ => ?_)
  ·intro y0 y1 y2 y3 y4
   unfold lZ.j3
   repeat' first
   | (with_reducible exact ih0 _ _ _ _ _ _)
   | (with_reducible exact ih1 _ _ _ _ _ _ _ _ _)
   | (with_reducible exact ih2 _ _ _ _ _ _ _ _ _ _ _ _ _)
   | (with_reducible exact ih3 _ _ _ _ _)
   | (with_reducible exact ih4 _ _ _ _ _ _)
   | (with_reducible exact ih5 _ _ _ _)
   | (with_reducible exact ih6 _ _ _ _)
   | (with_reducible exact jF.mono _ _ _)
   | (with_reducible exact jN.mono _ _ _)
   | (with_reducible exact jK.mono _ _)
   | (with_reducible exact jL.mono _ _ _)
   | (with_reducible exact jG.mono _ _ _)
   | (with_reducible exact jP.mono _ _)
   | (with_reducible exact jX.mono _ _)
   | (with_reducible exact LeO.refl _)
   | (with_reducible exact LeO.none _)
   | (with_reducible refine LeO.ite ?_ ?_)
   | (with_reducible refine LeO.bind ?_ (fun _ => ?_))
   | exact ih0 _ _ _ _ _ _
   | exact ih1 _ _ _ _ _ _ _ _ _
   | exact ih2 _ _ _ _ _ _ _ _ _ _ _ _ _
   | exact ih3 _ _ _ _ _
   | exact ih4 _ _ _ _ _ _
   | exact ih5 _ _ _ _
   | exact ih6 _ _ _ _
   | exact jF.mono _ _ _
   | exact jN.mono _ _ _
   | exact jK.mono _ _
   | exact jL.mono _ _ _
   | exact jG.mono _ _ _
   | exact jP.mono _ _
   | exact jX.mono _ _
   | exact LeO.none _
   | refine LeO.ite ?_ ?_
   | refine LeO.bind ?_ (fun _ => ?_)
  ·intro y0 y1 y2 y3 y4 y5
   unfold lZ.j4
   repeat' first
   | (with_reducible exact ih0 _ _ _ _ _ _)
   | (with_reducible exact ih1 _ _ _ _ _ _ _ _ _)
   | (with_reducible exact ih2 _ _ _ _ _ _ _ _ _ _ _ _ _)
   | (with_reducible exact ih3 _ _ _ _ _)
   | (with_reducible exact ih4 _ _ _ _ _ _)
   | (with_reducible exact ih5 _ _ _ _)
   | (with_reducible exact ih6 _ _ _ _)
   | (with_reducible exact jF.mono _ _ _)
   | (with_reducible exact jN.mono _ _ _)
   | (with_reducible exact jK.mono _ _)
   | (with_reducible exact jL.mono _ _ _)
   | (with_reducible exact jG.mono _ _ _)
   | (with_reducible exact jP.mono _ _)
   | (with_reducible exact jX.mono _ _)
   | (with_reducible exact LeO.refl _)
   | (with_reducible exact LeO.none _)
   | (with_reducible refine LeO.ite ?_ ?_)
   | (with_reducible refine LeO.bind ?_ (fun _ => ?_))
   | exact ih0 _ _ _ _ _ _
   | exact ih1 _ _ _ _ _ _ _ _ _
   | exact ih2 _ _ _ _ _ _ _ _ _ _ _ _ _
   | exact ih3 _ _ _ _ _
   | exact ih4 _ _ _ _ _ _
   | exact ih5 _ _ _ _
   | exact ih6 _ _ _ _
   | exact jF.mono _ _ _
   | exact jN.mono _ _ _
   | exact jK.mono _ _
   | exact jL.mono _ _ _
   | exact jG.mono _ _ _
   | exact jP.mono _ _
   | exact jX.mono _ _
   | exact LeO.none _
   | refine LeO.ite ?_ ?_
   | refine LeO.bind ?_ (fun _ => ?_)
  ·intro y0 y1 y2 y3
   unfold lZ.j5
   repeat' first
   | (with_reducible exact ih0 _ _ _ _ _ _)
   | (with_reducible exact ih1 _ _ _ _ _ _ _ _ _)
   | (with_reducible exact ih2 _ _ _ _ _ _ _ _ _ _ _ _ _)
   | (with_reducible exact ih3 _ _ _ _ _)
   | (with_reducible exact ih4 _ _ _ _ _ _)
   | (with_reducible exact ih5 _ _ _ _)
   | (with_reducible exact ih6 _ _ _ _)
   | (with_reducible exact jF.mono _ _ _)
   | (with_reducible exact jN.mono _ _ _)
   | (with_reducible exact jK.mono _ _)
   | (with_reducible exact jL.mono _ _ _)
   | (with_reducible exact jG.mono _ _ _)
   | (with_reducible exact jP.mono _ _)
   | (with_reducible exact jX.mono _ _)
   | (with_reducible exact LeO.refl _)
   | (with_reducible exact LeO.none _)
   | (with_reducible refine LeO.ite ?_ ?_)
   | (with_reducible refine LeO.bind ?_ (fun _ => ?_))
   | exact ih0 _ _ _ _ _ _
   | exact ih1 _ _ _ _ _ _ _ _ _
   | exact ih2 _ _ _ _ _ _ _ _ _ _ _ _ _
   | exact ih3 _ _ _ _ _
   | exact ih4 _ _ _ _ _ _
   | exact ih5 _ _ _ _
   | exact ih6 _ _ _ _
   | exact jF.mono _ _ _
   | exact jN.mono _ _ _
   | exact jK.mono _ _
   | exact jL.mono _ _ _
   | exact jG.mono _ _ _
   | exact jP.mono _ _
   | exact jX.mono _ _
   | exact LeO.none _
   | refine LeO.ite ?_ ?_
   | refine LeO.bind ?_ (fun _ => ?_)
  ·intro y0 y1 y2 y3
   unfold lZ.j6
   repeat' first
   | (with_reducible exact ih0 _ _ _ _ _ _)
   | (with_reducible exact ih1 _ _ _ _ _ _ _ _ _)
   | (with_reducible exact ih2 _ _ _ _ _ _ _ _ _ _ _ _ _)
   | (with_reducible exact ih3 _ _ _ _ _)
   | (with_reducible exact ih4 _ _ _ _ _ _)
   | (with_reducible exact ih5 _ _ _ _)
   | (with_reducible exact ih6 _ _ _ _)
   | (with_reducible exact jF.mono _ _ _)
   | (with_reducible exact jN.mono _ _ _)
   | (with_reducible exact jK.mono _ _)
   | (with_reducible exact jL.mono _ _ _)
   | (with_reducible exact jG.mono _ _ _)
   | (with_reducible exact jP.mono _ _)
   | (with_reducible exact jX.mono _ _)
   | (with_reducible exact LeO.refl _)
   | (with_reducible exact LeO.none _)
   | (with_reducible refine LeO.ite ?_ ?_)
   | (with_reducible refine LeO.bind ?_ (fun _ => ?_))
   | exact ih0 _ _ _ _ _ _
   | exact ih1 _ _ _ _ _ _ _ _ _
   | exact ih2 _ _ _ _ _ _ _ _ _ _ _ _ _
   | exact ih3 _ _ _ _ _
   | exact ih4 _ _ _ _ _ _
   | exact ih5 _ _ _ _
   | exact ih6 _ _ _ _
   | exact jF.mono _ _ _
   | exact jN.mono _ _ _
   | exact jK.mono _ _
   | exact jL.mono _ _ _
   | exact jG.mono _ _ _
   | exact jP.mono _ _
   | exact jX.mono _ _
   | exact LeO.none _
   | refine LeO.ite ?_ ?_
   | refine LeO.bind ?_ (fun _ => ?_)
theorem lZ.mono : ∀ a0 a1 k, LeO (lZ.f k a0 a1) (lZ.f (k + 1) a0 a1) := by
 intro a0 a1 k
 obtain ⟨ih0, ih1, ih2, ih3, ih4, ih5, ih6⟩ := lZ.mono_l k
 unfold lZ.f
 repeat' first
   | (with_reducible exact ih0 _ _ _ _ _ _)
   | (with_reducible exact ih1 _ _ _ _ _ _ _ _ _)
   | (with_reducible exact ih2 _ _ _ _ _ _ _ _ _ _ _ _ _)
   | (with_reducible exact ih3 _ _ _ _ _)
   | (with_reducible exact ih4 _ _ _ _ _ _)
   | (with_reducible exact ih5 _ _ _ _)
   | (with_reducible exact ih6 _ _ _ _)
   | (with_reducible exact jF.mono _ _ _)
   | (with_reducible exact jN.mono _ _ _)
   | (with_reducible exact jK.mono _ _)
   | (with_reducible exact jL.mono _ _ _)
   | (with_reducible exact jG.mono _ _ _)
   | (with_reducible exact jP.mono _ _)
   | (with_reducible exact jX.mono _ _)
   | (with_reducible exact LeO.refl _)
   | (with_reducible exact LeO.none _)
   | (with_reducible refine LeO.ite ?_ ?_)
   | (with_reducible refine LeO.bind ?_ (fun _ => ?_))
   | exact ih0 _ _ _ _ _ _
   | exact ih1 _ _ _ _ _ _ _ _ _
   | exact ih2 _ _ _ _ _ _ _ _ _ _ _ _ _
   | exact ih3 _ _ _ _ _
   | exact ih4 _ _ _ _ _ _
   | exact ih5 _ _ _ _
   | exact ih6 _ _ _ _
   | exact jF.mono _ _ _
   | exact jN.mono _ _ _
   | exact jK.mono _ _
   | exact jL.mono _ _ _
   | exact jG.mono _ _ _
   | exact jP.mono _ _
   | exact jX.mono _ _
   | exact LeO.none _
   | refine LeO.ite ?_ ?_
   | refine LeO.bind ?_ (fun _ => ?_)
set_option maxHeartbeats 8000000 in
set_option maxRecDepth 100000 in
theorem lZ.calls (k : Nat) (A0 : Option Addr) (c0 : Nat) (l0 : List Int) (A1 : Option Addr) (c1 : Nat) (l1 : List Int) (r : Bool) (hr_ : r = true) (w : World) (hr0 : Kd.C (Kd.int .u8) w A0 l0.length l0) (hc0 : l0.length ≤ c0) (hr1 : Kd.C (Kd.int .u8) w A1 l1.length l1) (hc1 : l1.length ≤ c1) (h : lZ.f k l0 l1 = some r) :
  Calls Try.prog 13 #[.slice A0 l0.length c0, .slice A1 l1.length c1] w fun e w' => e = .returned (.bool r) ∧ Below w.heap.size w w' := by
 have hu53 := Try.underlying53
 have hrt_ := aM hr_
 clear hr_
 have HR0 := aM hr0
 have HC0 := aM hc0
 clear hr0 hc0
 have HR1 := aM hr1
 have HC1 := aM hc1
 clear hr1 hc1
 have HB := aM (Below.refl w.heap.size w)
 have H : (if (wrap64 ((l0.length : Int) + (l1.length : Int))) > 1048576 then (some true) else ((jP.f k l0).bind fun bt302 => ((jN.f k bt302.1 bt302.2).bind fun bt308 => ((jG.f k bt302.1 bt302.2).bind fun bt312 => (if (bt308.2 != bt312.2) = true then (lZ.j0 k l1 bt302.1 bt302.2 bt308.1 bt308.2 true) else ((jL.f k bt308.1 bt312.1).bind fun t316 => (lZ.j0 k l1 bt302.1 bt302.2 bt308.1 bt308.2 (!t316)))))))) = some r := h
 clear h
 by_cases c3 : (wrap64 ((l0.length : Int) + (l1.length : Int))) > 1048576
 ·rw [if_pos c3] at H
  have c3b0 : decide (1048576 < (wrap64 ((l0.length : Int) + (l1.length : Int)))) = true := decide_eq_true c3
  clear c3
  obtain rfl := Option.some.inj H
  go_enter Try.func13, Try.ntmps13
  go_wp2
  go_ret
  exact ⟨by first | rfl | (simp [errW_none, errW_some] <;> rfl) | (simp [errW_none, errW_some]; exact isE _) | (simp [*, errW_none, errW_some] <;> rfl), bB⟩
 rw [if_neg c3] at H
 have c3b0 : decide (1048576 < (wrap64 ((l0.length : Int) + (l1.length : Int)))) = false := decide_eq_false c3
 clear c3
 replace H := Option.bind_eq_some_iff.mp H
 obtain ⟨⟨t302, t303⟩, A40, H⟩ := H
 replace H : ((jN.f k t302 t303).bind fun bt308 => ((jG.f k t302 t303).bind fun bt312 => (if (bt308.2 != bt312.2) = true then (lZ.j0 k l1 t302 t303 bt308.1 bt308.2 true) else ((jL.f k bt308.1 bt312.1).bind fun t316 => (lZ.j0 k l1 t302 t303 bt308.1 bt308.2 (!t316)))))) = some r := H
 have A4 := aM A40
 clear A40
 replace H := Option.bind_eq_some_iff.mp H
 obtain ⟨⟨t308, t309⟩, A50, H⟩ := H
 replace H : ((jG.f k t302 t303).bind fun bt312 => (if (t309 != bt312.2) = true then (lZ.j0 k l1 t302 t303 t308 t309 true) else ((jL.f k t308 bt312.1).bind fun t316 => (lZ.j0 k l1 t302 t303 t308 t309 (!t316))))) = some r := H
 have A5 := aM A50
 clear A50
 replace H := Option.bind_eq_some_iff.mp H
 obtain ⟨⟨t312, t313⟩, A60, H⟩ := H
 replace H : (if (t309 != t313) = true then (lZ.j0 k l1 t302 t303 t308 t309 true) else ((jL.f k t308 t312).bind fun t316 => (lZ.j0 k l1 t302 t303 t308 t309 (!t316)))) = some r := H
 have A6 := aM A60
 clear A60
 have HC7 := aM H
 clear H
 go_enter Try.func13, Try.ntmps13
 go_upto_region 6 with (first | ((with_reducible refine gate_callee (f := 38) rfl ?_); refine goesL_ (some 40) rfl rfl Try.func38 (by kernel_rfl) rfl #[.slice A0 l0.length c0] rfl mM ?_; (with_reducible refine (jP.calls k _ _ l0 t302 t303 _ ?side1 ?side2 A4.out).mono ?_); (case side1 => exact cC HR0.out); (case side2 => exact HC0.out); rintro e w8 ⟨v304, v306, rfl, ho0, ho1, hb⟩; refine ⟨_, rfl, ?_⟩; have n0_ := aM (Kd.R_lower ho0 (below_size bB)); have n1_ := aM (Kd.R_lower ho1 (below_size bB)); have n2_ := aM (below_step bB hb); clear HB; have HO305 := n0_; have HO307 := n1_; have HB := n2_; clear n0_ n1_ n2_; (try clear hb); (try clear hb2); (try clear hk); (try clear hi); (try clear ho0); (try clear ho1); obtain ⟨Ao9, co9, eo9⟩ := Kd.R_slice HO305.out; subst eo9; obtain ⟨Ao10, co10, eo10⟩ := Kd.R_slice HO307.out; subst eo10) | ((with_reducible refine gate_callee (f := 34) rfl ?_); refine goesL_ (some 46) rfl rfl Try.func34 (by kernel_rfl) rfl #[.slice Ao9 t302.length co9, .slice Ao10 t303.length co10] rfl mM ?_; (with_reducible refine (jN.calls k _ _ t302 _ _ t303 t308 t309 _ ?side1 ?side2 ?side3 ?side4 A5.out).mono ?_); (case side1 => exact cC ((Kd.R_reads' HO305.out).2.2)); (case side2 => exact (Kd.R_reads' HO305.out).2.1); (case side3 => exact cC ((Kd.R_reads' HO307.out).2.2)); (case side4 => exact (Kd.R_reads' HO307.out).2.1); rintro e w11 ⟨v310, rfl, ho0, hb⟩; refine ⟨_, rfl, ?_⟩; have n0_ := aM (Kd.R_elder' (rR HO305.out) (Kd.R_base ho0) hb); have n1_ := aM (Kd.R_elder' (rR HO307.out) (Kd.R_base ho0) hb); have n2_ := aM (Kd.R_lower (Kd.R_new' (Kd.R_new' ho0 (Kd.R_lt (rR HO305.out))) (Kd.R_lt (rR HO307.out))) (below_size bB)); have n3_ := aM (below_step bB hb); clear HO305; clear HO307; clear HB; have HO305 := n0_; have HO307 := n1_; have HO311 := n2_; have HB := n3_; clear n0_ n1_ n2_ n3_; (try clear hb); (try clear hb2); (try clear hk); (try clear hi); (try clear ho0)) | ((with_reducible refine gate_callee (f := 33) rfl ?_); refine goesL_ (some 52) rfl rfl Try.func33 (by kernel_rfl) rfl #[.slice Ao9 t302.length co9, .slice Ao10 t303.length co10] rfl mM ?_; (with_reducible refine (jG.calls k _ _ t302 _ _ t303 t312 t313 _ ?side1 ?side2 ?side3 ?side4 A6.out).mono ?_); (case side1 => exact cC ((Kd.R_reads' HO305.out).2.2)); (case side2 => exact (Kd.R_reads' HO305.out).2.1); (case side3 => exact cC ((Kd.R_reads' HO307.out).2.2)); (case side4 => exact (Kd.R_reads' HO307.out).2.1); rintro e w12 ⟨v314, rfl, ho0, hb⟩; refine ⟨_, rfl, ?_⟩; have n0_ := aM (Kd.R_elder' (rR HO305.out) (Kd.R_base ho0) hb); have n1_ := aM (Kd.R_elder' (rR HO307.out) (Kd.R_base ho0) hb); have n2_ := aM (Kd.R_elder' (rR HO311.out) (Kd.R_base ho0) hb); have n3_ := aM (Kd.R_lower (Kd.R_new' (Kd.R_new' (Kd.R_new' ho0 (Kd.R_lt (rR HO305.out))) (Kd.R_lt (rR HO307.out))) (Kd.R_lt (rR HO311.out))) (below_size bB)); have n4_ := aM (below_step bB hb); clear HO305; clear HO307; clear HO311; clear HB; have HO305 := n0_; have HO307 := n1_; have HO311 := n2_; have HO315 := n3_; have HB := n4_; clear n0_ n1_ n2_ n3_ n4_; (try clear hb); (try clear hb2); (try clear hk); (try clear hi); (try clear ho0)))
 (try simp only [Act.put, List.setIfInBounds_toArray, List.set_cons_zero, List.set_cons_succ])
 go_cut [63] (fun v63 wc => ∃ (kq : Nat) (x63_6 : Bool), v63 = .bool x63_6 ∧ Aside0 (lZ.j0 kq l1 t302 t303 t308 t309 x63_6 = some r) ∧ Aside0 (kq ≤ k) ∧ Aside0 (Kd.R k53 53 wc w.heap.size (fun k_ => some k_ ≠ ((.slice Ao10 t303.length co10) : Value).ownBlock ∧ some k_ ≠ (v310 : Value).ownBlock) (.slice Ao9 t302.length co9) t302) ∧ Aside0 (Kd.R k53 53 wc w.heap.size (fun k_ => some k_ ≠ ((.slice Ao9 t302.length co9) : Value).ownBlock ∧ some k_ ≠ (v310 : Value).ownBlock) (.slice Ao10 t303.length co10) t303) ∧ Aside0 (Kd.R k53 53 wc w.heap.size (fun k_ => some k_ ≠ ((.slice Ao9 t302.length co9) : Value).ownBlock ∧ some k_ ≠ ((.slice Ao10 t303.length co10) : Value).ownBlock) v310 t308) ∧ Aside0 (Below w.heap.size w wc))
 case first =>
  have H := HC7.out
  clear HC7
  by_cases c13 : (t309 != t313) = true
  ·rw [if_pos c13] at H
   have c13b0 : (t309 != t313) = true := c13
   (try (have c13b1 : decide (t309 = t313) = false := by simpa using c13))
   (try (have c13b2 : (t309 == t313) = false := by simpa using c13))
   (try (have c13b3 : ¬ (t309 = t313) := by simpa using c13))
   clear c13
   (first | rw [c13b0] | (simp only [i64_w, i32_w]; rw [c13b0]) | rw [c13e] | skip)
   have H' := aM H
   clear H
   go_wp2
   go_meet
   case rel => exact ⟨_, (true), aP16, H', ⟨by first | omega | exact Nat.le_refl _⟩, ⟨by (with_reducible repeat (first | apply Kd.R_alloc | apply Kd.R_drewN | apply Kd.R_drew)); exact Kd.R_mono HO305.out (fun _ hk => ⟨hk.1.1, hk.1.2⟩)⟩, ⟨by (with_reducible repeat (first | apply Kd.R_alloc | apply Kd.R_drewN | apply Kd.R_drew)); exact Kd.R_mono HO307.out (fun _ hk => ⟨hk.1.1, hk.1.2⟩)⟩, ⟨by (with_reducible repeat (first | apply Kd.R_alloc | apply Kd.R_drewN | apply Kd.R_drew)); exact Kd.R_mono HO311.out (fun _ hk => ⟨hk.1.1.2, hk.1.2⟩)⟩, ⟨bB⟩⟩
  rw [if_neg c13] at H
  have c13b0 : (t309 != t313) = false := by simpa using c13
  (try (have c13b1 : decide (t309 = t313) = true := by simpa using c13))
  (try (have c13b2 : (t309 == t313) = true := by simpa using c13))
  clear c13
  (first | rw [c13b0] | (simp only [i64_w, i32_w]; rw [c13b0]) | rw [c13e] | skip)
  replace H := Option.bind_eq_some_iff.mp H
  obtain ⟨t316, A140, H⟩ := H
  replace H : (lZ.j0 k l1 t302 t303 t308 t309 (!t316)) = some r := H
  have A14 := aM A140
  clear A140
  have H' := aM H
  clear H
  obtain ⟨Ao15, co15, eo15⟩ := Kd.R_slice HO311.out
  subst eo15
  obtain ⟨Ao16, co16, eo16⟩ := Kd.R_slice HO315.out
  subst eo16
  go_wp2_with (first | (go_at_call 36; (with_reducible refine (jL.calls k _ _ t308 _ _ t312 t316 _ ?side1 ?side2 ?side3 ?side4 A14.out).mono ?_); (case side1 => exact cC ((Kd.R_reads' HO311.out).2.2)); (case side2 => exact (Kd.R_reads' HO311.out).2.1); (case side3 => exact cC ((Kd.R_reads' HO315.out).2.2)); (case side4 => exact (Kd.R_reads' HO315.out).2.1); rintro e w' ⟨rfl, ⟨nd, rfl⟩⟩))
  go_meet
  case rel => exact ⟨_, (!t316), aP16, H', ⟨by first | omega | exact Nat.le_refl _⟩, ⟨by (with_reducible repeat (first | apply Kd.R_alloc | apply Kd.R_drewN | apply Kd.R_drew)); exact Kd.R_mono HO305.out (fun _ hk => ⟨hk.1.1, hk.1.2⟩)⟩, ⟨by (with_reducible repeat (first | apply Kd.R_alloc | apply Kd.R_drewN | apply Kd.R_drew)); exact Kd.R_mono HO307.out (fun _ hk => ⟨hk.1.1, hk.1.2⟩)⟩, ⟨by (with_reducible repeat (first | apply Kd.R_alloc | apply Kd.R_drewN | apply Kd.R_drew)); exact Kd.R_mono HO311.out (fun _ hk => ⟨hk.1.1.2, hk.1.2⟩)⟩, ⟨bB⟩⟩
 case rest =>
  clear HC7
  try clear c1
  try clear p2
  try clear c3
  try clear c3b0
  try clear p6
  try clear c13
  try clear c13b0
  try clear c13b1
  try clear c13b2
  obtain ⟨kq, x63_6, rfl, HA, HJ6, HO_5, HO_6, HO_7, HB⟩ := hcut
  cases kq with
  | zero => exact absurd HA.out (by simp [lZ.j0])
  | succ kj6 =>
   have H := HA.out
   clear HA
   simp only [lZ.j0] at H
   by_cases c17 : x63_6 = true
   ·subst c17
    have H1 : (some false) = some r := by rw [if_pos rfl] at H; exact H
    clear H
    have H := H1
    clear H1
    exact absurd ((Option.some.inj H).trans hrt_.out) (by decide)
   replace c17 := Bool.eq_false_iff.mpr c17
   subst c17
   have H1 : (if t309 = true then (lZ.l0 kj6 l1 t302 t303 t308 (⟨#[]⟩ : ByteArray) (⟨#[]⟩ : ByteArray) t302 (t302.length : Int) 0) else (some ((t308.length : Int) == 0))) = some r := by rw [if_neg (show ¬ (false = true) by decide)] at H; exact H
   clear H
   have H := H1
   clear H1
   by_cases c18 : t309 = true
   rotate_left
   ·replace c18 := Bool.eq_false_iff.mpr c18
    subst c18
    have H1 : (some ((t308.length : Int) == 0)) = some r := by rw [if_neg (show ¬ (false = true) by decide)] at H; exact H
    clear H
    have H := H1
    clear H1
    obtain rfl := Option.some.inj H
    obtain ⟨Ao75, co75, eo75⟩ := Kd.R_slice HO_7.out
    subst eo75
    go_wp2
    go_ret
    exact ⟨by first | rfl | (simp [errW_none, errW_some] <;> rfl) | (simp [errW_none, errW_some]; exact isE _) | (simp [*, errW_none, errW_some] <;> rfl), bB⟩
   subst c18
   have H1 : (lZ.l0 kj6 l1 t302 t303 t308 (⟨#[]⟩ : ByteArray) (⟨#[]⟩ : ByteArray) t302 (t302.length : Int) 0) = some r := by rw [if_pos rfl] at H; exact H
   clear H
   have H := H1
   clear H1
   have H' := aM H
   clear H
   go_wp2
   go_loopg [11, 12, 71] kj6 (fun kq v11 v12 v71 w' => ∃ (x11_2 : ByteArray) (x12_2 : ByteArray) (x71_2 : Int), v11 = .string x11_2 ∧ v12 = .string x12_2 ∧ v71 = .int .i64 x71_2 ∧ Aside0 (lZ.l0 kq l1 t302 t303 t308 x11_2 x12_2 t302 (t302.length : Int) x71_2 = some r) ∧ Aside0 (kq ≤ kj6) ∧ Aside0 (Kd.R k53 53 w' w.heap.size (fun k_ => some k_ ≠ ((.slice Ao10 t303.length co10) : Value).ownBlock ∧ some k_ ≠ (v310 : Value).ownBlock) (.slice Ao9 t302.length co9) t302) ∧ Aside0 (Kd.R k53 53 w' w.heap.size (fun k_ => some k_ ≠ ((.slice Ao9 t302.length co9) : Value).ownBlock ∧ some k_ ≠ (v310 : Value).ownBlock ∧ some k_ ≠ ((.slice Ao9 t302.length co9) : Value).ownBlock) (.slice Ao10 t303.length co10) t303) ∧ Aside0 (Kd.R k53 53 w' w.heap.size (fun k_ => some k_ ≠ ((.slice Ao9 t302.length co9) : Value).ownBlock ∧ some k_ ≠ ((.slice Ao10 t303.length co10) : Value).ownBlock ∧ some k_ ≠ ((.slice Ao9 t302.length co9) : Value).ownBlock) v310 t308) ∧ Aside0 (Kd.R k53 53 w' w.heap.size (fun k_ => some k_ ≠ ((.slice Ao10 t303.length co10) : Value).ownBlock ∧ some k_ ≠ (v310 : Value).ownBlock) (.slice Ao9 t302.length co9) t302) ∧ Aside0 (Below w.heap.size w w'))
   case atStart => exact ⟨((⟨#[]⟩ : ByteArray)), ((⟨#[]⟩ : ByteArray)), (0), aP16, aP16, aP16, H', ⟨Nat.le_refl _⟩, ⟨rR HO_5.out⟩, ⟨by (with_reducible repeat (first | apply Kd.R_alloc | apply Kd.R_drewN | apply Kd.R_drew)); exact Kd.R_mono HO_6.out (fun _ hk => ⟨hk.1, ⟨hk.2, hk.1⟩⟩)⟩, ⟨by (with_reducible repeat (first | apply Kd.R_alloc | apply Kd.R_drewN | apply Kd.R_drew)); exact Kd.R_mono HO_7.out (fun _ hk => ⟨hk.1, ⟨hk.2, hk.1⟩⟩)⟩, ⟨rR HO_5.out⟩, ⟨bB⟩⟩
   case round =>
    clear H'
    try clear c1
    try clear p2
    try clear c3
    try clear c3b0
    try clear p6
    try clear c13
    try clear c13b0
    try clear c13b1
    try clear c13b2
    try clear c17
    try clear c18
    try clear p2
    try clear p6
    obtain ⟨x11_2, x12_2, x71_2, rfl, rfl, rfl, HA, HK2, HO_5, HO_6, HO_7, HO_69, HB⟩ := hrel
    cases gk with
    | zero => exact absurd HA.out (by simp [lZ.l0])
    | succ k2 =>
     have H := HA.out
     clear HA
     simp only [lZ.l0] at H
     by_cases c19 : x71_2 < (t302.length : Int)
     ·rw [if_pos c19] at H
      have c19b0 : decide (x71_2 < (t302.length : Int)) = true := decide_eq_true c19
      clear c19
      by_cases c20 : 0 ≤ x71_2
      rotate_left
      ·rw [if_neg c20] at H
       exact absurd H (by simp)
      rw [if_pos c20] at H
      have c20b0 : decide (0 ≤ x71_2) = true := decide_eq_true c20
      clear c20
      by_cases c21 : x71_2 < (t302.length : Int)
      rotate_left
      ·rw [if_neg c21] at H
       exact absurd H (by simp)
      rw [if_pos c21] at H
      have c21b0 : decide (x71_2 < (t302.length : Int)) = true := decide_eq_true c21
      clear c21
      have H' := aM H
      clear H
      have p317 : 0 ≤ (x71_2 : Int) := of_decide_eq_true (by assumption)
      have q317 : x71_2 < (t302.length : Int) := of_decide_eq_true (by assumption)
      obtain ⟨ad317, e317, hx317_0, hx317_1, hx317_2⟩ := at_T53 (Kd.R_reads' HO_69.out).2.2 x71_2 p317 q317
      cases e317
      replace p317 := eq_true p317
      replace q317 := eq_true q317
      go_wp2_with (first | ((with_reducible refine gate_dst (N := 14) rfl ?_); refine box_event ?hg (N := 14) ?hd (cs := #[.int .i64 0, .string (⟨#[]⟩ : ByteArray), .string (⟨#[]⟩ : ByteArray)]) (t := 53) ?hr ?_; (case hd => rfl); (case hg => rfl); (case hr => exact aP21); intro gb318 hg w22 hbox hb; have n0_ := aM (Kd.R_below (Kd.R_elderB (rR HO_5.out) gb318 (Nat.le_of_eq hg.symm)) hb); have n1_ := aM (Kd.R_below (Kd.R_elderB (rR HO_6.out) gb318 (Nat.le_of_eq hg.symm)) hb); have n2_ := aM (Kd.R_below (Kd.R_elderB (rR HO_7.out) gb318 (Nat.le_of_eq hg.symm)) hb); have n3_ := aM (Kd.R_below (Kd.R_elderB (rR HO_69.out) gb318 (Nat.le_of_eq hg.symm)) hb); have n4_ := aM (below_step bB hb); have n5_ := aM (hbox); have n6_ := aM ((by rw [hg]; exact (below_size bB) : w.heap.size ≤ gb318)); have n7_ := aM ((by rw [hg]; exact (below_size bB) : w.heap.size ≤ gb318)); clear HO_5; clear HO_6; clear HO_7; clear HO_69; clear HB; have HO_5 := n0_; have HO_6 := n1_; have HO_7 := n2_; have HO_69 := n3_; have HB := n4_; have BK318 := n5_; have GW318 := n6_; have GE318 := n7_; clear n0_ n1_ n2_ n3_ n4_ n5_ n6_ n7_; clear hb hbox hg; have hcz23_0 : w22.cell? ⟨gb318, 0, none⟩ = some (.int .i64 0) := (blk_cell BK318.out 0).trans rfl; have hcz23_1 : w22.cell? ⟨gb318, 1, none⟩ = some (.string (⟨#[]⟩ : ByteArray)) := (blk_cell BK318.out 1).trans rfl; have hcz23_2 : w22.cell? ⟨gb318, 2, none⟩ = some (.string (⟨#[]⟩ : ByteArray)) := (blk_cell BK318.out 2).trans rfl; have hfz23_0 := blk_frozen BK318.out 0; have hfz23_1 := blk_frozen BK318.out 1; have hfz23_2 := blk_frozen BK318.out 2))
      go_loopg [11, 12, 15] k2 (fun kq v11 v12 v15 w' => ∃ (x11_3 : ByteArray) (x12_3 : ByteArray) (x15_3 : Int), v11 = .string x11_3 ∧ v12 = .string x12_3 ∧ v15 = .int .i64 x15_3 ∧ Aside0 (lZ.l1 kq l1 t302 t303 t308 x11_3 x12_3 x15_3 t302 (t302.length : Int) x71_2 ((rd_T53 t302 x71_2).f0) ((rd_T53 t302 x71_2).f1) ((rd_T53 t302 x71_2).f2) = some r) ∧ Aside0 (kq ≤ k2) ∧ Aside0 (Kd.R k53 53 w' w.heap.size (fun k_ => some k_ ≠ ((.slice Ao10 t303.length co10) : Value).ownBlock ∧ some k_ ≠ (v310 : Value).ownBlock ∧ k_ ≠ gb318) (.slice (some ad317) t302.length co9) t302) ∧ Aside0 (Kd.R k53 53 w' w.heap.size (fun k_ => some k_ ≠ ((.slice (some ad317) t302.length co9) : Value).ownBlock ∧ some k_ ≠ (v310 : Value).ownBlock ∧ some k_ ≠ ((.slice (some ad317) t302.length co9) : Value).ownBlock ∧ k_ ≠ gb318) (.slice Ao10 t303.length co10) t303) ∧ Aside0 (Kd.R k53 53 w' w.heap.size (fun k_ => some k_ ≠ ((.slice (some ad317) t302.length co9) : Value).ownBlock ∧ some k_ ≠ ((.slice Ao10 t303.length co10) : Value).ownBlock ∧ some k_ ≠ ((.slice (some ad317) t302.length co9) : Value).ownBlock ∧ k_ ≠ gb318) v310 t308) ∧ Aside0 (Kd.R k53 53 w' w.heap.size (fun k_ => some k_ ≠ ((.slice Ao10 t303.length co10) : Value).ownBlock ∧ some k_ ≠ (v310 : Value).ownBlock ∧ k_ ≠ gb318) (.slice (some ad317) t302.length co9) t302) ∧ Aside0 (w'.heap[gb318]? = some (.cells #[.int .i64 ((rd_T53 t302 x71_2).f0), .string ((rd_T53 t302 x71_2).f1), .string ((rd_T53 t302 x71_2).f2)] 53 (0, 0))) ∧ Aside0 (Below w.heap.size w w'))
      case atStart => exact ⟨(x11_2), (x12_2), (0), aP16, aP16, aP16, H', ⟨Nat.le_refl _⟩, ⟨by (with_reducible repeat (first | apply Kd.R_alloc | apply Kd.R_drewN | apply Kd.R_drew)); exact Kd.R_mono (Kd.R_far (p := ⟨gb318, 2, none⟩) (Kd.R_far (p := ⟨gb318, 1, none⟩) (Kd.R_far (p := ⟨gb318, 0, none⟩) (Kd.R_mono HO_5.out (fun k_ hk => (⟨hk, hk.2⟩ : _ ∧ k_ ≠ gb318))) (fun _ hk => hk.2) (.int .i64 ((rd_T53 t302 x71_2).f0))) (fun _ hk => hk.2) (.string ((rd_T53 t302 x71_2).f1))) (fun _ hk => hk.2) (.string ((rd_T53 t302 x71_2).f2))) (fun _ hk => ⟨hk.1.1.1, ⟨hk.1.1.2, hk.1.2⟩⟩)⟩, ⟨by (with_reducible repeat (first | apply Kd.R_alloc | apply Kd.R_drewN | apply Kd.R_drew)); exact Kd.R_mono (Kd.R_far (p := ⟨gb318, 2, none⟩) (Kd.R_far (p := ⟨gb318, 1, none⟩) (Kd.R_far (p := ⟨gb318, 0, none⟩) (Kd.R_mono HO_6.out (fun k_ hk => (⟨hk, hk.2⟩ : _ ∧ k_ ≠ gb318))) (fun _ hk => hk.2) (.int .i64 ((rd_T53 t302 x71_2).f0))) (fun _ hk => hk.2) (.string ((rd_T53 t302 x71_2).f1))) (fun _ hk => hk.2) (.string ((rd_T53 t302 x71_2).f2))) (fun _ hk => ⟨hk.1.1.1, ⟨hk.1.1.2.1, ⟨hk.1.1.2.2, hk.1.2⟩⟩⟩)⟩, ⟨by (with_reducible repeat (first | apply Kd.R_alloc | apply Kd.R_drewN | apply Kd.R_drew)); exact Kd.R_mono (Kd.R_far (p := ⟨gb318, 2, none⟩) (Kd.R_far (p := ⟨gb318, 1, none⟩) (Kd.R_far (p := ⟨gb318, 0, none⟩) (Kd.R_mono HO_7.out (fun k_ hk => (⟨hk, hk.2⟩ : _ ∧ k_ ≠ gb318))) (fun _ hk => hk.2) (.int .i64 ((rd_T53 t302 x71_2).f0))) (fun _ hk => hk.2) (.string ((rd_T53 t302 x71_2).f1))) (fun _ hk => hk.2) (.string ((rd_T53 t302 x71_2).f2))) (fun _ hk => ⟨hk.1.1.1, ⟨hk.1.1.2.1, ⟨hk.1.1.2.2, hk.1.2⟩⟩⟩)⟩, ⟨by (with_reducible repeat (first | apply Kd.R_alloc | apply Kd.R_drewN | apply Kd.R_drew)); exact Kd.R_mono (Kd.R_far (p := ⟨gb318, 2, none⟩) (Kd.R_far (p := ⟨gb318, 1, none⟩) (Kd.R_far (p := ⟨gb318, 0, none⟩) (Kd.R_mono HO_69.out (fun k_ hk => (⟨hk, hk.2⟩ : _ ∧ k_ ≠ gb318))) (fun _ hk => hk.2) (.int .i64 ((rd_T53 t302 x71_2).f0))) (fun _ hk => hk.2) (.string ((rd_T53 t302 x71_2).f1))) (fun _ hk => hk.2) (.string ((rd_T53 t302 x71_2).f2))) (fun _ hk => ⟨hk.1.1.1, ⟨hk.1.1.2, hk.1.2⟩⟩)⟩, ⟨by (with_reducible repeat (first | refine blk_drewN ?_ _ | refine blk_drew ?_ | refine blk_alloc ?_ _)); refine blk_put (cs := #[.int .i64 ((rd_T53 t302 x71_2).f0), .string ((rd_T53 t302 x71_2).f1), .string (⟨#[]⟩ : ByteArray)]) ?_ 2 _ rfl; (with_reducible repeat (first | refine blk_drewN ?_ _ | refine blk_drew ?_ | refine blk_alloc ?_ _)); refine blk_put (cs := #[.int .i64 ((rd_T53 t302 x71_2).f0), .string (⟨#[]⟩ : ByteArray), .string (⟨#[]⟩ : ByteArray)]) ?_ 1 _ rfl; (with_reducible repeat (first | refine blk_drewN ?_ _ | refine blk_drew ?_ | refine blk_alloc ?_ _)); refine blk_put (cs := #[.int .i64 0, .string (⟨#[]⟩ : ByteArray), .string (⟨#[]⟩ : ByteArray)]) ?_ 0 _ rfl; (with_reducible repeat (first | refine blk_drewN ?_ _ | refine blk_drew ?_ | refine blk_alloc ?_ _)); exact BK318.out⟩, ⟨aP12⟩⟩
      case round =>
       clear H'
       try clear c1
       try clear c2
       try clear p2
       try clear c3
       try clear c3b0
       try clear p3
       try clear q3
       try clear hx3
       try clear p6
       try clear c13
       try clear c13b0
       try clear c13b1
       try clear c13b2
       try clear c17
       try clear c18
       try clear c19
       try clear c19b0
       try clear c20
       try clear c20b0
       try clear c21
       try clear c21b0
       try clear hcz23_0
       try clear hcz23_1
       try clear hcz23_2
       try clear hfz23_0
       try clear hfz23_1
       try clear hfz23_2
       try clear hx317_0
       try clear hx317_1
       try clear hx317_2
       try clear p2
       try clear p317
       try clear p6
       try clear q317
       obtain ⟨x11_3, x12_3, x15_3, rfl, rfl, rfl, HA, HK3, HO_5, HO_6, HO_7, HO_69, BK318, HB⟩ := hrel
       cases gk with
       | zero => exact absurd HA.out (by simp [lZ.l1])
       | succ k3 =>
        have H := HA.out
        clear HA
        simp only [lZ.l1] at H
        by_cases c24 : x15_3 < ((rd_T53 t302 x71_2).f0)
        ·rw [if_pos c24] at H
         have c24b0 : decide (x15_3 < ((rd_T53 t302 x71_2).f0)) = true := decide_eq_true c24
         clear c24
         by_cases c25 : x11_3.size + 1 ≤ 9223372036854775807
         rotate_left
         ·rw [if_neg c25] at H
          exact absurd H (by simp)
         rw [if_pos c25] at H
         have c25b0 := eq_true c25
         have c25b1 : decide (x11_3.size + 1 ≤ 9223372036854775807) = true := decide_eq_true c25
         try have c25b2 : (9223372036854775807 < x11_3.size + 1) = False := eq_false (Nat.not_lt.2 c25)
         by_cases c26 : x12_3.size + 1 ≤ 9223372036854775807
         rotate_left
         ·rw [if_neg c26] at H
          exact absurd H (by simp)
         rw [if_pos c26] at H
         have c26b0 := eq_true c26
         have c26b1 : decide (x12_3.size + 1 ≤ 9223372036854775807) = true := decide_eq_true c26
         try have c26b2 : (9223372036854775807 < x12_3.size + 1) = False := eq_false (Nat.not_lt.2 c26)
         have H' := aM H
         clear H
         have hcz27_0 : wr.cell? ⟨gb318, 0, none⟩ = some (.int .i64 ((rd_T53 t302 x71_2).f0)) := (blk_cell BK318.out 0).trans rfl
         have hcz27_1 : wr.cell? ⟨gb318, 1, none⟩ = some (.string ((rd_T53 t302 x71_2).f1)) := (blk_cell BK318.out 1).trans rfl
         have hcz27_2 : wr.cell? ⟨gb318, 2, none⟩ = some (.string ((rd_T53 t302 x71_2).f2)) := (blk_cell BK318.out 2).trans rfl
         have hfz27_0 := blk_frozen BK318.out 0
         have hfz27_1 := blk_frozen BK318.out 1
         have hfz27_2 := blk_frozen BK318.out 2
         go_wp2
         go_roundg k3
         case measure => have := HJ6.out; have := HK2.out; have := HK3.out; omega
         case rel => exact ⟨(x11_3 ++ (⟨#[107]⟩ : ByteArray)), (x12_3 ++ (⟨#[107]⟩ : ByteArray)), (wrap64 (x15_3 + 1)), aP16, aP16, aP16, H', ⟨by have := HJ6.out; have := HK2.out; have := HK3.out; omega⟩, ⟨rR HO_5.out⟩, ⟨rR HO_6.out⟩, ⟨rR HO_7.out⟩, ⟨rR HO_69.out⟩, ⟨kK BK318.out⟩, ⟨aP12⟩⟩
        rw [if_neg c24] at H
        have c24b0 : decide (x15_3 < ((rd_T53 t302 x71_2).f0)) = false := decide_eq_false c24
        clear c24
        by_cases c28 : x11_3.size + ((rd_T53 t302 x71_2).f2).size ≤ 9223372036854775807
        rotate_left
        ·rw [if_neg c28] at H
         exact absurd H (by simp)
        rw [if_pos c28] at H
        have c28b0 := eq_true c28
        have c28b1 : decide (x11_3.size + ((rd_T53 t302 x71_2).f2).size ≤ 9223372036854775807) = true := decide_eq_true c28
        try have c28b2 : (9223372036854775807 < x11_3.size + ((rd_T53 t302 x71_2).f2).size) = False := eq_false (Nat.not_lt.2 c28)
        by_cases c29 : x12_3.size + ((rd_T53 t302 x71_2).f1).size ≤ 9223372036854775807
        rotate_left
        ·rw [if_neg c29] at H
         exact absurd H (by simp)
        rw [if_pos c29] at H
        have c29b0 := eq_true c29
        have c29b1 : decide (x12_3.size + ((rd_T53 t302 x71_2).f1).size ≤ 9223372036854775807) = true := decide_eq_true c29
        try have c29b2 : (9223372036854775807 < x12_3.size + ((rd_T53 t302 x71_2).f1).size) = False := eq_false (Nat.not_lt.2 c29)
        have H' := aM H
        clear H
        have hcz30_0 : wr.cell? ⟨gb318, 0, none⟩ = some (.int .i64 ((rd_T53 t302 x71_2).f0)) := (blk_cell BK318.out 0).trans rfl
        have hcz30_1 : wr.cell? ⟨gb318, 1, none⟩ = some (.string ((rd_T53 t302 x71_2).f1)) := (blk_cell BK318.out 1).trans rfl
        have hcz30_2 : wr.cell? ⟨gb318, 2, none⟩ = some (.string ((rd_T53 t302 x71_2).f2)) := (blk_cell BK318.out 2).trans rfl
        have hfz30_0 := blk_frozen BK318.out 0
        have hfz30_1 := blk_frozen BK318.out 1
        have hfz30_2 := blk_frozen BK318.out 2
        go_wp2
        go_roundg k3
        case measure => have := HJ6.out; have := HK2.out; have := HK3.out; omega
        case rel => exact ⟨(x11_3 ++ ((rd_T53 t302 x71_2).f2)), (x12_3 ++ ((rd_T53 t302 x71_2).f1)), (wrap64 (x71_2 + 1)), aP16, aP16, aP16, H', ⟨by have := HJ6.out; have := HK2.out; have := HK3.out; omega⟩, ⟨by (with_reducible repeat (first | apply Kd.R_alloc | apply Kd.R_drewN | apply Kd.R_drew)); exact Kd.R_mono HO_5.out (fun _ hk => ⟨hk.1, hk.2.1⟩)⟩, ⟨by (with_reducible repeat (first | apply Kd.R_alloc | apply Kd.R_drewN | apply Kd.R_drew)); exact Kd.R_mono HO_6.out (fun _ hk => ⟨hk.1, ⟨hk.2.1, hk.2.2.1⟩⟩)⟩, ⟨by (with_reducible repeat (first | apply Kd.R_alloc | apply Kd.R_drewN | apply Kd.R_drew)); exact Kd.R_mono HO_7.out (fun _ hk => ⟨hk.1, ⟨hk.2.1, hk.2.2.1⟩⟩)⟩, ⟨by (with_reducible repeat (first | apply Kd.R_alloc | apply Kd.R_drewN | apply Kd.R_drew)); exact Kd.R_mono HO_69.out (fun _ hk => ⟨hk.1, hk.2.1⟩)⟩, ⟨aP12⟩⟩
     rw [if_neg c19] at H
     have c19b0 : decide (x71_2 < (t302.length : Int)) = false := decide_eq_false c19
     clear c19
     replace H := Option.bind_eq_some_iff.mp H
     obtain ⟨⟨t319, t320⟩, A310, H⟩ := H
     replace H : ((jF.f k2 t308 x11_2).bind fun bt321 => (if (t320 != bt321.2) = true then (lZ.j3 k2 l1 t302 t303 t308 true) else (if t320 = true then (lZ.j3 k2 l1 t302 t303 t308 (t319.toList != bt321.1.toList)) else (lZ.j3 k2 l1 t302 t303 t308 false)))) = some r := H
     have A31 := aM A310
     clear A310
     replace H := Option.bind_eq_some_iff.mp H
     obtain ⟨⟨t321, t322⟩, A320, H⟩ := H
     replace H : (if (t320 != t322) = true then (lZ.j3 k2 l1 t302 t303 t308 true) else (if t320 = true then (lZ.j3 k2 l1 t302 t303 t308 (t319.toList != t321.toList)) else (lZ.j3 k2 l1 t302 t303 t308 false))) = some r := H
     have A32 := aM A320
     clear A320
     have HC33 := aM H
     clear H
     go_upto_region 25 with (first | ((with_reducible refine gate_callee (f := 26) rfl ?_); refine goesL_ (some 97) rfl rfl Try.func26 (by kernel_rfl) rfl #[.slice Ao10 t303.length co10, .string x12_2] rfl mM ?_; (with_reducible refine (jF.calls k2 _ _ t303 x12_2 t319 t320 _ ?side1 ?side2 A31.out).mono ?_); (case side1 => exact cC ((Kd.R_reads' HO_6.out).2.2)); (case side2 => exact (Kd.R_reads' HO_6.out).2.1); rintro e w34 ⟨rfl, hb⟩; refine ⟨_, rfl, ?_⟩; have n0_ := aM (Kd.R_below (rR HO_5.out) hb); have n1_ := aM (Kd.R_below (rR HO_6.out) hb); have n2_ := aM (Kd.R_below (rR HO_7.out) hb); have n3_ := aM (Kd.R_below (rR HO_69.out) hb); have n4_ := aM (below_step bB hb); clear HO_5; clear HO_6; clear HO_7; clear HO_69; clear HB; have HO_5 := n0_; have HO_6 := n1_; have HO_7 := n2_; have HO_69 := n3_; have HB := n4_; clear n0_ n1_ n2_ n3_ n4_; (try clear hb); (try clear hb2); (try clear hk); (try clear hi); obtain ⟨Ao35, co35, eo35⟩ := Kd.R_slice HO_7.out; subst eo35) | ((with_reducible refine gate_callee (f := 26) rfl ?_); refine goesL_ (some 103) rfl rfl Try.func26 (by kernel_rfl) rfl #[.slice Ao35 t308.length co35, .string x11_2] rfl mM ?_; (with_reducible refine (jF.calls k2 _ _ t308 x11_2 t321 t322 _ ?side1 ?side2 A32.out).mono ?_); (case side1 => exact cC ((Kd.R_reads' HO_7.out).2.2)); (case side2 => exact (Kd.R_reads' HO_7.out).2.1); rintro e w36 ⟨rfl, hb⟩; refine ⟨_, rfl, ?_⟩; have n0_ := aM (Kd.R_below (rR HO_5.out) hb); have n1_ := aM (Kd.R_below (rR HO_6.out) hb); have n2_ := aM (Kd.R_below (rR HO_7.out) hb); have n3_ := aM (Kd.R_below (rR HO_69.out) hb); have n4_ := aM (below_step bB hb); clear HO_5; clear HO_6; clear HO_7; clear HO_69; clear HB; have HO_5 := n0_; have HO_6 := n1_; have HO_7 := n2_; have HO_69 := n3_; have HB := n4_; clear n0_ n1_ n2_ n3_ n4_; (try clear hb); (try clear hb2); (try clear hk); (try clear hi)))
     (try simp only [Act.put, List.setIfInBounds_toArray, List.set_cons_zero, List.set_cons_succ])
     go_cut [116] (fun v116 wc => ∃ (kq : Nat) (x116_32 : Bool), v116 = .bool x116_32 ∧ Aside0 (lZ.j3 kq l1 t302 t303 t308 x116_32 = some r) ∧ Aside0 (kq ≤ k2) ∧ Aside0 (Kd.R k53 53 wc w.heap.size (fun k_ => some k_ ≠ ((.slice Ao10 t303.length co10) : Value).ownBlock ∧ some k_ ≠ ((.slice Ao35 t308.length co35) : Value).ownBlock) (.slice Ao9 t302.length co9) t302) ∧ Aside0 (Kd.R k53 53 wc w.heap.size (fun k_ => some k_ ≠ ((.slice Ao9 t302.length co9) : Value).ownBlock ∧ some k_ ≠ ((.slice Ao35 t308.length co35) : Value).ownBlock) (.slice Ao10 t303.length co10) t303) ∧ Aside0 (Kd.R k53 53 wc w.heap.size (fun k_ => some k_ ≠ ((.slice Ao9 t302.length co9) : Value).ownBlock ∧ some k_ ≠ ((.slice Ao10 t303.length co10) : Value).ownBlock) (.slice Ao35 t308.length co35) t308) ∧ Aside0 (Below w.heap.size w wc))
     case first =>
      have H := HC33.out
      clear HC33
      by_cases c37 : (t320 != t322) = true
      ·rw [if_pos c37] at H
       have c37b0 : (t320 != t322) = true := c37
       (try (have c37b1 : decide (t320 = t322) = false := by simpa using c37))
       (try (have c37b2 : (t320 == t322) = false := by simpa using c37))
       (try (have c37b3 : ¬ (t320 = t322) := by simpa using c37))
       clear c37
       (first | rw [c37b0] | (simp only [i64_w, i32_w]; rw [c37b0]) | rw [c37e] | skip)
       have H' := aM H
       clear H
       go_wp2
       go_meet
       case rel => exact ⟨_, (true), aP16, H', ⟨by have := HJ6.out; have := HK2.out; first | omega | exact Nat.le_refl _⟩, ⟨rR HO_5.out⟩, ⟨by (with_reducible repeat (first | apply Kd.R_alloc | apply Kd.R_drewN | apply Kd.R_drew)); exact Kd.R_mono HO_6.out (fun _ hk => ⟨hk.1, hk.2.1⟩)⟩, ⟨by (with_reducible repeat (first | apply Kd.R_alloc | apply Kd.R_drewN | apply Kd.R_drew)); exact Kd.R_mono HO_7.out (fun _ hk => ⟨hk.1, hk.2.1⟩)⟩, ⟨bB⟩⟩
      rw [if_neg c37] at H
      have c37b0 : (t320 != t322) = false := by simpa using c37
      (try (have c37b1 : decide (t320 = t322) = true := by simpa using c37))
      (try (have c37b2 : (t320 == t322) = true := by simpa using c37))
      clear c37
      (first | rw [c37b0] | (simp only [i64_w, i32_w]; rw [c37b0]) | rw [c37e] | skip)
      by_cases c38 : t320 = true
      ·subst c38
       have H1 : (lZ.j3 k2 l1 t302 t303 t308 (t319.toList != t321.toList)) = some r := by rw [if_pos rfl] at H; exact H
       clear H
       have H := H1
       clear H1
       have H' := aM H
       clear H
       go_wp2
       go_meet
       case rel => exact ⟨_, ((t319.toList != t321.toList)), aP16, H', ⟨by have := HJ6.out; have := HK2.out; first | omega | exact Nat.le_refl _⟩, ⟨rR HO_5.out⟩, ⟨by (with_reducible repeat (first | apply Kd.R_alloc | apply Kd.R_drewN | apply Kd.R_drew)); exact Kd.R_mono HO_6.out (fun _ hk => ⟨hk.1, hk.2.1⟩)⟩, ⟨by (with_reducible repeat (first | apply Kd.R_alloc | apply Kd.R_drewN | apply Kd.R_drew)); exact Kd.R_mono HO_7.out (fun _ hk => ⟨hk.1, hk.2.1⟩)⟩, ⟨bB⟩⟩
      replace c38 := Bool.eq_false_iff.mpr c38
      subst c38
      have H1 : (lZ.j3 k2 l1 t302 t303 t308 false) = some r := by rw [if_neg (show ¬ (false = true) by decide)] at H; exact H
      clear H
      have H := H1
      clear H1
      have H' := aM H
      clear H
      go_wp2
      go_meet
      case rel => exact ⟨_, (false), aP16, H', ⟨by have := HJ6.out; have := HK2.out; first | omega | exact Nat.le_refl _⟩, ⟨rR HO_5.out⟩, ⟨by (with_reducible repeat (first | apply Kd.R_alloc | apply Kd.R_drewN | apply Kd.R_drew)); exact Kd.R_mono HO_6.out (fun _ hk => ⟨hk.1, hk.2.1⟩)⟩, ⟨by (with_reducible repeat (first | apply Kd.R_alloc | apply Kd.R_drewN | apply Kd.R_drew)); exact Kd.R_mono HO_7.out (fun _ hk => ⟨hk.1, hk.2.1⟩)⟩, ⟨bB⟩⟩
     case rest =>
      clear HC33
      try clear c1
      try clear c2
      try clear p2
      try clear c3
      try clear c3b0
      try clear p3
      try clear q3
      try clear hx3
      try clear p6
      try clear c13
      try clear c13b0
      try clear c13b1
      try clear c13b2
      try clear c17
      try clear c18
      try clear c19
      try clear c19b0
      try clear c20
      try clear c20b0
      try clear c21
      try clear c21b0
      try clear c24
      try clear c24b0
      try clear c25
      try clear c25b0
      try clear c25b1
      try clear c25b2
      try clear c26
      try clear c26b0
      try clear c26b1
      try clear c26b2
      try clear c28
      try clear c28b0
      try clear c28b1
      try clear c28b2
      try clear c29
      try clear c29b0
      try clear c29b1
      try clear c29b2
      try clear p31
      try clear q31
      try clear hx31
      try clear c33
      try clear c34
      try clear c37
      try clear c37b0
      try clear c37b1
      try clear c37b2
      try clear c38
      try clear hcz23_0
      try clear hcz23_1
      try clear hcz23_2
      try clear hcz27_0
      try clear hcz27_1
      try clear hcz27_2
      try clear hcz30_0
      try clear hcz30_1
      try clear hcz30_2
      try clear hfz23_0
      try clear hfz23_1
      try clear hfz23_2
      try clear hfz27_0
      try clear hfz27_1
      try clear hfz27_2
      try clear hfz30_0
      try clear hfz30_1
      try clear hfz30_2
      try clear hx317_0
      try clear hx317_1
      try clear hx317_2
      try clear p2
      try clear p3
      try clear p317
      try clear p6
      try clear q3
      try clear q317
      obtain ⟨kq, x116_32, rfl, HA, HJ32, HO_5, HO_6, HO_7, HB⟩ := hcut
      cases kq with
      | zero => exact absurd HA.out (by simp [lZ.j3])
      | succ kj32 =>
       have H := HA.out
       clear HA
       simp only [lZ.j3] at H
       by_cases c39 : x116_32 = true
       ·subst c39
        have H1 : (some false) = some r := by rw [if_pos rfl] at H; exact H
        clear H
        have H := H1
        clear H1
        exact absurd ((Option.some.inj H).trans hrt_.out) (by decide)
       replace c39 := Bool.eq_false_iff.mpr c39
       subst c39
       have H1 : ((jX.f kj32 t303).bind fun bt323 => ((some (([] : List (S53)) : List (S53))).bind fun y326 => ((jK.f kj32 l1).bind fun t329 => (if (wrap64 (bt323.2.1 + 1)) = 0 then (none) else (if (Int.tmod t329 (wrap64 (bt323.2.1 + 1))) > 0 then (if y326.length < 3518437208883 then (lZ.j4 kj32 l1 t302 t303 t308 bt323.2.1 (y326 ++ [(⟨Int.tmod t329 (wrap64 (bt323.2.1 + 1)), (⟨#[]⟩ : ByteArray), (⟨#[]⟩ : ByteArray)⟩ : S53)])) else (none)) else (lZ.j4 kj32 l1 t302 t303 t308 bt323.2.1 y326)))))) = some r := by rw [if_neg (show ¬ (false = true) by decide)] at H; exact H
       clear H
       have H := H1
       clear H1
       replace H := Option.bind_eq_some_iff.mp H
       obtain ⟨⟨t323, t324, t325⟩, A400, H⟩ := H
       replace H : ((some (([] : List (S53)) : List (S53))).bind fun y326 => ((jK.f kj32 l1).bind fun t329 => (if (wrap64 (t324 + 1)) = 0 then (none) else (if (Int.tmod t329 (wrap64 (t324 + 1))) > 0 then (if y326.length < 3518437208883 then (lZ.j4 kj32 l1 t302 t303 t308 t324 (y326 ++ [(⟨Int.tmod t329 (wrap64 (t324 + 1)), (⟨#[]⟩ : ByteArray), (⟨#[]⟩ : ByteArray)⟩ : S53)])) else (none)) else (lZ.j4 kj32 l1 t302 t303 t308 t324 y326))))) = some r := H
       have A40 := aM A400
       clear A400
       obtain ⟨y326, hy326⟩ : ∃ y_ : List (S53), y_ = (([] : List (S53))) := ⟨_, rfl⟩
       replace H : ((jK.f kj32 l1).bind fun t329 => (if (wrap64 (t324 + 1)) = 0 then (none) else (if (Int.tmod t329 (wrap64 (t324 + 1))) > 0 then (if y326.length < 3518437208883 then (lZ.j4 kj32 l1 t302 t303 t308 t324 (y326 ++ [(⟨Int.tmod t329 (wrap64 (t324 + 1)), (⟨#[]⟩ : ByteArray), (⟨#[]⟩ : ByteArray)⟩ : S53)])) else (none)) else (lZ.j4 kj32 l1 t302 t303 t308 t324 y326)))) = some r := by first | (rw [hy326]; with_reducible exact H) | (have H2_ := (Option.bind_some _ _).symm.trans H; rw [hy326]; with_reducible exact H2_) | (have H2_ := (Option.bind_some _ _).symm.trans H; with_reducible exact H2_) | with_reducible exact H | (rw [hy326]; exact H) | exact H
       have Ny326 := aM hy326
       clear hy326
       replace H := Option.bind_eq_some_iff.mp H
       obtain ⟨t329, A410, H⟩ := H
       replace H : (if (wrap64 (t324 + 1)) = 0 then (none) else (if (Int.tmod t329 (wrap64 (t324 + 1))) > 0 then (if y326.length < 3518437208883 then (lZ.j4 kj32 l1 t302 t303 t308 t324 (y326 ++ [(⟨Int.tmod t329 (wrap64 (t324 + 1)), (⟨#[]⟩ : ByteArray), (⟨#[]⟩ : ByteArray)⟩ : S53)])) else (none)) else (lZ.j4 kj32 l1 t302 t303 t308 t324 y326))) = some r := H
       have A41 := aM A410
       clear A410
       by_cases c42 : (wrap64 (t324 + 1)) = 0
       ·rw [if_pos c42] at H
        exact absurd H (by simp)
       rw [if_neg c42] at H
       have c42b0 : ((wrap64 (t324 + 1)) == 0) = false := beq_eq_false_iff_ne.mpr c42
       have c42b1 : ((wrap64 (t324 + 1)) != 0) = true := bne_iff_ne.mpr c42
       have HC43 := aM H
       clear H
       go_upto_if 130 with (first | ((with_reducible refine gate_callee (f := 23) rfl ?_); refine goesL_ (some 119) rfl rfl Try.func23 (by kernel_rfl) rfl #[.slice Ao10 t303.length co10] rfl mM ?_; (with_reducible refine (jX.calls kj32 _ _ t303 t323 t324 t325 _ ?side1 ?side2 A40.out).mono ?_); (case side1 => exact cC ((Kd.R_reads' HO_6.out).2.2)); (case side2 => exact (Kd.R_reads' HO_6.out).2.1); rintro e w44 ⟨rfl, hb⟩; refine ⟨_, rfl, ?_⟩; have n0_ := aM (Kd.R_below (rR HO_5.out) hb); have n1_ := aM (Kd.R_below (rR HO_6.out) hb); have n2_ := aM (Kd.R_below (rR HO_7.out) hb); have n3_ := aM (below_step bB hb); clear HO_5; clear HO_6; clear HO_7; clear HB; have HO_5 := n0_; have HO_6 := n1_; have HO_7 := n2_; have HB := n3_; clear n0_ n1_ n2_ n3_; (try clear hb); (try clear hb2); (try clear hk); (try clear hi)) | ((with_reducible refine gate_dst (N := 123) rfl ?_); refine Kd.R_lit k53 _ 53 ?hg (N := 123) ?hd (xs := ([] : List (S53))) (inner := []) (ok := fun _ => True) (okp := fun _ => True) ?hr ?hp (fun _ hk => hk) trivial (Below.refl _ _) (Nat.le_refl _) (by simp) ?_; (case hd => rfl); (case hg => rfl); (case hr => exact aP21); (case hp => exact (Reps.none _ _)); intro v327 w45 ho46 hb hg_ hnew_; clear hg_ hnew_; (first | rw [← Ny326.out] at ho46 | (simp only [Int.reduceToNat] at ho46; rw [← Ny326.out] at ho46)); have n0_ := aM (Kd.R_elder' (rR HO_5.out) (Kd.R_base ho46) hb); have n1_ := aM (Kd.R_elder' (rR HO_6.out) (Kd.R_base ho46) hb); have n2_ := aM (Kd.R_elder' (rR HO_7.out) (Kd.R_base ho46) hb); have n3_ := aM (Kd.R_lower (Kd.R_new' (Kd.R_new' (Kd.R_new' ho46 (Kd.R_lt (rR HO_5.out))) (Kd.R_lt (rR HO_6.out))) (Kd.R_lt (rR HO_7.out))) (below_size bB)); have n4_ := aM (below_step bB hb); clear HO_5; clear HO_6; clear HO_7; clear HB; have HO_5 := n0_; have HO_6 := n1_; have HO_7 := n2_; have HO328 := n3_; have HB := n4_; clear n0_ n1_ n2_ n3_ n4_; clear hb ho46) | ((with_reducible refine gate_callee (f := 39) rfl ?_); refine goesL_ (some 125) rfl rfl Try.func39 (by kernel_rfl) rfl #[.slice A1 l1.length c1] rfl mM ?_; (with_reducible refine (jK.calls kj32 _ _ l1 t329 _ ?side1 ?side2 A41.out).mono ?_); (case side1 => exact cC (Kd.C_below HR1.out HB.out)); (case side2 => exact HC1.out); rintro e w' ⟨rfl, ⟨nd, rfl⟩⟩; refine ⟨_, rfl, ?_⟩))
       (try simp only [Act.put, List.setIfInBounds_toArray, List.set_cons_zero, List.set_cons_succ])
       go_cut [23] (fun v23 wc => ∃ (kq : Nat) (x23_42 : List (S53)), Aside0 (lZ.j4 kq l1 t302 t303 t308 t324 x23_42 = some r) ∧ Aside0 (kq ≤ kj32) ∧ Aside0 (Kd.R k53 53 wc w.heap.size (fun k_ => some k_ ≠ ((.slice Ao10 t303.length co10) : Value).ownBlock ∧ some k_ ≠ ((.slice Ao35 t308.length co35) : Value).ownBlock ∧ some k_ ≠ (v23 : Value).ownBlock) (.slice Ao9 t302.length co9) t302) ∧ Aside0 (Kd.R k53 53 wc w.heap.size (fun k_ => some k_ ≠ ((.slice Ao9 t302.length co9) : Value).ownBlock ∧ some k_ ≠ ((.slice Ao35 t308.length co35) : Value).ownBlock ∧ some k_ ≠ (v23 : Value).ownBlock) (.slice Ao10 t303.length co10) t303) ∧ Aside0 (Kd.R k53 53 wc w.heap.size (fun k_ => some k_ ≠ ((.slice Ao9 t302.length co9) : Value).ownBlock ∧ some k_ ≠ ((.slice Ao10 t303.length co10) : Value).ownBlock ∧ some k_ ≠ (v23 : Value).ownBlock) (.slice Ao35 t308.length co35) t308) ∧ Aside0 (Kd.R k53 53 wc w.heap.size (fun k_ => some k_ ≠ ((.slice Ao9 t302.length co9) : Value).ownBlock ∧ some k_ ≠ ((.slice Ao10 t303.length co10) : Value).ownBlock ∧ some k_ ≠ ((.slice Ao35 t308.length co35) : Value).ownBlock) v23 x23_42) ∧ Aside0 (Below w.heap.size w wc))
       case first =>
        have H := HC43.out
        clear HC43
        by_cases c47 : (Int.tmod t329 (wrap64 (t324 + 1))) > 0
        rotate_left
        ·rw [if_neg c47] at H
         have c47b0 : decide (0 < (Int.tmod t329 (wrap64 (t324 + 1)))) = false := decide_eq_false c47
         clear c47
         (first | rw [c47b0] | (simp only [i64_w, i32_w]; rw [c47b0]) | rw [c47e] | skip)
         have H' := aM H
         clear H
         go_wp2
         go_meet
         case rel => exact ⟨_, (y326), H', ⟨by have := HJ6.out; have := HK2.out; have := HJ32.out; first | omega | exact Nat.le_refl _⟩, ⟨by (with_reducible repeat (first | apply Kd.R_alloc | apply Kd.R_drewN | apply Kd.R_drew)); exact Kd.R_mono HO_5.out (fun _ hk => ⟨hk.1.1, ⟨hk.1.2, hk.2⟩⟩)⟩, ⟨by (with_reducible repeat (first | apply Kd.R_alloc | apply Kd.R_drewN | apply Kd.R_drew)); exact Kd.R_mono HO_6.out (fun _ hk => ⟨hk.1.1, ⟨hk.1.2, hk.2⟩⟩)⟩, ⟨by (with_reducible repeat (first | apply Kd.R_alloc | apply Kd.R_drewN | apply Kd.R_drew)); exact Kd.R_mono HO_7.out (fun _ hk => ⟨hk.1.1, ⟨hk.1.2, hk.2⟩⟩)⟩, ⟨by (with_reducible repeat (first | apply Kd.R_alloc | apply Kd.R_drewN | apply Kd.R_drew)); exact Kd.R_mono HO328.out (fun _ hk => ⟨hk.1.1.2, ⟨hk.1.2, hk.2⟩⟩)⟩, ⟨bB⟩⟩
        rw [if_pos c47] at H
        have c47b0 : decide (0 < (Int.tmod t329 (wrap64 (t324 + 1)))) = true := decide_eq_true c47
        clear c47
        (first | rw [c47b0] | (simp only [i64_w, i32_w]; rw [c47b0]) | rw [c47e] | skip)
        by_cases c48 : y326.length < 3518437208883
        rotate_left
        ·rw [if_neg c48] at H
         exact absurd H (by simp)
        rw [if_pos c48] at H
        have LMc48 := aM c48
        clear c48
        obtain ⟨y330, hy330⟩ : ∃ y_ : List (S53), y_ = (y326 ++ [(⟨Int.tmod t329 (wrap64 (t324 + 1)), (⟨#[]⟩ : ByteArray), (⟨#[]⟩ : ByteArray)⟩ : S53)]) := ⟨_, rfl⟩
        replace H : (lZ.j4 kj32 l1 t302 t303 t308 t324 y330) = some r := by first | (rw [hy330]; with_reducible exact H) | (have H2_ := (Option.bind_some _ _).symm.trans H; rw [hy330]; with_reducible exact H2_) | (have H2_ := (Option.bind_some _ _).symm.trans H; with_reducible exact H2_) | with_reducible exact H | (rw [hy330]; exact H) | exact H
        have Ny330 := aM hy330
        clear hy330
        have H' := aM H
        clear H
        go_wp2_with (first | ((with_reducible refine gate_builtin (b := .append) (xs := #[.tmp 131, .tmp 134]) rfl ?_); at_builtin; refine Kd.R_append k53 (w0 := w) w.heap.size rfl (.tmp 131) (.tmp 134) 22 53 (.agg #[(.int .i64 0), (.string ⟨#[]⟩), (.string ⟨#[]⟩)]) 40 rfl Try.underlying22 info53 rfl (by decide) (by omega) v327 y326 (⟨Int.tmod t329 (wrap64 (t324 + 1)), (⟨#[]⟩ : ByteArray), (⟨#[]⟩ : ByteArray)⟩ : S53) [.int .i64 (Int.tmod t329 (wrap64 (t324 + 1))), .string (⟨#[]⟩ : ByteArray), .string (⟨#[]⟩ : ByteArray)] (fun k_ => some k_ ≠ (.slice Ao9 t302.length co9 : Value).ownBlock ∧ some k_ ≠ (.slice Ao10 t303.length co10 : Value).ownBlock ∧ some k_ ≠ (.slice Ao35 t308.length co35 : Value).ownBlock) (fun _ => False) rfl rfl ?aP (fun _ hk => hk.elim) ?aF ?aO ?aB ?aS ?aL ?_; (case aP => exact k53_mkM _ _ _ (⟨Int.tmod t329 (wrap64 (t324 + 1)), (⟨#[]⟩ : ByteArray), (⟨#[]⟩ : ByteArray)⟩ : S53)); (case aB => exact bB); (case aF => exact (fun k_ hk => ⟨Kd.fresh' (Kd.R_lt (rR HO_5.out)) k_ hk, Kd.fresh' (Kd.R_lt (rR HO_6.out)) k_ hk, Kd.fresh' (Kd.R_lt (rR HO_7.out)) k_ hk⟩)); (case aO => exact (by (with_reducible repeat (first | apply Kd.R_alloc | apply Kd.R_drewN | apply Kd.R_drew)); exact Kd.R_mono HO328.out (fun _ hk => ⟨hk.1.1.2, ⟨hk.1.2, hk.2⟩⟩))); (case aS => exact (below_size bB)); (case aL => have := LMc48.out; omega); intro v331 w49 ho hb hg hat; rw [← Ny330.out] at ho; have n0_ := aM (Kd.R_after (ok := (fun k_ => some k_ ≠ (.slice Ao10 t303.length co10 : Value).ownBlock ∧ some k_ ≠ (.slice Ao35 t308.length co35 : Value).ownBlock)) (rR HO_5.out) hg hat); have n1_ := aM (Kd.R_after (ok := (fun k_ => some k_ ≠ (.slice Ao9 t302.length co9 : Value).ownBlock ∧ some k_ ≠ (.slice Ao35 t308.length co35 : Value).ownBlock)) (rR HO_6.out) hg hat); have n2_ := aM (Kd.R_after (ok := (fun k_ => some k_ ≠ (.slice Ao9 t302.length co9 : Value).ownBlock ∧ some k_ ≠ (.slice Ao10 t303.length co10 : Value).ownBlock)) (rR HO_7.out) hg hat); have n3_ := aM (hb); have n4_ := aM (ho); clear HO_5; clear HO_6; clear HO_7; clear HB; clear HO328; have HO_5 := n0_; have HO_6 := n1_; have HO_7 := n2_; have HB := n3_; have HO332 := n4_; clear n0_ n1_ n2_ n3_ n4_; clear ho hb hg hat))
        go_meet
        case rel => exact ⟨_, (y330), H', ⟨by have := HJ6.out; have := HK2.out; have := HJ32.out; first | omega | exact Nat.le_refl _⟩, ⟨by (with_reducible repeat (first | apply Kd.R_alloc | apply Kd.R_drewN | apply Kd.R_drew)); exact Kd.R_mono HO_5.out (fun _ hk => ⟨hk.1.1, ⟨hk.1.2, hk.2⟩⟩)⟩, ⟨by (with_reducible repeat (first | apply Kd.R_alloc | apply Kd.R_drewN | apply Kd.R_drew)); exact Kd.R_mono HO_6.out (fun _ hk => ⟨hk.1.1, ⟨hk.1.2, hk.2⟩⟩)⟩, ⟨by (with_reducible repeat (first | apply Kd.R_alloc | apply Kd.R_drewN | apply Kd.R_drew)); exact Kd.R_mono HO_7.out (fun _ hk => ⟨hk.1.1, ⟨hk.1.2, hk.2⟩⟩)⟩, ⟨rR HO332.out⟩, ⟨bB⟩⟩
       case rest =>
        clear HC43
        try clear c1
        try clear c2
        try clear p2
        try clear c3
        try clear c3b0
        try clear p3
        try clear q3
        try clear hx3
        try clear c4
        try clear p6
        try clear c13
        try clear c13b0
        try clear c13b1
        try clear c13b2
        try clear c17
        try clear c18
        try clear c19
        try clear c19b0
        try clear c20
        try clear c20b0
        try clear c21
        try clear c21b0
        try clear c23
        try clear c24
        try clear c24b0
        try clear c25
        try clear c25b0
        try clear c25b1
        try clear c25b2
        try clear c26
        try clear c26b0
        try clear c26b1
        try clear c26b2
        try clear c28
        try clear c28b0
        try clear c28b1
        try clear c28b2
        try clear c29
        try clear c29b0
        try clear c29b1
        try clear c29b2
        try clear p31
        try clear q31
        try clear hx31
        try clear c33
        try clear c34
        try clear c37
        try clear c37b0
        try clear c37b1
        try clear c37b2
        try clear c38
        try clear c39
        try clear c42
        try clear c42b0
        try clear c42b1
        try clear c47
        try clear c47b0
        try clear c48
        try clear hcz23_0
        try clear hcz23_1
        try clear hcz23_2
        try clear hcz27_0
        try clear hcz27_1
        try clear hcz27_2
        try clear hcz30_0
        try clear hcz30_1
        try clear hcz30_2
        try clear hfz23_0
        try clear hfz23_1
        try clear hfz23_2
        try clear hfz27_0
        try clear hfz27_1
        try clear hfz27_2
        try clear hfz30_0
        try clear hfz30_1
        try clear hfz30_2
        try clear hx317_0
        try clear hx317_1
        try clear hx317_2
        try clear p2
        try clear p3
        try clear p31
        try clear p317
        try clear p6
        try clear q3
        try clear q31
        try clear q317
        obtain ⟨kq, x23_42, HA, HJ42, HO_5, HO_6, HO_7, HO_23, HB⟩ := hcut
        cases kq with
        | zero => exact absurd HA.out (by simp [lZ.j4])
        | succ kj42 =>
         have H := HA.out
         clear HA
         simp only [lZ.j4] at H
         by_cases c50 : x23_42.length < 3518437208883
         rotate_left
         ·rw [if_neg c50] at H
          exact absurd H (by simp)
         rw [if_pos c50] at H
         have LMc50 := aM c50
         clear c50
         obtain ⟨y333, hy333⟩ : ∃ y_ : List (S53), y_ = (x23_42 ++ [(⟨0, (⟨#[110, 101, 119]⟩ : ByteArray), (⟨#[]⟩ : ByteArray)⟩ : S53)]) := ⟨_, rfl⟩
         replace H : ((jK.f kj42 l1).bind fun t336 => (if (wrap64 (t324 + 1)) = 0 then (none) else (if (wrap64 (t324 - (Int.tmod t336 (wrap64 (t324 + 1))))) > 0 then (if y333.length < 3518437208883 then (lZ.j5 kj42 t302 t303 t308 (y333 ++ [(⟨wrap64 (t324 - (Int.tmod t336 (wrap64 (t324 + 1)))), (⟨#[]⟩ : ByteArray), (⟨#[]⟩ : ByteArray)⟩ : S53)])) else (none)) else (lZ.j5 kj42 t302 t303 t308 y333)))) = some r := by first | (rw [hy333]; with_reducible exact H) | (have H2_ := (Option.bind_some _ _).symm.trans H; rw [hy333]; with_reducible exact H2_) | (have H2_ := (Option.bind_some _ _).symm.trans H; with_reducible exact H2_) | with_reducible exact H | (rw [hy333]; exact H) | exact H
         have Ny333 := aM hy333
         clear hy333
         replace H := Option.bind_eq_some_iff.mp H
         obtain ⟨t336, A510, H⟩ := H
         replace H : (if (wrap64 (t324 + 1)) = 0 then (none) else (if (wrap64 (t324 - (Int.tmod t336 (wrap64 (t324 + 1))))) > 0 then (if y333.length < 3518437208883 then (lZ.j5 kj42 t302 t303 t308 (y333 ++ [(⟨wrap64 (t324 - (Int.tmod t336 (wrap64 (t324 + 1)))), (⟨#[]⟩ : ByteArray), (⟨#[]⟩ : ByteArray)⟩ : S53)])) else (none)) else (lZ.j5 kj42 t302 t303 t308 y333))) = some r := H
         have A51 := aM A510
         clear A510
         by_cases c52 : (wrap64 (t324 + 1)) = 0
         ·rw [if_pos c52] at H
          exact absurd H (by simp)
         rw [if_neg c52] at H
         have c52b0 : ((wrap64 (t324 + 1)) == 0) = false := beq_eq_false_iff_ne.mpr c52
         have c52b1 : ((wrap64 (t324 + 1)) != 0) = true := bne_iff_ne.mpr c52
         have HC53 := aM H
         clear H
         go_upto_if 148 with (first | ((with_reducible refine gate_builtin (b := .append) (xs := #[.tmp 136, .tmp 138]) rfl ?_); at_builtin; refine Kd.R_append k53 (w0 := w) w.heap.size rfl (.tmp 136) (.tmp 138) 22 53 (.agg #[(.int .i64 0), (.string ⟨#[]⟩), (.string ⟨#[]⟩)]) 40 rfl Try.underlying22 info53 rfl (by decide) (by omega) u23 x23_42 (⟨0, (⟨#[110, 101, 119]⟩ : ByteArray), (⟨#[]⟩ : ByteArray)⟩ : S53) [.int .i64 0, .string (⟨#[110, 101, 119]⟩ : ByteArray), .string (⟨#[]⟩ : ByteArray)] (fun k_ => some k_ ≠ (.slice Ao9 t302.length co9 : Value).ownBlock ∧ some k_ ≠ (.slice Ao10 t303.length co10 : Value).ownBlock ∧ some k_ ≠ (.slice Ao35 t308.length co35 : Value).ownBlock) (fun _ => False) rfl rfl ?aP (fun _ hk => hk.elim) ?aF ?aO ?aB ?aS ?aL ?_; (case aP => exact k53_mkM _ _ _ (⟨0, (⟨#[110, 101, 119]⟩ : ByteArray), (⟨#[]⟩ : ByteArray)⟩ : S53)); (case aB => exact bB); (case aF => exact (fun k_ hk => ⟨Kd.fresh' (Kd.R_lt (rR HO_5.out)) k_ hk, Kd.fresh' (Kd.R_lt (rR HO_6.out)) k_ hk, Kd.fresh' (Kd.R_lt (rR HO_7.out)) k_ hk⟩)); (case aO => exact (rR HO_23.out)); (case aS => exact (below_size bB)); (case aL => have := LMc50.out; omega); intro v334 w54 ho hb hg hat; rw [← Ny333.out] at ho; have n0_ := aM (Kd.R_after (ok := (fun k_ => some k_ ≠ (.slice Ao10 t303.length co10 : Value).ownBlock ∧ some k_ ≠ (.slice Ao35 t308.length co35 : Value).ownBlock)) (by (with_reducible repeat (first | apply Kd.R_alloc | apply Kd.R_drewN | apply Kd.R_drew)); exact Kd.R_mono HO_5.out (fun _ hk => ⟨⟨hk.1, hk.2.1⟩, hk.2.2⟩)) hg hat); have n1_ := aM (Kd.R_after (ok := (fun k_ => some k_ ≠ (.slice Ao9 t302.length co9 : Value).ownBlock ∧ some k_ ≠ (.slice Ao35 t308.length co35 : Value).ownBlock)) (by (with_reducible repeat (first | apply Kd.R_alloc | apply Kd.R_drewN | apply Kd.R_drew)); exact Kd.R_mono HO_6.out (fun _ hk => ⟨⟨hk.1, hk.2.1⟩, hk.2.2⟩)) hg hat); have n2_ := aM (Kd.R_after (ok := (fun k_ => some k_ ≠ (.slice Ao9 t302.length co9 : Value).ownBlock ∧ some k_ ≠ (.slice Ao10 t303.length co10 : Value).ownBlock)) (by (with_reducible repeat (first | apply Kd.R_alloc | apply Kd.R_drewN | apply Kd.R_drew)); exact Kd.R_mono HO_7.out (fun _ hk => ⟨⟨hk.1, hk.2.1⟩, hk.2.2⟩)) hg hat); have n3_ := aM (hb); have n4_ := aM (ho); clear HO_5; clear HO_6; clear HO_7; clear HB; clear HO_23; have HO_5 := n0_; have HO_6 := n1_; have HO_7 := n2_; have HB := n3_; have HO335 := n4_; clear n0_ n1_ n2_ n3_ n4_; clear ho hb hg hat) | ((with_reducible refine gate_callee (f := 39) rfl ?_); refine goesL_ (some 142) rfl rfl Try.func39 (by kernel_rfl) rfl #[.slice A1 l1.length c1] rfl mM ?_; (with_reducible refine (jK.calls kj42 _ _ l1 t336 _ ?side1 ?side2 A51.out).mono ?_); (case side1 => exact cC (Kd.C_below HR1.out HB.out)); (case side2 => exact HC1.out); rintro e w' ⟨rfl, ⟨nd, rfl⟩⟩; refine ⟨_, rfl, ?_⟩))
         (try simp only [Act.put, List.setIfInBounds_toArray, List.set_cons_zero, List.set_cons_succ])
         go_cut [23] (fun v23 wc => ∃ (kq : Nat) (x23_52 : List (S53)), Aside0 (lZ.j5 kq t302 t303 t308 x23_52 = some r) ∧ Aside0 (kq ≤ kj42) ∧ Aside0 (Kd.R k53 53 wc w.heap.size (fun k_ => some k_ ≠ ((.slice Ao10 t303.length co10) : Value).ownBlock ∧ some k_ ≠ ((.slice Ao35 t308.length co35) : Value).ownBlock ∧ some k_ ≠ (v23 : Value).ownBlock) (.slice Ao9 t302.length co9) t302) ∧ Aside0 (Kd.R k53 53 wc w.heap.size (fun k_ => some k_ ≠ ((.slice Ao9 t302.length co9) : Value).ownBlock ∧ some k_ ≠ ((.slice Ao35 t308.length co35) : Value).ownBlock ∧ some k_ ≠ (v23 : Value).ownBlock) (.slice Ao10 t303.length co10) t303) ∧ Aside0 (Kd.R k53 53 wc w.heap.size (fun k_ => some k_ ≠ ((.slice Ao9 t302.length co9) : Value).ownBlock ∧ some k_ ≠ ((.slice Ao10 t303.length co10) : Value).ownBlock ∧ some k_ ≠ (v23 : Value).ownBlock) (.slice Ao35 t308.length co35) t308) ∧ Aside0 (Kd.R k53 53 wc w.heap.size (fun k_ => some k_ ≠ ((.slice Ao9 t302.length co9) : Value).ownBlock ∧ some k_ ≠ ((.slice Ao10 t303.length co10) : Value).ownBlock ∧ some k_ ≠ ((.slice Ao35 t308.length co35) : Value).ownBlock) v23 x23_52) ∧ Aside0 (Below w.heap.size w wc))
         case first =>
          have H := HC53.out
          clear HC53
          by_cases c55 : (wrap64 (t324 - (Int.tmod t336 (wrap64 (t324 + 1))))) > 0
          rotate_left
          ·rw [if_neg c55] at H
           have c55b0 : decide (0 < (wrap64 (t324 - (Int.tmod t336 (wrap64 (t324 + 1)))))) = false := decide_eq_false c55
           clear c55
           (first | rw [c55b0] | (simp only [i64_w, i32_w]; rw [c55b0]) | rw [c55e] | skip)
           have H' := aM H
           clear H
           go_wp2
           go_meet
           case rel => exact ⟨_, (y333), H', ⟨by have := HJ6.out; have := HK2.out; have := HJ32.out; have := HJ42.out; first | omega | exact Nat.le_refl _⟩, ⟨by (with_reducible repeat (first | apply Kd.R_alloc | apply Kd.R_drewN | apply Kd.R_drew)); exact Kd.R_mono HO_5.out (fun _ hk => ⟨hk.1.1, ⟨hk.1.2, hk.2⟩⟩)⟩, ⟨by (with_reducible repeat (first | apply Kd.R_alloc | apply Kd.R_drewN | apply Kd.R_drew)); exact Kd.R_mono HO_6.out (fun _ hk => ⟨hk.1.1, ⟨hk.1.2, hk.2⟩⟩)⟩, ⟨by (with_reducible repeat (first | apply Kd.R_alloc | apply Kd.R_drewN | apply Kd.R_drew)); exact Kd.R_mono HO_7.out (fun _ hk => ⟨hk.1.1, ⟨hk.1.2, hk.2⟩⟩)⟩, ⟨rR HO335.out⟩, ⟨bB⟩⟩
          rw [if_pos c55] at H
          have c55b0 : decide (0 < (wrap64 (t324 - (Int.tmod t336 (wrap64 (t324 + 1)))))) = true := decide_eq_true c55
          clear c55
          (first | rw [c55b0] | (simp only [i64_w, i32_w]; rw [c55b0]) | rw [c55e] | skip)
          by_cases c56 : y333.length < 3518437208883
          rotate_left
          ·rw [if_neg c56] at H
           exact absurd H (by simp)
          rw [if_pos c56] at H
          have LMc56 := aM c56
          clear c56
          obtain ⟨y337, hy337⟩ : ∃ y_ : List (S53), y_ = (y333 ++ [(⟨wrap64 (t324 - (Int.tmod t336 (wrap64 (t324 + 1)))), (⟨#[]⟩ : ByteArray), (⟨#[]⟩ : ByteArray)⟩ : S53)]) := ⟨_, rfl⟩
          replace H : (lZ.j5 kj42 t302 t303 t308 y337) = some r := by first | (rw [hy337]; with_reducible exact H) | (have H2_ := (Option.bind_some _ _).symm.trans H; rw [hy337]; with_reducible exact H2_) | (have H2_ := (Option.bind_some _ _).symm.trans H; with_reducible exact H2_) | with_reducible exact H | (rw [hy337]; exact H) | exact H
          have Ny337 := aM hy337
          clear hy337
          have H' := aM H
          clear H
          go_wp2_with (first | ((with_reducible refine gate_builtin (b := .append) (xs := #[.tmp 149, .tmp 152]) rfl ?_); at_builtin; refine Kd.R_append k53 (w0 := w) w.heap.size rfl (.tmp 149) (.tmp 152) 22 53 (.agg #[(.int .i64 0), (.string ⟨#[]⟩), (.string ⟨#[]⟩)]) 40 rfl Try.underlying22 info53 rfl (by decide) (by omega) v334 y333 (⟨wrap64 (t324 - (Int.tmod t336 (wrap64 (t324 + 1)))), (⟨#[]⟩ : ByteArray), (⟨#[]⟩ : ByteArray)⟩ : S53) [.int .i64 (wrap64 (t324 - (Int.tmod t336 (wrap64 (t324 + 1))))), .string (⟨#[]⟩ : ByteArray), .string (⟨#[]⟩ : ByteArray)] (fun k_ => some k_ ≠ (.slice Ao9 t302.length co9 : Value).ownBlock ∧ some k_ ≠ (.slice Ao10 t303.length co10 : Value).ownBlock ∧ some k_ ≠ (.slice Ao35 t308.length co35 : Value).ownBlock) (fun _ => False) rfl rfl ?aP (fun _ hk => hk.elim) ?aF ?aO ?aB ?aS ?aL ?_; (case aP => exact k53_mkM _ _ _ (⟨wrap64 (t324 - (Int.tmod t336 (wrap64 (t324 + 1)))), (⟨#[]⟩ : ByteArray), (⟨#[]⟩ : ByteArray)⟩ : S53)); (case aB => exact bB); (case aF => exact (fun k_ hk => ⟨Kd.fresh' (Kd.R_lt (rR HO_5.out)) k_ hk, Kd.fresh' (Kd.R_lt (rR HO_6.out)) k_ hk, Kd.fresh' (Kd.R_lt (rR HO_7.out)) k_ hk⟩)); (case aO => exact (rR HO335.out)); (case aS => exact (below_size bB)); (case aL => have := LMc56.out; omega); intro v338 w57 ho hb hg hat; rw [← Ny337.out] at ho; have n0_ := aM (Kd.R_after (ok := (fun k_ => some k_ ≠ (.slice Ao10 t303.length co10 : Value).ownBlock ∧ some k_ ≠ (.slice Ao35 t308.length co35 : Value).ownBlock)) (rR HO_5.out) hg hat); have n1_ := aM (Kd.R_after (ok := (fun k_ => some k_ ≠ (.slice Ao9 t302.length co9 : Value).ownBlock ∧ some k_ ≠ (.slice Ao35 t308.length co35 : Value).ownBlock)) (rR HO_6.out) hg hat); have n2_ := aM (Kd.R_after (ok := (fun k_ => some k_ ≠ (.slice Ao9 t302.length co9 : Value).ownBlock ∧ some k_ ≠ (.slice Ao10 t303.length co10 : Value).ownBlock)) (rR HO_7.out) hg hat); have n3_ := aM (hb); have n4_ := aM (ho); clear HO_5; clear HO_6; clear HO_7; clear HB; clear HO335; have HO_5 := n0_; have HO_6 := n1_; have HO_7 := n2_; have HB := n3_; have HO339 := n4_; clear n0_ n1_ n2_ n3_ n4_; clear ho hb hg hat))
          go_meet
          case rel => exact ⟨_, (y337), H', ⟨by have := HJ6.out; have := HK2.out; have := HJ32.out; have := HJ42.out; first | omega | exact Nat.le_refl _⟩, ⟨by (with_reducible repeat (first | apply Kd.R_alloc | apply Kd.R_drewN | apply Kd.R_drew)); exact Kd.R_mono HO_5.out (fun _ hk => ⟨hk.1.1, ⟨hk.1.2, hk.2⟩⟩)⟩, ⟨by (with_reducible repeat (first | apply Kd.R_alloc | apply Kd.R_drewN | apply Kd.R_drew)); exact Kd.R_mono HO_6.out (fun _ hk => ⟨hk.1.1, ⟨hk.1.2, hk.2⟩⟩)⟩, ⟨by (with_reducible repeat (first | apply Kd.R_alloc | apply Kd.R_drewN | apply Kd.R_drew)); exact Kd.R_mono HO_7.out (fun _ hk => ⟨hk.1.1, ⟨hk.1.2, hk.2⟩⟩)⟩, ⟨rR HO339.out⟩, ⟨bB⟩⟩
         case rest =>
          clear HC53
          try clear c1
          try clear c2
          try clear p2
          try clear c3
          try clear c3b0
          try clear p3
          try clear q3
          try clear hx3
          try clear c4
          try clear c5
          try clear p6
          try clear c13
          try clear c13b0
          try clear c13b1
          try clear c13b2
          try clear c17
          try clear c18
          try clear c19
          try clear c19b0
          try clear c20
          try clear c20b0
          try clear c21
          try clear c21b0
          try clear c23
          try clear c24
          try clear c24b0
          try clear c25
          try clear c25b0
          try clear c25b1
          try clear c25b2
          try clear c26
          try clear c26b0
          try clear c26b1
          try clear c26b2
          try clear c28
          try clear c28b0
          try clear c28b1
          try clear c28b2
          try clear c29
          try clear c29b0
          try clear c29b1
          try clear c29b2
          try clear p31
          try clear q31
          try clear hx31
          try clear c33
          try clear c34
          try clear c37
          try clear c37b0
          try clear c37b1
          try clear c37b2
          try clear c38
          try clear c39
          try clear c42
          try clear c42b0
          try clear c42b1
          try clear c47
          try clear c47b0
          try clear c48
          try clear c50
          try clear c52
          try clear c52b0
          try clear c52b1
          try clear c55
          try clear c55b0
          try clear c56
          try clear hcz23_0
          try clear hcz23_1
          try clear hcz23_2
          try clear hcz27_0
          try clear hcz27_1
          try clear hcz27_2
          try clear hcz30_0
          try clear hcz30_1
          try clear hcz30_2
          try clear hfz23_0
          try clear hfz23_1
          try clear hfz23_2
          try clear hfz27_0
          try clear hfz27_1
          try clear hfz27_2
          try clear hfz30_0
          try clear hfz30_1
          try clear hfz30_2
          try clear hx317_0
          try clear hx317_1
          try clear hx317_2
          try clear p2
          try clear p3
          try clear p31
          try clear p317
          try clear p6
          try clear q3
          try clear q31
          try clear q317
          obtain ⟨kq, x23_52, HA, HJ52, HO_5, HO_6, HO_7, HO_23, HB⟩ := hcut
          cases kq with
          | zero => exact absurd HA.out (by simp [lZ.j5])
          | succ kj52 =>
           have H := HA.out
           clear HA
           simp only [lZ.j5] at H
           replace H := Option.bind_eq_some_iff.mp H
           obtain ⟨⟨t340, t341⟩, A580, H⟩ := H
           replace H : ((jN.f kj52 t308 x23_52).bind fun bt344 => (if t341 = true then (lZ.j6 kj52 t302 t340 bt344.1 (!bt344.2)) else (lZ.j6 kj52 t302 t340 bt344.1 true))) = some r := H
           have A58 := aM A580
           clear A580
           replace H := Option.bind_eq_some_iff.mp H
           obtain ⟨⟨t344, t345⟩, A590, H⟩ := H
           replace H : (if t341 = true then (lZ.j6 kj52 t302 t340 t344 (!t345)) else (lZ.j6 kj52 t302 t340 t344 true)) = some r := H
           have A59 := aM A590
           clear A590
           have HC60 := aM H
           clear H
           obtain ⟨Ao61, co61, eo61⟩ := Kd.R_slice HO_23.out
           subst eo61
           go_upto_region 38 with (first | ((with_reducible refine gate_callee (f := 34) rfl ?_); refine goesL_ (some 157) rfl rfl Try.func34 (by kernel_rfl) rfl #[.slice Ao10 t303.length co10, .slice Ao61 x23_52.length co61] rfl mM ?_; (with_reducible refine (jN.calls kj52 _ _ t303 _ _ x23_52 t340 t341 _ ?side1 ?side2 ?side3 ?side4 A58.out).mono ?_); (case side1 => exact cC ((Kd.R_reads' HO_6.out).2.2)); (case side2 => exact (Kd.R_reads' HO_6.out).2.1); (case side3 => exact cC ((Kd.R_reads' HO_23.out).2.2)); (case side4 => exact (Kd.R_reads' HO_23.out).2.1); rintro e w62 ⟨v342, rfl, ho0, hb⟩; refine ⟨_, rfl, ?_⟩; have n0_ := aM (Kd.R_elder' (rR HO_5.out) (Kd.R_base ho0) hb); have n1_ := aM (Kd.R_elder' (rR HO_6.out) (Kd.R_base ho0) hb); have n2_ := aM (Kd.R_elder' (rR HO_7.out) (Kd.R_base ho0) hb); have n3_ := aM (Kd.R_elder' (rR HO_23.out) (Kd.R_base ho0) hb); have n4_ := aM (Kd.R_lower (Kd.R_new' (Kd.R_new' (Kd.R_new' (Kd.R_new' ho0 (Kd.R_lt (rR HO_5.out))) (Kd.R_lt (rR HO_6.out))) (Kd.R_lt (rR HO_7.out))) (Kd.R_lt (rR HO_23.out))) (below_size bB)); have n5_ := aM (below_step bB hb); clear HO_5; clear HO_6; clear HO_7; clear HO_23; clear HB; have HO_5 := n0_; have HO_6 := n1_; have HO_7 := n2_; have HO_23 := n3_; have HO343 := n4_; have HB := n5_; clear n0_ n1_ n2_ n3_ n4_ n5_; (try clear hb); (try clear hb2); (try clear hk); (try clear hi); (try clear ho0)) | ((with_reducible refine gate_callee (f := 34) rfl ?_); refine goesL_ (some 163) rfl rfl Try.func34 (by kernel_rfl) rfl #[.slice Ao35 t308.length co35, .slice Ao61 x23_52.length co61] rfl mM ?_; (with_reducible refine (jN.calls kj52 _ _ t308 _ _ x23_52 t344 t345 _ ?side1 ?side2 ?side3 ?side4 A59.out).mono ?_); (case side1 => exact cC ((Kd.R_reads' HO_7.out).2.2)); (case side2 => exact (Kd.R_reads' HO_7.out).2.1); (case side3 => exact cC ((Kd.R_reads' HO_23.out).2.2)); (case side4 => exact (Kd.R_reads' HO_23.out).2.1); rintro e w63 ⟨v346, rfl, ho0, hb⟩; refine ⟨_, rfl, ?_⟩; have n0_ := aM (Kd.R_elder' (rR HO_5.out) (Kd.R_base ho0) hb); have n1_ := aM (Kd.R_elder' (rR HO_6.out) (Kd.R_base ho0) hb); have n2_ := aM (Kd.R_elder' (rR HO_7.out) (Kd.R_base ho0) hb); have n3_ := aM (Kd.R_elder' (rR HO_23.out) (Kd.R_base ho0) hb); have n4_ := aM (Kd.R_elder' (rR HO343.out) (Kd.R_base ho0) hb); have n5_ := aM (Kd.R_lower (Kd.R_new' (Kd.R_new' (Kd.R_new' (Kd.R_new' (Kd.R_new' ho0 (Kd.R_lt (rR HO_5.out))) (Kd.R_lt (rR HO_6.out))) (Kd.R_lt (rR HO_7.out))) (Kd.R_lt (rR HO_23.out))) (Kd.R_lt (rR HO343.out))) (below_size bB)); have n6_ := aM (below_step bB hb); clear HO_5; clear HO_6; clear HO_7; clear HO_23; clear HO343; clear HB; have HO_5 := n0_; have HO_6 := n1_; have HO_7 := n2_; have HO_23 := n3_; have HO343 := n4_; have HO347 := n5_; have HB := n6_; clear n0_ n1_ n2_ n3_ n4_ n5_ n6_; (try clear hb); (try clear hb2); (try clear hk); (try clear hi); (try clear ho0)))
           (try simp only [Act.put, List.setIfInBounds_toArray, List.set_cons_zero, List.set_cons_succ])
           go_cut [171] (fun v171 wc => ∃ (kq : Nat) (x171_59 : Bool), v171 = .bool x171_59 ∧ Aside0 (lZ.j6 kq t302 t340 t344 x171_59 = some r) ∧ Aside0 (kq ≤ kj52) ∧ Aside0 (Kd.R k53 53 wc w.heap.size (fun k_ => some k_ ≠ (v342 : Value).ownBlock ∧ some k_ ≠ (v346 : Value).ownBlock) (.slice Ao9 t302.length co9) t302) ∧ Aside0 (Kd.R k53 53 wc w.heap.size (fun k_ => some k_ ≠ ((.slice Ao9 t302.length co9) : Value).ownBlock ∧ some k_ ≠ (v346 : Value).ownBlock) v342 t340) ∧ Aside0 (Kd.R k53 53 wc w.heap.size (fun k_ => some k_ ≠ ((.slice Ao9 t302.length co9) : Value).ownBlock ∧ some k_ ≠ (v342 : Value).ownBlock) v346 t344) ∧ Aside0 (Below w.heap.size w wc))
           case first =>
            have H := HC60.out
            clear HC60
            by_cases c64 : t341 = true
            ·subst c64
             have H1 : (lZ.j6 kj52 t302 t340 t344 (!t345)) = some r := by rw [if_pos rfl] at H; exact H
             clear H
             have H := H1
             clear H1
             have H' := aM H
             clear H
             go_wp2
             go_meet
             case rel => exact ⟨_, (!t345), aP16, H', ⟨by have := HJ6.out; have := HK2.out; have := HJ32.out; have := HJ42.out; have := HJ52.out; first | omega | exact Nat.le_refl _⟩, ⟨by (with_reducible repeat (first | apply Kd.R_alloc | apply Kd.R_drewN | apply Kd.R_drew)); exact Kd.R_mono HO_5.out (fun _ hk => ⟨hk.1.2, hk.2⟩)⟩, ⟨by (with_reducible repeat (first | apply Kd.R_alloc | apply Kd.R_drewN | apply Kd.R_drew)); exact Kd.R_mono HO343.out (fun _ hk => ⟨hk.1.1.1.1.2, hk.2⟩)⟩, ⟨by (with_reducible repeat (first | apply Kd.R_alloc | apply Kd.R_drewN | apply Kd.R_drew)); exact Kd.R_mono HO347.out (fun _ hk => ⟨hk.1.1.1.1.2, hk.2⟩)⟩, ⟨bB⟩⟩
            replace c64 := Bool.eq_false_iff.mpr c64
            subst c64
            have H1 : (lZ.j6 kj52 t302 t340 t344 true) = some r := by rw [if_neg (show ¬ (false = true) by decide)] at H; exact H
            clear H
            have H := H1
            clear H1
            have H' := aM H
            clear H
            go_wp2
            go_meet
            case rel => exact ⟨_, (true), aP16, H', ⟨by have := HJ6.out; have := HK2.out; have := HJ32.out; have := HJ42.out; have := HJ52.out; first | omega | exact Nat.le_refl _⟩, ⟨by (with_reducible repeat (first | apply Kd.R_alloc | apply Kd.R_drewN | apply Kd.R_drew)); exact Kd.R_mono HO_5.out (fun _ hk => ⟨hk.1.2, hk.2⟩)⟩, ⟨by (with_reducible repeat (first | apply Kd.R_alloc | apply Kd.R_drewN | apply Kd.R_drew)); exact Kd.R_mono HO343.out (fun _ hk => ⟨hk.1.1.1.1.2, hk.2⟩)⟩, ⟨by (with_reducible repeat (first | apply Kd.R_alloc | apply Kd.R_drewN | apply Kd.R_drew)); exact Kd.R_mono HO347.out (fun _ hk => ⟨hk.1.1.1.1.2, hk.2⟩)⟩, ⟨bB⟩⟩
           case rest =>
            clear HC60
            try clear c1
            try clear c2
            try clear p2
            try clear c3
            try clear c3b0
            try clear p3
            try clear q3
            try clear hx3
            try clear c4
            try clear c5
            try clear c6
            try clear p6
            try clear c13
            try clear c13b0
            try clear c13b1
            try clear c13b2
            try clear c17
            try clear c18
            try clear c19
            try clear c19b0
            try clear c20
            try clear c20b0
            try clear c21
            try clear c21b0
            try clear c23
            try clear c24
            try clear c24b0
            try clear c25
            try clear c25b0
            try clear c25b1
            try clear c25b2
            try clear c26
            try clear c26b0
            try clear c26b1
            try clear c26b2
            try clear c28
            try clear c28b0
            try clear c28b1
            try clear c28b2
            try clear c29
            try clear c29b0
            try clear c29b1
            try clear c29b2
            try clear p31
            try clear q31
            try clear hx31
            try clear c33
            try clear c34
            try clear c37
            try clear c37b0
            try clear c37b1
            try clear c37b2
            try clear c38
            try clear c39
            try clear c42
            try clear c42b0
            try clear c42b1
            try clear c47
            try clear c47b0
            try clear c48
            try clear c50
            try clear c52
            try clear c52b0
            try clear c52b1
            try clear c55
            try clear c55b0
            try clear c56
            try clear c64
            try clear p64
            try clear hcz23_0
            try clear hcz23_1
            try clear hcz23_2
            try clear hcz27_0
            try clear hcz27_1
            try clear hcz27_2
            try clear hcz30_0
            try clear hcz30_1
            try clear hcz30_2
            try clear hfz23_0
            try clear hfz23_1
            try clear hfz23_2
            try clear hfz27_0
            try clear hfz27_1
            try clear hfz27_2
            try clear hfz30_0
            try clear hfz30_1
            try clear hfz30_2
            try clear hx317_0
            try clear hx317_1
            try clear hx317_2
            try clear p2
            try clear p3
            try clear p31
            try clear p317
            try clear p6
            try clear q3
            try clear q31
            try clear q317
            obtain ⟨kq, x171_59, rfl, HA, HJ59, HO_5, HO_26, HO_28, HB⟩ := hcut
            cases kq with
            | zero => exact absurd HA.out (by simp [lZ.j6])
            | succ kj59 =>
             have H := HA.out
             clear HA
             simp only [lZ.j6] at H
             by_cases c65 : x171_59 = true
             ·subst c65
              have H1 : (some true) = some r := by rw [if_pos rfl] at H; exact H
              clear H
              have H := H1
              clear H1
              obtain rfl := Option.some.inj H
              go_wp2
              go_ret
              exact ⟨by first | rfl | (simp [errW_none, errW_some] <;> rfl) | (simp [errW_none, errW_some]; exact isE _) | (simp [*, errW_none, errW_some] <;> rfl), bB⟩
             replace c65 := Bool.eq_false_iff.mpr c65
             subst c65
             have H1 : ((jN.f kj59 t302 t340).bind fun bt348 => (if bt348.2 = true then ((jL.f kj59 t344 bt348.1).bind fun t352 => (some t352)) else (some true))) = some r := by rw [if_neg (show ¬ (false = true) by decide)] at H; exact H
             clear H
             have H := H1
             clear H1
             replace H := Option.bind_eq_some_iff.mp H
             obtain ⟨⟨t348, t349⟩, A660, H⟩ := H
             replace H : (if t349 = true then ((jL.f kj59 t344 t348).bind fun t352 => (some t352)) else (some true)) = some r := H
             have A66 := aM A660
             clear A660
             by_cases c67 : t349 = true
             rotate_left
             ·replace c67 := Bool.eq_false_iff.mpr c67
              subst c67
              have H1 : (some true) = some r := by rw [if_neg (show ¬ (false = true) by decide)] at H; exact H
              clear H
              have H := H1
              clear H1
              obtain rfl := Option.some.inj H
              obtain ⟨Ao73, co73, eo73⟩ := Kd.R_slice HO_26.out
              subst eo73
              go_wp2_with (first | ((with_reducible refine gate_callee (f := 34) rfl ?_); refine goesL_ (some 175) rfl rfl Try.func34 (by kernel_rfl) rfl #[.slice Ao9 t302.length co9, .slice Ao73 t340.length co73] rfl mM ?_; (with_reducible refine (jN.calls kj59 _ _ t302 _ _ t340 t348 false _ ?side1 ?side2 ?side3 ?side4 A66.out).mono ?_); (case side1 => exact cC ((Kd.R_reads' HO_5.out).2.2)); (case side2 => exact (Kd.R_reads' HO_5.out).2.1); (case side3 => exact cC ((Kd.R_reads' HO_26.out).2.2)); (case side4 => exact (Kd.R_reads' HO_26.out).2.1); rintro e w74 ⟨v350, rfl, ho0, hb⟩; refine ⟨_, rfl, ?_⟩; have n0_ := aM (Kd.R_elder' (rR HO_5.out) (Kd.R_base ho0) hb); have n1_ := aM (Kd.R_elder' (rR HO_26.out) (Kd.R_base ho0) hb); have n2_ := aM (Kd.R_elder' (rR HO_28.out) (Kd.R_base ho0) hb); have n3_ := aM (Kd.R_lower (Kd.R_new' (Kd.R_new' (Kd.R_new' ho0 (Kd.R_lt (rR HO_5.out))) (Kd.R_lt (rR HO_26.out))) (Kd.R_lt (rR HO_28.out))) (below_size bB)); have n4_ := aM (below_step bB hb); clear HO_5; clear HO_26; clear HO_28; clear HB; have HO_5 := n0_; have HO_26 := n1_; have HO_28 := n2_; have HO351 := n3_; have HB := n4_; clear n0_ n1_ n2_ n3_ n4_; (try clear hb); (try clear hb2); (try clear hk); (try clear hi); (try clear ho0)))
              go_ret
              exact ⟨by first | rfl | (simp [errW_none, errW_some] <;> rfl) | (simp [errW_none, errW_some]; exact isE _) | (simp [*, errW_none, errW_some] <;> rfl), bB⟩
             subst c67
             have H1 : ((jL.f kj59 t344 t348).bind fun t352 => (some t352)) = some r := by rw [if_pos rfl] at H; exact H
             clear H
             have H := H1
             clear H1
             replace H := Option.bind_eq_some_iff.mp H
             obtain ⟨t352, A680, H⟩ := H
             replace H : (some t352) = some r := H
             have A68 := aM A680
             clear A680
             obtain rfl := Option.some.inj H
             obtain ⟨Ao69, co69, eo69⟩ := Kd.R_slice HO_26.out
             subst eo69
             go_wp2_with (first | ((with_reducible refine gate_callee (f := 34) rfl ?_); refine goesL_ (some 175) rfl rfl Try.func34 (by kernel_rfl) rfl #[.slice Ao9 t302.length co9, .slice Ao69 t340.length co69] rfl mM ?_; (with_reducible refine (jN.calls kj59 _ _ t302 _ _ t340 t348 true _ ?side1 ?side2 ?side3 ?side4 A66.out).mono ?_); (case side1 => exact cC ((Kd.R_reads' HO_5.out).2.2)); (case side2 => exact (Kd.R_reads' HO_5.out).2.1); (case side3 => exact cC ((Kd.R_reads' HO_26.out).2.2)); (case side4 => exact (Kd.R_reads' HO_26.out).2.1); rintro e w70 ⟨v350, rfl, ho0, hb⟩; refine ⟨_, rfl, ?_⟩; have n0_ := aM (Kd.R_elder' (rR HO_5.out) (Kd.R_base ho0) hb); have n1_ := aM (Kd.R_elder' (rR HO_26.out) (Kd.R_base ho0) hb); have n2_ := aM (Kd.R_elder' (rR HO_28.out) (Kd.R_base ho0) hb); have n3_ := aM (Kd.R_lower (Kd.R_new' (Kd.R_new' (Kd.R_new' ho0 (Kd.R_lt (rR HO_5.out))) (Kd.R_lt (rR HO_26.out))) (Kd.R_lt (rR HO_28.out))) (below_size bB)); have n4_ := aM (below_step bB hb); clear HO_5; clear HO_26; clear HO_28; clear HB; have HO_5 := n0_; have HO_26 := n1_; have HO_28 := n2_; have HO351 := n3_; have HB := n4_; clear n0_ n1_ n2_ n3_ n4_; (try clear hb); (try clear hb2); (try clear hk); (try clear hi); (try clear ho0); obtain ⟨Ao71, co71, eo71⟩ := Kd.R_slice HO_28.out; subst eo71; obtain ⟨Ao72, co72, eo72⟩ := Kd.R_slice HO351.out; subst eo72) | (go_at_call 36; (with_reducible refine (jL.calls kj59 _ _ t344 _ _ t348 t352 _ ?side1 ?side2 ?side3 ?side4 A68.out).mono ?_); (case side1 => exact cC ((Kd.R_reads' HO_28.out).2.2)); (case side2 => exact (Kd.R_reads' HO_28.out).2.1); (case side3 => exact cC ((Kd.R_reads' HO351.out).2.2)); (case side4 => exact (Kd.R_reads' HO351.out).2.1); rintro e w' ⟨rfl, ⟨nd, rfl⟩⟩))
             go_ret
             exact ⟨by first | rfl | (simp [errW_none, errW_some] <;> rfl) | (simp [errW_none, errW_some]; exact isE _) | (simp [*, errW_none, errW_some] <;> rfl), bB⟩
def lZ.Pure : Prop := ∀ (l0 : List Int) (l1 : List Int), l0.length ≤ maxLen → l0.length * 1 ≤ 140737488351232 → (∀ x ∈ l0, (Lit.int .u8 x).wf = true) → l1.length ≤ maxLen → l1.length * 1 ≤ 140737488351232 → (∀ x ∈ l1, (Lit.int .u8 x).wf = true) → ∃ k, lZ.f k l0 l1 = some true
theorem lZ.walk (P : lZ.Pure) (a0 : Option Addr) (len0 cap0 : Nat) (z0 : List Int) (a1 : Option Addr) (len1 cap1 : Nat) (z1 : List Int) (w : World) (w0 : (a0 = none ∧ len0 = 0 ∧ cap0 = 0 ∧ z0 = []) ∨ ∃ x, a0 = some x ∧ len0 ≤ cap0 ∧ cap0 ≤ maxLen ∧ z0.length = cap0 ∧ (∀ i, i < z0.length → w.cell? (x.add i) = some (.int .u8 (z0.getD i 0))) ∧ ∀ n ∈ z0, (Lit.int .u8 n).wf = true) (y0 : len0 * 1 ≤ 140737488351232) (w1 : (a1 = none ∧ len1 = 0 ∧ cap1 = 0 ∧ z1 = []) ∨ ∃ x, a1 = some x ∧ len1 ≤ cap1 ∧ cap1 ≤ maxLen ∧ z1.length = cap1 ∧ (∀ i, i < z1.length → w.cell? (x.add i) = some (.int .u8 (z1.getD i 0))) ∧ ∀ n ∈ z1, (Lit.int .u8 n).wf = true) (y1 : len1 * 1 ≤ 140737488351232) :
  Calls Try.prog 13 #[.slice a0 len0 cap0, .slice a1 len1 cap1] w fun e w' => e = .returned (.bool true) ∧ Below w.heap.size w w' := by
 obtain ⟨l0, rfl, hr0, hm0, hw0, hc0⟩ := ReadsInt.ofRowC w0
 obtain ⟨l1, rfl, hr1, hm1, hw1, hc1⟩ := ReadsInt.ofRowC w1
 obtain ⟨k, h⟩ := P l0 l1 hm0 y0 hw0 hm1 y1 hw1
 refine (lZ.calls k _ _ l0 _ _ l1 true rfl w (Kd.C_of_reads (d := (0 : Int)) (h1 := fun _ => rfl) hr0) hc0 (Kd.C_of_reads (d := (0 : Int)) (h1 := fun _ => rfl) hr1) hc1 h).mono ?_
 rintro e w' ⟨rfl, hd⟩
 exact ⟨rfl, hd⟩
end Go.Proofs.Ytlelpomnblaciaa.PFnComposed
