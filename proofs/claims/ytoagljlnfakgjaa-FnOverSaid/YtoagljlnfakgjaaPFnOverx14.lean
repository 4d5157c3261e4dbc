/- (thin) Written by a program of this session (wip/ovl.py) over the kit's print: plain functions with the answers of the Go functions, and the proofs that they are; no condition. -/
import Derived.Test.YtoagljlnfakgjaaPFnOverx0
import Derived.Test.YtoagljlnfakgjaaPFnOverx6
import Derived.Test.YtoagljlnfakgjaaPFnOverx11
import Derived.Test.YtoagljlnfakgjaaPFnOverx12
import Derived.Test.YtoagljlnfakgjaaPFnOverx13
namespace Go.Proofs.Ytoagljlnfakgjaa.PFnOver
open Go.RowKit Go.Proofs.YtoagljlnfakgjaaW.PrintWords Go.Proofs.YtoagljlnfakgjaaW.PrintLast Go.Proofs.YtoagljlnfakgjaaW.PrintMore
attribute [local go_sem] max2_int min2_int max_two min_two max_three min_three max_four min_four   -- for this text's walks alone
set_option linter.unusedVariables false
set_option linter.unusedSimpArgs false
mutual
def spec_l1Cur_spoilt.l0 : Nat → ByteArray → ByteArray → Int → List Int → Int → Int → Option (ByteArray × Int × Int)
 | 0, _, _, _, _, _, _ => none
 | k + 1, x1, x2, x7, x1000, x1001, x1002 => if x7 > 0 then (spec_l1Cur_spoilt.j1 k x1 x2 x7 (decide ((x1.size : Int) > 0)) x1000 x1001 x1002) else (spec_l1Cur_spoilt.j1 k x1 x2 x7 false x1000 x1001 x1002)
def spec_l1Cur_spoilt.j1 : Nat → ByteArray → ByteArray → Int → Bool → List Int → Int → Int → Option (ByteArray × Int × Int)
 | 0, _, _, _, _, _, _, _ => none
 | k + 1, x1, x2, x7, x18, x1000, x1001, x1002 => if x18 = true then ((spec_l1Cur_pick.f x1000 x1001 x1002 (x1.size : Int)).bind fun bt273 => ((spec_l1Cur_pick.f x1000 bt273.2.1 bt273.2.2 (x2.size : Int)).bind fun bt276 => (if 0 ≤ bt276.1 then (if bt276.1 < (x2.size : Int) then ((some (([bt x2 bt276.1] : List Int) : List Int)).bind fun y279 => ((spec_l1Cur_pick.f x1000 bt276.2.1 bt276.2.2 3).bind fun bt282 => (if bt282.1 = 0 then (if 0 ≤ bt273.1 then (if bt273.1 ≤ (x1.size : Int) then (if (x1.extract 0 (bt273.1 : Int).toNat).size + (strOfNums y279).size ≤ 9223372036854775807 then (if ((x1.extract 0 (bt273.1 : Int).toNat) ++ (strOfNums y279)).size + (x1.extract (bt273.1 : Int).toNat x1.size).size ≤ 9223372036854775807 then (spec_l1Cur_spoilt.l0 k (((x1.extract 0 (bt273.1 : Int).toNat) ++ (strOfNums y279)) ++ (x1.extract (bt273.1 : Int).toNat x1.size)) x2 (wrap64 (x7 - 1)) x1000 bt282.2.1 bt282.2.2) else (none)) else (none)) else (none)) else (none)) else (if bt282.1 = 1 then (if 0 ≤ bt273.1 then (if bt273.1 ≤ (x1.size : Int) then (if (x1.extract 0 (bt273.1 : Int).toNat).size + (strOfNums y279).size ≤ 9223372036854775807 then (if 0 ≤ (wrap64 (bt273.1 + 1)) then (if (wrap64 (bt273.1 + 1)) ≤ (x1.size : Int) then (if ((x1.extract 0 (bt273.1 : Int).toNat) ++ (strOfNums y279)).size + (x1.extract ((wrap64 (bt273.1 + 1)) : Int).toNat x1.size).size ≤ 9223372036854775807 then (spec_l1Cur_spoilt.l0 k (((x1.extract 0 (bt273.1 : Int).toNat) ++ (strOfNums y279)) ++ (x1.extract ((wrap64 (bt273.1 + 1)) : Int).toNat x1.size)) x2 (wrap64 (x7 - 1)) x1000 bt282.2.1 bt282.2.2) else (none)) else (none)) else (none)) else (none)) else (none)) else (none)) else (if 0 ≤ bt273.1 then (if bt273.1 ≤ (x1.size : Int) then (if 0 ≤ (wrap64 (bt273.1 + 1)) then (if (wrap64 (bt273.1 + 1)) ≤ (x1.size : Int) then (if (x1.extract 0 (bt273.1 : Int).toNat).size + (x1.extract ((wrap64 (bt273.1 + 1)) : Int).toNat x1.size).size ≤ 9223372036854775807 then (spec_l1Cur_spoilt.l0 k ((x1.extract 0 (bt273.1 : Int).toNat) ++ (x1.extract ((wrap64 (bt273.1 + 1)) : Int).toNat x1.size)) x2 (wrap64 (x7 - 1)) x1000 bt282.2.1 bt282.2.2) else (none)) else (none)) else (none)) else (none)) else (none)))))) else (none)) else (none)))) else (some (x1, x1001, x1002))
end
def spec_l1Cur_spoilt.f (k : Nat) (s0_0 : List Int) (s0_1 : Int) (s0_2 : Int) (a1 : ByteArray) (a2 : ByteArray) : Option (ByteArray × Int × Int) := (spec_l1Cur_pick.f s0_0 s0_1 s0_2 3).bind fun bt270 => (spec_l1Cur_spoilt.l0 k a1 a2 bt270.1 s0_0 bt270.2.1 bt270.2.2)
theorem spec_l1Cur_spoilt.mono_l : ∀ k, (∀ y0 y1 y2 y3 y4 y5, LeO (spec_l1Cur_spoilt.l0 k y0 y1 y2 y3 y4 y5) (spec_l1Cur_spoilt.l0 (k + 1) y0 y1 y2 y3 y4 y5)) ∧ (∀ y0 y1 y2 y3 y4 y5 y6, LeO (spec_l1Cur_spoilt.j1 k y0 y1 y2 y3 y4 y5 y6) (spec_l1Cur_spoilt.j1 (k + 1) y0 y1 y2 y3 y4 y5 y6))
 | 0 => ⟨fun _ _ _ _ _ _ r h => by simp [spec_l1Cur_spoilt.l0] at h, fun _ _ _ _ _ _ _ r h => by simp [spec_l1Cur_spoilt.j1] at h⟩
 | k + 1 => by
  obtain ⟨ih0, ih1⟩ := spec_l1Cur_spoilt.mono_l k
  refine ⟨?_, ?_⟩
  ·intro y0 y1 y2 y3 y4 y5
   unfold spec_l1Cur_spoilt.l0
   repeat' (with_reducible first | exact ih0 _ _ _ _ _ _ | exact ih1 _ _ _ _ _ _ _ | exact LeO.refl _ | exact LeO.none _ | refine LeO.ite ?_ ?_ | refine LeO.bind ?_ (fun _ => ?_))
  ·intro y0 y1 y2 y3 y4 y5 y6
   unfold spec_l1Cur_spoilt.j1
   repeat' (with_reducible first | exact ih0 _ _ _ _ _ _ | exact ih1 _ _ _ _ _ _ _ | exact LeO.refl _ | exact LeO.none _ | refine LeO.ite ?_ ?_ | refine LeO.bind ?_ (fun _ => ?_))
theorem spec_l1Cur_spoilt.mono : ∀ a0 a1 a2 a3 a4 k, LeO (spec_l1Cur_spoilt.f k a0 a1 a2 a3 a4) (spec_l1Cur_spoilt.f (k + 1) a0 a1 a2 a3 a4) := by
 intro a0 a1 a2 a3 a4 k
 obtain ⟨ih0, ih1⟩ := spec_l1Cur_spoilt.mono_l k
 unfold spec_l1Cur_spoilt.f
 repeat' (with_reducible first | exact ih0 _ _ _ _ _ _ | exact ih1 _ _ _ _ _ _ _ | exact LeO.refl _ | exact LeO.none _ | refine LeO.ite ?_ ?_ | refine LeO.bind ?_ (fun _ => ?_))
set_option maxHeartbeats 8000000 in
set_option maxRecDepth 100000 in
theorem spec_l1Cur_spoilt.calls (k : Nat) (g : Nat) (s0_0 : List Int) (s0_1 : Int) (s0_2 : Int) (a1 : ByteArray) (a2 : ByteArray) (r1 : ByteArray) (r2 : Int) (r3 : Int) (w0 w : World) (hI : IsS82 w0 w g s0_0 s0_1 s0_2) (hB : Below w0.heap.size w0 w) (h : spec_l1Cur_spoilt.f k s0_0 s0_1 s0_2 a1 a2 = some (r1, r2, r3)) :
  Calls Try.prog 86 #[.pointer (some ⟨g, 0, none⟩), .string a1, .string a2] w fun e w' => e = .returned (.string r1) ∧ IsS82 w0 w' g s0_0 r2 r3 ∧ Below w0.heap.size w0 w' ∧ KeepBut w w' g none := by
 have HI0 := aM hI
 have HK := aM (KeepBut.refl w g none)
 have HL := aM hB.size
 clear hI
 have HW0 := aM hB.size
 have HB := aM hB
 clear hB
 have H : ((spec_l1Cur_pick.f s0_0 s0_1 s0_2 3).bind fun bt270 => (spec_l1Cur_spoilt.l0 k a1 a2 bt270.1 s0_0 bt270.2.1 bt270.2.2)) = some (r1, r2, r3) := h
 clear h
 replace H := Option.bind_eq_some_iff.mp H
 obtain ⟨⟨t270, t271, t272⟩, A40, H⟩ := H
 replace H : (spec_l1Cur_spoilt.l0 k a1 a2 t270 s0_0 t271 t272) = some (r1, r2, r3) := H
 have A4 := aM A40
 clear A40
 have H' := aM H
 clear H
 go_enter Try.func86, Try.ntmps86
 go_wp2_with (first | (go_at_call 60; (with_reducible refine (spec_l1Cur_pick.calls g s0_0 s0_1 s0_2 3 t270 t271 t272 w0 _ ?side1 ?side2 A4.out).mono ?_); (case side1 => exact aP0); (case side2 => exact aP2); rintro e w5 ⟨rfl, hi, hb, hk⟩; replace HK := aM (KeepBut.trans aP1 hk (.inl rfl)); replace HB := aM (hb); replace HI0 := aM (hi); (try clear hb); (try clear hb2); (try clear hk); (try clear hi)))
 repeat (go_quiet (first | (go_at_call 60; (with_reducible refine (spec_l1Cur_pick.calls g s0_0 s0_1 s0_2 3 t270 t271 t272 w0 _ ?side1 ?side2 A4.out).mono ?_); (case side1 => exact aP0); (case side2 => exact aP2); rintro e w5 ⟨rfl, hi, hb, hk⟩; replace HK := aM (KeepBut.trans aP1 hk (.inl rfl)); replace HB := aM (hb); replace HI0 := aM (hi); (try clear hb); (try clear hb2); (try clear hk); (try clear hi))); try go_wp2_with (first | (go_at_call 60; (with_reducible refine (spec_l1Cur_pick.calls g s0_0 s0_1 s0_2 3 t270 t271 t272 w0 _ ?side1 ?side2 A4.out).mono ?_); (case side1 => exact aP0); (case side2 => exact aP2); rintro e w5 ⟨rfl, hi, hb, hk⟩; replace HK := aM (KeepBut.trans aP1 hk (.inl rfl)); replace HB := aM (hb); replace HI0 := aM (hi); (try clear hb); (try clear hb2); (try clear hk); (try clear hi))))
 go_loopg [1, 7] k (fun kq v1 v7 w' => ∃ (x1_1 : ByteArray) (x7_1 : Int) (x1001_1 : Int) (x1002_1 : Int), v1 = .string x1_1 ∧ v7 = .int .i64 x7_1 ∧ Aside0 (spec_l1Cur_spoilt.l0 kq x1_1 a2 x7_1 s0_0 x1001_1 x1002_1 = some (r1, r2, r3)) ∧ Aside0 (kq ≤ k) ∧ Aside0 (IsS82 w0 w' g s0_0 x1001_1 x1002_1) ∧ Aside0 (KeepBut w w' g none) ∧ Aside0 (Below w0.heap.size w0 w'))
 case atStart => exact ⟨(a1), (t270), (t271), (t272), aP16, aP16, H', ⟨Nat.le_refl _⟩, ⟨aP0⟩, ⟨aP1⟩, ⟨aP2⟩⟩
 case round =>
  clear H'
  try clear p2
  obtain ⟨x1_1, x7_1, x1001_1, x1002_1, rfl, rfl, HA, HK1, HI0, HK, HB⟩ := hrel
  cases gk with
  | zero => exact absurd HA.out (by simp [spec_l1Cur_spoilt.l0])
  | succ k1 =>
   have H := HA.out
   clear HA
   simp only [spec_l1Cur_spoilt.l0] at H
   have HC6 := aM H
   clear H
   go_upto_region 2 with (fail)
   repeat (go_quiet (fail); go_upto_region 2 with (fail))
   go_cut [18] (fun v18 wc => ∃ (kq : Nat) (x18_5 : Bool), v18 = .bool x18_5 ∧ Aside0 (spec_l1Cur_spoilt.j1 kq x1_1 a2 x7_1 x18_5 s0_0 x1001_1 x1002_1 = some (r1, r2, r3)) ∧ Aside0 (kq ≤ k1) ∧ Aside0 (IsS82 w0 wc g s0_0 x1001_1 x1002_1) ∧ Aside0 (KeepBut w wc g none) ∧ Aside0 (Below w0.heap.size w0 wc))
   case first =>
    have H := HC6.out
    clear HC6
    by_cases c7 : x7_1 > 0
    rotate_left
    ·rw [if_neg c7] at H
     have c7b0 : decide (0 < x7_1) = false := decide_eq_false c7
     clear c7
     (first | rw [c7b0] | (simp only [i64_w, i32_w]; rw [c7b0]) | rw [c7e] | skip)
     have H' := aM H
     clear H
     go_wp2
     repeat (go_quiet (fail); try go_wp2)
     go_meet
     case rel => exact ⟨_, (false), aP16, H', ⟨by have := HK1.out; first | omega | exact Nat.le_refl _⟩, ⟨aP0⟩, ⟨aP1⟩, ⟨aP2⟩⟩
    rw [if_pos c7] at H
    have c7b0 : decide (0 < x7_1) = true := decide_eq_true c7
    clear c7
    (first | rw [c7b0] | (simp only [i64_w, i32_w]; rw [c7b0]) | rw [c7e] | skip)
    have H' := aM H
    clear H
    go_wp2
    repeat (go_quiet (fail); try go_wp2)
    go_meet
    case rel => exact ⟨_, (decide ((x1_1.size : Int) > 0)), aP16, H', ⟨by have := HK1.out; first | omega | exact Nat.le_refl _⟩, ⟨aP0⟩, ⟨aP1⟩, ⟨aP2⟩⟩
   case rest =>
    clear HC6
    try clear p2
    try clear c7
    try clear c7b0
    try clear p2
    obtain ⟨kq, x18_5, rfl, HA, HJ5, HI0, HK, HB⟩ := hcut
    cases kq with
    | zero => exact absurd HA.out (by simp [spec_l1Cur_spoilt.j1])
    | succ kj5 =>
     have H := HA.out
     clear HA
     simp only [spec_l1Cur_spoilt.j1] at H
     by_cases c8 : x18_5 = true
     rotate_left
     ·replace c8 := Bool.eq_false_iff.mpr c8
      subst c8
      replace H : (some (x1_1, x1001_1, x1002_1)) = some (r1, r2, r3) := by rw [if_neg (show ¬ (false = true) by decide)] at H; exact H
      simp only [Option.some.injEq, Prod.mk.injEq] at H
      obtain ⟨rfl, rfl, rfl⟩ := H
      go_wp2
      repeat (go_quiet (fail); try go_wp2)
      go_ret
      exact ⟨eR, by (try simp only [Int.add_zero]); exact aP0, by exact aP2, aP1⟩
     subst c8
     replace H : ((spec_l1Cur_pick.f s0_0 x1001_1 x1002_1 (x1_1.size : Int)).bind fun bt273 => ((spec_l1Cur_pick.f s0_0 bt273.2.1 bt273.2.2 (a2.size : Int)).bind fun bt276 => (if 0 ≤ bt276.1 then (if bt276.1 < (a2.size : Int) then ((some (([bt a2 bt276.1] : List Int) : List Int)).bind fun y279 => ((spec_l1Cur_pick.f s0_0 bt276.2.1 bt276.2.2 3).bind fun bt282 => (if bt282.1 = 0 then (if 0 ≤ bt273.1 then (if bt273.1 ≤ (x1_1.size : Int) then (if (x1_1.extract 0 (bt273.1 : Int).toNat).size + (strOfNums y279).size ≤ 9223372036854775807 then (if ((x1_1.extract 0 (bt273.1 : Int).toNat) ++ (strOfNums y279)).size + (x1_1.extract (bt273.1 : Int).toNat x1_1.size).size ≤ 9223372036854775807 then (spec_l1Cur_spoilt.l0 kj5 (((x1_1.extract 0 (bt273.1 : Int).toNat) ++ (strOfNums y279)) ++ (x1_1.extract (bt273.1 : Int).toNat x1_1.size)) a2 (wrap64 (x7_1 - 1)) s0_0 bt282.2.1 bt282.2.2) else (none)) else (none)) else (none)) else (none)) else (if bt282.1 = 1 then (if 0 ≤ bt273.1 then (if bt273.1 ≤ (x1_1.size : Int) then (if (x1_1.extract 0 (bt273.1 : Int).toNat).size + (strOfNums y279).size ≤ 9223372036854775807 then (if 0 ≤ (wrap64 (bt273.1 + 1)) then (if (wrap64 (bt273.1 + 1)) ≤ (x1_1.size : Int) then (if ((x1_1.extract 0 (bt273.1 : Int).toNat) ++ (strOfNums y279)).size + (x1_1.extract ((wrap64 (bt273.1 + 1)) : Int).toNat x1_1.size).size ≤ 9223372036854775807 then (spec_l1Cur_spoilt.l0 kj5 (((x1_1.extract 0 (bt273.1 : Int).toNat) ++ (strOfNums y279)) ++ (x1_1.extract ((wrap64 (bt273.1 + 1)) : Int).toNat x1_1.size)) a2 (wrap64 (x7_1 - 1)) s0_0 bt282.2.1 bt282.2.2) else (none)) else (none)) else (none)) else (none)) else (none)) else (none)) else (if 0 ≤ bt273.1 then (if bt273.1 ≤ (x1_1.size : Int) then (if 0 ≤ (wrap64 (bt273.1 + 1)) then (if (wrap64 (bt273.1 + 1)) ≤ (x1_1.size : Int) then (if (x1_1.extract 0 (bt273.1 : Int).toNat).size + (x1_1.extract ((wrap64 (bt273.1 + 1)) : Int).toNat x1_1.size).size ≤ 9223372036854775807 then (spec_l1Cur_spoilt.l0 kj5 ((x1_1.extract 0 (bt273.1 : Int).toNat) ++ (x1_1.extract ((wrap64 (bt273.1 + 1)) : Int).toNat x1_1.size)) a2 (wrap64 (x7_1 - 1)) s0_0 bt282.2.1 bt282.2.2) else (none)) else (none)) else (none)) else (none)) else (none)))))) else (none)) else (none)))) = some (r1, r2, r3) := by rw [if_pos rfl] at H; exact H
     replace H := Option.bind_eq_some_iff.mp H
     obtain ⟨⟨t273, t274, t275⟩, A90, H⟩ := H
     replace H : ((spec_l1Cur_pick.f s0_0 t274 t275 (a2.size : Int)).bind fun bt276 => (if 0 ≤ bt276.1 then (if bt276.1 < (a2.size : Int) then ((some (([bt a2 bt276.1] : List Int) : List Int)).bind fun y279 => ((spec_l1Cur_pick.f s0_0 bt276.2.1 bt276.2.2 3).bind fun bt282 => (if bt282.1 = 0 then (if 0 ≤ t273 then (if t273 ≤ (x1_1.size : Int) then (if (x1_1.extract 0 (t273 : Int).toNat).size + (strOfNums y279).size ≤ 9223372036854775807 then (if ((x1_1.extract 0 (t273 : Int).toNat) ++ (strOfNums y279)).size + (x1_1.extract (t273 : Int).toNat x1_1.size).size ≤ 9223372036854775807 then (spec_l1Cur_spoilt.l0 kj5 (((x1_1.extract 0 (t273 : Int).toNat) ++ (strOfNums y279)) ++ (x1_1.extract (t273 : Int).toNat x1_1.size)) a2 (wrap64 (x7_1 - 1)) s0_0 bt282.2.1 bt282.2.2) else (none)) else (none)) else (none)) else (none)) else (if bt282.1 = 1 then (if 0 ≤ t273 then (if t273 ≤ (x1_1.size : Int) then (if (x1_1.extract 0 (t273 : Int).toNat).size + (strOfNums y279).size ≤ 9223372036854775807 then (if 0 ≤ (wrap64 (t273 + 1)) then (if (wrap64 (t273 + 1)) ≤ (x1_1.size : Int) then (if ((x1_1.extract 0 (t273 : Int).toNat) ++ (strOfNums y279)).size + (x1_1.extract ((wrap64 (t273 + 1)) : Int).toNat x1_1.size).size ≤ 9223372036854775807 then (spec_l1Cur_spoilt.l0 kj5 (((x1_1.extract 0 (t273 : Int).toNat) ++ (strOfNums y279)) ++ (x1_1.extract ((wrap64 (t273 + 1)) : Int).toNat x1_1.size)) a2 (wrap64 (x7_1 - 1)) s0_0 bt282.2.1 bt282.2.2) else (none)) else (none)) else (none)) else (none)) else (none)) else (none)) else (if 0 ≤ t273 then (if t273 ≤ (x1_1.size : Int) then (if 0 ≤ (wrap64 (t273 + 1)) then (if (wrap64 (t273 + 1)) ≤ (x1_1.size : Int) then (if (x1_1.extract 0 (t273 : Int).toNat).size + (x1_1.extract ((wrap64 (t273 + 1)) : Int).toNat x1_1.size).size ≤ 9223372036854775807 then (spec_l1Cur_spoilt.l0 kj5 ((x1_1.extract 0 (t273 : Int).toNat) ++ (x1_1.extract ((wrap64 (t273 + 1)) : Int).toNat x1_1.size)) a2 (wrap64 (x7_1 - 1)) s0_0 bt282.2.1 bt282.2.2) else (none)) else (none)) else (none)) else (none)) else (none)))))) else (none)) else (none))) = some (r1, r2, r3) := H
     have A9 := aM A90
     clear A90
     replace H := Option.bind_eq_some_iff.mp H
     obtain ⟨⟨t276, t277, t278⟩, A100, H⟩ := H
     replace H : (if 0 ≤ t276 then (if t276 < (a2.size : Int) then ((some (([bt a2 t276] : List Int) : List Int)).bind fun y279 => ((spec_l1Cur_pick.f s0_0 t277 t278 3).bind fun bt282 => (if bt282.1 = 0 then (if 0 ≤ t273 then (if t273 ≤ (x1_1.size : Int) then (if (x1_1.extract 0 (t273 : Int).toNat).size + (strOfNums y279).size ≤ 9223372036854775807 then (if ((x1_1.extract 0 (t273 : Int).toNat) ++ (strOfNums y279)).size + (x1_1.extract (t273 : Int).toNat x1_1.size).size ≤ 9223372036854775807 then (spec_l1Cur_spoilt.l0 kj5 (((x1_1.extract 0 (t273 : Int).toNat) ++ (strOfNums y279)) ++ (x1_1.extract (t273 : Int).toNat x1_1.size)) a2 (wrap64 (x7_1 - 1)) s0_0 bt282.2.1 bt282.2.2) else (none)) else (none)) else (none)) else (none)) else (if bt282.1 = 1 then (if 0 ≤ t273 then (if t273 ≤ (x1_1.size : Int) then (if (x1_1.extract 0 (t273 : Int).toNat).size + (strOfNums y279).size ≤ 9223372036854775807 then (if 0 ≤ (wrap64 (t273 + 1)) then (if (wrap64 (t273 + 1)) ≤ (x1_1.size : Int) then (if ((x1_1.extract 0 (t273 : Int).toNat) ++ (strOfNums y279)).size + (x1_1.extract ((wrap64 (t273 + 1)) : Int).toNat x1_1.size).size ≤ 9223372036854775807 then (spec_l1Cur_spoilt.l0 kj5 (((x1_1.extract 0 (t273 : Int).toNat) ++ (strOfNums y279)) ++ (x1_1.extract ((wrap64 (t273 + 1)) : Int).toNat x1_1.size)) a2 (wrap64 (x7_1 - 1)) s0_0 bt282.2.1 bt282.2.2) else (none)) else (none)) else (none)) else (none)) else (none)) else (none)) else (if 0 ≤ t273 then (if t273 ≤ (x1_1.size : Int) then (if 0 ≤ (wrap64 (t273 + 1)) then (if (wrap64 (t273 + 1)) ≤ (x1_1.size : Int) then (if (x1_1.extract 0 (t273 : Int).toNat).size + (x1_1.extract ((wrap64 (t273 + 1)) : Int).toNat x1_1.size).size ≤ 9223372036854775807 then (spec_l1Cur_spoilt.l0 kj5 ((x1_1.extract 0 (t273 : Int).toNat) ++ (x1_1.extract ((wrap64 (t273 + 1)) : Int).toNat x1_1.size)) a2 (wrap64 (x7_1 - 1)) s0_0 bt282.2.1 bt282.2.2) else (none)) else (none)) else (none)) else (none)) else (none)))))) else (none)) else (none)) = some (r1, r2, r3) := H
     have A10 := aM A100
     clear A100
     by_cases c11 : 0 ≤ t276
     rotate_left
     ·rw [if_neg c11] at H
      exact absurd H (by simp)
     rw [if_pos c11] at H
     have c11b0 : decide (0 ≤ t276) = true := decide_eq_true c11
     clear c11
     by_cases c12 : t276 < (a2.size : Int)
     rotate_left
     ·rw [if_neg c12] at H
      exact absurd H (by simp)
     rw [if_pos c12] at H
     have c12b0 : decide (t276 < (a2.size : Int)) = true := decide_eq_true c12
     clear c12
     obtain ⟨y279, hy279⟩ : ∃ y_ : List Int, y_ = (([bt a2 t276] : List Int)) := ⟨_, rfl⟩
     replace H : ((spec_l1Cur_pick.f s0_0 t277 t278 3).bind fun bt282 => (if bt282.1 = 0 then (if 0 ≤ t273 then (if t273 ≤ (x1_1.size : Int) then (if (x1_1.extract 0 (t273 : Int).toNat).size + (strOfNums y279).size ≤ 9223372036854775807 then (if ((x1_1.extract 0 (t273 : Int).toNat) ++ (strOfNums y279)).size + (x1_1.extract (t273 : Int).toNat x1_1.size).size ≤ 9223372036854775807 then (spec_l1Cur_spoilt.l0 kj5 (((x1_1.extract 0 (t273 : Int).toNat) ++ (strOfNums y279)) ++ (x1_1.extract (t273 : Int).toNat x1_1.size)) a2 (wrap64 (x7_1 - 1)) s0_0 bt282.2.1 bt282.2.2) else (none)) else (none)) else (none)) else (none)) else (if bt282.1 = 1 then (if 0 ≤ t273 then (if t273 ≤ (x1_1.size : Int) then (if (x1_1.extract 0 (t273 : Int).toNat).size + (strOfNums y279).size ≤ 9223372036854775807 then (if 0 ≤ (wrap64 (t273 + 1)) then (if (wrap64 (t273 + 1)) ≤ (x1_1.size : Int) then (if ((x1_1.extract 0 (t273 : Int).toNat) ++ (strOfNums y279)).size + (x1_1.extract ((wrap64 (t273 + 1)) : Int).toNat x1_1.size).size ≤ 9223372036854775807 then (spec_l1Cur_spoilt.l0 kj5 (((x1_1.extract 0 (t273 : Int).toNat) ++ (strOfNums y279)) ++ (x1_1.extract ((wrap64 (t273 + 1)) : Int).toNat x1_1.size)) a2 (wrap64 (x7_1 - 1)) s0_0 bt282.2.1 bt282.2.2) else (none)) else (none)) else (none)) else (none)) else (none)) else (none)) else (if 0 ≤ t273 then (if t273 ≤ (x1_1.size : Int) then (if 0 ≤ (wrap64 (t273 + 1)) then (if (wrap64 (t273 + 1)) ≤ (x1_1.size : Int) then (if (x1_1.extract 0 (t273 : Int).toNat).size + (x1_1.extract ((wrap64 (t273 + 1)) : Int).toNat x1_1.size).size ≤ 9223372036854775807 then (spec_l1Cur_spoilt.l0 kj5 ((x1_1.extract 0 (t273 : Int).toNat) ++ (x1_1.extract ((wrap64 (t273 + 1)) : Int).toNat x1_1.size)) a2 (wrap64 (x7_1 - 1)) s0_0 bt282.2.1 bt282.2.2) else (none)) else (none)) else (none)) else (none)) else (none))))) = some (r1, r2, r3) := by first | (rw [hy279]; with_reducible exact H) | (have H2_ := (Option.bind_some _ _).symm.trans H; rw [hy279]; with_reducible exact H2_) | (have H2_ := (Option.bind_some _ _).symm.trans H; with_reducible exact H2_) | with_reducible exact H | (rw [hy279]; exact H) | exact H
     have Ny279 := aM hy279
     clear hy279
     replace H := Option.bind_eq_some_iff.mp H
     obtain ⟨⟨t282, t283, t284⟩, A140, H⟩ := H
     replace H : (if t282 = 0 then (if 0 ≤ t273 then (if t273 ≤ (x1_1.size : Int) then (if (x1_1.extract 0 (t273 : Int).toNat).size + (strOfNums y279).size ≤ 9223372036854775807 then (if ((x1_1.extract 0 (t273 : Int).toNat) ++ (strOfNums y279)).size + (x1_1.extract (t273 : Int).toNat x1_1.size).size ≤ 9223372036854775807 then (spec_l1Cur_spoilt.l0 kj5 (((x1_1.extract 0 (t273 : Int).toNat) ++ (strOfNums y279)) ++ (x1_1.extract (t273 : Int).toNat x1_1.size)) a2 (wrap64 (x7_1 - 1)) s0_0 t283 t284) else (none)) else (none)) else (none)) else (none)) else (if t282 = 1 then (if 0 ≤ t273 then (if t273 ≤ (x1_1.size : Int) then (if (x1_1.extract 0 (t273 : Int).toNat).size + (strOfNums y279).size ≤ 9223372036854775807 then (if 0 ≤ (wrap64 (t273 + 1)) then (if (wrap64 (t273 + 1)) ≤ (x1_1.size : Int) then (if ((x1_1.extract 0 (t273 : Int).toNat) ++ (strOfNums y279)).size + (x1_1.extract ((wrap64 (t273 + 1)) : Int).toNat x1_1.size).size ≤ 9223372036854775807 then (spec_l1Cur_spoilt.l0 kj5 (((x1_1.extract 0 (t273 : Int).toNat) ++ (strOfNums y279)) ++ (x1_1.extract ((wrap64 (t273 + 1)) : Int).toNat x1_1.size)) a2 (wrap64 (x7_1 - 1)) s0_0 t283 t284) else (none)) else (none)) else (none)) else (none)) else (none)) else (none)) else (if 0 ≤ t273 then (if t273 ≤ (x1_1.size : Int) then (if 0 ≤ (wrap64 (t273 + 1)) then (if (wrap64 (t273 + 1)) ≤ (x1_1.size : Int) then (if (x1_1.extract 0 (t273 : Int).toNat).size + (x1_1.extract ((wrap64 (t273 + 1)) : Int).toNat x1_1.size).size ≤ 9223372036854775807 then (spec_l1Cur_spoilt.l0 kj5 ((x1_1.extract 0 (t273 : Int).toNat) ++ (x1_1.extract ((wrap64 (t273 + 1)) : Int).toNat x1_1.size)) a2 (wrap64 (x7_1 - 1)) s0_0 t283 t284) else (none)) else (none)) else (none)) else (none)) else (none)))) = some (r1, r2, r3) := H
     have A14 := aM A140
     clear A140
     by_cases c15 : t282 = 0
     ·rw [if_pos c15] at H
      have c15b0 : (t282 == 0) = true := beq_iff_eq.mpr c15
      have c15b1 : (t282 != 0) = false := bne_eq_false_iff_eq.mpr c15
      clear c15
      by_cases c16 : 0 ≤ t273
      rotate_left
      ·rw [if_neg c16] at H
       exact absurd H (by simp)
      rw [if_pos c16] at H
      have c16b0 := eq_true c16
      have c16b1 : decide (0 ≤ t273) = true := decide_eq_true c16
      clear c16
      by_cases c17 : t273 ≤ (x1_1.size : Int)
      rotate_left
      ·rw [if_neg c17] at H
       exact absurd H (by simp)
      rw [if_pos c17] at H
      have c17b0 := eq_true c17
      have c17b1 : decide (t273 ≤ (x1_1.size : Int)) = true := decide_eq_true c17
      clear c17
      by_cases c18 : (x1_1.extract 0 (t273 : Int).toNat).size + (strOfNums y279).size ≤ 9223372036854775807
      rotate_left
      ·rw [if_neg c18] at H
       exact absurd H (by simp)
      rw [if_pos c18] at H
      have c18b0 := eq_true c18
      have c18b1 : decide ((x1_1.extract 0 (t273 : Int).toNat).size + (strOfNums y279).size ≤ 9223372036854775807) = true := decide_eq_true c18
      try have c18b2 : (9223372036854775807 < (x1_1.extract 0 (t273 : Int).toNat).size + (strOfNums y279).size) = False := eq_false (Nat.not_lt.2 c18)
      have c19b0 := eq_true (of_decide_eq_true (by assumption) : 0 ≤ t273)
      have c20b0 := eq_true (of_decide_eq_true (by assumption) : t273 ≤ (x1_1.size : Int))
      by_cases c21 : ((x1_1.extract 0 (t273 : Int).toNat) ++ (strOfNums y279)).size + (x1_1.extract (t273 : Int).toNat x1_1.size).size ≤ 9223372036854775807
      rotate_left
      ·rw [if_neg c21] at H
       exact absurd H (by simp)
      rw [if_pos c21] at H
      have c21b0 := eq_true c21
      have c21b1 : decide (((x1_1.extract 0 (t273 : Int).toNat) ++ (strOfNums y279)).size + (x1_1.extract (t273 : Int).toNat x1_1.size).size ≤ 9223372036854775807) = true := decide_eq_true c21
      try have c21b2 : (9223372036854775807 < ((x1_1.extract 0 (t273 : Int).toNat) ++ (strOfNums y279)).size + (x1_1.extract (t273 : Int).toNat x1_1.size).size) = False := eq_false (Nat.not_lt.2 c21)
      try have c21s := eq_false (Nat.not_lt.2 c21)
      try simp only [ByteArray.size_append] at c21s
      have H' := aM H
      clear H
      go_wp2_with (first | (go_at_call 60; (with_reducible refine (spec_l1Cur_pick.calls g s0_0 x1001_1 x1002_1 (x1_1.size : Int) t273 t274 t275 w0 _ ?side1 ?side2 A9.out).mono ?_); (case side1 => exact aP0); (case side2 => exact aP2); rintro e w22 ⟨rfl, hi, hb, hk⟩; replace HK := aM (KeepBut.trans aP1 hk (.inl rfl)); replace HB := aM (hb); replace HI0 := aM (hi); (try clear hb); (try clear hb2); (try clear hk); (try clear hi)) | (go_at_call 60; (with_reducible refine (spec_l1Cur_pick.calls g s0_0 t274 t275 (a2.size : Int) t276 t277 t278 w0 _ ?side1 ?side2 A10.out).mono ?_); (case side1 => exact aP0); (case side2 => exact aP2); rintro e w23 ⟨rfl, hi, hb, hk⟩; replace HK := aM (KeepBut.trans aP1 hk (.inl rfl)); replace HB := aM (hb); replace HI0 := aM (hi); (try clear hb); (try clear hb2); (try clear hk); (try clear hi); have p13 : 0 ≤ (t276 : Int) := of_decide_eq_true (by assumption); have q13 : t276 < (a2.size : Int) := of_decide_eq_true (by assumption); have hx13 := bt_at a2 t276; replace p13 := eq_true p13; replace q13 := eq_true q13) | ((with_reducible refine gate_dst (N := 31) rfl ?_); (try (refine gate_guard (by rfl) ?_; dsimp only)); refine Kd.R_lit (Kd.int .u8) _ 5 ?hg (N := 31) ?hd (xs := ([bt a2 t276] : List Int)) (inner := [.int .u8 (bt a2 t276)]) (ok := fun _ => True) (okp := fun _ => True) ?hr ?hp (fun _ hk => hk) trivial (Below.refl _ _) (Nat.le_refl _) (by simp) ?_; (case hd => rfl); (case hg => rfl); (case hr => exact aP21); (case hp => exact (Reps.one (show Kd.M (Kd.int .u8) _ _ _ (bt a2 t276) [.int .u8 (bt a2 t276)] from rfl) (Reps.none _ _))); intro v280 w24 ho25 hb hg_ hnew_; clear hg_ hnew_; (first | rw [← Ny279.out] at ho25 | (simp only [Int.reduceToNat] at ho25; rw [← Ny279.out] at ho25)); have HO281 := aM (Kd.R_lower ho25 (keep_size (w := w) (g := g) (row := none) aP1)); replace HI0 := aM (IsS82.below aP0 hb); replace HK := aM (KeepBut.trans aP1 (KeepBut.of_below hb g none) (.inl rfl)); replace HB := aM (below_step aP2 hb); clear hb ho25; have hcv26 := own_string (P := Try.prog) Try.underlying44 Try.underlying5 Try.underlying9 (Kd.own_of_R HO281.out)) | (go_at_call 60; (with_reducible refine (spec_l1Cur_pick.calls g s0_0 t277 t278 3 t282 t283 t284 w0 _ ?side1 ?side2 A14.out).mono ?_); (case side1 => exact aP0); (case side2 => exact aP2); rintro e w27 ⟨rfl, hi, hb, hk⟩; replace HO281 := aM (Kd.R_mono (Kd.R_keep (IsS82.apart (show IsS82 w0 _ g s0_0 t277 t278 from aP0) (rR HO281.out) (by decide)) hk (fun _ h => h.2)) (fun _ h => h.1)); replace HK := aM (KeepBut.trans aP1 hk (.inl rfl)); replace HB := aM (hb); replace HI0 := aM (hi); (try clear hb); (try clear hb2); (try clear hk); (try clear hi)))
      repeat (go_quiet (first | (go_at_call 60; (with_reducible refine (spec_l1Cur_pick.calls g s0_0 x1001_1 x1002_1 (x1_1.size : Int) t273 t274 t275 w0 _ ?side1 ?side2 A9.out).mono ?_); (case side1 => exact aP0); (case side2 => exact aP2); rintro e w22 ⟨rfl, hi, hb, hk⟩; replace HK := aM (KeepBut.trans aP1 hk (.inl rfl)); replace HB := aM (hb); replace HI0 := aM (hi); (try clear hb); (try clear hb2); (try clear hk); (try clear hi)) | (go_at_call 60; (with_reducible refine (spec_l1Cur_pick.calls g s0_0 t274 t275 (a2.size : Int) t276 t277 t278 w0 _ ?side1 ?side2 A10.out).mono ?_); (case side1 => exact aP0); (case side2 => exact aP2); rintro e w23 ⟨rfl, hi, hb, hk⟩; replace HK := aM (KeepBut.trans aP1 hk (.inl rfl)); replace HB := aM (hb); replace HI0 := aM (hi); (try clear hb); (try clear hb2); (try clear hk); (try clear hi); have p13 : 0 ≤ (t276 : Int) := of_decide_eq_true (by assumption); have q13 : t276 < (a2.size : Int) := of_decide_eq_true (by assumption); have hx13 := bt_at a2 t276; replace p13 := eq_true p13; replace q13 := eq_true q13) | ((with_reducible refine gate_dst (N := 31) rfl ?_); (try (refine gate_guard (by rfl) ?_; dsimp only)); refine Kd.R_lit (Kd.int .u8) _ 5 ?hg (N := 31) ?hd (xs := ([bt a2 t276] : List Int)) (inner := [.int .u8 (bt a2 t276)]) (ok := fun _ => True) (okp := fun _ => True) ?hr ?hp (fun _ hk => hk) trivial (Below.refl _ _) (Nat.le_refl _) (by simp) ?_; (case hd => rfl); (case hg => rfl); (case hr => exact aP21); (case hp => exact (Reps.one (show Kd.M (Kd.int .u8) _ _ _ (bt a2 t276) [.int .u8 (bt a2 t276)] from rfl) (Reps.none _ _))); intro v280 w24 ho25 hb hg_ hnew_; clear hg_ hnew_; (first | rw [← Ny279.out] at ho25 | (simp only [Int.reduceToNat] at ho25; rw [← Ny279.out] at ho25)); have HO281 := aM (Kd.R_lower ho25 (keep_size (w := w) (g := g) (row := none) aP1)); replace HI0 := aM (IsS82.below aP0 hb); replace HK := aM (KeepBut.trans aP1 (KeepBut.of_below hb g none) (.inl rfl)); replace HB := aM (below_step aP2 hb); clear hb ho25; have hcv26 := own_string (P := Try.prog) Try.underlying44 Try.underlying5 Try.underlying9 (Kd.own_of_R HO281.out)) | (go_at_call 60; (with_reducible refine (spec_l1Cur_pick.calls g s0_0 t277 t278 3 t282 t283 t284 w0 _ ?side1 ?side2 A14.out).mono ?_); (case side1 => exact aP0); (case side2 => exact aP2); rintro e w27 ⟨rfl, hi, hb, hk⟩; replace HO281 := aM (Kd.R_mono (Kd.R_keep (IsS82.apart (show IsS82 w0 _ g s0_0 t277 t278 from aP0) (rR HO281.out) (by decide)) hk (fun _ h => h.2)) (fun _ h => h.1)); replace HK := aM (KeepBut.trans aP1 hk (.inl rfl)); replace HB := aM (hb); replace HI0 := aM (hi); (try clear hb); (try clear hb2); (try clear hk); (try clear hi))); try go_wp2_with (first | (go_at_call 60; (with_reducible refine (spec_l1Cur_pick.calls g s0_0 x1001_1 x1002_1 (x1_1.size : Int) t273 t274 t275 w0 _ ?side1 ?side2 A9.out).mono ?_); (case side1 => exact aP0); (case side2 => exact aP2); rintro e w22 ⟨rfl, hi, hb, hk⟩; replace HK := aM (KeepBut.trans aP1 hk (.inl rfl)); replace HB := aM (hb); replace HI0 := aM (hi); (try clear hb); (try clear hb2); (try clear hk); (try clear hi)) | (go_at_call 60; (with_reducible refine (spec_l1Cur_pick.calls g s0_0 t274 t275 (a2.size : Int) t276 t277 t278 w0 _ ?side1 ?side2 A10.out).mono ?_); (case side1 => exact aP0); (case side2 => exact aP2); rintro e w23 ⟨rfl, hi, hb, hk⟩; replace HK := aM (KeepBut.trans aP1 hk (.inl rfl)); replace HB := aM (hb); replace HI0 := aM (hi); (try clear hb); (try clear hb2); (try clear hk); (try clear hi); have p13 : 0 ≤ (t276 : Int) := of_decide_eq_true (by assumption); have q13 : t276 < (a2.size : Int) := of_decide_eq_true (by assumption); have hx13 := bt_at a2 t276; replace p13 := eq_true p13; replace q13 := eq_true q13) | ((with_reducible refine gate_dst (N := 31) rfl ?_); (try (refine gate_guard (by rfl) ?_; dsimp only)); refine Kd.R_lit (Kd.int .u8) _ 5 ?hg (N := 31) ?hd (xs := ([bt a2 t276] : List Int)) (inner := [.int .u8 (bt a2 t276)]) (ok := fun _ => True) (okp := fun _ => True) ?hr ?hp (fun _ hk => hk) trivial (Below.refl _ _) (Nat.le_refl _) (by simp) ?_; (case hd => rfl); (case hg => rfl); (case hr => exact aP21); (case hp => exact (Reps.one (show Kd.M (Kd.int .u8) _ _ _ (bt a2 t276) [.int .u8 (bt a2 t276)] from rfl) (Reps.none _ _))); intro v280 w24 ho25 hb hg_ hnew_; clear hg_ hnew_; (first | rw [← Ny279.out] at ho25 | (simp only [Int.reduceToNat] at ho25; rw [← Ny279.out] at ho25)); have HO281 := aM (Kd.R_lower ho25 (keep_size (w := w) (g := g) (row := none) aP1)); replace HI0 := aM (IsS82.below aP0 hb); replace HK := aM (KeepBut.trans aP1 (KeepBut.of_below hb g none) (.inl rfl)); replace HB := aM (below_step aP2 hb); clear hb ho25; have hcv26 := own_string (P := Try.prog) Try.underlying44 Try.underlying5 Try.underlying9 (Kd.own_of_R HO281.out)) | (go_at_call 60; (with_reducible refine (spec_l1Cur_pick.calls g s0_0 t277 t278 3 t282 t283 t284 w0 _ ?side1 ?side2 A14.out).mono ?_); (case side1 => exact aP0); (case side2 => exact aP2); rintro e w27 ⟨rfl, hi, hb, hk⟩; replace HO281 := aM (Kd.R_mono (Kd.R_keep (IsS82.apart (show IsS82 w0 _ g s0_0 t277 t278 from aP0) (rR HO281.out) (by decide)) hk (fun _ h => h.2)) (fun _ h => h.1)); replace HK := aM (KeepBut.trans aP1 hk (.inl rfl)); replace HB := aM (hb); replace HI0 := aM (hi); (try clear hb); (try clear hb2); (try clear hk); (try clear hi))))
      go_roundg kj5
      case measure => have := HK1.out; have := HJ5.out; omega
      case rel => exact ⟨(((x1_1.extract 0 (t273 : Int).toNat) ++ (strOfNums y279)) ++ (x1_1.extract (t273 : Int).toNat x1_1.size)), (wrap64 (x7_1 - 1)), (t283), (t284), aP16, aP16, H', ⟨by have := HK1.out; have := HJ5.out; omega⟩, ⟨aP0⟩, ⟨aP1⟩, ⟨aP2⟩⟩
     rw [if_neg c15] at H
     have c15b0 : (t282 == 0) = false := beq_eq_false_iff_ne.mpr c15
     have c15b1 : (t282 != 0) = true := bne_iff_ne.mpr c15
     by_cases c28 : t282 = 1
     rotate_left
     ·rw [if_neg c28] at H
      have c28b0 : (t282 == 1) = false := beq_eq_false_iff_ne.mpr c28
      have c28b1 : (t282 != 1) = true := bne_iff_ne.mpr c28
      by_cases c42 : 0 ≤ t273
      rotate_left
      ·rw [if_neg c42] at H
       exact absurd H (by simp)
      rw [if_pos c42] at H
      have c42b0 := eq_true c42
      have c42b1 : decide (0 ≤ t273) = true := decide_eq_true c42
      clear c42
      by_cases c43 : t273 ≤ (x1_1.size : Int)
      rotate_left
      ·rw [if_neg c43] at H
       exact absurd H (by simp)
      rw [if_pos c43] at H
      have c43b0 := eq_true c43
      have c43b1 : decide (t273 ≤ (x1_1.size : Int)) = true := decide_eq_true c43
      clear c43
      obtain ⟨ji44, hji44⟩ : ∃ j_ : Int, (wrap64 (t273 + 1)) = j_ := ⟨_, rfl⟩
      replace H : (if 0 ≤ (ji44) then (if (ji44) ≤ (x1_1.size : Int) then (if (x1_1.extract 0 (t273 : Int).toNat).size + (x1_1.extract ((ji44) : Int).toNat x1_1.size).size ≤ 9223372036854775807 then (spec_l1Cur_spoilt.l0 kj5 ((x1_1.extract 0 (t273 : Int).toNat) ++ (x1_1.extract ((ji44) : Int).toNat x1_1.size)) a2 (wrap64 (x7_1 - 1)) s0_0 t283 t284) else (none)) else (none)) else (none)) = some (r1, r2, r3) := by first | (rw [hji44] at H; exact H) | (simp only [hji44] at H ⊢; exact H)
      (try rw [hji44] at A9)
      (try rw [hji44] at A10)
      (try rw [hji44] at A14)
      have hji44w : (IntKind.i64.wrap (t273 + 1)) = ji44 := (i64_w _).trans hji44
      by_cases c45 : 0 ≤ (ji44)
      rotate_left
      ·rw [if_neg c45] at H
       exact absurd H (by simp)
      rw [if_pos c45] at H
      have c45b0 := eq_true c45
      have c45b1 : decide (0 ≤ (ji44)) = true := decide_eq_true c45
      clear c45
      by_cases c46 : (ji44) ≤ (x1_1.size : Int)
      rotate_left
      ·rw [if_neg c46] at H
       exact absurd H (by simp)
      rw [if_pos c46] at H
      have c46b0 := eq_true c46
      have c46b1 : decide ((ji44) ≤ (x1_1.size : Int)) = true := decide_eq_true c46
      clear c46
      by_cases c47 : (x1_1.extract 0 (t273 : Int).toNat).size + (x1_1.extract ((ji44) : Int).toNat x1_1.size).size ≤ 9223372036854775807
      rotate_left
      ·rw [if_neg c47] at H
       exact absurd H (by simp)
      rw [if_pos c47] at H
      have c47b0 := eq_true c47
      have c47b1 : decide ((x1_1.extract 0 (t273 : Int).toNat).size + (x1_1.extract ((ji44) : Int).toNat x1_1.size).size ≤ 9223372036854775807) = true := decide_eq_true c47
      try have c47b2 : (9223372036854775807 < (x1_1.extract 0 (t273 : Int).toNat).size + (x1_1.extract ((ji44) : Int).toNat x1_1.size).size) = False := eq_false (Nat.not_lt.2 c47)
      try have c47v : (9223372036854775807 < t273.toNat + (x1_1.size - ji44.toNat)) = False := eq_false (by have h_ := c47; have k_ := of_eq_true c43b0; simp only [ByteArray.size_extract] at h_; omega)
      have H' := aM H
      clear H
      go_wp2_with (first | (go_at_call 60; (with_reducible refine (spec_l1Cur_pick.calls g s0_0 x1001_1 x1002_1 (x1_1.size : Int) t273 t274 t275 w0 _ ?side1 ?side2 A9.out).mono ?_); (case side1 => exact aP0); (case side2 => exact aP2); rintro e w48 ⟨rfl, hi, hb, hk⟩; replace HK := aM (KeepBut.trans aP1 hk (.inl rfl)); replace HB := aM (hb); replace HI0 := aM (hi); (try clear hb); (try clear hb2); (try clear hk); (try clear hi)) | (go_at_call 60; (with_reducible refine (spec_l1Cur_pick.calls g s0_0 t274 t275 (a2.size : Int) t276 t277 t278 w0 _ ?side1 ?side2 A10.out).mono ?_); (case side1 => exact aP0); (case side2 => exact aP2); rintro e w49 ⟨rfl, hi, hb, hk⟩; replace HK := aM (KeepBut.trans aP1 hk (.inl rfl)); replace HB := aM (hb); replace HI0 := aM (hi); (try clear hb); (try clear hb2); (try clear hk); (try clear hi); have p13 : 0 ≤ (t276 : Int) := of_decide_eq_true (by assumption); have q13 : t276 < (a2.size : Int) := of_decide_eq_true (by assumption); have hx13 := bt_at a2 t276; replace p13 := eq_true p13; replace q13 := eq_true q13) | ((with_reducible refine gate_dst (N := 31) rfl ?_); (try (refine gate_guard (by rfl) ?_; dsimp only)); refine Kd.R_lit (Kd.int .u8) _ 5 ?hg (N := 31) ?hd (xs := ([bt a2 t276] : List Int)) (inner := [.int .u8 (bt a2 t276)]) (ok := fun _ => True) (okp := fun _ => True) ?hr ?hp (fun _ hk => hk) trivial (Below.refl _ _) (Nat.le_refl _) (by simp) ?_; (case hd => rfl); (case hg => rfl); (case hr => exact aP21); (case hp => exact (Reps.one (show Kd.M (Kd.int .u8) _ _ _ (bt a2 t276) [.int .u8 (bt a2 t276)] from rfl) (Reps.none _ _))); intro v280 w50 ho51 hb hg_ hnew_; clear hg_ hnew_; (first | rw [← Ny279.out] at ho51 | (simp only [Int.reduceToNat] at ho51; rw [← Ny279.out] at ho51)); have HO281 := aM (Kd.R_lower ho51 (keep_size (w := w) (g := g) (row := none) aP1)); replace HI0 := aM (IsS82.below aP0 hb); replace HK := aM (KeepBut.trans aP1 (KeepBut.of_below hb g none) (.inl rfl)); replace HB := aM (below_step aP2 hb); clear hb ho51; have hcv52 := own_string (P := Try.prog) Try.underlying44 Try.underlying5 Try.underlying9 (Kd.own_of_R HO281.out)) | (go_at_call 60; (with_reducible refine (spec_l1Cur_pick.calls g s0_0 t277 t278 3 t282 t283 t284 w0 _ ?side1 ?side2 A14.out).mono ?_); (case side1 => exact aP0); (case side2 => exact aP2); rintro e w53 ⟨rfl, hi, hb, hk⟩; replace HO281 := aM (Kd.R_mono (Kd.R_keep (IsS82.apart (show IsS82 w0 _ g s0_0 t277 t278 from aP0) (rR HO281.out) (by decide)) hk (fun _ h => h.2)) (fun _ h => h.1)); replace HK := aM (KeepBut.trans aP1 hk (.inl rfl)); replace HB := aM (hb); replace HI0 := aM (hi); (try clear hb); (try clear hb2); (try clear hk); (try clear hi)))
      repeat (go_quiet (first | (go_at_call 60; (with_reducible refine (spec_l1Cur_pick.calls g s0_0 x1001_1 x1002_1 (x1_1.size : Int) t273 t274 t275 w0 _ ?side1 ?side2 A9.out).mono ?_); (case side1 => exact aP0); (case side2 => exact aP2); rintro e w48 ⟨rfl, hi, hb, hk⟩; replace HK := aM (KeepBut.trans aP1 hk (.inl rfl)); replace HB := aM (hb); replace HI0 := aM (hi); (try clear hb); (try clear hb2); (try clear hk); (try clear hi)) | (go_at_call 60; (with_reducible refine (spec_l1Cur_pick.calls g s0_0 t274 t275 (a2.size : Int) t276 t277 t278 w0 _ ?side1 ?side2 A10.out).mono ?_); (case side1 => exact aP0); (case side2 => exact aP2); rintro e w49 ⟨rfl, hi, hb, hk⟩; replace HK := aM (KeepBut.trans aP1 hk (.inl rfl)); replace HB := aM (hb); replace HI0 := aM (hi); (try clear hb); (try clear hb2); (try clear hk); (try clear hi); have p13 : 0 ≤ (t276 : Int) := of_decide_eq_true (by assumption); have q13 : t276 < (a2.size : Int) := of_decide_eq_true (by assumption); have hx13 := bt_at a2 t276; replace p13 := eq_true p13; replace q13 := eq_true q13) | ((with_reducible refine gate_dst (N := 31) rfl ?_); (try (refine gate_guard (by rfl) ?_; dsimp only)); refine Kd.R_lit (Kd.int .u8) _ 5 ?hg (N := 31) ?hd (xs := ([bt a2 t276] : List Int)) (inner := [.int .u8 (bt a2 t276)]) (ok := fun _ => True) (okp := fun _ => True) ?hr ?hp (fun _ hk => hk) trivial (Below.refl _ _) (Nat.le_refl _) (by simp) ?_; (case hd => rfl); (case hg => rfl); (case hr => exact aP21); (case hp => exact (Reps.one (show Kd.M (Kd.int .u8) _ _ _ (bt a2 t276) [.int .u8 (bt a2 t276)] from rfl) (Reps.none _ _))); intro v280 w50 ho51 hb hg_ hnew_; clear hg_ hnew_; (first | rw [← Ny279.out] at ho51 | (simp only [Int.reduceToNat] at ho51; rw [← Ny279.out] at ho51)); have HO281 := aM (Kd.R_lower ho51 (keep_size (w := w) (g := g) (row := none) aP1)); replace HI0 := aM (IsS82.below aP0 hb); replace HK := aM (KeepBut.trans aP1 (KeepBut.of_below hb g none) (.inl rfl)); replace HB := aM (below_step aP2 hb); clear hb ho51; have hcv52 := own_string (P := Try.prog) Try.underlying44 Try.underlying5 Try.underlying9 (Kd.own_of_R HO281.out)) | (go_at_call 60; (with_reducible refine (spec_l1Cur_pick.calls g s0_0 t277 t278 3 t282 t283 t284 w0 _ ?side1 ?side2 A14.out).mono ?_); (case side1 => exact aP0); (case side2 => exact aP2); rintro e w53 ⟨rfl, hi, hb, hk⟩; replace HO281 := aM (Kd.R_mono (Kd.R_keep (IsS82.apart (show IsS82 w0 _ g s0_0 t277 t278 from aP0) (rR HO281.out) (by decide)) hk (fun _ h => h.2)) (fun _ h => h.1)); replace HK := aM (KeepBut.trans aP1 hk (.inl rfl)); replace HB := aM (hb); replace HI0 := aM (hi); (try clear hb); (try clear hb2); (try clear hk); (try clear hi))); try go_wp2_with (first | (go_at_call 60; (with_reducible refine (spec_l1Cur_pick.calls g s0_0 x1001_1 x1002_1 (x1_1.size : Int) t273 t274 t275 w0 _ ?side1 ?side2 A9.out).mono ?_); (case side1 => exact aP0); (case side2 => exact aP2); rintro e w48 ⟨rfl, hi, hb, hk⟩; replace HK := aM (KeepBut.trans aP1 hk (.inl rfl)); replace HB := aM (hb); replace HI0 := aM (hi); (try clear hb); (try clear hb2); (try clear hk); (try clear hi)) | (go_at_call 60; (with_reducible refine (spec_l1Cur_pick.calls g s0_0 t274 t275 (a2.size : Int) t276 t277 t278 w0 _ ?side1 ?side2 A10.out).mono ?_); (case side1 => exact aP0); (case side2 => exact aP2); rintro e w49 ⟨rfl, hi, hb, hk⟩; replace HK := aM (KeepBut.trans aP1 hk (.inl rfl)); replace HB := aM (hb); replace HI0 := aM (hi); (try clear hb); (try clear hb2); (try clear hk); (try clear hi); have p13 : 0 ≤ (t276 : Int) := of_decide_eq_true (by assumption); have q13 : t276 < (a2.size : Int) := of_decide_eq_true (by assumption); have hx13 := bt_at a2 t276; replace p13 := eq_true p13; replace q13 := eq_true q13) | ((with_reducible refine gate_dst (N := 31) rfl ?_); (try (refine gate_guard (by rfl) ?_; dsimp only)); refine Kd.R_lit (Kd.int .u8) _ 5 ?hg (N := 31) ?hd (xs := ([bt a2 t276] : List Int)) (inner := [.int .u8 (bt a2 t276)]) (ok := fun _ => True) (okp := fun _ => True) ?hr ?hp (fun _ hk => hk) trivial (Below.refl _ _) (Nat.le_refl _) (by simp) ?_; (case hd => rfl); (case hg => rfl); (case hr => exact aP21); (case hp => exact (Reps.one (show Kd.M (Kd.int .u8) _ _ _ (bt a2 t276) [.int .u8 (bt a2 t276)] from rfl) (Reps.none _ _))); intro v280 w50 ho51 hb hg_ hnew_; clear hg_ hnew_; (first | rw [← Ny279.out] at ho51 | (simp only [Int.reduceToNat] at ho51; rw [← Ny279.out] at ho51)); have HO281 := aM (Kd.R_lower ho51 (keep_size (w := w) (g := g) (row := none) aP1)); replace HI0 := aM (IsS82.below aP0 hb); replace HK := aM (KeepBut.trans aP1 (KeepBut.of_below hb g none) (.inl rfl)); replace HB := aM (below_step aP2 hb); clear hb ho51; have hcv52 := own_string (P := Try.prog) Try.underlying44 Try.underlying5 Try.underlying9 (Kd.own_of_R HO281.out)) | (go_at_call 60; (with_reducible refine (spec_l1Cur_pick.calls g s0_0 t277 t278 3 t282 t283 t284 w0 _ ?side1 ?side2 A14.out).mono ?_); (case side1 => exact aP0); (case side2 => exact aP2); rintro e w53 ⟨rfl, hi, hb, hk⟩; replace HO281 := aM (Kd.R_mono (Kd.R_keep (IsS82.apart (show IsS82 w0 _ g s0_0 t277 t278 from aP0) (rR HO281.out) (by decide)) hk (fun _ h => h.2)) (fun _ h => h.1)); replace HK := aM (KeepBut.trans aP1 hk (.inl rfl)); replace HB := aM (hb); replace HI0 := aM (hi); (try clear hb); (try clear hb2); (try clear hk); (try clear hi))))
      go_roundg kj5
      case measure => have := HK1.out; have := HJ5.out; omega
      case rel => exact ⟨((x1_1.extract 0 (t273 : Int).toNat) ++ (x1_1.extract ((ji44) : Int).toNat x1_1.size)), (wrap64 (x7_1 - 1)), (t283), (t284), (by first | rfl | (simp; done) | (simp only [← hji44] <;> (first | rfl | (simp; done) | (simp; exact isE _))) | (simp [*]; done)), aP16, (by first | exact H' | (rw [hji44]; exact H')), ⟨by have := HK1.out; have := HJ5.out; omega⟩, ⟨aP0⟩, ⟨aP1⟩, ⟨aP2⟩⟩
     rw [if_pos c28] at H
     have c28b0 : (t282 == 1) = true := beq_iff_eq.mpr c28
     have c28b1 : (t282 != 1) = false := bne_eq_false_iff_eq.mpr c28
     clear c28
     by_cases c29 : 0 ≤ t273
     rotate_left
     ·rw [if_neg c29] at H
      exact absurd H (by simp)
     rw [if_pos c29] at H
     have c29b0 := eq_true c29
     have c29b1 : decide (0 ≤ t273) = true := decide_eq_true c29
     clear c29
     by_cases c30 : t273 ≤ (x1_1.size : Int)
     rotate_left
     ·rw [if_neg c30] at H
      exact absurd H (by simp)
     rw [if_pos c30] at H
     have c30b0 := eq_true c30
     have c30b1 : decide (t273 ≤ (x1_1.size : Int)) = true := decide_eq_true c30
     clear c30
     by_cases c31 : (x1_1.extract 0 (t273 : Int).toNat).size + (strOfNums y279).size ≤ 9223372036854775807
     rotate_left
     ·rw [if_neg c31] at H
      exact absurd H (by simp)
     rw [if_pos c31] at H
     have c31b0 := eq_true c31
     have c31b1 : decide ((x1_1.extract 0 (t273 : Int).toNat).size + (strOfNums y279).size ≤ 9223372036854775807) = true := decide_eq_true c31
     try have c31b2 : (9223372036854775807 < (x1_1.extract 0 (t273 : Int).toNat).size + (strOfNums y279).size) = False := eq_false (Nat.not_lt.2 c31)
     obtain ⟨ji32, hji32⟩ : ∃ j_ : Int, (wrap64 (t273 + 1)) = j_ := ⟨_, rfl⟩
     replace H : (if 0 ≤ (ji32) then (if (ji32) ≤ (x1_1.size : Int) then (if ((x1_1.extract 0 (t273 : Int).toNat) ++ (strOfNums y279)).size + (x1_1.extract ((ji32) : Int).toNat x1_1.size).size ≤ 9223372036854775807 then (spec_l1Cur_spoilt.l0 kj5 (((x1_1.extract 0 (t273 : Int).toNat) ++ (strOfNums y279)) ++ (x1_1.extract ((ji32) : Int).toNat x1_1.size)) a2 (wrap64 (x7_1 - 1)) s0_0 t283 t284) else (none)) else (none)) else (none)) = some (r1, r2, r3) := by first | (rw [hji32] at H; exact H) | (simp only [hji32] at H ⊢; exact H)
     (try rw [hji32] at A9)
     (try rw [hji32] at A10)
     (try rw [hji32] at A14)
     have hji32w : (IntKind.i64.wrap (t273 + 1)) = ji32 := (i64_w _).trans hji32
     by_cases c33 : 0 ≤ (ji32)
     rotate_left
     ·rw [if_neg c33] at H
      exact absurd H (by simp)
     rw [if_pos c33] at H
     have c33b0 := eq_true c33
     have c33b1 : decide (0 ≤ (ji32)) = true := decide_eq_true c33
     clear c33
     by_cases c34 : (ji32) ≤ (x1_1.size : Int)
     rotate_left
     ·rw [if_neg c34] at H
      exact absurd H (by simp)
     rw [if_pos c34] at H
     have c34b0 := eq_true c34
     have c34b1 : decide ((ji32) ≤ (x1_1.size : Int)) = true := decide_eq_true c34
     clear c34
     by_cases c35 : ((x1_1.extract 0 (t273 : Int).toNat) ++ (strOfNums y279)).size + (x1_1.extract ((ji32) : Int).toNat x1_1.size).size ≤ 9223372036854775807
     rotate_left
     ·rw [if_neg c35] at H
      exact absurd H (by simp)
     rw [if_pos c35] at H
     have c35b0 := eq_true c35
     have c35b1 : decide (((x1_1.extract 0 (t273 : Int).toNat) ++ (strOfNums y279)).size + (x1_1.extract ((ji32) : Int).toNat x1_1.size).size ≤ 9223372036854775807) = true := decide_eq_true c35
     try have c35b2 : (9223372036854775807 < ((x1_1.extract 0 (t273 : Int).toNat) ++ (strOfNums y279)).size + (x1_1.extract ((ji32) : Int).toNat x1_1.size).size) = False := eq_false (Nat.not_lt.2 c35)
     try have c35s := eq_false (Nat.not_lt.2 c35)
     try simp only [ByteArray.size_append] at c35s
     have H' := aM H
     clear H
     go_wp2_with (first | (go_at_call 60; (with_reducible refine (spec_l1Cur_pick.calls g s0_0 x1001_1 x1002_1 (x1_1.size : Int) t273 t274 t275 w0 _ ?side1 ?side2 A9.out).mono ?_); (case side1 => exact aP0); (case side2 => exact aP2); rintro e w36 ⟨rfl, hi, hb, hk⟩; replace HK := aM (KeepBut.trans aP1 hk (.inl rfl)); replace HB := aM (hb); replace HI0 := aM (hi); (try clear hb); (try clear hb2); (try clear hk); (try clear hi)) | (go_at_call 60; (with_reducible refine (spec_l1Cur_pick.calls g s0_0 t274 t275 (a2.size : Int) t276 t277 t278 w0 _ ?side1 ?side2 A10.out).mono ?_); (case side1 => exact aP0); (case side2 => exact aP2); rintro e w37 ⟨rfl, hi, hb, hk⟩; replace HK := aM (KeepBut.trans aP1 hk (.inl rfl)); replace HB := aM (hb); replace HI0 := aM (hi); (try clear hb); (try clear hb2); (try clear hk); (try clear hi); have p13 : 0 ≤ (t276 : Int) := of_decide_eq_true (by assumption); have q13 : t276 < (a2.size : Int) := of_decide_eq_true (by assumption); have hx13 := bt_at a2 t276; replace p13 := eq_true p13; replace q13 := eq_true q13) | ((with_reducible refine gate_dst (N := 31) rfl ?_); (try (refine gate_guard (by rfl) ?_; dsimp only)); refine Kd.R_lit (Kd.int .u8) _ 5 ?hg (N := 31) ?hd (xs := ([bt a2 t276] : List Int)) (inner := [.int .u8 (bt a2 t276)]) (ok := fun _ => True) (okp := fun _ => True) ?hr ?hp (fun _ hk => hk) trivial (Below.refl _ _) (Nat.le_refl _) (by simp) ?_; (case hd => rfl); (case hg => rfl); (case hr => exact aP21); (case hp => exact (Reps.one (show Kd.M (Kd.int .u8) _ _ _ (bt a2 t276) [.int .u8 (bt a2 t276)] from rfl) (Reps.none _ _))); intro v280 w38 ho39 hb hg_ hnew_; clear hg_ hnew_; (first | rw [← Ny279.out] at ho39 | (simp only [Int.reduceToNat] at ho39; rw [← Ny279.out] at ho39)); have HO281 := aM (Kd.R_lower ho39 (keep_size (w := w) (g := g) (row := none) aP1)); replace HI0 := aM (IsS82.below aP0 hb); replace HK := aM (KeepBut.trans aP1 (KeepBut.of_below hb g none) (.inl rfl)); replace HB := aM (below_step aP2 hb); clear hb ho39; have hcv40 := own_string (P := Try.prog) Try.underlying44 Try.underlying5 Try.underlying9 (Kd.own_of_R HO281.out)) | (go_at_call 60; (with_reducible refine (spec_l1Cur_pick.calls g s0_0 t277 t278 3 t282 t283 t284 w0 _ ?side1 ?side2 A14.out).mono ?_); (case side1 => exact aP0); (case side2 => exact aP2); rintro e w41 ⟨rfl, hi, hb, hk⟩; replace HO281 := aM (Kd.R_mono (Kd.R_keep (IsS82.apart (show IsS82 w0 _ g s0_0 t277 t278 from aP0) (rR HO281.out) (by decide)) hk (fun _ h => h.2)) (fun _ h => h.1)); replace HK := aM (KeepBut.trans aP1 hk (.inl rfl)); replace HB := aM (hb); replace HI0 := aM (hi); (try clear hb); (try clear hb2); (try clear hk); (try clear hi)))
     repeat (go_quiet (first | (go_at_call 60; (with_reducible refine (spec_l1Cur_pick.calls g s0_0 x1001_1 x1002_1 (x1_1.size : Int) t273 t274 t275 w0 _ ?side1 ?side2 A9.out).mono ?_); (case side1 => exact aP0); (case side2 => exact aP2); rintro e w36 ⟨rfl, hi, hb, hk⟩; replace HK := aM (KeepBut.trans aP1 hk (.inl rfl)); replace HB := aM (hb); replace HI0 := aM (hi); (try clear hb); (try clear hb2); (try clear hk); (try clear hi)) | (go_at_call 60; (with_reducible refine (spec_l1Cur_pick.calls g s0_0 t274 t275 (a2.size : Int) t276 t277 t278 w0 _ ?side1 ?side2 A10.out).mono ?_); (case side1 => exact aP0); (case side2 => exact aP2); rintro e w37 ⟨rfl, hi, hb, hk⟩; replace HK := aM (KeepBut.trans aP1 hk (.inl rfl)); replace HB := aM (hb); replace HI0 := aM (hi); (try clear hb); (try clear hb2); (try clear hk); (try clear hi); have p13 : 0 ≤ (t276 : Int) := of_decide_eq_true (by assumption); have q13 : t276 < (a2.size : Int) := of_decide_eq_true (by assumption); have hx13 := bt_at a2 t276; replace p13 := eq_true p13; replace q13 := eq_true q13) | ((with_reducible refine gate_dst (N := 31) rfl ?_); (try (refine gate_guard (by rfl) ?_; dsimp only)); refine Kd.R_lit (Kd.int .u8) _ 5 ?hg (N := 31) ?hd (xs := ([bt a2 t276] : List Int)) (inner := [.int .u8 (bt a2 t276)]) (ok := fun _ => True) (okp := fun _ => True) ?hr ?hp (fun _ hk => hk) trivial (Below.refl _ _) (Nat.le_refl _) (by simp) ?_; (case hd => rfl); (case hg => rfl); (case hr => exact aP21); (case hp => exact (Reps.one (show Kd.M (Kd.int .u8) _ _ _ (bt a2 t276) [.int .u8 (bt a2 t276)] from rfl) (Reps.none _ _))); intro v280 w38 ho39 hb hg_ hnew_; clear hg_ hnew_; (first | rw [← Ny279.out] at ho39 | (simp only [Int.reduceToNat] at ho39; rw [← Ny279.out] at ho39)); have HO281 := aM (Kd.R_lower ho39 (keep_size (w := w) (g := g) (row := none) aP1)); replace HI0 := aM (IsS82.below aP0 hb); replace HK := aM (KeepBut.trans aP1 (KeepBut.of_below hb g none) (.inl rfl)); replace HB := aM (below_step aP2 hb); clear hb ho39; have hcv40 := own_string (P := Try.prog) Try.underlying44 Try.underlying5 Try.underlying9 (Kd.own_of_R HO281.out)) | (go_at_call 60; (with_reducible refine (spec_l1Cur_pick.calls g s0_0 t277 t278 3 t282 t283 t284 w0 _ ?side1 ?side2 A14.out).mono ?_); (case side1 => exact aP0); (case side2 => exact aP2); rintro e w41 ⟨rfl, hi, hb, hk⟩; replace HO281 := aM (Kd.R_mono (Kd.R_keep (IsS82.apart (show IsS82 w0 _ g s0_0 t277 t278 from aP0) (rR HO281.out) (by decide)) hk (fun _ h => h.2)) (fun _ h => h.1)); replace HK := aM (KeepBut.trans aP1 hk (.inl rfl)); replace HB := aM (hb); replace HI0 := aM (hi); (try clear hb); (try clear hb2); (try clear hk); (try clear hi))); try go_wp2_with (first | (go_at_call 60; (with_reducible refine (spec_l1Cur_pick.calls g s0_0 x1001_1 x1002_1 (x1_1.size : Int) t273 t274 t275 w0 _ ?side1 ?side2 A9.out).mono ?_); (case side1 => exact aP0); (case side2 => exact aP2); rintro e w36 ⟨rfl, hi, hb, hk⟩; replace HK := aM (KeepBut.trans aP1 hk (.inl rfl)); replace HB := aM (hb); replace HI0 := aM (hi); (try clear hb); (try clear hb2); (try clear hk); (try clear hi)) | (go_at_call 60; (with_reducible refine (spec_l1Cur_pick.calls g s0_0 t274 t275 (a2.size : Int) t276 t277 t278 w0 _ ?side1 ?side2 A10.out).mono ?_); (case side1 => exact aP0); (case side2 => exact aP2); rintro e w37 ⟨rfl, hi, hb, hk⟩; replace HK := aM (KeepBut.trans aP1 hk (.inl rfl)); replace HB := aM (hb); replace HI0 := aM (hi); (try clear hb); (try clear hb2); (try clear hk); (try clear hi); have p13 : 0 ≤ (t276 : Int) := of_decide_eq_true (by assumption); have q13 : t276 < (a2.size : Int) := of_decide_eq_true (by assumption); have hx13 := bt_at a2 t276; replace p13 := eq_true p13; replace q13 := eq_true q13) | ((with_reducible refine gate_dst (N := 31) rfl ?_); (try (refine gate_guard (by rfl) ?_; dsimp only)); refine Kd.R_lit (Kd.int .u8) _ 5 ?hg (N := 31) ?hd (xs := ([bt a2 t276] : List Int)) (inner := [.int .u8 (bt a2 t276)]) (ok := fun _ => True) (okp := fun _ => True) ?hr ?hp (fun _ hk => hk) trivial (Below.refl _ _) (Nat.le_refl _) (by simp) ?_; (case hd => rfl); (case hg => rfl); (case hr => exact aP21); (case hp => exact (Reps.one (show Kd.M (Kd.int .u8) _ _ _ (bt a2 t276) [.int .u8 (bt a2 t276)] from rfl) (Reps.none _ _))); intro v280 w38 ho39 hb hg_ hnew_; clear hg_ hnew_; (first | rw [← Ny279.out] at ho39 | (simp only [Int.reduceToNat] at ho39; rw [← Ny279.out] at ho39)); have HO281 := aM (Kd.R_lower ho39 (keep_size (w := w) (g := g) (row := none) aP1)); replace HI0 := aM (IsS82.below aP0 hb); replace HK := aM (KeepBut.trans aP1 (KeepBut.of_below hb g none) (.inl rfl)); replace HB := aM (below_step aP2 hb); clear hb ho39; have hcv40 := own_string (P := Try.prog) Try.underlying44 Try.underlying5 Try.underlying9 (Kd.own_of_R HO281.out)) | (go_at_call 60; (with_reducible refine (spec_l1Cur_pick.calls g s0_0 t277 t278 3 t282 t283 t284 w0 _ ?side1 ?side2 A14.out).mono ?_); (case side1 => exact aP0); (case side2 => exact aP2); rintro e w41 ⟨rfl, hi, hb, hk⟩; replace HO281 := aM (Kd.R_mono (Kd.R_keep (IsS82.apart (show IsS82 w0 _ g s0_0 t277 t278 from aP0) (rR HO281.out) (by decide)) hk (fun _ h => h.2)) (fun _ h => h.1)); replace HK := aM (KeepBut.trans aP1 hk (.inl rfl)); replace HB := aM (hb); replace HI0 := aM (hi); (try clear hb); (try clear hb2); (try clear hk); (try clear hi))))
     go_roundg kj5
     case measure => have := HK1.out; have := HJ5.out; omega
     case rel => exact ⟨(((x1_1.extract 0 (t273 : Int).toNat) ++ (strOfNums y279)) ++ (x1_1.extract ((ji32) : Int).toNat x1_1.size)), (wrap64 (x7_1 - 1)), (t283), (t284), (by first | rfl | (simp; done) | (simp only [← hji32] <;> (first | rfl | (simp; done) | (simp; exact isE _))) | (simp [*]; done)), aP16, (by first | exact H' | (rw [hji32]; exact H')), ⟨by have := HK1.out; have := HJ5.out; omega⟩, ⟨aP0⟩, ⟨aP1⟩, ⟨aP2⟩⟩
def spec_l1Cur_doc.j0 : Nat → ByteArray → List Int → Int → Int → Option (ByteArray × Int × Int)
 | 0, _, _, _, _ => none
 | k + 1, x3, x1000, x1001, x1002 => (spec_l1Cur_one.f x1000 x1001 x1002 12).bind fun bt303 => (if bt303.1 = true then ((spec_l1Cur_spoilt.f k x1000 bt303.2.1 bt303.2.2 x3 (⟨#[65, 47, 97, 90]⟩ : ByteArray)).bind fun bt306 => (some (bt306.1, bt306.2.1, bt306.2.2))) else (some (x3, bt303.2.1, bt303.2.2)))
def spec_l1Cur_doc.f (k : Nat) (s0_0 : List Int) (s0_1 : Int) (s0_2 : Int) : Option (ByteArray × Int × Int) := (spec_l1Cur_pick.f s0_0 s0_1 s0_2 7).bind fun bt285 => ((spec_l1Cur_inner.f k s0_0 bt285.2.1 bt285.2.2 bt285.1 3).bind fun bt288 => ((spec_l1Cur_pick.f s0_0 bt288.2.1 bt288.2.2 30).bind fun bt291 => (if bt291.1 = 0 then ((spec_l1Cur_inner.f k s0_0 bt291.2.1 bt291.2.2 60 3).bind fun bt294 => (spec_l1Cur_doc.j0 k bt294.1 s0_0 bt294.2.1 bt294.2.2)) else (if bt291.1 = 1 then ((spec_l1Cur_of.f s0_0 bt291.2.1 bt291.2.2 (([(⟨#[65, 65, 65, 65, 65, 65, 65, 65, 65, 65, 65, 65, 47, 47, 47, 47, 47, 47, 47, 47, 47, 47, 47, 47]⟩ : ByteArray), (⟨#[65, 65, 65, 65, 65, 65, 65, 65, 65, 65, 65, 65, 65, 47, 47, 47, 47, 47, 47, 47, 47, 47, 47, 47, 47, 47]⟩ : ByteArray)] : List ByteArray))).bind fun bt300 => (spec_l1Cur_doc.j0 k bt300.1 s0_0 bt300.2.1 bt300.2.2)) else (spec_l1Cur_doc.j0 k bt288.1 s0_0 bt291.2.1 bt291.2.2)))))
theorem spec_l1Cur_doc.mono_l : ∀ k, (∀ y0 y1 y2 y3, LeO (spec_l1Cur_doc.j0 k y0 y1 y2 y3) (spec_l1Cur_doc.j0 (k + 1) y0 y1 y2 y3))
 | 0 => fun _ _ _ _ r h => by simp [spec_l1Cur_doc.j0] at h
 | k + 1 => by
  have ih0 := spec_l1Cur_doc.mono_l k
  ·intro y0 y1 y2 y3
   unfold spec_l1Cur_doc.j0
   repeat' (with_reducible first | exact ih0 _ _ _ _ | exact spec_l1Cur_inner.mono _ _ _ _ _ _ | exact spec_l1Cur_spoilt.mono _ _ _ _ _ _ | exact LeO.refl _ | exact LeO.none _ | refine LeO.ite ?_ ?_ | refine LeO.bind ?_ (fun _ => ?_))
theorem spec_l1Cur_doc.mono : ∀ a0 a1 a2 k, LeO (spec_l1Cur_doc.f k a0 a1 a2) (spec_l1Cur_doc.f (k + 1) a0 a1 a2) := by
 intro a0 a1 a2 k
 have ih0 := spec_l1Cur_doc.mono_l k
 unfold spec_l1Cur_doc.f
 repeat' (with_reducible first | exact ih0 _ _ _ _ | exact spec_l1Cur_inner.mono _ _ _ _ _ _ | exact spec_l1Cur_spoilt.mono _ _ _ _ _ _ | exact LeO.refl _ | exact LeO.none _ | refine LeO.ite ?_ ?_ | refine LeO.bind ?_ (fun _ => ?_))
set_option maxHeartbeats 8000000 in
set_option maxRecDepth 100000 in
theorem spec_l1Cur_doc.calls (k : Nat) (g : Nat) (s0_0 : List Int) (s0_1 : Int) (s0_2 : Int) (r1 : ByteArray) (r2 : Int) (r3 : Int) (w0 w : World) (hI : IsS82 w0 w g s0_0 s0_1 s0_2) (hB : Below w0.heap.size w0 w) (h : spec_l1Cur_doc.f k s0_0 s0_1 s0_2 = some (r1, r2, r3)) :
  Calls Try.prog 78 #[.pointer (some ⟨g, 0, none⟩)] w fun e w' => e = .returned (.string r1) ∧ IsS82 w0 w' g s0_0 r2 r3 ∧ Below w0.heap.size w0 w' ∧ KeepBut w w' g none := by
 have HI0 := aM hI
 have HK := aM (KeepBut.refl w g none)
 have HL := aM hB.size
 clear hI
 have HW0 := aM hB.size
 have HB := aM hB
 clear hB
 have H : ((spec_l1Cur_pick.f s0_0 s0_1 s0_2 7).bind fun bt285 => ((spec_l1Cur_inner.f k s0_0 bt285.2.1 bt285.2.2 bt285.1 3).bind fun bt288 => ((spec_l1Cur_pick.f s0_0 bt288.2.1 bt288.2.2 30).bind fun bt291 => (if bt291.1 = 0 then ((spec_l1Cur_inner.f k s0_0 bt291.2.1 bt291.2.2 60 3).bind fun bt294 => (spec_l1Cur_doc.j0 k bt294.1 s0_0 bt294.2.1 bt294.2.2)) else (if bt291.1 = 1 then ((spec_l1Cur_of.f s0_0 bt291.2.1 bt291.2.2 (([(⟨#[65, 65, 65, 65, 65, 65, 65, 65, 65, 65, 65, 65, 47, 47, 47, 47, 47, 47, 47, 47, 47, 47, 47, 47]⟩ : ByteArray), (⟨#[65, 65, 65, 65, 65, 65, 65, 65, 65, 65, 65, 65, 65, 47, 47, 47, 47, 47, 47, 47, 47, 47, 47, 47, 47, 47]⟩ : ByteArray)] : List ByteArray))).bind fun bt300 => (spec_l1Cur_doc.j0 k bt300.1 s0_0 bt300.2.1 bt300.2.2)) else (spec_l1Cur_doc.j0 k bt288.1 s0_0 bt291.2.1 bt291.2.2)))))) = some (r1, r2, r3) := h
 clear h
 replace H := Option.bind_eq_some_iff.mp H
 obtain ⟨⟨t285, t286, t287⟩, A20, H⟩ := H
 replace H : ((spec_l1Cur_inner.f k s0_0 t286 t287 t285 3).bind fun bt288 => ((spec_l1Cur_pick.f s0_0 bt288.2.1 bt288.2.2 30).bind fun bt291 => (if bt291.1 = 0 then ((spec_l1Cur_inner.f k s0_0 bt291.2.1 bt291.2.2 60 3).bind fun bt294 => (spec_l1Cur_doc.j0 k bt294.1 s0_0 bt294.2.1 bt294.2.2)) else (if bt291.1 = 1 then ((spec_l1Cur_of.f s0_0 bt291.2.1 bt291.2.2 (([(⟨#[65, 65, 65, 65, 65, 65, 65, 65, 65, 65, 65, 65, 47, 47, 47, 47, 47, 47, 47, 47, 47, 47, 47, 47]⟩ : ByteArray), (⟨#[65, 65, 65, 65, 65, 65, 65, 65, 65, 65, 65, 65, 65, 47, 47, 47, 47, 47, 47, 47, 47, 47, 47, 47, 47, 47]⟩ : ByteArray)] : List ByteArray))).bind fun bt300 => (spec_l1Cur_doc.j0 k bt300.1 s0_0 bt300.2.1 bt300.2.2)) else (spec_l1Cur_doc.j0 k bt288.1 s0_0 bt291.2.1 bt291.2.2))))) = some (r1, r2, r3) := H
 have A2 := aM A20
 clear A20
 replace H := Option.bind_eq_some_iff.mp H
 obtain ⟨⟨t288, t289, t290⟩, A30, H⟩ := H
 replace H : ((spec_l1Cur_pick.f s0_0 t289 t290 30).bind fun bt291 => (if bt291.1 = 0 then ((spec_l1Cur_inner.f k s0_0 bt291.2.1 bt291.2.2 60 3).bind fun bt294 => (spec_l1Cur_doc.j0 k bt294.1 s0_0 bt294.2.1 bt294.2.2)) else (if bt291.1 = 1 then ((spec_l1Cur_of.f s0_0 bt291.2.1 bt291.2.2 (([(⟨#[65, 65, 65, 65, 65, 65, 65, 65, 65, 65, 65, 65, 47, 47, 47, 47, 47, 47, 47, 47, 47, 47, 47, 47]⟩ : ByteArray), (⟨#[65, 65, 65, 65, 65, 65, 65, 65, 65, 65, 65, 65, 65, 47, 47, 47, 47, 47, 47, 47, 47, 47, 47, 47, 47, 47]⟩ : ByteArray)] : List ByteArray))).bind fun bt300 => (spec_l1Cur_doc.j0 k bt300.1 s0_0 bt300.2.1 bt300.2.2)) else (spec_l1Cur_doc.j0 k t288 s0_0 bt291.2.1 bt291.2.2)))) = some (r1, r2, r3) := H
 have A3 := aM A30
 clear A30
 replace H := Option.bind_eq_some_iff.mp H
 obtain ⟨⟨t291, t292, t293⟩, A40, H⟩ := H
 replace H : (if t291 = 0 then ((spec_l1Cur_inner.f k s0_0 t292 t293 60 3).bind fun bt294 => (spec_l1Cur_doc.j0 k bt294.1 s0_0 bt294.2.1 bt294.2.2)) else (if t291 = 1 then ((spec_l1Cur_of.f s0_0 t292 t293 (([(⟨#[65, 65, 65, 65, 65, 65, 65, 65, 65, 65, 65, 65, 47, 47, 47, 47, 47, 47, 47, 47, 47, 47, 47, 47]⟩ : ByteArray), (⟨#[65, 65, 65, 65, 65, 65, 65, 65, 65, 65, 65, 65, 65, 47, 47, 47, 47, 47, 47, 47, 47, 47, 47, 47, 47, 47]⟩ : ByteArray)] : List ByteArray))).bind fun bt300 => (spec_l1Cur_doc.j0 k bt300.1 s0_0 bt300.2.1 bt300.2.2)) else (spec_l1Cur_doc.j0 k t288 s0_0 t292 t293))) = some (r1, r2, r3) := H
 have A4 := aM A40
 clear A40
 have HC5 := aM H
 clear H
 go_enter Try.func78, Try.ntmps78
 go_upto_block 0 with (first | ((with_reducible refine gate_callee (f := 60) rfl ?_); refine goesL_ (some 6) rfl rfl Try.func60 (by kernel_rfl) rfl #[.pointer (some ⟨g, 0, none⟩), .int .i64 7] rfl mM ?_; (with_reducible refine (spec_l1Cur_pick.calls g s0_0 s0_1 s0_2 7 t285 t286 t287 w0 _ ?side1 ?side2 A2.out).mono ?_); (case side1 => exact aP0); (case side2 => exact aP2); rintro e w6 ⟨rfl, hi, hb, hk⟩; refine ⟨_, rfl, ?_⟩; replace HK := aM (KeepBut.trans aP1 hk (.inl rfl)); replace HB := aM (hb); replace HI0 := aM (hi); (try clear hb); (try clear hb2); (try clear hk); (try clear hi)) | ((with_reducible refine gate_callee (f := 85) rfl ?_); refine goesL_ (some 7) rfl rfl Try.func85 (by kernel_rfl) rfl #[.pointer (some ⟨g, 0, none⟩), .int .i64 t285, .int .i64 3] rfl mM ?_; (with_reducible refine (spec_l1Cur_inner.calls k g s0_0 t286 t287 t285 3 t288 t289 t290 w0 _ ?side1 ?side2 A3.out).mono ?_); (case side1 => exact aP0); (case side2 => exact aP2); rintro e w7 ⟨rfl, hi, hb, hk⟩; refine ⟨_, rfl, ?_⟩; replace HK := aM (KeepBut.trans aP1 hk (.inl rfl)); replace HB := aM (hb); replace HI0 := aM (hi); (try clear hb); (try clear hb2); (try clear hk); (try clear hi)) | ((with_reducible refine gate_callee (f := 60) rfl ?_); refine goesL_ (some 9) rfl rfl Try.func60 (by kernel_rfl) rfl #[.pointer (some ⟨g, 0, none⟩), .int .i64 30] rfl mM ?_; (with_reducible refine (spec_l1Cur_pick.calls g s0_0 t289 t290 30 t291 t292 t293 w0 _ ?side1 ?side2 A4.out).mono ?_); (case side1 => exact aP0); (case side2 => exact aP2); rintro e w8 ⟨rfl, hi, hb, hk⟩; refine ⟨_, rfl, ?_⟩; replace HK := aM (KeepBut.trans aP1 hk (.inl rfl)); replace HB := aM (hb); replace HI0 := aM (hi); (try clear hb); (try clear hb2); (try clear hk); (try clear hi)))
 (try simp only [Act.put, List.setIfInBounds_toArray, List.set_cons_zero, List.set_cons_succ])
 go_cut [3] (fun v3 wc => ∃ (kq : Nat) (x3_4 : ByteArray) (x1001_4 : Int) (x1002_4 : Int), v3 = .string x3_4 ∧ Aside0 (spec_l1Cur_doc.j0 kq x3_4 s0_0 x1001_4 x1002_4 = some (r1, r2, r3)) ∧ Aside0 (kq ≤ k) ∧ Aside0 (IsS82 w0 wc g s0_0 x1001_4 x1002_4) ∧ Aside0 (KeepBut w wc g none) ∧ Aside0 (Below w0.heap.size w0 wc))
 case first =>
  have H := HC5.out
  clear HC5
  by_cases c9 : t291 = 0
  ·rw [if_pos c9] at H
   have c9b0 : (t291 == 0) = true := beq_iff_eq.mpr c9
   have c9b1 : (t291 != 0) = false := bne_eq_false_iff_eq.mpr c9
   clear c9
   (first | rw [c9b0] | (simp only [i64_w, i32_w]; rw [c9b0]) | rw [c9e] | skip)
   replace H := Option.bind_eq_some_iff.mp H
   obtain ⟨⟨t294, t295, t296⟩, A100, H⟩ := H
   replace H : (spec_l1Cur_doc.j0 k t294 s0_0 t295 t296) = some (r1, r2, r3) := H
   have A10 := aM A100
   clear A100
   have H' := aM H
   clear H
   go_wp2_with (first | ((with_reducible refine gate_callee (f := 85) rfl ?_); refine goesL_ (some 13) rfl rfl Try.func85 (by kernel_rfl) rfl #[.pointer (some ⟨g, 0, none⟩), .int .i64 60, .int .i64 3] rfl mM ?_; (with_reducible refine (spec_l1Cur_inner.calls k g s0_0 t292 t293 60 3 t294 t295 t296 w0 _ ?side1 ?side2 A10.out).mono ?_); (case side1 => exact aP0); (case side2 => exact aP2); rintro e w11 ⟨rfl, hi, hb, hk⟩; refine ⟨_, rfl, ?_⟩; replace HK := aM (KeepBut.trans aP1 hk (.inl rfl)); replace HB := aM (hb); replace HI0 := aM (hi); (try clear hb); (try clear hb2); (try clear hk); (try clear hi)))
   go_meet
   case rel => exact ⟨_, (t294), (t295), (t296), aP16, H', ⟨by first | omega | exact Nat.le_refl _⟩, ⟨aP0⟩, ⟨aP1⟩, ⟨aP2⟩⟩
  rw [if_neg c9] at H
  have c9b0 : (t291 == 0) = false := beq_eq_false_iff_ne.mpr c9
  have c9b1 : (t291 != 0) = true := bne_iff_ne.mpr c9
  (first | rw [c9b0] | (simp only [i64_w, i32_w]; rw [c9b0]) | rw [c9e] | skip)
  by_cases c12 : t291 = 1
  rotate_left
  ·rw [if_neg c12] at H
   have c12b0 : (t291 == 1) = false := beq_eq_false_iff_ne.mpr c12
   have c12b1 : (t291 != 1) = true := bne_iff_ne.mpr c12
   have H' := aM H
   clear H
   go_wp2
   go_meet
   case rel => exact ⟨_, (t288), (t292), (t293), aP16, H', ⟨by first | omega | exact Nat.le_refl _⟩, ⟨aP0⟩, ⟨aP1⟩, ⟨aP2⟩⟩
  rw [if_pos c12] at H
  have c12b0 : (t291 == 1) = true := beq_iff_eq.mpr c12
  have c12b1 : (t291 != 1) = false := bne_eq_false_iff_eq.mpr c12
  clear c12
  obtain ⟨y297, hy297⟩ : ∃ y_ : List ByteArray, y_ = (([(⟨#[65, 65, 65, 65, 65, 65, 65, 65, 65, 65, 65, 65, 47, 47, 47, 47, 47, 47, 47, 47, 47, 47, 47, 47]⟩ : ByteArray), (⟨#[65, 65, 65, 65, 65, 65, 65, 65, 65, 65, 65, 65, 65, 47, 47, 47, 47, 47, 47, 47, 47, 47, 47, 47, 47, 47]⟩ : ByteArray)] : List ByteArray)) := ⟨_, rfl⟩
  replace H : ((spec_l1Cur_of.f s0_0 t292 t293 y297).bind fun bt300 => (spec_l1Cur_doc.j0 k bt300.1 s0_0 bt300.2.1 bt300.2.2)) = some (r1, r2, r3) := by first | (rw [hy297]; with_reducible exact H) | (have H2_ := (Option.bind_some _ _).symm.trans H; rw [hy297]; with_reducible exact H2_) | (have H2_ := (Option.bind_some _ _).symm.trans H; with_reducible exact H2_) | with_reducible exact H | (rw [hy297]; exact H) | exact H
  have Ny297 := aM hy297
  clear hy297
  replace H := Option.bind_eq_some_iff.mp H
  obtain ⟨⟨t300, t301, t302⟩, A130, H⟩ := H
  replace H : (spec_l1Cur_doc.j0 k t300 s0_0 t301 t302) = some (r1, r2, r3) := H
  have A13 := aM A130
  clear A130
  have H' := aM H
  clear H
  go_wp2_with (first | ((with_reducible refine gate_dst (N := 17) rfl ?_); refine Kd.R_lit Kd.string _ 9 ?hg (N := 17) ?hd (xs := ([(⟨#[65, 65, 65, 65, 65, 65, 65, 65, 65, 65, 65, 65, 47, 47, 47, 47, 47, 47, 47, 47, 47, 47, 47, 47]⟩ : ByteArray), (⟨#[65, 65, 65, 65, 65, 65, 65, 65, 65, 65, 65, 65, 65, 47, 47, 47, 47, 47, 47, 47, 47, 47, 47, 47, 47, 47]⟩ : ByteArray)] : List ByteArray)) (inner := [.string (⟨#[65, 65, 65, 65, 65, 65, 65, 65, 65, 65, 65, 65, 47, 47, 47, 47, 47, 47, 47, 47, 47, 47, 47, 47]⟩ : ByteArray), .string (⟨#[65, 65, 65, 65, 65, 65, 65, 65, 65, 65, 65, 65, 65, 47, 47, 47, 47, 47, 47, 47, 47, 47, 47, 47, 47, 47]⟩ : ByteArray)]) (ok := fun _ => True) (okp := fun _ => True) ?hr ?hp (fun _ hk => hk) trivial (Below.refl _ _) (Nat.le_refl _) (by simp) ?_; (case hd => rfl); (case hg => rfl); (case hr => exact aP21); (case hp => exact (Reps.one (show Kd.M Kd.string _ _ _ (⟨#[65, 65, 65, 65, 65, 65, 65, 65, 65, 65, 65, 65, 47, 47, 47, 47, 47, 47, 47, 47, 47, 47, 47, 47]⟩ : ByteArray) [.string (⟨#[65, 65, 65, 65, 65, 65, 65, 65, 65, 65, 65, 65, 47, 47, 47, 47, 47, 47, 47, 47, 47, 47, 47, 47]⟩ : ByteArray)] from rfl) (Reps.one (show Kd.M Kd.string _ _ _ (⟨#[65, 65, 65, 65, 65, 65, 65, 65, 65, 65, 65, 65, 65, 47, 47, 47, 47, 47, 47, 47, 47, 47, 47, 47, 47, 47]⟩ : ByteArray) [.string (⟨#[65, 65, 65, 65, 65, 65, 65, 65, 65, 65, 65, 65, 65, 47, 47, 47, 47, 47, 47, 47, 47, 47, 47, 47, 47, 47]⟩ : ByteArray)] from rfl) (Reps.none _ _)))); intro v298 w14 ho15 hb hg_ hnew_; clear hg_ hnew_; (first | rw [← Ny297.out] at ho15 | (simp only [Int.reduceToNat] at ho15; rw [← Ny297.out] at ho15)); have HO299 := aM (Kd.R_lower ho15 (keep_size (w := w) (g := g) (row := none) aP1)); replace HI0 := aM (IsS82.below aP0 hb); replace HK := aM (KeepBut.trans aP1 (KeepBut.of_below hb g none) (.inl rfl)); replace HB := aM (below_step aP2 hb); clear hb ho15; obtain ⟨Ao16, co16, eo16⟩ := Kd.R_slice HO299.out; subst eo16) | ((with_reducible refine gate_callee (f := 80) rfl ?_); refine goesL_ (some 18) rfl rfl Try.func80 (by kernel_rfl) rfl #[.pointer (some ⟨g, 0, none⟩), .slice Ao16 y297.length co16] rfl mM ?_; (with_reducible refine (spec_l1Cur_of.calls g s0_0 t292 t293 _ _ y297 t300 t301 t302 w0 _ ?side1 ?side2 ?side3 ?side4 ?side5 A13.out).mono ?_); (case side1 => exact aP0); (case side2 => exact aP2); (case side3 => exact cC ((Kd.R_reads' HO299.out).2.2)); (case side4 => exact (Kd.R_reads' HO299.out).2.1); (case side5 => exact far_slice (IsS82.own_ne HI0.out HO299.out (by decide))); rintro e w17 ⟨rfl, hi, hb, hk⟩; refine ⟨_, rfl, ?_⟩; replace HO299 := aM (Kd.R_mono (Kd.R_keep (IsS82.apart (show IsS82 w0 _ g s0_0 t292 t293 from aP0) (rR HO299.out) (by decide)) hk (fun _ h => h.2)) (fun _ h => h.1)); replace HK := aM (KeepBut.trans aP1 hk (.inl rfl)); replace HB := aM (hb); replace HI0 := aM (hi); (try clear hb); (try clear hb2); (try clear hk); (try clear hi)))
  go_meet
  case rel => exact ⟨_, (t300), (t301), (t302), aP16, H', ⟨by first | omega | exact Nat.le_refl _⟩, ⟨aP0⟩, ⟨aP1⟩, ⟨aP2⟩⟩
 case rest =>
  clear HC5
  try clear c1
  try clear p2
  try clear c6
  try clear c7
  try clear c8
  try clear c9
  try clear c9b0
  try clear c9b1
  try clear c12
  try clear c12b0
  try clear c12b1
  obtain ⟨kq, x3_4, x1001_4, x1002_4, rfl, HA, HJ4, HI0, HK, HB⟩ := hcut
  cases kq with
  | zero => exact absurd HA.out (by simp [spec_l1Cur_doc.j0])
  | succ kj4 =>
   have H := HA.out
   clear HA
   simp only [spec_l1Cur_doc.j0] at H
   replace H := Option.bind_eq_some_iff.mp H
   obtain ⟨⟨t303, t304, t305⟩, A180, H⟩ := H
   replace H : (if t303 = true then ((spec_l1Cur_spoilt.f kj4 s0_0 t304 t305 x3_4 (⟨#[65, 47, 97, 90]⟩ : ByteArray)).bind fun bt306 => (some (bt306.1, bt306.2.1, bt306.2.2))) else (some (x3_4, t304, t305))) = some (r1, r2, r3) := H
   have A18 := aM A180
   clear A180
   by_cases c19 : t303 = true
   rotate_left
   ·replace c19 := Bool.eq_false_iff.mpr c19
    subst c19
    replace H : (some (x3_4, t304, t305)) = some (r1, r2, r3) := by rw [if_neg (show ¬ (false = true) by decide)] at H; exact H
    simp only [Option.some.injEq, Prod.mk.injEq] at H
    obtain ⟨rfl, rfl, rfl⟩ := H
    go_wp2_with (first | ((with_reducible refine gate_callee (f := 62) rfl ?_); refine goesL_ (some 20) rfl rfl Try.func62 (by kernel_rfl) rfl #[.pointer (some ⟨g, 0, none⟩), .int .i64 12] rfl mM ?_; (with_reducible refine (spec_l1Cur_one.calls g s0_0 x1001_4 x1002_4 12 false t304 t305 w0 _ ?side1 ?side2 A18.out).mono ?_); (case side1 => exact aP0); (case side2 => exact aP2); rintro e w23 ⟨rfl, hi, hb, hk⟩; refine ⟨_, rfl, ?_⟩; replace HK := aM (KeepBut.trans aP1 hk (.inl rfl)); replace HB := aM (hb); replace HI0 := aM (hi); (try clear hb); (try clear hb2); (try clear hk); (try clear hi)))
    go_ret
    exact ⟨eR, by (try simp only [Int.add_zero]); exact aP0, by exact aP2, aP1⟩
   subst c19
   replace H : ((spec_l1Cur_spoilt.f kj4 s0_0 t304 t305 x3_4 (⟨#[65, 47, 97, 90]⟩ : ByteArray)).bind fun bt306 => (some (bt306.1, bt306.2.1, bt306.2.2))) = some (r1, r2, r3) := by rw [if_pos rfl] at H; exact H
   replace H := Option.bind_eq_some_iff.mp H
   obtain ⟨⟨t306, t307, t308⟩, A200, H⟩ := H
   replace H : (some (t306, t307, t308)) = some (r1, r2, r3) := H
   have A20 := aM A200
   clear A200
   simp only [Option.some.injEq, Prod.mk.injEq] at H
   obtain ⟨rfl, rfl, rfl⟩ := H
   go_wp2_with (first | ((with_reducible refine gate_callee (f := 62) rfl ?_); refine goesL_ (some 20) rfl rfl Try.func62 (by kernel_rfl) rfl #[.pointer (some ⟨g, 0, none⟩), .int .i64 12] rfl mM ?_; (with_reducible refine (spec_l1Cur_one.calls g s0_0 x1001_4 x1002_4 12 true t304 t305 w0 _ ?side1 ?side2 A18.out).mono ?_); (case side1 => exact aP0); (case side2 => exact aP2); rintro e w21 ⟨rfl, hi, hb, hk⟩; refine ⟨_, rfl, ?_⟩; replace HK := aM (KeepBut.trans aP1 hk (.inl rfl)); replace HB := aM (hb); replace HI0 := aM (hi); (try clear hb); (try clear hb2); (try clear hk); (try clear hi)) | ((with_reducible refine gate_callee (f := 86) rfl ?_); refine goesL_ (some 23) rfl rfl Try.func86 (by kernel_rfl) rfl #[.pointer (some ⟨g, 0, none⟩), .string x3_4, .string (⟨#[65, 47, 97, 90]⟩ : ByteArray)] rfl mM ?_; (with_reducible refine (spec_l1Cur_spoilt.calls kj4 g s0_0 t304 t305 x3_4 (⟨#[65, 47, 97, 90]⟩ : ByteArray) t306 t307 t308 w0 _ ?side1 ?side2 A20.out).mono ?_); (case side1 => exact aP0); (case side2 => exact aP2); rintro e w22 ⟨rfl, hi, hb, hk⟩; refine ⟨_, rfl, ?_⟩; replace HK := aM (KeepBut.trans aP1 hk (.inl rfl)); replace HB := aM (hb); replace HI0 := aM (hi); (try clear hb); (try clear hb2); (try clear hk); (try clear hi)))
   go_ret
   exact ⟨eR, by (try simp only [Int.add_zero]); exact aP0, by exact aP2, aP1⟩
def spec_l1Cur_plainText.f (k : Nat) (s0_0 : List Int) (s0_1 : Int) (s0_2 : Int) : Option (ByteArray × Int × Int) := (spec_l1Cur_doc.f k s0_0 s0_1 s0_2).bind fun bt309 => ((spec_GoodText.f k bt309.1).bind fun t312 => (if t312 = true then (if (bt309.1.size : Int) > 40 then ((spec_l1Cur_one.f s0_0 bt309.2.1 bt309.2.2 20).bind fun bt313 => (if bt313.1 = true then (some (bt309.1, bt313.2.1, bt313.2.2)) else (if 0 ≤ 40 then (if 40 ≤ (bt309.1.size : Int) then (some (bt309.1.extract 0 40, bt313.2.1, bt313.2.2)) else (none)) else (none)))) else (some (bt309.1, bt309.2.1, bt309.2.2))) else (if 4 > 40 then ((spec_l1Cur_one.f s0_0 bt309.2.1 bt309.2.2 20).bind fun bt316 => (if bt316.1 = true then (some ((⟨#[116, 101, 120, 116]⟩ : ByteArray), bt316.2.1, bt316.2.2)) else (if 0 ≤ 40 then (if 40 ≤ 4 then (some ((⟨#[116, 101, 120, 116]⟩ : ByteArray).extract 0 40, bt316.2.1, bt316.2.2)) else (none)) else (none)))) else (some ((⟨#[116, 101, 120, 116]⟩ : ByteArray), bt309.2.1, bt309.2.2)))))
theorem spec_l1Cur_plainText.mono : ∀ a0 a1 a2 k, LeO (spec_l1Cur_plainText.f k a0 a1 a2) (spec_l1Cur_plainText.f (k + 1) a0 a1 a2) := by
 intro a0 a1 a2 k
 unfold spec_l1Cur_plainText.f
 repeat' (with_reducible first | exact spec_GoodText.mono _ _ | exact spec_l1Cur_doc.mono _ _ _ _ | exact LeO.refl _ | exact LeO.none _ | refine LeO.ite ?_ ?_ | refine LeO.bind ?_ (fun _ => ?_))
set_option maxHeartbeats 8000000 in
set_option maxRecDepth 100000 in
theorem spec_l1Cur_plainText.calls (k : Nat) (g : Nat) (s0_0 : List Int) (s0_1 : Int) (s0_2 : Int) (r1 : ByteArray) (r2 : Int) (r3 : Int) (w0 w : World) (hI : IsS82 w0 w g s0_0 s0_1 s0_2) (hB : Below w0.heap.size w0 w) (h : spec_l1Cur_plainText.f k s0_0 s0_1 s0_2 = some (r1, r2, r3)) :
  Calls Try.prog 58 #[.pointer (some ⟨g, 0, none⟩)] w fun e w' => e = .returned (.string r1) ∧ IsS82 w0 w' g s0_0 r2 r3 ∧ Below w0.heap.size w0 w' ∧ KeepBut w w' g none := by
 have HI0 := aM hI
 have HK := aM (KeepBut.refl w g none)
 have HL := aM hB.size
 clear hI
 have HW0 := aM hB.size
 have HB := aM hB
 clear hB
 have H : ((spec_l1Cur_doc.f k s0_0 s0_1 s0_2).bind fun bt309 => ((spec_GoodText.f k bt309.1).bind fun t312 => (if t312 = true then (if (bt309.1.size : Int) > 40 then ((spec_l1Cur_one.f s0_0 bt309.2.1 bt309.2.2 20).bind fun bt313 => (if bt313.1 = true then (some (bt309.1, bt313.2.1, bt313.2.2)) else (if 0 ≤ 40 then (if 40 ≤ (bt309.1.size : Int) then (some (bt309.1.extract 0 40, bt313.2.1, bt313.2.2)) else (none)) else (none)))) else (some (bt309.1, bt309.2.1, bt309.2.2))) else (if 4 > 40 then ((spec_l1Cur_one.f s0_0 bt309.2.1 bt309.2.2 20).bind fun bt316 => (if bt316.1 = true then (some ((⟨#[116, 101, 120, 116]⟩ : ByteArray), bt316.2.1, bt316.2.2)) else (if 0 ≤ 40 then (if 40 ≤ 4 then (some ((⟨#[116, 101, 120, 116]⟩ : ByteArray).extract 0 40, bt316.2.1, bt316.2.2)) else (none)) else (none)))) else (some ((⟨#[116, 101, 120, 116]⟩ : ByteArray), bt309.2.1, bt309.2.2)))))) = some (r1, r2, r3) := h
 clear h
 replace H := Option.bind_eq_some_iff.mp H
 obtain ⟨⟨t309, t310, t311⟩, A20, H⟩ := H
 replace H : ((spec_GoodText.f k t309).bind fun t312 => (if t312 = true then (if (t309.size : Int) > 40 then ((spec_l1Cur_one.f s0_0 t310 t311 20).bind fun bt313 => (if bt313.1 = true then (some (t309, bt313.2.1, bt313.2.2)) else (if 0 ≤ 40 then (if 40 ≤ (t309.size : Int) then (some (t309.extract 0 40, bt313.2.1, bt313.2.2)) else (none)) else (none)))) else (some (t309, t310, t311))) else (if 4 > 40 then ((spec_l1Cur_one.f s0_0 t310 t311 20).bind fun bt316 => (if bt316.1 = true then (some ((⟨#[116, 101, 120, 116]⟩ : ByteArray), bt316.2.1, bt316.2.2)) else (if 0 ≤ 40 then (if 40 ≤ 4 then (some ((⟨#[116, 101, 120, 116]⟩ : ByteArray).extract 0 40, bt316.2.1, bt316.2.2)) else (none)) else (none)))) else (some ((⟨#[116, 101, 120, 116]⟩ : ByteArray), t310, t311))))) = some (r1, r2, r3) := H
 have A2 := aM A20
 clear A20
 replace H := Option.bind_eq_some_iff.mp H
 obtain ⟨t312, A30, H⟩ := H
 replace H : (if t312 = true then (if (t309.size : Int) > 40 then ((spec_l1Cur_one.f s0_0 t310 t311 20).bind fun bt313 => (if bt313.1 = true then (some (t309, bt313.2.1, bt313.2.2)) else (if 0 ≤ 40 then (if 40 ≤ (t309.size : Int) then (some (t309.extract 0 40, bt313.2.1, bt313.2.2)) else (none)) else (none)))) else (some (t309, t310, t311))) else (if 4 > 40 then ((spec_l1Cur_one.f s0_0 t310 t311 20).bind fun bt316 => (if bt316.1 = true then (some ((⟨#[116, 101, 120, 116]⟩ : ByteArray), bt316.2.1, bt316.2.2)) else (if 0 ≤ 40 then (if 40 ≤ 4 then (some ((⟨#[116, 101, 120, 116]⟩ : ByteArray).extract 0 40, bt316.2.1, bt316.2.2)) else (none)) else (none)))) else (some ((⟨#[116, 101, 120, 116]⟩ : ByteArray), t310, t311)))) = some (r1, r2, r3) := H
 have A3 := aM A30
 clear A30
 by_cases c4 : t312 = true
 rotate_left
 ·replace c4 := Bool.eq_false_iff.mpr c4
  subst c4
  replace H : (if 4 > 40 then ((spec_l1Cur_one.f s0_0 t310 t311 20).bind fun bt316 => (if bt316.1 = true then (some ((⟨#[116, 101, 120, 116]⟩ : ByteArray), bt316.2.1, bt316.2.2)) else (if 0 ≤ 40 then (if 40 ≤ 4 then (some ((⟨#[116, 101, 120, 116]⟩ : ByteArray).extract 0 40, bt316.2.1, bt316.2.2)) else (none)) else (none)))) else (some ((⟨#[116, 101, 120, 116]⟩ : ByteArray), t310, t311))) = some (r1, r2, r3) := by rw [if_neg (show ¬ (false = true) by decide)] at H; exact H
  by_cases c15 : 4 > 40
  ·exact absurd c15 (by omega)
  rw [if_neg c15] at H
  have c15b0 : decide (40 < 4) = false := decide_eq_false c15
  clear c15
  simp only [Option.some.injEq, Prod.mk.injEq] at H
  obtain ⟨rfl, rfl, rfl⟩ := H
  go_enter Try.func58, Try.ntmps58
  go_wp2_with (first | ((with_reducible refine gate_callee (f := 78) rfl ?_); refine goesL_ (some 5) rfl rfl Try.func78 (by kernel_rfl) rfl #[.pointer (some ⟨g, 0, none⟩)] rfl mM ?_; (with_reducible refine (spec_l1Cur_doc.calls k g s0_0 s0_1 s0_2 t309 t310 t311 w0 _ ?side1 ?side2 A2.out).mono ?_); (case side1 => exact aP0); (case side2 => exact aP2); rintro e w24 ⟨rfl, hi, hb, hk⟩; refine ⟨_, rfl, ?_⟩; replace HK := aM (KeepBut.trans aP1 hk (.inl rfl)); replace HB := aM (hb); replace HI0 := aM (hi); (try clear hb); (try clear hb2); (try clear hk); (try clear hi)) | ((with_reducible refine gate_callee (f := 79) rfl ?_); refine goesL_ (some 7) rfl rfl Try.func79 (by kernel_rfl) rfl #[.string t309] rfl mM ?_; (with_reducible refine (spec_GoodText.calls k t309 false _ A3.out).mono ?_); rintro e w' ⟨rfl, ⟨nd, rfl⟩⟩; refine ⟨_, rfl, ?_⟩))
  go_ret
  exact ⟨eR, by (try simp only [Int.add_zero]); exact aP0, by exact aP2, aP1⟩
 subst c4
 replace H : (if (t309.size : Int) > 40 then ((spec_l1Cur_one.f s0_0 t310 t311 20).bind fun bt313 => (if bt313.1 = true then (some (t309, bt313.2.1, bt313.2.2)) else (if 0 ≤ 40 then (if 40 ≤ (t309.size : Int) then (some (t309.extract 0 40, bt313.2.1, bt313.2.2)) else (none)) else (none)))) else (some (t309, t310, t311))) = some (r1, r2, r3) := by rw [if_pos rfl] at H; exact H
 by_cases c5 : (t309.size : Int) > 40
 rotate_left
 ·rw [if_neg c5] at H
  have c5b0 : decide (40 < (t309.size : Int)) = false := decide_eq_false c5
  have c5b1 : decide (40 < t309.size) = false := decide_eq_false (by omega)
  clear c5
  simp only [Option.some.injEq, Prod.mk.injEq] at H
  obtain ⟨rfl, rfl, rfl⟩ := H
  go_enter Try.func58, Try.ntmps58
  go_wp2_with (first | ((with_reducible refine gate_callee (f := 78) rfl ?_); refine goesL_ (some 5) rfl rfl Try.func78 (by kernel_rfl) rfl #[.pointer (some ⟨g, 0, none⟩)] rfl mM ?_; (with_reducible refine (spec_l1Cur_doc.calls k g s0_0 s0_1 s0_2 t309 t310 t311 w0 _ ?side1 ?side2 A2.out).mono ?_); (case side1 => exact aP0); (case side2 => exact aP2); rintro e w14 ⟨rfl, hi, hb, hk⟩; refine ⟨_, rfl, ?_⟩; replace HK := aM (KeepBut.trans aP1 hk (.inl rfl)); replace HB := aM (hb); replace HI0 := aM (hi); (try clear hb); (try clear hb2); (try clear hk); (try clear hi)) | ((with_reducible refine gate_callee (f := 79) rfl ?_); refine goesL_ (some 7) rfl rfl Try.func79 (by kernel_rfl) rfl #[.string t309] rfl mM ?_; (with_reducible refine (spec_GoodText.calls k t309 true _ A3.out).mono ?_); rintro e w' ⟨rfl, ⟨nd, rfl⟩⟩; refine ⟨_, rfl, ?_⟩))
  go_ret
  exact ⟨eR, by (try simp only [Int.add_zero]); exact aP0, by exact aP2, aP1⟩
 rw [if_pos c5] at H
 have c5b0 : decide (40 < (t309.size : Int)) = true := decide_eq_true c5
 have c5b1 : decide (40 < t309.size) = true := decide_eq_true (by omega)
 clear c5
 replace H := Option.bind_eq_some_iff.mp H
 obtain ⟨⟨t313, t314, t315⟩, A60, H⟩ := H
 replace H : (if t313 = true then (some (t309, t314, t315)) else (if 0 ≤ 40 then (if 40 ≤ (t309.size : Int) then (some (t309.extract 0 40, t314, t315)) else (none)) else (none))) = some (r1, r2, r3) := H
 have A6 := aM A60
 clear A60
 by_cases c7 : t313 = true
 ·subst c7
  replace H : (some (t309, t314, t315)) = some (r1, r2, r3) := by rw [if_pos rfl] at H; exact H
  simp only [Option.some.injEq, Prod.mk.injEq] at H
  obtain ⟨rfl, rfl, rfl⟩ := H
  go_enter Try.func58, Try.ntmps58
  go_wp2_with (first | ((with_reducible refine gate_callee (f := 78) rfl ?_); refine goesL_ (some 5) rfl rfl Try.func78 (by kernel_rfl) rfl #[.pointer (some ⟨g, 0, none⟩)] rfl mM ?_; (with_reducible refine (spec_l1Cur_doc.calls k g s0_0 s0_1 s0_2 t309 t310 t311 w0 _ ?side1 ?side2 A2.out).mono ?_); (case side1 => exact aP0); (case side2 => exact aP2); rintro e w8 ⟨rfl, hi, hb, hk⟩; refine ⟨_, rfl, ?_⟩; replace HK := aM (KeepBut.trans aP1 hk (.inl rfl)); replace HB := aM (hb); replace HI0 := aM (hi); (try clear hb); (try clear hb2); (try clear hk); (try clear hi)) | ((with_reducible refine gate_callee (f := 79) rfl ?_); refine goesL_ (some 7) rfl rfl Try.func79 (by kernel_rfl) rfl #[.string t309] rfl mM ?_; (with_reducible refine (spec_GoodText.calls k t309 true _ A3.out).mono ?_); rintro e w' ⟨rfl, ⟨nd, rfl⟩⟩; refine ⟨_, rfl, ?_⟩) | (go_at_call 62; (with_reducible refine (spec_l1Cur_one.calls g s0_0 t310 t311 20 true t314 t315 w0 _ ?side1 ?side2 A6.out).mono ?_); (case side1 => exact aP0); (case side2 => exact aP2); rintro e w9 ⟨rfl, hi, hb, hk⟩; replace HK := aM (KeepBut.trans aP1 hk (.inl rfl)); replace HB := aM (hb); replace HI0 := aM (hi); (try clear hb); (try clear hb2); (try clear hk); (try clear hi)))
  go_ret
  exact ⟨eR, by (try simp only [Int.add_zero]); exact aP0, by exact aP2, aP1⟩
 replace c7 := Bool.eq_false_iff.mpr c7
 subst c7
 replace H : (if 0 ≤ 40 then (if 40 ≤ (t309.size : Int) then (some (t309.extract 0 40, t314, t315)) else (none)) else (none)) = some (r1, r2, r3) := by rw [if_neg (show ¬ (false = true) by decide)] at H; exact H
 by_cases c10 : 0 ≤ 40
 rotate_left
 ·rw [if_neg c10] at H
  exact absurd H (by simp)
 rw [if_pos c10] at H
 have c10b0 := eq_true c10
 have c10b1 : decide (0 ≤ 40) = true := decide_eq_true c10
 clear c10
 by_cases c11 : 40 ≤ (t309.size : Int)
 rotate_left
 ·rw [if_neg c11] at H
  exact absurd H (by simp)
 rw [if_pos c11] at H
 have c11b0 := eq_true c11
 have c11b1 : decide (40 ≤ (t309.size : Int)) = true := decide_eq_true c11
 clear c11
 simp only [Option.some.injEq, Prod.mk.injEq] at H
 obtain ⟨rfl, rfl, rfl⟩ := H
 go_enter Try.func58, Try.ntmps58
 go_wp2_with (first | ((with_reducible refine gate_callee (f := 78) rfl ?_); refine goesL_ (some 5) rfl rfl Try.func78 (by kernel_rfl) rfl #[.pointer (some ⟨g, 0, none⟩)] rfl mM ?_; (with_reducible refine (spec_l1Cur_doc.calls k g s0_0 s0_1 s0_2 t309 t310 t311 w0 _ ?side1 ?side2 A2.out).mono ?_); (case side1 => exact aP0); (case side2 => exact aP2); rintro e w12 ⟨rfl, hi, hb, hk⟩; refine ⟨_, rfl, ?_⟩; replace HK := aM (KeepBut.trans aP1 hk (.inl rfl)); replace HB := aM (hb); replace HI0 := aM (hi); (try clear hb); (try clear hb2); (try clear hk); (try clear hi)) | ((with_reducible refine gate_callee (f := 79) rfl ?_); refine goesL_ (some 7) rfl rfl Try.func79 (by kernel_rfl) rfl #[.string t309] rfl mM ?_; (with_reducible refine (spec_GoodText.calls k t309 true _ A3.out).mono ?_); rintro e w' ⟨rfl, ⟨nd, rfl⟩⟩; refine ⟨_, rfl, ?_⟩) | (go_at_call 62; (with_reducible refine (spec_l1Cur_one.calls g s0_0 t310 t311 20 false t314 t315 w0 _ ?side1 ?side2 A6.out).mono ?_); (case side1 => exact aP0); (case side2 => exact aP2); rintro e w13 ⟨rfl, hi, hb, hk⟩; replace HK := aM (KeepBut.trans aP1 hk (.inl rfl)); replace HB := aM (hb); replace HI0 := aM (hi); (try clear hb); (try clear hb2); (try clear hk); (try clear hi)))
 go_ret
 exact ⟨eR, by (try simp only [Int.add_zero]); exact aP0, by exact aP2, aP1⟩
end Go.Proofs.Ytoagljlnfakgjaa.PFnOver
