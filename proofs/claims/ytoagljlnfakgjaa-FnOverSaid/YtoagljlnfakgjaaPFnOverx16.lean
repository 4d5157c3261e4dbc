/- (thin) Written by a program of this session (wip/ovl.py) over the kit's print: plain functions with the answers of the Go functions, and the proofs that they are; no condition. -/
import Derived.Test.YtoagljlnfakgjaaPFnOverx0
import Derived.Test.YtoagljlnfakgjaaPFnOverx2
import Derived.Test.YtoagljlnfakgjaaPFnOverx11
import Derived.Test.YtoagljlnfakgjaaPFnOverx12
import Derived.Test.YtoagljlnfakgjaaPFnOverx14
import Derived.Test.YtoagljlnfakgjaaPFnOverx15
namespace Go.Proofs.Ytoagljlnfakgjaa.PFnOver
open Go.RowKit Go.Proofs.YtoagljlnfakgjaaW.PrintWords Go.Proofs.YtoagljlnfakgjaaW.PrintLast Go.Proofs.YtoagljlnfakgjaaW.PrintMore
attribute [local go_sem] max2_int min2_int max_two min_two max_three min_three max_four min_four   -- for this text's walks alone
set_option linter.unusedVariables false
set_option linter.unusedSimpArgs false
def spec_l1Cur_op.j0 : Nat → List (S60) → Bool → List Int → Int → Int → Option ((List (S60)) × Int × Int)
 | 0, _, _, _, _, _ => none
 | k + 1, x3, x14, x1000, x1001, x1002 => if x14 = true then ((spec_l1Cur_pick.f x1000 x1001 x1002 4).bind fun bt369 => (if bt369.1 = 0 then ((spec_l1Cur_pick.f x1000 bt369.2.1 bt369.2.2 (x3.length : Int)).bind fun bt372 => ((spec_l1Cur_pick.f x1000 bt372.2.1 bt372.2.2 5).bind fun bt375 => (if 0 ≤ bt372.1 then (if bt372.1 < (x3.length : Int) then (some ((x3.set (bt372.1 : Int).toNat (⟨wrap64 (bt375.1 - 1), (rd_T60 x3 bt372.1).f1, (rd_T60 x3 bt372.1).f2⟩ : S60)), bt375.2.1, bt375.2.2)) else (none)) else (none)))) else (if bt369.1 = 1 then ((spec_l1Cur_pick.f x1000 bt369.2.1 bt369.2.2 (x3.length : Int)).bind fun bt379 => (if 0 ≤ bt379.1 then (if bt379.1 < (x3.length : Int) then (some ((x3.set (bt379.1 : Int).toNat (⟨(rd_T60 x3 bt379.1).f0, (⟨#[90]⟩ : ByteArray), (rd_T60 x3 bt379.1).f2⟩ : S60)), bt379.2.1, bt379.2.2)) else (none)) else (none))) else (if bt369.1 = 2 then (if x3.length < 3518437208883 then (some ((x3 ++ [(⟨0, (⟨#[]⟩ : ByteArray), (⟨#[]⟩ : ByteArray)⟩ : S60)]), bt369.2.1, bt369.2.2)) else (none)) else ((spec_l1Cur_among.f x1000 bt369.2.1 bt369.2.2 (([300, 301] : List Int))).bind fun bt389 => (if x3.length < 3518437208883 then (some ((x3 ++ [(⟨bt389.1, (⟨#[]⟩ : ByteArray), (⟨#[]⟩ : ByteArray)⟩ : S60)]), bt389.2.1, bt389.2.2)) else (none))))))) else (some (x3, x1001, x1002))
def spec_l1Cur_op.f (k : Nat) (s0_0 : List Int) (s0_1 : Int) (s0_2 : Int) : Option ((List (S60)) × Int × Int) := (spec_l1Cur_plainText.f k s0_0 s0_1 s0_2).bind fun bt358 => ((spec_l1Cur_opOn.f k s0_0 bt358.2.1 bt358.2.2 bt358.1).bind fun bt361 => (if (bt361.1.length : Int) > 0 then ((spec_l1Cur_one.f s0_0 bt361.2.1 bt361.2.2 12).bind fun bt366 => (spec_l1Cur_op.j0 k bt361.1 bt366.1 s0_0 bt366.2.1 bt366.2.2)) else (spec_l1Cur_op.j0 k bt361.1 false s0_0 bt361.2.1 bt361.2.2)))
theorem spec_l1Cur_op.mono_l : ∀ k, (∀ y0 y1 y2 y3 y4, LeO (spec_l1Cur_op.j0 k y0 y1 y2 y3 y4) (spec_l1Cur_op.j0 (k + 1) y0 y1 y2 y3 y4))
 | 0 => fun _ _ _ _ _ r h => by simp [spec_l1Cur_op.j0] at h
 | k + 1 => by
  have ih0 := spec_l1Cur_op.mono_l k
  ·intro y0 y1 y2 y3 y4
   unfold spec_l1Cur_op.j0
   repeat' (with_reducible first | exact ih0 _ _ _ _ _ | exact spec_l1Cur_opOn.mono _ _ _ _ _ | exact spec_l1Cur_plainText.mono _ _ _ _ | exact LeO.refl _ | exact LeO.none _ | refine LeO.ite ?_ ?_ | refine LeO.bind ?_ (fun _ => ?_))
theorem spec_l1Cur_op.mono : ∀ a0 a1 a2 k, LeO (spec_l1Cur_op.f k a0 a1 a2) (spec_l1Cur_op.f (k + 1) a0 a1 a2) := by
 intro a0 a1 a2 k
 have ih0 := spec_l1Cur_op.mono_l k
 unfold spec_l1Cur_op.f
 repeat' (with_reducible first | exact ih0 _ _ _ _ _ | exact spec_l1Cur_opOn.mono _ _ _ _ _ | exact spec_l1Cur_plainText.mono _ _ _ _ | exact LeO.refl _ | exact LeO.none _ | refine LeO.ite ?_ ?_ | refine LeO.bind ?_ (fun _ => ?_))
set_option maxHeartbeats 8000000 in
set_option maxRecDepth 100000 in
theorem spec_l1Cur_op.calls (k : Nat) (g : Nat) (s0_0 : List Int) (s0_1 : Int) (s0_2 : Int) (r1 : List (S60)) (r2 : Int) (r3 : Int) (w0 w : World) (hI : IsS82 w0 w g s0_0 s0_1 s0_2) (hB : Below w0.heap.size w0 w) (h : spec_l1Cur_op.f k s0_0 s0_1 s0_2 = some (r1, r2, r3)) :
  Calls Try.prog 63 #[.pointer (some ⟨g, 0, none⟩)] w fun e w' => ∃ v0_ : Value, e = .returned (v0_) ∧ Kd.R k60 60 w' w.heap.size (fun _ => True) v0_ r1 ∧ IsS82 w0 w' g s0_0 r2 r3 ∧ Below w0.heap.size w0 w' ∧ KeepBut w w' g none := by
 have hu60 := Try.underlying60
 have HI0 := aM hI
 have HK := aM (KeepBut.refl w g none)
 have HL := aM hB.size
 clear hI
 have HW0 := aM hB.size
 have HB := aM hB
 clear hB
 have H : ((spec_l1Cur_plainText.f k s0_0 s0_1 s0_2).bind fun bt358 => ((spec_l1Cur_opOn.f k s0_0 bt358.2.1 bt358.2.2 bt358.1).bind fun bt361 => (if (bt361.1.length : Int) > 0 then ((spec_l1Cur_one.f s0_0 bt361.2.1 bt361.2.2 12).bind fun bt366 => (spec_l1Cur_op.j0 k bt361.1 bt366.1 s0_0 bt366.2.1 bt366.2.2)) else (spec_l1Cur_op.j0 k bt361.1 false s0_0 bt361.2.1 bt361.2.2)))) = some (r1, r2, r3) := h
 clear h
 replace H := Option.bind_eq_some_iff.mp H
 obtain ⟨⟨t358, t359, t360⟩, A20, H⟩ := H
 replace H : ((spec_l1Cur_opOn.f k s0_0 t359 t360 t358).bind fun bt361 => (if (bt361.1.length : Int) > 0 then ((spec_l1Cur_one.f s0_0 bt361.2.1 bt361.2.2 12).bind fun bt366 => (spec_l1Cur_op.j0 k bt361.1 bt366.1 s0_0 bt366.2.1 bt366.2.2)) else (spec_l1Cur_op.j0 k bt361.1 false s0_0 bt361.2.1 bt361.2.2))) = some (r1, r2, r3) := H
 have A2 := aM A20
 clear A20
 replace H := Option.bind_eq_some_iff.mp H
 obtain ⟨⟨t361, t364, t365⟩, A30, H⟩ := H
 replace H : (if (t361.length : Int) > 0 then ((spec_l1Cur_one.f s0_0 t364 t365 12).bind fun bt366 => (spec_l1Cur_op.j0 k t361 bt366.1 s0_0 bt366.2.1 bt366.2.2)) else (spec_l1Cur_op.j0 k t361 false s0_0 t364 t365)) = some (r1, r2, r3) := H
 have A3 := aM A30
 clear A30
 have HC4 := aM H
 clear H
 go_enter Try.func63, Try.ntmps63
 go_upto_region 2 with (first | ((with_reducible refine gate_callee (f := 58) rfl ?_); refine goesL_ (some 6) rfl rfl Try.func58 (by kernel_rfl) rfl #[.pointer (some ⟨g, 0, none⟩)] rfl mM ?_; (with_reducible refine (spec_l1Cur_plainText.calls k g s0_0 s0_1 s0_2 t358 t359 t360 w0 _ ?side1 ?side2 A2.out).mono ?_); (case side1 => exact aP0); (case side2 => exact aP2); rintro e w5 ⟨rfl, hi, hb, hk⟩; refine ⟨_, rfl, ?_⟩; replace HK := aM (KeepBut.trans aP1 hk (.inl rfl)); replace HB := aM (hb); replace HI0 := aM (hi); (try clear hb); (try clear hb2); (try clear hk); (try clear hi)) | ((with_reducible refine gate_callee (f := 59) rfl ?_); refine goesL_ (some 7) rfl rfl Try.func59 (by kernel_rfl) rfl #[.pointer (some ⟨g, 0, none⟩), .string t358] rfl mM ?_; (with_reducible refine (spec_l1Cur_opOn.calls k g s0_0 t359 t360 t358 t361 t364 t365 w0 _ ?side1 ?side2 A3.out).mono ?_); (case side1 => exact aP0); (case side2 => exact aP2); rintro e w6 ⟨v362, rfl, ho0, hi, hb, hk⟩; refine ⟨_, rfl, ?_⟩; have HO363 := aM (Kd.R_lower ho0 (keep_size (w := w) (g := g) (row := none) aP1)); replace HK := aM (KeepBut.trans aP1 hk (.inl rfl)); replace HB := aM (hb); replace HI0 := aM (hi); (try clear hb); (try clear hb2); (try clear hk); (try clear hi); (try clear ho0)))
 (try simp only [Act.put, List.setIfInBounds_toArray, List.set_cons_zero, List.set_cons_succ])
 go_cut [14] (fun v14 wc => ∃ (kq : Nat) (x14_3 : Bool) (x1001_3 : Int) (x1002_3 : Int), v14 = .bool x14_3 ∧ Aside0 (spec_l1Cur_op.j0 kq t361 x14_3 s0_0 x1001_3 x1002_3 = some (r1, r2, r3)) ∧ Aside0 (kq ≤ k) ∧ Aside0 (Kd.R k60 60 wc w.heap.size (fun _ => True) v362 t361) ∧ Aside0 (IsS82 w0 wc g s0_0 x1001_3 x1002_3) ∧ Aside0 (KeepBut w wc g none) ∧ Aside0 (Below w0.heap.size w0 wc))
 case first =>
  have H := HC4.out
  clear HC4
  by_cases c7 : (t361.length : Int) > 0
  rotate_left
  ·rw [if_neg c7] at H
   have c7b0 : decide (0 < (t361.length : Int)) = false := decide_eq_false c7
   have c7b1 : decide (0 < t361.length) = false := decide_eq_false (by omega)
   clear c7
   (first | rw [c7b0] | (simp only [i64_w, i32_w]; rw [c7b0]) | rw [c7e] | skip)
   have H' := aM H
   clear H
   obtain ⟨Ao11, co11, eo11⟩ := Kd.R_slice HO363.out
   subst eo11
   go_wp2
   go_meet
   case rel => exact ⟨_, (false), (t364), (t365), aP16, H', ⟨by first | omega | exact Nat.le_refl _⟩, ⟨rR HO363.out⟩, ⟨aP0⟩, ⟨aP1⟩, ⟨aP2⟩⟩
  rw [if_pos c7] at H
  have c7b0 : decide (0 < (t361.length : Int)) = true := decide_eq_true c7
  have c7b1 : decide (0 < t361.length) = true := decide_eq_true (by omega)
  clear c7
  (first | rw [c7b0] | (simp only [i64_w, i32_w]; rw [c7b0]) | rw [c7e] | skip)
  replace H := Option.bind_eq_some_iff.mp H
  obtain ⟨⟨t366, t367, t368⟩, A80, H⟩ := H
  replace H : (spec_l1Cur_op.j0 k t361 t366 s0_0 t367 t368) = some (r1, r2, r3) := H
  have A8 := aM A80
  clear A80
  have H' := aM H
  clear H
  obtain ⟨Ao9, co9, eo9⟩ := Kd.R_slice HO363.out
  subst eo9
  go_wp2_with (first | (go_at_call 62; (with_reducible refine (spec_l1Cur_one.calls g s0_0 t364 t365 12 t366 t367 t368 w0 _ ?side1 ?side2 A8.out).mono ?_); (case side1 => exact aP0); (case side2 => exact aP2); rintro e w10 ⟨rfl, hi, hb, hk⟩; replace HO363 := aM (Kd.R_mono (Kd.R_keep (IsS82.apart (show IsS82 w0 _ g s0_0 t364 t365 from aP0) (rR HO363.out) (by decide)) hk (fun _ h => h.2)) (fun _ h => h.1)); replace HK := aM (KeepBut.trans aP1 hk (.inl rfl)); replace HB := aM (hb); replace HI0 := aM (hi); (try clear hb); (try clear hb2); (try clear hk); (try clear hi)))
  go_meet
  case rel => exact ⟨_, (t366), (t367), (t368), aP16, H', ⟨by first | omega | exact Nat.le_refl _⟩, ⟨rR HO363.out⟩, ⟨aP0⟩, ⟨aP1⟩, ⟨aP2⟩⟩
 case rest =>
  clear HC4
  try clear p2
  try clear c5
  try clear c6
  try clear c7
  try clear c7b0
  try clear c7b1
  obtain ⟨kq, x14_3, x1001_3, x1002_3, rfl, HA, HJ3, HO_3, HI0, HK, HB⟩ := hcut
  cases kq with
  | zero => exact absurd HA.out (by simp [spec_l1Cur_op.j0])
  | succ kj3 =>
   have H := HA.out
   clear HA
   simp only [spec_l1Cur_op.j0] at H
   by_cases c12 : x14_3 = true
   rotate_left
   ·replace c12 := Bool.eq_false_iff.mpr c12
    subst c12
    replace H : (some (t361, x1001_3, x1002_3)) = some (r1, r2, r3) := by rw [if_neg (show ¬ (false = true) by decide)] at H; exact H
    simp only [Option.some.injEq, Prod.mk.injEq] at H
    obtain ⟨rfl, rfl, rfl⟩ := H
    go_wp2
    go_ret
    exact ⟨_, by first | rfl | (simp [errW_none, errW_some] <;> rfl) | (simp [*, errW_none, errW_some] <;> rfl), by (with_reducible repeat (first | apply Kd.R_alloc | apply Kd.R_drewN | apply Kd.R_drew)); exact HO_3.out, by exact aP0, by exact aP2, aP1⟩
   subst c12
   replace H : ((spec_l1Cur_pick.f s0_0 x1001_3 x1002_3 4).bind fun bt369 => (if bt369.1 = 0 then ((spec_l1Cur_pick.f s0_0 bt369.2.1 bt369.2.2 (t361.length : Int)).bind fun bt372 => ((spec_l1Cur_pick.f s0_0 bt372.2.1 bt372.2.2 5).bind fun bt375 => (if 0 ≤ bt372.1 then (if bt372.1 < (t361.length : Int) then (some ((t361.set (bt372.1 : Int).toNat (⟨wrap64 (bt375.1 - 1), (rd_T60 t361 bt372.1).f1, (rd_T60 t361 bt372.1).f2⟩ : S60)), bt375.2.1, bt375.2.2)) else (none)) else (none)))) else (if bt369.1 = 1 then ((spec_l1Cur_pick.f s0_0 bt369.2.1 bt369.2.2 (t361.length : Int)).bind fun bt379 => (if 0 ≤ bt379.1 then (if bt379.1 < (t361.length : Int) then (some ((t361.set (bt379.1 : Int).toNat (⟨(rd_T60 t361 bt379.1).f0, (⟨#[90]⟩ : ByteArray), (rd_T60 t361 bt379.1).f2⟩ : S60)), bt379.2.1, bt379.2.2)) else (none)) else (none))) else (if bt369.1 = 2 then (if t361.length < 3518437208883 then (some ((t361 ++ [(⟨0, (⟨#[]⟩ : ByteArray), (⟨#[]⟩ : ByteArray)⟩ : S60)]), bt369.2.1, bt369.2.2)) else (none)) else ((spec_l1Cur_among.f s0_0 bt369.2.1 bt369.2.2 (([300, 301] : List Int))).bind fun bt389 => (if t361.length < 3518437208883 then (some ((t361 ++ [(⟨bt389.1, (⟨#[]⟩ : ByteArray), (⟨#[]⟩ : ByteArray)⟩ : S60)]), bt389.2.1, bt389.2.2)) else (none))))))) = some (r1, r2, r3) := by rw [if_pos rfl] at H; exact H
   replace H := Option.bind_eq_some_iff.mp H
   obtain ⟨⟨t369, t370, t371⟩, A130, H⟩ := H
   replace H : (if t369 = 0 then ((spec_l1Cur_pick.f s0_0 t370 t371 (t361.length : Int)).bind fun bt372 => ((spec_l1Cur_pick.f s0_0 bt372.2.1 bt372.2.2 5).bind fun bt375 => (if 0 ≤ bt372.1 then (if bt372.1 < (t361.length : Int) then (some ((t361.set (bt372.1 : Int).toNat (⟨wrap64 (bt375.1 - 1), (rd_T60 t361 bt372.1).f1, (rd_T60 t361 bt372.1).f2⟩ : S60)), bt375.2.1, bt375.2.2)) else (none)) else (none)))) else (if t369 = 1 then ((spec_l1Cur_pick.f s0_0 t370 t371 (t361.length : Int)).bind fun bt379 => (if 0 ≤ bt379.1 then (if bt379.1 < (t361.length : Int) then (some ((t361.set (bt379.1 : Int).toNat (⟨(rd_T60 t361 bt379.1).f0, (⟨#[90]⟩ : ByteArray), (rd_T60 t361 bt379.1).f2⟩ : S60)), bt379.2.1, bt379.2.2)) else (none)) else (none))) else (if t369 = 2 then (if t361.length < 3518437208883 then (some ((t361 ++ [(⟨0, (⟨#[]⟩ : ByteArray), (⟨#[]⟩ : ByteArray)⟩ : S60)]), t370, t371)) else (none)) else ((spec_l1Cur_among.f s0_0 t370 t371 (([300, 301] : List Int))).bind fun bt389 => (if t361.length < 3518437208883 then (some ((t361 ++ [(⟨bt389.1, (⟨#[]⟩ : ByteArray), (⟨#[]⟩ : ByteArray)⟩ : S60)]), bt389.2.1, bt389.2.2)) else (none)))))) = some (r1, r2, r3) := H
   have A13 := aM A130
   clear A130
   by_cases c14 : t369 = 0
   ·rw [if_pos c14] at H
    have c14b0 : (t369 == 0) = true := beq_iff_eq.mpr c14
    have c14b1 : (t369 != 0) = false := bne_eq_false_iff_eq.mpr c14
    clear c14
    replace H := Option.bind_eq_some_iff.mp H
    obtain ⟨⟨t372, t373, t374⟩, A150, H⟩ := H
    replace H : ((spec_l1Cur_pick.f s0_0 t373 t374 5).bind fun bt375 => (if 0 ≤ t372 then (if t372 < (t361.length : Int) then (some ((t361.set (t372 : Int).toNat (⟨wrap64 (bt375.1 - 1), (rd_T60 t361 t372).f1, (rd_T60 t361 t372).f2⟩ : S60)), bt375.2.1, bt375.2.2)) else (none)) else (none))) = some (r1, r2, r3) := H
    have A15 := aM A150
    clear A150
    replace H := Option.bind_eq_some_iff.mp H
    obtain ⟨⟨t375, t376, t377⟩, A160, H⟩ := H
    replace H : (if 0 ≤ t372 then (if t372 < (t361.length : Int) then (some ((t361.set (t372 : Int).toNat (⟨wrap64 (t375 - 1), (rd_T60 t361 t372).f1, (rd_T60 t361 t372).f2⟩ : S60)), t376, t377)) else (none)) else (none)) = some (r1, r2, r3) := H
    have A16 := aM A160
    clear A160
    by_cases c17 : 0 ≤ t372
    rotate_left
    ·rw [if_neg c17] at H
     exact absurd H (by simp)
    rw [if_pos c17] at H
    have c17b0 : decide (0 ≤ t372) = true := decide_eq_true c17
    clear c17
    by_cases c18 : t372 < (t361.length : Int)
    rotate_left
    ·rw [if_neg c18] at H
     exact absurd H (by simp)
    rw [if_pos c18] at H
    have c18b0 : decide (t372 < (t361.length : Int)) = true := decide_eq_true c18
    clear c18
    obtain ⟨y378, hy378⟩ : ∃ y_ : List (S60), y_ = (t361.set (t372 : Int).toNat (⟨wrap64 (t375 - 1), (rd_T60 t361 t372).f1, (rd_T60 t361 t372).f2⟩ : S60)) := ⟨_, rfl⟩
    replace H : (some (y378, t376, t377)) = some (r1, r2, r3) := by first | (rw [hy378]; with_reducible exact H) | (have H2_ := (Option.bind_some _ _).symm.trans H; rw [hy378]; with_reducible exact H2_) | (have H2_ := (Option.bind_some _ _).symm.trans H; with_reducible exact H2_) | with_reducible exact H | (rw [hy378]; exact H) | exact H
    have Ny378 := aM hy378
    clear hy378
    simp only [Option.some.injEq, Prod.mk.injEq] at H
    obtain ⟨rfl, rfl, rfl⟩ := H
    go_wp2_with (first | ((with_reducible refine gate_callee (f := 60) rfl ?_); refine goesL_ (some 16) rfl rfl Try.func60 (by kernel_rfl) rfl #[.pointer (some ⟨g, 0, none⟩), .int .i64 4] rfl mM ?_; (with_reducible refine (spec_l1Cur_pick.calls g s0_0 x1001_3 x1002_3 4 t369 t370 t371 w0 _ ?side1 ?side2 A13.out).mono ?_); (case side1 => exact aP0); (case side2 => exact aP2); rintro e w20 ⟨rfl, hi, hb, hk⟩; refine ⟨_, rfl, ?_⟩; replace HO_3 := aM (Kd.R_mono (Kd.R_keep (IsS82.apart (show IsS82 w0 _ g s0_0 x1001_3 x1002_3 from aP0) (rR HO_3.out) (by decide)) hk (fun _ h => h.2)) (fun _ h => h.1)); replace HK := aM (KeepBut.trans aP1 hk (.inl rfl)); replace HB := aM (hb); replace HI0 := aM (hi); (try clear hb); (try clear hb2); (try clear hk); (try clear hi); obtain ⟨Ao21, co21, eo21⟩ := Kd.R_slice HO_3.out; subst eo21) | ((with_reducible refine gate_callee (f := 60) rfl ?_); refine goesL_ (some 30) rfl rfl Try.func60 (by kernel_rfl) rfl #[.pointer (some ⟨g, 0, none⟩), .int .i64 (t361.length : Int)] rfl mM ?_; (with_reducible refine (spec_l1Cur_pick.calls g s0_0 t370 t371 (t361.length : Int) t372 t373 t374 w0 _ ?side1 ?side2 A15.out).mono ?_); (case side1 => exact aP0); (case side2 => exact aP2); rintro e w22 ⟨rfl, hi, hb, hk⟩; refine ⟨_, rfl, ?_⟩; replace HO_3 := aM (Kd.R_mono (Kd.R_keep (IsS82.apart (show IsS82 w0 _ g s0_0 t370 t371 from aP0) (rR HO_3.out) (by decide)) hk (fun _ h => h.2)) (fun _ h => h.1)); replace HK := aM (KeepBut.trans aP1 hk (.inl rfl)); replace HB := aM (hb); replace HI0 := aM (hi); (try clear hb); (try clear hb2); (try clear hk); (try clear hi)) | ((with_reducible refine gate_callee (f := 60) rfl ?_); refine goesL_ (some 32) rfl rfl Try.func60 (by kernel_rfl) rfl #[.pointer (some ⟨g, 0, none⟩), .int .i64 5] rfl mM ?_; (with_reducible refine (spec_l1Cur_pick.calls g s0_0 t373 t374 5 t375 t376 t377 w0 _ ?side1 ?side2 A16.out).mono ?_); (case side1 => exact aP0); (case side2 => exact aP2); rintro e w23 ⟨rfl, hi, hb, hk⟩; refine ⟨_, rfl, ?_⟩; replace HO_3 := aM (Kd.R_mono (Kd.R_keep (IsS82.apart (show IsS82 w0 _ g s0_0 t373 t374 from aP0) (rR HO_3.out) (by decide)) hk (fun _ h => h.2)) (fun _ h => h.1)); replace HK := aM (KeepBut.trans aP1 hk (.inl rfl)); replace HB := aM (hb); replace HI0 := aM (hi); (try clear hb); (try clear hb2); (try clear hk); (try clear hi); have p19 : 0 ≤ (t372 : Int) := of_decide_eq_true (by assumption); have q19 : (t372 : Int) < ((t361.length : Int) : Int) := of_decide_eq_true (by assumption); obtain ⟨go19, co19, eo19, gb19, gl19, cl19, HG19⟩ := Kd.R_form HO_3.out (by omega); (first | cases eo19 | (injection eo19 with ea_ en_ ec_; (first | subst ea_ | (injection ea_ with ea_; subst ea_)); subst ec_; clear en_)); have GB19 := aM gb19; have GG19 := aM HG19; clear gb19 gl19 HG19; obtain ⟨ce19, hcl19, hM19, hcc19, hfr19⟩ := Kd.R_elem HO_3.out z60 (t372 : Int) p19 q19; obtain rfl := k60_openM hM19; have hx19_0 : w23.cell? ⟨go19, (t372 : Int).toNat * 3, none⟩ = some (.int .i64 ((rd_T60 t361 t372).f0)) := hcc19 0 _ rfl; have hx19_1 : w23.cell? ⟨go19, (t372 : Int).toNat * 3 + 1, none⟩ = some (.string ((rd_T60 t361 t372).f1)) := hcc19 1 _ rfl; have hx19_2 : w23.cell? ⟨go19, (t372 : Int).toNat * 3 + 2, none⟩ = some (.string ((rd_T60 t361 t372).f2)) := hcc19 2 _ rfl; have hf19_0 : w23.frozen? ⟨go19, (t372 : Int).toNat * 3, none⟩ = false := hfr19 0; have hf19_1 : w23.frozen? ⟨go19, (t372 : Int).toNat * 3 + 1, none⟩ = false := hfr19 1; have hf19_2 : w23.frozen? ⟨go19, (t372 : Int).toNat * 3 + 2, none⟩ = false := hfr19 2; clear hcl19 hcc19 hfr19 hM19; replace p19 := eq_true p19; replace q19 := eq_true q19; have HX24 := aM (show Kd.R k60 60 w23 w.heap.size (fun _ => True) (.slice (some ⟨go19, 0, none⟩) t361.length co21) t361 from (rR HO_3.out)); obtain ⟨ce24, hcl24, hM24, hcc24, hfr24⟩ := Kd.R_elem HX24.out z60 (t372 : Int) (of_decide_eq_true (by assumption)) (by have h_ : (t372 : Int) < ((t361.length : Int) : Int) := of_decide_eq_true (by assumption); first | exact h_ | (have e_ := (Kd.R_reads' HO_3.out).1; omega) | simpa using h_); obtain rfl := k60_openM hM24; have HP24 := Kd.R_seg HX24.out (t372 : Int) (of_decide_eq_true (by assumption)) (by have h_ : (t372 : Int) < ((t361.length : Int) : Int) := of_decide_eq_true (by assumption); first | exact h_ | (have e_ := (Kd.R_reads' HO_3.out).1; omega) | simpa using h_) (seg := [.int .i64 (wrap64 (t375 - 1))]) (j := 0) hcl24 hcc24 (show 1 ≤ 3 from by decide) (x' := (⟨wrap64 (t375 - 1), (rd_T60 t361 t372).f1, (rd_T60 t361 t372).f2⟩ : S60)) (k60_mkM _ _ _ (⟨wrap64 (t375 - 1), (rd_T60 t361 t372).f1, (rd_T60 t361 t372).f2⟩ : S60) ) (fun _ hk => hk); have hx24_0 := hcc24 0 _ rfl; (try simp only [show (k60).sz = 3 from rfl, Nat.mul_one, Nat.add_zero] at hx24_0); have hf24_0 := hfr24 0; (try simp only [show (k60).sz = 3 from rfl, Nat.mul_one, Nat.add_zero] at hf24_0); clear hcl24 hcc24 hfr24 hM24) | ((with_reducible refine gate_store (t := 3) (p := 35) rfl ?_); refine store_event (t := 3) (p := 35) (v := ?vo_w25) (w1 := (w23.setCell ⟨go19, (t372 : Int).toNat * 3, none⟩ (.int .i64 (wrap64 (t375 - 1))))) ?hg ?ho ?hn ?hr ?_; (case ho => rfl); (case hg => rfl); (case hn => rfl); (case hr => exact aP21); intro w25 hw; have hg : w23.grownBy w25 (some go19) := (by rw [hw]; exact HP24.2); have hp_ : Kd.R k60 60 w25 w.heap.size (fun _ => True) (.slice (some ⟨go19, 0, none⟩) t361.length co21) y378 := (by rw [hw, Ny378.out]; exact HP24.1); clear HP24; have n0_ := aM (hp_); have n1_ := aM (IsS82.grown aP0 hg (IsS82.own_ne HI0.out HO_3.out (by decide))); have n2_ := aM ((by rw [hw]; exact below_set (HB.out) (Nat.le_trans HL.out GB19.out) : Below w0.heap.size w0 w25)); have n3_ := aM (KeepBut.trans aP1 (KeepBut.of_grown hg g) (Kd.R_base2 HO_3.out)); clear HO_3; clear HI0; clear HB; clear HK; have HO_3 := n0_; have HI0 := n1_; have HB := n2_; have HK := n3_; clear n0_ n1_ n2_ n3_; clear hg hw hp_))
    go_ret
    exact ⟨_, by first | rfl | (simp [errW_none, errW_some] <;> rfl) | (simp [*, errW_none, errW_some] <;> rfl), by (with_reducible repeat (first | apply Kd.R_alloc | apply Kd.R_drewN | apply Kd.R_drew)); exact HO_3.out, by exact aP0, by exact aP2, aP1⟩
   rw [if_neg c14] at H
   have c14b0 : (t369 == 0) = false := beq_eq_false_iff_ne.mpr c14
   have c14b1 : (t369 != 0) = true := bne_iff_ne.mpr c14
   by_cases c26 : t369 = 1
   ·rw [if_pos c26] at H
    have c26b0 : (t369 == 1) = true := beq_iff_eq.mpr c26
    have c26b1 : (t369 != 1) = false := bne_eq_false_iff_eq.mpr c26
    clear c26
    replace H := Option.bind_eq_some_iff.mp H
    obtain ⟨⟨t379, t380, t381⟩, A270, H⟩ := H
    replace H : (if 0 ≤ t379 then (if t379 < (t361.length : Int) then (some ((t361.set (t379 : Int).toNat (⟨(rd_T60 t361 t379).f0, (⟨#[90]⟩ : ByteArray), (rd_T60 t361 t379).f2⟩ : S60)), t380, t381)) else (none)) else (none)) = some (r1, r2, r3) := H
    have A27 := aM A270
    clear A270
    by_cases c28 : 0 ≤ t379
    rotate_left
    ·rw [if_neg c28] at H
     exact absurd H (by simp)
    rw [if_pos c28] at H
    have c28b0 : decide (0 ≤ t379) = true := decide_eq_true c28
    clear c28
    by_cases c29 : t379 < (t361.length : Int)
    rotate_left
    ·rw [if_neg c29] at H
     exact absurd H (by simp)
    rw [if_pos c29] at H
    have c29b0 : decide (t379 < (t361.length : Int)) = true := decide_eq_true c29
    clear c29
    obtain ⟨y382, hy382⟩ : ∃ y_ : List (S60), y_ = (t361.set (t379 : Int).toNat (⟨(rd_T60 t361 t379).f0, (⟨#[90]⟩ : ByteArray), (rd_T60 t361 t379).f2⟩ : S60)) := ⟨_, rfl⟩
    replace H : (some (y382, t380, t381)) = some (r1, r2, r3) := by first | (rw [hy382]; with_reducible exact H) | (have H2_ := (Option.bind_some _ _).symm.trans H; rw [hy382]; with_reducible exact H2_) | (have H2_ := (Option.bind_some _ _).symm.trans H; with_reducible exact H2_) | with_reducible exact H | (rw [hy382]; exact H) | exact H
    have Ny382 := aM hy382
    clear hy382
    simp only [Option.some.injEq, Prod.mk.injEq] at H
    obtain ⟨rfl, rfl, rfl⟩ := H
    go_wp2_with (first | ((with_reducible refine gate_callee (f := 60) rfl ?_); refine goesL_ (some 16) rfl rfl Try.func60 (by kernel_rfl) rfl #[.pointer (some ⟨g, 0, none⟩), .int .i64 4] rfl mM ?_; (with_reducible refine (spec_l1Cur_pick.calls g s0_0 x1001_3 x1002_3 4 t369 t370 t371 w0 _ ?side1 ?side2 A13.out).mono ?_); (case side1 => exact aP0); (case side2 => exact aP2); rintro e w31 ⟨rfl, hi, hb, hk⟩; refine ⟨_, rfl, ?_⟩; replace HO_3 := aM (Kd.R_mono (Kd.R_keep (IsS82.apart (show IsS82 w0 _ g s0_0 x1001_3 x1002_3 from aP0) (rR HO_3.out) (by decide)) hk (fun _ h => h.2)) (fun _ h => h.1)); replace HK := aM (KeepBut.trans aP1 hk (.inl rfl)); replace HB := aM (hb); replace HI0 := aM (hi); (try clear hb); (try clear hb2); (try clear hk); (try clear hi); obtain ⟨Ao32, co32, eo32⟩ := Kd.R_slice HO_3.out; subst eo32) | ((with_reducible refine gate_callee (f := 60) rfl ?_); refine goesL_ (some 42) rfl rfl Try.func60 (by kernel_rfl) rfl #[.pointer (some ⟨g, 0, none⟩), .int .i64 (t361.length : Int)] rfl mM ?_; (with_reducible refine (spec_l1Cur_pick.calls g s0_0 t370 t371 (t361.length : Int) t379 t380 t381 w0 _ ?side1 ?side2 A27.out).mono ?_); (case side1 => exact aP0); (case side2 => exact aP2); rintro e w33 ⟨rfl, hi, hb, hk⟩; refine ⟨_, rfl, ?_⟩; replace HO_3 := aM (Kd.R_mono (Kd.R_keep (IsS82.apart (show IsS82 w0 _ g s0_0 t370 t371 from aP0) (rR HO_3.out) (by decide)) hk (fun _ h => h.2)) (fun _ h => h.1)); replace HK := aM (KeepBut.trans aP1 hk (.inl rfl)); replace HB := aM (hb); replace HI0 := aM (hi); (try clear hb); (try clear hb2); (try clear hk); (try clear hi); have p30 : 0 ≤ (t379 : Int) := of_decide_eq_true (by assumption); have q30 : (t379 : Int) < ((t361.length : Int) : Int) := of_decide_eq_true (by assumption); obtain ⟨go30, co30, eo30, gb30, gl30, cl30, HG30⟩ := Kd.R_form HO_3.out (by omega); (first | cases eo30 | (injection eo30 with ea_ en_ ec_; (first | subst ea_ | (injection ea_ with ea_; subst ea_)); subst ec_; clear en_)); have GB30 := aM gb30; have GG30 := aM HG30; clear gb30 gl30 HG30; obtain ⟨ce30, hcl30, hM30, hcc30, hfr30⟩ := Kd.R_elem HO_3.out z60 (t379 : Int) p30 q30; obtain rfl := k60_openM hM30; have hx30_0 : w33.cell? ⟨go30, (t379 : Int).toNat * 3, none⟩ = some (.int .i64 ((rd_T60 t361 t379).f0)) := hcc30 0 _ rfl; have hx30_1 : w33.cell? ⟨go30, (t379 : Int).toNat * 3 + 1, none⟩ = some (.string ((rd_T60 t361 t379).f1)) := hcc30 1 _ rfl; have hx30_2 : w33.cell? ⟨go30, (t379 : Int).toNat * 3 + 2, none⟩ = some (.string ((rd_T60 t361 t379).f2)) := hcc30 2 _ rfl; have hf30_0 : w33.frozen? ⟨go30, (t379 : Int).toNat * 3, none⟩ = false := hfr30 0; have hf30_1 : w33.frozen? ⟨go30, (t379 : Int).toNat * 3 + 1, none⟩ = false := hfr30 1; have hf30_2 : w33.frozen? ⟨go30, (t379 : Int).toNat * 3 + 2, none⟩ = false := hfr30 2; clear hcl30 hcc30 hfr30 hM30; replace p30 := eq_true p30; replace q30 := eq_true q30; have HX34 := aM (show Kd.R k60 60 w33 w.heap.size (fun _ => True) (.slice (some ⟨go30, 0, none⟩) t361.length co32) t361 from (rR HO_3.out)); obtain ⟨ce34, hcl34, hM34, hcc34, hfr34⟩ := Kd.R_elem HX34.out z60 (t379 : Int) (of_decide_eq_true (by assumption)) (by have h_ : (t379 : Int) < ((t361.length : Int) : Int) := of_decide_eq_true (by assumption); first | exact h_ | (have e_ := (Kd.R_reads' HO_3.out).1; omega) | simpa using h_); obtain rfl := k60_openM hM34; have HP34 := Kd.R_seg HX34.out (t379 : Int) (of_decide_eq_true (by assumption)) (by have h_ : (t379 : Int) < ((t361.length : Int) : Int) := of_decide_eq_true (by assumption); first | exact h_ | (have e_ := (Kd.R_reads' HO_3.out).1; omega) | simpa using h_) (seg := [.string (⟨#[90]⟩ : ByteArray)]) (j := 1) hcl34 hcc34 (show 2 ≤ 3 from by decide) (x' := (⟨(rd_T60 t361 t379).f0, (⟨#[90]⟩ : ByteArray), (rd_T60 t361 t379).f2⟩ : S60)) (k60_mkM _ _ _ (⟨(rd_T60 t361 t379).f0, (⟨#[90]⟩ : ByteArray), (rd_T60 t361 t379).f2⟩ : S60) ) (fun _ hk => hk); have hx34_1 := hcc34 1 _ rfl; (try simp only [show (k60).sz = 3 from rfl, Nat.mul_one, Nat.add_zero] at hx34_1); have hf34_1 := hfr34 1; (try simp only [show (k60).sz = 3 from rfl, Nat.mul_one, Nat.add_zero] at hf34_1); clear hcl34 hcc34 hfr34 hM34) | ((with_reducible refine gate_store (t := 9) (p := 44) rfl ?_); refine store_event (t := 9) (p := 44) (v := ?vo_w35) (w1 := (w33.setCell ⟨go30, (t379 : Int).toNat * 3 + 1, none⟩ (.string (⟨#[90]⟩ : ByteArray)))) ?hg ?ho ?hn ?hr ?_; (case ho => rfl); (case hg => rfl); (case hn => rfl); (case hr => exact aP21); intro w35 hw; have hg : w33.grownBy w35 (some go30) := (by rw [hw]; exact HP34.2); have hp_ : Kd.R k60 60 w35 w.heap.size (fun _ => True) (.slice (some ⟨go30, 0, none⟩) t361.length co32) y382 := (by rw [hw, Ny382.out]; exact HP34.1); clear HP34; have n0_ := aM (hp_); have n1_ := aM (IsS82.grown aP0 hg (IsS82.own_ne HI0.out HO_3.out (by decide))); have n2_ := aM ((by rw [hw]; exact below_set (HB.out) (Nat.le_trans HL.out GB30.out) : Below w0.heap.size w0 w35)); have n3_ := aM (KeepBut.trans aP1 (KeepBut.of_grown hg g) (Kd.R_base2 HO_3.out)); clear HO_3; clear HI0; clear HB; clear HK; have HO_3 := n0_; have HI0 := n1_; have HB := n2_; have HK := n3_; clear n0_ n1_ n2_ n3_; clear hg hw hp_))
    go_ret
    exact ⟨_, by first | rfl | (simp [errW_none, errW_some] <;> rfl) | (simp [*, errW_none, errW_some] <;> rfl), by (with_reducible repeat (first | apply Kd.R_alloc | apply Kd.R_drewN | apply Kd.R_drew)); exact HO_3.out, by exact aP0, by exact aP2, aP1⟩
   rw [if_neg c26] at H
   have c26b0 : (t369 == 1) = false := beq_eq_false_iff_ne.mpr c26
   have c26b1 : (t369 != 1) = true := bne_iff_ne.mpr c26
   by_cases c36 : t369 = 2
   ·rw [if_pos c36] at H
    have c36b0 : (t369 == 2) = true := beq_iff_eq.mpr c36
    have c36b1 : (t369 != 2) = false := bne_eq_false_iff_eq.mpr c36
    clear c36
    by_cases c37 : t361.length < 3518437208883
    rotate_left
    ·rw [if_neg c37] at H
     exact absurd H (by simp)
    rw [if_pos c37] at H
    have LMc37 := aM c37
    clear c37
    obtain ⟨y383, hy383⟩ : ∃ y_ : List (S60), y_ = (t361 ++ [(⟨0, (⟨#[]⟩ : ByteArray), (⟨#[]⟩ : ByteArray)⟩ : S60)]) := ⟨_, rfl⟩
    replace H : (some (y383, t370, t371)) = some (r1, r2, r3) := by first | (rw [hy383]; with_reducible exact H) | (have H2_ := (Option.bind_some _ _).symm.trans H; rw [hy383]; with_reducible exact H2_) | (have H2_ := (Option.bind_some _ _).symm.trans H; with_reducible exact H2_) | with_reducible exact H | (rw [hy383]; exact H) | exact H
    have Ny383 := aM hy383
    clear hy383
    simp only [Option.some.injEq, Prod.mk.injEq] at H
    obtain ⟨rfl, rfl, rfl⟩ := H
    go_wp2_with (first | ((with_reducible refine gate_callee (f := 60) rfl ?_); refine goesL_ (some 16) rfl rfl Try.func60 (by kernel_rfl) rfl #[.pointer (some ⟨g, 0, none⟩), .int .i64 4] rfl mM ?_; (with_reducible refine (spec_l1Cur_pick.calls g s0_0 x1001_3 x1002_3 4 t369 t370 t371 w0 _ ?side1 ?side2 A13.out).mono ?_); (case side1 => exact aP0); (case side2 => exact aP2); rintro e w38 ⟨rfl, hi, hb, hk⟩; refine ⟨_, rfl, ?_⟩; replace HO_3 := aM (Kd.R_mono (Kd.R_keep (IsS82.apart (show IsS82 w0 _ g s0_0 x1001_3 x1002_3 from aP0) (rR HO_3.out) (by decide)) hk (fun _ h => h.2)) (fun _ h => h.1)); replace HK := aM (KeepBut.trans aP1 hk (.inl rfl)); replace HB := aM (hb); replace HI0 := aM (hi); (try clear hb); (try clear hb2); (try clear hk); (try clear hi)) | ((with_reducible refine gate_builtin (b := .append) (xs := #[.tmp 47, .tmp 49]) rfl ?_); at_builtin; refine Kd.R_append k60 w.heap.size rfl (.tmp 47) (.tmp 49) 26 60 (.agg #[(.int .i64 0), (.string ⟨#[]⟩), (.string ⟨#[]⟩)]) 40 rfl Try.underlying26 info60 rfl (by decide) (by omega) v362 t361 (⟨0, (⟨#[]⟩ : ByteArray), (⟨#[]⟩ : ByteArray)⟩ : S60) [.int .i64 0, .string (⟨#[]⟩ : ByteArray), .string (⟨#[]⟩ : ByteArray)] (fun _ => True) (fun _ => False) rfl rfl ?aP (fun _ hk => hk.elim) ?aF ?aO (Below.refl _ _) ?aS ?aL ?_; (case aP => exact k60_mkM _ _ _ (⟨0, (⟨#[]⟩ : ByteArray), (⟨#[]⟩ : ByteArray)⟩ : S60)); (case aF => exact (fun _ _ => trivial)); (case aO => exact (rR HO_3.out)); (case aS => exact (keep_size (w := w) (g := g) (row := none) aP1)); (case aL => have := LMc37.out; omega); intro v384 w39 ho hb hg hat; rw [← Ny383.out] at ho; have HO385 := aM (ho); replace HI0 := aM (IsS82.grown aP0 hg (IsS82.own_ne HI0.out HO_3.out (by decide))); replace HB := aM (below_weaken aP2 HL.out hb); replace HK := aM (KeepBut.trans aP1 (KeepBut.of_grown hg g) (Kd.R_base2 HO_3.out)); clear ho hb hg hat))
    go_ret
    exact ⟨_, by first | rfl | (simp [errW_none, errW_some] <;> rfl) | (simp [*, errW_none, errW_some] <;> rfl), by (with_reducible repeat (first | apply Kd.R_alloc | apply Kd.R_drewN | apply Kd.R_drew)); exact HO385.out, by exact aP0, by exact aP2, aP1⟩
   rw [if_neg c36] at H
   have c36b0 : (t369 == 2) = false := beq_eq_false_iff_ne.mpr c36
   have c36b1 : (t369 != 2) = true := bne_iff_ne.mpr c36
   obtain ⟨y386, hy386⟩ : ∃ y_ : List Int, y_ = (([300, 301] : List Int)) := ⟨_, rfl⟩
   replace H : ((spec_l1Cur_among.f s0_0 t370 t371 y386).bind fun bt389 => (if t361.length < 3518437208883 then (some ((t361 ++ [(⟨bt389.1, (⟨#[]⟩ : ByteArray), (⟨#[]⟩ : ByteArray)⟩ : S60)]), bt389.2.1, bt389.2.2)) else (none))) = some (r1, r2, r3) := by first | (rw [hy386]; with_reducible exact H) | (have H2_ := (Option.bind_some _ _).symm.trans H; rw [hy386]; with_reducible exact H2_) | (have H2_ := (Option.bind_some _ _).symm.trans H; with_reducible exact H2_) | with_reducible exact H | (rw [hy386]; exact H) | exact H
   have Ny386 := aM hy386
   clear hy386
   replace H := Option.bind_eq_some_iff.mp H
   obtain ⟨⟨t389, t390, t391⟩, A400, H⟩ := H
   replace H : (if t361.length < 3518437208883 then (some ((t361 ++ [(⟨t389, (⟨#[]⟩ : ByteArray), (⟨#[]⟩ : ByteArray)⟩ : S60)]), t390, t391)) else (none)) = some (r1, r2, r3) := H
   have A40 := aM A400
   clear A400
   by_cases c41 : t361.length < 3518437208883
   rotate_left
   ·rw [if_neg c41] at H
    exact absurd H (by simp)
   rw [if_pos c41] at H
   have LMc41 := aM c41
   clear c41
   obtain ⟨y392, hy392⟩ : ∃ y_ : List (S60), y_ = (t361 ++ [(⟨t389, (⟨#[]⟩ : ByteArray), (⟨#[]⟩ : ByteArray)⟩ : S60)]) := ⟨_, rfl⟩
   replace H : (some (y392, t390, t391)) = some (r1, r2, r3) := by first | (rw [hy392]; with_reducible exact H) | (have H2_ := (Option.bind_some _ _).symm.trans H; rw [hy392]; with_reducible exact H2_) | (have H2_ := (Option.bind_some _ _).symm.trans H; with_reducible exact H2_) | with_reducible exact H | (rw [hy392]; exact H) | exact H
   have Ny392 := aM hy392
   clear hy392
   simp only [Option.some.injEq, Prod.mk.injEq] at H
   obtain ⟨rfl, rfl, rfl⟩ := H
   go_wp2_with (first | ((with_reducible refine gate_callee (f := 60) rfl ?_); refine goesL_ (some 16) rfl rfl Try.func60 (by kernel_rfl) rfl #[.pointer (some ⟨g, 0, none⟩), .int .i64 4] rfl mM ?_; (with_reducible refine (spec_l1Cur_pick.calls g s0_0 x1001_3 x1002_3 4 t369 t370 t371 w0 _ ?side1 ?side2 A13.out).mono ?_); (case side1 => exact aP0); (case side2 => exact aP2); rintro e w42 ⟨rfl, hi, hb, hk⟩; refine ⟨_, rfl, ?_⟩; replace HO_3 := aM (Kd.R_mono (Kd.R_keep (IsS82.apart (show IsS82 w0 _ g s0_0 x1001_3 x1002_3 from aP0) (rR HO_3.out) (by decide)) hk (fun _ h => h.2)) (fun _ h => h.1)); replace HK := aM (KeepBut.trans aP1 hk (.inl rfl)); replace HB := aM (hb); replace HI0 := aM (hi); (try clear hb); (try clear hb2); (try clear hk); (try clear hi)) | ((with_reducible refine gate_dst (N := 19) rfl ?_); refine Kd.R_lit (Kd.int .i64) _ 3 ?hg (N := 19) ?hd (xs := ([300, 301] : List Int)) (inner := [.int .i64 300, .int .i64 301]) (ok := fun _ => True) (okp := fun _ => True) ?hr ?hp (fun _ hk => hk) trivial (Below.refl _ _) (Nat.le_refl _) (by simp) ?_; (case hd => rfl); (case hg => rfl); (case hr => exact aP21); (case hp => exact (Reps.one (show Kd.M (Kd.int .i64) _ _ _ 300 [.int .i64 300] from rfl) (Reps.one (show Kd.M (Kd.int .i64) _ _ _ 301 [.int .i64 301] from rfl) (Reps.none _ _)))); intro v387 w43 ho44 hb hg_ hnew_; clear hg_ hnew_; (first | rw [← Ny386.out] at ho44 | (simp only [Int.reduceToNat] at ho44; rw [← Ny386.out] at ho44)); have HO388 := aM (Kd.R_lower ho44 (keep_size (w := w) (g := g) (row := none) aP1)); replace HO_3 := aM (Kd.R_below (rR HO_3.out) hb); replace HI0 := aM (IsS82.below aP0 hb); replace HK := aM (KeepBut.trans aP1 (KeepBut.of_below hb g none) (.inl rfl)); replace HB := aM (below_step aP2 hb); clear hb ho44; obtain ⟨Ao45, co45, eo45⟩ := Kd.R_slice HO388.out; subst eo45) | ((with_reducible refine gate_callee (f := 82) rfl ?_); refine goesL_ (some 20) rfl rfl Try.func82 (by kernel_rfl) rfl #[.pointer (some ⟨g, 0, none⟩), .slice Ao45 y386.length co45] rfl mM ?_; (with_reducible refine (spec_l1Cur_among.calls g s0_0 t370 t371 _ _ y386 t389 t390 t391 w0 _ ?side1 ?side2 ?side3 ?side4 ?side5 A40.out).mono ?_); (case side1 => exact aP0); (case side2 => exact aP2); (case side3 => exact cC ((Kd.R_reads' HO388.out).2.2)); (case side4 => exact (Kd.R_reads' HO388.out).2.1); (case side5 => exact far_slice (IsS82.own_ne HI0.out HO388.out (by decide))); rintro e w46 ⟨rfl, hi, hb, hk⟩; refine ⟨_, rfl, ?_⟩; replace HO_3 := aM (Kd.R_mono (Kd.R_keep (IsS82.apart (show IsS82 w0 _ g s0_0 t370 t371 from aP0) (rR HO_3.out) (by decide)) hk (fun _ h => h.2)) (fun _ h => h.1)); replace HO388 := aM (Kd.R_mono (Kd.R_keep (IsS82.apart (show IsS82 w0 _ g s0_0 t370 t371 from aP0) (rR HO388.out) (by decide)) hk (fun _ h => h.2)) (fun _ h => h.1)); replace HK := aM (KeepBut.trans aP1 hk (.inl rfl)); replace HB := aM (hb); replace HI0 := aM (hi); (try clear hb); (try clear hb2); (try clear hk); (try clear hi)) | ((with_reducible refine gate_builtin (b := .append) (xs := #[.tmp 17, .tmp 22]) rfl ?_); at_builtin; refine Kd.R_append k60 w.heap.size rfl (.tmp 17) (.tmp 22) 26 60 (.agg #[(.int .i64 0), (.string ⟨#[]⟩), (.string ⟨#[]⟩)]) 40 rfl Try.underlying26 info60 rfl (by decide) (by omega) v362 t361 (⟨t389, (⟨#[]⟩ : ByteArray), (⟨#[]⟩ : ByteArray)⟩ : S60) [.int .i64 t389, .string (⟨#[]⟩ : ByteArray), .string (⟨#[]⟩ : ByteArray)] (fun _ => True) (fun _ => False) rfl rfl ?aP (fun _ hk => hk.elim) ?aF ?aO (Below.refl _ _) ?aS ?aL ?_; (case aP => exact k60_mkM _ _ _ (⟨t389, (⟨#[]⟩ : ByteArray), (⟨#[]⟩ : ByteArray)⟩ : S60)); (case aF => exact (fun _ _ => trivial)); (case aO => exact (rR HO_3.out)); (case aS => exact (keep_size (w := w) (g := g) (row := none) aP1)); (case aL => have := LMc41.out; omega); intro v393 w47 ho hb hg hat; rw [← Ny392.out] at ho; have HO394 := aM (ho); replace HI0 := aM (IsS82.grown aP0 hg (IsS82.own_ne HI0.out HO_3.out (by decide))); replace HO388 := aM (Kd.R_over' (rR HO388.out) (Kd.R_typed (rR HO_3.out)) (by decide) hg); replace HB := aM (below_weaken aP2 HL.out hb); replace HK := aM (KeepBut.trans aP1 (KeepBut.of_grown hg g) (Kd.R_base2 HO_3.out)); clear ho hb hg hat))
   go_ret
   exact ⟨_, by first | rfl | (simp [errW_none, errW_some] <;> rfl) | (simp [*, errW_none, errW_some] <;> rfl), by (with_reducible repeat (first | apply Kd.R_alloc | apply Kd.R_drewN | apply Kd.R_drew)); exact HO394.out, by exact aP0, by exact aP2, aP1⟩
structure OvSt (w W : World) (gb : Nat) (code : List Int) (a1 z1 : Int) (va : Value) (a : List S60) (v : Value) (L : List (List S60)) : Prop where
 st : IsS82 w W gb code a1 z1
 bel : Below w.heap.size w W
 ra : Kd.R k60 60 W w.heap.size (fun k => k ≠ gb) va a
 rl : Kd.S (Kd.slice 60 k60) 26 W w.heap.size (fun k => some k ≠ va.ownBlock ∧ k ≠ gb) v L
theorem is_lt {w W : World} {gb : Nat} {code : List Int} {a1 z1 : Int} (h : IsS82 w W gb code a1 z1) : gb < W.heap.size := by
 obtain ⟨_, _, hb, _⟩ := h
 exact blk_lt hb
theorem OvSt.keep {w W W2 : World} {gb : Nat} {code : List Int} {a1 z1 a2 z2 : Int} {va : Value} {a : List S60} {v : Value} {L : List (List S60)} (h : OvSt w W gb code a1 z1 va a v L) (hi : IsS82 w W2 gb code a2 z2) (hb : Below w.heap.size w W2) (hk : KeepBut W W2 gb none) : OvSt w W2 gb code a2 z2 va a v L :=
 ⟨hi, hb, Kd.R_keep h.ra hk (fun _ h => h), Kd.S_keep h.rl hk (fun _ h => h.2)⟩
theorem OvSt.below {w W W2 : World} {gb : Nat} {code : List Int} {a1 z1 : Int} {va : Value} {a : List S60} {v : Value} {L : List (List S60)} (h : OvSt w W gb code a1 z1 va a v L) (hb : Below W.heap.size W W2) : OvSt w W2 gb code a1 z1 va a v L :=
 ⟨by obtain ⟨A, c, h1, h2⟩ := h.st; exact ⟨A, c, blk_below h1 hb, h2⟩, below_step h.bel hb, Kd.R_below h.ra hb, Kd.S_below h.rl hb⟩
theorem OvSt.beside {w W W2 : World} {gb : Nat} {code : List Int} {a1 z1 a2 z2 : Int} {va : Value} {a : List S60} {v : Value} {L : List (List S60)} (h : OvSt w W gb code a1 z1 va a v L) (hi : IsS82 w W2 gb code a2 z2) (hb : Below w.heap.size w W2) (hk : KeepBut W W2 gb none)
  {vb : Value} {b : List S60} (ho : Kd.R k60 60 W2 W.heap.size (fun _ => True) vb b) :
  Kd.R k60 60 W2 w.heap.size (fun k => some k = vb.ownBlock) vb b ∧ (∀ k, some k = vb.ownBlock → (some k ≠ va.ownBlock ∧ k ≠ gb) ∧ some k ≠ v.ownBlock) ∧
   Kd.S (Kd.slice 60 k60) 26 W2 w.heap.size (fun k => (some k ≠ va.ownBlock ∧ k ≠ gb) ∧ ¬ some k = vb.ownBlock) v L ∧ (∀ k, W2.heap.size ≤ k → some k ≠ va.ownBlock ∧ k ≠ gb) := by
 have hn : ∀ k, some k = vb.ownBlock → W.heap.size ≤ k := fun k e => Kd.R_base ho k e.symm
 have h1 : ∀ k, va.ownBlock = some k → k < W.heap.size := Kd.R_lt h.ra
 have h2 : ∀ k, v.ownBlock = some k → k < W.heap.size := Kd.S_lt h.rl
 have h3 := is_lt h.st
 have h4 := hk.1
 refine ⟨Kd.R_tight rfl (Kd.R_lower ho h.bel.size), fun k e => ⟨⟨fun e2 => ?_, fun e2 => ?_⟩, fun e2 => ?_⟩, ?_, fun k hk => ⟨fun e2 => ?_, fun e2 => ?_⟩⟩
 ·have := hn k e; have := h1 k e2.symm; omega
 ·have := hn k e; omega
 ·have := hn k e; have := h2 k e2.symm; omega
 ·exact Kd.S_mono (Kd.S_keep (Kd.S_mono (ok' := fun k => (some k ≠ va.ownBlock ∧ k ≠ gb) ∧ k < W.heap.size) (Kd.S_bound h.rl) (fun k hk => ⟨hk.1, hk.2.2.1⟩)) hk (fun k h => h.1.2)) (fun k h => ⟨h.1, fun e => by have := hn k e; omega⟩)
 ·have := h1 k e2.symm; omega
 omega
theorem OvSt.grown {w W w1 : World} {gb : Nat} {code : List Int} {a1 z1 : Int} {va : Value} {a : List S60} {v v1 : Value} {L L1 : List (List S60)} (h : OvSt w W gb code a1 z1 va a v L) (hb : Below w.heap.size w w1) (hg : W.grownBy w1 v.ownBlock)
  (ho : Kd.S (Kd.slice 60 k60) 26 w1 w.heap.size (fun k => some k ≠ va.ownBlock ∧ k ≠ gb) v1 L1) : OvSt w w1 gb code a1 z1 va a v1 L1 := by
 refine ⟨IsS82.grown h.st hg (Kd.S_away h.rl (fun _ h => h.2)), hb, ?_, ho⟩
 exact Kd.R_mono (Kd.R_grown (Kd.R_tight2 rfl h.ra) hg (fun k hk e => ((Kd.S_R h.rl).1 k e.symm).1 hk.1)) (fun _ hk => hk.2)
theorem own_apart {W w1 : World} {base : Nat} {ok : Nat → Prop} {v vb : Value} {b : List S60} (ho : Kd.R k60 60 W base (fun k => some k = vb.ownBlock) vb b) (hp : ∀ k, some k = vb.ownBlock → ok k ∧ some k ≠ v.ownBlock) (hg : W.grownBy w1 v.ownBlock) :
  Kd.R k60 60 w1 base (fun k => some k = vb.ownBlock) vb b := Kd.R_grown ho hg (fun k hk => (hp k hk).2)
def spec_DrawTransformOver.g (k : Nat) (code : List Int) : Nat → ByteArray → List (List S60) → Int → Int → Option (List (List S60) × Int × Int)
 | 0, _, L, a, z => some (L, a, z)
 | n + 1, s, L, a, z => (spec_l1Cur_opOn.f k code a z s).bind fun b => (spec_l3Apply.f k b.1 s).bind fun t => if L.length ≤ 1000000 then spec_DrawTransformOver.g k code n t.1 (L ++ [b.1]) b.2.1 b.2.2 else none
def spec_DrawTransformOver.f (k : Nat) (l0 : List Int) : Option (List S60 × List (List S60)) :=
 (spec_l1Cur_plainText.f k l0 0 0).bind fun s => (spec_l1Cur_opOn.f k l0 s.2.1 s.2.2 s.1).bind fun a => (spec_l1Cur_pick.f l0 a.2.1 a.2.2 4).bind fun n => if n.1 ≤ 1000000 then (spec_DrawTransformOver.g k l0 n.1.toNat s.1 [] n.2.1 n.2.2).bind fun L => (spec_l1Cur_one.f l0 L.2.1 L.2.2 20).bind fun o => if o.1 = true then (spec_l1Cur_op.f k l0 o.2.1 o.2.2).bind fun b => (if L.1.length ≤ 1000000 then some (a.1, L.1 ++ [b.1]) else none) else some (a.1, L.1) else none
theorem spec_DrawTransformOver.mono_g (k : Nat) (code : List Int) : ∀ (n : Nat) (s : ByteArray) (L : List (List S60)) (a z : Int), LeO (spec_DrawTransformOver.g k code n s L a z) (spec_DrawTransformOver.g (k + 1) code n s L a z)
 | 0, _, _, _, _ => LeO.refl _
 | n + 1, s, L, a, z => LeO.bind (spec_l1Cur_opOn.mono _ _ _ _ _) (fun _ => LeO.bind (spec_l3Apply.mono _ _ _) (fun _ => LeO.ite (spec_DrawTransformOver.mono_g k code n _ _ _ _) (LeO.none _)))
theorem spec_DrawTransformOver.mono : ∀ a0 k, LeO (spec_DrawTransformOver.f k a0) (spec_DrawTransformOver.f (k + 1) a0) := by
 intro a0 k
 unfold spec_DrawTransformOver.f
 exact LeO.bind (spec_l1Cur_plainText.mono _ _ _ _) (fun _ => LeO.bind (spec_l1Cur_opOn.mono _ _ _ _ _) (fun _ => LeO.bind (LeO.refl _) (fun _ => LeO.ite (LeO.bind (spec_DrawTransformOver.mono_g k _ _ _ _ _ _) (fun _ => LeO.bind (LeO.refl _) (fun _ => LeO.ite (LeO.bind (spec_l1Cur_op.mono _ _ _ _) (fun _ => LeO.refl _)) (LeO.refl _)))) (LeO.none _))))
theorem OvSt.start {w W W2 : World} {gb : Nat} {code : List Int} {a1 z1 a2 z2 : Int} {va : Value} {a : List S60} (h0 : IsS82 w W gb code a1 z1) (h1 : Below w.heap.size w W) (hi : IsS82 w W2 gb code a2 z2) (hb : Below w.heap.size w W2) (ho : Kd.R k60 60 W2 W.heap.size (fun _ => True) va a) : OvSt w W2 gb code a2 z2 va a (.slice none 0 0) [] := by
 have h3 := is_lt h0
 exact ⟨hi, hb, Kd.R_lower (Kd.R_mono (Kd.R_bound ho) (fun k hk e => by have := hk.2.1; omega)) h1.size, Kd.S_nil _ _ _ _ _⟩
theorem ov_more {k : Nat} {code : List Int} {n : Int} {s : ByteArray} {L : List (List S60)} {x y : Int} {R : List (List S60) × Int × Int} (hn : 0 < n) (h : spec_DrawTransformOver.g k code n.toNat s L x y = some R) :
  ∃ (b : List S60) (x2 y2 : Int) (t : ByteArray) (tb : Bool), spec_l1Cur_opOn.f k code x y s = some (b, x2, y2) ∧ spec_l3Apply.f k b s = some (t, tb) ∧ L.length ≤ 1000000 ∧ spec_DrawTransformOver.g k code (n - 1).toNat t (L ++ [b]) x2 y2 = some R := by
 have hm : n.toNat = (n - 1).toNat + 1 := by omega
 rw [hm, spec_DrawTransformOver.g] at h
 obtain ⟨⟨b, x2, y2⟩, h1, h⟩ := Option.bind_eq_some_iff.mp h
 obtain ⟨⟨t, tb⟩, h2, h⟩ := Option.bind_eq_some_iff.mp h
 dsimp only at h2 h
 split at h
 rotate_left
 ·cases h
 rename_i hl
 exact ⟨b, x2, y2, t, tb, h1, h2, hl, h⟩
theorem ov_end {k : Nat} {code : List Int} {n : Int} {s : ByteArray} {L L2 : List (List S60)} {x y x2 y2 : Int} (hn : ¬ 0 < n) (h : spec_DrawTransformOver.g k code n.toNat s L x y = some (L2, x2, y2)) : L2 = L ∧ x2 = x ∧ y2 = y := by
 rw [show n.toNat = 0 by omega, spec_DrawTransformOver.g] at h
 obtain ⟨e1, e2⟩ := Prod.mk.inj (Option.some.inj h)
 obtain ⟨e3, e4⟩ := Prod.mk.inj e2
 exact ⟨e1.symm, e3.symm, e4.symm⟩
theorem ov_last {k : Nat} {code : List Int} {a r1 : List S60} {L r2 : List (List S60)} {x y : Int} (h : ((spec_l1Cur_op.f k code x y).bind fun b => (if L.length ≤ 1000000 then some (a, L ++ [b.1]) else none)) = some (r1, r2)) :
  ∃ (b : List S60) (x2 y2 : Int), spec_l1Cur_op.f k code x y = some (b, x2, y2) ∧ L.length ≤ 1000000 ∧ r1 = a ∧ r2 = L ++ [b] := by
 obtain ⟨⟨b, x2, y2⟩, h1, h⟩ := Option.bind_eq_some_iff.mp h
 dsimp only at h
 split at h
 rotate_left
 ·cases h
 rename_i hl
 obtain ⟨rfl, rfl⟩ := Prod.mk.inj (Option.some.inj h)
 exact ⟨b, x2, y2, h1, hl, rfl, rfl⟩
set_option maxHeartbeats 8000000 in
set_option maxRecDepth 100000 in
theorem spec_DrawTransformOver.calls (k : Nat) (A0 : Option Addr) (c0 : Nat) (l0 : List Int) (r1 : List S60) (r2 : List (List S60)) (w : World) (hr0 : Kd.C (Kd.int .u8) w A0 l0.length l0) (hc0 : l0.length ≤ c0) (h : spec_DrawTransformOver.f k l0 = some (r1, r2)) :
  Calls Try.prog 31 #[.slice A0 l0.length c0] w fun e w' => ∃ v0_ v1_ : Value, e = .returned (.tuple #[v0_, v1_]) ∧ Kd.R k60 60 w' w.heap.size (fun _ => True) v0_ r1 ∧ Kd.S (Kd.slice 60 k60) 26 w' w.heap.size (fun k_ => some k_ ≠ (v0_ : Value).ownBlock) v1_ r2 ∧ Below w.heap.size w w' := by
 unfold spec_DrawTransformOver.f at h
 obtain ⟨⟨s, a1, z1⟩, h1, h⟩ := Option.bind_eq_some_iff.mp h
 obtain ⟨⟨a, a2, z2⟩, h2, h⟩ := Option.bind_eq_some_iff.mp h
 obtain ⟨⟨n, a3, z3⟩, h3, h⟩ := Option.bind_eq_some_iff.mp h
 dsimp only at h2 h3 h
 split at h
 case isFalse => cases h
 rename_i hn
 obtain ⟨⟨L, a4, z4⟩, h4, h⟩ := Option.bind_eq_some_iff.mp h
 obtain ⟨⟨o, a5, z5⟩, h5, h⟩ := Option.bind_eq_some_iff.mp h
 dsimp only at h5 h
 have H1 := aM h1
 have H2 := aM h2
 have H3 := aM h3
 have H4 := aM h4
 have H5 := aM h5
 have HH := aM h
 have HN := aM hn
 have HR0 := aM hr0
 clear h1 h2 h3 h4 h5 h hn hr0
 go_enter Try.func31, Try.ntmps31
 go_wp2_with (first | ((with_reducible refine gate_dst (N := 12) rfl ?_); refine box_event ?hg (N := 12) ?hd (cs := #[.slice A0 l0.length c0, .int .i64 0, .int .u64 0]) (t := 82) ?hr ?_; (case hd => rfl); (case hg => rfl); (case hr => exact aP21); intro gb hgb w1 hbox hb; have HI := aM (show IsS82 w w1 gb l0 0 0 from ⟨A0, c0, hbox, Nat.le_of_eq hgb.symm, HR0.out⟩); have HB := aM hb; clear hbox hb hgb) | (go_at_call 58; (with_reducible refine (spec_l1Cur_plainText.calls k gb l0 0 0 s a1 z1 w _ HI.out HB.out H1.out).mono ?_); rintro e w2 ⟨rfl, hi, hb, hk⟩; have HI2 := aM hi; have HB2 := aM hb; clear hi hb hk) | (go_at_call 59; (with_reducible refine (spec_l1Cur_opOn.calls k gb l0 a1 z1 s a a2 z2 w _ HI2.out HB2.out H2.out).mono ?_); rintro e w3 ⟨va, rfl, ho, hi, hb, hk⟩; have HV := aM (OvSt.start HI2.out HB2.out hi hb ho); clear ho hi hb hk HI HB HI2 HB2; obtain ⟨Aa, ca, ea⟩ := Kd.R_slice HV.out.ra; subst ea) | (go_at_call 60; (with_reducible refine (spec_l1Cur_pick.calls gb l0 a2 z2 4 n a3 z3 w _ HV.out.st HV.out.bel H3.out).mono ?_); rintro e w4 ⟨rfl, hi, hb, hk⟩; have HV4 := aM (HV.out.keep hi hb hk); clear hi hb hk HV))
 go_loopw [5, 7, 8] (fun v5 v7 v8 wr => ∃ (s' : ByteArray) (n' : Int) (L' : List (List S60)) (x y : Int), v5 = .string s' ∧ v8 = .int .i64 n' ∧ Aside0 (n' ≤ 1000000) ∧ Aside0 (OvSt w wr gb l0 x y (.slice Aa a.length ca) a v7 L') ∧ Aside0 (spec_DrawTransformOver.g k l0 n'.toNat s' L' x y = some (L, a4, z4))) (fun _ _ i _ => match i with | .int _ n => n.toNat | _ => 0)
 case atStart => exact ⟨s, n, [], a3, z3, rfl, rfl, HN, HV4, H4⟩
 case round =>
  obtain ⟨s', n', L', x, y, rfl, rfl, Hn, HV, HG⟩ := hrel
  clear HV4 H4 HN
  by_cases hlt : 0 < n'
  ·have c3b0 : decide (0 < n') = true := decide_eq_true hlt
   obtain ⟨b, x2, y2, t, tb, hf, ht, hl, hg'⟩ := ov_more hlt HG.out
   have HF := aM hf
   have HT := aM ht
   have HL := aM hl
   have HG' := aM hg'
   have HLT := aM hlt
   clear hf ht hl hg' hlt HG
   go_wp2_with (first | (go_at_call 59; (with_reducible refine (spec_l1Cur_opOn.calls k gb l0 x y s' b x2 y2 w _ HV.out.st HV.out.bel HF.out).mono ?_); rintro e w6 ⟨vb, rfl, ho, hi, hb, hk⟩; obtain ⟨q1, q2, q3, q4⟩ := OvSt.beside HV.out hi hb hk ho; have HV6 := aM (HV.out.keep hi hb hk); have HO6 := aM q1; have HP6 := aM q2; have HS6 := aM q3; have HQ6 := aM q4; clear ho hi hb hk q1 q2 q3 q4 HV; obtain ⟨Ab, cb, eb⟩ := Kd.R_slice HO6.out; subst eb) | ((with_reducible refine gate_builtin (b := .append) (xs := #[.tmp 27, .tmp 29]) rfl ?_); at_builtin; refine Kd.S_append (Kd.slice 60 k60) (w0 := w) w.heap.size rfl (.tmp 27) (.tmp 29) 39 26 (.slice none 0 0) 24 rfl Try.underlying39 info26 rfl (by decide) (by omega) _ L' b [.slice Ab b.length cb] (fun k => some k ≠ (.slice Aa a.length ca : Value).ownBlock ∧ k ≠ gb) (fun k => some k = (.slice Ab b.length cb : Value).ownBlock) rfl rfl ?aP HP6.out HQ6.out HS6.out HV6.out.bel ?aS ?aL ?_; (case aP => exact Kd.M_row HO6.out); (case aS => exact HV6.out.bel.size); (case aL => have := HL.out; omega); intro v9 w9 ho hb hg hat; have HV9 := aM (OvSt.grown HV6.out hb hg ho); have HO9 := aM (own_apart HO6.out HP6.out hg); clear ho hb hg hat HV6 HO6 HP6 HS6 HQ6) | (go_at_call 61; (with_reducible refine (spec_l3Apply.calls k Ab cb b s' t tb _ ?r1 ?r2 HT.out).mono ?_); (case r1 => exact (Kd.R_reads' HO9.out).2.2); (case r2 => exact (Kd.R_reads' HO9.out).2.1); rintro e w10 ⟨rfl, hb⟩; have HV10 := aM (HV9.out.below hb); clear hb HV9 HO9))
   have hl' := HLT.out
   have hn' := Hn.out
   have ew : wrap64 (n' - 1) = n' - 1 := by unfold wrap64; omega
   go_roundw
   case rel =>
    refine ⟨t, n' - 1, L' ++ [b], x2, y2, rfl, ?_, ⟨by omega⟩, HV10, HG'⟩
    first | rfl | (simp; done) | (congr 1)
   case measure => simp only [ew]; omega
  have c3b0 : decide (0 < n') = false := decide_eq_false hlt
  obtain ⟨rfl, rfl, rfl⟩ := ov_end hlt HG.out
  clear HG
  cases o with
  | false =>
   obtain ⟨rfl, rfl⟩ := Prod.mk.inj (Option.some.inj (show some (a, L) = some (r1, r2) from HH.out))
   go_wp2_with (first | (go_at_call 62; (with_reducible refine (spec_l1Cur_one.calls gb l0 a4 z4 20 false a5 z5 w _ HV.out.st HV.out.bel H5.out).mono ?_); rintro e w6 ⟨rfl, hi, hb, hk⟩; have HV6 := aM (HV.out.keep hi hb hk); clear hi hb hk HV))
   go_ret2
   exact ⟨_, _, rfl, Kd.R_mono HV6.out.ra (fun _ _ => trivial), Kd.S_mono HV6.out.rl (fun _ h => h.1), HV6.out.bel⟩
  | true =>
   obtain ⟨b, x2, y2, hf, hl, rfl, rfl⟩ := ov_last (show ((spec_l1Cur_op.f k l0 a5 z5).bind fun b => (if L.length ≤ 1000000 then some (a, L ++ [b.1]) else none)) = some (r1, r2) from HH.out)
   have HF := aM hf
   have HL := aM hl
   clear hf hl HH
   go_wp2_with (first | (go_at_call 62; (with_reducible refine (spec_l1Cur_one.calls gb l0 a4 z4 20 true a5 z5 w _ HV.out.st HV.out.bel H5.out).mono ?_); rintro e w5 ⟨rfl, hi, hb, hk⟩; have HV5 := aM (HV.out.keep hi hb hk); clear hi hb hk HV) | (go_at_call 63; (with_reducible refine (spec_l1Cur_op.calls k gb l0 a5 z5 b x2 y2 w _ HV5.out.st HV5.out.bel HF.out).mono ?_); rintro e w6 ⟨vb, rfl, ho, hi, hb, hk⟩; obtain ⟨q1, q2, q3, q4⟩ := OvSt.beside HV5.out hi hb hk ho; have HV6 := aM (HV5.out.keep hi hb hk); have HO6 := aM q1; have HP6 := aM q2; have HS6 := aM q3; have HQ6 := aM q4; clear ho hi hb hk q1 q2 q3 q4 HV5; obtain ⟨Ab, cb, eb⟩ := Kd.R_slice HO6.out; subst eb) | ((with_reducible refine gate_builtin (b := .append) (xs := #[.tmp 39, .tmp 42]) rfl ?_); at_builtin; refine Kd.S_append (Kd.slice 60 k60) (w0 := w) w.heap.size rfl (.tmp 39) (.tmp 42) 39 26 (.slice none 0 0) 24 rfl Try.underlying39 info26 rfl (by decide) (by omega) _ L b [.slice Ab b.length cb] (fun k => some k ≠ (.slice Aa r1.length ca : Value).ownBlock ∧ k ≠ gb) (fun k => some k = (.slice Ab b.length cb : Value).ownBlock) rfl rfl ?aP HP6.out HQ6.out HS6.out HV6.out.bel ?aS ?aL ?_; (case aP => exact Kd.M_row HO6.out); (case aS => exact HV6.out.bel.size); (case aL => have := HL.out; omega); intro v9 w9 ho hb hg hat; have HV9 := aM (OvSt.grown HV6.out hb hg ho); clear ho hb hg hat HV6 HO6 HP6 HS6 HQ6))
   go_ret2
   exact ⟨_, _, rfl, Kd.R_mono HV9.out.ra (fun _ _ => trivial), Kd.S_mono HV9.out.rl (fun _ h => h.1), HV9.out.bel⟩
def impl_SizesOf.f (k : Nat) (l0 : List (S60)) : Option (Int × Int × Bool) := (impl_GoodOp.f k l0).bind fun t395 => (if t395 = true then ((impl_sizes.f k l0).bind fun bt396 => (some (bt396.1, bt396.2, true))) else (some (0, 0, false)))
theorem impl_SizesOf.mono : ∀ a0 k, LeO (impl_SizesOf.f k a0) (impl_SizesOf.f (k + 1) a0) := by
 intro a0 k
 unfold impl_SizesOf.f
 repeat' (with_reducible first | exact impl_GoodOp.mono _ _ | exact impl_sizes.mono _ _ | exact LeO.refl _ | exact LeO.none _ | refine LeO.ite ?_ ?_ | refine LeO.bind ?_ (fun _ => ?_))
set_option maxHeartbeats 8000000 in
set_option maxRecDepth 100000 in
theorem impl_SizesOf.calls (k : Nat) (A0 : Option Addr) (c0 : Nat) (l0 : List (S60)) (r1 : Int) (r2 : Int) (r3 : Bool) (w : World) (hr0 : Kd.C k60 w A0 l0.length l0) (hc0 : l0.length ≤ c0) (h : impl_SizesOf.f k l0 = some (r1, r2, r3)) :
  Calls Try.prog 32 #[.slice A0 l0.length c0] w fun e w' => e = .returned (.tuple #[.int .i64 r1, .int .i64 r2, .bool r3]) ∧ Below w.heap.size w w' := by
 have HR0 := aM hr0
 have HC0 := aM hc0
 clear hr0 hc0
 have HB := aM (Below.refl w.heap.size w)
 have H : ((impl_GoodOp.f k l0).bind fun t395 => (if t395 = true then ((impl_sizes.f k l0).bind fun bt396 => (some (bt396.1, bt396.2, true))) else (some (0, 0, false)))) = some (r1, r2, r3) := h
 clear h
 replace H := Option.bind_eq_some_iff.mp H
 obtain ⟨t395, A20, H⟩ := H
 replace H : (if t395 = true then ((impl_sizes.f k l0).bind fun bt396 => (some (bt396.1, bt396.2, true))) else (some (0, 0, false))) = some (r1, r2, r3) := H
 have A2 := aM A20
 clear A20
 by_cases c3 : t395 = true
 rotate_left
 ·replace c3 := Bool.eq_false_iff.mpr c3
  subst c3
  replace H : (some (0, 0, false)) = some (r1, r2, r3) := by rw [if_neg (show ¬ (false = true) by decide)] at H; exact H
  simp only [Option.some.injEq, Prod.mk.injEq] at H
  obtain ⟨rfl, rfl, rfl⟩ := H
  go_enter Try.func32, Try.ntmps32
  go_wp2_with (first | ((with_reducible refine gate_callee (f := 37) rfl ?_); refine goesL_ (some 8) rfl rfl Try.func37 (by kernel_rfl) rfl #[.slice A0 l0.length c0] rfl mM ?_; (with_reducible refine (impl_GoodOp.calls k _ _ l0 false _ ?side1 ?side2 A2.out).mono ?_); (case side1 => exact cC HR0.out); (case side2 => exact HC0.out); rintro e w7 ⟨rfl, hb⟩; refine ⟨_, rfl, ?_⟩; replace HB := aM (below_step bB hb); (try clear hb); (try clear hb2); (try clear hk); (try clear hi)))
  go_ret3
  exact ⟨eR, bB⟩
 subst c3
 replace H : ((impl_sizes.f k l0).bind fun bt396 => (some (bt396.1, bt396.2, true))) = some (r1, r2, r3) := by rw [if_pos rfl] at H; exact H
 replace H := Option.bind_eq_some_iff.mp H
 obtain ⟨⟨t396, t397⟩, A40, H⟩ := H
 replace H : (some (t396, t397, true)) = some (r1, r2, r3) := H
 have A4 := aM A40
 clear A40
 simp only [Option.some.injEq, Prod.mk.injEq] at H
 obtain ⟨rfl, rfl, rfl⟩ := H
 go_enter Try.func32, Try.ntmps32
 go_wp2_with (first | ((with_reducible refine gate_callee (f := 37) rfl ?_); refine goesL_ (some 8) rfl rfl Try.func37 (by kernel_rfl) rfl #[.slice A0 l0.length c0] rfl mM ?_; (with_reducible refine (impl_GoodOp.calls k _ _ l0 true _ ?side1 ?side2 A2.out).mono ?_); (case side1 => exact cC HR0.out); (case side2 => exact HC0.out); rintro e w5 ⟨rfl, hb⟩; refine ⟨_, rfl, ?_⟩; replace HB := aM (below_step bB hb); (try clear hb); (try clear hb2); (try clear hk); (try clear hi)) | ((with_reducible refine gate_callee (f := 56) rfl ?_); refine goesL_ (some 12) rfl rfl Try.func56 (by kernel_rfl) rfl #[.slice A0 l0.length c0] rfl mM ?_; (with_reducible refine (impl_sizes.calls k _ _ l0 t396 t397 _ ?side1 ?side2 A4.out).mono ?_); (case side1 => exact cC (Kd.C_below HR0.out HB.out)); (case side2 => exact HC0.out); rintro e w6 ⟨rfl, hb⟩; refine ⟨_, rfl, ?_⟩; replace HB := aM (below_step bB hb); (try clear hb); (try clear hb2); (try clear hk); (try clear hi)))
 go_ret3
 exact ⟨eR, bB⟩
end Go.Proofs.Ytoagljlnfakgjaa.PFnOver
