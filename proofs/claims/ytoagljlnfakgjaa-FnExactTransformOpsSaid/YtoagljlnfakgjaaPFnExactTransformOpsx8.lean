/- (thin) Written by a program of this session (wip/ovl.py) over the kit's print: plain functions with the answers of the Go functions, and the proofs that they are; no condition. -/
import Derived.Test.YtoagljlnfakgjaaMk
import Derived.Test.YtoagljlnfakgjaaWFootNe
import Derived.Test.YtoagljlnfakgjaaWKept
import Derived.Test.YtoagljlnfakgjaaPFnExactTransformOpsx0
import Derived.Test.YtoagljlnfakgjaaPFnExactTransformOpsx7
namespace Go.Proofs.Ytoagljlnfakgjaa.PFnExactTransformOps
open Go.RowKit Go.Proofs.YtoagljlnfakgjaaW.PrintWords Go.Proofs.YtoagljlnfakgjaaW.PrintLast Go.Proofs.YtoagljlnfakgjaaW.PrintMore
attribute [local go_sem] max2_int min2_int max_two min_two max_three min_three max_four min_four   -- for this text's walks alone
set_option linter.unusedVariables false
set_option linter.unusedSimpArgs false
/-! ### impl_SameTexts: function 12 -/
mutual
def impl_SameTexts.j0 : Nat → List (S60) → List (S60) → Bool → Option (Bool × Bool)
 | 0, _, _, _ => none
 | k + 1, x0, x1, x17 => if x17 = true then (some (false, false)) else ((impl_dropped.f k x0).bind fun t213 => ((impl_dropped.f k x1).bind fun t216 => (if (t213.length : Int) = (t216.length : Int) then (impl_SameTexts.l0 k t216 t213 (t213.length : Int) 0) else (some (false, false)))))
def impl_SameTexts.l0 : Nat → List Int → List Int → Int → Int → Option (Bool × Bool)
 | 0, _, _, _, _ => none
 | k + 1, x7, x27, x28, x29 => if x29 < x28 then (if 0 ≤ x29 then (if x29 < (x27.length : Int) then (if (rd x27 x29) = 0 then (impl_SameTexts.l0 k x7 x27 x28 (wrap64 (x29 + 1))) else (if x29 < (x7.length : Int) then (if (rd x7 x29) = 0 then (impl_SameTexts.l0 k x7 x27 x28 (wrap64 (x29 + 1))) else (if (rd x27 x29) = (rd x7 x29) then (impl_SameTexts.l0 k x7 x27 x28 (wrap64 (x29 + 1))) else (some (false, true)))) else (none))) else (none)) else (none)) else (some (true, true))
end
def impl_SameTexts.f (k : Nat) (l0 : List (S60)) (l1 : List (S60)) : Option (Bool × Bool) := (impl_GoodOp.f k l0).bind fun t211 => (if t211 = true then ((impl_GoodOp.f k l1).bind fun t212 => (impl_SameTexts.j0 k l0 l1 (!t212))) else (impl_SameTexts.j0 k l0 l1 true))
theorem impl_SameTexts.mono_l : ∀ k, (∀ y0 y1 y2, LeO (impl_SameTexts.j0 k y0 y1 y2) (impl_SameTexts.j0 (k + 1) y0 y1 y2)) ∧ (∀ y0 y1 y2 y3, LeO (impl_SameTexts.l0 k y0 y1 y2 y3) (impl_SameTexts.l0 (k + 1) y0 y1 y2 y3))
 | 0 => ⟨fun _ _ _ r h => by simp [impl_SameTexts.j0] at h, fun _ _ _ _ r h => by simp [impl_SameTexts.l0] at h⟩
 | k + 1 => by
  obtain ⟨ih0, ih1⟩ := impl_SameTexts.mono_l k
  refine ⟨?_, ?_⟩
  ·intro y0 y1 y2
   unfold impl_SameTexts.j0
   repeat' first
   | (with_reducible exact ih0 _ _ _)
   | (with_reducible exact ih1 _ _ _ _)
   | (with_reducible exact impl_GoodOp.mono _ _)
   | (with_reducible exact impl_dropped.mono _ _)
   | (with_reducible exact LeO.refl _)
   | (with_reducible exact LeO.none _)
   | (with_reducible refine LeO.ite ?_ ?_)
   | (with_reducible refine LeO.bind ?_ (fun _ => ?_))
   | exact ih0 _ _ _
   | exact ih1 _ _ _ _
   | exact impl_GoodOp.mono _ _
   | exact impl_dropped.mono _ _
   | exact LeO.none _
   | refine LeO.ite ?_ ?_
   | refine LeO.bind ?_ (fun _ => ?_)
  ·intro y0 y1 y2 y3
   unfold impl_SameTexts.l0
   repeat' first
   | (with_reducible exact ih0 _ _ _)
   | (with_reducible exact ih1 _ _ _ _)
   | (with_reducible exact impl_GoodOp.mono _ _)
   | (with_reducible exact impl_dropped.mono _ _)
   | (with_reducible exact LeO.refl _)
   | (with_reducible exact LeO.none _)
   | (with_reducible refine LeO.ite ?_ ?_)
   | (with_reducible refine LeO.bind ?_ (fun _ => ?_))
   | exact ih0 _ _ _
   | exact ih1 _ _ _ _
   | exact impl_GoodOp.mono _ _
   | exact impl_dropped.mono _ _
   | exact LeO.none _
   | refine LeO.ite ?_ ?_
   | refine LeO.bind ?_ (fun _ => ?_)
theorem impl_SameTexts.mono : ∀ a0 a1 k, LeO (impl_SameTexts.f k a0 a1) (impl_SameTexts.f (k + 1) a0 a1) := by
 intro a0 a1 k
 obtain ⟨ih0, ih1⟩ := impl_SameTexts.mono_l k
 unfold impl_SameTexts.f
 repeat' first
   | (with_reducible exact ih0 _ _ _)
   | (with_reducible exact ih1 _ _ _ _)
   | (with_reducible exact impl_GoodOp.mono _ _)
   | (with_reducible exact impl_dropped.mono _ _)
   | (with_reducible exact LeO.refl _)
   | (with_reducible exact LeO.none _)
   | (with_reducible refine LeO.ite ?_ ?_)
   | (with_reducible refine LeO.bind ?_ (fun _ => ?_))
   | exact ih0 _ _ _
   | exact ih1 _ _ _ _
   | exact impl_GoodOp.mono _ _
   | exact impl_dropped.mono _ _
   | exact LeO.none _
   | refine LeO.ite ?_ ?_
   | refine LeO.bind ?_ (fun _ => ?_)
set_option maxHeartbeats 8000000 in
set_option maxRecDepth 100000 in
theorem impl_SameTexts.calls (k : Nat) (A0 : Option Addr) (c0 : Nat) (l0 : List (S60)) (A1 : Option Addr) (c1 : Nat) (l1 : List (S60)) (r1 : Bool) (r2 : Bool) (w : World) (hr0 : Kd.C k60 w A0 l0.length l0) (hc0 : l0.length ≤ c0) (hr1 : Kd.C k60 w A1 l1.length l1) (hc1 : l1.length ≤ c1) (h : impl_SameTexts.f k l0 l1 = some (r1, r2)) :
  Calls Try.prog 12 #[.slice A0 l0.length c0, .slice A1 l1.length c1] w fun e w' => e = .returned (.tuple #[.bool r1, .bool r2]) ∧ Below w.heap.size w w' := by
 have HR0 := aM hr0
 have HC0 := aM hc0
 clear hr0 hc0
 have HR1 := aM hr1
 have HC1 := aM hc1
 clear hr1 hc1
 have HB := aM (Below.refl w.heap.size w)
 have H : ((impl_GoodOp.f k l0).bind fun t211 => (if t211 = true then ((impl_GoodOp.f k l1).bind fun t212 => (impl_SameTexts.j0 k l0 l1 (!t212))) else (impl_SameTexts.j0 k l0 l1 true))) = some (r1, r2) := h
 clear h
 have HC3 := aM H
 clear H
 go_enter Try.func12, Try.ntmps12
 go_upto_region 1 with (fail)
 go_cut [17] (fun v17 wc => ∃ (kq : Nat) (x17_2 : Bool), v17 = .bool x17_2 ∧ Aside0 (impl_SameTexts.j0 kq l0 l1 x17_2 = some (r1, r2)) ∧ Aside0 (kq ≤ k) ∧ Aside0 (Below w.heap.size w wc))
 case first =>
  have H := HC3.out
  clear HC3
  replace H := Option.bind_eq_some_iff.mp H
  obtain ⟨t211, A40, H⟩ := H
  replace H : (if t211 = true then ((impl_GoodOp.f k l1).bind fun t212 => (impl_SameTexts.j0 k l0 l1 (!t212))) else (impl_SameTexts.j0 k l0 l1 true)) = some (r1, r2) := H
  have A4 := aM A40
  clear A40
  by_cases c5 : t211 = true
  ·subst c5
   have H1 : ((impl_GoodOp.f k l1).bind fun t212 => (impl_SameTexts.j0 k l0 l1 (!t212))) = some (r1, r2) := by rw [if_pos rfl] at H; exact H
   clear H
   have H := H1
   clear H1
   replace H := Option.bind_eq_some_iff.mp H
   obtain ⟨t212, A60, H⟩ := H
   replace H : (impl_SameTexts.j0 k l0 l1 (!t212)) = some (r1, r2) := H
   have A6 := aM A60
   clear A60
   have H' := aM H
   clear H
   go_wp2_with (first | ((with_reducible refine gate_callee (f := 37) rfl ?_); refine goesL_ (some 11) rfl rfl Try.func37 (by kernel_rfl) rfl #[.slice A0 l0.length c0] rfl mM ?_; (with_reducible refine (impl_GoodOp.calls k _ _ l0 true _ ?side1 ?side2 A4.out).mono ?_); (case side1 => exact cC (Kd.C_below HR0.out HB.out)); (case side2 => exact HC0.out); rintro e w7 ⟨rfl, hb⟩; refine ⟨_, rfl, ?_⟩; have n0_ := aM (below_step bB hb); clear HB; have HB := n0_; clear n0_; (try clear hb); (try clear hb2); (try clear hk); (try clear hi)) | (go_at_call 37; (with_reducible refine (impl_GoodOp.calls k _ _ l1 t212 _ ?side1 ?side2 A6.out).mono ?_); (case side1 => exact cC (Kd.C_below HR1.out HB.out)); (case side2 => exact HC1.out); rintro e w8 ⟨rfl, hb⟩; have n0_ := aM (below_step bB hb); clear HB; have HB := n0_; clear n0_; (try clear hb); (try clear hb2); (try clear hk); (try clear hi)))
   go_meet
   case rel => exact ⟨_, (!t212), (by first | rfl | (simp; done) | (simp [*]; done)), H', ⟨by first | omega | exact Nat.le_refl _⟩, ⟨bB⟩⟩
  ·replace c5 := Bool.eq_false_iff.mpr c5
   subst c5
   have H1 : (impl_SameTexts.j0 k l0 l1 true) = some (r1, r2) := by rw [if_neg (show ¬ (false = true) by decide)] at H; exact H
   clear H
   have H := H1
   clear H1
   have H' := aM H
   clear H
   go_wp2_with (first | ((with_reducible refine gate_callee (f := 37) rfl ?_); refine goesL_ (some 11) rfl rfl Try.func37 (by kernel_rfl) rfl #[.slice A0 l0.length c0] rfl mM ?_; (with_reducible refine (impl_GoodOp.calls k _ _ l0 false _ ?side1 ?side2 A4.out).mono ?_); (case side1 => exact cC (Kd.C_below HR0.out HB.out)); (case side2 => exact HC0.out); rintro e w9 ⟨rfl, hb⟩; refine ⟨_, rfl, ?_⟩; have n0_ := aM (below_step bB hb); clear HB; have HB := n0_; clear n0_; (try clear hb); (try clear hb2); (try clear hk); (try clear hi)))
   go_meet
   case rel => exact ⟨_, (true), (by first | rfl | (simp; done) | (simp [*]; done)), H', ⟨by first | omega | exact Nat.le_refl _⟩, ⟨bB⟩⟩
 case rest =>
  clear HC3
  try clear c1
  try clear p2
  try clear c3
  try clear c5
  obtain ⟨kq, x17_2, rfl, HA, HJ2, HB⟩ := hcut
  cases kq with
  | zero => exact absurd HA.out (by simp [impl_SameTexts.j0])
  | succ kj2 =>
   have H := HA.out
   clear HA
   simp only [impl_SameTexts.j0] at H
   by_cases c10 : x17_2 = true
   ·subst c10
    have H1 : (some (false, false)) = some (r1, r2) := by rw [if_pos rfl] at H; exact H
    clear H
    have H := H1
    clear H1
    simp only [Option.some.injEq, Prod.mk.injEq] at H
    obtain ⟨rfl, rfl⟩ := H
    go_wp2
    go_ret2
    exact ⟨by first | rfl | (simp [errW_none, errW_some] <;> rfl) | (simp [errW_none, errW_some]; exact isE _) | (simp [*, errW_none, errW_some] <;> rfl), bB⟩
   ·replace c10 := Bool.eq_false_iff.mpr c10
    subst c10
    have H1 : ((impl_dropped.f kj2 l0).bind fun t213 => ((impl_dropped.f kj2 l1).bind fun t216 => (if (t213.length : Int) = (t216.length : Int) then (impl_SameTexts.l0 kj2 t216 t213 (t213.length : Int) 0) else (some (false, false))))) = some (r1, r2) := by rw [if_neg (show ¬ (false = true) by decide)] at H; exact H
    clear H
    have H := H1
    clear H1
    replace H := Option.bind_eq_some_iff.mp H
    obtain ⟨t213, A110, H⟩ := H
    replace H : ((impl_dropped.f kj2 l1).bind fun t216 => (if (t213.length : Int) = (t216.length : Int) then (impl_SameTexts.l0 kj2 t216 t213 (t213.length : Int) 0) else (some (false, false)))) = some (r1, r2) := H
    have A11 := aM A110
    clear A110
    replace H := Option.bind_eq_some_iff.mp H
    obtain ⟨t216, A120, H⟩ := H
    replace H : (if (t213.length : Int) = (t216.length : Int) then (impl_SameTexts.l0 kj2 t216 t213 (t213.length : Int) 0) else (some (false, false))) = some (r1, r2) := H
    have A12 := aM A120
    clear A120
    by_cases c13 : (t213.length : Int) = (t216.length : Int)
    ·rw [if_pos c13] at H
     have c13b0 : ((t213.length : Int) == (t216.length : Int)) = true := beq_iff_eq.mpr c13
     have c13b1 : ((t213.length : Int) != (t216.length : Int)) = false := bne_eq_false_iff_eq.mpr c13
     have c13b2 : (t213.length == t216.length) = true := by first | simpa using c13 | (simp at c13 ⊢; omega)
     clear c13
     have H' := aM H
     clear H
     go_wp2_with (first | ((with_reducible refine gate_callee (f := 38) rfl ?_); refine goesL_ (some 19) rfl rfl Try.func38 (by kernel_rfl) rfl #[.slice A0 l0.length c0] rfl mM ?_; (with_reducible refine (impl_dropped.calls kj2 _ _ l0 t213 _ ?side1 ?side2 A11.out).mono ?_); (case side1 => exact cC (Kd.C_below HR0.out HB.out)); (case side2 => exact HC0.out); rintro e w14 ⟨v214, rfl, ho0, hb⟩; refine ⟨_, rfl, ?_⟩; have n0_ := aM (Kd.R_lower ho0 (below_size bB)); have n1_ := aM (below_step bB hb); clear HB; have HO215 := n0_; have HB := n1_; clear n0_ n1_; (try clear hb); (try clear hb2); (try clear hk); (try clear hi); (try clear ho0)) | ((with_reducible refine gate_callee (f := 38) rfl ?_); refine goesL_ (some 21) rfl rfl Try.func38 (by kernel_rfl) rfl #[.slice A1 l1.length c1] rfl mM ?_; (with_reducible refine (impl_dropped.calls kj2 _ _ l1 t216 _ ?side1 ?side2 A12.out).mono ?_); (case side1 => exact cC (Kd.C_below HR1.out HB.out)); (case side2 => exact HC1.out); rintro e w15 ⟨v217, rfl, ho0, hb⟩; refine ⟨_, rfl, ?_⟩; have n0_ := aM (Kd.R_elder' (rR HO215.out) (Kd.R_base ho0) hb); have n1_ := aM (Kd.R_lower (Kd.R_new' ho0 (Kd.R_lt (rR HO215.out))) (below_size bB)); have n2_ := aM (below_step bB hb); clear HO215; clear HB; have HO215 := n0_; have HO218 := n1_; have HB := n2_; clear n0_ n1_ n2_; (try clear hb); (try clear hb2); (try clear hk); (try clear hi); (try clear ho0); obtain ⟨Ao16, co16, eo16⟩ := Kd.R_slice HO215.out; subst eo16; obtain ⟨Ao17, co17, eo17⟩ := Kd.R_slice HO218.out; subst eo17))
     go_loopg [29] kj2 (fun kq v29 w' => ∃ (x29_2 : Int), v29 = .int .i64 x29_2 ∧ Aside0 (impl_SameTexts.l0 kq t216 t213 (t213.length : Int) x29_2 = some (r1, r2)) ∧ Aside0 (kq ≤ kj2) ∧ Aside0 (Kd.R (Kd.int .u8) 5 w' w.heap.size (fun k_ => some k_ ≠ ((.slice Ao16 t213.length co16) : Value).ownBlock) (.slice Ao17 t216.length co17) t216) ∧ Aside0 (Kd.R (Kd.int .u8) 5 w' w.heap.size (fun k_ => some k_ ≠ ((.slice Ao17 t216.length co17) : Value).ownBlock) (.slice Ao16 t213.length co16) t213) ∧ Aside0 (Below w.heap.size w w'))
     case atStart => exact ⟨(0), (by first | rfl | (simp; done) | (simp [*]; done)), H', ⟨Nat.le_refl _⟩, ⟨by (with_reducible repeat (first | apply Kd.R_alloc | apply Kd.R_drewN | apply Kd.R_drew)); exact Kd.R_mono HO218.out (fun _ hk => hk.2)⟩, ⟨by (with_reducible repeat (first | apply Kd.R_alloc | apply Kd.R_drewN | apply Kd.R_drew)); exact Kd.R_mono HO215.out (fun _ hk => hk.2)⟩, ⟨bB⟩⟩
     case round =>
      clear H'
      try clear c1
      try clear p2
      try clear c3
      try clear c5
      try clear c10
      try clear c12
      try clear c13
      try clear c13b0
      try clear c13b1
      try clear c13b2
      try clear p2
      obtain ⟨x29_2, rfl, HA, HK2, HO_7, HO_27, HB⟩ := hrel
      cases gk with
      | zero => exact absurd HA.out (by simp [impl_SameTexts.l0])
      | succ k2 =>
       have H := HA.out
       clear HA
       simp only [impl_SameTexts.l0] at H
       by_cases c18 : x29_2 < (t213.length : Int)
       ·rw [if_pos c18] at H
        have c18b0 : decide (x29_2 < (t213.length : Int)) = true := decide_eq_true c18
        clear c18
        by_cases c19 : 0 ≤ x29_2
        ·rw [if_pos c19] at H
         have c19b0 : decide (0 ≤ x29_2) = true := decide_eq_true c19
         clear c19
         by_cases c20 : x29_2 < (t213.length : Int)
         ·rw [if_pos c20] at H
          have c20b0 : decide (x29_2 < (t213.length : Int)) = true := decide_eq_true c20
          clear c20
          by_cases c21 : (rd t213 x29_2) = 0
          ·rw [if_pos c21] at H
           have c21b0 : ((rd t213 x29_2) == 0) = true := beq_iff_eq.mpr c21
           have c21b1 : ((rd t213 x29_2) != 0) = false := bne_eq_false_iff_eq.mpr c21
           clear c21
           have H' := aM H
           clear H
           have p219 : 0 ≤ (x29_2 : Int) := of_decide_eq_true (by assumption)
           have q219 : x29_2 < (t213.length : Int) := of_decide_eq_true (by assumption)
           obtain ⟨ad219, e219, hx219_0⟩ := Kd.at_int (Kd.R_reads' HO_27.out).2.2 x29_2 p219 q219
           cases e219
           replace p219 := eq_true p219
           replace q219 := eq_true q219
           go_wp2
           go_roundg k2
           case measure => have := HJ2.out; have := HK2.out; omega
           case rel => exact ⟨(wrap64 (x29_2 + 1)), (by first | rfl | (simp; done) | (simp [*]; done)), H', ⟨by have := HJ2.out; have := HK2.out; omega⟩, ⟨rR HO_7.out⟩, ⟨rR HO_27.out⟩, ⟨bB⟩⟩
          ·rw [if_neg c21] at H
           have c21b0 : ((rd t213 x29_2) == 0) = false := beq_eq_false_iff_ne.mpr c21
           have c21b1 : ((rd t213 x29_2) != 0) = true := bne_iff_ne.mpr c21
           by_cases c22 : x29_2 < (t216.length : Int)
           ·rw [if_pos c22] at H
            have c22b0 : decide (x29_2 < (t216.length : Int)) = true := decide_eq_true c22
            clear c22
            by_cases c23 : (rd t216 x29_2) = 0
            ·rw [if_pos c23] at H
             have c23b0 : ((rd t216 x29_2) == 0) = true := beq_iff_eq.mpr c23
             have c23b1 : ((rd t216 x29_2) != 0) = false := bne_eq_false_iff_eq.mpr c23
             clear c23
             have H' := aM H
             clear H
             have p219 : 0 ≤ (x29_2 : Int) := of_decide_eq_true (by assumption)
             have q219 : x29_2 < (t213.length : Int) := of_decide_eq_true (by assumption)
             obtain ⟨ad219, e219, hx219_0⟩ := Kd.at_int (Kd.R_reads' HO_27.out).2.2 x29_2 p219 q219
             cases e219
             replace p219 := eq_true p219
             replace q219 := eq_true q219
             have p220 : 0 ≤ (x29_2 : Int) := of_decide_eq_true (by assumption)
             have q220 : x29_2 < (t216.length : Int) := of_decide_eq_true (by assumption)
             obtain ⟨ad220, e220, hx220_0⟩ := Kd.at_int (Kd.R_reads' HO_7.out).2.2 x29_2 p220 q220
             cases e220
             replace p220 := eq_true p220
             replace q220 := eq_true q220
             go_wp2
             go_roundg k2
             case measure => have := HJ2.out; have := HK2.out; omega
             case rel => exact ⟨(wrap64 (x29_2 + 1)), (by first | rfl | (simp; done) | (simp [*]; done)), H', ⟨by have := HJ2.out; have := HK2.out; omega⟩, ⟨rR HO_7.out⟩, ⟨rR HO_27.out⟩, ⟨bB⟩⟩
            ·rw [if_neg c23] at H
             have c23b0 : ((rd t216 x29_2) == 0) = false := beq_eq_false_iff_ne.mpr c23
             have c23b1 : ((rd t216 x29_2) != 0) = true := bne_iff_ne.mpr c23
             by_cases c24 : (rd t213 x29_2) = (rd t216 x29_2)
             ·rw [if_pos c24] at H
              have c24b0 : ((rd t213 x29_2) == (rd t216 x29_2)) = true := beq_iff_eq.mpr c24
              have c24b1 : ((rd t213 x29_2) != (rd t216 x29_2)) = false := bne_eq_false_iff_eq.mpr c24
              clear c24
              have H' := aM H
              clear H
              have p219 : 0 ≤ (x29_2 : Int) := of_decide_eq_true (by assumption)
              have q219 : x29_2 < (t213.length : Int) := of_decide_eq_true (by assumption)
              obtain ⟨ad219, e219, hx219_0⟩ := Kd.at_int (Kd.R_reads' HO_27.out).2.2 x29_2 p219 q219
              cases e219
              replace p219 := eq_true p219
              replace q219 := eq_true q219
              have p220 : 0 ≤ (x29_2 : Int) := of_decide_eq_true (by assumption)
              have q220 : x29_2 < (t216.length : Int) := of_decide_eq_true (by assumption)
              obtain ⟨ad220, e220, hx220_0⟩ := Kd.at_int (Kd.R_reads' HO_7.out).2.2 x29_2 p220 q220
              cases e220
              replace p220 := eq_true p220
              replace q220 := eq_true q220
              have p221 : 0 ≤ (x29_2 : Int) := of_decide_eq_true (by assumption)
              have q221 : x29_2 < (t216.length : Int) := of_decide_eq_true (by assumption)
              obtain ⟨ad221, e221, hx221_0⟩ := Kd.at_int (Kd.R_reads' HO_7.out).2.2 x29_2 p221 q221
              (first | obtain rfl : ad220 = ad221 := (by injection e221) | cases e221)
              replace p221 := eq_true p221
              replace q221 := eq_true q221
              go_wp2
              go_roundg k2
              case measure => have := HJ2.out; have := HK2.out; omega
              case rel => exact ⟨(wrap64 (x29_2 + 1)), (by first | rfl | (simp; done) | (simp [*]; done)), H', ⟨by have := HJ2.out; have := HK2.out; omega⟩, ⟨rR HO_7.out⟩, ⟨rR HO_27.out⟩, ⟨bB⟩⟩
             ·rw [if_neg c24] at H
              have c24b0 : ((rd t213 x29_2) == (rd t216 x29_2)) = false := beq_eq_false_iff_ne.mpr c24
              have c24b1 : ((rd t213 x29_2) != (rd t216 x29_2)) = true := bne_iff_ne.mpr c24
              simp only [Option.some.injEq, Prod.mk.injEq] at H
              obtain ⟨rfl, rfl⟩ := H
              have p219 : 0 ≤ (x29_2 : Int) := of_decide_eq_true (by assumption)
              have q219 : x29_2 < (t213.length : Int) := of_decide_eq_true (by assumption)
              obtain ⟨ad219, e219, hx219_0⟩ := Kd.at_int (Kd.R_reads' HO_27.out).2.2 x29_2 p219 q219
              cases e219
              replace p219 := eq_true p219
              replace q219 := eq_true q219
              have p220 : 0 ≤ (x29_2 : Int) := of_decide_eq_true (by assumption)
              have q220 : x29_2 < (t216.length : Int) := of_decide_eq_true (by assumption)
              obtain ⟨ad220, e220, hx220_0⟩ := Kd.at_int (Kd.R_reads' HO_7.out).2.2 x29_2 p220 q220
              cases e220
              replace p220 := eq_true p220
              replace q220 := eq_true q220
              have p221 : 0 ≤ (x29_2 : Int) := of_decide_eq_true (by assumption)
              have q221 : x29_2 < (t216.length : Int) := of_decide_eq_true (by assumption)
              obtain ⟨ad221, e221, hx221_0⟩ := Kd.at_int (Kd.R_reads' HO_7.out).2.2 x29_2 p221 q221
              (first | obtain rfl : ad220 = ad221 := (by injection e221) | cases e221)
              replace p221 := eq_true p221
              replace q221 := eq_true q221
              go_wp2
              go_ret2
              exact ⟨by first | rfl | (simp [errW_none, errW_some] <;> rfl) | (simp [errW_none, errW_some]; exact isE _) | (simp [*, errW_none, errW_some] <;> rfl), bB⟩
           ·rw [if_neg c22] at H
            exact absurd H (by simp)
         ·rw [if_neg c20] at H
          exact absurd H (by simp)
        ·rw [if_neg c19] at H
         exact absurd H (by simp)
       ·rw [if_neg c18] at H
        have c18b0 : decide (x29_2 < (t213.length : Int)) = false := decide_eq_false c18
        clear c18
        simp only [Option.some.injEq, Prod.mk.injEq] at H
        obtain ⟨rfl, rfl⟩ := H
        go_wp2
        go_ret2
        exact ⟨by first | rfl | (simp [errW_none, errW_some] <;> rfl) | (simp [errW_none, errW_some]; exact isE _) | (simp [*, errW_none, errW_some] <;> rfl), bB⟩
    ·rw [if_neg c13] at H
     have c13b0 : ((t213.length : Int) == (t216.length : Int)) = false := beq_eq_false_iff_ne.mpr c13
     have c13b1 : ((t213.length : Int) != (t216.length : Int)) = true := bne_iff_ne.mpr c13
     have c13b2 : (t213.length == t216.length) = false := by first | simpa using c13 | (simp at c13 ⊢; omega)
     simp only [Option.some.injEq, Prod.mk.injEq] at H
     obtain ⟨rfl, rfl⟩ := H
     go_wp2_with (first | ((with_reducible refine gate_callee (f := 38) rfl ?_); refine goesL_ (some 19) rfl rfl Try.func38 (by kernel_rfl) rfl #[.slice A0 l0.length c0] rfl mM ?_; (with_reducible refine (impl_dropped.calls kj2 _ _ l0 t213 _ ?side1 ?side2 A11.out).mono ?_); (case side1 => exact cC (Kd.C_below HR0.out HB.out)); (case side2 => exact HC0.out); rintro e w25 ⟨v214, rfl, ho0, hb⟩; refine ⟨_, rfl, ?_⟩; have n0_ := aM (Kd.R_lower ho0 (below_size bB)); have n1_ := aM (below_step bB hb); clear HB; have HO215 := n0_; have HB := n1_; clear n0_ n1_; (try clear hb); (try clear hb2); (try clear hk); (try clear hi); (try clear ho0)) | ((with_reducible refine gate_callee (f := 38) rfl ?_); refine goesL_ (some 21) rfl rfl Try.func38 (by kernel_rfl) rfl #[.slice A1 l1.length c1] rfl mM ?_; (with_reducible refine (impl_dropped.calls kj2 _ _ l1 t216 _ ?side1 ?side2 A12.out).mono ?_); (case side1 => exact cC (Kd.C_below HR1.out HB.out)); (case side2 => exact HC1.out); rintro e w26 ⟨v217, rfl, ho0, hb⟩; refine ⟨_, rfl, ?_⟩; have n0_ := aM (Kd.R_elder' (rR HO215.out) (Kd.R_base ho0) hb); have n1_ := aM (Kd.R_lower (Kd.R_new' ho0 (Kd.R_lt (rR HO215.out))) (below_size bB)); have n2_ := aM (below_step bB hb); clear HO215; clear HB; have HO215 := n0_; have HO218 := n1_; have HB := n2_; clear n0_ n1_ n2_; (try clear hb); (try clear hb2); (try clear hk); (try clear hi); (try clear ho0); obtain ⟨Ao27, co27, eo27⟩ := Kd.R_slice HO215.out; subst eo27; obtain ⟨Ao28, co28, eo28⟩ := Kd.R_slice HO218.out; subst eo28))
     go_ret2
     exact ⟨by first | rfl | (simp [errW_none, errW_some] <;> rfl) | (simp [errW_none, errW_some]; exact isE _) | (simp [*, errW_none, errW_some] <;> rfl), bB⟩
/-! ### impl_normal: function 43 (by hand) -/
-- import Mk
section
open Go.Proofs.Ytoagljlnfakgjaa.Mk
def toP (x : S60) : Pt := (x.f0, x.f1, x.f2)
def ofP (p : Pt) : S60 := ⟨p.1, p.2.1, p.2.2⟩
def takeP (s : List Pt × ByteArray × ByteArray) (p : Pt) : List Pt × ByteArray × ByteArray := ((keepS s.1 s.2.1 s.2.2 p.1).1, (keepS s.1 s.2.1 s.2.2 p.1).2.1 ++ p.2.1, (keepS s.1 s.2.1 s.2.2 p.1).2.2 ++ p.2.2)
def normP (l : List Pt) : List Pt := (l.foldl takeP ([], ⟨#[]⟩, ⟨#[]⟩)).1 ++ endL (l.foldl takeP ([], ⟨#[]⟩, ⟨#[]⟩)).2.1 (l.foldl takeP ([], ⟨#[]⟩, ⟨#[]⟩)).2.2
/-- Cells one behind the other are a row. -/
theorem R_of_cells {w : World} {base : Nat} {v : Value} {l : List Pt} (h : w.ownsRow base 60 3 v l.length (cellsP l)) :
  Kd.R k60 60 w base (fun _ => True) v (l.map ofP) := by
 refine ⟨fun _ _ => trivial, cellsP l, by rw [List.length_map]; exact h, ?_⟩
 clear h
 induction l with
 | nil => exact Reps.none _ _
 | cons p r ih =>
  have h1 := Reps.snoc (R := k60.M w base fun k => (fun x => True) k ∧ some k ≠ v.ownBlock) (Reps.none _ 3) (k60_mkM w base _ (ofP p)) rfl
  exact Kd.reps_append h1 ih
def impl_normal.f (l0 : List S60) : Option (List S60) :=
 if l0.length ≤ 60 ∧ (l0.all fun x => decide (x.f1.size ≤ 300 ∧ x.f2.size ≤ 300)) = true then some ((normP (l0.map toP)).map ofP) else none
def stN (l : List S60) (i : Nat) : List Pt × ByteArray × ByteArray := ((l.take i).map toP).foldl takeP ([], ⟨#[]⟩, ⟨#[]⟩)
theorem stN_succ (l : List S60) (i : Nat) (h : i < l.length) : stN l (i + 1) = takeP (stN l i) (toP l[i]) := by
 unfold stN; rw [List.take_succ_eq_append_getElem h, List.map_append, List.foldl_append]; rfl
theorem keepS_len (l : List Pt) (a b : ByteArray) (x : Int) : (keepS l a b x).1.length ≤ l.length + 3 := by
 have he : (endL a b).length ≤ 2 := by unfold endL; rw [List.length_append]; split <;> split <;> simp
 unfold keepS; split
 ·show l.length ≤ _; omega
 ·show (keepA (l ++ endL a b) x).length ≤ _
  unfold keepA
  split
  ·split
   ·rw [List.length_append, List.length_dropLast, List.length_append]; simp; omega
   ·rw [List.length_append, List.length_append]; simp; omega
  ·simp
theorem keepS_put (l : List Pt) (a b : ByteArray) (x : Int) : (keepS l a b x).2.1.size ≤ a.size ∧ (keepS l a b x).2.2.size ≤ b.size := by
 unfold keepS; split
 ·exact ⟨Nat.le_refl _, Nat.le_refl _⟩
 ·exact ⟨Nat.zero_le _, Nat.zero_le _⟩
theorem stN_bound (l : List S60) (hs : ∀ x ∈ l, x.f1.size ≤ 300 ∧ x.f2.size ≤ 300) : ∀ i, i ≤ l.length → (stN l i).1.length ≤ 3 * i ∧ (stN l i).2.1.size ≤ 300 * i ∧ (stN l i).2.2.size ≤ 300 * i
 | 0, _ => ⟨Nat.le_refl _, Nat.le_refl _, Nat.le_refl _⟩
 | i + 1, h => by
  obtain ⟨h1, h2, h3⟩ := stN_bound l hs i (by omega)
  have hx := hs _ (List.getElem_mem (show i < l.length by omega))
  rw [stN_succ l i (by omega)]
  have k1 := keepS_len (stN l i).1 (stN l i).2.1 (stN l i).2.2 (l[i]'(by omega)).f0
  have k2 := keepS_put (stN l i).1 (stN l i).2.1 (stN l i).2.2 (l[i]'(by omega)).f0
  refine ⟨Nat.le_trans k1 (by omega), ?_, ?_⟩
  ·show ((keepS (stN l i).1 (stN l i).2.1 (stN l i).2.2 (l[i]'(by omega)).f0).2.1 ++ (l[i]'(by omega)).f1).size ≤ _
   rw [ByteArray.size_append]; have := k2.1; have := hx.1; omega
  ·show ((keepS (stN l i).1 (stN l i).2.1 (stN l i).2.2 (l[i]'(by omega)).f0).2.2 ++ (l[i]'(by omega)).f2).size ≤ _
   rw [ByteArray.size_append]; have := k2.2; have := hx.2; omega
theorem far_set {w0 w : World} {base g b i : Nat} {l : List Pt} {put drop : ByteArray} {v : Value} (h : IsMk w0 w base g l put drop v) (hb : base ≤ b) (hne : g ≠ b) (hv : v.ownBlock ≠ some b) (u : Value) : IsMk w0 (w.setCell ⟨b, i, none⟩ u) base g l put drop v :=
 ⟨blk_far h.blk hne u, own_set h.own hv i u, h.far, h.bel.setCell (p := ⟨b, i, none⟩) hb u, Nat.le_trans h.siz (size_set w b i u)⟩
theorem mk_init {w w1 : World} {g : Nat} (hg : g = w.heap.size) (hb : Below w.heap.size w w1) (h : w1.heap[g]? = some (.cells #[.slice none 0 0, .string ⟨#[]⟩, .string ⟨#[]⟩] 70 (0, 0))) : IsMk w w1 w.heap.size g [] ⟨#[]⟩ ⟨#[]⟩ (.slice none 0 0) :=
 ⟨h, own_nil _ _ _ _, by simp [Value.ownBlock], hb, hb.size⟩
set_option maxHeartbeats 4000000 in
set_option maxRecDepth 100000 in
theorem impl_normal.calls (A0 : Option Addr) (c0 : Nat) (l0 : List S60) (r : List S60) (w : World) (hr0 : Kd.C k60 w A0 l0.length l0) (hc0 : l0.length ≤ c0) (h : impl_normal.f l0 = some r) :
  Calls Try.prog 43 #[.slice A0 l0.length c0] w fun e w' => ∃ v0_ : Value, e = .returned v0_ ∧ Kd.R k60 60 w' w.heap.size (fun _ => True) v0_ r ∧ Below w.heap.size w w' := by
 have hu53 := Try.underlying60
 have hu74 := Try.underlying70
 unfold impl_normal.f at h
 split at h
 ·rename_i hgd
  obtain rfl := Option.some.inj h
  have HR0 := aM hr0
  have HC0 := aM hc0
  have HG := aM hgd
  clear hr0 hc0 h hgd
  go_enter Try.func43, Try.ntmps43
  go_wp2_with (first | ((with_reducible refine gate_dst (N := 3) rfl ?_); refine box_event ?hg (N := 3) ?hd (cs := #[.slice none 0 0, .string ⟨#[]⟩, .string ⟨#[]⟩]) (t := 70) ?hr ?_; (case hd => rfl); (case hg => rfl); (case hr => first | (go_simp; done) | (go_simp; rfl)); intro gb hgb w4 hbox hb; have HI := aM (mk_init hgb hb hbox); have GB := aM hgb; clear hbox hb hgb))
  go_loopw [8] (fun v8 wr => ∃ i : Nat, v8 = .int .i64 (i : Int) ∧ Aside0 (i ≤ l0.length) ∧ ∃ v, Aside0 (IsMk w wr w.heap.size gb (stN l0 i).1 (stN l0 i).2.1 (stN l0 i).2.2 v)) (fun i _ => l0.length - (match i with | .int _ n => n.toNat | _ => 0))
  case atStart => exact ⟨0, rfl, ⟨Nat.zero_le _⟩, _, HI⟩
  case round =>
   obtain ⟨i, rfl, Hi, v, HM⟩ := hrel
   clear HI
   by_cases hlt : i < l0.length
   ·have c3b0 : decide ((i : Int) < (l0.length : Int)) = true := decide_eq_true (by omega)
    have p3 : (0 : Int) ≤ (i : Int) := by omega
    have q3 : (i : Int) < (l0.length : Int) := by omega
    obtain ⟨ad, e3, hx0, hx1, hx2⟩ := at_T60 HR0.out (i : Int) p3 q3
    cases e3
    have HX0 := (HM.out.bel.cell (World.block_lt_of_cell? w _ hx0)).trans hx0
    have HX1 := (HM.out.bel.cell (World.block_lt_of_cell? w _ hx1)).trans hx1
    have HX2 := (HM.out.bel.cell (World.block_lt_of_cell? w _ hx2)).trans hx2
    clear hx0 hx1 hx2
    simp only [Int.toNat_natCast] at HX0 HX1 HX2
    have HLT := aM hlt
    have hss : ∀ x ∈ l0, x.f1.size ≤ 300 ∧ x.f2.size ≤ 300 := fun x hx => of_decide_eq_true (List.all_eq_true.1 HG.out.2 x hx)
    have hl60 := HG.out.1
    obtain ⟨u1, u2, u3⟩ := stN_bound l0 hss i (by omega)
    have hgt : rd_T60 l0 (i : Int) = l0[i] := by
     show l0.getD _ _ = _
     simp [List.getD_eq_getElem?_getD, hlt]
    have hsi := hss _ (List.getElem_mem hlt)
    have hb1 : (stN l0 i).1.length ≤ 900 := by omega
    have hb2 : (stN l0 i).2.1.size + (l0[i]).f1.size ≤ 4611686018427387904 := by omega
    have hb3 : (stN l0 i).2.2.size + (l0[i]).f2.size ≤ 4611686018427387904 := by omega
    clear hss u1 u2 u3 hsi
    go_wp2_with (first | ((with_reducible refine gate_dst (N := 5) rfl ?_); refine box_event ?hg (N := 5) ?hd (cs := #[.int .i64 0, .string ⟨#[]⟩, .string ⟨#[]⟩]) (t := 60) ?hr ?_; (case hd => rfl); (case hg => rfl); (case hr => first | (go_simp; done) | (go_simp; rfl)); intro gp hgp w5 hbox hb; have HM5 := aM (HM.out.below hb); have GP := aM hgp; have BX := aM hbox; have y0 := (blk_cell hbox 0).trans (show _ = some (Value.int .i64 0) from rfl); have y1 := (blk_cell hbox 1).trans (show _ = some (Value.string ⟨#[]⟩) from rfl); have y2 := (blk_cell hbox 2).trans (show _ = some (Value.string ⟨#[]⟩) from rfl); have f0 := blk_frozen hbox 0; have f1 := blk_frozen hbox 1; have f2 := blk_frozen hbox 2; have g1 := aM (show w.heap.size ≤ gp by rw [hgp]; exact HM.out.siz); have g2 := aM (show gb ≠ gp by rw [hgp]; exact Nat.ne_of_lt (blk_lt HM.out.blk)); have g3 := aM (show v.ownBlock ≠ some gp from fun e => absurd (own_lt HM.out.own gp e) (by rw [hgp]; exact Nat.lt_irrefl _)); clear hb hgp hbox))
    have htk := far_set (far_set (far_set HM5.out g1.out g2.out g3.out (i := 0) (.int .i64 (l0[i]).f0)) g1.out g2.out g3.out (i := 1) (.string (l0[i]).f1)) g1.out g2.out g3.out (i := 2) (.string (l0[i]).f2)
    refine (maker_take w.heap.size gb v (stN l0 i).1 (stN l0 i).2.1 (stN l0 i).2.2 (l0[i]).f0 (l0[i]).f1 (l0[i]).f2 w _ htk (Nat.le_of_eq GB.out.symm) hb1 hb2 hb3).mono ?_
    rintro e w6 ⟨rfl, v6, h6⟩
    have HM6 := aM h6
    clear h6
    go_wp2_with fail
    have hl' := HLT.out
    have hl6 := HG.out.1
    go_roundw
    case rel =>
     refine ⟨i + 1, ?_, ⟨by omega⟩, v6, ⟨?_⟩⟩
     ·first | rfl | (simp; done) | (congr 1; unfold wrap64; omega)
     ·rw [stN_succ l0 i hl']; exact HM6.out
    case measure => simp; omega
   ·have c3b0 : decide ((i : Int) < (l0.length : Int)) = false := decide_eq_false (by omega)
    have c3b1 : decide (i < l0.length) = false := decide_eq_false hlt
    have hi : i = l0.length := by have := Hi.out; omega
    have hss : ∀ x ∈ l0, x.f1.size ≤ 300 ∧ x.f2.size ≤ 300 := fun x hx => of_decide_eq_true (List.all_eq_true.1 HG.out.2 x hx)
    have hb1 : (stN l0 i).1.length ≤ 1000 := by have := (stN_bound l0 hss i Hi.out).1; have := HG.out.1; omega
    clear hss
    have HH := aM hi
    clear hi hlt
    have hmd := maker_made w.heap.size gb v (stN l0 i).1 (stN l0 i).2.1 (stN l0 i).2.2 _ _ HM.out (Nat.le_of_eq GB.out.symm) hb1
    go_wp2_with fail
    refine hmd.mono ?_
    rintro e w6 ⟨v6, rfl, h6⟩
    have HM6 := aM h6
    clear h6
    go_wp2_with fail
    go_ret
    refine ⟨_, rfl, ?_, HM6.out.bel⟩
    have hR := R_of_cells HM6.out.own
    have e : stN l0 i = (l0.map toP).foldl takeP ([], ⟨#[]⟩, ⟨#[]⟩) := by unfold stN; rw [HH.out, List.take_of_length_le (Nat.le_refl _)]
    rw [e] at hR
    exact hR
 ·cases h
end
/-! ### impl_reader_head: function 45 (by hand) -/
-- import Mk
-- import WFootNe
-- import WKept
/-- A reader at block g: what it has still to read; its row lies in no block of S. -/
def IsRd (w : World) (g : Nat) (l : List S60) (S : Nat → Prop) : Prop :=
 ∃ (A : Option Addr) (c : Nat), w.heap[g]? = some (.cells #[.slice A l.length c] 68 (0, 0)) ∧ l.length ≤ c ∧ Kd.C k60 w A l.length l ∧ (∀ ad, A = some ad → 0 < l.length → ¬ S ad.block)
def hdP (l : List S60) : S60 := l.headD ⟨0, ⟨#[]⟩, ⟨#[]⟩⟩
theorem IsRd.kept {w w' : World} {g : Nat} {l : List S60} {S S' : Nat → Prop} (h : IsRd w g l S) (hk : Kept w w' S') (hg : ¬ S' g) (hs : ∀ k, S' k → S k) : IsRd w' g l S := by
 obtain ⟨A, c, h1, h2, h3, h4⟩ := h
 refine ⟨A, c, blk_kept h1 hk hg, h2, ?_, h4⟩
 exact Kd.C_foot_neS (S := S') (fun h => h) h3 (fun ad e hn hq => h4 ad e hn (hs _ hq)) w' hk
theorem IsRd.below {w w' : World} {g : Nat} {l : List S60} {S : Nat → Prop} (h : IsRd w g l S) (hb : Below w.heap.size w w') : IsRd w' g l S :=
 h.kept (Kept.of_below hb (fun _ => False)) (fun q => q) (fun _ q => q.elim)
set_option maxHeartbeats 8000000 in
set_option maxRecDepth 100000 in
theorem rd_head (w : World) (g : Nat) (l : List S60) (S : Nat → Prop) (h : IsRd w g l S) :
  Calls Try.prog 45 #[.pointer (some ⟨g, 0, none⟩)] w fun e w' => e = .returned (.agg #[.int .i64 (hdP l).f0, .string (hdP l).f1, .string (hdP l).f2]) ∧ Below w.heap.size w w' := by
 have hu53 := Try.underlying60
 have hu72 := Try.underlying68
 obtain ⟨A, c, hk, hc, hr, _⟩ := h
 have gw := blk_lt hk
 have KB := aM hk
 have HR := aM hr
 have c0 : w.cell? ⟨g, 0, none⟩ = some (.slice A l.length c) := (blk_cell hk 0).trans rfl
 clear hk hr
 cases l with
 | nil =>
  go_enter Try.func45, Try.ntmps45
  go_wp2_with (first | ((with_reducible refine gate_dst (N := 2) rfl ?_); refine box_event ?hg (N := 2) ?hd (cs := #[.int .i64 0, .string (⟨#[]⟩ : ByteArray), .string (⟨#[]⟩ : ByteArray)]) (t := 60) ?hr ?_; (case hd => rfl); (case hg => rfl); (case hr => first | (go_simp; done) | (go_simp; rfl)); intro gb hgb w1 hbox hb; have y := (blk_cell (blk_below KB.out hb) 0).trans (show _ = some (Value.slice A ([] : List S60).length c) from rfl); have HB := aM hb; have BX := aM hbox; have GB := aM hgb; have y0 := (blk_cell hbox 0).trans (show _ = some (Value.int .i64 0) from rfl); have y1 := (blk_cell hbox 1).trans (show _ = some (Value.string ⟨#[]⟩) from rfl); have y2 := (blk_cell hbox 2).trans (show _ = some (Value.string ⟨#[]⟩) from rfl); have f0 := blk_frozen hbox 0; have f1 := blk_frozen hbox 1; have f2 := blk_frozen hbox 2; clear hb hbox hgb c0))
  refine bodyPost_ret (results_cell_row rfl _ _ gb 60 #[.int .i64 0, .string (⟨#[]⟩ : ByteArray), .string (⟨#[]⟩ : ByteArray)] (0, 0) _ rfl (by refine blk_put (cs := #[.int .i64 0, .string (⟨#[]⟩ : ByteArray), .string (⟨#[]⟩ : ByteArray)]) ?_ 2 _ rfl; refine blk_put (cs := #[.int .i64 0, .string (⟨#[]⟩ : ByteArray), .string (⟨#[]⟩ : ByteArray)]) ?_ 1 _ rfl; refine blk_put (cs := #[.int .i64 0, .string (⟨#[]⟩ : ByteArray), .string (⟨#[]⟩ : ByteArray)]) ?_ 0 _ rfl; exact BX.out) Try.underlying60 rfl (by kernel_rfl)) rfl ?_
  have hge : w.heap.size ≤ gb := Nat.le_of_eq GB.out.symm
  exact ⟨rfl, ((HB.out.setCell (p := ⟨gb, 0, none⟩) hge _).setCell (p := ⟨gb, 1, none⟩) hge _).setCell (p := ⟨gb, 2, none⟩) hge _⟩
 | cons p r =>
  have p0 : (0 : Int) < ((p :: r).length : Int) := by rw [List.length_cons]; omega
  have p1 : (0 : Nat) < (p :: r).length := by rw [List.length_cons]; omega
  obtain ⟨ad, e3, hx0, hx1, hx2⟩ := at_T60 HR.out 0 (Int.le_refl _) p0
  cases e3
  rw [show ((0 : Int)).toNat = 0 from rfl, show 0 * 3 = 0 from rfl, Addr.add_zero'] at hx0 hx1 hx2
  have X1 := aM hx1
  have X2 := aM hx2
  have b0 : (((p :: r).length : Int) == 0) = false := beq_eq_false_iff_ne.mpr (by omega)
  have b1 : (((p :: r).length : Int) != 0) = true := bne_iff_ne.mpr (by omega)
  have b2 : decide (0 < ((p :: r).length : Int)) = true := decide_eq_true p0
  have b3 : decide (0 < (p :: r).length) = true := decide_eq_true p1
  have X0 := aM hx0
  clear hx0 hx1 hx2
  generalize hL : p :: r = L at *
  have HL := aM hL
  clear hL
  go_enter Try.func45, Try.ntmps45
  go_wp2_with (first | ((with_reducible refine gate_dst (N := 2) rfl ?_); refine box_event ?hg (N := 2) ?hd (cs := #[.int .i64 0, .string (⟨#[]⟩ : ByteArray), .string (⟨#[]⟩ : ByteArray)]) (t := 60) ?hr ?_; (case hd => rfl); (case hg => rfl); (case hr => first | (go_simp; done) | (go_simp; rfl)); intro gb hgb w1 hbox hb; have y := (blk_cell (blk_below KB.out hb) 0).trans (show _ = some (Value.slice (some ad) L.length c) from rfl); have HB := aM hb; have BX := aM hbox; have GB := aM hgb; have z0 := pw_cell_below hb X0.out; have z1 := pw_cell_below hb X1.out; have z2 := pw_cell_below hb X2.out; have n1 : gb ≠ g := (by rw [hgb]; exact Nat.ne_of_gt gw); have n2 : g ≠ gb := (by rw [hgb]; exact Nat.ne_of_lt gw); have y0 := (blk_cell hbox 0).trans (show _ = some (Value.int .i64 0) from rfl); have y1 := (blk_cell hbox 1).trans (show _ = some (Value.string ⟨#[]⟩) from rfl); have y2 := (blk_cell hbox 2).trans (show _ = some (Value.string ⟨#[]⟩) from rfl); have f0 := blk_frozen hbox 0; have f1 := blk_frozen hbox 1; have f2 := blk_frozen hbox 2; clear hb hbox hgb c0))
  refine bodyPost_ret (results_cell_row rfl _ _ gb 60 #[.int .i64 (rd_T60 L 0).f0, .string (rd_T60 L 0).f1, .string (rd_T60 L 0).f2] (0, 0) _ rfl (by refine blk_put (cs := #[.int .i64 (rd_T60 L 0).f0, .string (rd_T60 L 0).f1, .string (⟨#[]⟩ : ByteArray)]) ?_ 2 _ rfl; refine blk_put (cs := #[.int .i64 (rd_T60 L 0).f0, .string (⟨#[]⟩ : ByteArray), .string (⟨#[]⟩ : ByteArray)]) ?_ 1 _ rfl; refine blk_put (cs := #[.int .i64 0, .string (⟨#[]⟩ : ByteArray), .string (⟨#[]⟩ : ByteArray)]) ?_ 0 _ rfl; exact BX.out) Try.underlying60 rfl (by kernel_rfl)) rfl ?_
  have hge : w.heap.size ≤ gb := Nat.le_of_eq GB.out.symm
  obtain rfl := HL.out
  exact ⟨rfl, ((HB.out.setCell (p := ⟨gb, 0, none⟩) hge _).setCell (p := ⟨gb, 1, none⟩) hge _).setCell (p := ⟨gb, 2, none⟩) hge _⟩
-- NOT PRINTED: function 75 (impl_maker_end)
-- NOT PRINTED: function 48 (impl_maker_keep)
-- NOT PRINTED: function 46 (impl_maker_take)
/-! ### impl_reader_next: function 47 (by hand) -/
-- import Mk
-- import WKept
set_option maxHeartbeats 8000000 in
set_option maxRecDepth 100000 in
theorem rd_next (w : World) (g : Nat) (p : S60) (r : List S60) (S : Nat → Prop) (h : IsRd w g (p :: r) S) (hS : S g) :
  Calls Try.prog 47 #[.pointer (some ⟨g, 0, none⟩)] w fun e w' => e = .returned (.agg #[.int .i64 p.f0, .string p.f1, .string p.f2]) ∧ IsRd w' g r S ∧ KeptB w w' (fun k => k = g) := by
 have hu53 := Try.underlying60
 have hu72 := Try.underlying68
 have RD := aM h
 obtain ⟨A, c, hk, hc, hr, hf⟩ := h
 have gw := blk_lt hk
 have KB := aM hk
 have HR := aM hr
 have HC := aM hc
 have HF := aM hf
 have hln : (p :: r).length = r.length + 1 := rfl
 rw [hln] at KB
 have HN := aM (show r.length + 1 ≤ c from hc)
 clear hk hr hc hf hln
 have hHd : hdP (p :: r) = p := rfl
 by_cases hc1 : c = 1
 ·have d1 : (c == 1) = true := beq_iff_eq.mpr hc1
  have d2 : (c = 1) = True := eq_true hc1
  have HC1 := aM hc1
  clear hc1
  go_enter Try.func47, Try.ntmps47
  go_wp2_with (first | ((with_reducible refine gate_dst (N := 2) rfl ?_); refine box_event ?hg (N := 2) ?hd (cs := #[.int .i64 0, .string (⟨#[]⟩ : ByteArray), .string (⟨#[]⟩ : ByteArray)]) (t := 60) ?hr ?_; (case hd => rfl); (case hg => rfl); (case hr => first | (go_simp; done) | (go_simp; rfl)); intro gb hgb w1 hbox hb; have RD1 := aM (RD.out.below hb); have KB1 := aM (blk_below KB.out hb); have HB1 := aM hb; have BX := aM hbox; have GB := aM hgb; clear hb hbox hgb) | (go_at_call 45; with_reducible refine (rd_head _ g (p :: r) S RD1.out).mono ?_; rw [hHd]; rintro e w2 ⟨rfl, hb2⟩; have KB2 := aM (blk_below KB1.out hb2); have HB2 := aM hb2; have BX2 := aM (blk_below BX.out hb2); clear hb2) | ((with_reducible refine gate_dst (N := 3) rfl ?_); refine box_event ?hg (N := 3) ?hd (cs := #[.int .i64 0, .string (⟨#[]⟩ : ByteArray), .string (⟨#[]⟩ : ByteArray)]) (t := 60) ?hr ?_; (case hd => rfl); (case hg => rfl); (case hr => first | (go_simp; done) | (go_simp; rfl)); intro gc hgc w3 hbox hb; have y := (blk_cell (blk_below KB2.out hb) 0).trans (show _ = some (Value.slice A (r.length + 1) c) from rfl); have yf := blk_frozen (blk_below KB2.out hb) 0; have KB3 := aM (blk_below KB2.out hb); have BX3 := aM (blk_below BX2.out hb); have HB3 := aM hb; have BC := aM hbox; have GC := aM hgc; have a0 := (blk_cell BX3.out 0).trans (show _ = some (Value.int .i64 0) from rfl); have a1 := (blk_cell BX3.out 1).trans (show _ = some (Value.string ⟨#[]⟩) from rfl); have a2 := (blk_cell BX3.out 2).trans (show _ = some (Value.string ⟨#[]⟩) from rfl); have e0 := blk_frozen BX3.out 0; have e1 := blk_frozen BX3.out 1; have e2 := blk_frozen BX3.out 2; have y0 := (blk_cell hbox 0).trans (show _ = some (Value.int .i64 0) from rfl); have y1 := (blk_cell hbox 1).trans (show _ = some (Value.string ⟨#[]⟩) from rfl); have y2 := (blk_cell hbox 2).trans (show _ = some (Value.string ⟨#[]⟩) from rfl); have f0 := blk_frozen hbox 0; have f1 := blk_frozen hbox 1; have f2 := blk_frozen hbox 2; have n1 : gb ≠ g := (by rw [GB.out]; exact Nat.ne_of_gt gw); have n2 : g ≠ gb := (by rw [GB.out]; exact Nat.ne_of_lt gw); have n3 : gc ≠ g := (by rw [hgc]; exact Nat.ne_of_gt (blk_lt KB2.out)); have n4 : g ≠ gc := (by rw [hgc]; exact Nat.ne_of_lt (blk_lt KB2.out)); have n5 : gc ≠ gb := (by rw [hgc]; exact Nat.ne_of_gt (blk_lt BX2.out)); have n6 : gb ≠ gc := (by rw [hgc]; exact Nat.ne_of_lt (blk_lt BX2.out)); clear hb hbox hgc))
  have hgb : w.heap.size ≤ gb := Nat.le_of_eq GB.out.symm
  have z1 := HB1.out.size
  have z2 := HB2.out.size
  have hgc : w.heap.size ≤ gc := by rw [GC.out]; omega
  have k3 : KeptB w w3 (fun k => k = g) := ((KeptB.of_below HB1.out (fun k => k = g)).then_ (KeptB.of_below HB2.out (fun _ => False)) (fun _ q => q.elim)).then_ (KeptB.of_below HB3.out (fun _ => False)) (fun _ q => q.elim)
  have KW := ((((((k3.setCell (p := ⟨gc, 0, none⟩) (.inr hgc) (.int .i64 p.f0)).setCell (p := ⟨gc, 1, none⟩) (.inr hgc) (.string p.f1)).setCell (p := ⟨gc, 2, none⟩) (.inr hgc) (.string p.f2)).setCell (p := ⟨g, 0, none⟩) (.inl rfl) (.slice A r.length (c - 1))).setCell (p := ⟨gb, 0, none⟩) (.inr hgb) (.int .i64 p.f0)).setCell (p := ⟨gb, 1, none⟩) (.inr hgb) (.string p.f1)).setCell (p := ⟨gb, 2, none⟩) (.inr hgb) (.string p.f2)
  have BG := blk_far (blk_far (blk_far (blk_put (cs' := #[.slice A r.length (c - 1)]) (blk_far (blk_far (blk_far KB3.out (p := ⟨gc, 0, none⟩) n4 (.int .i64 p.f0)) (p := ⟨gc, 1, none⟩) n4 (.string p.f1)) (p := ⟨gc, 2, none⟩) n4 (.string p.f2)) 0 (.slice A r.length (c - 1)) rfl) (p := ⟨gb, 0, none⟩) n2 (.int .i64 p.f0)) (p := ⟨gb, 1, none⟩) n2 (.string p.f1)) (p := ⟨gb, 2, none⟩) n2 (.string p.f2)
  have BB := blk_put (cs' := #[.int .i64 p.f0, .string p.f1, .string p.f2]) (blk_put (cs' := #[.int .i64 p.f0, .string p.f1, .string (⟨#[]⟩ : ByteArray)]) (blk_put (cs' := #[.int .i64 p.f0, .string (⟨#[]⟩ : ByteArray), .string (⟨#[]⟩ : ByteArray)]) (blk_far (blk_far (blk_far (blk_far BX3.out (p := ⟨gc, 0, none⟩) n6 (.int .i64 p.f0)) (p := ⟨gc, 1, none⟩) n6 (.string p.f1)) (p := ⟨gc, 2, none⟩) n6 (.string p.f2)) (p := ⟨g, 0, none⟩) n1 (.slice A r.length (c - 1))) 0 (.int .i64 p.f0) rfl) 1 (.string p.f1) rfl) 2 (.string p.f2) rfl
  refine bodyPost_ret (results_cell_row rfl _ _ gb 60 #[.int .i64 p.f0, .string p.f1, .string p.f2] (0, 0) _ rfl BB Try.underlying60 rfl (by kernel_rfl)) rfl ?_
  refine ⟨rfl, ⟨_, _, BG, ?_, ?_, ?_⟩, KW⟩
  ·have := HN.out; omega
  ·have hd := Kd.C_drop (m := 1) (c := c) HR.out (by rw [List.length_cons]; omega) HC.out
   rw [if_pos HC1.out] at hd
   exact Kd.C_foot_neS (S := fun k => k = g) (fun h => h) hd (fun ad e hn hq => HF.out ad e (by rw [List.length_cons]; omega) (hq ▸ hS)) _ KW.kept
  ·exact fun ad e hn => HF.out ad e (by rw [List.length_cons]; omega)
 ·have d1 : (c == 1) = false := beq_eq_false_iff_ne.mpr hc1
  have d2 : (c = 1) = False := eq_false hc1
  have HC1 := aM hc1
  clear hc1
  go_enter Try.func47, Try.ntmps47
  go_wp2_with (first | ((with_reducible refine gate_dst (N := 2) rfl ?_); refine box_event ?hg (N := 2) ?hd (cs := #[.int .i64 0, .string (⟨#[]⟩ : ByteArray), .string (⟨#[]⟩ : ByteArray)]) (t := 60) ?hr ?_; (case hd => rfl); (case hg => rfl); (case hr => first | (go_simp; done) | (go_simp; rfl)); intro gb hgb w1 hbox hb; have RD1 := aM (RD.out.below hb); have KB1 := aM (blk_below KB.out hb); have HB1 := aM hb; have BX := aM hbox; have GB := aM hgb; clear hb hbox hgb) | (go_at_call 45; with_reducible refine (rd_head _ g (p :: r) S RD1.out).mono ?_; rw [hHd]; rintro e w2 ⟨rfl, hb2⟩; have KB2 := aM (blk_below KB1.out hb2); have HB2 := aM hb2; have BX2 := aM (blk_below BX.out hb2); clear hb2) | ((with_reducible refine gate_dst (N := 3) rfl ?_); refine box_event ?hg (N := 3) ?hd (cs := #[.int .i64 0, .string (⟨#[]⟩ : ByteArray), .string (⟨#[]⟩ : ByteArray)]) (t := 60) ?hr ?_; (case hd => rfl); (case hg => rfl); (case hr => first | (go_simp; done) | (go_simp; rfl)); intro gc hgc w3 hbox hb; have y := (blk_cell (blk_below KB2.out hb) 0).trans (show _ = some (Value.slice A (r.length + 1) c) from rfl); have yf := blk_frozen (blk_below KB2.out hb) 0; have KB3 := aM (blk_below KB2.out hb); have BX3 := aM (blk_below BX2.out hb); have HB3 := aM hb; have BC := aM hbox; have GC := aM hgc; have a0 := (blk_cell BX3.out 0).trans (show _ = some (Value.int .i64 0) from rfl); have a1 := (blk_cell BX3.out 1).trans (show _ = some (Value.string ⟨#[]⟩) from rfl); have a2 := (blk_cell BX3.out 2).trans (show _ = some (Value.string ⟨#[]⟩) from rfl); have e0 := blk_frozen BX3.out 0; have e1 := blk_frozen BX3.out 1; have e2 := blk_frozen BX3.out 2; have y0 := (blk_cell hbox 0).trans (show _ = some (Value.int .i64 0) from rfl); have y1 := (blk_cell hbox 1).trans (show _ = some (Value.string ⟨#[]⟩) from rfl); have y2 := (blk_cell hbox 2).trans (show _ = some (Value.string ⟨#[]⟩) from rfl); have f0 := blk_frozen hbox 0; have f1 := blk_frozen hbox 1; have f2 := blk_frozen hbox 2; have n1 : gb ≠ g := (by rw [GB.out]; exact Nat.ne_of_gt gw); have n2 : g ≠ gb := (by rw [GB.out]; exact Nat.ne_of_lt gw); have n3 : gc ≠ g := (by rw [hgc]; exact Nat.ne_of_gt (blk_lt KB2.out)); have n4 : g ≠ gc := (by rw [hgc]; exact Nat.ne_of_lt (blk_lt KB2.out)); have n5 : gc ≠ gb := (by rw [hgc]; exact Nat.ne_of_gt (blk_lt BX2.out)); have n6 : gb ≠ gc := (by rw [hgc]; exact Nat.ne_of_lt (blk_lt BX2.out)); clear hb hbox hgc))
  have hgb : w.heap.size ≤ gb := Nat.le_of_eq GB.out.symm
  have z1 := HB1.out.size
  have z2 := HB2.out.size
  have hgc : w.heap.size ≤ gc := by rw [GC.out]; omega
  have k3 : KeptB w w3 (fun k => k = g) := ((KeptB.of_below HB1.out (fun k => k = g)).then_ (KeptB.of_below HB2.out (fun _ => False)) (fun _ q => q.elim)).then_ (KeptB.of_below HB3.out (fun _ => False)) (fun _ q => q.elim)
  have KW := ((((((k3.setCell (p := ⟨gc, 0, none⟩) (.inr hgc) (.int .i64 p.f0)).setCell (p := ⟨gc, 1, none⟩) (.inr hgc) (.string p.f1)).setCell (p := ⟨gc, 2, none⟩) (.inr hgc) (.string p.f2)).setCell (p := ⟨g, 0, none⟩) (.inl rfl) (.slice (Option.map (fun x => ⟨x.block, x.off + 3, none⟩) A) r.length (c - 1))).setCell (p := ⟨gb, 0, none⟩) (.inr hgb) (.int .i64 p.f0)).setCell (p := ⟨gb, 1, none⟩) (.inr hgb) (.string p.f1)).setCell (p := ⟨gb, 2, none⟩) (.inr hgb) (.string p.f2)
  have BG := blk_far (blk_far (blk_far (blk_put (cs' := #[.slice (Option.map (fun x => ⟨x.block, x.off + 3, none⟩) A) r.length (c - 1)]) (blk_far (blk_far (blk_far KB3.out (p := ⟨gc, 0, none⟩) n4 (.int .i64 p.f0)) (p := ⟨gc, 1, none⟩) n4 (.string p.f1)) (p := ⟨gc, 2, none⟩) n4 (.string p.f2)) 0 (.slice (Option.map (fun x => ⟨x.block, x.off + 3, none⟩) A) r.length (c - 1)) rfl) (p := ⟨gb, 0, none⟩) n2 (.int .i64 p.f0)) (p := ⟨gb, 1, none⟩) n2 (.string p.f1)) (p := ⟨gb, 2, none⟩) n2 (.string p.f2)
  have BB := blk_put (cs' := #[.int .i64 p.f0, .string p.f1, .string p.f2]) (blk_put (cs' := #[.int .i64 p.f0, .string p.f1, .string (⟨#[]⟩ : ByteArray)]) (blk_put (cs' := #[.int .i64 p.f0, .string (⟨#[]⟩ : ByteArray), .string (⟨#[]⟩ : ByteArray)]) (blk_far (blk_far (blk_far (blk_far BX3.out (p := ⟨gc, 0, none⟩) n6 (.int .i64 p.f0)) (p := ⟨gc, 1, none⟩) n6 (.string p.f1)) (p := ⟨gc, 2, none⟩) n6 (.string p.f2)) (p := ⟨g, 0, none⟩) n1 (.slice (Option.map (fun x => ⟨x.block, x.off + 3, none⟩) A) r.length (c - 1))) 0 (.int .i64 p.f0) rfl) 1 (.string p.f1) rfl) 2 (.string p.f2) rfl
  refine bodyPost_ret (results_cell_row rfl _ _ gb 60 #[.int .i64 p.f0, .string p.f1, .string p.f2] (0, 0) _ rfl BB Try.underlying60 rfl (by kernel_rfl)) rfl ?_
  refine ⟨rfl, ⟨_, _, BG, ?_, ?_, ?_⟩, KW⟩
  ·have := HN.out; omega
  ·have hd := Kd.C_drop (m := 1) (c := c) HR.out (by rw [List.length_cons]; omega) HC.out
   rw [if_neg HC1.out] at hd
   exact Kd.C_foot_neS (S := fun k => k = g) (fun h => h) hd (fun ad e hn hq => by
    obtain ⟨a0, ea, eb⟩ := Option.map_eq_some_iff.1 e
    have hb0 : a0.block = ad.block := by subst eb; rfl
    exact HF.out a0 ea (by rw [List.length_cons]; omega) (by rw [hb0, hq]; exact hS)) _ KW.kept
  ·intro ad e hn
   obtain ⟨a0, ea, eb⟩ := Option.map_eq_some_iff.1 e
   have hb0 : a0.block = ad.block := by subst eb; rfl
   rw [← hb0]
   exact HF.out a0 ea (by rw [List.length_cons]; omega)
/-! ### impl_Part_size: function 49 -/
def impl_Part_size.f (a0_0 : Int) (a0_1 : ByteArray) (a0_2 : ByteArray) : Option (Int) := some (wrap64 ((wrap64 (a0_0 + (a0_1.size : Int))) + (a0_2.size : Int)))
set_option maxHeartbeats 8000000 in
set_option maxRecDepth 100000 in
theorem impl_Part_size.calls (a0_0 : Int) (a0_1 : ByteArray) (a0_2 : ByteArray) (r : Int) (w : World) (h : impl_Part_size.f a0_0 a0_1 a0_2 = some r) :
  Calls Try.prog 49 #[.agg #[.int .i64 a0_0, .string a0_1, .string a0_2]] w fun e w' => e = .returned (.int .i64 r) ∧ Below w.heap.size w w' := by
 have hu60 := Try.underlying60
 have HB := aM (Below.refl w.heap.size w)
 have H : (some (wrap64 ((wrap64 (a0_0 + (a0_1.size : Int))) + (a0_2.size : Int)))) = some r := h
 clear h
 obtain rfl := Option.some.inj H
 go_enter Try.func49, Try.ntmps49
 go_wp2_with (first | ((with_reducible refine gate_dst (N := 1) rfl ?_); refine box_event ?hg (N := 1) ?hd (cs := #[.int .i64 a0_0, .string a0_1, .string a0_2]) (t := 60) ?hr ?_; (case hd => rfl); (case hg => rfl); (case hr => first | (go_simp; done) | (go_simp; rfl)); intro gb223 hg w2 hbox hb; have n0_ := aM (below_step bB hb); have n1_ := aM (hbox); have n2_ := aM ((by rw [hg]; exact (below_size bB) : w.heap.size ≤ gb223)); have n3_ := aM ((by rw [hg]; exact (below_size bB) : w.heap.size ≤ gb223)); clear HB; have HB := n0_; have BK223 := n1_; have GW223 := n2_; have GE223 := n3_; clear n0_ n1_ n2_ n3_; clear hb hbox hg; have hcz3_0 : w2.cell? ⟨gb223, 0, none⟩ = some (.int .i64 a0_0) := (blk_cell BK223.out 0).trans rfl; have hcz3_1 : w2.cell? ⟨gb223, 1, none⟩ = some (.string a0_1) := (blk_cell BK223.out 1).trans rfl; have hcz3_2 : w2.cell? ⟨gb223, 2, none⟩ = some (.string a0_2) := (blk_cell BK223.out 2).trans rfl; have hfz3_0 := blk_frozen BK223.out 0; have hfz3_1 := blk_frozen BK223.out 1; have hfz3_2 := blk_frozen BK223.out 2))
 go_ret
 exact ⟨by first | rfl | (simp [errW_none, errW_some] <;> rfl) | (simp [errW_none, errW_some]; exact isE _) | (simp [*, errW_none, errW_some] <;> rfl), by repeat (first | (with_reducible first | exact HB.out | apply below_alloc | apply pw_below_drewN | apply below_drew1 | refine below_set ?_ GE223.out) | exact HB.out)⟩
end Go.Proofs.Ytoagljlnfakgjaa.PFnExactTransformOps
