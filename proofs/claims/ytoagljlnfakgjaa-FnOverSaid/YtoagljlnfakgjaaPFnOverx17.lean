/- (thin) Written by a program of this session (wip/ovl.py) over the kit's print: plain functions with the answers of the Go functions, and the proofs that they are; no condition. -/
import Derived.Test.YtoagljlnfakgjaaPFnOverx0
import Derived.Test.YtoagljlnfakgjaaPFnOverx5
import Derived.Test.YtoagljlnfakgjaaPFnOverx11
import Derived.Test.YtoagljlnfakgjaaPFnOverx16
namespace Go.Proofs.Ytoagljlnfakgjaa.PFnOver
open Go.RowKit Go.Proofs.YtoagljlnfakgjaaW.PrintWords Go.Proofs.YtoagljlnfakgjaaW.PrintLast Go.Proofs.YtoagljlnfakgjaaW.PrintMore
attribute [local go_sem] max2_int min2_int max_two min_two max_three min_three max_four min_four   -- for this text's walks alone
set_option linter.unusedVariables false
set_option linter.unusedSimpArgs false
mutual
def lZ.j0 : Nat → List (S60) → List (List (S60)) → List (S60) → Bool → Bool → Option (Bool)
 | 0, _, _, _, _, _ => none
 | k + 1, x3, x4, x5, x6, x49 => if x49 = true then (some false) else (if x6 = true then (lZ.l0 k x3 x4 x5 x3 x4 (x4.length : Int) 0) else (some ((x5.length : Int) == 0)))
def lZ.l0 : Nat → List (S60) → List (List (S60)) → List (S60) → List (S60) → List (List (S60)) → Int → Int → Option (Bool)
 | 0, _, _, _, _, _, _, _ => none
 | k + 1, x3, x4, x5, x9, x56, x57, x58 => if x58 < x57 then (if 0 ≤ x58 then (if x58 < (x56.length : Int) then ((impl_TransformOps.f k x9 (rd_L3 x56 x58)).bind fun bt414 => (if bt414.2.2 = true then (lZ.l0 k x3 x4 x5 bt414.1 x56 x57 (wrap64 (x58 + 1))) else (some false))) else (none)) else (none)) else ((impl_SizesOf.f k x5).bind fun bt421 => (if (x4.length : Int) = 0 then ((laws_sameOps.f k x5 x3).bind fun t424 => (some t424)) else (if 0 ≤ (wrap64 ((x4.length : Int) - 1)) then (if (wrap64 ((x4.length : Int) - 1)) < (x4.length : Int) then ((impl_SizesOf.f k (rd_L3 x4 (wrap64 ((x4.length : Int) - 1)))).bind fun bt426 => (if bt421.2.2 = true then (if bt426.2.2 = true then (if bt421.1 = bt426.2.1 then ((laws_sameOps.f k x5 x9).bind fun t429 => (some t429)) else (some false)) else (some false)) else (some false))) else (none)) else (none))))
end
def lZ.f (k : Nat) (l0 : List Int) : Option (Bool) := if (l0.length : Int) > 1048576 then (some true) else ((spec_DrawTransformOver.f k l0).bind fun bt398 => ((impl_TransformOver.f k bt398.1 bt398.2).bind fun bt404 => ((spec_TransformOver.f k bt398.1 bt398.2).bind fun bt408 => (if (bt404.2 != bt408.2) = true then (lZ.j0 k bt398.1 bt398.2 bt404.1 bt404.2 true) else ((laws_sameOps.f k bt404.1 bt408.1).bind fun t412 => (lZ.j0 k bt398.1 bt398.2 bt404.1 bt404.2 (!t412)))))))
theorem lZ.mono_l : ∀ k, (∀ y0 y1 y2 y3 y4, LeO (lZ.j0 k y0 y1 y2 y3 y4) (lZ.j0 (k + 1) y0 y1 y2 y3 y4)) ∧ (∀ y0 y1 y2 y3 y4 y5 y6, LeO (lZ.l0 k y0 y1 y2 y3 y4 y5 y6) (lZ.l0 (k + 1) y0 y1 y2 y3 y4 y5 y6))
 | 0 => ⟨fun _ _ _ _ _ r h => by simp [lZ.j0] at h, fun _ _ _ _ _ _ _ r h => by simp [lZ.l0] at h⟩
 | k + 1 => by
  obtain ⟨ih0, ih1⟩ := lZ.mono_l k
  refine ⟨?_, ?_⟩
  ·intro y0 y1 y2 y3 y4
   unfold lZ.j0
   repeat' (with_reducible first | exact ih0 _ _ _ _ _ | exact ih1 _ _ _ _ _ _ _ | exact impl_SizesOf.mono _ _ | exact impl_TransformOps.mono _ _ _ | exact impl_TransformOver.mono _ _ _ | exact laws_sameOps.mono _ _ _ | exact spec_DrawTransformOver.mono _ _ | exact spec_TransformOver.mono _ _ _ | exact LeO.refl _ | exact LeO.none _ | refine LeO.ite ?_ ?_ | refine LeO.bind ?_ (fun _ => ?_))
  ·intro y0 y1 y2 y3 y4 y5 y6
   unfold lZ.l0
   repeat' (with_reducible first | exact ih0 _ _ _ _ _ | exact ih1 _ _ _ _ _ _ _ | exact impl_SizesOf.mono _ _ | exact impl_TransformOps.mono _ _ _ | exact impl_TransformOver.mono _ _ _ | exact laws_sameOps.mono _ _ _ | exact spec_DrawTransformOver.mono _ _ | exact spec_TransformOver.mono _ _ _ | exact LeO.refl _ | exact LeO.none _ | refine LeO.ite ?_ ?_ | refine LeO.bind ?_ (fun _ => ?_))
theorem lZ.mono : ∀ a0 k, LeO (lZ.f k a0) (lZ.f (k + 1) a0) := by
 intro a0 k
 obtain ⟨ih0, ih1⟩ := lZ.mono_l k
 unfold lZ.f
 repeat' (with_reducible first | exact ih0 _ _ _ _ _ | exact ih1 _ _ _ _ _ _ _ | exact impl_SizesOf.mono _ _ | exact impl_TransformOps.mono _ _ _ | exact impl_TransformOver.mono _ _ _ | exact laws_sameOps.mono _ _ _ | exact spec_DrawTransformOver.mono _ _ | exact spec_TransformOver.mono _ _ _ | exact LeO.refl _ | exact LeO.none _ | refine LeO.ite ?_ ?_ | refine LeO.bind ?_ (fun _ => ?_))
set_option maxHeartbeats 8000000 in
set_option maxRecDepth 100000 in
theorem lZ.calls (k : Nat) (A0 : Option Addr) (c0 : Nat) (l0 : List Int) (r : Bool) (hr_ : r = true) (w : World) (hr0 : Kd.C (Kd.int .u8) w A0 l0.length l0) (hc0 : l0.length ≤ c0) (h : lZ.f k l0 = some r) :
  Calls Try.prog 8 #[.slice A0 l0.length c0] w fun e w' => e = .returned (.bool r) ∧ Below w.heap.size w w' := by
 have hrt_ := aM hr_
 clear hr_
 have HR0 := aM hr0
 have HC0 := aM hc0
 clear hr0 hc0
 have HB := aM (Below.refl w.heap.size w)
 have H : (if (l0.length : Int) > 1048576 then (some true) else ((spec_DrawTransformOver.f k l0).bind fun bt398 => ((impl_TransformOver.f k bt398.1 bt398.2).bind fun bt404 => ((spec_TransformOver.f k bt398.1 bt398.2).bind fun bt408 => (if (bt404.2 != bt408.2) = true then (lZ.j0 k bt398.1 bt398.2 bt404.1 bt404.2 true) else ((laws_sameOps.f k bt404.1 bt408.1).bind fun t412 => (lZ.j0 k bt398.1 bt398.2 bt404.1 bt404.2 (!t412)))))))) = some r := h
 clear h
 by_cases c2 : (l0.length : Int) > 1048576
 ·rw [if_pos c2] at H
  have c2b0 : decide (1048576 < (l0.length : Int)) = true := decide_eq_true c2
  have c2b1 : decide (1048576 < l0.length) = true := decide_eq_true (by omega)
  clear c2
  obtain rfl := Option.some.inj H
  go_enter Try.func8, Try.ntmps8
  go_wp2
  go_ret
  exact ⟨eR, bB⟩
 rw [if_neg c2] at H
 have c2b0 : decide (1048576 < (l0.length : Int)) = false := decide_eq_false c2
 have c2b1 : decide (1048576 < l0.length) = false := decide_eq_false (by omega)
 clear c2
 replace H := Option.bind_eq_some_iff.mp H
 obtain ⟨⟨t398, t399⟩, A30, H⟩ := H
 replace H : ((impl_TransformOver.f k t398 t399).bind fun bt404 => ((spec_TransformOver.f k t398 t399).bind fun bt408 => (if (bt404.2 != bt408.2) = true then (lZ.j0 k t398 t399 bt404.1 bt404.2 true) else ((laws_sameOps.f k bt404.1 bt408.1).bind fun t412 => (lZ.j0 k t398 t399 bt404.1 bt404.2 (!t412)))))) = some r := H
 have A3 := aM A30
 clear A30
 replace H := Option.bind_eq_some_iff.mp H
 obtain ⟨⟨t404, t405⟩, A40, H⟩ := H
 replace H : ((spec_TransformOver.f k t398 t399).bind fun bt408 => (if (t405 != bt408.2) = true then (lZ.j0 k t398 t399 t404 t405 true) else ((laws_sameOps.f k t404 bt408.1).bind fun t412 => (lZ.j0 k t398 t399 t404 t405 (!t412))))) = some r := H
 have A4 := aM A40
 clear A40
 replace H := Option.bind_eq_some_iff.mp H
 obtain ⟨⟨t408, t409⟩, A50, H⟩ := H
 replace H : (if (t405 != t409) = true then (lZ.j0 k t398 t399 t404 t405 true) else ((laws_sameOps.f k t404 t408).bind fun t412 => (lZ.j0 k t398 t399 t404 t405 (!t412)))) = some r := H
 have A5 := aM A50
 clear A50
 have HC6 := aM H
 clear H
 go_enter Try.func8, Try.ntmps8
 go_upto_region 6 with (first | ((with_reducible refine gate_callee (f := 31) rfl ?_); refine goesL_ (some 26) rfl rfl Try.func31 (by kernel_rfl) rfl #[.slice A0 l0.length c0] rfl mM ?_; (with_reducible refine (spec_DrawTransformOver.calls k _ _ l0 t398 t399 _ ?side1 ?side2 A3.out).mono ?_); (case side1 => exact cC HR0.out); (case side2 => exact HC0.out); rintro e w7 ⟨v400, v402, rfl, ho0, ho1, hb⟩; refine ⟨_, rfl, ?_⟩; have HO401 := aM (Kd.R_lower ho0 (below_size bB)); have HO403 := aM (Kd.S_lower ho1 (below_size bB)); replace HB := aM (below_step bB hb); (try clear hb); (try clear hb2); (try clear hk); (try clear hi); (try clear ho0); (try clear ho1); obtain ⟨Ao8, co8, eo8⟩ := Kd.R_slice HO401.out; subst eo8; obtain ⟨Ao9, co9, eo9⟩ := Kd.S_slice HO403.out; subst eo9) | ((with_reducible refine gate_callee (f := 23) rfl ?_); refine goesL_ (some 32) rfl rfl Try.func23 (by kernel_rfl) rfl #[.slice Ao8 t398.length co8, .slice Ao9 t399.length co9] rfl mM ?_; (with_reducible refine (impl_TransformOver.calls k _ _ t398 _ _ t399 t404 t405 _ ?side1 ?side2 ?side3 ?side4 A4.out).mono ?_); (case side1 => exact cC ((Kd.R_reads' HO401.out).2.2)); (case side2 => exact (Kd.R_reads' HO401.out).2.1); (case side3 => exact cC ((Kd.S_reads' HO403.out).2.2)); (case side4 => exact (Kd.S_reads' HO403.out).2.1); rintro e w10 ⟨v406, rfl, ho0, hb⟩; refine ⟨_, rfl, ?_⟩; have n0_ := aM (Kd.R_elder' (rR HO401.out) (Kd.R_base ho0) hb); have n1_ := aM (Kd.S_elder' (by (with_reducible repeat (first | apply Kd.S_alloc | apply Kd.S_drewN | apply Kd.S_drew)); exact HO403.out) (Kd.R_base ho0) hb); have n2_ := aM (Kd.R_lower (Kd.R_new' ho0 (Kd.R_lt (rR HO401.out))) (below_size bB)); have n3_ := aM (below_step bB hb); clear HO401; clear HO403; clear HB; have HO401 := n0_; have HO403 := n1_; have HO407 := n2_; have HB := n3_; clear n0_ n1_ n2_ n3_; (try clear hb); (try clear hb2); (try clear hk); (try clear hi); (try clear ho0)) | ((with_reducible refine gate_callee (f := 21) rfl ?_); refine goesL_ (some 38) rfl rfl Try.func21 (by kernel_rfl) rfl #[.slice Ao8 t398.length co8, .slice Ao9 t399.length co9] rfl mM ?_; (with_reducible refine (spec_TransformOver.calls k _ _ t398 _ _ t399 t408 t409 _ ?side1 ?side2 ?side3 ?side4 A5.out).mono ?_); (case side1 => exact cC ((Kd.R_reads' HO401.out).2.2)); (case side2 => exact (Kd.R_reads' HO401.out).2.1); (case side3 => exact cC ((Kd.S_reads' HO403.out).2.2)); (case side4 => exact (Kd.S_reads' HO403.out).2.1); rintro e w11 ⟨v410, rfl, ho0, hb⟩; refine ⟨_, rfl, ?_⟩; have n0_ := aM (Kd.R_elder' (rR HO401.out) (Kd.R_base ho0) hb); have n1_ := aM (Kd.S_elder' (by (with_reducible repeat (first | apply Kd.S_alloc | apply Kd.S_drewN | apply Kd.S_drew)); exact HO403.out) (Kd.R_base ho0) hb); have n2_ := aM (Kd.R_elder' (rR HO407.out) (Kd.R_base ho0) hb); have n3_ := aM (Kd.R_lower (Kd.R_new' (Kd.R_new' ho0 (Kd.R_lt (rR HO401.out))) (Kd.R_lt (rR HO407.out))) (below_size bB)); have n4_ := aM (below_step bB hb); clear HO401; clear HO403; clear HO407; clear HB; have HO401 := n0_; have HO403 := n1_; have HO407 := n2_; have HO411 := n3_; have HB := n4_; clear n0_ n1_ n2_ n3_ n4_; (try clear hb); (try clear hb2); (try clear hk); (try clear hi); (try clear ho0)))
 (try simp only [Act.put, List.setIfInBounds_toArray, List.set_cons_zero, List.set_cons_succ])
 go_cut [49] (fun v49 wc => ∃ (kq : Nat) (x49_5 : Bool), v49 = .bool x49_5 ∧ Aside0 (lZ.j0 kq t398 t399 t404 t405 x49_5 = some r) ∧ Aside0 (kq ≤ k) ∧ Aside0 (Kd.R k60 60 wc w.heap.size (fun k_ => some k_ ≠ (v406 : Value).ownBlock) (.slice Ao8 t398.length co8) t398) ∧ Aside0 (Kd.S (Kd.slice 60 k60) 26 wc w.heap.size (fun k_ => some k_ ≠ ((.slice Ao8 t398.length co8) : Value).ownBlock ∧ some k_ ≠ (v406 : Value).ownBlock) (.slice Ao9 t399.length co9) t399) ∧ Aside0 (Kd.R k60 60 wc w.heap.size (fun k_ => some k_ ≠ ((.slice Ao8 t398.length co8) : Value).ownBlock) v406 t404) ∧ Aside0 (Below w.heap.size w wc))
 case first =>
  have H := HC6.out
  clear HC6
  by_cases c12 : (t405 != t409) = true
  ·rw [if_pos c12] at H
   have c12b0 : (t405 != t409) = true := c12
   (try (have c12b1 : decide (t405 = t409) = false := by simpa using c12))
   (try (have c12b2 : (t405 == t409) = false := by simpa using c12))
   (try (have c12b3 : ¬ (t405 = t409) := by simpa using c12))
   clear c12
   (first | rw [c12b0] | (simp only [i64_w, i32_w]; rw [c12b0]) | rw [c12e] | skip)
   have H' := aM H
   clear H
   go_wp2
   go_meet
   case rel => exact ⟨_, (true), aP16, H', ⟨by first | omega | exact Nat.le_refl _⟩, ⟨by (with_reducible repeat (first | apply Kd.R_alloc | apply Kd.R_drewN | apply Kd.R_drew)); exact Kd.R_mono HO401.out (fun _ hk => hk.1.2)⟩, ⟨by (with_reducible repeat (first | apply Kd.S_alloc | apply Kd.S_drewN | apply Kd.S_drew)); exact Kd.S_mono HO403.out (fun _ hk => ⟨hk.1.1, hk.1.2⟩)⟩, ⟨by (with_reducible repeat (first | apply Kd.R_alloc | apply Kd.R_drewN | apply Kd.R_drew)); exact Kd.R_mono HO407.out (fun _ hk => hk.1.2)⟩, ⟨bB⟩⟩
  rw [if_neg c12] at H
  have c12b0 : (t405 != t409) = false := by simpa using c12
  (try (have c12b1 : decide (t405 = t409) = true := by simpa using c12))
  (try (have c12b2 : (t405 == t409) = true := by simpa using c12))
  clear c12
  (first | rw [c12b0] | (simp only [i64_w, i32_w]; rw [c12b0]) | rw [c12e] | skip)
  replace H := Option.bind_eq_some_iff.mp H
  obtain ⟨t412, A130, H⟩ := H
  replace H : (lZ.j0 k t398 t399 t404 t405 (!t412)) = some r := H
  have A13 := aM A130
  clear A130
  have H' := aM H
  clear H
  obtain ⟨Ao14, co14, eo14⟩ := Kd.R_slice HO407.out
  subst eo14
  obtain ⟨Ao15, co15, eo15⟩ := Kd.R_slice HO411.out
  subst eo15
  go_wp2_with (first | (go_at_call 27; (with_reducible refine (laws_sameOps.calls k _ _ t404 _ _ t408 t412 _ ?side1 ?side2 ?side3 ?side4 A13.out).mono ?_); (case side1 => exact cC ((Kd.R_reads' HO407.out).2.2)); (case side2 => exact (Kd.R_reads' HO407.out).2.1); (case side3 => exact cC ((Kd.R_reads' HO411.out).2.2)); (case side4 => exact (Kd.R_reads' HO411.out).2.1); rintro e w' ⟨rfl, ⟨nd, rfl⟩⟩))
  go_meet
  case rel => exact ⟨_, (!t412), aP16, H', ⟨by first | omega | exact Nat.le_refl _⟩, ⟨by (with_reducible repeat (first | apply Kd.R_alloc | apply Kd.R_drewN | apply Kd.R_drew)); exact Kd.R_mono HO401.out (fun _ hk => hk.1.2)⟩, ⟨by (with_reducible repeat (first | apply Kd.S_alloc | apply Kd.S_drewN | apply Kd.S_drew)); exact Kd.S_mono HO403.out (fun _ hk => ⟨hk.1.1, hk.1.2⟩)⟩, ⟨by (with_reducible repeat (first | apply Kd.R_alloc | apply Kd.R_drewN | apply Kd.R_drew)); exact Kd.R_mono HO407.out (fun _ hk => hk.1.2)⟩, ⟨bB⟩⟩
 case rest =>
  clear HC6
  try clear c1
  try clear c2
  try clear c2b0
  try clear c2b1
  try clear p2
  try clear c3
  try clear c8
  try clear c12
  try clear c12b0
  try clear c12b1
  try clear c12b2
  obtain ⟨kq, x49_5, rfl, HA, HJ5, HO_3, HO_4, HO_5, HB⟩ := hcut
  cases kq with
  | zero => exact absurd HA.out (by simp [lZ.j0])
  | succ kj5 =>
   have H := HA.out
   clear HA
   simp only [lZ.j0] at H
   by_cases c16 : x49_5 = true
   ·subst c16
    replace H : (some false) = some r := by rw [if_pos rfl] at H; exact H
    exact absurd ((Option.some.inj H).trans hrt_.out) (by decide)
   replace c16 := Bool.eq_false_iff.mpr c16
   subst c16
   replace H : (if t405 = true then (lZ.l0 kj5 t398 t399 t404 t398 t399 (t399.length : Int) 0) else (some ((t404.length : Int) == 0))) = some r := by rw [if_neg (show ¬ (false = true) by decide)] at H; exact H
   by_cases c17 : t405 = true
   rotate_left
   ·replace c17 := Bool.eq_false_iff.mpr c17
    subst c17
    replace H : (some ((t404.length : Int) == 0)) = some r := by rw [if_neg (show ¬ (false = true) by decide)] at H; exact H
    obtain rfl := Option.some.inj H
    obtain ⟨Ao53, co53, eo53⟩ := Kd.R_slice HO_5.out
    subst eo53
    go_wp2
    go_ret
    exact ⟨eR, bB⟩
   subst c17
   replace H : (lZ.l0 kj5 t398 t399 t404 t398 t399 (t399.length : Int) 0) = some r := by rw [if_pos rfl] at H; exact H
   have H' := aM H
   clear H
   go_wp2
   go_loopg [9, 58] kj5 (fun kq v9 v58 w' => ∃ (x9_2 : List (S60)) (x58_2 : Int), v58 = .int .i64 x58_2 ∧ Aside0 (lZ.l0 kq t398 t399 t404 x9_2 t399 (t399.length : Int) x58_2 = some r) ∧ Aside0 (kq ≤ kj5) ∧ Aside0 (Kd.R k60 60 w' w.heap.size (fun k_ => some k_ ≠ (v406 : Value).ownBlock) (.slice Ao8 t398.length co8) t398) ∧ Aside0 (Kd.S (Kd.slice 60 k60) 26 w' w.heap.size (fun k_ => some k_ ≠ ((.slice Ao8 t398.length co8) : Value).ownBlock ∧ some k_ ≠ (v406 : Value).ownBlock ∧ some k_ ≠ (v9 : Value).ownBlock) (.slice Ao9 t399.length co9) t399) ∧ Aside0 (Kd.R k60 60 w' w.heap.size (fun k_ => some k_ ≠ ((.slice Ao8 t398.length co8) : Value).ownBlock ∧ some k_ ≠ (v9 : Value).ownBlock) v406 t404) ∧ Aside0 (Kd.R k60 60 w' w.heap.size (fun k_ => some k_ ≠ (v406 : Value).ownBlock) v9 x9_2) ∧ Aside0 (Kd.S (Kd.slice 60 k60) 26 w' w.heap.size (fun k_ => some k_ ≠ ((.slice Ao8 t398.length co8) : Value).ownBlock ∧ some k_ ≠ (v406 : Value).ownBlock ∧ some k_ ≠ (v9 : Value).ownBlock) (.slice Ao9 t399.length co9) t399) ∧ Aside0 (Below w.heap.size w w'))
   case atStart => exact ⟨(t398), (0), aP16, H', ⟨Nat.le_refl _⟩, ⟨rR HO_3.out⟩, ⟨by (with_reducible repeat (first | apply Kd.S_alloc | apply Kd.S_drewN | apply Kd.S_drew)); exact Kd.S_mono HO_4.out (fun _ hk => ⟨hk.1, ⟨hk.2, hk.1⟩⟩)⟩, ⟨by (with_reducible repeat (first | apply Kd.R_alloc | apply Kd.R_drewN | apply Kd.R_drew)); exact Kd.R_mono HO_5.out (fun _ hk => ⟨hk, hk⟩)⟩, ⟨rR HO_3.out⟩, ⟨by (with_reducible repeat (first | apply Kd.S_alloc | apply Kd.S_drewN | apply Kd.S_drew)); exact Kd.S_mono HO_4.out (fun _ hk => ⟨hk.1, ⟨hk.2, hk.1⟩⟩)⟩, ⟨bB⟩⟩
   case round =>
    clear H'
    try clear c1
    try clear c2
    try clear c2b0
    try clear c2b1
    try clear p2
    try clear c3
    try clear c8
    try clear c12
    try clear c12b0
    try clear c12b1
    try clear c12b2
    try clear c16
    try clear c17
    try clear p2
    obtain ⟨x9_2, x58_2, rfl, HA, HK2, HO_3, HO_4, HO_5, HO_9, HO_56, HB⟩ := hrel
    cases gk with
    | zero => exact absurd HA.out (by simp [lZ.l0])
    | succ k2 =>
     have H := HA.out
     clear HA
     simp only [lZ.l0] at H
     by_cases c18 : x58_2 < (t399.length : Int)
     ·rw [if_pos c18] at H
      have c18b0 : decide (x58_2 < (t399.length : Int)) = true := decide_eq_true c18
      clear c18
      by_cases c19 : 0 ≤ x58_2
      rotate_left
      ·rw [if_neg c19] at H
       exact absurd H (by simp)
      rw [if_pos c19] at H
      have c19b0 : decide (0 ≤ x58_2) = true := decide_eq_true c19
      clear c19
      by_cases c20 : x58_2 < (t399.length : Int)
      rotate_left
      ·rw [if_neg c20] at H
       exact absurd H (by simp)
      rw [if_pos c20] at H
      have c20b0 : decide (x58_2 < (t399.length : Int)) = true := decide_eq_true c20
      clear c20
      replace H := Option.bind_eq_some_iff.mp H
      obtain ⟨⟨t414, t415, t416⟩, A210, H⟩ := H
      replace H : (if t416 = true then (lZ.l0 k2 t398 t399 t404 t414 t399 (t399.length : Int) (wrap64 (x58_2 + 1))) else (some false)) = some r := H
      have A21 := aM A210
      clear A210
      by_cases c22 : t416 = true
      rotate_left
      ·replace c22 := Bool.eq_false_iff.mpr c22
       subst c22
       replace H : (some false) = some r := by rw [if_neg (show ¬ (false = true) by decide)] at H; exact H
       exact absurd ((Option.some.inj H).trans hrt_.out) (by decide)
      subst c22
      replace H : (lZ.l0 k2 t398 t399 t404 t414 t399 (t399.length : Int) (wrap64 (x58_2 + 1))) = some r := by rw [if_pos rfl] at H; exact H
      have H' := aM H
      clear H
      have p413 : 0 ≤ (x58_2 : Int) := of_decide_eq_true (by assumption)
      have q413 : x58_2 < (t399.length : Int) := of_decide_eq_true (by assumption)
      obtain ⟨ad413, A413_0, c413_0, e413, hx413_0, hl413_0, hi413_0⟩ := at_L3 (Kd.S_reads' HO_56.out).2.2 x58_2 p413 q413
      cases e413
      obtain ⟨ce413, hce413, hMe413, hcc413⟩ := Kd.S_get HO_56.out [] x58_2 p413 (by first | exact q413 | exact of_decide_eq_true (by assumption) | (have e_ := (Kd.S_reads' HO_56.out).1; omega))
      obtain ⟨ve413_0, rfl, ge413_0⟩ := hMe413
      have hv413_0 := hcc413 0 _ rfl
      rw [Nat.add_zero, show ((Kd.slice 60 k60)).sz = 1 from rfl, Nat.mul_one] at hv413_0
      replace hv413_0 := Option.some.inj (hv413_0.symm.trans hx413_0)
      rw [hv413_0] at ge413_0
      have HL413_0 := aM (show Kd.R k60 60 _ _ _ _ (rd_L3 t399 x58_2) from ge413_0)
      clear hv413_0 ge413_0
      clear hcc413 hce413
      have HR413_0 := aM hi413_0
      have HC413_0 := aM hl413_0
      clear hi413_0 hl413_0
      replace p413 := eq_true p413
      replace q413 := eq_true q413
      obtain ⟨Ao23, co23, eo23⟩ := Kd.R_slice HO_9.out
      subst eo23
      go_wp2_with (first | ((with_reducible refine gate_callee (f := 17) rfl ?_); refine goesL_ (some 65) rfl rfl Try.func17 (by kernel_rfl) rfl #[.slice Ao23 x9_2.length co23, .slice A413_0 (rd_L3 t399 x58_2).length c413_0] rfl mM ?_; (with_reducible refine (impl_TransformOps.calls k2 _ _ x9_2 _ _ (rd_L3 t399 x58_2) t414 t415 true _ ?side1 ?side2 ?side3 ?side4 A21.out).mono ?_); (case side1 => exact cC ((Kd.R_reads' HO_9.out).2.2)); (case side2 => exact (Kd.R_reads' HO_9.out).2.1); (case side3 => exact cC (by repeat (first | (with_reducible exact HR413_0.out) | (with_reducible refine Kd.C_alloc ?_ _) | (with_reducible refine Kd.C_drewN ?_ _) | (with_reducible refine Kd.C_drew ?_) | exact HR413_0.out))); (case side4 => exact HC413_0.out); rintro e w24 ⟨v417, v419, rfl, ho0, ho1, hb⟩; refine ⟨_, rfl, ?_⟩; have n0_ := aM (Kd.R_mono (Kd.R_told (Kd.R_told (Kd.R_old (rR HO_3.out) hb) (Kd.R_base ho0)) (Kd.R_base ho1)) (fun _ h_ => h_.1)); have n1_ := aM (Kd.S_mono (Kd.S_told (Kd.S_told (Kd.S_old (by (with_reducible repeat (first | apply Kd.S_alloc | apply Kd.S_drewN | apply Kd.S_drew)); exact HO_4.out) hb) (Kd.R_base ho0)) (Kd.R_base ho1)) (fun _ h_ => h_.1)); have n2_ := aM (Kd.R_mono (Kd.R_told (Kd.R_told (Kd.R_old (rR HO_5.out) hb) (Kd.R_base ho0)) (Kd.R_base ho1)) (fun _ h_ => h_.1)); have n3_ := aM (Kd.R_mono (Kd.R_told (Kd.R_told (Kd.R_old (rR HO_9.out) hb) (Kd.R_base ho0)) (Kd.R_base ho1)) (fun _ h_ => h_.1)); have n4_ := aM (Kd.S_mono (Kd.S_told (Kd.S_told (Kd.S_old (by (with_reducible repeat (first | apply Kd.S_alloc | apply Kd.S_drewN | apply Kd.S_drew)); exact HO_56.out) hb) (Kd.R_base ho0)) (Kd.R_base ho1)) (fun _ h_ => h_.1)); have n5_ := aM (Kd.R_mono (Kd.R_told (Kd.R_told (Kd.R_old (rR HL413_0.out) hb) (Kd.R_base ho0)) (Kd.R_base ho1)) (fun _ h_ => h_.1)); have n6_ := aM (Kd.R_lower (Kd.R_new' (Kd.R_new' (Kd.R_new' (Kd.R_new' ho0 (Kd.R_lt (rR HO_3.out))) (Kd.R_lt (rR HO_5.out))) (Kd.R_lt (rR HO_9.out))) (Kd.R_lt (rR HL413_0.out))) (below_size bB)); have n7_ := aM (Kd.R_lower (Kd.R_new' (Kd.R_new' (Kd.R_new' (Kd.R_new' ho1 (Kd.R_lt (rR HO_3.out))) (Kd.R_lt (rR HO_5.out))) (Kd.R_lt (rR HO_9.out))) (Kd.R_lt (rR HL413_0.out))) (below_size bB)); have n8_ := aM (Kd.C_below (by repeat (first | (with_reducible exact HR413_0.out) | (with_reducible refine Kd.C_alloc ?_ _) | (with_reducible refine Kd.C_drewN ?_ _) | (with_reducible refine Kd.C_drew ?_) | exact HR413_0.out)) hb); have n9_ := aM (below_step bB hb); clear HO_3; clear HO_4; clear HO_5; clear HO_9; clear HO_56; clear HL413_0; clear HR413_0; clear HB; have HO_3 := n0_; have HO_4 := n1_; have HO_5 := n2_; have HO_9 := n3_; have HO_56 := n4_; have HL413_0 := n5_; have HO418 := n6_; have HO420 := n7_; have HR413_0 := n8_; have HB := n9_; clear n0_ n1_ n2_ n3_ n4_ n5_ n6_ n7_ n8_ n9_; (try clear hb); (try clear hb2); (try clear hk); (try clear hi); (try clear ho0); (try clear ho1)))
      go_roundg k2
      case measure => have := HJ5.out; have := HK2.out; omega
      case rel => exact ⟨(t414), (wrap64 (x58_2 + 1)), aP16, H', ⟨by have := HJ5.out; have := HK2.out; omega⟩, ⟨by (with_reducible repeat (first | apply Kd.R_alloc | apply Kd.R_drewN | apply Kd.R_drew)); exact Kd.R_mono HO_3.out (fun _ hk => hk.1.1)⟩, ⟨by (with_reducible repeat (first | apply Kd.S_alloc | apply Kd.S_drewN | apply Kd.S_drew)); exact Kd.S_mono HO_4.out (fun _ hk => ⟨hk.1.1.1, ⟨hk.1.1.2.1, hk.1.2⟩⟩)⟩, ⟨by (with_reducible repeat (first | apply Kd.R_alloc | apply Kd.R_drewN | apply Kd.R_drew)); exact Kd.R_mono HO_5.out (fun _ hk => ⟨hk.1.1.1, hk.1.2⟩)⟩, ⟨by (with_reducible repeat (first | apply Kd.R_alloc | apply Kd.R_drewN | apply Kd.R_drew)); exact Kd.R_mono HO418.out (fun _ hk => hk.1.1.2)⟩, ⟨by (with_reducible repeat (first | apply Kd.S_alloc | apply Kd.S_drewN | apply Kd.S_drew)); exact Kd.S_mono HO_56.out (fun _ hk => ⟨hk.1.1.1, ⟨hk.1.1.2.1, hk.1.2⟩⟩)⟩, ⟨bB⟩⟩
     rw [if_neg c18] at H
     have c18b0 : decide (x58_2 < (t399.length : Int)) = false := decide_eq_false c18
     clear c18
     replace H := Option.bind_eq_some_iff.mp H
     obtain ⟨⟨t421, t422, t423⟩, A270, H⟩ := H
     replace H : (if (t399.length : Int) = 0 then ((laws_sameOps.f k2 t404 t398).bind fun t424 => (some t424)) else (if 0 ≤ (wrap64 ((t399.length : Int) - 1)) then (if (wrap64 ((t399.length : Int) - 1)) < (t399.length : Int) then ((impl_SizesOf.f k2 (rd_L3 t399 (wrap64 ((t399.length : Int) - 1)))).bind fun bt426 => (if t423 = true then (if bt426.2.2 = true then (if t421 = bt426.2.1 then ((laws_sameOps.f k2 t404 x9_2).bind fun t429 => (some t429)) else (some false)) else (some false)) else (some false))) else (none)) else (none))) = some r := H
     have A27 := aM A270
     clear A270
     by_cases c28 : (t399.length : Int) = 0
     ·rw [if_pos c28] at H
      have c28b0 : ((t399.length : Int) == 0) = true := beq_iff_eq.mpr c28
      have c28b1 : ((t399.length : Int) != 0) = false := bne_eq_false_iff_eq.mpr c28
      clear c28
      replace H := Option.bind_eq_some_iff.mp H
      obtain ⟨t424, A290, H⟩ := H
      replace H : (some t424) = some r := H
      have A29 := aM A290
      clear A290
      obtain rfl := Option.some.inj H
      obtain ⟨Ao30, co30, eo30⟩ := Kd.R_slice HO_5.out
      subst eo30
      go_wp2_with (first | ((with_reducible refine gate_callee (f := 32) rfl ?_); refine goesL_ (some 75) rfl rfl Try.func32 (by kernel_rfl) rfl #[.slice Ao30 t404.length co30] rfl mM ?_; (with_reducible refine (impl_SizesOf.calls k2 _ _ t404 t421 t422 t423 _ ?side1 ?side2 A27.out).mono ?_); (case side1 => exact cC ((Kd.R_reads' HO_5.out).2.2)); (case side2 => exact (Kd.R_reads' HO_5.out).2.1); rintro e w31 ⟨rfl, hb⟩; refine ⟨_, rfl, ?_⟩; have n0_ := aM (Kd.R_below (rR HO_3.out) hb); have n1_ := aM (Kd.S_below (by (with_reducible repeat (first | apply Kd.S_alloc | apply Kd.S_drewN | apply Kd.S_drew)); exact HO_4.out) hb); have n2_ := aM (Kd.R_below (rR HO_5.out) hb); have n3_ := aM (Kd.R_below (rR HO_9.out) hb); have n4_ := aM (Kd.S_below (by (with_reducible repeat (first | apply Kd.S_alloc | apply Kd.S_drewN | apply Kd.S_drew)); exact HO_56.out) hb); have n5_ := aM (below_step bB hb); clear HO_3; clear HO_4; clear HO_5; clear HO_9; clear HO_56; clear HB; have HO_3 := n0_; have HO_4 := n1_; have HO_5 := n2_; have HO_9 := n3_; have HO_56 := n4_; have HB := n5_; clear n0_ n1_ n2_ n3_ n4_ n5_; (try clear hb); (try clear hb2); (try clear hk); (try clear hi)) | ((with_reducible refine gate_callee (f := 27) rfl ?_); refine goesL_ (some 84) rfl rfl Try.func27 (by kernel_rfl) rfl #[.slice Ao30 t404.length co30, .slice Ao8 t398.length co8] rfl mM ?_; (with_reducible refine (laws_sameOps.calls k2 _ _ t404 _ _ t398 t424 _ ?side1 ?side2 ?side3 ?side4 A29.out).mono ?_); (case side1 => exact cC ((Kd.R_reads' HO_5.out).2.2)); (case side2 => exact (Kd.R_reads' HO_5.out).2.1); (case side3 => exact cC ((Kd.R_reads' HO_3.out).2.2)); (case side4 => exact (Kd.R_reads' HO_3.out).2.1); rintro e w' ⟨rfl, ⟨nd, rfl⟩⟩; refine ⟨_, rfl, ?_⟩))
      go_ret
      exact ⟨eR, bB⟩
     rw [if_neg c28] at H
     have c28b0 : ((t399.length : Int) == 0) = false := beq_eq_false_iff_ne.mpr c28
     have c28b1 : ((t399.length : Int) != 0) = true := bne_iff_ne.mpr c28
     have c28b2 : ¬ (t399 = []) := fun h_ => c28 (by rw [h_]; rfl)
     obtain ⟨ji32, hji32⟩ : ∃ j_ : Int, (wrap64 ((t399.length : Int) - 1)) = j_ := ⟨_, rfl⟩
     replace H : (if 0 ≤ (ji32) then (if (ji32) < (t399.length : Int) then ((impl_SizesOf.f k2 (rd_L3 t399 (ji32))).bind fun bt426 => (if t423 = true then (if bt426.2.2 = true then (if t421 = bt426.2.1 then ((laws_sameOps.f k2 t404 x9_2).bind fun t429 => (some t429)) else (some false)) else (some false)) else (some false))) else (none)) else (none)) = some r := by first | (rw [hji32] at H; exact H) | (simp only [hji32] at H ⊢; exact H)
     (try rw [hji32] at A27)
     have hji32w : (IntKind.i64.wrap ((t399.length : Int) - 1)) = ji32 := (i64_w _).trans hji32
     by_cases c33 : 0 ≤ (ji32)
     rotate_left
     ·rw [if_neg c33] at H
      exact absurd H (by simp)
     rw [if_pos c33] at H
     have c33b0 : decide (0 ≤ (ji32)) = true := decide_eq_true c33
     clear c33
     by_cases c34 : (ji32) < (t399.length : Int)
     rotate_left
     ·rw [if_neg c34] at H
      exact absurd H (by simp)
     rw [if_pos c34] at H
     have c34b0 : decide ((ji32) < (t399.length : Int)) = true := decide_eq_true c34
     clear c34
     replace H := Option.bind_eq_some_iff.mp H
     obtain ⟨⟨t426, t427, t428⟩, A350, H⟩ := H
     replace H : (if t423 = true then (if t428 = true then (if t421 = t427 then ((laws_sameOps.f k2 t404 x9_2).bind fun t429 => (some t429)) else (some false)) else (some false)) else (some false)) = some r := H
     have A35 := aM A350
     clear A350
     by_cases c36 : t423 = true
     rotate_left
     ·replace c36 := Bool.eq_false_iff.mpr c36
      subst c36
      replace H : (some false) = some r := by rw [if_neg (show ¬ (false = true) by decide)] at H; exact H
      exact absurd ((Option.some.inj H).trans hrt_.out) (by decide)
     subst c36
     replace H : (if t428 = true then (if t421 = t427 then ((laws_sameOps.f k2 t404 x9_2).bind fun t429 => (some t429)) else (some false)) else (some false)) = some r := by rw [if_pos rfl] at H; exact H
     by_cases c37 : t428 = true
     rotate_left
     ·replace c37 := Bool.eq_false_iff.mpr c37
      subst c37
      replace H : (some false) = some r := by rw [if_neg (show ¬ (false = true) by decide)] at H; exact H
      exact absurd ((Option.some.inj H).trans hrt_.out) (by decide)
     subst c37
     replace H : (if t421 = t427 then ((laws_sameOps.f k2 t404 x9_2).bind fun t429 => (some t429)) else (some false)) = some r := by rw [if_pos rfl] at H; exact H
     by_cases c38 : t421 = t427
     rotate_left
     ·rw [if_neg c38] at H
      have c38b0 : (t421 == t427) = false := beq_eq_false_iff_ne.mpr c38
      have c38b1 : (t421 != t427) = true := bne_iff_ne.mpr c38
      exact absurd ((Option.some.inj H).trans hrt_.out) (by decide)
     rw [if_pos c38] at H
     have c38b0 : (t421 == t427) = true := beq_iff_eq.mpr c38
     have c38b1 : (t421 != t427) = false := bne_eq_false_iff_eq.mpr c38
     clear c38
     replace H := Option.bind_eq_some_iff.mp H
     obtain ⟨t429, A390, H⟩ := H
     replace H : (some t429) = some r := H
     have A39 := aM A390
     clear A390
     obtain rfl := Option.some.inj H
     obtain ⟨Ao40, co40, eo40⟩ := Kd.R_slice HO_5.out
     subst eo40
     go_wp2_with (first | ((with_reducible refine gate_callee (f := 32) rfl ?_); refine goesL_ (some 75) rfl rfl Try.func32 (by kernel_rfl) rfl #[.slice Ao40 t404.length co40] rfl mM ?_; (with_reducible refine (impl_SizesOf.calls k2 _ _ t404 t421 t422 true _ ?side1 ?side2 A27.out).mono ?_); (case side1 => exact cC ((Kd.R_reads' HO_5.out).2.2)); (case side2 => exact (Kd.R_reads' HO_5.out).2.1); rintro e w41 ⟨rfl, hb⟩; refine ⟨_, rfl, ?_⟩; have n0_ := aM (Kd.R_below (rR HO_3.out) hb); have n1_ := aM (Kd.S_below (by (with_reducible repeat (first | apply Kd.S_alloc | apply Kd.S_drewN | apply Kd.S_drew)); exact HO_4.out) hb); have n2_ := aM (Kd.R_below (rR HO_5.out) hb); have n3_ := aM (Kd.R_below (rR HO_9.out) hb); have n4_ := aM (Kd.S_below (by (with_reducible repeat (first | apply Kd.S_alloc | apply Kd.S_drewN | apply Kd.S_drew)); exact HO_56.out) hb); have n5_ := aM (below_step bB hb); clear HO_3; clear HO_4; clear HO_5; clear HO_9; clear HO_56; clear HB; have HO_3 := n0_; have HO_4 := n1_; have HO_5 := n2_; have HO_9 := n3_; have HO_56 := n4_; have HB := n5_; clear n0_ n1_ n2_ n3_ n4_ n5_; (try clear hb); (try clear hb2); (try clear hk); (try clear hi); have p425 : 0 ≤ ((ji32) : Int) := of_decide_eq_true (by assumption); have q425 : (ji32) < (t399.length : Int) := of_decide_eq_true (by assumption); obtain ⟨ad425, A425_0, c425_0, e425, hx425_0, hl425_0, hi425_0⟩ := at_L3 (Kd.S_reads' HO_4.out).2.2 (ji32) p425 q425; cases e425; obtain ⟨ce425, hce425, hMe425, hcc425⟩ := Kd.S_get HO_4.out [] (ji32) p425 (by first | exact q425 | exact of_decide_eq_true (by assumption) | (have e_ := (Kd.S_reads' HO_4.out).1; omega)); obtain ⟨ve425_0, rfl, ge425_0⟩ := hMe425; have hv425_0 := hcc425 0 _ rfl; rw [Nat.add_zero, show ((Kd.slice 60 k60)).sz = 1 from rfl, Nat.mul_one] at hv425_0; replace hv425_0 := Option.some.inj (hv425_0.symm.trans hx425_0); rw [hv425_0] at ge425_0; have HL425_0 := aM (show Kd.R k60 60 _ _ _ _ (rd_L3 t399 (ji32)) from ge425_0); clear hv425_0 ge425_0; clear hcc425 hce425; have HR425_0 := aM hi425_0; have HC425_0 := aM hl425_0; clear hi425_0 hl425_0; replace p425 := eq_true p425; replace q425 := eq_true q425) | ((with_reducible refine gate_callee (f := 32) rfl ?_); refine goesL_ (some 92) rfl rfl Try.func32 (by kernel_rfl) rfl #[.slice A425_0 (rd_L3 t399 (ji32)).length c425_0] rfl (by (try simp only [List.map_toArray, List.map_cons, List.map_nil]); first | done | (simp only [hji32]; rfl) | rfl | (simp only [List.length_drop, List.length_take]; rfl)) ?_; (with_reducible refine (impl_SizesOf.calls k2 _ _ (rd_L3 t399 (ji32)) t426 t427 true _ ?side1 ?side2 A35.out).mono ?_); (case side1 => exact cC (by repeat (first | (with_reducible exact HR425_0.out) | (with_reducible refine Kd.C_alloc ?_ _) | (with_reducible refine Kd.C_drewN ?_ _) | (with_reducible refine Kd.C_drew ?_) | exact HR425_0.out))); (case side2 => exact HC425_0.out); rintro e w42 ⟨rfl, hb⟩; refine ⟨_, rfl, ?_⟩; have n0_ := aM (Kd.R_below (rR HO_3.out) hb); have n1_ := aM (Kd.S_below (by (with_reducible repeat (first | apply Kd.S_alloc | apply Kd.S_drewN | apply Kd.S_drew)); exact HO_4.out) hb); have n2_ := aM (Kd.R_below (rR HO_5.out) hb); have n3_ := aM (Kd.R_below (rR HO_9.out) hb); have n4_ := aM (Kd.S_below (by (with_reducible repeat (first | apply Kd.S_alloc | apply Kd.S_drewN | apply Kd.S_drew)); exact HO_56.out) hb); have n5_ := aM (Kd.R_below (rR HL425_0.out) hb); have n6_ := aM (Kd.C_below (by repeat (first | (with_reducible exact HR425_0.out) | (with_reducible refine Kd.C_alloc ?_ _) | (with_reducible refine Kd.C_drewN ?_ _) | (with_reducible refine Kd.C_drew ?_) | exact HR425_0.out)) hb); have n7_ := aM (below_step bB hb); clear HO_3; clear HO_4; clear HO_5; clear HO_9; clear HO_56; clear HL425_0; clear HR425_0; clear HB; have HO_3 := n0_; have HO_4 := n1_; have HO_5 := n2_; have HO_9 := n3_; have HO_56 := n4_; have HL425_0 := n5_; have HR425_0 := n6_; have HB := n7_; clear n0_ n1_ n2_ n3_ n4_ n5_ n6_ n7_; (try clear hb); (try clear hb2); (try clear hk); (try clear hi); obtain ⟨Ao43, co43, eo43⟩ := Kd.R_slice HO_9.out; subst eo43) | (go_at_call 27; (with_reducible refine (laws_sameOps.calls k2 _ _ t404 _ _ x9_2 t429 _ ?side1 ?side2 ?side3 ?side4 A39.out).mono ?_); (case side1 => exact cC ((Kd.R_reads' HO_5.out).2.2)); (case side2 => exact (Kd.R_reads' HO_5.out).2.1); (case side3 => exact cC ((Kd.R_reads' HO_9.out).2.2)); (case side4 => exact (Kd.R_reads' HO_9.out).2.1); rintro e w' ⟨rfl, ⟨nd, rfl⟩⟩))
     go_ret
     exact ⟨by first | rfl | (simp [errW_none, errW_some] <;> rfl) | (simp [errW_none, errW_some]; exact isE _) | (simp only [← hji32]; first | rfl | (simp [errW_none, errW_some] <;> rfl)) | (simp [*, errW_none, errW_some] <;> rfl), bB⟩
def lZ.Pure : Prop := ∀ (l0 : List Int), l0.length ≤ maxLen → l0.length * 1 ≤ 140737488351232 → (∀ x ∈ l0, (Lit.int .u8 x).wf = true) → ∃ k, lZ.f k l0 = some true
theorem lZ.walk (P : lZ.Pure) (a0 : Option Addr) (len0 cap0 : Nat) (z0 : List Int) (w : World) (w0 : (a0 = none ∧ len0 = 0 ∧ cap0 = 0 ∧ z0 = []) ∨ ∃ x, a0 = some x ∧ len0 ≤ cap0 ∧ cap0 ≤ maxLen ∧ z0.length = cap0 ∧ (∀ i, i < z0.length → w.cell? (x.add i) = some (.int .u8 (z0.getD i 0))) ∧ ∀ n ∈ z0, (Lit.int .u8 n).wf = true) (y0 : len0 * 1 ≤ 140737488351232) :
  Calls Try.prog 8 #[.slice a0 len0 cap0] w fun e w' => e = .returned (.bool true) ∧ Below w.heap.size w w' := by
 obtain ⟨l0, rfl, hr0, hm0, hw0, hc0⟩ := ReadsInt.ofRowC w0
 obtain ⟨k, h⟩ := P l0 hm0 y0 hw0
 refine (lZ.calls k _ _ l0 true rfl w (Kd.C_of_reads (d := (0 : Int)) (h1 := fun _ => rfl) hr0) hc0 h).mono ?_
 rintro e w' ⟨rfl, hd⟩
 exact ⟨rfl, hd⟩
end Go.Proofs.Ytoagljlnfakgjaa.PFnOver
