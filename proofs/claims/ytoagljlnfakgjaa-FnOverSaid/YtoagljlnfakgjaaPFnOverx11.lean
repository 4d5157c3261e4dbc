/- (thin) Written by a program of this session (wip/ovl.py) over the kit's print: plain functions with the answers of the Go functions, and the proofs that they are; no condition. -/
import Derived.Test.YtoagljlnfakgjaaMk
import Derived.Test.YtoagljlnfakgjaaPFnOverx0
import Derived.Test.YtoagljlnfakgjaaPFnOverx1
import Derived.Test.YtoagljlnfakgjaaPFnOverx2
import Derived.Test.YtoagljlnfakgjaaPFnOverx5
import Derived.Test.YtoagljlnfakgjaaPFnOverx6
import Derived.Test.YtoagljlnfakgjaaPFnOverx10
namespace Go.Proofs.Ytoagljlnfakgjaa.PFnOver
open Go.RowKit Go.Proofs.YtoagljlnfakgjaaW.PrintWords Go.Proofs.YtoagljlnfakgjaaW.PrintLast Go.Proofs.YtoagljlnfakgjaaW.PrintMore
attribute [local go_sem] max2_int min2_int max_two min_two max_three min_three max_four min_four   -- for this text's walks alone
set_option linter.unusedVariables false
set_option linter.unusedSimpArgs false
attribute [local go_sem high] eqA60
mutual
def spec_TransformOver.j0 : Nat → List (S60) → List (List (S60)) → Bool → Option ((List (S60)) × Bool)
 | 0, _, _, _ => none
 | k + 1, x0, x1, x18 => if x18 = true then (some (([] : List (S60)), false)) else ((some (([] : List (S60)) : List (S60))).bind fun y207 => (if y207.length + x0.length < 3518437208883 then (spec_TransformOver.l0 k (y207 ++ x0) x1 (x1.length : Int) 0) else (none)))
def spec_TransformOver.l0 : Nat → List (S60) → List (List (S60)) → Int → Int → Option ((List (S60)) × Bool)
 | 0, _, _, _, _ => none
 | k + 1, x0, x22, x23, x24 => if x24 < x23 then (if 0 ≤ x24 then (if x24 < (x22.length : Int) then ((spec_TransformOps.f k x0 (rd_L3 x22 x24)).bind fun bt214 => (if bt214.2.2 = true then (spec_TransformOver.l0 k bt214.1 x22 x23 (wrap64 (x24 + 1))) else (some (([] : List (S60)), false)))) else (none)) else (none)) else (some (x0, true))
end
def spec_TransformOver.f (k : Nat) (l0 : List (S60)) (l1 : List (List (S60))) : Option ((List (S60)) × Bool) := (spec_GoodOp.f k l0).bind fun t206 => (if t206 = true then (spec_TransformOver.j0 k l0 l1 (decide ((l1.length : Int) > 20))) else (spec_TransformOver.j0 k l0 l1 true))
theorem spec_TransformOver.mono_l : ∀ k, (∀ y0 y1 y2, LeO (spec_TransformOver.j0 k y0 y1 y2) (spec_TransformOver.j0 (k + 1) y0 y1 y2)) ∧ (∀ y0 y1 y2 y3, LeO (spec_TransformOver.l0 k y0 y1 y2 y3) (spec_TransformOver.l0 (k + 1) y0 y1 y2 y3))
 | 0 => ⟨fun _ _ _ r h => by simp [spec_TransformOver.j0] at h, fun _ _ _ _ r h => by simp [spec_TransformOver.l0] at h⟩
 | k + 1 => by
  obtain ⟨ih0, ih1⟩ := spec_TransformOver.mono_l k
  refine ⟨?_, ?_⟩
  ·intro y0 y1 y2
   unfold spec_TransformOver.j0
   repeat' (with_reducible first | exact ih0 _ _ _ | exact ih1 _ _ _ _ | exact spec_GoodOp.mono _ _ | exact spec_TransformOps.mono _ _ _ | exact LeO.refl _ | exact LeO.none _ | refine LeO.ite ?_ ?_ | refine LeO.bind ?_ (fun _ => ?_))
  ·intro y0 y1 y2 y3
   unfold spec_TransformOver.l0
   repeat' (with_reducible first | exact ih0 _ _ _ | exact ih1 _ _ _ _ | exact spec_GoodOp.mono _ _ | exact spec_TransformOps.mono _ _ _ | exact LeO.refl _ | exact LeO.none _ | refine LeO.ite ?_ ?_ | refine LeO.bind ?_ (fun _ => ?_))
theorem spec_TransformOver.mono : ∀ a0 a1 k, LeO (spec_TransformOver.f k a0 a1) (spec_TransformOver.f (k + 1) a0 a1) := by
 intro a0 a1 k
 obtain ⟨ih0, ih1⟩ := spec_TransformOver.mono_l k
 unfold spec_TransformOver.f
 repeat' (with_reducible first | exact ih0 _ _ _ | exact ih1 _ _ _ _ | exact spec_GoodOp.mono _ _ | exact spec_TransformOps.mono _ _ _ | exact LeO.refl _ | exact LeO.none _ | refine LeO.ite ?_ ?_ | refine LeO.bind ?_ (fun _ => ?_))
set_option maxHeartbeats 8000000 in
set_option maxRecDepth 100000 in
theorem spec_TransformOver.calls (k : Nat) (A0 : Option Addr) (c0 : Nat) (l0 : List (S60)) (A1 : Option Addr) (c1 : Nat) (l1 : List (List (S60))) (r1 : List (S60)) (r2 : Bool) (w : World) (hr0 : Kd.C k60 w A0 l0.length l0) (hc0 : l0.length ≤ c0) (hr1 : Kd.C (Kd.slice 60 k60) w A1 l1.length l1) (hc1 : l1.length ≤ c1) (h : spec_TransformOver.f k l0 l1 = some (r1, r2)) :
  Calls Try.prog 21 #[.slice A0 l0.length c0, .slice A1 l1.length c1] w fun e w' => ∃ v0_ : Value, e = .returned (.tuple #[v0_, .bool r2]) ∧ Kd.R k60 60 w' w.heap.size (fun _ => True) v0_ r1 ∧ Below w.heap.size w w' := by
 have HR0 := aM hr0
 have HC0 := aM hc0
 clear hr0 hc0
 have HR1 := aM hr1
 have HC1 := aM hc1
 clear hr1 hc1
 have HB := aM (Below.refl w.heap.size w)
 have H : ((spec_GoodOp.f k l0).bind fun t206 => (if t206 = true then (spec_TransformOver.j0 k l0 l1 (decide ((l1.length : Int) > 20))) else (spec_TransformOver.j0 k l0 l1 true))) = some (r1, r2) := h
 clear h
 have HC3 := aM H
 clear H
 go_enter Try.func21, Try.ntmps21
 go_upto_region 1 with (fail)
 go_cut [18] (fun v18 wc => ∃ (kq : Nat) (x18_2 : Bool), v18 = .bool x18_2 ∧ Aside0 (spec_TransformOver.j0 kq l0 l1 x18_2 = some (r1, r2)) ∧ Aside0 (kq ≤ k) ∧ Aside0 (Below w.heap.size w wc))
 case first =>
  have H := HC3.out
  clear HC3
  replace H := Option.bind_eq_some_iff.mp H
  obtain ⟨t206, A40, H⟩ := H
  replace H : (if t206 = true then (spec_TransformOver.j0 k l0 l1 (decide ((l1.length : Int) > 20))) else (spec_TransformOver.j0 k l0 l1 true)) = some (r1, r2) := H
  have A4 := aM A40
  clear A40
  by_cases c5 : t206 = true
  ·subst c5
   replace H : (spec_TransformOver.j0 k l0 l1 (decide ((l1.length : Int) > 20))) = some (r1, r2) := by rw [if_pos rfl] at H; exact H
   have H' := aM H
   clear H
   go_wp2_with (first | ((with_reducible refine gate_callee (f := 34) rfl ?_); refine goesL_ (some 12) rfl rfl Try.func34 (by kernel_rfl) rfl #[.slice A0 l0.length c0] rfl mM ?_; (with_reducible refine (spec_GoodOp.calls k _ _ l0 true _ ?side1 ?side2 A4.out).mono ?_); (case side1 => exact cC (Kd.C_below HR0.out HB.out)); (case side2 => exact HC0.out); rintro e w6 ⟨rfl, hb⟩; refine ⟨_, rfl, ?_⟩; replace HB := aM (below_step bB hb); (try clear hb); (try clear hb2); (try clear hk); (try clear hi)))
   go_meet
   case rel => exact ⟨_, (decide ((l1.length : Int) > 20)), aP16, H', ⟨by first | omega | exact Nat.le_refl _⟩, ⟨bB⟩⟩
  replace c5 := Bool.eq_false_iff.mpr c5
  subst c5
  replace H : (spec_TransformOver.j0 k l0 l1 true) = some (r1, r2) := by rw [if_neg (show ¬ (false = true) by decide)] at H; exact H
  have H' := aM H
  clear H
  go_wp2_with (first | ((with_reducible refine gate_callee (f := 34) rfl ?_); refine goesL_ (some 12) rfl rfl Try.func34 (by kernel_rfl) rfl #[.slice A0 l0.length c0] rfl mM ?_; (with_reducible refine (spec_GoodOp.calls k _ _ l0 false _ ?side1 ?side2 A4.out).mono ?_); (case side1 => exact cC (Kd.C_below HR0.out HB.out)); (case side2 => exact HC0.out); rintro e w7 ⟨rfl, hb⟩; refine ⟨_, rfl, ?_⟩; replace HB := aM (below_step bB hb); (try clear hb); (try clear hb2); (try clear hk); (try clear hi)))
  go_meet
  case rel => exact ⟨_, (true), aP16, H', ⟨by first | omega | exact Nat.le_refl _⟩, ⟨bB⟩⟩
 case rest =>
  clear HC3
  try clear c1
  try clear c2
  try clear p2
  try clear c3
  try clear c5
  obtain ⟨kq, x18_2, rfl, HA, HJ2, HB⟩ := hcut
  cases kq with
  | zero => exact absurd HA.out (by simp [spec_TransformOver.j0])
  | succ kj2 =>
   have H := HA.out
   clear HA
   simp only [spec_TransformOver.j0] at H
   by_cases c8 : x18_2 = true
   ·subst c8
    replace H : (some (([] : List (S60)), false)) = some (r1, r2) := by rw [if_pos rfl] at H; exact H
    simp only [Option.some.injEq, Prod.mk.injEq] at H
    obtain ⟨rfl, rfl⟩ := H
    go_wp2
    go_ret2
    exact ⟨_, by first | rfl | (simp [errW_none, errW_some] <;> rfl) | (simp [*, errW_none, errW_some] <;> rfl), by first | exact Kd.R_nil _ _ _ _ _ | exact Kd.N_nil _ _ _ _ _ | exact Kd.V_nil _ _ _ _ _ | exact Kd.Q_nil _ _ _ _ _ | exact Kd.S_nil _ _ _ _ _, bB⟩
   replace c8 := Bool.eq_false_iff.mpr c8
   subst c8
   replace H : ((some (([] : List (S60)) : List (S60))).bind fun y207 => (if y207.length + l0.length < 3518437208883 then (spec_TransformOver.l0 kj2 (y207 ++ l0) l1 (l1.length : Int) 0) else (none))) = some (r1, r2) := by rw [if_neg (show ¬ (false = true) by decide)] at H; exact H
   obtain ⟨y207, hy207⟩ : ∃ y_ : List (S60), y_ = (([] : List (S60))) := ⟨_, rfl⟩
   replace H : (if y207.length + l0.length < 3518437208883 then (spec_TransformOver.l0 kj2 (y207 ++ l0) l1 (l1.length : Int) 0) else (none)) = some (r1, r2) := by first | (rw [hy207]; with_reducible exact H) | (have H2_ := (Option.bind_some _ _).symm.trans H; rw [hy207]; with_reducible exact H2_) | (have H2_ := (Option.bind_some _ _).symm.trans H; with_reducible exact H2_) | with_reducible exact H | (rw [hy207]; exact H) | exact H
   have Ny207 := aM hy207
   clear hy207
   by_cases c9 : y207.length + l0.length < 3518437208883
   rotate_left
   ·rw [if_neg c9] at H
    exact absurd H (by simp)
   rw [if_pos c9] at H
   have LMc9 := aM c9
   clear c9
   obtain ⟨y210, hy210⟩ : ∃ y_ : List (S60), y_ = (y207 ++ l0) := ⟨_, rfl⟩
   replace H : (spec_TransformOver.l0 kj2 y210 l1 (l1.length : Int) 0) = some (r1, r2) := by first | (rw [hy210]; with_reducible exact H) | (have H2_ := (Option.bind_some _ _).symm.trans H; rw [hy210]; with_reducible exact H2_) | (have H2_ := (Option.bind_some _ _).symm.trans H; with_reducible exact H2_) | with_reducible exact H | (rw [hy210]; exact H) | exact H
   have Ny210 := aM hy210
   clear hy210
   have H' := aM H
   clear H
   go_wp2_with (first | ((with_reducible refine gate_dst (N := 19) rfl ?_); (try (refine gate_guard (by rfl) ?_; dsimp only)); refine Kd.R_lit k60 _ 60 ?hg (N := 19) ?hd (xs := ([] : List (S60))) (inner := []) (ok := fun _ => True) (okp := fun _ => True) ?hr ?hp (fun _ hk => hk) trivial (Below.refl _ _) (Nat.le_refl _) (by simp) ?_; (case hd => rfl); (case hg => rfl); (case hr => exact aP21); (case hp => exact (Reps.none _ _)); intro v208 w10 ho11 hb hg_ hnew_; clear hg_ hnew_; (first | rw [← Ny207.out] at ho11 | (simp only [Int.reduceToNat] at ho11; rw [← Ny207.out] at ho11)); have HO209 := aM (Kd.R_lower ho11 (below_size bB)); replace HB := aM (below_step bB hb); clear hb ho11) | ((with_reducible refine gate_builtin (b := .append) (xs := #[.tmp 19, .tmp 20]) rfl ?_); (try (refine gate_guard (by rfl) ?_; dsimp only)); at_builtin; refine Kd.R_append_rows k60 (w0 := w) w.heap.size rfl (.tmp 19) (.tmp 20) 26 60 (.agg #[(.int .i64 0), (.string ⟨#[]⟩), (.string ⟨#[]⟩)]) 40 rfl Try.underlying26 info60 rfl (by decide) (by omega) v208 y207 l0 _ _ _ (fun _ => True) (fun _ => False) rfl rfl ?aO ?aR (fun _ _ h => h) (fun _ h => h.elim) ?aF ?aB ?aS ?aL ?_; (case aR => exact cC (Kd.C_below HR0.out HB.out)); (case aB => exact bB); (case aF => exact (fun _ _ => trivial)); (case aO => exact (rR HO209.out)); (case aS => exact (below_size bB)); (case aL => have := LMc9.out; omega); intro v211 w12 ho hb hg hat; rw [← Ny210.out] at ho; have HO212 := aM (ho); replace HB := aM (hb); clear ho hb hg hat))
   go_loopg [0, 24] kj2 (fun kq v0 v24 w' => ∃ (x0_2 : List (S60)) (x24_2 : Int), v24 = .int .i64 x24_2 ∧ Aside0 (spec_TransformOver.l0 kq x0_2 l1 (l1.length : Int) x24_2 = some (r1, r2)) ∧ Aside0 (kq ≤ kj2) ∧ Aside0 (Kd.R k60 60 w' w.heap.size (fun _ => True) v0 x0_2) ∧ Aside0 (Below w.heap.size w w'))
   case atStart => exact ⟨(y210), (0), aP16, H', ⟨Nat.le_refl _⟩, ⟨rR HO212.out⟩, ⟨bB⟩⟩
   case round =>
    clear H'
    try clear c1
    try clear c2
    try clear p2
    try clear c3
    try clear c5
    try clear c8
    try clear c9
    try clear p2
    obtain ⟨x0_2, x24_2, rfl, HA, HK2, HO_0, HB⟩ := hrel
    cases gk with
    | zero => exact absurd HA.out (by simp [spec_TransformOver.l0])
    | succ k2 =>
     have H := HA.out
     clear HA
     simp only [spec_TransformOver.l0] at H
     by_cases c13 : x24_2 < (l1.length : Int)
     rotate_left
     ·rw [if_neg c13] at H
      have c13b0 : decide (x24_2 < (l1.length : Int)) = false := decide_eq_false c13
      clear c13
      simp only [Option.some.injEq, Prod.mk.injEq] at H
      obtain ⟨rfl, rfl⟩ := H
      go_wp2
      go_ret2
      exact ⟨_, by first | rfl | (simp [errW_none, errW_some] <;> rfl) | (simp [*, errW_none, errW_some] <;> rfl), by (with_reducible repeat (first | apply Kd.R_alloc | apply Kd.R_drewN | apply Kd.R_drew)); exact HO_0.out, bB⟩
     rw [if_pos c13] at H
     have c13b0 : decide (x24_2 < (l1.length : Int)) = true := decide_eq_true c13
     clear c13
     by_cases c14 : 0 ≤ x24_2
     rotate_left
     ·rw [if_neg c14] at H
      exact absurd H (by simp)
     rw [if_pos c14] at H
     have c14b0 : decide (0 ≤ x24_2) = true := decide_eq_true c14
     clear c14
     by_cases c15 : x24_2 < (l1.length : Int)
     rotate_left
     ·rw [if_neg c15] at H
      exact absurd H (by simp)
     rw [if_pos c15] at H
     have c15b0 : decide (x24_2 < (l1.length : Int)) = true := decide_eq_true c15
     clear c15
     replace H := Option.bind_eq_some_iff.mp H
     obtain ⟨⟨t214, t215, t216⟩, A160, H⟩ := H
     replace H : (if t216 = true then (spec_TransformOver.l0 k2 t214 l1 (l1.length : Int) (wrap64 (x24_2 + 1))) else (some (([] : List (S60)), false))) = some (r1, r2) := H
     have A16 := aM A160
     clear A160
     by_cases c17 : t216 = true
     ·subst c17
      replace H : (spec_TransformOver.l0 k2 t214 l1 (l1.length : Int) (wrap64 (x24_2 + 1))) = some (r1, r2) := by rw [if_pos rfl] at H; exact H
      have H' := aM H
      clear H
      have p213 : 0 ≤ (x24_2 : Int) := of_decide_eq_true (by assumption)
      have q213 : x24_2 < (l1.length : Int) := of_decide_eq_true (by assumption)
      obtain ⟨ad213, A213_0, c213_0, e213, hx213_0, hl213_0, hi213_0⟩ := at_L3 HR1.out x24_2 p213 q213
      cases e213
      replace hx213_0 := hC HB.out hx213_0
      have HR213_0 := aM hi213_0
      have HC213_0 := aM hl213_0
      clear hi213_0 hl213_0
      replace p213 := eq_true p213
      replace q213 := eq_true q213
      obtain ⟨Ao18, co18, eo18⟩ := Kd.R_slice HO_0.out
      subst eo18
      go_wp2_with (first | ((with_reducible refine gate_callee (f := 16) rfl ?_); refine goesL_ (some 31) rfl rfl Try.func16 (by kernel_rfl) rfl #[.slice Ao18 x0_2.length co18, .slice A213_0 (rd_L3 l1 x24_2).length c213_0] rfl mM ?_; (with_reducible refine (spec_TransformOps.calls k2 _ _ x0_2 _ _ (rd_L3 l1 x24_2) t214 t215 true _ ?side1 ?side2 ?side3 ?side4 A16.out).mono ?_); (case side1 => exact cC ((Kd.R_reads' HO_0.out).2.2)); (case side2 => exact (Kd.R_reads' HO_0.out).2.1); (case side3 => exact cC (Kd.C_below HR213_0.out HB.out)); (case side4 => exact HC213_0.out); rintro e w19 ⟨v217, v219, rfl, ho0, ho1, hb⟩; refine ⟨_, rfl, ?_⟩; have HO218 := aM (Kd.R_lower (Kd.R_new' ho0 (Kd.R_lt (rR HO_0.out))) (below_size bB)); have HO220 := aM (Kd.R_lower (Kd.R_new' ho1 (Kd.R_lt (rR HO_0.out))) (below_size bB)); replace HO_0 := aM (Kd.R_mono (Kd.R_told (Kd.R_told (Kd.R_old (rR HO_0.out) hb) (Kd.R_base ho0)) (Kd.R_base ho1)) (fun _ h_ => h_.1)); replace HB := aM (below_step bB hb); (try clear hb); (try clear hb2); (try clear hk); (try clear hi); (try clear ho0); (try clear ho1)))
      go_roundg k2
      case measure => have := HJ2.out; have := HK2.out; omega
      case rel => exact ⟨(t214), (wrap64 (x24_2 + 1)), aP16, H', ⟨by have := HJ2.out; have := HK2.out; omega⟩, ⟨by (with_reducible repeat (first | apply Kd.R_alloc | apply Kd.R_drewN | apply Kd.R_drew)); exact Kd.R_mono HO218.out (fun _ hk => trivial)⟩, ⟨bB⟩⟩
     replace c17 := Bool.eq_false_iff.mpr c17
     subst c17
     replace H : (some (([] : List (S60)), false)) = some (r1, r2) := by rw [if_neg (show ¬ (false = true) by decide)] at H; exact H
     simp only [Option.some.injEq, Prod.mk.injEq] at H
     obtain ⟨rfl, rfl⟩ := H
     have p213 : 0 ≤ (x24_2 : Int) := of_decide_eq_true (by assumption)
     have q213 : x24_2 < (l1.length : Int) := of_decide_eq_true (by assumption)
     obtain ⟨ad213, A213_0, c213_0, e213, hx213_0, hl213_0, hi213_0⟩ := at_L3 HR1.out x24_2 p213 q213
     cases e213
     replace hx213_0 := hC HB.out hx213_0
     have HR213_0 := aM hi213_0
     have HC213_0 := aM hl213_0
     clear hi213_0 hl213_0
     replace p213 := eq_true p213
     replace q213 := eq_true q213
     obtain ⟨Ao20, co20, eo20⟩ := Kd.R_slice HO_0.out
     subst eo20
     go_wp2_with (first | ((with_reducible refine gate_callee (f := 16) rfl ?_); refine goesL_ (some 31) rfl rfl Try.func16 (by kernel_rfl) rfl #[.slice Ao20 x0_2.length co20, .slice A213_0 (rd_L3 l1 x24_2).length c213_0] rfl mM ?_; (with_reducible refine (spec_TransformOps.calls k2 _ _ x0_2 _ _ (rd_L3 l1 x24_2) t214 t215 false _ ?side1 ?side2 ?side3 ?side4 A16.out).mono ?_); (case side1 => exact cC ((Kd.R_reads' HO_0.out).2.2)); (case side2 => exact (Kd.R_reads' HO_0.out).2.1); (case side3 => exact cC (Kd.C_below HR213_0.out HB.out)); (case side4 => exact HC213_0.out); rintro e w21 ⟨v217, v219, rfl, ho0, ho1, hb⟩; refine ⟨_, rfl, ?_⟩; have HO218 := aM (Kd.R_lower (Kd.R_new' ho0 (Kd.R_lt (rR HO_0.out))) (below_size bB)); have HO220 := aM (Kd.R_lower (Kd.R_new' ho1 (Kd.R_lt (rR HO_0.out))) (below_size bB)); replace HO_0 := aM (Kd.R_mono (Kd.R_told (Kd.R_told (Kd.R_old (rR HO_0.out) hb) (Kd.R_base ho0)) (Kd.R_base ho1)) (fun _ h_ => h_.1)); replace HB := aM (below_step bB hb); (try clear hb); (try clear hb2); (try clear hk); (try clear hi); (try clear ho0); (try clear ho1)))
     go_ret2
     exact ⟨_, by first | rfl | (simp [errW_none, errW_some] <;> rfl) | (simp [*, errW_none, errW_some] <;> rfl), by first | exact Kd.R_nil _ _ _ _ _ | exact Kd.N_nil _ _ _ _ _ | exact Kd.V_nil _ _ _ _ _ | exact Kd.Q_nil _ _ _ _ _ | exact Kd.S_nil _ _ _ _ _, bB⟩
-- import Mk
-- fn: slices.Clone[[]loop.example/g00253/impl.Part,loop.example/g00253/impl.Part]
set_option maxHeartbeats 4000000 in
set_option maxRecDepth 100000 in
theorem clone_part (w : World) (A : Addr) (c : Nat) (l : List S60) (hr : Kd.C k60 w (some A) l.length l) (hlen : l.length ≤ 1000000) :
  Calls Try.prog 54 #[.slice (some A) l.length c] w fun e w' => ∃ v : Value, e = .returned v ∧ Kd.R k60 60 w' w.heap.size (fun k => w.heap.size ≤ k) v l ∧ Below w.heap.size w w' := by
 have hu53 := Try.underlying60
 have hu22 := Try.underlying26
 have HR := aM hr
 have HLN := aM hlen
 clear hr hlen
 have eqn : (Go.binOp .eql 26 (.slice (some A) l.length c) (.slice none 0 0)).run Try.prog w = .ok (.bool false) w := Go.Lib.run_eql_slice_nil w 26 60 (some A) l.length c 0 0 hu22
 go_enter Try.func54, Try.ntmps54
 go_wp2_with (first | ((with_reducible refine gate_dst (N := 5) rfl ?_); refine Kd.R_lit k60 (w0 := w) w.heap.size 60 ?hg (N := 5) ?hd (xs := ([] : List S60)) (inner := []) (ok := fun k => w.heap.size ≤ k) (okp := fun _ => False) ?hr ?hp (fun _ q => q.elim) (Nat.le_refl _) (Below.refl _ _) (Nat.le_refl _) (by simp) ?_; (case hd => rfl); (case hg => rfl); (case hr => exact aP21); (case hp => exact Reps.none _ _); intro vl u4 ho4 hb4 hg4_ hnew4_; clear hg4_ hnew4_; have HO4 := aM ho4; have HB4 := aM hb4; clear ho4 hb4) | ((with_reducible refine gate_dst (N := 7) rfl ?_); refine Kd.R_append_rows k60 (Rr := k60.K u4) (w0 := w) w.heap.size ?hg (.tmp 5) (.tmp 6) 26 60 (.agg #[.int .i64 0, .string ⟨#[]⟩, .string ⟨#[]⟩]) 40 ?ho Try.underlying26 Go.Proofs.Ytoagljlnfakgjaa.Mk.info53 rfl (show 0 < 3 by decide) (by decide) vl ([] : List S60) l (some A) l.length c (fun k => w.heap.size ≤ k) (fun _ => False) ?e1 ?e2 HO4.out ?hrow (fun x cs hx => by obtain rfl := k60_open hx; exact k60_mkM _ _ _ x) (fun _ q => q.elim) (fun k hk => Nat.le_trans HB4.out.size hk) HB4.out HB4.out.size ?hl ?_; (case hg => rfl); (case ho => rfl); (case e1 => rfl); (case e2 => rfl); (case hrow => exact Kd.C_foot_neS (S := fun _ => False) (fun h => h) HR.out (fun _ _ _ q => q) u4 (Kept.of_below HB4.out (fun _ => False))); (case hl => have := HLN.out; simp only [List.length_nil]; omega); intro v5 u5 ho5 hb5 hg5_ hat5_; clear hg5_ hat5_; have HO5 := aM ho5; have HB5 := aM hb5; clear ho5 hb5))
 go_ret
 exact ⟨v5, rfl, HO5.out, HB5.out⟩
theorem clone_partA (w : World) (A : Option Addr) (c : Nat) (l : List S60) (hr : Kd.C k60 w A l.length l) (hlen : l.length ≤ 1000000) :
  Calls Try.prog 54 #[.slice A l.length c] w fun e w' => ∃ v : Value, e = .returned v ∧ Kd.R k60 60 w' w.heap.size (fun k => w.heap.size ≤ k) v l ∧ Below w.heap.size w w' := by
 cases A with
 | some A => exact clone_part w A c l hr hlen
 | none =>
  have hl : l = [] := by
   cases l with
   | nil => rfl
   | cons p r =>
    obtain ⟨ad, e3, _, _, _⟩ := at_T60 hr 0 (Int.le_refl _) (by rw [List.length_cons]; omega)
    cases e3
  subst hl
  clear hr hlen
  have hu22 := Try.underlying26
  have eqn : (Go.binOp .eql 26 (.slice none 0 c) (.slice none 0 0)).run Try.prog w = .ok (.bool true) w := Go.Lib.run_eql_slice_nil w 26 60 none 0 c 0 0 hu22
  go_enter Try.func54, Try.ntmps54
  go_wp2_with fail
  go_ret
  exact ⟨_, rfl, Kd.R_nil _ _ _ _ _, Below.refl _ _⟩
def impl_Part_54.f (l0 : List S60) : Option (List S60) := if 1000000 < l0.length then none else some l0
theorem impl_Part_54.calls (A0 : Option Addr) (c0 : Nat) (l0 : List S60) (r : List S60) (w : World) (hr0 : Kd.C k60 w A0 l0.length l0) (hc0 : l0.length ≤ c0) (h : impl_Part_54.f l0 = some r) :
  Calls Try.prog 54 #[.slice A0 l0.length c0] w fun e w' => ∃ v0_ : Value, e = .returned (v0_) ∧ Kd.R k60 60 w' w.heap.size (fun _ => True) v0_ r ∧ Below w.heap.size w w' := by
 unfold impl_Part_54.f at h
 by_cases c : 1000000 < l0.length
 ·rw [if_pos c] at h; cases h
 rw [if_neg c] at h
 obtain rfl := Option.some.inj h
 refine (clone_partA w A0 c0 l0 hr0 (by omega)).mono ?_
 rintro e w' ⟨v, he, ho, hb⟩
 exact ⟨v, he, Kd.R_mono ho (fun _ _ => trivial), hb⟩
mutual
def impl_TransformOver.j0 : Nat → List (S60) → List (List (S60)) → Bool → Option ((List (S60)) × Bool)
 | 0, _, _, _ => none
 | k + 1, x0, x1, x16 => if x16 = true then (some (([] : List (S60)), false)) else ((impl_Part_54.f x0).bind fun t222 => (impl_TransformOver.l0 k t222 x1 (x1.length : Int) 0))
def impl_TransformOver.l0 : Nat → List (S60) → List (List (S60)) → Int → Int → Option ((List (S60)) × Bool)
 | 0, _, _, _, _ => none
 | k + 1, x0, x19, x20, x21 => if x21 < x20 then (if 0 ≤ x21 then (if x21 < (x19.length : Int) then ((impl_TransformOps.f k x0 (rd_L3 x19 x21)).bind fun bt226 => (if bt226.2.2 = true then (impl_TransformOver.l0 k bt226.1 x19 x20 (wrap64 (x21 + 1))) else (some (([] : List (S60)), false)))) else (none)) else (none)) else (some (x0, true))
end
def impl_TransformOver.f (k : Nat) (l0 : List (S60)) (l1 : List (List (S60))) : Option ((List (S60)) × Bool) := (impl_GoodOp.f k l0).bind fun t221 => (if t221 = true then (impl_TransformOver.j0 k l0 l1 (decide ((l1.length : Int) > 20))) else (impl_TransformOver.j0 k l0 l1 true))
theorem impl_TransformOver.mono_l : ∀ k, (∀ y0 y1 y2, LeO (impl_TransformOver.j0 k y0 y1 y2) (impl_TransformOver.j0 (k + 1) y0 y1 y2)) ∧ (∀ y0 y1 y2 y3, LeO (impl_TransformOver.l0 k y0 y1 y2 y3) (impl_TransformOver.l0 (k + 1) y0 y1 y2 y3))
 | 0 => ⟨fun _ _ _ r h => by simp [impl_TransformOver.j0] at h, fun _ _ _ _ r h => by simp [impl_TransformOver.l0] at h⟩
 | k + 1 => by
  obtain ⟨ih0, ih1⟩ := impl_TransformOver.mono_l k
  refine ⟨?_, ?_⟩
  ·intro y0 y1 y2
   unfold impl_TransformOver.j0
   repeat' (with_reducible first | exact ih0 _ _ _ | exact ih1 _ _ _ _ | exact impl_GoodOp.mono _ _ | exact impl_TransformOps.mono _ _ _ | exact LeO.refl _ | exact LeO.none _ | refine LeO.ite ?_ ?_ | refine LeO.bind ?_ (fun _ => ?_))
  ·intro y0 y1 y2 y3
   unfold impl_TransformOver.l0
   repeat' (with_reducible first | exact ih0 _ _ _ | exact ih1 _ _ _ _ | exact impl_GoodOp.mono _ _ | exact impl_TransformOps.mono _ _ _ | exact LeO.refl _ | exact LeO.none _ | refine LeO.ite ?_ ?_ | refine LeO.bind ?_ (fun _ => ?_))
theorem impl_TransformOver.mono : ∀ a0 a1 k, LeO (impl_TransformOver.f k a0 a1) (impl_TransformOver.f (k + 1) a0 a1) := by
 intro a0 a1 k
 obtain ⟨ih0, ih1⟩ := impl_TransformOver.mono_l k
 unfold impl_TransformOver.f
 repeat' (with_reducible first | exact ih0 _ _ _ | exact ih1 _ _ _ _ | exact impl_GoodOp.mono _ _ | exact impl_TransformOps.mono _ _ _ | exact LeO.refl _ | exact LeO.none _ | refine LeO.ite ?_ ?_ | refine LeO.bind ?_ (fun _ => ?_))
set_option maxHeartbeats 8000000 in
set_option maxRecDepth 100000 in
theorem impl_TransformOver.calls (k : Nat) (A0 : Option Addr) (c0 : Nat) (l0 : List (S60)) (A1 : Option Addr) (c1 : Nat) (l1 : List (List (S60))) (r1 : List (S60)) (r2 : Bool) (w : World) (hr0 : Kd.C k60 w A0 l0.length l0) (hc0 : l0.length ≤ c0) (hr1 : Kd.C (Kd.slice 60 k60) w A1 l1.length l1) (hc1 : l1.length ≤ c1) (h : impl_TransformOver.f k l0 l1 = some (r1, r2)) :
  Calls Try.prog 23 #[.slice A0 l0.length c0, .slice A1 l1.length c1] w fun e w' => ∃ v0_ : Value, e = .returned (.tuple #[v0_, .bool r2]) ∧ Kd.R k60 60 w' w.heap.size (fun _ => True) v0_ r1 ∧ Below w.heap.size w w' := by
 have HR0 := aM hr0
 have HC0 := aM hc0
 clear hr0 hc0
 have HR1 := aM hr1
 have HC1 := aM hc1
 clear hr1 hc1
 have HB := aM (Below.refl w.heap.size w)
 have H : ((impl_GoodOp.f k l0).bind fun t221 => (if t221 = true then (impl_TransformOver.j0 k l0 l1 (decide ((l1.length : Int) > 20))) else (impl_TransformOver.j0 k l0 l1 true))) = some (r1, r2) := h
 clear h
 have HC3 := aM H
 clear H
 go_enter Try.func23, Try.ntmps23
 go_upto_region 1 with (fail)
 go_cut [16] (fun v16 wc => ∃ (kq : Nat) (x16_2 : Bool), v16 = .bool x16_2 ∧ Aside0 (impl_TransformOver.j0 kq l0 l1 x16_2 = some (r1, r2)) ∧ Aside0 (kq ≤ k) ∧ Aside0 (Below w.heap.size w wc))
 case first =>
  have H := HC3.out
  clear HC3
  replace H := Option.bind_eq_some_iff.mp H
  obtain ⟨t221, A40, H⟩ := H
  replace H : (if t221 = true then (impl_TransformOver.j0 k l0 l1 (decide ((l1.length : Int) > 20))) else (impl_TransformOver.j0 k l0 l1 true)) = some (r1, r2) := H
  have A4 := aM A40
  clear A40
  by_cases c5 : t221 = true
  ·subst c5
   replace H : (impl_TransformOver.j0 k l0 l1 (decide ((l1.length : Int) > 20))) = some (r1, r2) := by rw [if_pos rfl] at H; exact H
   have H' := aM H
   clear H
   go_wp2_with (first | ((with_reducible refine gate_callee (f := 37) rfl ?_); refine goesL_ (some 10) rfl rfl Try.func37 (by kernel_rfl) rfl #[.slice A0 l0.length c0] rfl mM ?_; (with_reducible refine (impl_GoodOp.calls k _ _ l0 true _ ?side1 ?side2 A4.out).mono ?_); (case side1 => exact cC (Kd.C_below HR0.out HB.out)); (case side2 => exact HC0.out); rintro e w6 ⟨rfl, hb⟩; refine ⟨_, rfl, ?_⟩; replace HB := aM (below_step bB hb); (try clear hb); (try clear hb2); (try clear hk); (try clear hi)))
   go_meet
   case rel => exact ⟨_, (decide ((l1.length : Int) > 20)), aP16, H', ⟨by first | omega | exact Nat.le_refl _⟩, ⟨bB⟩⟩
  replace c5 := Bool.eq_false_iff.mpr c5
  subst c5
  replace H : (impl_TransformOver.j0 k l0 l1 true) = some (r1, r2) := by rw [if_neg (show ¬ (false = true) by decide)] at H; exact H
  have H' := aM H
  clear H
  go_wp2_with (first | ((with_reducible refine gate_callee (f := 37) rfl ?_); refine goesL_ (some 10) rfl rfl Try.func37 (by kernel_rfl) rfl #[.slice A0 l0.length c0] rfl mM ?_; (with_reducible refine (impl_GoodOp.calls k _ _ l0 false _ ?side1 ?side2 A4.out).mono ?_); (case side1 => exact cC (Kd.C_below HR0.out HB.out)); (case side2 => exact HC0.out); rintro e w7 ⟨rfl, hb⟩; refine ⟨_, rfl, ?_⟩; replace HB := aM (below_step bB hb); (try clear hb); (try clear hb2); (try clear hk); (try clear hi)))
  go_meet
  case rel => exact ⟨_, (true), aP16, H', ⟨by first | omega | exact Nat.le_refl _⟩, ⟨bB⟩⟩
 case rest =>
  clear HC3
  try clear c1
  try clear c2
  try clear p2
  try clear c3
  try clear c5
  obtain ⟨kq, x16_2, rfl, HA, HJ2, HB⟩ := hcut
  cases kq with
  | zero => exact absurd HA.out (by simp [impl_TransformOver.j0])
  | succ kj2 =>
   have H := HA.out
   clear HA
   simp only [impl_TransformOver.j0] at H
   by_cases c8 : x16_2 = true
   ·subst c8
    replace H : (some (([] : List (S60)), false)) = some (r1, r2) := by rw [if_pos rfl] at H; exact H
    simp only [Option.some.injEq, Prod.mk.injEq] at H
    obtain ⟨rfl, rfl⟩ := H
    go_wp2
    go_ret2
    exact ⟨_, by first | rfl | (simp [errW_none, errW_some] <;> rfl) | (simp [*, errW_none, errW_some] <;> rfl), by first | exact Kd.R_nil _ _ _ _ _ | exact Kd.N_nil _ _ _ _ _ | exact Kd.V_nil _ _ _ _ _ | exact Kd.Q_nil _ _ _ _ _ | exact Kd.S_nil _ _ _ _ _, bB⟩
   replace c8 := Bool.eq_false_iff.mpr c8
   subst c8
   replace H : ((impl_Part_54.f l0).bind fun t222 => (impl_TransformOver.l0 kj2 t222 l1 (l1.length : Int) 0)) = some (r1, r2) := by rw [if_neg (show ¬ (false = true) by decide)] at H; exact H
   replace H := Option.bind_eq_some_iff.mp H
   obtain ⟨t222, A90, H⟩ := H
   replace H : (impl_TransformOver.l0 kj2 t222 l1 (l1.length : Int) 0) = some (r1, r2) := H
   have A9 := aM A90
   clear A90
   have H' := aM H
   clear H
   go_wp2_with (first | ((with_reducible refine gate_callee (f := 54) rfl ?_); refine goesL_ (some 18) rfl rfl Try.func54 (by kernel_rfl) rfl #[.slice A0 l0.length c0] rfl mM ?_; (with_reducible refine (impl_Part_54.calls _ _ l0 t222 _ ?side1 ?side2 A9.out).mono ?_); (case side1 => exact cC (Kd.C_below HR0.out HB.out)); (case side2 => exact HC0.out); rintro e w10 ⟨v223, rfl, ho0, hb⟩; refine ⟨_, rfl, ?_⟩; have HO224 := aM (Kd.R_lower ho0 (below_size bB)); replace HB := aM (below_step bB hb); (try clear hb); (try clear hb2); (try clear hk); (try clear hi); (try clear ho0)))
   go_loopg [0, 21] kj2 (fun kq v0 v21 w' => ∃ (x0_2 : List (S60)) (x21_2 : Int), v21 = .int .i64 x21_2 ∧ Aside0 (impl_TransformOver.l0 kq x0_2 l1 (l1.length : Int) x21_2 = some (r1, r2)) ∧ Aside0 (kq ≤ kj2) ∧ Aside0 (Kd.R k60 60 w' w.heap.size (fun _ => True) v0 x0_2) ∧ Aside0 (Below w.heap.size w w'))
   case atStart => exact ⟨(t222), (0), aP16, H', ⟨Nat.le_refl _⟩, ⟨rR HO224.out⟩, ⟨bB⟩⟩
   case round =>
    clear H'
    try clear c1
    try clear c2
    try clear p2
    try clear c3
    try clear c5
    try clear c8
    try clear p2
    obtain ⟨x0_2, x21_2, rfl, HA, HK2, HO_0, HB⟩ := hrel
    cases gk with
    | zero => exact absurd HA.out (by simp [impl_TransformOver.l0])
    | succ k2 =>
     have H := HA.out
     clear HA
     simp only [impl_TransformOver.l0] at H
     by_cases c11 : x21_2 < (l1.length : Int)
     rotate_left
     ·rw [if_neg c11] at H
      have c11b0 : decide (x21_2 < (l1.length : Int)) = false := decide_eq_false c11
      clear c11
      simp only [Option.some.injEq, Prod.mk.injEq] at H
      obtain ⟨rfl, rfl⟩ := H
      go_wp2
      go_ret2
      exact ⟨_, by first | rfl | (simp [errW_none, errW_some] <;> rfl) | (simp [*, errW_none, errW_some] <;> rfl), by (with_reducible repeat (first | apply Kd.R_alloc | apply Kd.R_drewN | apply Kd.R_drew)); exact HO_0.out, bB⟩
     rw [if_pos c11] at H
     have c11b0 : decide (x21_2 < (l1.length : Int)) = true := decide_eq_true c11
     clear c11
     by_cases c12 : 0 ≤ x21_2
     rotate_left
     ·rw [if_neg c12] at H
      exact absurd H (by simp)
     rw [if_pos c12] at H
     have c12b0 : decide (0 ≤ x21_2) = true := decide_eq_true c12
     clear c12
     by_cases c13 : x21_2 < (l1.length : Int)
     rotate_left
     ·rw [if_neg c13] at H
      exact absurd H (by simp)
     rw [if_pos c13] at H
     have c13b0 : decide (x21_2 < (l1.length : Int)) = true := decide_eq_true c13
     clear c13
     replace H := Option.bind_eq_some_iff.mp H
     obtain ⟨⟨t226, t227, t228⟩, A140, H⟩ := H
     replace H : (if t228 = true then (impl_TransformOver.l0 k2 t226 l1 (l1.length : Int) (wrap64 (x21_2 + 1))) else (some (([] : List (S60)), false))) = some (r1, r2) := H
     have A14 := aM A140
     clear A140
     by_cases c15 : t228 = true
     ·subst c15
      replace H : (impl_TransformOver.l0 k2 t226 l1 (l1.length : Int) (wrap64 (x21_2 + 1))) = some (r1, r2) := by rw [if_pos rfl] at H; exact H
      have H' := aM H
      clear H
      have p225 : 0 ≤ (x21_2 : Int) := of_decide_eq_true (by assumption)
      have q225 : x21_2 < (l1.length : Int) := of_decide_eq_true (by assumption)
      obtain ⟨ad225, A225_0, c225_0, e225, hx225_0, hl225_0, hi225_0⟩ := at_L3 HR1.out x21_2 p225 q225
      cases e225
      replace hx225_0 := hC HB.out hx225_0
      have HR225_0 := aM hi225_0
      have HC225_0 := aM hl225_0
      clear hi225_0 hl225_0
      replace p225 := eq_true p225
      replace q225 := eq_true q225
      obtain ⟨Ao16, co16, eo16⟩ := Kd.R_slice HO_0.out
      subst eo16
      go_wp2_with (first | ((with_reducible refine gate_callee (f := 17) rfl ?_); refine goesL_ (some 28) rfl rfl Try.func17 (by kernel_rfl) rfl #[.slice Ao16 x0_2.length co16, .slice A225_0 (rd_L3 l1 x21_2).length c225_0] rfl mM ?_; (with_reducible refine (impl_TransformOps.calls k2 _ _ x0_2 _ _ (rd_L3 l1 x21_2) t226 t227 true _ ?side1 ?side2 ?side3 ?side4 A14.out).mono ?_); (case side1 => exact cC ((Kd.R_reads' HO_0.out).2.2)); (case side2 => exact (Kd.R_reads' HO_0.out).2.1); (case side3 => exact cC (Kd.C_below HR225_0.out HB.out)); (case side4 => exact HC225_0.out); rintro e w17 ⟨v229, v231, rfl, ho0, ho1, hb⟩; refine ⟨_, rfl, ?_⟩; have HO230 := aM (Kd.R_lower (Kd.R_new' ho0 (Kd.R_lt (rR HO_0.out))) (below_size bB)); have HO232 := aM (Kd.R_lower (Kd.R_new' ho1 (Kd.R_lt (rR HO_0.out))) (below_size bB)); replace HO_0 := aM (Kd.R_mono (Kd.R_told (Kd.R_told (Kd.R_old (rR HO_0.out) hb) (Kd.R_base ho0)) (Kd.R_base ho1)) (fun _ h_ => h_.1)); replace HB := aM (below_step bB hb); (try clear hb); (try clear hb2); (try clear hk); (try clear hi); (try clear ho0); (try clear ho1)))
      go_roundg k2
      case measure => have := HJ2.out; have := HK2.out; omega
      case rel => exact ⟨(t226), (wrap64 (x21_2 + 1)), aP16, H', ⟨by have := HJ2.out; have := HK2.out; omega⟩, ⟨by (with_reducible repeat (first | apply Kd.R_alloc | apply Kd.R_drewN | apply Kd.R_drew)); exact Kd.R_mono HO230.out (fun _ hk => trivial)⟩, ⟨bB⟩⟩
     replace c15 := Bool.eq_false_iff.mpr c15
     subst c15
     replace H : (some (([] : List (S60)), false)) = some (r1, r2) := by rw [if_neg (show ¬ (false = true) by decide)] at H; exact H
     simp only [Option.some.injEq, Prod.mk.injEq] at H
     obtain ⟨rfl, rfl⟩ := H
     have p225 : 0 ≤ (x21_2 : Int) := of_decide_eq_true (by assumption)
     have q225 : x21_2 < (l1.length : Int) := of_decide_eq_true (by assumption)
     obtain ⟨ad225, A225_0, c225_0, e225, hx225_0, hl225_0, hi225_0⟩ := at_L3 HR1.out x21_2 p225 q225
     cases e225
     replace hx225_0 := hC HB.out hx225_0
     have HR225_0 := aM hi225_0
     have HC225_0 := aM hl225_0
     clear hi225_0 hl225_0
     replace p225 := eq_true p225
     replace q225 := eq_true q225
     obtain ⟨Ao18, co18, eo18⟩ := Kd.R_slice HO_0.out
     subst eo18
     go_wp2_with (first | ((with_reducible refine gate_callee (f := 17) rfl ?_); refine goesL_ (some 28) rfl rfl Try.func17 (by kernel_rfl) rfl #[.slice Ao18 x0_2.length co18, .slice A225_0 (rd_L3 l1 x21_2).length c225_0] rfl mM ?_; (with_reducible refine (impl_TransformOps.calls k2 _ _ x0_2 _ _ (rd_L3 l1 x21_2) t226 t227 false _ ?side1 ?side2 ?side3 ?side4 A14.out).mono ?_); (case side1 => exact cC ((Kd.R_reads' HO_0.out).2.2)); (case side2 => exact (Kd.R_reads' HO_0.out).2.1); (case side3 => exact cC (Kd.C_below HR225_0.out HB.out)); (case side4 => exact HC225_0.out); rintro e w19 ⟨v229, v231, rfl, ho0, ho1, hb⟩; refine ⟨_, rfl, ?_⟩; have HO230 := aM (Kd.R_lower (Kd.R_new' ho0 (Kd.R_lt (rR HO_0.out))) (below_size bB)); have HO232 := aM (Kd.R_lower (Kd.R_new' ho1 (Kd.R_lt (rR HO_0.out))) (below_size bB)); replace HO_0 := aM (Kd.R_mono (Kd.R_told (Kd.R_told (Kd.R_old (rR HO_0.out) hb) (Kd.R_base ho0)) (Kd.R_base ho1)) (fun _ h_ => h_.1)); replace HB := aM (below_step bB hb); (try clear hb); (try clear hb2); (try clear hk); (try clear hi); (try clear ho0); (try clear ho1)))
     go_ret2
     exact ⟨_, by first | rfl | (simp [errW_none, errW_some] <;> rfl) | (simp [*, errW_none, errW_some] <;> rfl), by first | exact Kd.R_nil _ _ _ _ _ | exact Kd.N_nil _ _ _ _ _ | exact Kd.V_nil _ _ _ _ _ | exact Kd.Q_nil _ _ _ _ _ | exact Kd.S_nil _ _ _ _ _, bB⟩
def laws_sameOps.l0 : Nat → List (S60) → List (S60) → Int → Int → Option (Bool)
 | 0, _, _, _, _ => none
 | k + 1, x0, x1, x12, x13 => if x13 < x12 then (if 0 ≤ x13 then (if x13 < (x0.length : Int) then (if x13 < (x1.length : Int) then (if (!(((rd_T60 x0 x13).f0) == ((rd_T60 x1 x13).f0)) || (!((((rd_T60 x0 x13).f1).toList) == (((rd_T60 x1 x13).f1).toList)) || (!((((rd_T60 x0 x13).f2).toList) == (((rd_T60 x1 x13).f2).toList))))) = true then (some false) else (laws_sameOps.l0 k x0 x1 x12 (wrap64 (x13 + 1)))) else (none)) else (none)) else (none)) else (some true)
def laws_sameOps.f (k : Nat) (l0 : List (S60)) (l1 : List (S60)) : Option (Bool) := if (l0.length : Int) = (l1.length : Int) then (laws_sameOps.l0 k l0 l1 (l0.length : Int) 0) else (some false)
theorem laws_sameOps.mono_l : ∀ k, (∀ y0 y1 y2 y3, LeO (laws_sameOps.l0 k y0 y1 y2 y3) (laws_sameOps.l0 (k + 1) y0 y1 y2 y3))
 | 0 => fun _ _ _ _ r h => by simp [laws_sameOps.l0] at h
 | k + 1 => by
  have ih0 := laws_sameOps.mono_l k
  ·intro y0 y1 y2 y3
   unfold laws_sameOps.l0
   repeat' (with_reducible first | exact ih0 _ _ _ _ | exact LeO.refl _ | exact LeO.none _ | refine LeO.ite ?_ ?_ | refine LeO.bind ?_ (fun _ => ?_))
theorem laws_sameOps.mono : ∀ a0 a1 k, LeO (laws_sameOps.f k a0 a1) (laws_sameOps.f (k + 1) a0 a1) := by
 intro a0 a1 k
 have ih0 := laws_sameOps.mono_l k
 unfold laws_sameOps.f
 repeat' (with_reducible first | exact ih0 _ _ _ _ | exact LeO.refl _ | exact LeO.none _ | refine LeO.ite ?_ ?_ | refine LeO.bind ?_ (fun _ => ?_))
set_option maxHeartbeats 8000000 in
set_option maxRecDepth 100000 in
theorem laws_sameOps.calls (k : Nat) (A0 : Option Addr) (c0 : Nat) (l0 : List (S60)) (A1 : Option Addr) (c1 : Nat) (l1 : List (S60)) (r : Bool) (w : World) (hr0 : Kd.C k60 w A0 l0.length l0) (hc0 : l0.length ≤ c0) (hr1 : Kd.C k60 w A1 l1.length l1) (hc1 : l1.length ≤ c1) (h : laws_sameOps.f k l0 l1 = some r) :
  Calls Try.prog 27 #[.slice A0 l0.length c0, .slice A1 l1.length c1] w fun e w' => e = .returned (.bool r) ∧ Drawn0 w w' := by
 have hu60 := Try.underlying60
 have HR0 := aM hr0
 have HC0 := aM hc0
 clear hr0 hc0
 have HR1 := aM hr1
 have HC1 := aM hc1
 clear hr1 hc1
 have H : (if (l0.length : Int) = (l1.length : Int) then (laws_sameOps.l0 k l0 l1 (l0.length : Int) 0) else (some false)) = some r := h
 clear h
 by_cases c3 : (l0.length : Int) = (l1.length : Int)
 rotate_left
 ·rw [if_neg c3] at H
  have c3b0 : ((l0.length : Int) == (l1.length : Int)) = false := beq_eq_false_iff_ne.mpr c3
  have c3b1 : ((l0.length : Int) != (l1.length : Int)) = true := bne_iff_ne.mpr c3
  have c3b2 : (l0.length == l1.length) = false := by first | simpa using c3 | (simp at c3 ⊢; omega)
  obtain rfl := Option.some.inj H
  go_enter Try.func27, Try.ntmps27
  go_wp2
  repeat (go_quiet (fail); try go_wp2)
  go_ret
  exact ⟨by first | rfl | (simp; done) | (simp [*]; done), by repeat (first | exact Drawn0.refl _ | apply Drawn0.step)⟩
 rw [if_pos c3] at H
 have c3b0 : ((l0.length : Int) == (l1.length : Int)) = true := beq_iff_eq.mpr c3
 have c3b1 : ((l0.length : Int) != (l1.length : Int)) = false := bne_eq_false_iff_eq.mpr c3
 have c3b2 : (l0.length == l1.length) = true := by first | simpa using c3 | (simp at c3 ⊢; omega)
 clear c3
 have H' := aM H
 clear H
 go_enter Try.func27, Try.ntmps27
 go_wp2
 repeat (go_quiet (fail); try go_wp2)
 go_loopg [13] k (fun kq v13 w' => ∃ (x13_1 : Int), v13 = .int .i64 x13_1 ∧ Aside0 (laws_sameOps.l0 kq l0 l1 (l0.length : Int) x13_1 = some r) ∧ Aside0 (kq ≤ k) ∧ Drawn0 w w')
 case atStart => exact ⟨(0), aP16, H', ⟨Nat.le_refl _⟩, by repeat (first | exact Drawn0.refl _ | apply Drawn0.step)⟩
 case round =>
  clear H'
  try clear c1
  try clear c2
  try clear p2
  try clear c3
  try clear c3b0
  try clear c3b1
  try clear c3b2
  obtain ⟨x13_1, rfl, HA, HK1, ⟨m1, rfl⟩⟩ := hrel
  cases gk with
  | zero => exact absurd HA.out (by simp [laws_sameOps.l0])
  | succ k1 =>
   have H := HA.out
   clear HA
   simp only [laws_sameOps.l0] at H
   by_cases c4 : x13_1 < (l0.length : Int)
   rotate_left
   ·rw [if_neg c4] at H
    have c4b0 : decide (x13_1 < (l0.length : Int)) = false := decide_eq_false c4
    clear c4
    obtain rfl := Option.some.inj H
    go_wp2
    repeat (go_quiet (fail); try go_wp2)
    go_ret
    exact ⟨by first | rfl | (simp; done) | (simp [*]; done), by repeat (first | exact Drawn0.refl _ | apply Drawn0.step)⟩
   rw [if_pos c4] at H
   have c4b0 : decide (x13_1 < (l0.length : Int)) = true := decide_eq_true c4
   clear c4
   by_cases c5 : 0 ≤ x13_1
   rotate_left
   ·rw [if_neg c5] at H
    exact absurd H (by simp)
   rw [if_pos c5] at H
   have c5b0 : decide (0 ≤ x13_1) = true := decide_eq_true c5
   clear c5
   by_cases c6 : x13_1 < (l0.length : Int)
   rotate_left
   ·rw [if_neg c6] at H
    exact absurd H (by simp)
   rw [if_pos c6] at H
   have c6b0 : decide (x13_1 < (l0.length : Int)) = true := decide_eq_true c6
   clear c6
   by_cases c7 : x13_1 < (l1.length : Int)
   rotate_left
   ·rw [if_neg c7] at H
    exact absurd H (by simp)
   rw [if_pos c7] at H
   have c7b0 : decide (x13_1 < (l1.length : Int)) = true := decide_eq_true c7
   clear c7
   by_cases c8 : (!(((rd_T60 l0 x13_1).f0) == ((rd_T60 l1 x13_1).f0)) || (!((((rd_T60 l0 x13_1).f1).toList) == (((rd_T60 l1 x13_1).f1).toList)) || (!((((rd_T60 l0 x13_1).f2).toList) == (((rd_T60 l1 x13_1).f2).toList))))) = true
   ·rw [if_pos c8] at H
    have c8b0 : (!(((rd_T60 l0 x13_1).f0) == ((rd_T60 l1 x13_1).f0)) || (!((((rd_T60 l0 x13_1).f1).toList) == (((rd_T60 l1 x13_1).f1).toList)) || (!((((rd_T60 l0 x13_1).f2).toList) == (((rd_T60 l1 x13_1).f2).toList))))) = true := c8
    clear c8
    obtain rfl := Option.some.inj H
    have p233 : 0 ≤ (x13_1 : Int) := of_decide_eq_true (by assumption)
    have q233 : x13_1 < (l0.length : Int) := of_decide_eq_true (by assumption)
    obtain ⟨ad233, e233, hx233_0, hx233_1, hx233_2⟩ := at_T60 HR0.out x13_1 p233 q233
    cases e233
    replace p233 := eq_true p233
    replace q233 := eq_true q233
    have p234 : 0 ≤ (x13_1 : Int) := of_decide_eq_true (by assumption)
    have q234 : x13_1 < (l1.length : Int) := of_decide_eq_true (by assumption)
    obtain ⟨ad234, e234, hx234_0, hx234_1, hx234_2⟩ := at_T60 HR1.out x13_1 p234 q234
    cases e234
    replace p234 := eq_true p234
    replace q234 := eq_true q234
    go_wp2
    repeat (go_quiet (fail); try go_wp2)
    go_ret
    exact ⟨by first | rfl | (simp; done) | (simp [*]; done), by repeat (first | exact Drawn0.refl _ | apply Drawn0.step)⟩
   rw [if_neg c8] at H
   have c8b0 : (!(((rd_T60 l0 x13_1).f0) == ((rd_T60 l1 x13_1).f0)) || (!((((rd_T60 l0 x13_1).f1).toList) == (((rd_T60 l1 x13_1).f1).toList)) || (!((((rd_T60 l0 x13_1).f2).toList) == (((rd_T60 l1 x13_1).f2).toList))))) = false := by simpa using c8
   clear c8
   have H' := aM H
   clear H
   have p233 : 0 ≤ (x13_1 : Int) := of_decide_eq_true (by assumption)
   have q233 : x13_1 < (l0.length : Int) := of_decide_eq_true (by assumption)
   obtain ⟨ad233, e233, hx233_0, hx233_1, hx233_2⟩ := at_T60 HR0.out x13_1 p233 q233
   cases e233
   replace p233 := eq_true p233
   replace q233 := eq_true q233
   have p234 : 0 ≤ (x13_1 : Int) := of_decide_eq_true (by assumption)
   have q234 : x13_1 < (l1.length : Int) := of_decide_eq_true (by assumption)
   obtain ⟨ad234, e234, hx234_0, hx234_1, hx234_2⟩ := at_T60 HR1.out x13_1 p234 q234
   cases e234
   replace p234 := eq_true p234
   replace q234 := eq_true q234
   go_wp2
   repeat (go_quiet (fail); try go_wp2)
   go_roundg k1
   case measure => have := HK1.out; omega
   case rel => exact ⟨(wrap64 (x13_1 + 1)), aP16, H', ⟨by have := HK1.out; omega⟩, by repeat (first | exact Drawn0.refl _ | apply Drawn0.step)⟩
def IsS82 (w0 W : World) (g : Nat) (f0 : List Int) (f1 : Int) (f2 : Int) : Prop := ∃ A0 c0, W.heap[g]? = some (.cells #[.slice A0 f0.length c0, .int .i64 f1, .int .u64 f2] 82 (0, 0)) ∧ w0.heap.size ≤ g ∧ Kd.C (Kd.int .u8) w0 A0 f0.length f0
theorem IsS82.grown {w0 W : World} {g : Nat} {f0 : List Int} {f1 : Int} {f2 : Int} {W1 : World} {row : Option Nat} (h : IsS82 w0 W g f0 f1 f2) (hw : W.grownBy W1 row) (hne : some g ≠ row) : IsS82 w0 W1 g f0 f1 f2 := by
 obtain ⟨A0, c0, hb, hg, hr0⟩ := h
 exact ⟨A0, c0, blk_grown hb hw hne, hg, hr0⟩
theorem IsS82.own_neN {w0 W : World} {g : Nat} {f0 : List Int} {f1 : Int} {f2 : Int} {α : Type} {d : Kd α} {e : Nat} {base : Nat} {ok : Nat → Prop} {v : Value} {xs : List α} (h : IsS82 w0 W g f0 f1 f2) (ho : Kd.N d e W base ok v xs) (ht : e ≠ 82) : some g ≠ v.ownBlock := by
 obtain ⟨A0, c0, hb, hg, hr0⟩ := h
 exact Kd.N_ne ho hb ht
theorem IsS82.fresh {w0 W : World} {g : Nat} {f0 : List Int} {f1 : Int} {f2 : Int} (h : IsS82 w0 W g f0 f1 f2) : ∀ k, W.heap.size ≤ k → k ≠ g := by
 obtain ⟨A0, c0, hb, hg, hr0⟩ := h
 exact Kd.freshB hb
theorem IsS82.kept {w0 W : World} {g : Nat} {f0 : List Int} {f1 : Int} {f2 : Int} {W1 : World} {S : Nat → Prop} (h : IsS82 w0 W g f0 f1 f2) (hk : Kept W W1 S) (hne : ¬ S g) : IsS82 w0 W1 g f0 f1 f2 := by
 obtain ⟨A0, c0, hb, hg, hr0⟩ := h
 exact ⟨A0, c0, blk_kept hb hk hne, hg, hr0⟩
theorem IsS82.below {w0 W : World} {g : Nat} {f0 : List Int} {f1 : Int} {f2 : Int} {W1 : World} (h : IsS82 w0 W g f0 f1 f2) (hw : Below W.heap.size W W1) : IsS82 w0 W1 g f0 f1 f2 := h.grown (grown_of_below hw none) (by simp)
theorem IsS82.alloc {w0 W : World} {g : Nat} {f0 : List Int} {f1 : Int} {f2 : Int} (h : IsS82 w0 W g f0 f1 f2) (o : Obj) : IsS82 w0 (W.alloc o) g f0 f1 f2 := h.below (below_alloc (Below.refl _ _) o)
theorem IsS82.drewN {w0 W : World} {g : Nat} {f0 : List Int} {f1 : Int} {f2 : Int} (h : IsS82 w0 W g f0 f1 f2) (m : Nat) : IsS82 w0 (W.drewN m) g f0 f1 f2 := h
theorem IsS82.drew {w0 W : World} {g : Nat} {f0 : List Int} {f1 : Int} {f2 : Int} (h : IsS82 w0 W g f0 f1 f2) : IsS82 w0 W.drew g f0 f1 f2 := h
theorem IsS82.at_ {w0 W : World} {g : Nat} {f0 : List Int} {f1 : Int} {f2 : Int} {w' : World} {m : Nat} (hq : W.drewN m = w') (h : IsS82 w0 W g f0 f1 f2) : IsS82 w0 w' g f0 f1 f2 := by subst hq; exact IsS82.drewN h m
theorem IsS82.apart {w0 W : World} {g : Nat} {f0 : List Int} {f1 : Int} {f2 : Int} {α : Type} {d : Kd α} {e : Nat} {base : Nat} {ok : Nat → Prop} {v : Value} {xs : List α} (h : IsS82 w0 W g f0 f1 f2) (ho : d.R e W base ok v xs) (ht : ∀ q, q ∈ e :: d.E → q ≠ 82) : d.R e W base (fun k => ok k ∧ k ≠ g) v xs := by
 obtain ⟨A0, c0, hb, hg, hr0⟩ := h
 exact Kd.R_types ho hb ht
theorem IsS82.own_ne {w0 W : World} {g : Nat} {f0 : List Int} {f1 : Int} {f2 : Int} {α : Type} {d : Kd α} {e : Nat} {base : Nat} {ok : Nat → Prop} {v : Value} {xs : List α} (h : IsS82 w0 W g f0 f1 f2) (ho : d.R e W base ok v xs) (ht : e ≠ 82) : some g ≠ v.ownBlock := by
 obtain ⟨A0, c0, hb, hg, hr0⟩ := h
 exact Kd.R_ne ho hb ht
theorem IsS82.apartQ {w0 W : World} {g : Nat} {f0 : List Int} {f1 : Int} {f2 : Int} {α : Type} {d : Kd α} {e : Nat} {base : Nat} {ok : Nat → Prop} {v : Value} {xs : List α} (h : IsS82 w0 W g f0 f1 f2) (ho : d.Q e W base ok v xs) (ht : ∀ q, q ∈ e :: d.E → q ≠ 82) : d.Q e W base (fun k => ok k ∧ k ≠ g) v xs := by
 obtain ⟨A0, c0, hb, hg, hr0⟩ := h
 exact Kd.Q_types ho hb ht
theorem IsS82.own_neQ {w0 W : World} {g : Nat} {f0 : List Int} {f1 : Int} {f2 : Int} {α : Type} {d : Kd α} {e : Nat} {base : Nat} {ok : Nat → Prop} {v : Value} {xs : List α} (h : IsS82 w0 W g f0 f1 f2) (ho : d.Q e W base ok v xs) (ht : e ≠ 82) : some g ≠ v.ownBlock := by
 obtain ⟨A0, c0, hb, hg, hr0⟩ := h
 exact Kd.Q_ne ho hb ht
theorem IsS82.apartS {w0 W : World} {g : Nat} {f0 : List Int} {f1 : Int} {f2 : Int} {α : Type} {d : Kd α} {e : Nat} {base : Nat} {ok : Nat → Prop} {v : Value} {xs : List α} (h : IsS82 w0 W g f0 f1 f2) (ho : d.S e W base ok v xs) (ht : ∀ q, q ∈ e :: d.E → q ≠ 82) : d.S e W base (fun k => ok k ∧ k ≠ g) v xs := by
 obtain ⟨A0, c0, hb, hg, hr0⟩ := h
 exact Kd.S_types ho hb ht
theorem IsS82.own_neS {w0 W : World} {g : Nat} {f0 : List Int} {f1 : Int} {f2 : Int} {α : Type} {d : Kd α} {e : Nat} {base : Nat} {ok : Nat → Prop} {v : Value} {xs : List α} (h : IsS82 w0 W g f0 f1 f2) (ho : d.S e W base ok v xs) (ht : e ≠ 82) : some g ≠ v.ownBlock := by
 obtain ⟨A0, c0, hb, hg, hr0⟩ := h
 exact Kd.S_ne ho hb ht
theorem IsS82.lt {w0 W : World} {g : Nat} {f0 : List Int} {f1 : Int} {f2 : Int} (h : IsS82 w0 W g f0 f1 f2) : g < W.heap.size := by
 obtain ⟨A0, c0, hb, hg, hr0⟩ := h
 exact blk_lt hb
theorem IsS82.ge {w0 W : World} {g : Nat} {f0 : List Int} {f1 : Int} {f2 : Int} (h : IsS82 w0 W g f0 f1 f2) : w0.heap.size ≤ g := by
 obtain ⟨A0, c0, hb, hg, hr0⟩ := h
 exact hg
theorem IsS82.ne_blk {w0 W : World} {g : Nat} {f0 : List Int} {f1 : Int} {f2 : Int} {a : Nat} {cs : Array Value} {t : TypeId} {fr : Nat × Nat} (h : IsS82 w0 W g f0 f1 f2) (hb2 : W.heap[a]? = some (.cells cs t fr)) (ht : t ≠ 82) : g ≠ a := by
 obtain ⟨A0, c0, hb, hg, hr0⟩ := h
 rintro rfl
 rw [hb] at hb2
 injection hb2 with hb2
 injection hb2 with _ ht2
 exact ht ht2.symm
theorem IsS82.far {w0 W : World} {g : Nat} {f0 : List Int} {f1 : Int} {f2 : Int} {p : Addr} (h : IsS82 w0 W g f0 f1 f2) (hne : g ≠ p.block) (u : Value) : IsS82 w0 (W.setCell p u) g f0 f1 f2 := by
 obtain ⟨A0, c0, hb, hg, hr0⟩ := h
 exact ⟨A0, c0, blk_far hb hne u, hg, hr0⟩
theorem cellS82_0 {W : World} {g : Nat} {A0 : Option Addr} {c0 : Nat} {f0 : List Int} {f1 : Int} {f2 : Int} (h : W.heap[g]? = some (.cells #[.slice A0 f0.length c0, .int .i64 f1, .int .u64 f2] 82 (0, 0))) : W.cell? ⟨g, 0, none⟩ = some (.slice A0 f0.length c0) := (blk_cell h 0).trans rfl
theorem cellS82_1 {W : World} {g : Nat} {A0 : Option Addr} {c0 : Nat} {f0 : List Int} {f1 : Int} {f2 : Int} (h : W.heap[g]? = some (.cells #[.slice A0 f0.length c0, .int .i64 f1, .int .u64 f2] 82 (0, 0))) : W.cell? ⟨g, 1, none⟩ = some (.int .i64 f1) := (blk_cell h 1).trans rfl
theorem IsS82.set_1 {w0 W : World} {g : Nat} {f0 : List Int} {f1 : Int} {f2 : Int} (h : IsS82 w0 W g f0 f1 f2) (x : Int) : IsS82 w0 (W.setCell ⟨g, 1, none⟩ (.int .i64 x)) g f0 x f2 := by
 obtain ⟨A0, c0, hb, hg, hr0⟩ := h
 exact ⟨A0, c0, by simpa using blk_set hb 1 (.int .i64 x), hg, hr0⟩
theorem cellS82_2 {W : World} {g : Nat} {A0 : Option Addr} {c0 : Nat} {f0 : List Int} {f1 : Int} {f2 : Int} (h : W.heap[g]? = some (.cells #[.slice A0 f0.length c0, .int .i64 f1, .int .u64 f2] 82 (0, 0))) : W.cell? ⟨g, 2, none⟩ = some (.int .u64 f2) := (blk_cell h 2).trans rfl
theorem IsS82.set_2 {w0 W : World} {g : Nat} {f0 : List Int} {f1 : Int} {f2 : Int} (h : IsS82 w0 W g f0 f1 f2) (x : Int) : IsS82 w0 (W.setCell ⟨g, 2, none⟩ (.int .u64 x)) g f0 f1 x := by
 obtain ⟨A0, c0, hb, hg, hr0⟩ := h
 exact ⟨A0, c0, by simpa using blk_set hb 2 (.int .u64 x), hg, hr0⟩
theorem IsS82.new (w0 W : World) (A0 : Option Addr) (c0 : Nat) (f0 : List Int) (f1 : Int) (f2 : Int) (hB : Below w0.heap.size w0 W) (hr0 : Kd.C (Kd.int .u8) w0 A0 f0.length f0) : IsS82 w0 (W.alloc (.cells #[.slice A0 f0.length c0, .int .i64 f1, .int .u64 f2] 82)) W.heap.size f0 f1 f2 := ⟨A0, c0, by simpa using heap_alloc_new W _, hB.size, hr0⟩
def spec_l1Cur_next.f (s0_0 : List Int) (s0_1 : Int) (s0_2 : Int) : Option (Int × Int × Int) := if s0_1 < (s0_0.length : Int) then (if 0 ≤ s0_1 then (if (wrap64 (s0_1 + 1)) ≤ (s0_0.length : Int) then (some (wrap64 (rd s0_0 s0_1), wrap64 (s0_1 + 1), IntKind.u64.wrap ((IntKind.u64.wrap ((IntKind.u64.wrap (s0_2 * 6364136223846793005)) + (IntKind.u64.wrap (wrap64 (rd s0_0 s0_1))))) + 1442695040888963407))) else (some (wrap64 (Go.bits .and .u64 ((IntKind.u64.wrap ((IntKind.u64.wrap ((IntKind.u64.wrap (s0_2 * 6364136223846793005)) + (IntKind.u64.wrap (wrap64 (rd s0_0 s0_1))))) + 1442695040888963407)) / 1099511627776) 255), wrap64 (s0_1 + 1), IntKind.u64.wrap ((IntKind.u64.wrap ((IntKind.u64.wrap (s0_2 * 6364136223846793005)) + (IntKind.u64.wrap (wrap64 (rd s0_0 s0_1))))) + 1442695040888963407)))) else (none)) else (if (wrap64 (s0_1 + 1)) ≤ (s0_0.length : Int) then (some (0, wrap64 (s0_1 + 1), IntKind.u64.wrap ((IntKind.u64.wrap ((IntKind.u64.wrap (s0_2 * 6364136223846793005)) + 0)) + 1442695040888963407))) else (some (wrap64 (Go.bits .and .u64 ((IntKind.u64.wrap ((IntKind.u64.wrap ((IntKind.u64.wrap (s0_2 * 6364136223846793005)) + 0)) + 1442695040888963407)) / 1099511627776) 255), wrap64 (s0_1 + 1), IntKind.u64.wrap ((IntKind.u64.wrap ((IntKind.u64.wrap (s0_2 * 6364136223846793005)) + 0)) + 1442695040888963407))))
set_option maxHeartbeats 8000000 in
set_option maxRecDepth 100000 in
theorem spec_l1Cur_next.calls (g : Nat) (s0_0 : List Int) (s0_1 : Int) (s0_2 : Int) (r1 : Int) (r2 : Int) (r3 : Int) (w0 w : World) (hI : IsS82 w0 w g s0_0 s0_1 s0_2) (hB : Below w0.heap.size w0 w) (h : spec_l1Cur_next.f s0_0 s0_1 s0_2 = some (r1, r2, r3)) :
  Calls Try.prog 81 #[.pointer (some ⟨g, 0, none⟩)] w fun e w' => e = .returned (.int .i64 r1) ∧ IsS82 w0 w' g s0_0 r2 r3 ∧ Below w0.heap.size w0 w' ∧ KeepBut w w' g none := by
 have HI0 := aM hI
 have HK := aM (KeepBut.refl w g none)
 have HL := aM hB.size
 clear hI
 have HW0 := aM hB.size
 have HB := aM hB
 clear hB
 have H : (if s0_1 < (s0_0.length : Int) then (if 0 ≤ s0_1 then (if (wrap64 (s0_1 + 1)) ≤ (s0_0.length : Int) then (some (wrap64 (rd s0_0 s0_1), wrap64 (s0_1 + 1), IntKind.u64.wrap ((IntKind.u64.wrap ((IntKind.u64.wrap (s0_2 * 6364136223846793005)) + (IntKind.u64.wrap (wrap64 (rd s0_0 s0_1))))) + 1442695040888963407))) else (some (wrap64 (Go.bits .and .u64 ((IntKind.u64.wrap ((IntKind.u64.wrap ((IntKind.u64.wrap (s0_2 * 6364136223846793005)) + (IntKind.u64.wrap (wrap64 (rd s0_0 s0_1))))) + 1442695040888963407)) / 1099511627776) 255), wrap64 (s0_1 + 1), IntKind.u64.wrap ((IntKind.u64.wrap ((IntKind.u64.wrap (s0_2 * 6364136223846793005)) + (IntKind.u64.wrap (wrap64 (rd s0_0 s0_1))))) + 1442695040888963407)))) else (none)) else (if (wrap64 (s0_1 + 1)) ≤ (s0_0.length : Int) then (some (0, wrap64 (s0_1 + 1), IntKind.u64.wrap ((IntKind.u64.wrap ((IntKind.u64.wrap (s0_2 * 6364136223846793005)) + 0)) + 1442695040888963407))) else (some (wrap64 (Go.bits .and .u64 ((IntKind.u64.wrap ((IntKind.u64.wrap ((IntKind.u64.wrap (s0_2 * 6364136223846793005)) + 0)) + 1442695040888963407)) / 1099511627776) 255), wrap64 (s0_1 + 1), IntKind.u64.wrap ((IntKind.u64.wrap ((IntKind.u64.wrap (s0_2 * 6364136223846793005)) + 0)) + 1442695040888963407))))) = some (r1, r2, r3) := h
 clear h
 by_cases c2 : s0_1 < (s0_0.length : Int)
 rotate_left
 ·rw [if_neg c2] at H
  have c2b0 : decide (s0_1 < (s0_0.length : Int)) = false := decide_eq_false c2
  clear c2
  by_cases c7 : (wrap64 (s0_1 + 1)) ≤ (s0_0.length : Int)
  ·rw [if_pos c7] at H
   have c7b0 : decide ((wrap64 (s0_1 + 1)) ≤ (s0_0.length : Int)) = true := decide_eq_true c7
   clear c7
   simp only [Option.some.injEq, Prod.mk.injEq] at H
   obtain ⟨rfl, rfl, rfl⟩ := H
   obtain ⟨ASz8_0, cSz8_0, HGz8, hgz8, HSz8_0⟩ := HI0.out
   have hcz8_0 := cellS82_0 HGz8
   have hcz8_1 := cellS82_1 HGz8
   have hcz8_2 := cellS82_2 HGz8
   have hfz8_1 := blk_frozen HGz8 1
   have hfz8_2 := blk_frozen HGz8 2
   clear HGz8 hgz8
   go_enter Try.func81, Try.ntmps81
   go_wp2
   repeat (go_quiet (fail); try go_wp2)
   go_ret
   exact ⟨eR, by (try simp only [Int.add_zero]); exact aP0, by exact aP2, aP1⟩
  rw [if_neg c7] at H
  have c7b0 : decide ((wrap64 (s0_1 + 1)) ≤ (s0_0.length : Int)) = false := decide_eq_false c7
  clear c7
  simp only [Option.some.injEq, Prod.mk.injEq] at H
  obtain ⟨rfl, rfl, rfl⟩ := H
  obtain ⟨ASz9_0, cSz9_0, HGz9, hgz9, HSz9_0⟩ := HI0.out
  have hcz9_0 := cellS82_0 HGz9
  have hcz9_1 := cellS82_1 HGz9
  have hcz9_2 := cellS82_2 HGz9
  have hfz9_1 := blk_frozen HGz9 1
  have hfz9_2 := blk_frozen HGz9 2
  clear HGz9 hgz9
  go_enter Try.func81, Try.ntmps81
  go_wp2
  repeat (go_quiet (fail); try go_wp2)
  go_ret
  exact ⟨eR, by (try simp only [Int.add_zero]); exact aP0, by exact aP2, aP1⟩
 rw [if_pos c2] at H
 have c2b0 : decide (s0_1 < (s0_0.length : Int)) = true := decide_eq_true c2
 clear c2
 by_cases c3 : 0 ≤ s0_1
 rotate_left
 ·rw [if_neg c3] at H
  exact absurd H (by simp)
 rw [if_pos c3] at H
 have c3b0 : decide (0 ≤ s0_1) = true := decide_eq_true c3
 clear c3
 by_cases c4 : (wrap64 (s0_1 + 1)) ≤ (s0_0.length : Int)
 ·rw [if_pos c4] at H
  have c4b0 : decide ((wrap64 (s0_1 + 1)) ≤ (s0_0.length : Int)) = true := decide_eq_true c4
  clear c4
  simp only [Option.some.injEq, Prod.mk.injEq] at H
  obtain ⟨rfl, rfl, rfl⟩ := H
  obtain ⟨ASz5_0, cSz5_0, HGz5, hgz5, HSz5_0⟩ := HI0.out
  have hcz5_0 := cellS82_0 HGz5
  have hcz5_1 := cellS82_1 HGz5
  have hcz5_2 := cellS82_2 HGz5
  have hfz5_1 := blk_frozen HGz5 1
  have hfz5_2 := blk_frozen HGz5 2
  clear HGz5 hgz5
  have p235 : 0 ≤ (s0_1 : Int) := of_decide_eq_true (by assumption)
  have q235 : s0_1 < (s0_0.length : Int) := of_decide_eq_true (by assumption)
  obtain ⟨ad235, e235, hx235_0⟩ := Kd.at_int HSz5_0 s0_1 p235 q235
  cases e235
  replace hx235_0 := pw_cell_below HB.out hx235_0
  replace p235 := eq_true p235
  replace q235 := eq_true q235
  go_enter Try.func81, Try.ntmps81
  go_wp2
  repeat (go_quiet (fail); try go_wp2)
  go_ret
  exact ⟨eR, by (try simp only [Int.add_zero]); exact aP0, by exact aP2, aP1⟩
 rw [if_neg c4] at H
 have c4b0 : decide ((wrap64 (s0_1 + 1)) ≤ (s0_0.length : Int)) = false := decide_eq_false c4
 clear c4
 simp only [Option.some.injEq, Prod.mk.injEq] at H
 obtain ⟨rfl, rfl, rfl⟩ := H
 obtain ⟨ASz6_0, cSz6_0, HGz6, hgz6, HSz6_0⟩ := HI0.out
 have hcz6_0 := cellS82_0 HGz6
 have hcz6_1 := cellS82_1 HGz6
 have hcz6_2 := cellS82_2 HGz6
 have hfz6_1 := blk_frozen HGz6 1
 have hfz6_2 := blk_frozen HGz6 2
 clear HGz6 hgz6
 have p235 : 0 ≤ (s0_1 : Int) := of_decide_eq_true (by assumption)
 have q235 : s0_1 < (s0_0.length : Int) := of_decide_eq_true (by assumption)
 obtain ⟨ad235, e235, hx235_0⟩ := Kd.at_int HSz6_0 s0_1 p235 q235
 cases e235
 replace hx235_0 := pw_cell_below HB.out hx235_0
 replace p235 := eq_true p235
 replace q235 := eq_true q235
 go_enter Try.func81, Try.ntmps81
 go_wp2
 repeat (go_quiet (fail); try go_wp2)
 go_ret
 exact ⟨eR, by (try simp only [Int.add_zero]); exact aP0, by exact aP2, aP1⟩
end Go.Proofs.Ytoagljlnfakgjaa.PFnOver
