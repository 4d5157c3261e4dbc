/- (thin) Written by a program of this session (wip/ovl.py) over the kit's print: plain functions with the answers of the Go functions, and the proofs that they are; no condition. -/
import Derived.Test.YtoagljlnfakgjaaMk
import Derived.Test.YtoagljlnfakgjaaPFnExactTransformOverx0
import Derived.Test.YtoagljlnfakgjaaPFnExactTransformOverx1
import Derived.Test.YtoagljlnfakgjaaPFnExactTransformOverx2
import Derived.Test.YtoagljlnfakgjaaPFnExactTransformOverx9
import Derived.Test.YtoagljlnfakgjaaPFnExactTransformOverx12
namespace Go.Proofs.Ytoagljlnfakgjaa.PFnExactTransformOver
open Go.RowKit Go.Proofs.YtoagljlnfakgjaaW.PrintWords Go.Proofs.YtoagljlnfakgjaaW.PrintLast Go.Proofs.YtoagljlnfakgjaaW.PrintMore
attribute [local go_sem] max2_int min2_int max_two min_two max_three min_three max_four min_four   -- for this text's walks alone
set_option linter.unusedVariables false
set_option linter.unusedSimpArgs false
-- import Mk
-- fn: slices.Clone[[]loop.example/g00253/impl.Part,loop.example/g00253/impl.Part]
set_option maxHeartbeats 4000000 in
set_option maxRecDepth 100000 in
theorem clone_part (w : World) (A : Addr) (c : Nat) (l : List S60) (hr : Kd.C k60 w (some A) l.length l) (hlen : l.length ≤ 1000000) :
  Calls Try.prog 54 #[.slice (some A) l.length c] w fun e w' => ∃ v : Value, e = .returned v ∧ Kd.R k60 60 w' w.heap.size (fun k => w.heap.size ≤ k) v l ∧ Below w.heap.size w w' := by
 have hu53 := Try.underlying60
 have hu22 := Try.underlying26
 have HR := aM hr
 have HLN := aM hlen
 clear hr hlen
 have eqn : (Go.binOp .eql 26 (.slice (some A) l.length c) (.slice none 0 0)).run Try.prog w = .ok (.bool false) w := Go.Lib.run_eql_slice_nil w 26 60 (some A) l.length c 0 0 hu22
 go_enter Try.func54, Try.ntmps54
 go_wp2_with (first | ((with_reducible refine gate_dst (N := 5) rfl ?_); refine Kd.R_lit k60 (w0 := w) w.heap.size 60 ?hg (N := 5) ?hd (xs := ([] : List S60)) (inner := []) (ok := fun k => w.heap.size ≤ k) (okp := fun _ => False) ?hr ?hp (fun _ q => q.elim) (Nat.le_refl _) (Below.refl _ _) (Nat.le_refl _) (by simp) ?_; (case hd => rfl); (case hg => rfl); (case hr => exact aP20); (case hp => exact Reps.none _ _); intro vl u4 ho4 hb4 hg4_ hnew4_; clear hg4_ hnew4_; have HO4 := aM ho4; have HB4 := aM hb4; clear ho4 hb4) | ((with_reducible refine gate_dst (N := 7) rfl ?_); refine Kd.R_append_rows k60 (Rr := k60.K u4) (w0 := w) w.heap.size ?hg (.tmp 5) (.tmp 6) 26 60 (.agg #[.int .i64 0, .string ⟨#[]⟩, .string ⟨#[]⟩]) 40 ?ho Try.underlying26 Go.Proofs.Ytoagljlnfakgjaa.Mk.info53 rfl (show 0 < 3 by decide) (by decide) vl ([] : List S60) l (some A) l.length c (fun k => w.heap.size ≤ k) (fun _ => False) ?e1 ?e2 HO4.out ?hrow (fun x cs hx => by obtain rfl := k60_open hx; exact k60_mkM _ _ _ x) (fun _ q => q.elim) (fun k hk => Nat.le_trans HB4.out.size hk) HB4.out HB4.out.size ?hl ?_; (case hg => rfl); (case ho => rfl); (case e1 => rfl); (case e2 => rfl); (case hrow => exact Kd.C_foot_neS (S := fun _ => False) (fun h => h) HR.out (fun _ _ _ q => q) u4 (Kept.of_below HB4.out (fun _ => False))); (case hl => have := HLN.out; simp only [List.length_nil]; omega); intro v5 u5 ho5 hb5 hg5_ hat5_; clear hg5_ hat5_; have HO5 := aM ho5; have HB5 := aM hb5; clear ho5 hb5))
 go_ret
 exact ⟨v5, rfl, HO5.out, HB5.out⟩
theorem clone_partA (w : World) (A : Option Addr) (c : Nat) (l : List S60) (hr : Kd.C k60 w A l.length l) (hlen : l.length ≤ 1000000) :
  Calls Try.prog 54 #[.slice A l.length c] w fun e w' => ∃ v : Value, e = .returned v ∧ Kd.R k60 60 w' w.heap.size (fun k => w.heap.size ≤ k) v l ∧ Below w.heap.size w w' := by
 cases A with
 | some A => exact clone_part w A c l hr hlen
 | none =>
  have hl : l = [] := by
   cases l with
   | nil => rfl
   | cons p r =>
    obtain ⟨ad, e3, _, _, _⟩ := at_T60 hr 0 (Int.le_refl _) (by rw [List.length_cons]; omega)
    cases e3
  subst hl
  clear hr hlen
  have hu22 := Try.underlying26
  have eqn : (Go.binOp .eql 26 (.slice none 0 c) (.slice none 0 0)).run Try.prog w = .ok (.bool true) w := Go.Lib.run_eql_slice_nil w 26 60 none 0 c 0 0 hu22
  go_enter Try.func54, Try.ntmps54
  go_wp2_with fail
  go_ret
  exact ⟨_, rfl, Kd.R_nil _ _ _ _ _, Below.refl _ _⟩
def impl_Part_54.f (l0 : List S60) : Option (List S60) := if 1000000 < l0.length then none else some l0
theorem impl_Part_54.calls (A0 : Option Addr) (c0 : Nat) (l0 : List S60) (r : List S60) (w : World) (hr0 : Kd.C k60 w A0 l0.length l0) (hc0 : l0.length ≤ c0) (h : impl_Part_54.f l0 = some r) :
  Calls Try.prog 54 #[.slice A0 l0.length c0] w fun e w' => ∃ v0_ : Value, e = .returned (v0_) ∧ Kd.R k60 60 w' w.heap.size (fun _ => True) v0_ r ∧ Below w.heap.size w w' := by
 unfold impl_Part_54.f at h
 by_cases c : 1000000 < l0.length
 ·rw [if_pos c] at h; cases h
 rw [if_neg c] at h
 obtain rfl := Option.some.inj h
 refine (clone_partA w A0 c0 l0 hr0 (by omega)).mono ?_
 rintro e w' ⟨v, he, ho, hb⟩
 exact ⟨v, he, Kd.R_mono ho (fun _ _ => trivial), hb⟩
mutual
def impl_TransformOver.j0 : Nat → List (S60) → List (List (S60)) → Bool → Option ((List (S60)) × Bool)
 | 0, _, _, _ => none
 | k + 1, x0, x1, x16 => if x16 = true then (some (([] : List (S60)), false)) else ((impl_Part_54.f x0).bind fun t264 => (impl_TransformOver.l0 k t264 x1 (x1.length : Int) 0))
def impl_TransformOver.l0 : Nat → List (S60) → List (List (S60)) → Int → Int → Option ((List (S60)) × Bool)
 | 0, _, _, _, _ => none
 | k + 1, x0, x19, x20, x21 => if x21 < x20 then (if 0 ≤ x21 then (if x21 < (x19.length : Int) then ((impl_TransformOps.f k x0 (rd_L6 x19 x21)).bind fun bt268 => (if bt268.2.2 = true then (impl_TransformOver.l0 k bt268.1 x19 x20 (wrap64 (x21 + 1))) else (some (([] : List (S60)), false)))) else (none)) else (none)) else (some (x0, true))
end
def impl_TransformOver.f (k : Nat) (l0 : List (S60)) (l1 : List (List (S60))) : Option ((List (S60)) × Bool) := (impl_GoodOp.f k l0).bind fun t263 => (if t263 = true then (impl_TransformOver.j0 k l0 l1 (decide ((l1.length : Int) > 20))) else (impl_TransformOver.j0 k l0 l1 true))
theorem impl_TransformOver.mono_l : ∀ k, (∀ y0 y1 y2, LeO (impl_TransformOver.j0 k y0 y1 y2) (impl_TransformOver.j0 (k + 1) y0 y1 y2)) ∧ (∀ y0 y1 y2 y3, LeO (impl_TransformOver.l0 k y0 y1 y2 y3) (impl_TransformOver.l0 (k + 1) y0 y1 y2 y3))
 | 0 => ⟨fun _ _ _ r h => by simp [impl_TransformOver.j0] at h, fun _ _ _ _ r h => by simp [impl_TransformOver.l0] at h⟩
 | k + 1 => by
  obtain ⟨ih0, ih1⟩ := impl_TransformOver.mono_l k
  refine ⟨?_, ?_⟩
  ·intro y0 y1 y2
   unfold impl_TransformOver.j0
   repeat' (with_reducible first | exact ih0 _ _ _ | exact ih1 _ _ _ _ | exact impl_GoodOp.mono _ _ | exact impl_TransformOps.mono _ _ _ | exact LeO.refl _ | exact LeO.none _ | refine LeO.ite ?_ ?_ | refine LeO.bind ?_ (fun _ => ?_))
  ·intro y0 y1 y2 y3
   unfold impl_TransformOver.l0
   repeat' (with_reducible first | exact ih0 _ _ _ | exact ih1 _ _ _ _ | exact impl_GoodOp.mono _ _ | exact impl_TransformOps.mono _ _ _ | exact LeO.refl _ | exact LeO.none _ | refine LeO.ite ?_ ?_ | refine LeO.bind ?_ (fun _ => ?_))
theorem impl_TransformOver.mono : ∀ a0 a1 k, LeO (impl_TransformOver.f k a0 a1) (impl_TransformOver.f (k + 1) a0 a1) := by
 intro a0 a1 k
 obtain ⟨ih0, ih1⟩ := impl_TransformOver.mono_l k
 unfold impl_TransformOver.f
 repeat' (with_reducible first | exact ih0 _ _ _ | exact ih1 _ _ _ _ | exact impl_GoodOp.mono _ _ | exact impl_TransformOps.mono _ _ _ | exact LeO.refl _ | exact LeO.none _ | refine LeO.ite ?_ ?_ | refine LeO.bind ?_ (fun _ => ?_))
set_option maxHeartbeats 8000000 in
set_option maxRecDepth 100000 in
theorem impl_TransformOver.calls (k : Nat) (A0 : Option Addr) (c0 : Nat) (l0 : List (S60)) (A1 : Option Addr) (c1 : Nat) (l1 : List (List (S60))) (r1 : List (S60)) (r2 : Bool) (w : World) (hr0 : Kd.C k60 w A0 l0.length l0) (hc0 : l0.length ≤ c0) (hr1 : Kd.C (Kd.slice 60 k60) w A1 l1.length l1) (hc1 : l1.length ≤ c1) (h : impl_TransformOver.f k l0 l1 = some (r1, r2)) :
  Calls Try.prog 23 #[.slice A0 l0.length c0, .slice A1 l1.length c1] w fun e w' => ∃ v0_ : Value, e = .returned (.tuple #[v0_, .bool r2]) ∧ Kd.R k60 60 w' w.heap.size (fun _ => True) v0_ r1 ∧ Below w.heap.size w w' := by
 have HR0 := aM hr0
 have HC0 := aM hc0
 clear hr0 hc0
 have HR1 := aM hr1
 have HC1 := aM hc1
 clear hr1 hc1
 have HB := aM (Below.refl w.heap.size w)
 have H : ((impl_GoodOp.f k l0).bind fun t263 => (if t263 = true then (impl_TransformOver.j0 k l0 l1 (decide ((l1.length : Int) > 20))) else (impl_TransformOver.j0 k l0 l1 true))) = some (r1, r2) := h
 clear h
 have HC3 := aM H
 clear H
 go_enter Try.func23, Try.ntmps23
 go_upto_region 1 with (fail)
 go_cut [16] (fun v16 wc => ∃ (kq : Nat) (x16_2 : Bool), v16 = .bool x16_2 ∧ Aside0 (impl_TransformOver.j0 kq l0 l1 x16_2 = some (r1, r2)) ∧ Aside0 (kq ≤ k) ∧ Aside0 (Below w.heap.size w wc))
 case first =>
  have H := HC3.out
  clear HC3
  replace H := Option.bind_eq_some_iff.mp H
  obtain ⟨t263, A40, H⟩ := H
  replace H : (if t263 = true then (impl_TransformOver.j0 k l0 l1 (decide ((l1.length : Int) > 20))) else (impl_TransformOver.j0 k l0 l1 true)) = some (r1, r2) := H
  have A4 := aM A40
  clear A40
  by_cases c5 : t263 = true
  ·subst c5
   replace H : (impl_TransformOver.j0 k l0 l1 (decide ((l1.length : Int) > 20))) = some (r1, r2) := by rw [if_pos rfl] at H; exact H
   have H' := aM H
   clear H
   go_wp2_with (first | ((with_reducible refine gate_callee (f := 37) rfl ?_); refine goesL_ (some 10) rfl rfl Try.func37 (by kernel_rfl) rfl #[.slice A0 l0.length c0] rfl mM ?_; (with_reducible refine (impl_GoodOp.calls k _ _ l0 true _ ?side1 ?side2 A4.out).mono ?_); (case side1 => exact cC (Kd.C_below HR0.out HB.out)); (case side2 => exact HC0.out); rintro e w6 ⟨rfl, hb⟩; refine ⟨_, rfl, ?_⟩; replace HB := aM (below_step bB hb); (try clear hb); (try clear hb2); (try clear hk); (try clear hi)))
   go_meet
   case rel => exact ⟨_, (decide ((l1.length : Int) > 20)), aP17, H', ⟨by first | omega | exact Nat.le_refl _⟩, ⟨bB⟩⟩
  replace c5 := Bool.eq_false_iff.mpr c5
  subst c5
  replace H : (impl_TransformOver.j0 k l0 l1 true) = some (r1, r2) := by rw [if_neg (show ¬ (false = true) by decide)] at H; exact H
  have H' := aM H
  clear H
  go_wp2_with (first | ((with_reducible refine gate_callee (f := 37) rfl ?_); refine goesL_ (some 10) rfl rfl Try.func37 (by kernel_rfl) rfl #[.slice A0 l0.length c0] rfl mM ?_; (with_reducible refine (impl_GoodOp.calls k _ _ l0 false _ ?side1 ?side2 A4.out).mono ?_); (case side1 => exact cC (Kd.C_below HR0.out HB.out)); (case side2 => exact HC0.out); rintro e w7 ⟨rfl, hb⟩; refine ⟨_, rfl, ?_⟩; replace HB := aM (below_step bB hb); (try clear hb); (try clear hb2); (try clear hk); (try clear hi)))
  go_meet
  case rel => exact ⟨_, (true), aP17, H', ⟨by first | omega | exact Nat.le_refl _⟩, ⟨bB⟩⟩
 case rest =>
  clear HC3
  try clear c1
  try clear c2
  try clear p2
  try clear c3
  try clear c5
  obtain ⟨kq, x16_2, rfl, HA, HJ2, HB⟩ := hcut
  cases kq with
  | zero => exact absurd HA.out (by simp [impl_TransformOver.j0])
  | succ kj2 =>
   have H := HA.out
   clear HA
   simp only [impl_TransformOver.j0] at H
   by_cases c8 : x16_2 = true
   ·subst c8
    replace H : (some (([] : List (S60)), false)) = some (r1, r2) := by rw [if_pos rfl] at H; exact H
    simp only [Option.some.injEq, Prod.mk.injEq] at H
    obtain ⟨rfl, rfl⟩ := H
    go_wp2
    go_ret2
    exact ⟨_, by first | rfl | (simp [errW_none, errW_some] <;> rfl) | (simp [*, errW_none, errW_some] <;> rfl), by first | exact Kd.R_nil _ _ _ _ _ | exact Kd.N_nil _ _ _ _ _ | exact Kd.V_nil _ _ _ _ _ | exact Kd.Q_nil _ _ _ _ _ | exact Kd.S_nil _ _ _ _ _, bB⟩
   replace c8 := Bool.eq_false_iff.mpr c8
   subst c8
   replace H : ((impl_Part_54.f l0).bind fun t264 => (impl_TransformOver.l0 kj2 t264 l1 (l1.length : Int) 0)) = some (r1, r2) := by rw [if_neg (show ¬ (false = true) by decide)] at H; exact H
   replace H := Option.bind_eq_some_iff.mp H
   obtain ⟨t264, A90, H⟩ := H
   replace H : (impl_TransformOver.l0 kj2 t264 l1 (l1.length : Int) 0) = some (r1, r2) := H
   have A9 := aM A90
   clear A90
   have H' := aM H
   clear H
   go_wp2_with (first | ((with_reducible refine gate_callee (f := 54) rfl ?_); refine goesL_ (some 18) rfl rfl Try.func54 (by kernel_rfl) rfl #[.slice A0 l0.length c0] rfl mM ?_; (with_reducible refine (impl_Part_54.calls _ _ l0 t264 _ ?side1 ?side2 A9.out).mono ?_); (case side1 => exact cC (Kd.C_below HR0.out HB.out)); (case side2 => exact HC0.out); rintro e w10 ⟨v265, rfl, ho0, hb⟩; refine ⟨_, rfl, ?_⟩; have HO266 := aM (Kd.R_lower ho0 (below_size bB)); replace HB := aM (below_step bB hb); (try clear hb); (try clear hb2); (try clear hk); (try clear hi); (try clear ho0)))
   go_loopg [0, 21] kj2 (fun kq v0 v21 w' => ∃ (x0_2 : List (S60)) (x21_2 : Int), v21 = .int .i64 x21_2 ∧ Aside0 (impl_TransformOver.l0 kq x0_2 l1 (l1.length : Int) x21_2 = some (r1, r2)) ∧ Aside0 (kq ≤ kj2) ∧ Aside0 (Kd.R k60 60 w' w.heap.size (fun _ => True) v0 x0_2) ∧ Aside0 (Below w.heap.size w w'))
   case atStart => exact ⟨(t264), (0), aP17, H', ⟨Nat.le_refl _⟩, ⟨rR HO266.out⟩, ⟨bB⟩⟩
   case round =>
    clear H'
    try clear c1
    try clear c2
    try clear p2
    try clear c3
    try clear c5
    try clear c8
    try clear p2
    obtain ⟨x0_2, x21_2, rfl, HA, HK2, HO_0, HB⟩ := hrel
    cases gk with
    | zero => exact absurd HA.out (by simp [impl_TransformOver.l0])
    | succ k2 =>
     have H := HA.out
     clear HA
     simp only [impl_TransformOver.l0] at H
     by_cases c11 : x21_2 < (l1.length : Int)
     rotate_left
     ·rw [if_neg c11] at H
      have c11b0 : decide (x21_2 < (l1.length : Int)) = false := decide_eq_false c11
      clear c11
      simp only [Option.some.injEq, Prod.mk.injEq] at H
      obtain ⟨rfl, rfl⟩ := H
      go_wp2
      go_ret2
      exact ⟨_, by first | rfl | (simp [errW_none, errW_some] <;> rfl) | (simp [*, errW_none, errW_some] <;> rfl), by (with_reducible repeat (first | apply Kd.R_alloc | apply Kd.R_drewN | apply Kd.R_drew)); exact HO_0.out, bB⟩
     rw [if_pos c11] at H
     have c11b0 : decide (x21_2 < (l1.length : Int)) = true := decide_eq_true c11
     clear c11
     by_cases c12 : 0 ≤ x21_2
     rotate_left
     ·rw [if_neg c12] at H
      exact absurd H (by simp)
     rw [if_pos c12] at H
     have c12b0 : decide (0 ≤ x21_2) = true := decide_eq_true c12
     clear c12
     by_cases c13 : x21_2 < (l1.length : Int)
     rotate_left
     ·rw [if_neg c13] at H
      exact absurd H (by simp)
     rw [if_pos c13] at H
     have c13b0 : decide (x21_2 < (l1.length : Int)) = true := decide_eq_true c13
     clear c13
     replace H := Option.bind_eq_some_iff.mp H
     obtain ⟨⟨t268, t269, t270⟩, A140, H⟩ := H
     replace H : (if t270 = true then (impl_TransformOver.l0 k2 t268 l1 (l1.length : Int) (wrap64 (x21_2 + 1))) else (some (([] : List (S60)), false))) = some (r1, r2) := H
     have A14 := aM A140
     clear A140
     by_cases c15 : t270 = true
     ·subst c15
      replace H : (impl_TransformOver.l0 k2 t268 l1 (l1.length : Int) (wrap64 (x21_2 + 1))) = some (r1, r2) := by rw [if_pos rfl] at H; exact H
      have H' := aM H
      clear H
      have p267 : 0 ≤ (x21_2 : Int) := of_decide_eq_true (by assumption)
      have q267 : x21_2 < (l1.length : Int) := of_decide_eq_true (by assumption)
      obtain ⟨ad267, A267_0, c267_0, e267, hx267_0, hl267_0, hi267_0⟩ := at_L6 HR1.out x21_2 p267 q267
      cases e267
      replace hx267_0 := hC HB.out hx267_0
      have HR267_0 := aM hi267_0
      have HC267_0 := aM hl267_0
      clear hi267_0 hl267_0
      replace p267 := eq_true p267
      replace q267 := eq_true q267
      obtain ⟨Ao16, co16, eo16⟩ := Kd.R_slice HO_0.out
      subst eo16
      go_wp2_with (first | ((with_reducible refine gate_callee (f := 17) rfl ?_); refine goesL_ (some 28) rfl rfl Try.func17 (by kernel_rfl) rfl #[.slice Ao16 x0_2.length co16, .slice A267_0 (rd_L6 l1 x21_2).length c267_0] rfl mM ?_; (with_reducible refine (impl_TransformOps.calls k2 _ _ x0_2 _ _ (rd_L6 l1 x21_2) t268 t269 true _ ?side1 ?side2 ?side3 ?side4 A14.out).mono ?_); (case side1 => exact cC ((Kd.R_reads' HO_0.out).2.2)); (case side2 => exact (Kd.R_reads' HO_0.out).2.1); (case side3 => exact cC (Kd.C_below HR267_0.out HB.out)); (case side4 => exact HC267_0.out); rintro e w17 ⟨v271, v273, rfl, ho0, ho1, hb⟩; refine ⟨_, rfl, ?_⟩; have HO272 := aM (Kd.R_lower (Kd.R_new' ho0 (Kd.R_lt (rR HO_0.out))) (below_size bB)); have HO274 := aM (Kd.R_lower (Kd.R_new' ho1 (Kd.R_lt (rR HO_0.out))) (below_size bB)); replace HO_0 := aM (Kd.R_mono (Kd.R_told (Kd.R_told (Kd.R_old (rR HO_0.out) hb) (Kd.R_base ho0)) (Kd.R_base ho1)) (fun _ h_ => h_.1)); replace HB := aM (below_step bB hb); (try clear hb); (try clear hb2); (try clear hk); (try clear hi); (try clear ho0); (try clear ho1)))
      go_roundg k2
      case measure => have := HJ2.out; have := HK2.out; omega
      case rel => exact ⟨(t268), (wrap64 (x21_2 + 1)), aP17, H', ⟨by have := HJ2.out; have := HK2.out; omega⟩, ⟨by (with_reducible repeat (first | apply Kd.R_alloc | apply Kd.R_drewN | apply Kd.R_drew)); exact Kd.R_mono HO272.out (fun _ hk => trivial)⟩, ⟨bB⟩⟩
     replace c15 := Bool.eq_false_iff.mpr c15
     subst c15
     replace H : (some (([] : List (S60)), false)) = some (r1, r2) := by rw [if_neg (show ¬ (false = true) by decide)] at H; exact H
     simp only [Option.some.injEq, Prod.mk.injEq] at H
     obtain ⟨rfl, rfl⟩ := H
     have p267 : 0 ≤ (x21_2 : Int) := of_decide_eq_true (by assumption)
     have q267 : x21_2 < (l1.length : Int) := of_decide_eq_true (by assumption)
     obtain ⟨ad267, A267_0, c267_0, e267, hx267_0, hl267_0, hi267_0⟩ := at_L6 HR1.out x21_2 p267 q267
     cases e267
     replace hx267_0 := hC HB.out hx267_0
     have HR267_0 := aM hi267_0
     have HC267_0 := aM hl267_0
     clear hi267_0 hl267_0
     replace p267 := eq_true p267
     replace q267 := eq_true q267
     obtain ⟨Ao18, co18, eo18⟩ := Kd.R_slice HO_0.out
     subst eo18
     go_wp2_with (first | ((with_reducible refine gate_callee (f := 17) rfl ?_); refine goesL_ (some 28) rfl rfl Try.func17 (by kernel_rfl) rfl #[.slice Ao18 x0_2.length co18, .slice A267_0 (rd_L6 l1 x21_2).length c267_0] rfl mM ?_; (with_reducible refine (impl_TransformOps.calls k2 _ _ x0_2 _ _ (rd_L6 l1 x21_2) t268 t269 false _ ?side1 ?side2 ?side3 ?side4 A14.out).mono ?_); (case side1 => exact cC ((Kd.R_reads' HO_0.out).2.2)); (case side2 => exact (Kd.R_reads' HO_0.out).2.1); (case side3 => exact cC (Kd.C_below HR267_0.out HB.out)); (case side4 => exact HC267_0.out); rintro e w19 ⟨v271, v273, rfl, ho0, ho1, hb⟩; refine ⟨_, rfl, ?_⟩; have HO272 := aM (Kd.R_lower (Kd.R_new' ho0 (Kd.R_lt (rR HO_0.out))) (below_size bB)); have HO274 := aM (Kd.R_lower (Kd.R_new' ho1 (Kd.R_lt (rR HO_0.out))) (below_size bB)); replace HO_0 := aM (Kd.R_mono (Kd.R_told (Kd.R_told (Kd.R_old (rR HO_0.out) hb) (Kd.R_base ho0)) (Kd.R_base ho1)) (fun _ h_ => h_.1)); replace HB := aM (below_step bB hb); (try clear hb); (try clear hb2); (try clear hk); (try clear hi); (try clear ho0); (try clear ho1)))
     go_ret2
     exact ⟨_, by first | rfl | (simp [errW_none, errW_some] <;> rfl) | (simp [*, errW_none, errW_some] <;> rfl), by first | exact Kd.R_nil _ _ _ _ _ | exact Kd.N_nil _ _ _ _ _ | exact Kd.V_nil _ _ _ _ _ | exact Kd.Q_nil _ _ _ _ _ | exact Kd.S_nil _ _ _ _ _, bB⟩
def laws_eqPartSS.l0 : Nat → List (List (S60)) → List (List (S60)) → Int → Option (Bool)
 | 0, _, _, _ => none
 | k + 1, x0, x1, x5 => if x5 < (x0.length : Int) then (if 0 ≤ x5 then (if x5 < (x1.length : Int) then ((laws_eqPartS.f k (rd_L6 x0 x5) (rd_L6 x1 x5)).bind fun t277 => (if t277 = true then (laws_eqPartSS.l0 k x0 x1 (wrap64 (x5 + 1))) else (some false))) else (none)) else (none)) else (some true)
def laws_eqPartSS.f (k : Nat) (l0 : List (List (S60))) (l1 : List (List (S60))) : Option (Bool) := if (l0.length : Int) = (l1.length : Int) then (laws_eqPartSS.l0 k l0 l1 0) else (some false)
theorem laws_eqPartSS.mono_l : ∀ k, (∀ y0 y1 y2, LeO (laws_eqPartSS.l0 k y0 y1 y2) (laws_eqPartSS.l0 (k + 1) y0 y1 y2))
 | 0 => fun _ _ _ r h => by simp [laws_eqPartSS.l0] at h
 | k + 1 => by
  have ih0 := laws_eqPartSS.mono_l k
  ·intro y0 y1 y2
   unfold laws_eqPartSS.l0
   repeat' (with_reducible first | exact ih0 _ _ _ | exact laws_eqPartS.mono _ _ _ | exact LeO.refl _ | exact LeO.none _ | refine LeO.ite ?_ ?_ | refine LeO.bind ?_ (fun _ => ?_))
theorem laws_eqPartSS.mono : ∀ a0 a1 k, LeO (laws_eqPartSS.f k a0 a1) (laws_eqPartSS.f (k + 1) a0 a1) := by
 intro a0 a1 k
 have ih0 := laws_eqPartSS.mono_l k
 unfold laws_eqPartSS.f
 repeat' (with_reducible first | exact ih0 _ _ _ | exact laws_eqPartS.mono _ _ _ | exact LeO.refl _ | exact LeO.none _ | refine LeO.ite ?_ ?_ | refine LeO.bind ?_ (fun _ => ?_))
def laws_eqPartSS.T6 : Bool × List (List Nat × List Nat) := (true, [([], []), ([], []), ([0, 1], [0, 1]), ([2], [2]), ([], []), ([], []), ([4, 5], [4, 5]), ([6], [6]), ([3, 7], [3, 7]), ([8], [8])])
def laws_eqPartSS.B6 : List Nat := [0, 0, 3, 7, 0, 0, 48, 112, 255, 511]
theorem laws_eqPartSS.tab6 : rtab .any (opsOf Try.f24 6) = laws_eqPartSS.T6 := by kernel_rfl
theorem laws_eqPartSS.bits6 : waitsOk laws_eqPartSS.T6.2 laws_eqPartSS.B6 = true := by kernel_rfl
set_option maxHeartbeats 8000000 in
set_option maxRecDepth 100000 in
theorem laws_eqPartSS.calls (k : Nat) (A0 : Option Addr) (c0 : Nat) (l0 : List (List (S60))) (A1 : Option Addr) (c1 : Nat) (l1 : List (List (S60))) (r : Bool) (w : World) (hr0 : Kd.C (Kd.slice 60 k60) w A0 l0.length l0) (hc0 : l0.length ≤ c0) (hr1 : Kd.C (Kd.slice 60 k60) w A1 l1.length l1) (hc1 : l1.length ≤ c1) (h : laws_eqPartSS.f k l0 l1 = some r) :
  Calls Try.prog 24 #[.slice A0 l0.length c0, .slice A1 l1.length c1] w fun e w' => e = .returned (.bool r) ∧ Below w.heap.size w w' := by
 have HR0 := aM hr0
 have HC0 := aM hc0
 clear hr0 hc0
 have HR1 := aM hr1
 have HC1 := aM hc1
 clear hr1 hc1
 have HB := aM (Below.refl w.heap.size w)
 have H : (if (l0.length : Int) = (l1.length : Int) then (laws_eqPartSS.l0 k l0 l1 0) else (some false)) = some r := h
 clear h
 by_cases c3 : (l0.length : Int) = (l1.length : Int)
 rotate_left
 ·rw [if_neg c3] at H
  have c3b0 : ((l0.length : Int) == (l1.length : Int)) = false := beq_eq_false_iff_ne.mpr c3
  have c3b1 : ((l0.length : Int) != (l1.length : Int)) = true := bne_iff_ne.mpr c3
  have c3b2 : (l0.length == l1.length) = false := by first | simpa using c3 | (simp at c3 ⊢; omega)
  obtain rfl := Option.some.inj H
  go_enter Try.func24, Try.ntmps24
  go_wp2
  go_ret
  exact ⟨eR, bB⟩
 rw [if_pos c3] at H
 have c3b0 : ((l0.length : Int) == (l1.length : Int)) = true := beq_iff_eq.mpr c3
 have c3b1 : ((l0.length : Int) != (l1.length : Int)) = false := bne_eq_false_iff_eq.mpr c3
 have c3b2 : (l0.length == l1.length) = true := by first | simpa using c3 | (simp at c3 ⊢; omega)
 clear c3
 have H' := aM H
 clear H
 go_enter Try.func24, Try.ntmps24
 go_wp2
 go_loopg [5] k (fun kq v5 w' => ∃ (x5_1 : Int), v5 = .int .i64 x5_1 ∧ Aside0 (laws_eqPartSS.l0 kq l0 l1 x5_1 = some r) ∧ Aside0 (kq ≤ k) ∧ Aside0 (Below w.heap.size w w'))
 case atStart => exact ⟨(0), aP17, H', ⟨Nat.le_refl _⟩, ⟨bB⟩⟩
 case round =>
  clear H'
  try clear c1
  try clear c2
  try clear p2
  try clear c3
  try clear c3b0
  try clear c3b1
  try clear c3b2
  obtain ⟨x5_1, rfl, HA, HK1, HB⟩ := hrel
  cases gk with
  | zero => exact absurd HA.out (by simp [laws_eqPartSS.l0])
  | succ k1 =>
   have H := HA.out
   clear HA
   simp only [laws_eqPartSS.l0] at H
   by_cases c4 : x5_1 < (l0.length : Int)
   rotate_left
   ·rw [if_neg c4] at H
    have c4b0 : decide (x5_1 < (l0.length : Int)) = false := decide_eq_false c4
    clear c4
    obtain rfl := Option.some.inj H
    go_wp2
    go_ret
    exact ⟨eR, bB⟩
   rw [if_pos c4] at H
   have c4b0 : decide (x5_1 < (l0.length : Int)) = true := decide_eq_true c4
   clear c4
   by_cases c5 : 0 ≤ x5_1
   rotate_left
   ·rw [if_neg c5] at H
    exact absurd H (by simp)
   rw [if_pos c5] at H
   have c5b0 : decide (0 ≤ x5_1) = true := decide_eq_true c5
   clear c5
   by_cases c6 : x5_1 < (l1.length : Int)
   rotate_left
   ·rw [if_neg c6] at H
    exact absurd H (by simp)
   rw [if_pos c6] at H
   have c6b0 : decide (x5_1 < (l1.length : Int)) = true := decide_eq_true c6
   clear c6
   replace H := Option.bind_eq_some_iff.mp H
   obtain ⟨t277, A70, H⟩ := H
   replace H : (if t277 = true then (laws_eqPartSS.l0 k1 l0 l1 (wrap64 (x5_1 + 1))) else (some false)) = some r := H
   have A7 := aM A70
   clear A70
   by_cases c8 : t277 = true
   ·subst c8
    replace H : (laws_eqPartSS.l0 k1 l0 l1 (wrap64 (x5_1 + 1))) = some r := by rw [if_pos rfl] at H; exact H
    have H' := aM H
    clear H
    try go_wp2
    replace HB := aM (below_drew1 HB.out)
    have p275 : 0 ≤ (x5_1 : Int) := of_decide_eq_true (by assumption)
    have q275 : x5_1 < (l0.length : Int) := of_decide_eq_true (by assumption)
    obtain ⟨ad275, A275_0, c275_0, e275, hx275_0, hl275_0, hi275_0⟩ := at_L6 HR0.out x5_1 p275 q275
    have hw275_0 := hx275_0
    cases e275
    replace hx275_0 := hC HB.out hx275_0
    have HR275_0 := aM hi275_0
    have HC275_0 := aM hl275_0
    clear hi275_0 hl275_0
    replace p275 := eq_true p275
    replace q275 := eq_true q275
    have p276 : 0 ≤ (x5_1 : Int) := of_decide_eq_true (by assumption)
    have q276 : x5_1 < (l1.length : Int) := of_decide_eq_true (by assumption)
    obtain ⟨ad276, A276_0, c276_0, e276, hx276_0, hl276_0, hi276_0⟩ := at_L6 HR1.out x5_1 p276 q276
    have hw276_0 := hx276_0
    cases e276
    replace hx276_0 := hC HB.out hx276_0
    have HR276_0 := aM hi276_0
    have HC276_0 := aM hl276_0
    clear hi276_0 hl276_0
    replace p276 := eq_true p276
    replace q276 := eq_true q276
    refine start_ (n := 10) (S := fun w' => w'.cell? (ad275.add (x5_1).toNat) = some (.slice A275_0 (rd_L6 l0 x5_1).length c275_0) ∧ w'.cell? (ad276.add (x5_1).toNat) = some (.slice A276_0 (rd_L6 l1 x5_1).length c276_0)) (ds := []) (Array.replicate 10 false) (by kernel_rfl) rfl rfl ⟨(hC HB.out hw275_0), (hC HB.out hw276_0)⟩ (fun hHeld => ?_); refine with_tabW laws_eqPartSS.tab6 laws_eqPartSS.bits6 (fun HT_ HW_ => ?_)
    generalize wr.drew = w9 at HB HR275_0 HR276_0 hx275_0 hx276_0 hHeld ⊢
    refine pV 0 17 (bN 10 1) ?_
    refine pV 1 18 (bN 10 3) ?_
    refine pV 2 19 (bN 10 7) ?_
    refine pV 4 21 (bN 10 23) ?_
    refine pV 5 22 (bN 10 55) ?_
    refine pV 6 23 (bN 10 119) ?_
    refine tV2 3 20 (bN 10 127) ?_
    refine tV2 7 24 (bN 10 255) ?_
    refine one_ (i := 8) (N := some 25) (bN 10 511) rfl rfl (one_of HT_.out (by kernel_rfl)) (by decide) (fun K hK => ?_)
    refine goes_ Try.func13 (by kernel_rfl) rfl #[.slice A275_0 (rd_L6 l0 x5_1).length c275_0, .slice A276_0 (rd_L6 l1 x5_1).length c276_0] (by rfl) rfl rfl mM ?_
    with_reducible refine (laws_eqPartS.calls k1 _ _ (rd_L6 l0 x5_1) _ _ (rd_L6 l1 x5_1) true _ ?side1 ?side2 ?side3 ?side4 A7.out).mono ?_
    (case side1 => exact cC (Kd.C_below HR275_0.out HB.out))
    (case side2 => exact HC275_0.out)
    (case side3 => exact cC (Kd.C_below HR276_0.out HB.out))
    (case side4 => exact HC276_0.out)
    rintro e w10 ⟨rfl, hb⟩
    refine ⟨_, rfl, ?_⟩
    replace HB := aM (below_step bB hb)
    (try clear hb)
    (try clear hb2)
    (try clear hk)
    (try clear hi)
    refine hK.out _ _ ⟨(hC HB.out hw275_0), (hC HB.out hw276_0)⟩ (fun hHeld => ?_)
    clear hK K
    refine norm_ (a' := ?_) ?_ ?_
    rotate_left
    ·show Act.put _ (some 25) _ = _
     simp only [Act.put, List.setIfInBounds_toArray, List.set_cons_zero, List.set_cons_succ, i64_w, i32_w]
     rfl
    refine pV 9 26 (bN 10 1023) ?_
    refine done_ (done_of HT_.out (by kernel_rfl)) ?_
    try go_wp2
    go_roundg k1
    case measure => have := HK1.out; omega
    case rel => exact ⟨(wrap64 (x5_1 + 1)), aP17, H', ⟨by have := HK1.out; omega⟩, ⟨bB⟩⟩
   replace c8 := Bool.eq_false_iff.mpr c8
   subst c8
   replace H : (some false) = some r := by rw [if_neg (show ¬ (false = true) by decide)] at H; exact H
   obtain rfl := Option.some.inj H
   try go_wp2
   replace HB := aM (below_drew1 HB.out)
   have p275 : 0 ≤ (x5_1 : Int) := of_decide_eq_true (by assumption)
   have q275 : x5_1 < (l0.length : Int) := of_decide_eq_true (by assumption)
   obtain ⟨ad275, A275_0, c275_0, e275, hx275_0, hl275_0, hi275_0⟩ := at_L6 HR0.out x5_1 p275 q275
   have hw275_0 := hx275_0
   cases e275
   replace hx275_0 := hC HB.out hx275_0
   have HR275_0 := aM hi275_0
   have HC275_0 := aM hl275_0
   clear hi275_0 hl275_0
   replace p275 := eq_true p275
   replace q275 := eq_true q275
   have p276 : 0 ≤ (x5_1 : Int) := of_decide_eq_true (by assumption)
   have q276 : x5_1 < (l1.length : Int) := of_decide_eq_true (by assumption)
   obtain ⟨ad276, A276_0, c276_0, e276, hx276_0, hl276_0, hi276_0⟩ := at_L6 HR1.out x5_1 p276 q276
   have hw276_0 := hx276_0
   cases e276
   replace hx276_0 := hC HB.out hx276_0
   have HR276_0 := aM hi276_0
   have HC276_0 := aM hl276_0
   clear hi276_0 hl276_0
   replace p276 := eq_true p276
   replace q276 := eq_true q276
   refine start_ (n := 10) (S := fun w' => w'.cell? (ad275.add (x5_1).toNat) = some (.slice A275_0 (rd_L6 l0 x5_1).length c275_0) ∧ w'.cell? (ad276.add (x5_1).toNat) = some (.slice A276_0 (rd_L6 l1 x5_1).length c276_0)) (ds := []) (Array.replicate 10 false) (by kernel_rfl) rfl rfl ⟨(hC HB.out hw275_0), (hC HB.out hw276_0)⟩ (fun hHeld => ?_); refine with_tabW laws_eqPartSS.tab6 laws_eqPartSS.bits6 (fun HT_ HW_ => ?_)
   generalize wr.drew = w11 at HB HR275_0 HR276_0 hx275_0 hx276_0 hHeld ⊢
   refine pV 0 17 (bN 10 1) ?_
   refine pV 1 18 (bN 10 3) ?_
   refine pV 2 19 (bN 10 7) ?_
   refine pV 4 21 (bN 10 23) ?_
   refine pV 5 22 (bN 10 55) ?_
   refine pV 6 23 (bN 10 119) ?_
   refine tV2 3 20 (bN 10 127) ?_
   refine tV2 7 24 (bN 10 255) ?_
   refine one_ (i := 8) (N := some 25) (bN 10 511) rfl rfl (one_of HT_.out (by kernel_rfl)) (by decide) (fun K hK => ?_)
   refine goes_ Try.func13 (by kernel_rfl) rfl #[.slice A275_0 (rd_L6 l0 x5_1).length c275_0, .slice A276_0 (rd_L6 l1 x5_1).length c276_0] (by rfl) rfl rfl mM ?_
   with_reducible refine (laws_eqPartS.calls k1 _ _ (rd_L6 l0 x5_1) _ _ (rd_L6 l1 x5_1) false _ ?side1 ?side2 ?side3 ?side4 A7.out).mono ?_
   (case side1 => exact cC (Kd.C_below HR275_0.out HB.out))
   (case side2 => exact HC275_0.out)
   (case side3 => exact cC (Kd.C_below HR276_0.out HB.out))
   (case side4 => exact HC276_0.out)
   rintro e w12 ⟨rfl, hb⟩
   refine ⟨_, rfl, ?_⟩
   replace HB := aM (below_step bB hb)
   (try clear hb)
   (try clear hb2)
   (try clear hk)
   (try clear hi)
   refine hK.out _ _ ⟨(hC HB.out hw275_0), (hC HB.out hw276_0)⟩ (fun hHeld => ?_)
   clear hK K
   refine norm_ (a' := ?_) ?_ ?_
   rotate_left
   ·show Act.put _ (some 25) _ = _
    simp only [Act.put, List.setIfInBounds_toArray, List.set_cons_zero, List.set_cons_succ, i64_w, i32_w]
    rfl
   refine pV 9 26 (bN 10 1023) ?_
   refine done_ (done_of HT_.out (by kernel_rfl)) ?_
   try go_wp2
   go_ret
   exact ⟨eR, bB⟩
theorem mark_lend {W : World} {base n c : Nat} {ok : Nat → Prop} {A : Option Addr} {ys : List (List S60)} (h : Kd.S (Kd.slice 60 k60) 26 W base ok (.slice A n c) ys) (i : Nat) (hi : i < n) :
  ∃ (ad : Addr) (oki : Nat → Prop) (v : Value), A = some ad ∧ W.cell? (ad.add i) = some v ∧ Kd.R k60 60 W base oki v (ys.getD i []) ∧ (∀ k, oki k → ok k) ∧
   ∀ (W2 : World) (ok2 : Nat → Prop) (r2 : List S60), Kept W W2 oki → Kd.R k60 60 W2 base ok2 v r2 → Kd.S (Kd.slice 60 k60) 26 W2 base ok (.slice A n c) (ys.set i r2) := by
 have hn := (Kd.S_reads' h).1
 obtain ⟨g, cap, e, _⟩ := Kd.S_form h (by omega)
 injection e with e1 e2 e3
 subst e1
 obtain ⟨oki, cs, _, hM, hc, hok, hH⟩ := Kd.S_lend h ([] : List S60) (i : Int) (by omega) (by omega)
 obtain ⟨v, rfl, hR⟩ := hM
 refine ⟨⟨g, 0, none⟩, oki, v, rfl, ?_, hR, fun k hk => (hok k hk).1, fun W2 ok2 r2 hk hy => Kd.H_back (Kd.H_kept hH hk (fun k _ hnk => hnk)) ⟨v, rfl, Kd.R_reok rfl hy (fun k e => hR.1 k e)⟩ (fun _ h => h)⟩
 have := hc 0 v rfl
 have hz : (Kd.slice 60 k60).sz = 1 := rfl
 rw [add_at, Nat.zero_add]
 simpa [hz] using this
def laws_markPartSS.g (k : Nat) : List (List S60) → Int → Option Int
 | [], a => some a
 | l :: r, a => (laws_markPartS.f k l a).bind fun t => laws_markPartSS.g k r t.1
def laws_markPartSS.f (k : Nat) (l0 : List (List S60)) (a1 : Int) : Option Int := if l0.length ≤ 1048576 then laws_markPartSS.g k l0 a1 else none
theorem laws_markPartSS.mono_g (k : Nat) : ∀ (l : List (List S60)) (a : Int), LeO (laws_markPartSS.g k l a) (laws_markPartSS.g (k + 1) l a)
 | [], a => LeO.refl _
 | l :: r, a => LeO.bind (laws_markPartS.mono _ _ _) (fun _ => laws_markPartSS.mono_g k r _)
theorem laws_markPartSS.mono : ∀ a0 a1 k, LeO (laws_markPartSS.f k a0 a1) (laws_markPartSS.f (k + 1) a0 a1) := by
 intro a0 a1 k
 unfold laws_markPartSS.f
 exact LeO.ite (laws_markPartSS.mono_g k _ _) (LeO.none _)
theorem mark_next {k : Nat} {L : List (List S60)} {i : Nat} {a r1 : Int} (hi : i < L.length) (h : laws_markPartSS.g k (L.drop i) a = some r1) : ∃ (x : Int) (m : List S60), laws_markPartS.f k (L.getD i []) a = some (x, m) ∧ laws_markPartSS.g k (L.drop (i + 1)) x = some r1 := by
 rw [List.drop_eq_getElem_cons hi, laws_markPartSS.g] at h
 obtain ⟨⟨x, m⟩, h1, h2⟩ := Option.bind_eq_some_iff.mp h
 exact ⟨x, m, by rw [List.getD_eq_getElem?_getD, List.getElem?_eq_getElem hi]; exact h1, h2⟩
theorem mark_same {α : Type} {L M : List α} {i : Nat} (z x : α) (hl : M.length = L.length) (h : M.drop i = L.drop i) : M.getD i z = L.getD i z ∧ (M.set i x).length = L.length ∧ (M.set i x).drop (i + 1) = L.drop (i + 1) := by
 refine ⟨?_, by rw [List.length_set, hl], ?_⟩
 rotate_left
 ·rw [List.drop_set_of_lt (by omega)]
  have := congrArg (List.drop 1) h
  rw [List.drop_drop, List.drop_drop] at this
  exact this
 have e : ∀ N : List α, N.getD i z = (N.drop i).getD 0 z := fun N => by rw [List.getD_eq_getElem?_getD, List.getD_eq_getElem?_getD, List.getElem?_drop, Nat.add_zero]
 rw [e, e, h]
set_option maxHeartbeats 4000000 in
set_option maxRecDepth 100000 in
theorem laws_markPartSS.calls (k : Nat) (P0_ : Nat → Prop) (u9000_ : Value) (l0 : List (List S60)) (a1 : Int) (r1 : Int) (w0 w : World) (hB : Below w0.heap.size w0 w) (ho0 : Kd.S (Kd.slice 60 k60) 26 w w0.heap.size P0_ u9000_ l0) (h : laws_markPartSS.f k l0 a1 = some r1) :
  Calls Try.prog 25 #[u9000_, .int .i64 a1] w fun e w' => e = .returned (.int .i64 r1) ∧ Below w0.heap.size w0 w' ∧ Kept w w' (fun k_ => P0_ k_) := by
 unfold laws_markPartSS.f at h
 split at h
 rotate_left
 ·cases h
 rename_i hlen
 obtain ⟨A, c, rfl⟩ := Kd.S_slice ho0
 have HL := aM hlen
 have HB := aM hB
 have HS := aM ho0
 have HG := aM h
 clear hlen hB ho0 h
 go_enter Try.func25, Try.ntmps25
 go_wp2
 go_loopw [1, 5] (fun v1 v5 wr => ∃ (i : Nat) (x : Int) (ys : List (List S60)), v1 = .int .i64 x ∧ v5 = .int .i64 (i : Int) ∧ Aside0 (i ≤ l0.length) ∧ Aside0 (Kd.S (Kd.slice 60 k60) 26 wr w0.heap.size P0_ (.slice A l0.length c) ys) ∧ Aside0 (ys.length = l0.length ∧ ys.drop i = l0.drop i) ∧ Aside0 (laws_markPartSS.g k (l0.drop i) x = some r1) ∧ Aside0 (Below w0.heap.size w0 wr) ∧ Aside0 (Kept w wr P0_)) (fun _ i _ => l0.length - (match i with | .int _ n => n.toNat | _ => 0))
 case atStart => exact ⟨0, a1, l0, rfl, rfl, ⟨Nat.zero_le _⟩, HS, ⟨rfl, rfl⟩, HG, HB, ⟨Kept.refl w _⟩⟩
 case round =>
  obtain ⟨i, x, ys, rfl, rfl, Hi, HY, HE, HX, HBw, HK⟩ := hrel
  clear HS HG HB
  by_cases hlt : i < l0.length
  rotate_left
  ·have c3b0 : decide ((i : Int) < (l0.length : Int)) = false := decide_eq_false (by omega)
   have hi : i = l0.length := by have := Hi.out; omega
   have hx := HX.out
   rw [hi, List.drop_length, laws_markPartSS.g] at hx
   obtain rfl := Option.some.inj hx
   clear hx
   go_wp2
   go_ret
   exact ⟨rfl, HBw.out, HK.out⟩
  have c3b0 : decide ((i : Int) < (l0.length : Int)) = true := decide_eq_true (by omega)
  have p3 : (0 : Int) ≤ (i : Int) := by omega
  have q3 : (i : Int) < (l0.length : Int) := by omega
  obtain ⟨ad, oki, v, e3, hc3, hR3, hok3, hback⟩ := mark_lend HY.out i hlt
  obtain ⟨x', m', hf, hg'⟩ := mark_next hlt HX.out
  have hs3 := mark_same ([] : List S60) m' HE.out.1 HE.out.2
  rw [hs3.1] at hR3
  cases e3
  have HR3 := aM hR3
  have HO3 := aM hok3
  have HBK := aM hback
  have HF := aM hf
  have HG' := aM hg'
  have HS3 := aM hs3.2
  have HLT := aM hlt
  clear hR3 hok3 hback hf hg' hs3 hlt HX HY HE
  go_wp2_with (first | (go_at_call 18; (with_reducible refine (laws_markPartS.calls k oki v (l0.getD i []) x x' m' w0 _ HBw.out HR3.out HF.out).mono ?_); rintro e w6 ⟨rfl, hy, hb, hkp⟩; have HY6 := aM (HBK.out w6 _ m' hkp hy); have HB6 := aM hb; have HK6 := aM (HK.out.then_ hkp (fun k hk => .inl (HO3.out k hk))); clear hy hb hkp))
  have hl' := HLT.out
  go_roundw
  case rel =>
   refine ⟨i + 1, x', ys.set i m', rfl, ?_, ⟨by omega⟩, HY6, HS3, HG', HB6, HK6⟩
   first | rfl | (simp; done) | (congr 1; unfold wrap64; have := HL.out; omega)
  case measure =>
   have hL := HL.out
   have ew : wrap64 ((i : Int) + 1) = ((i + 1 : Nat) : Int) := by unfold wrap64; omega
   simp only [ew, Int.toNat_natCast]
   omega
end Go.Proofs.Ytoagljlnfakgjaa.PFnExactTransformOver
