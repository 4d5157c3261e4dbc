/- (thin) Written by a program of this session (wip/ovl.py) over the kit's print: plain functions with the answers of the Go functions, and the proofs that they are; no condition. -/
import Derived.Test.YtmhcmcdppimcpaaPFnExactMoveMarksx0
import Derived.Test.YtmhcmcdppimcpaaPFnExactMoveMarksx3
import Derived.Test.YtmhcmcdppimcpaaPFnExactMoveMarksx4
import Derived.Test.YtmhcmcdppimcpaaPFnExactMoveMarksx6
import Derived.Test.YtmhcmcdppimcpaaPFnExactMoveMarksx7
namespace Go.Proofs.Ytmhcmcdppimcpaa.PFnExactMoveMarks
open Go.RowKit Go.Proofs.YtmhcmcdppimcpaaW.PrintWords Go.Proofs.YtmhcmcdppimcpaaW.PrintLast Go.Proofs.YtmhcmcdppimcpaaW.PrintMore
attribute [local go_sem] max2_int min2_int max_two min_two max_three min_three max_four min_four   -- for this text's walks alone
set_option linter.unusedVariables false
set_option linter.unusedSimpArgs false
mutual
def spec_MoveMarks.j0 : Nat → List (S61) → List (S67) → Bool → Option ((List (S67)) × Bool)
 | 0, _, _, _ => none
 | k + 1, x0, x1, x28 => if x28 = true then (some (([] : List (S67)), false)) else (spec_MoveMarks.l0 k x0 ([] : List (S67)) x1 (x1.length : Int) 0)
def spec_MoveMarks.l0 : Nat → List (S61) → List (S67) → List (S67) → Int → Int → Option ((List (S67)) × Bool)
 | 0, _, _, _, _, _ => none
 | k + 1, x0, x8, x29, x30, x31 => if x31 < x30 then (if 0 ≤ x31 then (if x31 < (x29.length : Int) then ((spec_l5Gap.f k x0 ((rd_T67 x29 x31).f0)).bind fun bt231 => ((spec_l5Gap.f k x0 ((rd_T67 x29 x31).f1)).bind fun bt233 => (if bt231.2 < bt233.1 then ((spec_l5Add.f k x8 bt231.2 bt233.1 ((rd_T67 x29 x31).f2)).bind fun t235 => (spec_MoveMarks.l0 k x0 t235 x29 x30 (wrap64 (x31 + 1)))) else (spec_MoveMarks.l0 k x0 x8 x29 x30 (wrap64 (x31 + 1)))))) else (none)) else (none)) else (some (x8, true))
end
def spec_MoveMarks.f (k : Nat) (l0 : List (S61)) (l1 : List (S67)) : Option ((List (S67)) × Bool) := (spec_l3Sizes.f k l0).bind fun bt225 => ((spec_GoodOp.f k l0).bind fun t227 => (if t227 = true then ((spec_GoodMarks.f k l1 bt225.1).bind fun t228 => (spec_MoveMarks.j0 k l0 l1 (!t228))) else (spec_MoveMarks.j0 k l0 l1 true)))
theorem spec_MoveMarks.mono_l : ∀ k, (∀ y0 y1 y2, LeO (spec_MoveMarks.j0 k y0 y1 y2) (spec_MoveMarks.j0 (k + 1) y0 y1 y2)) ∧ (∀ y0 y1 y2 y3 y4, LeO (spec_MoveMarks.l0 k y0 y1 y2 y3 y4) (spec_MoveMarks.l0 (k + 1) y0 y1 y2 y3 y4))
 | 0 => ⟨fun _ _ _ r h => by simp [spec_MoveMarks.j0] at h, fun _ _ _ _ _ r h => by simp [spec_MoveMarks.l0] at h⟩
 | k + 1 => by
  obtain ⟨ih0, ih1⟩ := spec_MoveMarks.mono_l k
  refine ⟨?_, ?_⟩
  ·intro y0 y1 y2
   unfold spec_MoveMarks.j0
   repeat' (with_reducible first | exact ih0 _ _ _ | exact ih1 _ _ _ _ _ | exact spec_GoodMarks.mono _ _ _ | exact spec_GoodOp.mono _ _ | exact spec_l3Sizes.mono _ _ | exact spec_l5Add.mono _ _ _ _ _ | exact spec_l5Gap.mono _ _ _ | exact LeO.refl _ | exact LeO.none _ | refine LeO.ite ?_ ?_ | refine LeO.bind ?_ (fun _ => ?_))
  ·intro y0 y1 y2 y3 y4
   unfold spec_MoveMarks.l0
   repeat' (with_reducible first | exact ih0 _ _ _ | exact ih1 _ _ _ _ _ | exact spec_GoodMarks.mono _ _ _ | exact spec_GoodOp.mono _ _ | exact spec_l3Sizes.mono _ _ | exact spec_l5Add.mono _ _ _ _ _ | exact spec_l5Gap.mono _ _ _ | exact LeO.refl _ | exact LeO.none _ | refine LeO.ite ?_ ?_ | refine LeO.bind ?_ (fun _ => ?_))
theorem spec_MoveMarks.mono : ∀ a0 a1 k, LeO (spec_MoveMarks.f k a0 a1) (spec_MoveMarks.f (k + 1) a0 a1) := by
 intro a0 a1 k
 obtain ⟨ih0, ih1⟩ := spec_MoveMarks.mono_l k
 unfold spec_MoveMarks.f
 repeat' (with_reducible first | exact ih0 _ _ _ | exact ih1 _ _ _ _ _ | exact spec_GoodMarks.mono _ _ _ | exact spec_GoodOp.mono _ _ | exact spec_l3Sizes.mono _ _ | exact spec_l5Add.mono _ _ _ _ _ | exact spec_l5Gap.mono _ _ _ | exact LeO.refl _ | exact LeO.none _ | refine LeO.ite ?_ ?_ | refine LeO.bind ?_ (fun _ => ?_))
set_option maxHeartbeats 8000000 in
set_option maxRecDepth 100000 in
theorem spec_MoveMarks.calls (k : Nat) (A0 : Option Addr) (c0 : Nat) (l0 : List (S61)) (A1 : Option Addr) (c1 : Nat) (l1 : List (S67)) (r1 : List (S67)) (r2 : Bool) (w : World) (hr0 : Kd.C k61 w A0 l0.length l0) (hc0 : l0.length ≤ c0) (hr1 : Kd.C k67 w A1 l1.length l1) (hc1 : l1.length ≤ c1) (h : spec_MoveMarks.f k l0 l1 = some (r1, r2)) :
  Calls Try.prog 28 #[.slice A0 l0.length c0, .slice A1 l1.length c1] w fun e w' => ∃ v0_ : Value, e = .returned (.tuple #[v0_, .bool r2]) ∧ Kd.R k67 67 w' w.heap.size (fun _ => True) v0_ r1 ∧ Below w.heap.size w w' := by
 have hu67 := Try.underlying67
 have HR0 := aM hr0
 have HC0 := aM hc0
 clear hr0 hc0
 have HR1 := aM hr1
 have HC1 := aM hc1
 clear hr1 hc1
 have HB := aM (Below.refl w.heap.size w)
 have H : ((spec_l3Sizes.f k l0).bind fun bt225 => ((spec_GoodOp.f k l0).bind fun t227 => (if t227 = true then ((spec_GoodMarks.f k l1 bt225.1).bind fun t228 => (spec_MoveMarks.j0 k l0 l1 (!t228))) else (spec_MoveMarks.j0 k l0 l1 true)))) = some (r1, r2) := h
 clear h
 replace H := Option.bind_eq_some_iff.mp H
 obtain ⟨⟨t225, t226⟩, A30, H⟩ := H
 replace H : ((spec_GoodOp.f k l0).bind fun t227 => (if t227 = true then ((spec_GoodMarks.f k l1 t225).bind fun t228 => (spec_MoveMarks.j0 k l0 l1 (!t228))) else (spec_MoveMarks.j0 k l0 l1 true))) = some (r1, r2) := H
 have A3 := aM A30
 clear A30
 have HC4 := aM H
 clear H
 go_enter Try.func28, Try.ntmps28
 go_upto_region 2 with (first | ((with_reducible refine gate_callee (f := 52) rfl ?_); refine goesL_ (some 17) rfl rfl Try.func52 (by kernel_rfl) rfl #[.slice A0 l0.length c0] rfl mM ?_; (with_reducible refine (spec_l3Sizes.calls k _ _ l0 t225 t226 _ ?side1 ?side2 A3.out).mono ?_); (case side1 => exact cC HR0.out); (case side2 => exact HC0.out); rintro e w5 ⟨rfl, hb⟩; refine ⟨_, rfl, ?_⟩; replace HB := aM (below_step bB hb); (try clear hb); (try clear hb2); (try clear hk); (try clear hi)))
 (try simp only [Act.put, List.setIfInBounds_toArray, List.set_cons_zero, List.set_cons_succ])
 go_cut [28] (fun v28 wc => ∃ (kq : Nat) (x28_3 : Bool), v28 = .bool x28_3 ∧ Aside0 (spec_MoveMarks.j0 kq l0 l1 x28_3 = some (r1, r2)) ∧ Aside0 (kq ≤ k) ∧ Aside0 (Below w.heap.size w wc))
 case first =>
  have H := HC4.out
  clear HC4
  replace H := Option.bind_eq_some_iff.mp H
  obtain ⟨t227, A60, H⟩ := H
  replace H : (if t227 = true then ((spec_GoodMarks.f k l1 t225).bind fun t228 => (spec_MoveMarks.j0 k l0 l1 (!t228))) else (spec_MoveMarks.j0 k l0 l1 true)) = some (r1, r2) := H
  have A6 := aM A60
  clear A60
  by_cases c7 : t227 = true
  rotate_left
  ·replace c7 := Bool.eq_false_iff.mpr c7
   subst c7
   replace H : (spec_MoveMarks.j0 k l0 l1 true) = some (r1, r2) := by rw [if_neg (show ¬ (false = true) by decide)] at H; exact H
   have H' := aM H
   clear H
   go_wp2_with (first | ((with_reducible refine gate_callee (f := 53) rfl ?_); refine goesL_ (some 21) rfl rfl Try.func53 (by kernel_rfl) rfl #[.slice A0 l0.length c0] rfl mM ?_; (with_reducible refine (spec_GoodOp.calls k _ _ l0 false _ ?side1 ?side2 A6.out).mono ?_); (case side1 => exact cC (Kd.C_below HR0.out HB.out)); (case side2 => exact HC0.out); rintro e w11 ⟨rfl, hb⟩; refine ⟨_, rfl, ?_⟩; replace HB := aM (below_step bB hb); (try clear hb); (try clear hb2); (try clear hk); (try clear hi)))
   go_meet
   case rel => exact ⟨_, (true), aP32, H', ⟨by first | omega | exact Nat.le_refl _⟩, ⟨bB⟩⟩
  subst c7
  replace H : ((spec_GoodMarks.f k l1 t225).bind fun t228 => (spec_MoveMarks.j0 k l0 l1 (!t228))) = some (r1, r2) := by rw [if_pos rfl] at H; exact H
  replace H := Option.bind_eq_some_iff.mp H
  obtain ⟨t228, A80, H⟩ := H
  replace H : (spec_MoveMarks.j0 k l0 l1 (!t228)) = some (r1, r2) := H
  have A8 := aM A80
  clear A80
  have H' := aM H
  clear H
  go_wp2_with (first | ((with_reducible refine gate_callee (f := 53) rfl ?_); refine goesL_ (some 21) rfl rfl Try.func53 (by kernel_rfl) rfl #[.slice A0 l0.length c0] rfl mM ?_; (with_reducible refine (spec_GoodOp.calls k _ _ l0 true _ ?side1 ?side2 A6.out).mono ?_); (case side1 => exact cC (Kd.C_below HR0.out HB.out)); (case side2 => exact HC0.out); rintro e w9 ⟨rfl, hb⟩; refine ⟨_, rfl, ?_⟩; replace HB := aM (below_step bB hb); (try clear hb); (try clear hb2); (try clear hk); (try clear hi)) | (go_at_call 12; (with_reducible refine (spec_GoodMarks.calls k _ _ l1 t225 t228 _ ?side1 ?side2 A8.out).mono ?_); (case side1 => exact cC (Kd.C_below HR1.out HB.out)); (case side2 => exact HC1.out); rintro e w10 ⟨rfl, hb⟩; replace HB := aM (below_step bB hb); (try clear hb); (try clear hb2); (try clear hk); (try clear hi)))
  go_meet
  case rel => exact ⟨_, (!t228), aP32, H', ⟨by first | omega | exact Nat.le_refl _⟩, ⟨bB⟩⟩
 case rest =>
  clear HC4
  try clear c1
  try clear c2
  try clear p2
  try clear c5
  try clear c7
  obtain ⟨kq, x28_3, rfl, HA, HJ3, HB⟩ := hcut
  cases kq with
  | zero => exact absurd HA.out (by simp [spec_MoveMarks.j0])
  | succ kj3 =>
   have H := HA.out
   clear HA
   simp only [spec_MoveMarks.j0] at H
   by_cases c12 : x28_3 = true
   ·subst c12
    replace H : (some (([] : List (S67)), false)) = some (r1, r2) := by rw [if_pos rfl] at H; exact H
    simp only [Option.some.injEq, Prod.mk.injEq] at H
    obtain ⟨rfl, rfl⟩ := H
    go_wp2
    go_ret2
    exact ⟨_, by first | rfl | (simp [errW_none, errW_some] <;> rfl) | (simp [*, errW_none, errW_some] <;> rfl), by first | exact Kd.R_nil _ _ _ _ _ | exact Kd.N_nil _ _ _ _ _ | exact Kd.V_nil _ _ _ _ _ | exact Kd.Q_nil _ _ _ _ _ | exact Kd.S_nil _ _ _ _ _, bB⟩
   replace c12 := Bool.eq_false_iff.mpr c12
   subst c12
   replace H : (spec_MoveMarks.l0 kj3 l0 ([] : List (S67)) l1 (l1.length : Int) 0) = some (r1, r2) := by rw [if_neg (show ¬ (false = true) by decide)] at H; exact H
   have H' := aM H
   clear H
   go_wp2
   go_loopg [8, 31] kj3 (fun kq v8 v31 w' => ∃ (x8_2 : List (S67)) (x31_2 : Int), v31 = .int .i64 x31_2 ∧ Aside0 (spec_MoveMarks.l0 kq l0 x8_2 l1 (l1.length : Int) x31_2 = some (r1, r2)) ∧ Aside0 (kq ≤ kj3) ∧ Aside0 (Kd.R k67 67 w' w.heap.size (fun _ => True) v8 x8_2) ∧ Aside0 (Below w.heap.size w w'))
   case atStart => exact ⟨(([] : List (S67))), (0), aP32, H', ⟨Nat.le_refl _⟩, ⟨by first | exact Kd.R_nil _ _ _ _ _ | exact Kd.N_nil _ _ _ _ _ | exact Kd.V_nil _ _ _ _ _ | exact Kd.Q_nil _ _ _ _ _ | exact Kd.S_nil _ _ _ _ _⟩, ⟨bB⟩⟩
   case round =>
    clear H'
    try clear c1
    try clear c2
    try clear p2
    try clear c5
    try clear c7
    try clear c12
    try clear p2
    obtain ⟨x8_2, x31_2, rfl, HA, HK2, HO_8, HB⟩ := hrel
    cases gk with
    | zero => exact absurd HA.out (by simp [spec_MoveMarks.l0])
    | succ k2 =>
     have H := HA.out
     clear HA
     simp only [spec_MoveMarks.l0] at H
     by_cases c13 : x31_2 < (l1.length : Int)
     rotate_left
     ·rw [if_neg c13] at H
      have c13b0 : decide (x31_2 < (l1.length : Int)) = false := decide_eq_false c13
      clear c13
      simp only [Option.some.injEq, Prod.mk.injEq] at H
      obtain ⟨rfl, rfl⟩ := H
      go_wp2
      go_ret2
      exact ⟨_, by first | rfl | (simp [errW_none, errW_some] <;> rfl) | (simp [*, errW_none, errW_some] <;> rfl), by (with_reducible repeat (first | apply Kd.R_alloc | apply Kd.R_drewN | apply Kd.R_drew)); exact HO_8.out, bB⟩
     rw [if_pos c13] at H
     have c13b0 : decide (x31_2 < (l1.length : Int)) = true := decide_eq_true c13
     clear c13
     by_cases c14 : 0 ≤ x31_2
     rotate_left
     ·rw [if_neg c14] at H
      exact absurd H (by simp)
     rw [if_pos c14] at H
     have c14b0 : decide (0 ≤ x31_2) = true := decide_eq_true c14
     clear c14
     by_cases c15 : x31_2 < (l1.length : Int)
     rotate_left
     ·rw [if_neg c15] at H
      exact absurd H (by simp)
     rw [if_pos c15] at H
     have c15b0 : decide (x31_2 < (l1.length : Int)) = true := decide_eq_true c15
     clear c15
     replace H := Option.bind_eq_some_iff.mp H
     obtain ⟨⟨t231, t232⟩, A160, H⟩ := H
     replace H : ((spec_l5Gap.f k2 l0 ((rd_T67 l1 x31_2).f1)).bind fun bt233 => (if t232 < bt233.1 then ((spec_l5Add.f k2 x8_2 t232 bt233.1 ((rd_T67 l1 x31_2).f2)).bind fun t235 => (spec_MoveMarks.l0 k2 l0 t235 l1 (l1.length : Int) (wrap64 (x31_2 + 1)))) else (spec_MoveMarks.l0 k2 l0 x8_2 l1 (l1.length : Int) (wrap64 (x31_2 + 1))))) = some (r1, r2) := H
     have A16 := aM A160
     clear A160
     replace H := Option.bind_eq_some_iff.mp H
     obtain ⟨⟨t233, t234⟩, A170, H⟩ := H
     replace H : (if t232 < t233 then ((spec_l5Add.f k2 x8_2 t232 t233 ((rd_T67 l1 x31_2).f2)).bind fun t235 => (spec_MoveMarks.l0 k2 l0 t235 l1 (l1.length : Int) (wrap64 (x31_2 + 1)))) else (spec_MoveMarks.l0 k2 l0 x8_2 l1 (l1.length : Int) (wrap64 (x31_2 + 1)))) = some (r1, r2) := H
     have A17 := aM A170
     clear A170
     by_cases c18 : t232 < t233
     rotate_left
     ·rw [if_neg c18] at H
      have c18b0 : decide (t232 < t233) = false := decide_eq_false c18
      clear c18
      have H' := aM H
      clear H
      have p229 : 0 ≤ (x31_2 : Int) := of_decide_eq_true (by assumption)
      have q229 : x31_2 < (l1.length : Int) := of_decide_eq_true (by assumption)
      obtain ⟨ad229, e229, hx229_0, hx229_1, hx229_2⟩ := at_T67 HR1.out x31_2 p229 q229
      cases e229
      replace hx229_0 := hC HB.out hx229_0
      replace hx229_1 := hC HB.out hx229_1
      replace hx229_2 := hC HB.out hx229_2
      replace p229 := eq_true p229
      replace q229 := eq_true q229
      go_wp2_with (first | ((with_reducible refine gate_dst (N := 10) rfl ?_); refine box_event ?hg (N := 10) ?hd (cs := #[.int .i64 0, .int .i64 0, .string (⟨#[]⟩ : ByteArray)]) (t := 67) ?hr ?_; (case hd => rfl); (case hg => rfl); (case hr => exact aP40); intro gb230 hg w28 hbox hb; have BK230 := aM (hbox); have GW230 := aM (bG (w := w) hg); have GE230 := aM (bG (w := w) hg); replace HO_8 := aM (Kd.R_below (Kd.R_elderB (rR HO_8.out) gb230 (Nat.le_of_eq hg.symm)) hb); replace HB := aM (below_step bB hb); clear hb hbox hg; obtain ⟨hcz29_0, hcz29_1, hcz29_2, hfz29_0, hfz29_1, hfz29_2⟩ := bx3 BK230.out) | ((with_reducible refine gate_callee (f := 54) rfl ?_); refine goesL_ (some 39) rfl rfl Try.func54 (by kernel_rfl) rfl #[.slice A0 l0.length c0, .int .i64 ((rd_T67 l1 x31_2).f0)] rfl mM ?_; (with_reducible refine (spec_l5Gap.calls k2 _ _ l0 ((rd_T67 l1 x31_2).f0) t231 t232 _ ?side1 ?side2 A16.out).mono ?_); (case side1 => exact Kd.C_below HR0.out aP12); (case side2 => exact HC0.out); rintro e w30 ⟨rfl, hb⟩; refine ⟨_, rfl, ?_⟩; have n0_ := aM (Kd.R_below (by (with_reducible repeat (first | apply Kd.R_alloc | apply Kd.R_drewN | apply Kd.R_drew)); exact (Kd.R_mono (Kd.R_far (p := ⟨gb230, 2, none⟩) (Kd.R_far (p := ⟨gb230, 1, none⟩) (Kd.R_far (p := ⟨gb230, 0, none⟩) (Kd.R_mono HO_8.out (fun k_ hk => (⟨hk, hk.2⟩ : _ ∧ k_ ≠ gb230))) (fun _ hk => hk.2) (.int .i64 ((rd_T67 l1 x31_2).f0))) (fun _ hk => hk.2) (.int .i64 ((rd_T67 l1 x31_2).f1))) (fun _ hk => hk.2) (.string ((rd_T67 l1 x31_2).f2))) (fun _ h_ => h_.1))) hb); have n1_ := aM (blk_below (g := gb230) (o := .cells #[.int .i64 ((rd_T67 l1 x31_2).f0), .int .i64 ((rd_T67 l1 x31_2).f1), .string ((rd_T67 l1 x31_2).f2)] 67 (0, 0)) (by (with_reducible repeat (first | refine blk_drewN ?_ _ | refine blk_drew ?_ | refine blk_alloc ?_ _)); refine blk_put (cs := #[.int .i64 ((rd_T67 l1 x31_2).f0), .int .i64 ((rd_T67 l1 x31_2).f1), .string (⟨#[]⟩ : ByteArray)]) ?_ 2 _ rfl; (with_reducible repeat (first | refine blk_drewN ?_ _ | refine blk_drew ?_ | refine blk_alloc ?_ _)); refine blk_put (cs := #[.int .i64 ((rd_T67 l1 x31_2).f0), .int .i64 0, .string (⟨#[]⟩ : ByteArray)]) ?_ 1 _ rfl; (with_reducible repeat (first | refine blk_drewN ?_ _ | refine blk_drew ?_ | refine blk_alloc ?_ _)); refine blk_put (cs := #[.int .i64 0, .int .i64 0, .string (⟨#[]⟩ : ByteArray)]) ?_ 0 _ rfl; exact kK BK230.out) hb); have n2_ := aM (below_step aP12 hb); clear HO_8; clear BK230; clear HB; have HO_8 := n0_; have BK230 := n1_; have HB := n2_; clear n0_ n1_ n2_; (try clear hb); (try clear hb2); (try clear hk); (try clear hi); obtain ⟨hcz31_0, hcz31_1, hcz31_2, hfz31_0, hfz31_1, hfz31_2⟩ := bx3 BK230.out) | ((with_reducible refine gate_callee (f := 54) rfl ?_); refine goesL_ (some 46) rfl rfl Try.func54 (by kernel_rfl) rfl #[.slice A0 l0.length c0, .int .i64 ((rd_T67 l1 x31_2).f1)] rfl mM ?_; (with_reducible refine (spec_l5Gap.calls k2 _ _ l0 ((rd_T67 l1 x31_2).f1) t233 t234 _ ?side1 ?side2 A17.out).mono ?_); (case side1 => exact cC (Kd.C_below HR0.out HB.out)); (case side2 => exact HC0.out); rintro e w32 ⟨rfl, hb⟩; refine ⟨_, rfl, ?_⟩; replace HO_8 := aM (Kd.R_below (rR HO_8.out) hb); replace BK230 := aM (blk_below (g := gb230) (o := .cells #[.int .i64 ((rd_T67 l1 x31_2).f0), .int .i64 ((rd_T67 l1 x31_2).f1), .string ((rd_T67 l1 x31_2).f2)] 67 (0, 0)) (kK BK230.out) hb); replace HB := aM (below_step aP12 hb); (try clear hb); (try clear hb2); (try clear hk); (try clear hi)))
      go_roundg k2
      case measure => have := HJ3.out; have := HK2.out; omega
      case rel => exact ⟨(x8_2), (wrap64 (x31_2 + 1)), aP32, H', ⟨by have := HJ3.out; have := HK2.out; omega⟩, ⟨by (with_reducible repeat (first | apply Kd.R_alloc | apply Kd.R_drewN | apply Kd.R_drew)); exact Kd.R_mono HO_8.out (fun _ hk => trivial)⟩, ⟨aP12⟩⟩
     rw [if_pos c18] at H
     have c18b0 : decide (t232 < t233) = true := decide_eq_true c18
     clear c18
     replace H := Option.bind_eq_some_iff.mp H
     obtain ⟨t235, A190, H⟩ := H
     replace H : (spec_MoveMarks.l0 k2 l0 t235 l1 (l1.length : Int) (wrap64 (x31_2 + 1))) = some (r1, r2) := H
     have A19 := aM A190
     clear A190
     have H' := aM H
     clear H
     have p229 : 0 ≤ (x31_2 : Int) := of_decide_eq_true (by assumption)
     have q229 : x31_2 < (l1.length : Int) := of_decide_eq_true (by assumption)
     obtain ⟨ad229, e229, hx229_0, hx229_1, hx229_2⟩ := at_T67 HR1.out x31_2 p229 q229
     cases e229
     replace hx229_0 := hC HB.out hx229_0
     replace hx229_1 := hC HB.out hx229_1
     replace hx229_2 := hC HB.out hx229_2
     replace p229 := eq_true p229
     replace q229 := eq_true q229
     go_wp2_with (first | ((with_reducible refine gate_dst (N := 10) rfl ?_); refine box_event ?hg (N := 10) ?hd (cs := #[.int .i64 0, .int .i64 0, .string (⟨#[]⟩ : ByteArray)]) (t := 67) ?hr ?_; (case hd => rfl); (case hg => rfl); (case hr => exact aP40); intro gb230 hg w20 hbox hb; have BK230 := aM (hbox); have GW230 := aM (bG (w := w) hg); have GE230 := aM (bG (w := w) hg); replace HO_8 := aM (Kd.R_below (Kd.R_elderB (rR HO_8.out) gb230 (Nat.le_of_eq hg.symm)) hb); replace HB := aM (below_step bB hb); clear hb hbox hg; obtain ⟨hcz21_0, hcz21_1, hcz21_2, hfz21_0, hfz21_1, hfz21_2⟩ := bx3 BK230.out) | ((with_reducible refine gate_callee (f := 54) rfl ?_); refine goesL_ (some 39) rfl rfl Try.func54 (by kernel_rfl) rfl #[.slice A0 l0.length c0, .int .i64 ((rd_T67 l1 x31_2).f0)] rfl mM ?_; (with_reducible refine (spec_l5Gap.calls k2 _ _ l0 ((rd_T67 l1 x31_2).f0) t231 t232 _ ?side1 ?side2 A16.out).mono ?_); (case side1 => exact Kd.C_below HR0.out aP12); (case side2 => exact HC0.out); rintro e w22 ⟨rfl, hb⟩; refine ⟨_, rfl, ?_⟩; have n0_ := aM (Kd.R_below (by (with_reducible repeat (first | apply Kd.R_alloc | apply Kd.R_drewN | apply Kd.R_drew)); exact (Kd.R_mono (Kd.R_far (p := ⟨gb230, 2, none⟩) (Kd.R_far (p := ⟨gb230, 1, none⟩) (Kd.R_far (p := ⟨gb230, 0, none⟩) (Kd.R_mono HO_8.out (fun k_ hk => (⟨hk, hk.2⟩ : _ ∧ k_ ≠ gb230))) (fun _ hk => hk.2) (.int .i64 ((rd_T67 l1 x31_2).f0))) (fun _ hk => hk.2) (.int .i64 ((rd_T67 l1 x31_2).f1))) (fun _ hk => hk.2) (.string ((rd_T67 l1 x31_2).f2))) (fun _ h_ => h_.1))) hb); have n1_ := aM (blk_below (g := gb230) (o := .cells #[.int .i64 ((rd_T67 l1 x31_2).f0), .int .i64 ((rd_T67 l1 x31_2).f1), .string ((rd_T67 l1 x31_2).f2)] 67 (0, 0)) (by (with_reducible repeat (first | refine blk_drewN ?_ _ | refine blk_drew ?_ | refine blk_alloc ?_ _)); refine blk_put (cs := #[.int .i64 ((rd_T67 l1 x31_2).f0), .int .i64 ((rd_T67 l1 x31_2).f1), .string (⟨#[]⟩ : ByteArray)]) ?_ 2 _ rfl; (with_reducible repeat (first | refine blk_drewN ?_ _ | refine blk_drew ?_ | refine blk_alloc ?_ _)); refine blk_put (cs := #[.int .i64 ((rd_T67 l1 x31_2).f0), .int .i64 0, .string (⟨#[]⟩ : ByteArray)]) ?_ 1 _ rfl; (with_reducible repeat (first | refine blk_drewN ?_ _ | refine blk_drew ?_ | refine blk_alloc ?_ _)); refine blk_put (cs := #[.int .i64 0, .int .i64 0, .string (⟨#[]⟩ : ByteArray)]) ?_ 0 _ rfl; exact kK BK230.out) hb); have n2_ := aM (below_step aP12 hb); clear HO_8; clear BK230; clear HB; have HO_8 := n0_; have BK230 := n1_; have HB := n2_; clear n0_ n1_ n2_; (try clear hb); (try clear hb2); (try clear hk); (try clear hi); obtain ⟨hcz23_0, hcz23_1, hcz23_2, hfz23_0, hfz23_1, hfz23_2⟩ := bx3 BK230.out) | ((with_reducible refine gate_callee (f := 54) rfl ?_); refine goesL_ (some 46) rfl rfl Try.func54 (by kernel_rfl) rfl #[.slice A0 l0.length c0, .int .i64 ((rd_T67 l1 x31_2).f1)] rfl mM ?_; (with_reducible refine (spec_l5Gap.calls k2 _ _ l0 ((rd_T67 l1 x31_2).f1) t233 t234 _ ?side1 ?side2 A17.out).mono ?_); (case side1 => exact cC (Kd.C_below HR0.out HB.out)); (case side2 => exact HC0.out); rintro e w24 ⟨rfl, hb⟩; refine ⟨_, rfl, ?_⟩; replace HO_8 := aM (Kd.R_below (rR HO_8.out) hb); replace BK230 := aM (blk_below (g := gb230) (o := .cells #[.int .i64 ((rd_T67 l1 x31_2).f0), .int .i64 ((rd_T67 l1 x31_2).f1), .string ((rd_T67 l1 x31_2).f2)] 67 (0, 0)) (kK BK230.out) hb); replace HB := aM (below_step aP12 hb); (try clear hb); (try clear hb2); (try clear hk); (try clear hi); obtain ⟨hcz25_0, hcz25_1, hcz25_2, hfz25_0, hfz25_1, hfz25_2⟩ := bx3 BK230.out; obtain ⟨Ao26, co26, eo26⟩ := Kd.R_slice HO_8.out; subst eo26) | ((with_reducible refine gate_callee (f := 55) rfl ?_); refine goesL_ (some 58) rfl rfl Try.func55 (by kernel_rfl) rfl #[.slice Ao26 x8_2.length co26, .agg #[.int .i64 t232, .int .i64 t233, .string ((rd_T67 l1 x31_2).f2)]] rfl mM ?_; (with_reducible refine (spec_l5Add.calls k2 _ _ x8_2 t232 t233 ((rd_T67 l1 x31_2).f2) t235 _ ?side1 ?side2 A19.out).mono ?_); (case side1 => exact cC ((Kd.R_reads' HO_8.out).2.2)); (case side2 => exact (Kd.R_reads' HO_8.out).2.1); rintro e w27 ⟨v236, rfl, ho0, hb⟩; refine ⟨_, rfl, ?_⟩; have HO237 := aM (Kd.R_lower (Kd.R_newB (Kd.R_new' ho0 (Kd.R_lt (rR HO_8.out))) (g := gb230) (o := .cells #[.int .i64 ((rd_T67 l1 x31_2).f0), .int .i64 ((rd_T67 l1 x31_2).f1), .string ((rd_T67 l1 x31_2).f2)] 67 (0, 0)) (kK BK230.out)) (below_size aP12)); replace HO_8 := aM (Kd.R_elder' (rR HO_8.out) (Kd.R_base ho0) hb); replace BK230 := aM (blk_below (g := gb230) (o := .cells #[.int .i64 ((rd_T67 l1 x31_2).f0), .int .i64 ((rd_T67 l1 x31_2).f1), .string ((rd_T67 l1 x31_2).f2)] 67 (0, 0)) (kK BK230.out) hb); replace HB := aM (below_step aP12 hb); (try clear hb); (try clear hb2); (try clear hk); (try clear hi); (try clear ho0)))
     go_roundg k2
     case measure => have := HJ3.out; have := HK2.out; omega
     case rel => exact ⟨(t235), (wrap64 (x31_2 + 1)), aP32, H', ⟨by have := HJ3.out; have := HK2.out; omega⟩, ⟨by (with_reducible repeat (first | apply Kd.R_alloc | apply Kd.R_drewN | apply Kd.R_drew)); exact Kd.R_mono HO237.out (fun _ hk => trivial)⟩, ⟨aP12⟩⟩
def laws_toPart.f (a0_0 : Int) (a0_1 : ByteArray) (a0_2 : ByteArray) : Option (Int × ByteArray × ByteArray) := some (a0_0, a0_1, a0_2)
set_option maxHeartbeats 8000000 in
set_option maxRecDepth 100000 in
theorem laws_toPart.calls (a0_0 : Int) (a0_1 : ByteArray) (a0_2 : ByteArray) (r1 : Int) (r2 : ByteArray) (r3 : ByteArray) (w : World) (h : laws_toPart.f a0_0 a0_1 a0_2 = some (r1, r2, r3)) :
  Calls Try.prog 56 #[.agg #[.int .i64 a0_0, .string a0_1, .string a0_2]] w fun e w' => e = .returned (.agg #[.int .i64 r1, .string r2, .string r3]) ∧ Below w.heap.size w w' := by
 have hu77 := Try.underlying77
 have hu61 := Try.underlying61
 have HB := aM (Below.refl w.heap.size w)
 have H : (some (a0_0, a0_1, a0_2)) = some (r1, r2, r3) := h
 clear h
 simp only [Option.some.injEq, Prod.mk.injEq] at H
 obtain ⟨rfl, rfl, rfl⟩ := H
 go_enter Try.func56, Try.ntmps56
 go_wp2_with (first | ((with_reducible refine gate_dst (N := 1) rfl ?_); refine box_event ?hg (N := 1) ?hd (cs := #[.int .i64 a0_0, .string a0_1, .string a0_2]) (t := 77) ?hr ?_; (case hd => rfl); (case hg => rfl); (case hr => exact aP40); intro gb238 hg w2 hbox hb; have BK238 := aM (hbox); have GW238 := aM (bG (w := w) hg); have GE238 := aM (bG (w := w) hg); replace HB := aM (below_step bB hb); clear hb hbox hg) | ((with_reducible refine gate_dst (N := 2) rfl ?_); refine box_event ?hg (N := 2) ?hd (cs := #[.int .i64 0, .string (⟨#[]⟩ : ByteArray), .string (⟨#[]⟩ : ByteArray)]) (t := 61) ?hr ?_; (case hd => rfl); (case hg => rfl); (case hr => exact aP40); intro gb239 hg w3 hbox hb; have n0_ := aM (blk_below (g := gb238) (o := .cells #[.int .i64 a0_0, .string a0_1, .string a0_2] 77 (0, 0)) (kK BK238.out) hb); have n1_ := aM (below_step aP27 hb); have n2_ := aM (hbox); have n3_ := aM ((by rw [hg]; exact (below_size aP27) : w.heap.size ≤ gb239)); have n4_ := aM ((by rw [hg]; exact (below_size aP27) : w.heap.size ≤ gb239)); have n5_ := aM ((by rw [hg]; exact Nat.ne_of_lt (blk_lt (g := gb238) (o := .cells #[.int .i64 a0_0, .string a0_1, .string a0_2] 77 (0, 0)) (kK BK238.out)) : gb238 ≠ gb239)); have n6_ := aM ((by rw [hg]; exact Nat.ne_of_gt (blk_lt (g := gb238) (o := .cells #[.int .i64 a0_0, .string a0_1, .string a0_2] 77 (0, 0)) (kK BK238.out)) : gb239 ≠ gb238)); clear BK238; clear HB; have BK238 := n0_; have HB := n1_; have BK239 := n2_; have GW239 := n3_; have GE239 := n4_; have NB238_239 := n5_; have NB239_238 := n6_; clear n0_ n1_ n2_ n3_ n4_ n5_ n6_; clear hb hbox hg) | ((with_reducible refine gate_dst (N := 3) rfl ?_); refine box_event ?hg (N := 3) ?hd (cs := #[.int .i64 0, .string (⟨#[]⟩ : ByteArray), .string (⟨#[]⟩ : ByteArray)]) (t := 61) ?hr ?_; (case hd => rfl); (case hg => rfl); (case hr => exact aP40); intro gb240 hg w4 hbox hb; have n0_ := aM (blk_below (g := gb238) (o := .cells #[.int .i64 a0_0, .string a0_1, .string a0_2] 77 (0, 0)) (kK BK238.out) hb); have n1_ := aM (blk_below (g := gb239) (o := .cells #[.int .i64 0, .string (⟨#[]⟩ : ByteArray), .string (⟨#[]⟩ : ByteArray)] 61 (0, 0)) (kK BK239.out) hb); have n2_ := aM (below_step aP28 hb); have n3_ := aM (hbox); have n4_ := aM ((by rw [hg]; exact (below_size aP28) : w.heap.size ≤ gb240)); have n5_ := aM ((by rw [hg]; exact (below_size aP28) : w.heap.size ≤ gb240)); have n6_ := aM ((by rw [hg]; exact Nat.ne_of_lt (blk_lt (g := gb238) (o := .cells #[.int .i64 a0_0, .string a0_1, .string a0_2] 77 (0, 0)) (kK BK238.out)) : gb238 ≠ gb240)); have n7_ := aM ((by rw [hg]; exact Nat.ne_of_gt (blk_lt (g := gb238) (o := .cells #[.int .i64 a0_0, .string a0_1, .string a0_2] 77 (0, 0)) (kK BK238.out)) : gb240 ≠ gb238)); have n8_ := aM ((by rw [hg]; exact Nat.ne_of_lt (blk_lt (g := gb239) (o := .cells #[.int .i64 0, .string (⟨#[]⟩ : ByteArray), .string (⟨#[]⟩ : ByteArray)] 61 (0, 0)) (kK BK239.out)) : gb239 ≠ gb240)); have n9_ := aM ((by rw [hg]; exact Nat.ne_of_gt (blk_lt (g := gb239) (o := .cells #[.int .i64 0, .string (⟨#[]⟩ : ByteArray), .string (⟨#[]⟩ : ByteArray)] 61 (0, 0)) (kK BK239.out)) : gb240 ≠ gb239)); clear BK238; clear BK239; clear HB; have BK238 := n0_; have BK239 := n1_; have HB := n2_; have BK240 := n3_; have GW240 := n4_; have GE240 := n5_; have NB238_240 := n6_; have NB240_238 := n7_; have NB239_240 := n8_; have NB240_239 := n9_; clear n0_ n1_ n2_ n3_ n4_ n5_ n6_ n7_ n8_ n9_; clear hb hbox hg; have hnb5 := NB238_239.out; have hnc5 := NB239_238.out; have hnb6 := NB238_240.out; have hnc6 := NB240_238.out; obtain ⟨hcz7_0, hcz7_1, hcz7_2, hfz7_0, hfz7_1, hfz7_2⟩ := bx3 BK238.out; have hnb8 := NB240_239.out; have hnc8 := NB239_240.out; obtain ⟨hcz9_0, hcz9_1, hcz9_2, hfz9_0, hfz9_1, hfz9_2⟩ := bx3 BK240.out; obtain ⟨hcz10_0, hcz10_1, hcz10_2, hfz10_0, hfz10_1, hfz10_2⟩ := bx3 BK239.out))
 refine bodyPost_ret (results_cell_row rfl _ _ gb239 61 #[.int .i64 a0_0, .string a0_1, .string a0_2] (0, 0) _ rfl (by (with_reducible repeat (first | refine blk_drewN ?_ _ | refine blk_drew ?_ | refine blk_alloc ?_ _)); refine blk_put (cs := #[.int .i64 a0_0, .string a0_1, .string (⟨#[]⟩ : ByteArray)]) ?_ 2 _ rfl; (with_reducible repeat (first | refine blk_drewN ?_ _ | refine blk_drew ?_ | refine blk_alloc ?_ _)); refine blk_put (cs := #[.int .i64 a0_0, .string (⟨#[]⟩ : ByteArray), .string (⟨#[]⟩ : ByteArray)]) ?_ 1 _ rfl; (with_reducible repeat (first | refine blk_drewN ?_ _ | refine blk_drew ?_ | refine blk_alloc ?_ _)); refine blk_put (cs := #[.int .i64 0, .string (⟨#[]⟩ : ByteArray), .string (⟨#[]⟩ : ByteArray)]) ?_ 0 _ rfl; (with_reducible repeat (first | refine blk_drewN ?_ _ | refine blk_drew ?_ | refine blk_alloc ?_ _)); refine blk_far ?_ NB239_240.out _; (with_reducible repeat (first | refine blk_drewN ?_ _ | refine blk_drew ?_ | refine blk_alloc ?_ _)); refine blk_far ?_ NB239_240.out _; (with_reducible repeat (first | refine blk_drewN ?_ _ | refine blk_drew ?_ | refine blk_alloc ?_ _)); refine blk_far ?_ NB239_240.out _; exact kK BK239.out) Try.underlying61 rfl (by kernel_rfl)) rfl ?_
 exact ⟨eR, by repeat (first | (with_reducible first | exact HB.out | apply below_alloc | apply pw_below_drewN | apply below_drew1 | refine below_set ?_ GE238.out | refine below_set ?_ GE239.out | refine below_set ?_ GE240.out) | exact HB.out)⟩
def laws_toPartS.l0 : Nat → List (S77) → List (S61) → Int → Option ((List (S61)))
 | 0, _, _, _ => none
 | k + 1, x0, x3, x4 => if x4 < (x0.length : Int) then (if 0 ≤ x4 then ((laws_toPart.f ((rd_T77 x0 x4).f0) ((rd_T77 x0 x4).f1) ((rd_T77 x0 x4).f2)).bind fun bt245 => (if x4 < (x3.length : Int) then (laws_toPartS.l0 k x0 (x3.set (x4 : Int).toNat (⟨bt245.1, bt245.2.1, bt245.2.2⟩ : S61)) (wrap64 (x4 + 1))) else (none))) else (none)) else (some x3)
def laws_toPartS.f (k : Nat) (l0 : List (S77)) : Option ((List (S61))) := if 0 ≤ (l0.length : Int) then (if ((l0.length : Int) : Int).toNat ≤ 7036874417766 then (laws_toPartS.l0 k l0 (List.replicate ((l0.length : Int) : Int).toNat z61) 0) else (none)) else (none)
theorem laws_toPartS.mono_l : ∀ k, (∀ y0 y1 y2, LeO (laws_toPartS.l0 k y0 y1 y2) (laws_toPartS.l0 (k + 1) y0 y1 y2))
 | 0 => fun _ _ _ r h => by simp [laws_toPartS.l0] at h
 | k + 1 => by
  have ih0 := laws_toPartS.mono_l k
  ·intro y0 y1 y2
   unfold laws_toPartS.l0
   repeat' (with_reducible first | exact ih0 _ _ _ | exact LeO.refl _ | exact LeO.none _ | refine LeO.ite ?_ ?_ | refine LeO.bind ?_ (fun _ => ?_))
theorem laws_toPartS.mono : ∀ a0 k, LeO (laws_toPartS.f k a0) (laws_toPartS.f (k + 1) a0) := by
 intro a0 k
 have ih0 := laws_toPartS.mono_l k
 unfold laws_toPartS.f
 repeat' (with_reducible first | exact ih0 _ _ _ | exact LeO.refl _ | exact LeO.none _ | refine LeO.ite ?_ ?_ | refine LeO.bind ?_ (fun _ => ?_))
set_option maxHeartbeats 8000000 in
set_option maxRecDepth 100000 in
theorem laws_toPartS.calls (k : Nat) (A0 : Option Addr) (c0 : Nat) (l0 : List (S77)) (r : List (S61)) (w : World) (hr0 : Kd.C k77 w A0 l0.length l0) (hc0 : l0.length ≤ c0) (h : laws_toPartS.f k l0 = some r) :
  Calls Try.prog 29 #[.slice A0 l0.length c0] w fun e w' => ∃ v0_ : Value, e = .returned (v0_) ∧ Kd.R k61 61 w' w.heap.size (fun _ => True) v0_ r ∧ Below w.heap.size w w' := by
 have hu77 := Try.underlying77
 have hu61 := Try.underlying61
 have HR0 := aM hr0
 have HC0 := aM hc0
 clear hr0 hc0
 have HB := aM (Below.refl w.heap.size w)
 have H : (if 0 ≤ (l0.length : Int) then (if ((l0.length : Int) : Int).toNat ≤ 7036874417766 then (laws_toPartS.l0 k l0 (List.replicate ((l0.length : Int) : Int).toNat z61) 0) else (none)) else (none)) = some r := h
 clear h
 by_cases c2 : 0 ≤ (l0.length : Int)
 rotate_left
 ·rw [if_neg c2] at H
  exact absurd H (by simp)
 rw [if_pos c2] at H
 have c2b0 := eq_true c2
 have c2b1 : decide (0 ≤ (l0.length : Int)) = true := decide_eq_true c2
 clear c2
 by_cases c3 : ((l0.length : Int) : Int).toNat ≤ 7036874417766
 rotate_left
 ·rw [if_neg c3] at H
  exact absurd H (by simp)
 rw [if_pos c3] at H
 have c3b0 := eq_true c3
 have c3b1 : decide (((l0.length : Int) : Int).toNat ≤ 7036874417766) = true := decide_eq_true c3
 try simp only [Int.toNat_natCast] at c3b1
 clear c3
 obtain ⟨y241, hy241⟩ : ∃ y_ : List (S61), y_ = (List.replicate ((l0.length : Int) : Int).toNat z61) := ⟨_, rfl⟩
 replace H : (laws_toPartS.l0 k l0 y241 0) = some r := by first | (rw [hy241]; with_reducible exact H) | (have H2_ := (Option.bind_some _ _).symm.trans H; rw [hy241]; with_reducible exact H2_) | (have H2_ := (Option.bind_some _ _).symm.trans H; with_reducible exact H2_) | with_reducible exact H | (rw [hy241]; exact H) | exact H
 have Ny241 := aM hy241
 clear hy241
 have H' := aM H
 clear H
 go_enter Try.func29, Try.ntmps29
 go_wp2_with (first | ((with_reducible refine gate_dst (N := 7) rfl ?_); refine Kd.R_make k61 _ 61 rfl (N := 7) rfl 45 _ _ rfl (l0.length : Int) rfl rfl Try.underlying45 (.agg #[(.int .i64 0), (.string ⟨#[]⟩), (.string ⟨#[]⟩)]) 40 info61 rfl (by decide) (by omega) z61 (ok := fun _ => True) (okp := fun _ => True) (k61_mkM _ _ _ z61 ) (fun _ hk => hk) trivial (of_decide_eq_true (by assumption)) (Nat.le_trans (Nat.mul_le_mul_right _ (of_decide_eq_true (by assumption) : (l0.length : Int).toNat ≤ 7036874417766)) (by omega)) (Below.refl _ _) (Nat.le_refl _) ?_; intro v242 w4 ho5 hb hg_ hnew_; clear hg_ hnew_; (first | rw [← Ny241.out] at ho5 | (simp only [Int.reduceToNat] at ho5; rw [← Ny241.out] at ho5)); have HO243 := aM (Kd.R_lower ho5 (below_size bB)); replace HB := aM (below_step bB hb); clear hb ho5))
 go_loopg [4] k (fun kq v4 w' => ∃ (x3_1 : List (S61)) (x4_1 : Int), v4 = .int .i64 x4_1 ∧ Aside0 (laws_toPartS.l0 kq l0 x3_1 x4_1 = some r) ∧ Aside0 (kq ≤ k) ∧ Aside0 (Kd.R k61 61 w' w.heap.size (fun _ => True) v242 x3_1) ∧ Aside0 (Below w.heap.size w w'))
 case atStart => exact ⟨(y241), (0), aP32, H', ⟨Nat.le_refl _⟩, ⟨rR HO243.out⟩, ⟨bB⟩⟩
 case round =>
  clear H'
  try clear c2
  try clear c2b0
  try clear c2b1
  try clear p2
  try clear c3
  try clear c3b0
  try clear c3b1
  obtain ⟨x3_1, x4_1, rfl, HA, HK1, HO_3, HB⟩ := hrel
  cases gk with
  | zero => exact absurd HA.out (by simp [laws_toPartS.l0])
  | succ k1 =>
   have H := HA.out
   clear HA
   simp only [laws_toPartS.l0] at H
   by_cases c6 : x4_1 < (l0.length : Int)
   rotate_left
   ·rw [if_neg c6] at H
    have c6b0 : decide (x4_1 < (l0.length : Int)) = false := decide_eq_false c6
    clear c6
    obtain rfl := Option.some.inj H
    go_wp2
    go_ret
    exact ⟨_, by first | rfl | (simp [errW_none, errW_some] <;> rfl) | (simp [*, errW_none, errW_some] <;> rfl), by (with_reducible repeat (first | apply Kd.R_alloc | apply Kd.R_drewN | apply Kd.R_drew)); exact HO_3.out, bB⟩
   rw [if_pos c6] at H
   have c6b0 : decide (x4_1 < (l0.length : Int)) = true := decide_eq_true c6
   clear c6
   by_cases c7 : 0 ≤ x4_1
   rotate_left
   ·rw [if_neg c7] at H
    exact absurd H (by simp)
   rw [if_pos c7] at H
   have c7b0 : decide (0 ≤ x4_1) = true := decide_eq_true c7
   clear c7
   replace H := Option.bind_eq_some_iff.mp H
   obtain ⟨⟨t245, t246, t247⟩, A80, H⟩ := H
   replace H : (if x4_1 < (x3_1.length : Int) then (laws_toPartS.l0 k1 l0 (x3_1.set (x4_1 : Int).toNat (⟨t245, t246, t247⟩ : S61)) (wrap64 (x4_1 + 1))) else (none)) = some r := H
   have A8 := aM A80
   clear A80
   by_cases c9 : x4_1 < (x3_1.length : Int)
   rotate_left
   ·rw [if_neg c9] at H
    exact absurd H (by simp)
   rw [if_pos c9] at H
   have c9b0 : decide (x4_1 < (x3_1.length : Int)) = true := decide_eq_true c9
   clear c9
   obtain ⟨y248, hy248⟩ : ∃ y_ : List (S61), y_ = (x3_1.set (x4_1 : Int).toNat (⟨t245, t246, t247⟩ : S61)) := ⟨_, rfl⟩
   replace H : (laws_toPartS.l0 k1 l0 y248 (wrap64 (x4_1 + 1))) = some r := by first | (rw [hy248]; with_reducible exact H) | (have H2_ := (Option.bind_some _ _).symm.trans H; rw [hy248]; with_reducible exact H2_) | (have H2_ := (Option.bind_some _ _).symm.trans H; with_reducible exact H2_) | with_reducible exact H | (rw [hy248]; exact H) | exact H
   have Ny248 := aM hy248
   clear hy248
   have H' := aM H
   clear H
   have p244 : 0 ≤ (x4_1 : Int) := of_decide_eq_true (by assumption)
   have q244 : x4_1 < (l0.length : Int) := of_decide_eq_true (by assumption)
   obtain ⟨ad244, e244, hx244_0, hx244_1, hx244_2⟩ := at_T77 HR0.out x4_1 p244 q244
   cases e244
   replace hx244_0 := hC HB.out hx244_0
   replace hx244_1 := hC HB.out hx244_1
   replace hx244_2 := hC HB.out hx244_2
   replace p244 := eq_true p244
   replace q244 := eq_true q244
   go_wp2_with (first | ((with_reducible refine gate_callee (f := 56) rfl ?_); refine goesL_ (some 20) rfl rfl Try.func56 (by kernel_rfl) rfl #[.agg #[.int .i64 ((rd_T77 l0 x4_1).f0), .string ((rd_T77 l0 x4_1).f1), .string ((rd_T77 l0 x4_1).f2)]] rfl mM ?_; (with_reducible refine (laws_toPart.calls ((rd_T77 l0 x4_1).f0) ((rd_T77 l0 x4_1).f1) ((rd_T77 l0 x4_1).f2) t245 t246 t247 _ A8.out).mono ?_); rintro e w11 ⟨rfl, hb⟩; refine ⟨_, rfl, ?_⟩; replace HO_3 := aM (Kd.R_below (rR HO_3.out) hb); replace HB := aM (below_step bB hb); (try clear hb); (try clear hb2); (try clear hk); (try clear hi); have p10 : 0 ≤ (x4_1 : Int) := of_decide_eq_true (by assumption); have q10 : (x4_1 : Int) < ((x3_1.length : Int) : Int) := of_decide_eq_true (by assumption); obtain ⟨go10, co10, eo10, gb10, gl10, cl10, HG10⟩ := Kd.R_form HO_3.out (by omega); (first | cases eo10 | (injection eo10 with ea_ en_ ec_; (first | subst ea_ | (injection ea_ with ea_; subst ea_)); subst ec_; clear en_)); have GB10 := aM gb10; have GG10 := aM HG10; clear gb10 gl10 HG10; obtain ⟨ce10, hcl10, hM10, hcc10, hfr10⟩ := Kd.R_elem HO_3.out z61 (x4_1 : Int) p10 q10; obtain rfl := k61_openM hM10; have hx10_0 : w11.cell? ⟨go10, (x4_1 : Int).toNat * 3, none⟩ = some (.int .i64 ((rd_T61 x3_1 x4_1).f0)) := hcc10 0 _ rfl; have hx10_1 : w11.cell? ⟨go10, (x4_1 : Int).toNat * 3 + 1, none⟩ = some (.string ((rd_T61 x3_1 x4_1).f1)) := hcc10 1 _ rfl; have hx10_2 : w11.cell? ⟨go10, (x4_1 : Int).toNat * 3 + 2, none⟩ = some (.string ((rd_T61 x3_1 x4_1).f2)) := hcc10 2 _ rfl; have hf10_0 : w11.frozen? ⟨go10, (x4_1 : Int).toNat * 3, none⟩ = false := hfr10 0; have hf10_1 : w11.frozen? ⟨go10, (x4_1 : Int).toNat * 3 + 1, none⟩ = false := hfr10 1; have hf10_2 : w11.frozen? ⟨go10, (x4_1 : Int).toNat * 3 + 2, none⟩ = false := hfr10 2; clear hcl10 hcc10 hfr10 hM10; replace p10 := eq_true p10; replace q10 := eq_true q10; have HX12 := aM (show Kd.R k61 61 w11 w.heap.size (fun _ => True) (.slice (some ⟨go10, 0, none⟩) x3_1.length co10) x3_1 from (rR HO_3.out)); obtain ⟨ce12, hcl12, hM12, hcc12, hfr12⟩ := Kd.R_elem HX12.out z61 (x4_1 : Int) (of_decide_eq_true (by assumption)) (by have h_ : (x4_1 : Int) < ((x3_1.length : Int) : Int) := of_decide_eq_true (by assumption); first | exact h_ | (have e_ := (Kd.R_reads' HO_3.out).1; omega) | simpa using h_); obtain rfl := k61_openM hM12; have HP12 := Kd.R_seg HX12.out (x4_1 : Int) (of_decide_eq_true (by assumption)) (by have h_ : (x4_1 : Int) < ((x3_1.length : Int) : Int) := of_decide_eq_true (by assumption); first | exact h_ | (have e_ := (Kd.R_reads' HO_3.out).1; omega) | simpa using h_) (seg := [.int .i64 t245, .string t246, .string t247]) (j := 0) hcl12 hcc12 (show 3 ≤ 3 from by decide) (x' := (⟨t245, t246, t247⟩ : S61)) (k61_mkM _ _ _ (⟨t245, t246, t247⟩ : S61) ) (fun _ hk => hk); have hx12_0 := hcc12 0 _ rfl; (try simp only [show (k61).sz = 3 from rfl, Nat.mul_one, Nat.add_zero] at hx12_0); have hf12_0 := hfr12 0; (try simp only [show (k61).sz = 3 from rfl, Nat.mul_one, Nat.add_zero] at hf12_0); have hx12_1 := hcc12 1 _ rfl; (try simp only [show (k61).sz = 3 from rfl, Nat.mul_one, Nat.add_zero] at hx12_1); have hf12_1 := hfr12 1; (try simp only [show (k61).sz = 3 from rfl, Nat.mul_one, Nat.add_zero] at hf12_1); have hx12_2 := hcc12 2 _ rfl; (try simp only [show (k61).sz = 3 from rfl, Nat.mul_one, Nat.add_zero] at hx12_2); have hf12_2 := hfr12 2; (try simp only [show (k61).sz = 3 from rfl, Nat.mul_one, Nat.add_zero] at hf12_2); clear hcl12 hcc12 hfr12 hM12) | ((with_reducible refine gate_store (t := 61) (p := 21) rfl ?_); refine store_event (t := 61) (p := 21) (v := ?vo_w13) (w1 := (((w11.setCell ⟨go10, (x4_1 : Int).toNat * 3, none⟩ (.int .i64 t245)).setCell ⟨go10, (x4_1 : Int).toNat * 3 + 1, none⟩ (.string t246)).setCell ⟨go10, (x4_1 : Int).toNat * 3 + 2, none⟩ (.string t247))) ?hg ?ho ?hn ?hr ?_; (case ho => rfl); (case hg => rfl); (case hn => rfl); (case hr => exact aP40); intro w13 hw; have hg : w11.grownBy w13 (some go10) := (by rw [hw]; exact HP12.2); have hp_ : Kd.R k61 61 w13 w.heap.size (fun _ => True) (.slice (some ⟨go10, 0, none⟩) x3_1.length co10) y248 := (by rw [hw, Ny248.out]; exact HP12.1); clear HP12; have n0_ := aM (hp_); have n1_ := aM ((by rw [hw]; exact below_set (below_set (below_set (HB.out) GB10.out) GB10.out) GB10.out : Below w.heap.size w w13)); clear HO_3; clear HB; have HO_3 := n0_; have HB := n1_; clear n0_ n1_; clear hg hw hp_))
   go_roundg k1
   case measure => have := HK1.out; omega
   case rel => exact ⟨(y248), (wrap64 (x4_1 + 1)), aP32, H', ⟨by have := HK1.out; omega⟩, ⟨rR HO_3.out⟩, ⟨bB⟩⟩
def impl_isStyle.l0 : Nat → ByteArray → Int → Int → Option (Bool)
 | 0, _, _, _ => none
 | k + 1, x0, x5, x6 => if x6 < x5 then (if 0 ≤ x6 then (if x6 < (x0.size : Int) then (if (bt x0 x6) < 97 then (some false) else (if (bt x0 x6) > 122 then (some false) else (impl_isStyle.l0 k x0 x5 (wrap64 (x6 + 1))))) else (none)) else (none)) else (if x0.toList = ([] : List UInt8) then (some false) else (some (decide ((x0.size : Int) ≤ 8))))
def impl_isStyle.f (k : Nat) (a0 : ByteArray) : Option (Bool) := impl_isStyle.l0 k a0 (a0.size : Int) 0
theorem impl_isStyle.mono_l : ∀ k, (∀ y0 y1 y2, LeO (impl_isStyle.l0 k y0 y1 y2) (impl_isStyle.l0 (k + 1) y0 y1 y2))
 | 0 => fun _ _ _ r h => by simp [impl_isStyle.l0] at h
 | k + 1 => by
  have ih0 := impl_isStyle.mono_l k
  ·intro y0 y1 y2
   unfold impl_isStyle.l0
   repeat' (with_reducible first | exact ih0 _ _ _ | exact LeO.refl _ | exact LeO.none _ | refine LeO.ite ?_ ?_ | refine LeO.bind ?_ (fun _ => ?_))
theorem impl_isStyle.mono : ∀ a0 k, LeO (impl_isStyle.f k a0) (impl_isStyle.f (k + 1) a0) := by
 intro a0 k
 have ih0 := impl_isStyle.mono_l k
 unfold impl_isStyle.f
 repeat' (with_reducible first | exact ih0 _ _ _ | exact LeO.refl _ | exact LeO.none _ | refine LeO.ite ?_ ?_ | refine LeO.bind ?_ (fun _ => ?_))
set_option maxHeartbeats 8000000 in
set_option maxRecDepth 100000 in
theorem impl_isStyle.calls (k : Nat) (a0 : ByteArray) (r : Bool) (w : World) (h : impl_isStyle.f k a0 = some r) :
  Calls Try.prog 48 #[.string a0] w fun e w' => e = .returned (.bool r) ∧ Drawn0 w w' := by
 have H : (impl_isStyle.l0 k a0 (a0.size : Int) 0) = some r := h
 clear h
 have H' := aM H
 clear H
 go_enter Try.func48, Try.ntmps48
 go_wp2
 go_loopg [6] k (fun kq v6 w' => ∃ (x6_1 : Int), v6 = .int .i64 x6_1 ∧ Aside0 (impl_isStyle.l0 kq a0 (a0.size : Int) x6_1 = some r) ∧ Aside0 (kq ≤ k) ∧ Drawn0 w w')
 case atStart => exact ⟨(0), aP32, H', ⟨Nat.le_refl _⟩, by repeat (first | exact Drawn0.refl _ | apply Drawn0.step)⟩
 case round =>
  clear H'
  obtain ⟨x6_1, rfl, HA, HK1, ⟨m1, rfl⟩⟩ := hrel
  cases gk with
  | zero => exact absurd HA.out (by simp [impl_isStyle.l0])
  | succ k1 =>
   have H := HA.out
   clear HA
   simp only [impl_isStyle.l0] at H
   by_cases c2 : x6_1 < (a0.size : Int)
   rotate_left
   ·rw [if_neg c2] at H
    have c2b0 : decide (x6_1 < (a0.size : Int)) = false := decide_eq_false c2
    clear c2
    by_cases c9 : a0.toList = ([] : List UInt8)
    rotate_left
    ·rw [if_neg c9] at H
     have c9b0 : (a0.toList == ([] : List UInt8)) = false := beq_eq_false_iff_ne.mpr c9
     have c9b1 : (a0.toList != ([] : List UInt8)) = true := bne_iff_ne.mpr c9
     try have c9e : a0.toList.isEmpty = false := List.isEmpty_eq_false_iff.mpr c9
     obtain rfl := Option.some.inj H
     go_wp2
     go_ret
     exact ⟨by first | rfl | (simp; done) | (simp [*]; done), by repeat (first | exact Drawn0.refl _ | apply Drawn0.step)⟩
    rw [if_pos c9] at H
    have c9b0 : (a0.toList == ([] : List UInt8)) = true := beq_iff_eq.mpr c9
    have c9b1 : (a0.toList != ([] : List UInt8)) = false := bne_eq_false_iff_eq.mpr c9
    try have c9e : a0.toList.isEmpty = true := List.isEmpty_iff.mpr c9
    clear c9
    obtain rfl := Option.some.inj H
    go_wp2
    go_ret
    exact ⟨by first | rfl | (simp; done) | (simp [*]; done), by repeat (first | exact Drawn0.refl _ | apply Drawn0.step)⟩
   rw [if_pos c2] at H
   have c2b0 : decide (x6_1 < (a0.size : Int)) = true := decide_eq_true c2
   clear c2
   by_cases c3 : 0 ≤ x6_1
   rotate_left
   ·rw [if_neg c3] at H
    exact absurd H (by simp)
   rw [if_pos c3] at H
   have c3b0 : decide (0 ≤ x6_1) = true := decide_eq_true c3
   clear c3
   by_cases c4 : x6_1 < (a0.size : Int)
   rotate_left
   ·rw [if_neg c4] at H
    exact absurd H (by simp)
   rw [if_pos c4] at H
   have c4b0 : decide (x6_1 < (a0.size : Int)) = true := decide_eq_true c4
   clear c4
   by_cases c6 : (bt a0 x6_1) < 97
   ·rw [if_pos c6] at H
    have c6b0 : decide ((bt a0 x6_1) < 97) = true := decide_eq_true c6
    clear c6
    obtain rfl := Option.some.inj H
    have p5 : 0 ≤ (x6_1 : Int) := of_decide_eq_true (by assumption)
    have q5 : x6_1 < (a0.size : Int) := of_decide_eq_true (by assumption)
    have hx5 := bt_at a0 x6_1
    replace p5 := eq_true p5
    replace q5 := eq_true q5
    go_wp2
    go_ret
    exact ⟨by first | rfl | (simp; done) | (simp [*]; done), by repeat (first | exact Drawn0.refl _ | apply Drawn0.step)⟩
   rw [if_neg c6] at H
   have c6b0 : decide ((bt a0 x6_1) < 97) = false := decide_eq_false c6
   clear c6
   by_cases c8 : (bt a0 x6_1) > 122
   ·rw [if_pos c8] at H
    have c8b0 : decide (122 < (bt a0 x6_1)) = true := decide_eq_true c8
    clear c8
    obtain rfl := Option.some.inj H
    have p5 : 0 ≤ (x6_1 : Int) := of_decide_eq_true (by assumption)
    have q5 : x6_1 < (a0.size : Int) := of_decide_eq_true (by assumption)
    have hx5 := bt_at a0 x6_1
    replace p5 := eq_true p5
    replace q5 := eq_true q5
    have p7 : 0 ≤ (x6_1 : Int) := of_decide_eq_true (by assumption)
    have q7 : x6_1 < (a0.size : Int) := of_decide_eq_true (by assumption)
    have hx7 := bt_at a0 x6_1
    replace p7 := eq_true p7
    replace q7 := eq_true q7
    go_wp2
    go_ret
    exact ⟨by first | rfl | (simp; done) | (simp [*]; done), by repeat (first | exact Drawn0.refl _ | apply Drawn0.step)⟩
   rw [if_neg c8] at H
   have c8b0 : decide (122 < (bt a0 x6_1)) = false := decide_eq_false c8
   clear c8
   have H' := aM H
   clear H
   have p5 : 0 ≤ (x6_1 : Int) := of_decide_eq_true (by assumption)
   have q5 : x6_1 < (a0.size : Int) := of_decide_eq_true (by assumption)
   have hx5 := bt_at a0 x6_1
   replace p5 := eq_true p5
   replace q5 := eq_true q5
   have p7 : 0 ≤ (x6_1 : Int) := of_decide_eq_true (by assumption)
   have q7 : x6_1 < (a0.size : Int) := of_decide_eq_true (by assumption)
   have hx7 := bt_at a0 x6_1
   replace p7 := eq_true p7
   replace q7 := eq_true q7
   go_wp2
   go_roundg k1
   case measure => have := HK1.out; omega
   case rel => exact ⟨(wrap64 (x6_1 + 1)), aP32, H', ⟨by have := HK1.out; omega⟩, by repeat (first | exact Drawn0.refl _ | apply Drawn0.step)⟩
def impl_isMark.f (k : Nat) (a0_0 : Int) (a0_1 : Int) (a0_2 : ByteArray) (a1 : Int) : Option (Bool) := if a0_0 ≥ 0 then (if a0_0 < a0_1 then (if a0_1 ≤ a1 then ((impl_isStyle.f k a0_2).bind fun t250 => (some t250)) else (some false)) else (some false)) else (some false)
theorem impl_isMark.mono : ∀ a0 a1 a2 a3 k, LeO (impl_isMark.f k a0 a1 a2 a3) (impl_isMark.f (k + 1) a0 a1 a2 a3) := by
 intro a0 a1 a2 a3 k
 unfold impl_isMark.f
 repeat' (with_reducible first | exact impl_isStyle.mono _ _ | exact LeO.refl _ | exact LeO.none _ | refine LeO.ite ?_ ?_ | refine LeO.bind ?_ (fun _ => ?_))
set_option maxHeartbeats 8000000 in
set_option maxRecDepth 100000 in
theorem impl_isMark.calls (k : Nat) (a0_0 : Int) (a0_1 : Int) (a0_2 : ByteArray) (a1 : Int) (r : Bool) (w : World) (h : impl_isMark.f k a0_0 a0_1 a0_2 a1 = some r) :
  Calls Try.prog 45 #[.agg #[.int .i64 a0_0, .int .i64 a0_1, .string a0_2], .int .i64 a1] w fun e w' => e = .returned (.bool r) ∧ Below w.heap.size w w' := by
 have hu67 := Try.underlying67
 have HB := aM (Below.refl w.heap.size w)
 have H : (if a0_0 ≥ 0 then (if a0_0 < a0_1 then (if a0_1 ≤ a1 then ((impl_isStyle.f k a0_2).bind fun t250 => (some t250)) else (some false)) else (some false)) else (some false)) = some r := h
 clear h
 by_cases c3 : a0_0 ≥ 0
 rotate_left
 ·rw [if_neg c3] at H
  have c3b0 : decide (0 ≤ a0_0) = false := decide_eq_false c3
  clear c3
  obtain rfl := Option.some.inj H
  go_enter Try.func45, Try.ntmps45
  go_wp2_with (first | ((with_reducible refine gate_dst (N := 2) rfl ?_); refine box_event ?hg (N := 2) ?hd (cs := #[.int .i64 a0_0, .int .i64 a0_1, .string a0_2]) (t := 67) ?hr ?_; (case hd => rfl); (case hg => rfl); (case hr => exact aP40); intro gb249 hg w13 hbox hb; have BK249 := aM (hbox); have GW249 := aM (bG (w := w) hg); have GE249 := aM (bG (w := w) hg); replace HB := aM (below_step bB hb); clear hb hbox hg; obtain ⟨hcz14_0, hcz14_1, hcz14_2, hfz14_0, hfz14_1, hfz14_2⟩ := bx3 BK249.out))
  go_ret
  exact ⟨eR, aP23⟩
 rw [if_pos c3] at H
 have c3b0 : decide (0 ≤ a0_0) = true := decide_eq_true c3
 clear c3
 by_cases c4 : a0_0 < a0_1
 rotate_left
 ·rw [if_neg c4] at H
  have c4b0 : decide (a0_0 < a0_1) = false := decide_eq_false c4
  clear c4
  obtain rfl := Option.some.inj H
  go_enter Try.func45, Try.ntmps45
  go_wp2_with (first | ((with_reducible refine gate_dst (N := 2) rfl ?_); refine box_event ?hg (N := 2) ?hd (cs := #[.int .i64 a0_0, .int .i64 a0_1, .string a0_2]) (t := 67) ?hr ?_; (case hd => rfl); (case hg => rfl); (case hr => exact aP40); intro gb249 hg w11 hbox hb; have BK249 := aM (hbox); have GW249 := aM (bG (w := w) hg); have GE249 := aM (bG (w := w) hg); replace HB := aM (below_step bB hb); clear hb hbox hg; obtain ⟨hcz12_0, hcz12_1, hcz12_2, hfz12_0, hfz12_1, hfz12_2⟩ := bx3 BK249.out))
  go_ret
  exact ⟨eR, aP23⟩
 rw [if_pos c4] at H
 have c4b0 : decide (a0_0 < a0_1) = true := decide_eq_true c4
 clear c4
 by_cases c5 : a0_1 ≤ a1
 rotate_left
 ·rw [if_neg c5] at H
  have c5b0 : decide (a0_1 ≤ a1) = false := decide_eq_false c5
  clear c5
  obtain rfl := Option.some.inj H
  go_enter Try.func45, Try.ntmps45
  go_wp2_with (first | ((with_reducible refine gate_dst (N := 2) rfl ?_); refine box_event ?hg (N := 2) ?hd (cs := #[.int .i64 a0_0, .int .i64 a0_1, .string a0_2]) (t := 67) ?hr ?_; (case hd => rfl); (case hg => rfl); (case hr => exact aP40); intro gb249 hg w9 hbox hb; have BK249 := aM (hbox); have GW249 := aM (bG (w := w) hg); have GE249 := aM (bG (w := w) hg); replace HB := aM (below_step bB hb); clear hb hbox hg; obtain ⟨hcz10_0, hcz10_1, hcz10_2, hfz10_0, hfz10_1, hfz10_2⟩ := bx3 BK249.out))
  go_ret
  exact ⟨eR, aP23⟩
 rw [if_pos c5] at H
 have c5b0 : decide (a0_1 ≤ a1) = true := decide_eq_true c5
 clear c5
 replace H := Option.bind_eq_some_iff.mp H
 obtain ⟨t250, A60, H⟩ := H
 replace H : (some t250) = some r := H
 have A6 := aM A60
 clear A60
 obtain rfl := Option.some.inj H
 go_enter Try.func45, Try.ntmps45
 go_wp2_with (first | ((with_reducible refine gate_dst (N := 2) rfl ?_); refine box_event ?hg (N := 2) ?hd (cs := #[.int .i64 a0_0, .int .i64 a0_1, .string a0_2]) (t := 67) ?hr ?_; (case hd => rfl); (case hg => rfl); (case hr => exact aP40); intro gb249 hg w7 hbox hb; have BK249 := aM (hbox); have GW249 := aM (bG (w := w) hg); have GE249 := aM (bG (w := w) hg); replace HB := aM (below_step bB hb); clear hb hbox hg; obtain ⟨hcz8_0, hcz8_1, hcz8_2, hfz8_0, hfz8_1, hfz8_2⟩ := bx3 BK249.out) | (go_at_call 48; (with_reducible refine (impl_isStyle.calls k a0_2 t250 _ A6.out).mono ?_); rintro e w' ⟨rfl, ⟨nd, rfl⟩⟩))
 go_ret
 exact ⟨eR, aP23⟩
end Go.Proofs.Ytmhcmcdppimcpaa.PFnExactMoveMarks
