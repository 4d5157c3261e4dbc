/- (thin) Written by a program of this session (wip/ovl.py) over the kit's print: plain functions with the answers of the Go functions, and the proofs that they are; no condition. -/
import Derived.Test.YtmhcmcdppimcpaaPFnExactMoveMarksx0
import Derived.Test.YtmhcmcdppimcpaaPFnExactMoveMarksx2
namespace Go.Proofs.Ytmhcmcdppimcpaa.PFnExactMoveMarks
open Go.RowKit Go.Proofs.YtmhcmcdppimcpaaW.PrintWords Go.Proofs.YtmhcmcdppimcpaaW.PrintLast Go.Proofs.YtmhcmcdppimcpaaW.PrintMore
attribute [local go_sem] max2_int min2_int max_two min_two max_three min_three max_four min_four   -- for this text's walks alone
set_option linter.unusedVariables false
set_option linter.unusedSimpArgs false
def spec_l5Mark.f (k : Nat) (a0_0 : Int) (a0_1 : Int) (a0_2 : ByteArray) (a1 : Int) : Option (Bool) := (spec_l5Style.f k a0_2).bind fun t136 => (if t136 = true then (if a0_0 ≥ 0 then (if a0_0 < a0_1 then (some (decide (a0_1 ≤ a1))) else (some false)) else (some false)) else (some false))
theorem spec_l5Mark.mono : ∀ a0 a1 a2 a3 k, LeO (spec_l5Mark.f k a0 a1 a2 a3) (spec_l5Mark.f (k + 1) a0 a1 a2 a3) := by
 intro a0 a1 a2 a3 k
 unfold spec_l5Mark.f
 repeat' (with_reducible first | exact spec_l5Style.mono _ _ | exact LeO.refl _ | exact LeO.none _ | refine LeO.ite ?_ ?_ | refine LeO.bind ?_ (fun _ => ?_))
set_option maxHeartbeats 8000000 in
set_option maxRecDepth 100000 in
theorem spec_l5Mark.calls (k : Nat) (a0_0 : Int) (a0_1 : Int) (a0_2 : ByteArray) (a1 : Int) (r : Bool) (w : World) (h : spec_l5Mark.f k a0_0 a0_1 a0_2 a1 = some r) :
  Calls Try.prog 43 #[.agg #[.int .i64 a0_0, .int .i64 a0_1, .string a0_2], .int .i64 a1] w fun e w' => e = .returned (.bool r) ∧ Below w.heap.size w w' := by
 have hu67 := Try.underlying67
 have HB := aM (Below.refl w.heap.size w)
 have H : ((spec_l5Style.f k a0_2).bind fun t136 => (if t136 = true then (if a0_0 ≥ 0 then (if a0_0 < a0_1 then (some (decide (a0_1 ≤ a1))) else (some false)) else (some false)) else (some false))) = some r := h
 clear h
 replace H := Option.bind_eq_some_iff.mp H
 obtain ⟨t136, A30, H⟩ := H
 replace H : (if t136 = true then (if a0_0 ≥ 0 then (if a0_0 < a0_1 then (some (decide (a0_1 ≤ a1))) else (some false)) else (some false)) else (some false)) = some r := H
 have A3 := aM A30
 clear A30
 by_cases c4 : t136 = true
 rotate_left
 ·replace c4 := Bool.eq_false_iff.mpr c4
  subst c4
  replace H : (some false) = some r := by rw [if_neg (show ¬ (false = true) by decide)] at H; exact H
  obtain rfl := Option.some.inj H
  go_enter Try.func43, Try.ntmps43
  go_wp2_with (first | ((with_reducible refine gate_dst (N := 2) rfl ?_); refine box_event ?hg (N := 2) ?hd (cs := #[.int .i64 a0_0, .int .i64 a0_1, .string a0_2]) (t := 67) ?hr ?_; (case hd => rfl); (case hg => rfl); (case hr => exact aP40); intro gb135 hg w13 hbox hb; have BK135 := aM (hbox); have GW135 := aM (bG (w := w) hg); have GE135 := aM (bG (w := w) hg); replace HB := aM (below_step bB hb); clear hb hbox hg; obtain ⟨hcz14_0, hcz14_1, hcz14_2, hfz14_0, hfz14_1, hfz14_2⟩ := bx3 BK135.out) | ((with_reducible refine gate_callee (f := 47) rfl ?_); refine goesL_ (some 7) rfl rfl Try.func47 (by kernel_rfl) rfl #[.string a0_2] rfl mM ?_; (with_reducible refine (spec_l5Style.calls k a0_2 false _ A3.out).mono ?_); rintro e w' ⟨rfl, ⟨nd, rfl⟩⟩; refine ⟨_, rfl, ?_⟩))
  go_ret
  exact ⟨eR, aP19⟩
 subst c4
 replace H : (if a0_0 ≥ 0 then (if a0_0 < a0_1 then (some (decide (a0_1 ≤ a1))) else (some false)) else (some false)) = some r := by rw [if_pos rfl] at H; exact H
 by_cases c5 : a0_0 ≥ 0
 rotate_left
 ·rw [if_neg c5] at H
  have c5b0 : decide (0 ≤ a0_0) = false := decide_eq_false c5
  clear c5
  obtain rfl := Option.some.inj H
  go_enter Try.func43, Try.ntmps43
  go_wp2_with (first | ((with_reducible refine gate_dst (N := 2) rfl ?_); refine box_event ?hg (N := 2) ?hd (cs := #[.int .i64 a0_0, .int .i64 a0_1, .string a0_2]) (t := 67) ?hr ?_; (case hd => rfl); (case hg => rfl); (case hr => exact aP40); intro gb135 hg w11 hbox hb; have BK135 := aM (hbox); have GW135 := aM (bG (w := w) hg); have GE135 := aM (bG (w := w) hg); replace HB := aM (below_step bB hb); clear hb hbox hg; obtain ⟨hcz12_0, hcz12_1, hcz12_2, hfz12_0, hfz12_1, hfz12_2⟩ := bx3 BK135.out) | ((with_reducible refine gate_callee (f := 47) rfl ?_); refine goesL_ (some 7) rfl rfl Try.func47 (by kernel_rfl) rfl #[.string a0_2] rfl mM ?_; (with_reducible refine (spec_l5Style.calls k a0_2 true _ A3.out).mono ?_); rintro e w' ⟨rfl, ⟨nd, rfl⟩⟩; refine ⟨_, rfl, ?_⟩))
  go_ret
  exact ⟨eR, aP19⟩
 rw [if_pos c5] at H
 have c5b0 : decide (0 ≤ a0_0) = true := decide_eq_true c5
 clear c5
 by_cases c6 : a0_0 < a0_1
 ·rw [if_pos c6] at H
  have c6b0 : decide (a0_0 < a0_1) = true := decide_eq_true c6
  clear c6
  obtain rfl := Option.some.inj H
  go_enter Try.func43, Try.ntmps43
  go_wp2_with (first | ((with_reducible refine gate_dst (N := 2) rfl ?_); refine box_event ?hg (N := 2) ?hd (cs := #[.int .i64 a0_0, .int .i64 a0_1, .string a0_2]) (t := 67) ?hr ?_; (case hd => rfl); (case hg => rfl); (case hr => exact aP40); intro gb135 hg w7 hbox hb; have BK135 := aM (hbox); have GW135 := aM (bG (w := w) hg); have GE135 := aM (bG (w := w) hg); replace HB := aM (below_step bB hb); clear hb hbox hg; obtain ⟨hcz8_0, hcz8_1, hcz8_2, hfz8_0, hfz8_1, hfz8_2⟩ := bx3 BK135.out) | ((with_reducible refine gate_callee (f := 47) rfl ?_); refine goesL_ (some 7) rfl rfl Try.func47 (by kernel_rfl) rfl #[.string a0_2] rfl mM ?_; (with_reducible refine (spec_l5Style.calls k a0_2 true _ A3.out).mono ?_); rintro e w' ⟨rfl, ⟨nd, rfl⟩⟩; refine ⟨_, rfl, ?_⟩))
  go_ret
  exact ⟨eR, aP19⟩
 rw [if_neg c6] at H
 have c6b0 : decide (a0_0 < a0_1) = false := decide_eq_false c6
 clear c6
 obtain rfl := Option.some.inj H
 go_enter Try.func43, Try.ntmps43
 go_wp2_with (first | ((with_reducible refine gate_dst (N := 2) rfl ?_); refine box_event ?hg (N := 2) ?hd (cs := #[.int .i64 a0_0, .int .i64 a0_1, .string a0_2]) (t := 67) ?hr ?_; (case hd => rfl); (case hg => rfl); (case hr => exact aP40); intro gb135 hg w9 hbox hb; have BK135 := aM (hbox); have GW135 := aM (bG (w := w) hg); have GE135 := aM (bG (w := w) hg); replace HB := aM (below_step bB hb); clear hb hbox hg; obtain ⟨hcz10_0, hcz10_1, hcz10_2, hfz10_0, hfz10_1, hfz10_2⟩ := bx3 BK135.out) | ((with_reducible refine gate_callee (f := 47) rfl ?_); refine goesL_ (some 7) rfl rfl Try.func47 (by kernel_rfl) rfl #[.string a0_2] rfl mM ?_; (with_reducible refine (spec_l5Style.calls k a0_2 true _ A3.out).mono ?_); rintro e w' ⟨rfl, ⟨nd, rfl⟩⟩; refine ⟨_, rfl, ?_⟩))
 go_ret
 exact ⟨eR, aP19⟩
def spec_GoodMarks.l0 : Nat → List (S67) → Int → List (S67) → Int → Int → Option (Bool)
 | 0, _, _, _, _, _ => none
 | k + 1, x0, x1, x7, x8, x9 => if x9 < x8 then (if 0 ≤ x9 then (if x9 < (x7.length : Int) then ((spec_l5Mark.f k ((rd_T67 x7 x9).f0) ((rd_T67 x7 x9).f1) ((rd_T67 x7 x9).f2) x1).bind fun t140 => (if t140 = true then (if x9 > 0 then (if 0 ≤ (wrap64 (x9 - 1)) then (if (wrap64 (x9 - 1)) < (x0.length : Int) then (if (Op.bytesLess (((rd_T67 x7 x9).f2).toList) (((rd_T67 x0 (wrap64 (x9 - 1))).f2).toList)) = true then (some false) else (if ((rd_T67 x0 (wrap64 (x9 - 1))).f2).toList = ((rd_T67 x7 x9).f2).toList then (if ((rd_T67 x0 (wrap64 (x9 - 1))).f1) ≥ ((rd_T67 x7 x9).f0) then (some false) else (spec_GoodMarks.l0 k x0 x1 x7 x8 (wrap64 (x9 + 1)))) else (spec_GoodMarks.l0 k x0 x1 x7 x8 (wrap64 (x9 + 1))))) else (none)) else (none)) else (spec_GoodMarks.l0 k x0 x1 x7 x8 (wrap64 (x9 + 1)))) else (some false))) else (none)) else (none)) else (if (x0.length : Int) ≤ 40 then ((spec_l1In.f x1 0 300).bind fun t137 => (some t137)) else (some false))
def spec_GoodMarks.f (k : Nat) (l0 : List (S67)) (a1 : Int) : Option (Bool) := spec_GoodMarks.l0 k l0 a1 l0 (l0.length : Int) 0
theorem spec_GoodMarks.mono_l : ∀ k, (∀ y0 y1 y2 y3 y4, LeO (spec_GoodMarks.l0 k y0 y1 y2 y3 y4) (spec_GoodMarks.l0 (k + 1) y0 y1 y2 y3 y4))
 | 0 => fun _ _ _ _ _ r h => by simp [spec_GoodMarks.l0] at h
 | k + 1 => by
  have ih0 := spec_GoodMarks.mono_l k
  ·intro y0 y1 y2 y3 y4
   unfold spec_GoodMarks.l0
   repeat' (with_reducible first | exact ih0 _ _ _ _ _ | exact spec_l5Mark.mono _ _ _ _ _ | exact LeO.refl _ | exact LeO.none _ | refine LeO.ite ?_ ?_ | refine LeO.bind ?_ (fun _ => ?_))
theorem spec_GoodMarks.mono : ∀ a0 a1 k, LeO (spec_GoodMarks.f k a0 a1) (spec_GoodMarks.f (k + 1) a0 a1) := by
 intro a0 a1 k
 have ih0 := spec_GoodMarks.mono_l k
 unfold spec_GoodMarks.f
 repeat' (with_reducible first | exact ih0 _ _ _ _ _ | exact spec_l5Mark.mono _ _ _ _ _ | exact LeO.refl _ | exact LeO.none _ | refine LeO.ite ?_ ?_ | refine LeO.bind ?_ (fun _ => ?_))
set_option maxHeartbeats 8000000 in
set_option maxRecDepth 100000 in
theorem spec_GoodMarks.calls (k : Nat) (A0 : Option Addr) (c0 : Nat) (l0 : List (S67)) (a1 : Int) (r : Bool) (w : World) (hr0 : Kd.C k67 w A0 l0.length l0) (hc0 : l0.length ≤ c0) (h : spec_GoodMarks.f k l0 a1 = some r) :
  Calls Try.prog 12 #[.slice A0 l0.length c0, .int .i64 a1] w fun e w' => e = .returned (.bool r) ∧ Below w.heap.size w w' := by
 have hu67 := Try.underlying67
 have HR0 := aM hr0
 have HC0 := aM hc0
 clear hr0 hc0
 have HB := aM (Below.refl w.heap.size w)
 have H : (spec_GoodMarks.l0 k l0 a1 l0 (l0.length : Int) 0) = some r := h
 clear h
 have H' := aM H
 clear H
 go_enter Try.func12, Try.ntmps12
 go_wp2
 repeat (go_quiet (fail); try go_wp2)
 go_loopg [9] k (fun kq v9 w' => ∃ (x9_1 : Int), v9 = .int .i64 x9_1 ∧ Aside0 (spec_GoodMarks.l0 kq l0 a1 l0 (l0.length : Int) x9_1 = some r) ∧ Aside0 (kq ≤ k) ∧ Aside0 (Below w.heap.size w w'))
 case atStart => exact ⟨(0), aP32, H', ⟨Nat.le_refl _⟩, ⟨bB⟩⟩
 case round =>
  clear H'
  try clear c1
  try clear p2
  obtain ⟨x9_1, rfl, HA, HK1, HB⟩ := hrel
  cases gk with
  | zero => exact absurd HA.out (by simp [spec_GoodMarks.l0])
  | succ k1 =>
   have H := HA.out
   clear HA
   simp only [spec_GoodMarks.l0] at H
   by_cases c3 : x9_1 < (l0.length : Int)
   rotate_left
   ·rw [if_neg c3] at H
    have c3b0 : decide (x9_1 < (l0.length : Int)) = false := decide_eq_false c3
    clear c3
    by_cases c37 : (l0.length : Int) ≤ 40
    rotate_left
    ·rw [if_neg c37] at H
     have c37b0 : decide ((l0.length : Int) ≤ 40) = false := decide_eq_false c37
     have c37b1 : decide (l0.length ≤ 40) = false := decide_eq_false (by omega)
     clear c37
     obtain rfl := Option.some.inj H
     go_wp2
     repeat (go_quiet (fail); try go_wp2)
     go_ret
     exact ⟨eR, bB⟩
    rw [if_pos c37] at H
    have c37b0 : decide ((l0.length : Int) ≤ 40) = true := decide_eq_true c37
    have c37b1 : decide (l0.length ≤ 40) = true := decide_eq_true (by omega)
    clear c37
    replace H := Option.bind_eq_some_iff.mp H
    obtain ⟨t137, A380, H⟩ := H
    replace H : (some t137) = some r := H
    have A38 := aM A380
    clear A380
    obtain rfl := Option.some.inj H
    go_wp2_with (first | (go_at_call 44; (with_reducible refine (spec_l1In.calls a1 0 300 t137 _ A38.out).mono ?_); rintro e w' ⟨rfl, ⟨nd, rfl⟩⟩; (try first | exact ⟨rfl, _, World.drewN_drewN _ _ _⟩ | exact ⟨rfl, _, Eq.trans (World.drewN_drewN _ _ _) (congrArg (World.drewN _) (Nat.add_assoc _ _ _))⟩)))
    repeat (go_quiet (first | (go_at_call 44; (with_reducible refine (spec_l1In.calls a1 0 300 t137 _ A38.out).mono ?_); rintro e w' ⟨rfl, ⟨nd, rfl⟩⟩; (try first | exact ⟨rfl, _, World.drewN_drewN _ _ _⟩ | exact ⟨rfl, _, Eq.trans (World.drewN_drewN _ _ _) (congrArg (World.drewN _) (Nat.add_assoc _ _ _))⟩))); try go_wp2_with (first | (go_at_call 44; (with_reducible refine (spec_l1In.calls a1 0 300 t137 _ A38.out).mono ?_); rintro e w' ⟨rfl, ⟨nd, rfl⟩⟩; (try first | exact ⟨rfl, _, World.drewN_drewN _ _ _⟩ | exact ⟨rfl, _, Eq.trans (World.drewN_drewN _ _ _) (congrArg (World.drewN _) (Nat.add_assoc _ _ _))⟩))))
    go_ret
    exact ⟨eR, bB⟩
   rw [if_pos c3] at H
   have c3b0 : decide (x9_1 < (l0.length : Int)) = true := decide_eq_true c3
   clear c3
   by_cases c4 : 0 ≤ x9_1
   rotate_left
   ·rw [if_neg c4] at H
    exact absurd H (by simp)
   rw [if_pos c4] at H
   have c4b0 : decide (0 ≤ x9_1) = true := decide_eq_true c4
   clear c4
   by_cases c5 : x9_1 < (l0.length : Int)
   rotate_left
   ·rw [if_neg c5] at H
    exact absurd H (by simp)
   rw [if_pos c5] at H
   have c5b0 : decide (x9_1 < (l0.length : Int)) = true := decide_eq_true c5
   clear c5
   replace H := Option.bind_eq_some_iff.mp H
   obtain ⟨t140, A60, H⟩ := H
   replace H : (if t140 = true then (if x9_1 > 0 then (if 0 ≤ (wrap64 (x9_1 - 1)) then (if (wrap64 (x9_1 - 1)) < (l0.length : Int) then (if (Op.bytesLess (((rd_T67 l0 x9_1).f2).toList) (((rd_T67 l0 (wrap64 (x9_1 - 1))).f2).toList)) = true then (some false) else (if ((rd_T67 l0 (wrap64 (x9_1 - 1))).f2).toList = ((rd_T67 l0 x9_1).f2).toList then (if ((rd_T67 l0 (wrap64 (x9_1 - 1))).f1) ≥ ((rd_T67 l0 x9_1).f0) then (some false) else (spec_GoodMarks.l0 k1 l0 a1 l0 (l0.length : Int) (wrap64 (x9_1 + 1)))) else (spec_GoodMarks.l0 k1 l0 a1 l0 (l0.length : Int) (wrap64 (x9_1 + 1))))) else (none)) else (none)) else (spec_GoodMarks.l0 k1 l0 a1 l0 (l0.length : Int) (wrap64 (x9_1 + 1)))) else (some false)) = some r := H
   have A6 := aM A60
   clear A60
   by_cases c7 : t140 = true
   rotate_left
   ·replace c7 := Bool.eq_false_iff.mpr c7
    subst c7
    replace H : (some false) = some r := by rw [if_neg (show ¬ (false = true) by decide)] at H; exact H
    obtain rfl := Option.some.inj H
    have p138 : 0 ≤ (x9_1 : Int) := of_decide_eq_true (by assumption)
    have q138 : x9_1 < (l0.length : Int) := of_decide_eq_true (by assumption)
    obtain ⟨ad138, e138, hx138_0, hx138_1, hx138_2⟩ := at_T67 HR0.out x9_1 p138 q138
    cases e138
    replace hx138_0 := hC HB.out hx138_0
    replace hx138_1 := hC HB.out hx138_1
    replace hx138_2 := hC HB.out hx138_2
    replace p138 := eq_true p138
    replace q138 := eq_true q138
    go_wp2_with (first | ((with_reducible refine gate_dst (N := 6) rfl ?_); refine box_event ?hg (N := 6) ?hd (cs := #[.int .i64 0, .int .i64 0, .string (⟨#[]⟩ : ByteArray)]) (t := 67) ?hr ?_; (case hd => rfl); (case hg => rfl); (case hr => exact aP40); intro gb139 hg w34 hbox hb; have BK139 := aM (hbox); have GW139 := aM (bG (w := w) hg); have GE139 := aM (bG (w := w) hg); replace HB := aM (below_step bB hb); clear hb hbox hg; obtain ⟨hcz35_0, hcz35_1, hcz35_2, hfz35_0, hfz35_1, hfz35_2⟩ := bx3 BK139.out) | (go_at_call 43; (with_reducible refine (spec_l5Mark.calls k1 ((rd_T67 l0 x9_1).f0) ((rd_T67 l0 x9_1).f1) ((rd_T67 l0 x9_1).f2) a1 false _ A6.out).mono ?_); rintro e w36 ⟨rfl, hb⟩; have n0_ := aM (blk_below (g := gb139) (o := .cells #[.int .i64 ((rd_T67 l0 x9_1).f0), .int .i64 ((rd_T67 l0 x9_1).f1), .string ((rd_T67 l0 x9_1).f2)] 67 (0, 0)) (by (with_reducible repeat (first | refine blk_drewN ?_ _ | refine blk_drew ?_ | refine blk_alloc ?_ _)); refine blk_put (cs := #[.int .i64 ((rd_T67 l0 x9_1).f0), .int .i64 ((rd_T67 l0 x9_1).f1), .string (⟨#[]⟩ : ByteArray)]) ?_ 2 _ rfl; (with_reducible repeat (first | refine blk_drewN ?_ _ | refine blk_drew ?_ | refine blk_alloc ?_ _)); refine blk_put (cs := #[.int .i64 ((rd_T67 l0 x9_1).f0), .int .i64 0, .string (⟨#[]⟩ : ByteArray)]) ?_ 1 _ rfl; (with_reducible repeat (first | refine blk_drewN ?_ _ | refine blk_drew ?_ | refine blk_alloc ?_ _)); refine blk_put (cs := #[.int .i64 0, .int .i64 0, .string (⟨#[]⟩ : ByteArray)]) ?_ 0 _ rfl; exact kK BK139.out) hb); have n1_ := aM (below_step aP0 hb); clear BK139; clear HB; have BK139 := n0_; have HB := n1_; clear n0_ n1_; (try clear hb); (try clear hb2); (try clear hk); (try clear hi)))
    repeat (go_quiet (first | ((with_reducible refine gate_dst (N := 6) rfl ?_); refine box_event ?hg (N := 6) ?hd (cs := #[.int .i64 0, .int .i64 0, .string (⟨#[]⟩ : ByteArray)]) (t := 67) ?hr ?_; (case hd => rfl); (case hg => rfl); (case hr => exact aP40); intro gb139 hg w34 hbox hb; have BK139 := aM (hbox); have GW139 := aM (bG (w := w) hg); have GE139 := aM (bG (w := w) hg); replace HB := aM (below_step bB hb); clear hb hbox hg; obtain ⟨hcz35_0, hcz35_1, hcz35_2, hfz35_0, hfz35_1, hfz35_2⟩ := bx3 BK139.out) | (go_at_call 43; (with_reducible refine (spec_l5Mark.calls k1 ((rd_T67 l0 x9_1).f0) ((rd_T67 l0 x9_1).f1) ((rd_T67 l0 x9_1).f2) a1 false _ A6.out).mono ?_); rintro e w36 ⟨rfl, hb⟩; have n0_ := aM (blk_below (g := gb139) (o := .cells #[.int .i64 ((rd_T67 l0 x9_1).f0), .int .i64 ((rd_T67 l0 x9_1).f1), .string ((rd_T67 l0 x9_1).f2)] 67 (0, 0)) (by (with_reducible repeat (first | refine blk_drewN ?_ _ | refine blk_drew ?_ | refine blk_alloc ?_ _)); refine blk_put (cs := #[.int .i64 ((rd_T67 l0 x9_1).f0), .int .i64 ((rd_T67 l0 x9_1).f1), .string (⟨#[]⟩ : ByteArray)]) ?_ 2 _ rfl; (with_reducible repeat (first | refine blk_drewN ?_ _ | refine blk_drew ?_ | refine blk_alloc ?_ _)); refine blk_put (cs := #[.int .i64 ((rd_T67 l0 x9_1).f0), .int .i64 0, .string (⟨#[]⟩ : ByteArray)]) ?_ 1 _ rfl; (with_reducible repeat (first | refine blk_drewN ?_ _ | refine blk_drew ?_ | refine blk_alloc ?_ _)); refine blk_put (cs := #[.int .i64 0, .int .i64 0, .string (⟨#[]⟩ : ByteArray)]) ?_ 0 _ rfl; exact kK BK139.out) hb); have n1_ := aM (below_step aP0 hb); clear BK139; clear HB; have BK139 := n0_; have HB := n1_; clear n0_ n1_; (try clear hb); (try clear hb2); (try clear hk); (try clear hi))); try go_wp2_with (first | ((with_reducible refine gate_dst (N := 6) rfl ?_); refine box_event ?hg (N := 6) ?hd (cs := #[.int .i64 0, .int .i64 0, .string (⟨#[]⟩ : ByteArray)]) (t := 67) ?hr ?_; (case hd => rfl); (case hg => rfl); (case hr => exact aP40); intro gb139 hg w34 hbox hb; have BK139 := aM (hbox); have GW139 := aM (bG (w := w) hg); have GE139 := aM (bG (w := w) hg); replace HB := aM (below_step bB hb); clear hb hbox hg; obtain ⟨hcz35_0, hcz35_1, hcz35_2, hfz35_0, hfz35_1, hfz35_2⟩ := bx3 BK139.out) | (go_at_call 43; (with_reducible refine (spec_l5Mark.calls k1 ((rd_T67 l0 x9_1).f0) ((rd_T67 l0 x9_1).f1) ((rd_T67 l0 x9_1).f2) a1 false _ A6.out).mono ?_); rintro e w36 ⟨rfl, hb⟩; have n0_ := aM (blk_below (g := gb139) (o := .cells #[.int .i64 ((rd_T67 l0 x9_1).f0), .int .i64 ((rd_T67 l0 x9_1).f1), .string ((rd_T67 l0 x9_1).f2)] 67 (0, 0)) (by (with_reducible repeat (first | refine blk_drewN ?_ _ | refine blk_drew ?_ | refine blk_alloc ?_ _)); refine blk_put (cs := #[.int .i64 ((rd_T67 l0 x9_1).f0), .int .i64 ((rd_T67 l0 x9_1).f1), .string (⟨#[]⟩ : ByteArray)]) ?_ 2 _ rfl; (with_reducible repeat (first | refine blk_drewN ?_ _ | refine blk_drew ?_ | refine blk_alloc ?_ _)); refine blk_put (cs := #[.int .i64 ((rd_T67 l0 x9_1).f0), .int .i64 0, .string (⟨#[]⟩ : ByteArray)]) ?_ 1 _ rfl; (with_reducible repeat (first | refine blk_drewN ?_ _ | refine blk_drew ?_ | refine blk_alloc ?_ _)); refine blk_put (cs := #[.int .i64 0, .int .i64 0, .string (⟨#[]⟩ : ByteArray)]) ?_ 0 _ rfl; exact kK BK139.out) hb); have n1_ := aM (below_step aP0 hb); clear BK139; clear HB; have BK139 := n0_; have HB := n1_; clear n0_ n1_; (try clear hb); (try clear hb2); (try clear hk); (try clear hi))))
    go_ret
    exact ⟨eR, aP0⟩
   subst c7
   replace H : (if x9_1 > 0 then (if 0 ≤ (wrap64 (x9_1 - 1)) then (if (wrap64 (x9_1 - 1)) < (l0.length : Int) then (if (Op.bytesLess (((rd_T67 l0 x9_1).f2).toList) (((rd_T67 l0 (wrap64 (x9_1 - 1))).f2).toList)) = true then (some false) else (if ((rd_T67 l0 (wrap64 (x9_1 - 1))).f2).toList = ((rd_T67 l0 x9_1).f2).toList then (if ((rd_T67 l0 (wrap64 (x9_1 - 1))).f1) ≥ ((rd_T67 l0 x9_1).f0) then (some false) else (spec_GoodMarks.l0 k1 l0 a1 l0 (l0.length : Int) (wrap64 (x9_1 + 1)))) else (spec_GoodMarks.l0 k1 l0 a1 l0 (l0.length : Int) (wrap64 (x9_1 + 1))))) else (none)) else (none)) else (spec_GoodMarks.l0 k1 l0 a1 l0 (l0.length : Int) (wrap64 (x9_1 + 1)))) = some r := by rw [if_pos rfl] at H; exact H
   by_cases c8 : x9_1 > 0
   rotate_left
   ·rw [if_neg c8] at H
    have c8b0 : decide (0 < x9_1) = false := decide_eq_false c8
    clear c8
    have H' := aM H
    clear H
    have p138 : 0 ≤ (x9_1 : Int) := of_decide_eq_true (by assumption)
    have q138 : x9_1 < (l0.length : Int) := of_decide_eq_true (by assumption)
    obtain ⟨ad138, e138, hx138_0, hx138_1, hx138_2⟩ := at_T67 HR0.out x9_1 p138 q138
    cases e138
    replace hx138_0 := hC HB.out hx138_0
    replace hx138_1 := hC HB.out hx138_1
    replace hx138_2 := hC HB.out hx138_2
    replace p138 := eq_true p138
    replace q138 := eq_true q138
    go_wp2_with (first | ((with_reducible refine gate_dst (N := 6) rfl ?_); refine box_event ?hg (N := 6) ?hd (cs := #[.int .i64 0, .int .i64 0, .string (⟨#[]⟩ : ByteArray)]) (t := 67) ?hr ?_; (case hd => rfl); (case hg => rfl); (case hr => exact aP40); intro gb139 hg w31 hbox hb; have BK139 := aM (hbox); have GW139 := aM (bG (w := w) hg); have GE139 := aM (bG (w := w) hg); replace HB := aM (below_step bB hb); clear hb hbox hg; obtain ⟨hcz32_0, hcz32_1, hcz32_2, hfz32_0, hfz32_1, hfz32_2⟩ := bx3 BK139.out) | (go_at_call 43; (with_reducible refine (spec_l5Mark.calls k1 ((rd_T67 l0 x9_1).f0) ((rd_T67 l0 x9_1).f1) ((rd_T67 l0 x9_1).f2) a1 true _ A6.out).mono ?_); rintro e w33 ⟨rfl, hb⟩; have n0_ := aM (blk_below (g := gb139) (o := .cells #[.int .i64 ((rd_T67 l0 x9_1).f0), .int .i64 ((rd_T67 l0 x9_1).f1), .string ((rd_T67 l0 x9_1).f2)] 67 (0, 0)) (by (with_reducible repeat (first | refine blk_drewN ?_ _ | refine blk_drew ?_ | refine blk_alloc ?_ _)); refine blk_put (cs := #[.int .i64 ((rd_T67 l0 x9_1).f0), .int .i64 ((rd_T67 l0 x9_1).f1), .string (⟨#[]⟩ : ByteArray)]) ?_ 2 _ rfl; (with_reducible repeat (first | refine blk_drewN ?_ _ | refine blk_drew ?_ | refine blk_alloc ?_ _)); refine blk_put (cs := #[.int .i64 ((rd_T67 l0 x9_1).f0), .int .i64 0, .string (⟨#[]⟩ : ByteArray)]) ?_ 1 _ rfl; (with_reducible repeat (first | refine blk_drewN ?_ _ | refine blk_drew ?_ | refine blk_alloc ?_ _)); refine blk_put (cs := #[.int .i64 0, .int .i64 0, .string (⟨#[]⟩ : ByteArray)]) ?_ 0 _ rfl; exact kK BK139.out) hb); have n1_ := aM (below_step aP0 hb); clear BK139; clear HB; have BK139 := n0_; have HB := n1_; clear n0_ n1_; (try clear hb); (try clear hb2); (try clear hk); (try clear hi)))
    repeat (go_quiet (first | ((with_reducible refine gate_dst (N := 6) rfl ?_); refine box_event ?hg (N := 6) ?hd (cs := #[.int .i64 0, .int .i64 0, .string (⟨#[]⟩ : ByteArray)]) (t := 67) ?hr ?_; (case hd => rfl); (case hg => rfl); (case hr => exact aP40); intro gb139 hg w31 hbox hb; have BK139 := aM (hbox); have GW139 := aM (bG (w := w) hg); have GE139 := aM (bG (w := w) hg); replace HB := aM (below_step bB hb); clear hb hbox hg; obtain ⟨hcz32_0, hcz32_1, hcz32_2, hfz32_0, hfz32_1, hfz32_2⟩ := bx3 BK139.out) | (go_at_call 43; (with_reducible refine (spec_l5Mark.calls k1 ((rd_T67 l0 x9_1).f0) ((rd_T67 l0 x9_1).f1) ((rd_T67 l0 x9_1).f2) a1 true _ A6.out).mono ?_); rintro e w33 ⟨rfl, hb⟩; have n0_ := aM (blk_below (g := gb139) (o := .cells #[.int .i64 ((rd_T67 l0 x9_1).f0), .int .i64 ((rd_T67 l0 x9_1).f1), .string ((rd_T67 l0 x9_1).f2)] 67 (0, 0)) (by (with_reducible repeat (first | refine blk_drewN ?_ _ | refine blk_drew ?_ | refine blk_alloc ?_ _)); refine blk_put (cs := #[.int .i64 ((rd_T67 l0 x9_1).f0), .int .i64 ((rd_T67 l0 x9_1).f1), .string (⟨#[]⟩ : ByteArray)]) ?_ 2 _ rfl; (with_reducible repeat (first | refine blk_drewN ?_ _ | refine blk_drew ?_ | refine blk_alloc ?_ _)); refine blk_put (cs := #[.int .i64 ((rd_T67 l0 x9_1).f0), .int .i64 0, .string (⟨#[]⟩ : ByteArray)]) ?_ 1 _ rfl; (with_reducible repeat (first | refine blk_drewN ?_ _ | refine blk_drew ?_ | refine blk_alloc ?_ _)); refine blk_put (cs := #[.int .i64 0, .int .i64 0, .string (⟨#[]⟩ : ByteArray)]) ?_ 0 _ rfl; exact kK BK139.out) hb); have n1_ := aM (below_step aP0 hb); clear BK139; clear HB; have BK139 := n0_; have HB := n1_; clear n0_ n1_; (try clear hb); (try clear hb2); (try clear hk); (try clear hi))); try go_wp2_with (first | ((with_reducible refine gate_dst (N := 6) rfl ?_); refine box_event ?hg (N := 6) ?hd (cs := #[.int .i64 0, .int .i64 0, .string (⟨#[]⟩ : ByteArray)]) (t := 67) ?hr ?_; (case hd => rfl); (case hg => rfl); (case hr => exact aP40); intro gb139 hg w31 hbox hb; have BK139 := aM (hbox); have GW139 := aM (bG (w := w) hg); have GE139 := aM (bG (w := w) hg); replace HB := aM (below_step bB hb); clear hb hbox hg; obtain ⟨hcz32_0, hcz32_1, hcz32_2, hfz32_0, hfz32_1, hfz32_2⟩ := bx3 BK139.out) | (go_at_call 43; (with_reducible refine (spec_l5Mark.calls k1 ((rd_T67 l0 x9_1).f0) ((rd_T67 l0 x9_1).f1) ((rd_T67 l0 x9_1).f2) a1 true _ A6.out).mono ?_); rintro e w33 ⟨rfl, hb⟩; have n0_ := aM (blk_below (g := gb139) (o := .cells #[.int .i64 ((rd_T67 l0 x9_1).f0), .int .i64 ((rd_T67 l0 x9_1).f1), .string ((rd_T67 l0 x9_1).f2)] 67 (0, 0)) (by (with_reducible repeat (first | refine blk_drewN ?_ _ | refine blk_drew ?_ | refine blk_alloc ?_ _)); refine blk_put (cs := #[.int .i64 ((rd_T67 l0 x9_1).f0), .int .i64 ((rd_T67 l0 x9_1).f1), .string (⟨#[]⟩ : ByteArray)]) ?_ 2 _ rfl; (with_reducible repeat (first | refine blk_drewN ?_ _ | refine blk_drew ?_ | refine blk_alloc ?_ _)); refine blk_put (cs := #[.int .i64 ((rd_T67 l0 x9_1).f0), .int .i64 0, .string (⟨#[]⟩ : ByteArray)]) ?_ 1 _ rfl; (with_reducible repeat (first | refine blk_drewN ?_ _ | refine blk_drew ?_ | refine blk_alloc ?_ _)); refine blk_put (cs := #[.int .i64 0, .int .i64 0, .string (⟨#[]⟩ : ByteArray)]) ?_ 0 _ rfl; exact kK BK139.out) hb); have n1_ := aM (below_step aP0 hb); clear BK139; clear HB; have BK139 := n0_; have HB := n1_; clear n0_ n1_; (try clear hb); (try clear hb2); (try clear hk); (try clear hi))))
    go_roundg k1
    case measure => have := HK1.out; omega
    case rel => exact ⟨(wrap64 (x9_1 + 1)), aP32, H', ⟨by have := HK1.out; omega⟩, ⟨aP0⟩⟩
   rw [if_pos c8] at H
   have c8b0 : decide (0 < x9_1) = true := decide_eq_true c8
   clear c8
   obtain ⟨ji9, hji9⟩ : ∃ j_ : Int, (wrap64 (x9_1 - 1)) = j_ := ⟨_, rfl⟩
   replace H : (if 0 ≤ (ji9) then (if (ji9) < (l0.length : Int) then (if (Op.bytesLess (((rd_T67 l0 x9_1).f2).toList) (((rd_T67 l0 (ji9)).f2).toList)) = true then (some false) else (if ((rd_T67 l0 (ji9)).f2).toList = ((rd_T67 l0 x9_1).f2).toList then (if ((rd_T67 l0 (ji9)).f1) ≥ ((rd_T67 l0 x9_1).f0) then (some false) else (spec_GoodMarks.l0 k1 l0 a1 l0 (l0.length : Int) (wrap64 (x9_1 + 1)))) else (spec_GoodMarks.l0 k1 l0 a1 l0 (l0.length : Int) (wrap64 (x9_1 + 1))))) else (none)) else (none)) = some r := by first | (rw [hji9] at H; exact H) | (simp only [hji9] at H ⊢; exact H)
   (try rw [hji9] at A6)
   have hji9w : (IntKind.i64.wrap (x9_1 - 1)) = ji9 := (i64_w _).trans hji9
   by_cases c10 : 0 ≤ (ji9)
   rotate_left
   ·rw [if_neg c10] at H
    exact absurd H (by simp)
   rw [if_pos c10] at H
   have c10b0 : decide (0 ≤ (ji9)) = true := decide_eq_true c10
   clear c10
   by_cases c11 : (ji9) < (l0.length : Int)
   rotate_left
   ·rw [if_neg c11] at H
    exact absurd H (by simp)
   rw [if_pos c11] at H
   have c11b0 : decide ((ji9) < (l0.length : Int)) = true := decide_eq_true c11
   clear c11
   by_cases c12 : (Op.bytesLess (((rd_T67 l0 x9_1).f2).toList) (((rd_T67 l0 (ji9)).f2).toList)) = true
   ·rw [if_pos c12] at H
    have c12b0 : (Op.bytesLess (((rd_T67 l0 x9_1).f2).toList) (((rd_T67 l0 (ji9)).f2).toList)) = true := c12
    clear c12
    obtain rfl := Option.some.inj H
    have p138 : 0 ≤ (x9_1 : Int) := of_decide_eq_true (by assumption)
    have q138 : x9_1 < (l0.length : Int) := of_decide_eq_true (by assumption)
    obtain ⟨ad138, e138, hx138_0, hx138_1, hx138_2⟩ := at_T67 HR0.out x9_1 p138 q138
    cases e138
    replace hx138_0 := hC HB.out hx138_0
    replace hx138_1 := hC HB.out hx138_1
    replace hx138_2 := hC HB.out hx138_2
    replace p138 := eq_true p138
    replace q138 := eq_true q138
    go_wp2_with (first | ((with_reducible refine gate_dst (N := 6) rfl ?_); refine box_event ?hg (N := 6) ?hd (cs := #[.int .i64 0, .int .i64 0, .string (⟨#[]⟩ : ByteArray)]) (t := 67) ?hr ?_; (case hd => rfl); (case hg => rfl); (case hr => exact aP40); intro gb139 hg w13 hbox hb; have BK139 := aM (hbox); have GW139 := aM (bG (w := w) hg); have GE139 := aM (bG (w := w) hg); replace HB := aM (below_step bB hb); clear hb hbox hg; obtain ⟨hcz14_0, hcz14_1, hcz14_2, hfz14_0, hfz14_1, hfz14_2⟩ := bx3 BK139.out) | (go_at_call 43; (with_reducible refine (spec_l5Mark.calls k1 ((rd_T67 l0 x9_1).f0) ((rd_T67 l0 x9_1).f1) ((rd_T67 l0 x9_1).f2) a1 true _ A6.out).mono ?_); rintro e w15 ⟨rfl, hb⟩; have n0_ := aM (blk_below (g := gb139) (o := .cells #[.int .i64 ((rd_T67 l0 x9_1).f0), .int .i64 ((rd_T67 l0 x9_1).f1), .string ((rd_T67 l0 x9_1).f2)] 67 (0, 0)) (by (with_reducible repeat (first | refine blk_drewN ?_ _ | refine blk_drew ?_ | refine blk_alloc ?_ _)); refine blk_put (cs := #[.int .i64 ((rd_T67 l0 x9_1).f0), .int .i64 ((rd_T67 l0 x9_1).f1), .string (⟨#[]⟩ : ByteArray)]) ?_ 2 _ rfl; (with_reducible repeat (first | refine blk_drewN ?_ _ | refine blk_drew ?_ | refine blk_alloc ?_ _)); refine blk_put (cs := #[.int .i64 ((rd_T67 l0 x9_1).f0), .int .i64 0, .string (⟨#[]⟩ : ByteArray)]) ?_ 1 _ rfl; (with_reducible repeat (first | refine blk_drewN ?_ _ | refine blk_drew ?_ | refine blk_alloc ?_ _)); refine blk_put (cs := #[.int .i64 0, .int .i64 0, .string (⟨#[]⟩ : ByteArray)]) ?_ 0 _ rfl; exact kK BK139.out) hb); have n1_ := aM (below_step aP0 hb); clear BK139; clear HB; have BK139 := n0_; have HB := n1_; clear n0_ n1_; (try clear hb); (try clear hb2); (try clear hk); (try clear hi); have p141 : 0 ≤ ((ji9) : Int) := of_decide_eq_true (by assumption); have q141 : (ji9) < (l0.length : Int) := of_decide_eq_true (by assumption); obtain ⟨ad141, e141, hx141_0, hx141_1, hx141_2⟩ := at_T67 HR0.out (ji9) p141 q141; obtain rfl : ad138 = ad141 := (by injection e141); replace hx141_0 := hC HB.out hx141_0; replace hx141_1 := hC HB.out hx141_1; replace hx141_2 := hC HB.out hx141_2; replace p141 := eq_true p141; replace q141 := eq_true q141; obtain ⟨hcz16_0, hcz16_1, hcz16_2, hfz16_0, hfz16_1, hfz16_2⟩ := bx3 BK139.out))
    repeat (go_quiet (first | ((with_reducible refine gate_dst (N := 6) rfl ?_); refine box_event ?hg (N := 6) ?hd (cs := #[.int .i64 0, .int .i64 0, .string (⟨#[]⟩ : ByteArray)]) (t := 67) ?hr ?_; (case hd => rfl); (case hg => rfl); (case hr => exact aP40); intro gb139 hg w13 hbox hb; have BK139 := aM (hbox); have GW139 := aM (bG (w := w) hg); have GE139 := aM (bG (w := w) hg); replace HB := aM (below_step bB hb); clear hb hbox hg; obtain ⟨hcz14_0, hcz14_1, hcz14_2, hfz14_0, hfz14_1, hfz14_2⟩ := bx3 BK139.out) | (go_at_call 43; (with_reducible refine (spec_l5Mark.calls k1 ((rd_T67 l0 x9_1).f0) ((rd_T67 l0 x9_1).f1) ((rd_T67 l0 x9_1).f2) a1 true _ A6.out).mono ?_); rintro e w15 ⟨rfl, hb⟩; have n0_ := aM (blk_below (g := gb139) (o := .cells #[.int .i64 ((rd_T67 l0 x9_1).f0), .int .i64 ((rd_T67 l0 x9_1).f1), .string ((rd_T67 l0 x9_1).f2)] 67 (0, 0)) (by (with_reducible repeat (first | refine blk_drewN ?_ _ | refine blk_drew ?_ | refine blk_alloc ?_ _)); refine blk_put (cs := #[.int .i64 ((rd_T67 l0 x9_1).f0), .int .i64 ((rd_T67 l0 x9_1).f1), .string (⟨#[]⟩ : ByteArray)]) ?_ 2 _ rfl; (with_reducible repeat (first | refine blk_drewN ?_ _ | refine blk_drew ?_ | refine blk_alloc ?_ _)); refine blk_put (cs := #[.int .i64 ((rd_T67 l0 x9_1).f0), .int .i64 0, .string (⟨#[]⟩ : ByteArray)]) ?_ 1 _ rfl; (with_reducible repeat (first | refine blk_drewN ?_ _ | refine blk_drew ?_ | refine blk_alloc ?_ _)); refine blk_put (cs := #[.int .i64 0, .int .i64 0, .string (⟨#[]⟩ : ByteArray)]) ?_ 0 _ rfl; exact kK BK139.out) hb); have n1_ := aM (below_step aP0 hb); clear BK139; clear HB; have BK139 := n0_; have HB := n1_; clear n0_ n1_; (try clear hb); (try clear hb2); (try clear hk); (try clear hi); have p141 : 0 ≤ ((ji9) : Int) := of_decide_eq_true (by assumption); have q141 : (ji9) < (l0.length : Int) := of_decide_eq_true (by assumption); obtain ⟨ad141, e141, hx141_0, hx141_1, hx141_2⟩ := at_T67 HR0.out (ji9) p141 q141; obtain rfl : ad138 = ad141 := (by injection e141); replace hx141_0 := hC HB.out hx141_0; replace hx141_1 := hC HB.out hx141_1; replace hx141_2 := hC HB.out hx141_2; replace p141 := eq_true p141; replace q141 := eq_true q141; obtain ⟨hcz16_0, hcz16_1, hcz16_2, hfz16_0, hfz16_1, hfz16_2⟩ := bx3 BK139.out)); try go_wp2_with (first | ((with_reducible refine gate_dst (N := 6) rfl ?_); refine box_event ?hg (N := 6) ?hd (cs := #[.int .i64 0, .int .i64 0, .string (⟨#[]⟩ : ByteArray)]) (t := 67) ?hr ?_; (case hd => rfl); (case hg => rfl); (case hr => exact aP40); intro gb139 hg w13 hbox hb; have BK139 := aM (hbox); have GW139 := aM (bG (w := w) hg); have GE139 := aM (bG (w := w) hg); replace HB := aM (below_step bB hb); clear hb hbox hg; obtain ⟨hcz14_0, hcz14_1, hcz14_2, hfz14_0, hfz14_1, hfz14_2⟩ := bx3 BK139.out) | (go_at_call 43; (with_reducible refine (spec_l5Mark.calls k1 ((rd_T67 l0 x9_1).f0) ((rd_T67 l0 x9_1).f1) ((rd_T67 l0 x9_1).f2) a1 true _ A6.out).mono ?_); rintro e w15 ⟨rfl, hb⟩; have n0_ := aM (blk_below (g := gb139) (o := .cells #[.int .i64 ((rd_T67 l0 x9_1).f0), .int .i64 ((rd_T67 l0 x9_1).f1), .string ((rd_T67 l0 x9_1).f2)] 67 (0, 0)) (by (with_reducible repeat (first | refine blk_drewN ?_ _ | refine blk_drew ?_ | refine blk_alloc ?_ _)); refine blk_put (cs := #[.int .i64 ((rd_T67 l0 x9_1).f0), .int .i64 ((rd_T67 l0 x9_1).f1), .string (⟨#[]⟩ : ByteArray)]) ?_ 2 _ rfl; (with_reducible repeat (first | refine blk_drewN ?_ _ | refine blk_drew ?_ | refine blk_alloc ?_ _)); refine blk_put (cs := #[.int .i64 ((rd_T67 l0 x9_1).f0), .int .i64 0, .string (⟨#[]⟩ : ByteArray)]) ?_ 1 _ rfl; (with_reducible repeat (first | refine blk_drewN ?_ _ | refine blk_drew ?_ | refine blk_alloc ?_ _)); refine blk_put (cs := #[.int .i64 0, .int .i64 0, .string (⟨#[]⟩ : ByteArray)]) ?_ 0 _ rfl; exact kK BK139.out) hb); have n1_ := aM (below_step aP0 hb); clear BK139; clear HB; have BK139 := n0_; have HB := n1_; clear n0_ n1_; (try clear hb); (try clear hb2); (try clear hk); (try clear hi); have p141 : 0 ≤ ((ji9) : Int) := of_decide_eq_true (by assumption); have q141 : (ji9) < (l0.length : Int) := of_decide_eq_true (by assumption); obtain ⟨ad141, e141, hx141_0, hx141_1, hx141_2⟩ := at_T67 HR0.out (ji9) p141 q141; obtain rfl : ad138 = ad141 := (by injection e141); replace hx141_0 := hC HB.out hx141_0; replace hx141_1 := hC HB.out hx141_1; replace hx141_2 := hC HB.out hx141_2; replace p141 := eq_true p141; replace q141 := eq_true q141; obtain ⟨hcz16_0, hcz16_1, hcz16_2, hfz16_0, hfz16_1, hfz16_2⟩ := bx3 BK139.out)))
    go_ret
    exact ⟨by first | rfl | (simp [errW_none, errW_some] <;> rfl) | (simp [errW_none, errW_some]; exact isE _) | (simp only [← hji9]; first | rfl | (simp [errW_none, errW_some] <;> rfl)) | (simp [*, errW_none, errW_some] <;> rfl), aP0⟩
   rw [if_neg c12] at H
   have c12b0 : (Op.bytesLess (((rd_T67 l0 x9_1).f2).toList) (((rd_T67 l0 (ji9)).f2).toList)) = false := by simpa using c12
   clear c12
   by_cases c17 : ((rd_T67 l0 (ji9)).f2).toList = ((rd_T67 l0 x9_1).f2).toList
   rotate_left
   ·rw [if_neg c17] at H
    have c17b0 : (((rd_T67 l0 (ji9)).f2).toList == ((rd_T67 l0 x9_1).f2).toList) = false := beq_eq_false_iff_ne.mpr c17
    have c17b1 : (((rd_T67 l0 (ji9)).f2).toList != ((rd_T67 l0 x9_1).f2).toList) = true := bne_iff_ne.mpr c17
    have H' := aM H
    clear H
    have p138 : 0 ≤ (x9_1 : Int) := of_decide_eq_true (by assumption)
    have q138 : x9_1 < (l0.length : Int) := of_decide_eq_true (by assumption)
    obtain ⟨ad138, e138, hx138_0, hx138_1, hx138_2⟩ := at_T67 HR0.out x9_1 p138 q138
    cases e138
    replace hx138_0 := hC HB.out hx138_0
    replace hx138_1 := hC HB.out hx138_1
    replace hx138_2 := hC HB.out hx138_2
    replace p138 := eq_true p138
    replace q138 := eq_true q138
    go_wp2_with (first | ((with_reducible refine gate_dst (N := 6) rfl ?_); refine box_event ?hg (N := 6) ?hd (cs := #[.int .i64 0, .int .i64 0, .string (⟨#[]⟩ : ByteArray)]) (t := 67) ?hr ?_; (case hd => rfl); (case hg => rfl); (case hr => exact aP40); intro gb139 hg w27 hbox hb; have BK139 := aM (hbox); have GW139 := aM (bG (w := w) hg); have GE139 := aM (bG (w := w) hg); replace HB := aM (below_step bB hb); clear hb hbox hg; obtain ⟨hcz28_0, hcz28_1, hcz28_2, hfz28_0, hfz28_1, hfz28_2⟩ := bx3 BK139.out) | (go_at_call 43; (with_reducible refine (spec_l5Mark.calls k1 ((rd_T67 l0 x9_1).f0) ((rd_T67 l0 x9_1).f1) ((rd_T67 l0 x9_1).f2) a1 true _ A6.out).mono ?_); rintro e w29 ⟨rfl, hb⟩; have n0_ := aM (blk_below (g := gb139) (o := .cells #[.int .i64 ((rd_T67 l0 x9_1).f0), .int .i64 ((rd_T67 l0 x9_1).f1), .string ((rd_T67 l0 x9_1).f2)] 67 (0, 0)) (by (with_reducible repeat (first | refine blk_drewN ?_ _ | refine blk_drew ?_ | refine blk_alloc ?_ _)); refine blk_put (cs := #[.int .i64 ((rd_T67 l0 x9_1).f0), .int .i64 ((rd_T67 l0 x9_1).f1), .string (⟨#[]⟩ : ByteArray)]) ?_ 2 _ rfl; (with_reducible repeat (first | refine blk_drewN ?_ _ | refine blk_drew ?_ | refine blk_alloc ?_ _)); refine blk_put (cs := #[.int .i64 ((rd_T67 l0 x9_1).f0), .int .i64 0, .string (⟨#[]⟩ : ByteArray)]) ?_ 1 _ rfl; (with_reducible repeat (first | refine blk_drewN ?_ _ | refine blk_drew ?_ | refine blk_alloc ?_ _)); refine blk_put (cs := #[.int .i64 0, .int .i64 0, .string (⟨#[]⟩ : ByteArray)]) ?_ 0 _ rfl; exact kK BK139.out) hb); have n1_ := aM (below_step aP0 hb); clear BK139; clear HB; have BK139 := n0_; have HB := n1_; clear n0_ n1_; (try clear hb); (try clear hb2); (try clear hk); (try clear hi); have p141 : 0 ≤ ((ji9) : Int) := of_decide_eq_true (by assumption); have q141 : (ji9) < (l0.length : Int) := of_decide_eq_true (by assumption); obtain ⟨ad141, e141, hx141_0, hx141_1, hx141_2⟩ := at_T67 HR0.out (ji9) p141 q141; obtain rfl : ad138 = ad141 := (by injection e141); replace hx141_0 := hC HB.out hx141_0; replace hx141_1 := hC HB.out hx141_1; replace hx141_2 := hC HB.out hx141_2; replace p141 := eq_true p141; replace q141 := eq_true q141; obtain ⟨hcz30_0, hcz30_1, hcz30_2, hfz30_0, hfz30_1, hfz30_2⟩ := bx3 BK139.out; have p142 : 0 ≤ ((ji9) : Int) := of_decide_eq_true (by assumption); have q142 : (ji9) < (l0.length : Int) := of_decide_eq_true (by assumption); obtain ⟨ad142, e142, hx142_0, hx142_1, hx142_2⟩ := at_T67 HR0.out (ji9) p142 q142; obtain rfl : ad138 = ad142 := (by injection e142); replace hx142_0 := hC HB.out hx142_0; replace hx142_1 := hC HB.out hx142_1; replace hx142_2 := hC HB.out hx142_2; replace p142 := eq_true p142; replace q142 := eq_true q142))
    repeat (go_quiet (first | ((with_reducible refine gate_dst (N := 6) rfl ?_); refine box_event ?hg (N := 6) ?hd (cs := #[.int .i64 0, .int .i64 0, .string (⟨#[]⟩ : ByteArray)]) (t := 67) ?hr ?_; (case hd => rfl); (case hg => rfl); (case hr => exact aP40); intro gb139 hg w27 hbox hb; have BK139 := aM (hbox); have GW139 := aM (bG (w := w) hg); have GE139 := aM (bG (w := w) hg); replace HB := aM (below_step bB hb); clear hb hbox hg; obtain ⟨hcz28_0, hcz28_1, hcz28_2, hfz28_0, hfz28_1, hfz28_2⟩ := bx3 BK139.out) | (go_at_call 43; (with_reducible refine (spec_l5Mark.calls k1 ((rd_T67 l0 x9_1).f0) ((rd_T67 l0 x9_1).f1) ((rd_T67 l0 x9_1).f2) a1 true _ A6.out).mono ?_); rintro e w29 ⟨rfl, hb⟩; have n0_ := aM (blk_below (g := gb139) (o := .cells #[.int .i64 ((rd_T67 l0 x9_1).f0), .int .i64 ((rd_T67 l0 x9_1).f1), .string ((rd_T67 l0 x9_1).f2)] 67 (0, 0)) (by (with_reducible repeat (first | refine blk_drewN ?_ _ | refine blk_drew ?_ | refine blk_alloc ?_ _)); refine blk_put (cs := #[.int .i64 ((rd_T67 l0 x9_1).f0), .int .i64 ((rd_T67 l0 x9_1).f1), .string (⟨#[]⟩ : ByteArray)]) ?_ 2 _ rfl; (with_reducible repeat (first | refine blk_drewN ?_ _ | refine blk_drew ?_ | refine blk_alloc ?_ _)); refine blk_put (cs := #[.int .i64 ((rd_T67 l0 x9_1).f0), .int .i64 0, .string (⟨#[]⟩ : ByteArray)]) ?_ 1 _ rfl; (with_reducible repeat (first | refine blk_drewN ?_ _ | refine blk_drew ?_ | refine blk_alloc ?_ _)); refine blk_put (cs := #[.int .i64 0, .int .i64 0, .string (⟨#[]⟩ : ByteArray)]) ?_ 0 _ rfl; exact kK BK139.out) hb); have n1_ := aM (below_step aP0 hb); clear BK139; clear HB; have BK139 := n0_; have HB := n1_; clear n0_ n1_; (try clear hb); (try clear hb2); (try clear hk); (try clear hi); have p141 : 0 ≤ ((ji9) : Int) := of_decide_eq_true (by assumption); have q141 : (ji9) < (l0.length : Int) := of_decide_eq_true (by assumption); obtain ⟨ad141, e141, hx141_0, hx141_1, hx141_2⟩ := at_T67 HR0.out (ji9) p141 q141; obtain rfl : ad138 = ad141 := (by injection e141); replace hx141_0 := hC HB.out hx141_0; replace hx141_1 := hC HB.out hx141_1; replace hx141_2 := hC HB.out hx141_2; replace p141 := eq_true p141; replace q141 := eq_true q141; obtain ⟨hcz30_0, hcz30_1, hcz30_2, hfz30_0, hfz30_1, hfz30_2⟩ := bx3 BK139.out; have p142 : 0 ≤ ((ji9) : Int) := of_decide_eq_true (by assumption); have q142 : (ji9) < (l0.length : Int) := of_decide_eq_true (by assumption); obtain ⟨ad142, e142, hx142_0, hx142_1, hx142_2⟩ := at_T67 HR0.out (ji9) p142 q142; obtain rfl : ad138 = ad142 := (by injection e142); replace hx142_0 := hC HB.out hx142_0; replace hx142_1 := hC HB.out hx142_1; replace hx142_2 := hC HB.out hx142_2; replace p142 := eq_true p142; replace q142 := eq_true q142)); try go_wp2_with (first | ((with_reducible refine gate_dst (N := 6) rfl ?_); refine box_event ?hg (N := 6) ?hd (cs := #[.int .i64 0, .int .i64 0, .string (⟨#[]⟩ : ByteArray)]) (t := 67) ?hr ?_; (case hd => rfl); (case hg => rfl); (case hr => exact aP40); intro gb139 hg w27 hbox hb; have BK139 := aM (hbox); have GW139 := aM (bG (w := w) hg); have GE139 := aM (bG (w := w) hg); replace HB := aM (below_step bB hb); clear hb hbox hg; obtain ⟨hcz28_0, hcz28_1, hcz28_2, hfz28_0, hfz28_1, hfz28_2⟩ := bx3 BK139.out) | (go_at_call 43; (with_reducible refine (spec_l5Mark.calls k1 ((rd_T67 l0 x9_1).f0) ((rd_T67 l0 x9_1).f1) ((rd_T67 l0 x9_1).f2) a1 true _ A6.out).mono ?_); rintro e w29 ⟨rfl, hb⟩; have n0_ := aM (blk_below (g := gb139) (o := .cells #[.int .i64 ((rd_T67 l0 x9_1).f0), .int .i64 ((rd_T67 l0 x9_1).f1), .string ((rd_T67 l0 x9_1).f2)] 67 (0, 0)) (by (with_reducible repeat (first | refine blk_drewN ?_ _ | refine blk_drew ?_ | refine blk_alloc ?_ _)); refine blk_put (cs := #[.int .i64 ((rd_T67 l0 x9_1).f0), .int .i64 ((rd_T67 l0 x9_1).f1), .string (⟨#[]⟩ : ByteArray)]) ?_ 2 _ rfl; (with_reducible repeat (first | refine blk_drewN ?_ _ | refine blk_drew ?_ | refine blk_alloc ?_ _)); refine blk_put (cs := #[.int .i64 ((rd_T67 l0 x9_1).f0), .int .i64 0, .string (⟨#[]⟩ : ByteArray)]) ?_ 1 _ rfl; (with_reducible repeat (first | refine blk_drewN ?_ _ | refine blk_drew ?_ | refine blk_alloc ?_ _)); refine blk_put (cs := #[.int .i64 0, .int .i64 0, .string (⟨#[]⟩ : ByteArray)]) ?_ 0 _ rfl; exact kK BK139.out) hb); have n1_ := aM (below_step aP0 hb); clear BK139; clear HB; have BK139 := n0_; have HB := n1_; clear n0_ n1_; (try clear hb); (try clear hb2); (try clear hk); (try clear hi); have p141 : 0 ≤ ((ji9) : Int) := of_decide_eq_true (by assumption); have q141 : (ji9) < (l0.length : Int) := of_decide_eq_true (by assumption); obtain ⟨ad141, e141, hx141_0, hx141_1, hx141_2⟩ := at_T67 HR0.out (ji9) p141 q141; obtain rfl : ad138 = ad141 := (by injection e141); replace hx141_0 := hC HB.out hx141_0; replace hx141_1 := hC HB.out hx141_1; replace hx141_2 := hC HB.out hx141_2; replace p141 := eq_true p141; replace q141 := eq_true q141; obtain ⟨hcz30_0, hcz30_1, hcz30_2, hfz30_0, hfz30_1, hfz30_2⟩ := bx3 BK139.out; have p142 : 0 ≤ ((ji9) : Int) := of_decide_eq_true (by assumption); have q142 : (ji9) < (l0.length : Int) := of_decide_eq_true (by assumption); obtain ⟨ad142, e142, hx142_0, hx142_1, hx142_2⟩ := at_T67 HR0.out (ji9) p142 q142; obtain rfl : ad138 = ad142 := (by injection e142); replace hx142_0 := hC HB.out hx142_0; replace hx142_1 := hC HB.out hx142_1; replace hx142_2 := hC HB.out hx142_2; replace p142 := eq_true p142; replace q142 := eq_true q142)))
    go_roundg k1
    case measure => have := HK1.out; omega
    case rel => exact ⟨(wrap64 (x9_1 + 1)), aP32, H', ⟨by have := HK1.out; omega⟩, ⟨aP0⟩⟩
   rw [if_pos c17] at H
   have c17b0 : (((rd_T67 l0 (ji9)).f2).toList == ((rd_T67 l0 x9_1).f2).toList) = true := beq_iff_eq.mpr c17
   have c17b1 : (((rd_T67 l0 (ji9)).f2).toList != ((rd_T67 l0 x9_1).f2).toList) = false := bne_eq_false_iff_eq.mpr c17
   clear c17
   by_cases c18 : ((rd_T67 l0 (ji9)).f1) ≥ ((rd_T67 l0 x9_1).f0)
   rotate_left
   ·rw [if_neg c18] at H
    have c18b0 : decide (((rd_T67 l0 x9_1).f0) ≤ ((rd_T67 l0 (ji9)).f1)) = false := decide_eq_false c18
    clear c18
    have H' := aM H
    clear H
    have p138 : 0 ≤ (x9_1 : Int) := of_decide_eq_true (by assumption)
    have q138 : x9_1 < (l0.length : Int) := of_decide_eq_true (by assumption)
    obtain ⟨ad138, e138, hx138_0, hx138_1, hx138_2⟩ := at_T67 HR0.out x9_1 p138 q138
    cases e138
    replace hx138_0 := hC HB.out hx138_0
    replace hx138_1 := hC HB.out hx138_1
    replace hx138_2 := hC HB.out hx138_2
    replace p138 := eq_true p138
    replace q138 := eq_true q138
    go_wp2_with (first | ((with_reducible refine gate_dst (N := 6) rfl ?_); refine box_event ?hg (N := 6) ?hd (cs := #[.int .i64 0, .int .i64 0, .string (⟨#[]⟩ : ByteArray)]) (t := 67) ?hr ?_; (case hd => rfl); (case hg => rfl); (case hr => exact aP40); intro gb139 hg w23 hbox hb; have BK139 := aM (hbox); have GW139 := aM (bG (w := w) hg); have GE139 := aM (bG (w := w) hg); replace HB := aM (below_step bB hb); clear hb hbox hg; obtain ⟨hcz24_0, hcz24_1, hcz24_2, hfz24_0, hfz24_1, hfz24_2⟩ := bx3 BK139.out) | (go_at_call 43; (with_reducible refine (spec_l5Mark.calls k1 ((rd_T67 l0 x9_1).f0) ((rd_T67 l0 x9_1).f1) ((rd_T67 l0 x9_1).f2) a1 true _ A6.out).mono ?_); rintro e w25 ⟨rfl, hb⟩; have n0_ := aM (blk_below (g := gb139) (o := .cells #[.int .i64 ((rd_T67 l0 x9_1).f0), .int .i64 ((rd_T67 l0 x9_1).f1), .string ((rd_T67 l0 x9_1).f2)] 67 (0, 0)) (by (with_reducible repeat (first | refine blk_drewN ?_ _ | refine blk_drew ?_ | refine blk_alloc ?_ _)); refine blk_put (cs := #[.int .i64 ((rd_T67 l0 x9_1).f0), .int .i64 ((rd_T67 l0 x9_1).f1), .string (⟨#[]⟩ : ByteArray)]) ?_ 2 _ rfl; (with_reducible repeat (first | refine blk_drewN ?_ _ | refine blk_drew ?_ | refine blk_alloc ?_ _)); refine blk_put (cs := #[.int .i64 ((rd_T67 l0 x9_1).f0), .int .i64 0, .string (⟨#[]⟩ : ByteArray)]) ?_ 1 _ rfl; (with_reducible repeat (first | refine blk_drewN ?_ _ | refine blk_drew ?_ | refine blk_alloc ?_ _)); refine blk_put (cs := #[.int .i64 0, .int .i64 0, .string (⟨#[]⟩ : ByteArray)]) ?_ 0 _ rfl; exact kK BK139.out) hb); have n1_ := aM (below_step aP0 hb); clear BK139; clear HB; have BK139 := n0_; have HB := n1_; clear n0_ n1_; (try clear hb); (try clear hb2); (try clear hk); (try clear hi); have p141 : 0 ≤ ((ji9) : Int) := of_decide_eq_true (by assumption); have q141 : (ji9) < (l0.length : Int) := of_decide_eq_true (by assumption); obtain ⟨ad141, e141, hx141_0, hx141_1, hx141_2⟩ := at_T67 HR0.out (ji9) p141 q141; obtain rfl : ad138 = ad141 := (by injection e141); replace hx141_0 := hC HB.out hx141_0; replace hx141_1 := hC HB.out hx141_1; replace hx141_2 := hC HB.out hx141_2; replace p141 := eq_true p141; replace q141 := eq_true q141; obtain ⟨hcz26_0, hcz26_1, hcz26_2, hfz26_0, hfz26_1, hfz26_2⟩ := bx3 BK139.out; have p142 : 0 ≤ ((ji9) : Int) := of_decide_eq_true (by assumption); have q142 : (ji9) < (l0.length : Int) := of_decide_eq_true (by assumption); obtain ⟨ad142, e142, hx142_0, hx142_1, hx142_2⟩ := at_T67 HR0.out (ji9) p142 q142; obtain rfl : ad138 = ad142 := (by injection e142); replace hx142_0 := hC HB.out hx142_0; replace hx142_1 := hC HB.out hx142_1; replace hx142_2 := hC HB.out hx142_2; replace p142 := eq_true p142; replace q142 := eq_true q142; have p143 : 0 ≤ ((ji9) : Int) := of_decide_eq_true (by assumption); have q143 : (ji9) < (l0.length : Int) := of_decide_eq_true (by assumption); obtain ⟨ad143, e143, hx143_0, hx143_1, hx143_2⟩ := at_T67 HR0.out (ji9) p143 q143; obtain rfl : ad138 = ad143 := (by injection e143); replace hx143_0 := hC HB.out hx143_0; replace hx143_1 := hC HB.out hx143_1; replace hx143_2 := hC HB.out hx143_2; replace p143 := eq_true p143; replace q143 := eq_true q143))
    repeat (go_quiet (first | ((with_reducible refine gate_dst (N := 6) rfl ?_); refine box_event ?hg (N := 6) ?hd (cs := #[.int .i64 0, .int .i64 0, .string (⟨#[]⟩ : ByteArray)]) (t := 67) ?hr ?_; (case hd => rfl); (case hg => rfl); (case hr => exact aP40); intro gb139 hg w23 hbox hb; have BK139 := aM (hbox); have GW139 := aM (bG (w := w) hg); have GE139 := aM (bG (w := w) hg); replace HB := aM (below_step bB hb); clear hb hbox hg; obtain ⟨hcz24_0, hcz24_1, hcz24_2, hfz24_0, hfz24_1, hfz24_2⟩ := bx3 BK139.out) | (go_at_call 43; (with_reducible refine (spec_l5Mark.calls k1 ((rd_T67 l0 x9_1).f0) ((rd_T67 l0 x9_1).f1) ((rd_T67 l0 x9_1).f2) a1 true _ A6.out).mono ?_); rintro e w25 ⟨rfl, hb⟩; have n0_ := aM (blk_below (g := gb139) (o := .cells #[.int .i64 ((rd_T67 l0 x9_1).f0), .int .i64 ((rd_T67 l0 x9_1).f1), .string ((rd_T67 l0 x9_1).f2)] 67 (0, 0)) (by (with_reducible repeat (first | refine blk_drewN ?_ _ | refine blk_drew ?_ | refine blk_alloc ?_ _)); refine blk_put (cs := #[.int .i64 ((rd_T67 l0 x9_1).f0), .int .i64 ((rd_T67 l0 x9_1).f1), .string (⟨#[]⟩ : ByteArray)]) ?_ 2 _ rfl; (with_reducible repeat (first | refine blk_drewN ?_ _ | refine blk_drew ?_ | refine blk_alloc ?_ _)); refine blk_put (cs := #[.int .i64 ((rd_T67 l0 x9_1).f0), .int .i64 0, .string (⟨#[]⟩ : ByteArray)]) ?_ 1 _ rfl; (with_reducible repeat (first | refine blk_drewN ?_ _ | refine blk_drew ?_ | refine blk_alloc ?_ _)); refine blk_put (cs := #[.int .i64 0, .int .i64 0, .string (⟨#[]⟩ : ByteArray)]) ?_ 0 _ rfl; exact kK BK139.out) hb); have n1_ := aM (below_step aP0 hb); clear BK139; clear HB; have BK139 := n0_; have HB := n1_; clear n0_ n1_; (try clear hb); (try clear hb2); (try clear hk); (try clear hi); have p141 : 0 ≤ ((ji9) : Int) := of_decide_eq_true (by assumption); have q141 : (ji9) < (l0.length : Int) := of_decide_eq_true (by assumption); obtain ⟨ad141, e141, hx141_0, hx141_1, hx141_2⟩ := at_T67 HR0.out (ji9) p141 q141; obtain rfl : ad138 = ad141 := (by injection e141); replace hx141_0 := hC HB.out hx141_0; replace hx141_1 := hC HB.out hx141_1; replace hx141_2 := hC HB.out hx141_2; replace p141 := eq_true p141; replace q141 := eq_true q141; obtain ⟨hcz26_0, hcz26_1, hcz26_2, hfz26_0, hfz26_1, hfz26_2⟩ := bx3 BK139.out; have p142 : 0 ≤ ((ji9) : Int) := of_decide_eq_true (by assumption); have q142 : (ji9) < (l0.length : Int) := of_decide_eq_true (by assumption); obtain ⟨ad142, e142, hx142_0, hx142_1, hx142_2⟩ := at_T67 HR0.out (ji9) p142 q142; obtain rfl : ad138 = ad142 := (by injection e142); replace hx142_0 := hC HB.out hx142_0; replace hx142_1 := hC HB.out hx142_1; replace hx142_2 := hC HB.out hx142_2; replace p142 := eq_true p142; replace q142 := eq_true q142; have p143 : 0 ≤ ((ji9) : Int) := of_decide_eq_true (by assumption); have q143 : (ji9) < (l0.length : Int) := of_decide_eq_true (by assumption); obtain ⟨ad143, e143, hx143_0, hx143_1, hx143_2⟩ := at_T67 HR0.out (ji9) p143 q143; obtain rfl : ad138 = ad143 := (by injection e143); replace hx143_0 := hC HB.out hx143_0; replace hx143_1 := hC HB.out hx143_1; replace hx143_2 := hC HB.out hx143_2; replace p143 := eq_true p143; replace q143 := eq_true q143)); try go_wp2_with (first | ((with_reducible refine gate_dst (N := 6) rfl ?_); refine box_event ?hg (N := 6) ?hd (cs := #[.int .i64 0, .int .i64 0, .string (⟨#[]⟩ : ByteArray)]) (t := 67) ?hr ?_; (case hd => rfl); (case hg => rfl); (case hr => exact aP40); intro gb139 hg w23 hbox hb; have BK139 := aM (hbox); have GW139 := aM (bG (w := w) hg); have GE139 := aM (bG (w := w) hg); replace HB := aM (below_step bB hb); clear hb hbox hg; obtain ⟨hcz24_0, hcz24_1, hcz24_2, hfz24_0, hfz24_1, hfz24_2⟩ := bx3 BK139.out) | (go_at_call 43; (with_reducible refine (spec_l5Mark.calls k1 ((rd_T67 l0 x9_1).f0) ((rd_T67 l0 x9_1).f1) ((rd_T67 l0 x9_1).f2) a1 true _ A6.out).mono ?_); rintro e w25 ⟨rfl, hb⟩; have n0_ := aM (blk_below (g := gb139) (o := .cells #[.int .i64 ((rd_T67 l0 x9_1).f0), .int .i64 ((rd_T67 l0 x9_1).f1), .string ((rd_T67 l0 x9_1).f2)] 67 (0, 0)) (by (with_reducible repeat (first | refine blk_drewN ?_ _ | refine blk_drew ?_ | refine blk_alloc ?_ _)); refine blk_put (cs := #[.int .i64 ((rd_T67 l0 x9_1).f0), .int .i64 ((rd_T67 l0 x9_1).f1), .string (⟨#[]⟩ : ByteArray)]) ?_ 2 _ rfl; (with_reducible repeat (first | refine blk_drewN ?_ _ | refine blk_drew ?_ | refine blk_alloc ?_ _)); refine blk_put (cs := #[.int .i64 ((rd_T67 l0 x9_1).f0), .int .i64 0, .string (⟨#[]⟩ : ByteArray)]) ?_ 1 _ rfl; (with_reducible repeat (first | refine blk_drewN ?_ _ | refine blk_drew ?_ | refine blk_alloc ?_ _)); refine blk_put (cs := #[.int .i64 0, .int .i64 0, .string (⟨#[]⟩ : ByteArray)]) ?_ 0 _ rfl; exact kK BK139.out) hb); have n1_ := aM (below_step aP0 hb); clear BK139; clear HB; have BK139 := n0_; have HB := n1_; clear n0_ n1_; (try clear hb); (try clear hb2); (try clear hk); (try clear hi); have p141 : 0 ≤ ((ji9) : Int) := of_decide_eq_true (by assumption); have q141 : (ji9) < (l0.length : Int) := of_decide_eq_true (by assumption); obtain ⟨ad141, e141, hx141_0, hx141_1, hx141_2⟩ := at_T67 HR0.out (ji9) p141 q141; obtain rfl : ad138 = ad141 := (by injection e141); replace hx141_0 := hC HB.out hx141_0; replace hx141_1 := hC HB.out hx141_1; replace hx141_2 := hC HB.out hx141_2; replace p141 := eq_true p141; replace q141 := eq_true q141; obtain ⟨hcz26_0, hcz26_1, hcz26_2, hfz26_0, hfz26_1, hfz26_2⟩ := bx3 BK139.out; have p142 : 0 ≤ ((ji9) : Int) := of_decide_eq_true (by assumption); have q142 : (ji9) < (l0.length : Int) := of_decide_eq_true (by assumption); obtain ⟨ad142, e142, hx142_0, hx142_1, hx142_2⟩ := at_T67 HR0.out (ji9) p142 q142; obtain rfl : ad138 = ad142 := (by injection e142); replace hx142_0 := hC HB.out hx142_0; replace hx142_1 := hC HB.out hx142_1; replace hx142_2 := hC HB.out hx142_2; replace p142 := eq_true p142; replace q142 := eq_true q142; have p143 : 0 ≤ ((ji9) : Int) := of_decide_eq_true (by assumption); have q143 : (ji9) < (l0.length : Int) := of_decide_eq_true (by assumption); obtain ⟨ad143, e143, hx143_0, hx143_1, hx143_2⟩ := at_T67 HR0.out (ji9) p143 q143; obtain rfl : ad138 = ad143 := (by injection e143); replace hx143_0 := hC HB.out hx143_0; replace hx143_1 := hC HB.out hx143_1; replace hx143_2 := hC HB.out hx143_2; replace p143 := eq_true p143; replace q143 := eq_true q143)))
    go_roundg k1
    case measure => have := HK1.out; omega
    case rel => exact ⟨(wrap64 (x9_1 + 1)), aP32, H', ⟨by have := HK1.out; omega⟩, ⟨aP0⟩⟩
   rw [if_pos c18] at H
   have c18b0 : decide (((rd_T67 l0 x9_1).f0) ≤ ((rd_T67 l0 (ji9)).f1)) = true := decide_eq_true c18
   clear c18
   obtain rfl := Option.some.inj H
   have p138 : 0 ≤ (x9_1 : Int) := of_decide_eq_true (by assumption)
   have q138 : x9_1 < (l0.length : Int) := of_decide_eq_true (by assumption)
   obtain ⟨ad138, e138, hx138_0, hx138_1, hx138_2⟩ := at_T67 HR0.out x9_1 p138 q138
   cases e138
   replace hx138_0 := hC HB.out hx138_0
   replace hx138_1 := hC HB.out hx138_1
   replace hx138_2 := hC HB.out hx138_2
   replace p138 := eq_true p138
   replace q138 := eq_true q138
   go_wp2_with (first | ((with_reducible refine gate_dst (N := 6) rfl ?_); refine box_event ?hg (N := 6) ?hd (cs := #[.int .i64 0, .int .i64 0, .string (⟨#[]⟩ : ByteArray)]) (t := 67) ?hr ?_; (case hd => rfl); (case hg => rfl); (case hr => exact aP40); intro gb139 hg w19 hbox hb; have BK139 := aM (hbox); have GW139 := aM (bG (w := w) hg); have GE139 := aM (bG (w := w) hg); replace HB := aM (below_step bB hb); clear hb hbox hg; obtain ⟨hcz20_0, hcz20_1, hcz20_2, hfz20_0, hfz20_1, hfz20_2⟩ := bx3 BK139.out) | (go_at_call 43; (with_reducible refine (spec_l5Mark.calls k1 ((rd_T67 l0 x9_1).f0) ((rd_T67 l0 x9_1).f1) ((rd_T67 l0 x9_1).f2) a1 true _ A6.out).mono ?_); rintro e w21 ⟨rfl, hb⟩; have n0_ := aM (blk_below (g := gb139) (o := .cells #[.int .i64 ((rd_T67 l0 x9_1).f0), .int .i64 ((rd_T67 l0 x9_1).f1), .string ((rd_T67 l0 x9_1).f2)] 67 (0, 0)) (by (with_reducible repeat (first | refine blk_drewN ?_ _ | refine blk_drew ?_ | refine blk_alloc ?_ _)); refine blk_put (cs := #[.int .i64 ((rd_T67 l0 x9_1).f0), .int .i64 ((rd_T67 l0 x9_1).f1), .string (⟨#[]⟩ : ByteArray)]) ?_ 2 _ rfl; (with_reducible repeat (first | refine blk_drewN ?_ _ | refine blk_drew ?_ | refine blk_alloc ?_ _)); refine blk_put (cs := #[.int .i64 ((rd_T67 l0 x9_1).f0), .int .i64 0, .string (⟨#[]⟩ : ByteArray)]) ?_ 1 _ rfl; (with_reducible repeat (first | refine blk_drewN ?_ _ | refine blk_drew ?_ | refine blk_alloc ?_ _)); refine blk_put (cs := #[.int .i64 0, .int .i64 0, .string (⟨#[]⟩ : ByteArray)]) ?_ 0 _ rfl; exact kK BK139.out) hb); have n1_ := aM (below_step aP0 hb); clear BK139; clear HB; have BK139 := n0_; have HB := n1_; clear n0_ n1_; (try clear hb); (try clear hb2); (try clear hk); (try clear hi); have p141 : 0 ≤ ((ji9) : Int) := of_decide_eq_true (by assumption); have q141 : (ji9) < (l0.length : Int) := of_decide_eq_true (by assumption); obtain ⟨ad141, e141, hx141_0, hx141_1, hx141_2⟩ := at_T67 HR0.out (ji9) p141 q141; obtain rfl : ad138 = ad141 := (by injection e141); replace hx141_0 := hC HB.out hx141_0; replace hx141_1 := hC HB.out hx141_1; replace hx141_2 := hC HB.out hx141_2; replace p141 := eq_true p141; replace q141 := eq_true q141; obtain ⟨hcz22_0, hcz22_1, hcz22_2, hfz22_0, hfz22_1, hfz22_2⟩ := bx3 BK139.out; have p142 : 0 ≤ ((ji9) : Int) := of_decide_eq_true (by assumption); have q142 : (ji9) < (l0.length : Int) := of_decide_eq_true (by assumption); obtain ⟨ad142, e142, hx142_0, hx142_1, hx142_2⟩ := at_T67 HR0.out (ji9) p142 q142; obtain rfl : ad138 = ad142 := (by injection e142); replace hx142_0 := hC HB.out hx142_0; replace hx142_1 := hC HB.out hx142_1; replace hx142_2 := hC HB.out hx142_2; replace p142 := eq_true p142; replace q142 := eq_true q142; have p143 : 0 ≤ ((ji9) : Int) := of_decide_eq_true (by assumption); have q143 : (ji9) < (l0.length : Int) := of_decide_eq_true (by assumption); obtain ⟨ad143, e143, hx143_0, hx143_1, hx143_2⟩ := at_T67 HR0.out (ji9) p143 q143; obtain rfl : ad138 = ad143 := (by injection e143); replace hx143_0 := hC HB.out hx143_0; replace hx143_1 := hC HB.out hx143_1; replace hx143_2 := hC HB.out hx143_2; replace p143 := eq_true p143; replace q143 := eq_true q143))
   repeat (go_quiet (first | ((with_reducible refine gate_dst (N := 6) rfl ?_); refine box_event ?hg (N := 6) ?hd (cs := #[.int .i64 0, .int .i64 0, .string (⟨#[]⟩ : ByteArray)]) (t := 67) ?hr ?_; (case hd => rfl); (case hg => rfl); (case hr => exact aP40); intro gb139 hg w19 hbox hb; have BK139 := aM (hbox); have GW139 := aM (bG (w := w) hg); have GE139 := aM (bG (w := w) hg); replace HB := aM (below_step bB hb); clear hb hbox hg; obtain ⟨hcz20_0, hcz20_1, hcz20_2, hfz20_0, hfz20_1, hfz20_2⟩ := bx3 BK139.out) | (go_at_call 43; (with_reducible refine (spec_l5Mark.calls k1 ((rd_T67 l0 x9_1).f0) ((rd_T67 l0 x9_1).f1) ((rd_T67 l0 x9_1).f2) a1 true _ A6.out).mono ?_); rintro e w21 ⟨rfl, hb⟩; have n0_ := aM (blk_below (g := gb139) (o := .cells #[.int .i64 ((rd_T67 l0 x9_1).f0), .int .i64 ((rd_T67 l0 x9_1).f1), .string ((rd_T67 l0 x9_1).f2)] 67 (0, 0)) (by (with_reducible repeat (first | refine blk_drewN ?_ _ | refine blk_drew ?_ | refine blk_alloc ?_ _)); refine blk_put (cs := #[.int .i64 ((rd_T67 l0 x9_1).f0), .int .i64 ((rd_T67 l0 x9_1).f1), .string (⟨#[]⟩ : ByteArray)]) ?_ 2 _ rfl; (with_reducible repeat (first | refine blk_drewN ?_ _ | refine blk_drew ?_ | refine blk_alloc ?_ _)); refine blk_put (cs := #[.int .i64 ((rd_T67 l0 x9_1).f0), .int .i64 0, .string (⟨#[]⟩ : ByteArray)]) ?_ 1 _ rfl; (with_reducible repeat (first | refine blk_drewN ?_ _ | refine blk_drew ?_ | refine blk_alloc ?_ _)); refine blk_put (cs := #[.int .i64 0, .int .i64 0, .string (⟨#[]⟩ : ByteArray)]) ?_ 0 _ rfl; exact kK BK139.out) hb); have n1_ := aM (below_step aP0 hb); clear BK139; clear HB; have BK139 := n0_; have HB := n1_; clear n0_ n1_; (try clear hb); (try clear hb2); (try clear hk); (try clear hi); have p141 : 0 ≤ ((ji9) : Int) := of_decide_eq_true (by assumption); have q141 : (ji9) < (l0.length : Int) := of_decide_eq_true (by assumption); obtain ⟨ad141, e141, hx141_0, hx141_1, hx141_2⟩ := at_T67 HR0.out (ji9) p141 q141; obtain rfl : ad138 = ad141 := (by injection e141); replace hx141_0 := hC HB.out hx141_0; replace hx141_1 := hC HB.out hx141_1; replace hx141_2 := hC HB.out hx141_2; replace p141 := eq_true p141; replace q141 := eq_true q141; obtain ⟨hcz22_0, hcz22_1, hcz22_2, hfz22_0, hfz22_1, hfz22_2⟩ := bx3 BK139.out; have p142 : 0 ≤ ((ji9) : Int) := of_decide_eq_true (by assumption); have q142 : (ji9) < (l0.length : Int) := of_decide_eq_true (by assumption); obtain ⟨ad142, e142, hx142_0, hx142_1, hx142_2⟩ := at_T67 HR0.out (ji9) p142 q142; obtain rfl : ad138 = ad142 := (by injection e142); replace hx142_0 := hC HB.out hx142_0; replace hx142_1 := hC HB.out hx142_1; replace hx142_2 := hC HB.out hx142_2; replace p142 := eq_true p142; replace q142 := eq_true q142; have p143 : 0 ≤ ((ji9) : Int) := of_decide_eq_true (by assumption); have q143 : (ji9) < (l0.length : Int) := of_decide_eq_true (by assumption); obtain ⟨ad143, e143, hx143_0, hx143_1, hx143_2⟩ := at_T67 HR0.out (ji9) p143 q143; obtain rfl : ad138 = ad143 := (by injection e143); replace hx143_0 := hC HB.out hx143_0; replace hx143_1 := hC HB.out hx143_1; replace hx143_2 := hC HB.out hx143_2; replace p143 := eq_true p143; replace q143 := eq_true q143)); try go_wp2_with (first | ((with_reducible refine gate_dst (N := 6) rfl ?_); refine box_event ?hg (N := 6) ?hd (cs := #[.int .i64 0, .int .i64 0, .string (⟨#[]⟩ : ByteArray)]) (t := 67) ?hr ?_; (case hd => rfl); (case hg => rfl); (case hr => exact aP40); intro gb139 hg w19 hbox hb; have BK139 := aM (hbox); have GW139 := aM (bG (w := w) hg); have GE139 := aM (bG (w := w) hg); replace HB := aM (below_step bB hb); clear hb hbox hg; obtain ⟨hcz20_0, hcz20_1, hcz20_2, hfz20_0, hfz20_1, hfz20_2⟩ := bx3 BK139.out) | (go_at_call 43; (with_reducible refine (spec_l5Mark.calls k1 ((rd_T67 l0 x9_1).f0) ((rd_T67 l0 x9_1).f1) ((rd_T67 l0 x9_1).f2) a1 true _ A6.out).mono ?_); rintro e w21 ⟨rfl, hb⟩; have n0_ := aM (blk_below (g := gb139) (o := .cells #[.int .i64 ((rd_T67 l0 x9_1).f0), .int .i64 ((rd_T67 l0 x9_1).f1), .string ((rd_T67 l0 x9_1).f2)] 67 (0, 0)) (by (with_reducible repeat (first | refine blk_drewN ?_ _ | refine blk_drew ?_ | refine blk_alloc ?_ _)); refine blk_put (cs := #[.int .i64 ((rd_T67 l0 x9_1).f0), .int .i64 ((rd_T67 l0 x9_1).f1), .string (⟨#[]⟩ : ByteArray)]) ?_ 2 _ rfl; (with_reducible repeat (first | refine blk_drewN ?_ _ | refine blk_drew ?_ | refine blk_alloc ?_ _)); refine blk_put (cs := #[.int .i64 ((rd_T67 l0 x9_1).f0), .int .i64 0, .string (⟨#[]⟩ : ByteArray)]) ?_ 1 _ rfl; (with_reducible repeat (first | refine blk_drewN ?_ _ | refine blk_drew ?_ | refine blk_alloc ?_ _)); refine blk_put (cs := #[.int .i64 0, .int .i64 0, .string (⟨#[]⟩ : ByteArray)]) ?_ 0 _ rfl; exact kK BK139.out) hb); have n1_ := aM (below_step aP0 hb); clear BK139; clear HB; have BK139 := n0_; have HB := n1_; clear n0_ n1_; (try clear hb); (try clear hb2); (try clear hk); (try clear hi); have p141 : 0 ≤ ((ji9) : Int) := of_decide_eq_true (by assumption); have q141 : (ji9) < (l0.length : Int) := of_decide_eq_true (by assumption); obtain ⟨ad141, e141, hx141_0, hx141_1, hx141_2⟩ := at_T67 HR0.out (ji9) p141 q141; obtain rfl : ad138 = ad141 := (by injection e141); replace hx141_0 := hC HB.out hx141_0; replace hx141_1 := hC HB.out hx141_1; replace hx141_2 := hC HB.out hx141_2; replace p141 := eq_true p141; replace q141 := eq_true q141; obtain ⟨hcz22_0, hcz22_1, hcz22_2, hfz22_0, hfz22_1, hfz22_2⟩ := bx3 BK139.out; have p142 : 0 ≤ ((ji9) : Int) := of_decide_eq_true (by assumption); have q142 : (ji9) < (l0.length : Int) := of_decide_eq_true (by assumption); obtain ⟨ad142, e142, hx142_0, hx142_1, hx142_2⟩ := at_T67 HR0.out (ji9) p142 q142; obtain rfl : ad138 = ad142 := (by injection e142); replace hx142_0 := hC HB.out hx142_0; replace hx142_1 := hC HB.out hx142_1; replace hx142_2 := hC HB.out hx142_2; replace p142 := eq_true p142; replace q142 := eq_true q142; have p143 : 0 ≤ ((ji9) : Int) := of_decide_eq_true (by assumption); have q143 : (ji9) < (l0.length : Int) := of_decide_eq_true (by assumption); obtain ⟨ad143, e143, hx143_0, hx143_1, hx143_2⟩ := at_T67 HR0.out (ji9) p143 q143; obtain rfl : ad138 = ad143 := (by injection e143); replace hx143_0 := hC HB.out hx143_0; replace hx143_1 := hC HB.out hx143_1; replace hx143_2 := hC HB.out hx143_2; replace p143 := eq_true p143; replace q143 := eq_true q143)))
   go_ret
   exact ⟨by first | rfl | (simp [errW_none, errW_some] <;> rfl) | (simp [errW_none, errW_some]; exact isE _) | (simp only [← hji9]; first | rfl | (simp [errW_none, errW_some] <;> rfl)) | (simp [*, errW_none, errW_some] <;> rfl), aP0⟩
def spec_l3Sizes.l0 : Nat → Int → Int → List (S61) → Int → Int → Option (Int × Int)
 | 0, _, _, _, _, _ => none
 | k + 1, x4, x5, x8, x9, x10 => if x10 < x9 then (if 0 ≤ x10 then (if x10 < (x8.length : Int) then (spec_l3Sizes.l0 k (wrap64 (x4 + (wrap64 (((rd_T61 x8 x10).f0) + (((rd_T61 x8 x10).f2).size : Int))))) (wrap64 (x5 + (wrap64 (((rd_T61 x8 x10).f0) + (((rd_T61 x8 x10).f1).size : Int))))) x8 x9 (wrap64 (x10 + 1))) else (none)) else (none)) else (some (x4, x5))
def spec_l3Sizes.f (k : Nat) (l0 : List (S61)) : Option (Int × Int) := spec_l3Sizes.l0 k 0 0 l0 (l0.length : Int) 0
theorem spec_l3Sizes.mono_l : ∀ k, (∀ y0 y1 y2 y3 y4, LeO (spec_l3Sizes.l0 k y0 y1 y2 y3 y4) (spec_l3Sizes.l0 (k + 1) y0 y1 y2 y3 y4))
 | 0 => fun _ _ _ _ _ r h => by simp [spec_l3Sizes.l0] at h
 | k + 1 => by
  have ih0 := spec_l3Sizes.mono_l k
  ·intro y0 y1 y2 y3 y4
   unfold spec_l3Sizes.l0
   repeat' (with_reducible first | exact ih0 _ _ _ _ _ | exact LeO.refl _ | exact LeO.none _ | refine LeO.ite ?_ ?_ | refine LeO.bind ?_ (fun _ => ?_))
theorem spec_l3Sizes.mono : ∀ a0 k, LeO (spec_l3Sizes.f k a0) (spec_l3Sizes.f (k + 1) a0) := by
 intro a0 k
 have ih0 := spec_l3Sizes.mono_l k
 unfold spec_l3Sizes.f
 repeat' (with_reducible first | exact ih0 _ _ _ _ _ | exact LeO.refl _ | exact LeO.none _ | refine LeO.ite ?_ ?_ | refine LeO.bind ?_ (fun _ => ?_))
set_option maxHeartbeats 8000000 in
set_option maxRecDepth 100000 in
theorem spec_l3Sizes.calls (k : Nat) (A0 : Option Addr) (c0 : Nat) (l0 : List (S61)) (r1 : Int) (r2 : Int) (w : World) (hr0 : Kd.C k61 w A0 l0.length l0) (hc0 : l0.length ≤ c0) (h : spec_l3Sizes.f k l0 = some (r1, r2)) :
  Calls Try.prog 52 #[.slice A0 l0.length c0] w fun e w' => e = .returned (.tuple #[.int .i64 r1, .int .i64 r2]) ∧ Below w.heap.size w w' := by
 have hu61 := Try.underlying61
 have HR0 := aM hr0
 have HC0 := aM hc0
 clear hr0 hc0
 have HB := aM (Below.refl w.heap.size w)
 have H : (spec_l3Sizes.l0 k 0 0 l0 (l0.length : Int) 0) = some (r1, r2) := h
 clear h
 have H' := aM H
 clear H
 go_enter Try.func52, Try.ntmps52
 go_wp2
 go_loopg [4, 5, 10] k (fun kq v4 v5 v10 w' => ∃ (x4_1 : Int) (x5_1 : Int) (x10_1 : Int), v4 = .int .i64 x4_1 ∧ v5 = .int .i64 x5_1 ∧ v10 = .int .i64 x10_1 ∧ Aside0 (spec_l3Sizes.l0 kq x4_1 x5_1 l0 (l0.length : Int) x10_1 = some (r1, r2)) ∧ Aside0 (kq ≤ k) ∧ Aside0 (Below w.heap.size w w'))
 case atStart => exact ⟨(0), (0), (0), aP32, aP32, aP32, H', ⟨Nat.le_refl _⟩, ⟨bB⟩⟩
 case round =>
  clear H'
  obtain ⟨x4_1, x5_1, x10_1, rfl, rfl, rfl, HA, HK1, HB⟩ := hrel
  cases gk with
  | zero => exact absurd HA.out (by simp [spec_l3Sizes.l0])
  | succ k1 =>
   have H := HA.out
   clear HA
   simp only [spec_l3Sizes.l0] at H
   by_cases c2 : x10_1 < (l0.length : Int)
   rotate_left
   ·rw [if_neg c2] at H
    have c2b0 : decide (x10_1 < (l0.length : Int)) = false := decide_eq_false c2
    clear c2
    simp only [Option.some.injEq, Prod.mk.injEq] at H
    obtain ⟨rfl, rfl⟩ := H
    go_wp2
    go_ret2
    exact ⟨eR, bB⟩
   rw [if_pos c2] at H
   have c2b0 : decide (x10_1 < (l0.length : Int)) = true := decide_eq_true c2
   clear c2
   by_cases c3 : 0 ≤ x10_1
   rotate_left
   ·rw [if_neg c3] at H
    exact absurd H (by simp)
   rw [if_pos c3] at H
   have c3b0 : decide (0 ≤ x10_1) = true := decide_eq_true c3
   clear c3
   by_cases c4 : x10_1 < (l0.length : Int)
   rotate_left
   ·rw [if_neg c4] at H
    exact absurd H (by simp)
   rw [if_pos c4] at H
   have c4b0 : decide (x10_1 < (l0.length : Int)) = true := decide_eq_true c4
   clear c4
   have H' := aM H
   clear H
   have p144 : 0 ≤ (x10_1 : Int) := of_decide_eq_true (by assumption)
   have q144 : x10_1 < (l0.length : Int) := of_decide_eq_true (by assumption)
   obtain ⟨ad144, e144, hx144_0, hx144_1, hx144_2⟩ := at_T61 HR0.out x10_1 p144 q144
   cases e144
   replace hx144_0 := hC HB.out hx144_0
   replace hx144_1 := hC HB.out hx144_1
   replace hx144_2 := hC HB.out hx144_2
   replace p144 := eq_true p144
   replace q144 := eq_true q144
   go_wp2_with (first | ((with_reducible refine gate_dst (N := 7) rfl ?_); refine box_event ?hg (N := 7) ?hd (cs := #[.int .i64 0, .string (⟨#[]⟩ : ByteArray), .string (⟨#[]⟩ : ByteArray)]) (t := 61) ?hr ?_; (case hd => rfl); (case hg => rfl); (case hr => exact aP40); intro gb145 hg w5 hbox hb; have BK145 := aM (hbox); have GW145 := aM (bG (w := w) hg); have GE145 := aM (bG (w := w) hg); replace HB := aM (below_step bB hb); clear hb hbox hg; obtain ⟨hcz6_0, hcz6_1, hcz6_2, hfz6_0, hfz6_1, hfz6_2⟩ := bx3 BK145.out))
   go_roundg k1
   case measure => have := HK1.out; omega
   case rel => exact ⟨(wrap64 (x4_1 + (wrap64 (((rd_T61 l0 x10_1).f0) + (((rd_T61 l0 x10_1).f2).size : Int))))), (wrap64 (x5_1 + (wrap64 (((rd_T61 l0 x10_1).f0) + (((rd_T61 l0 x10_1).f1).size : Int))))), (wrap64 (x10_1 + 1)), aP32, aP32, aP32, H', ⟨by have := HK1.out; omega⟩, ⟨by repeat (first | (with_reducible first | exact HB.out | apply below_alloc | apply pw_below_drewN | apply below_drew1 | refine below_set ?_ GE145.out) | exact HB.out)⟩⟩
def spec_l1Open.f (a0 : Int) : Option (Bool) := if a0 ≥ 65 then (some (decide (a0 ≤ 70))) else (some false)
set_option maxHeartbeats 8000000 in
set_option maxRecDepth 100000 in
theorem spec_l1Open.calls (a0 : Int) (r : Bool) (w : World) (h : spec_l1Open.f a0 = some r) :
  Calls Try.prog 109 #[.int .u8 a0] w fun e w' => e = .returned (.bool r) ∧ Drawn0 w w' := by
 have H : (if a0 ≥ 65 then (some (decide (a0 ≤ 70))) else (some false)) = some r := h
 clear h
 by_cases c2 : a0 ≥ 65
 ·rw [if_pos c2] at H
  have c2b0 : decide (65 ≤ a0) = true := decide_eq_true c2
  clear c2
  obtain rfl := Option.some.inj H
  go_enter Try.func109, Try.ntmps109
  go_wp2
  go_ret
  exact ⟨by first | rfl | (simp; done) | (simp [*]; done), by repeat (first | exact Drawn0.refl _ | apply Drawn0.step)⟩
 rw [if_neg c2] at H
 have c2b0 : decide (65 ≤ a0) = false := decide_eq_false c2
 clear c2
 obtain rfl := Option.some.inj H
 go_enter Try.func109, Try.ntmps109
 go_wp2
 go_ret
 exact ⟨by first | rfl | (simp; done) | (simp [*]; done), by repeat (first | exact Drawn0.refl _ | apply Drawn0.step)⟩
def spec_l1Plain.f (a0 : Int) : Option (Bool) := if a0 ≥ 97 then (if a0 ≤ 122 then (some true) else (if a0 ≥ 48 then (if a0 ≤ 57 then (some true) else (if a0 = 32 then (some true) else (if a0 = 46 then (some true) else (some (a0 == 44))))) else (if a0 = 32 then (some true) else (if a0 = 46 then (some true) else (some (a0 == 44)))))) else (if a0 ≥ 48 then (if a0 ≤ 57 then (some true) else (if a0 = 32 then (some true) else (if a0 = 46 then (some true) else (some (a0 == 44))))) else (if a0 = 32 then (some true) else (if a0 = 46 then (some true) else (some (a0 == 44)))))
set_option maxHeartbeats 8000000 in
set_option maxRecDepth 100000 in
theorem spec_l1Plain.calls (a0 : Int) (r : Bool) (w : World) (h : spec_l1Plain.f a0 = some r) :
  Calls Try.prog 110 #[.int .u8 a0] w fun e w' => e = .returned (.bool r) ∧ Drawn0 w w' := by
 have H : (if a0 ≥ 97 then (if a0 ≤ 122 then (some true) else (if a0 ≥ 48 then (if a0 ≤ 57 then (some true) else (if a0 = 32 then (some true) else (if a0 = 46 then (some true) else (some (a0 == 44))))) else (if a0 = 32 then (some true) else (if a0 = 46 then (some true) else (some (a0 == 44)))))) else (if a0 ≥ 48 then (if a0 ≤ 57 then (some true) else (if a0 = 32 then (some true) else (if a0 = 46 then (some true) else (some (a0 == 44))))) else (if a0 = 32 then (some true) else (if a0 = 46 then (some true) else (some (a0 == 44)))))) = some r := h
 clear h
 by_cases c2 : a0 ≥ 97
 rotate_left
 ·rw [if_neg c2] at H
  have c2b0 : decide (97 ≤ a0) = false := decide_eq_false c2
  clear c2
  by_cases c10 : a0 ≥ 48
  rotate_left
  ·rw [if_neg c10] at H
   have c10b0 : decide (48 ≤ a0) = false := decide_eq_false c10
   clear c10
   by_cases c14 : a0 = 32
   ·rw [if_pos c14] at H
    have c14b0 : (a0 == 32) = true := beq_iff_eq.mpr c14
    have c14b1 : (a0 != 32) = false := bne_eq_false_iff_eq.mpr c14
    clear c14
    obtain rfl := Option.some.inj H
    go_enter Try.func110, Try.ntmps110
    go_wp2
    go_ret
    exact ⟨by first | rfl | (simp; done) | (simp [*]; done), by repeat (first | exact Drawn0.refl _ | apply Drawn0.step)⟩
   rw [if_neg c14] at H
   have c14b0 : (a0 == 32) = false := beq_eq_false_iff_ne.mpr c14
   have c14b1 : (a0 != 32) = true := bne_iff_ne.mpr c14
   by_cases c15 : a0 = 46
   rotate_left
   ·rw [if_neg c15] at H
    have c15b0 : (a0 == 46) = false := beq_eq_false_iff_ne.mpr c15
    have c15b1 : (a0 != 46) = true := bne_iff_ne.mpr c15
    obtain rfl := Option.some.inj H
    go_enter Try.func110, Try.ntmps110
    go_wp2
    go_ret
    exact ⟨by first | rfl | (simp; done) | (simp [*]; done), by repeat (first | exact Drawn0.refl _ | apply Drawn0.step)⟩
   rw [if_pos c15] at H
   have c15b0 : (a0 == 46) = true := beq_iff_eq.mpr c15
   have c15b1 : (a0 != 46) = false := bne_eq_false_iff_eq.mpr c15
   clear c15
   obtain rfl := Option.some.inj H
   go_enter Try.func110, Try.ntmps110
   go_wp2
   go_ret
   exact ⟨by first | rfl | (simp; done) | (simp [*]; done), by repeat (first | exact Drawn0.refl _ | apply Drawn0.step)⟩
  rw [if_pos c10] at H
  have c10b0 : decide (48 ≤ a0) = true := decide_eq_true c10
  clear c10
  by_cases c11 : a0 ≤ 57
  ·rw [if_pos c11] at H
   have c11b0 : decide (a0 ≤ 57) = true := decide_eq_true c11
   clear c11
   obtain rfl := Option.some.inj H
   go_enter Try.func110, Try.ntmps110
   go_wp2
   go_ret
   exact ⟨by first | rfl | (simp; done) | (simp [*]; done), by repeat (first | exact Drawn0.refl _ | apply Drawn0.step)⟩
  rw [if_neg c11] at H
  have c11b0 : decide (a0 ≤ 57) = false := decide_eq_false c11
  clear c11
  by_cases c12 : a0 = 32
  ·rw [if_pos c12] at H
   have c12b0 : (a0 == 32) = true := beq_iff_eq.mpr c12
   have c12b1 : (a0 != 32) = false := bne_eq_false_iff_eq.mpr c12
   clear c12
   obtain rfl := Option.some.inj H
   go_enter Try.func110, Try.ntmps110
   go_wp2
   go_ret
   exact ⟨by first | rfl | (simp; done) | (simp [*]; done), by repeat (first | exact Drawn0.refl _ | apply Drawn0.step)⟩
  rw [if_neg c12] at H
  have c12b0 : (a0 == 32) = false := beq_eq_false_iff_ne.mpr c12
  have c12b1 : (a0 != 32) = true := bne_iff_ne.mpr c12
  by_cases c13 : a0 = 46
  rotate_left
  ·rw [if_neg c13] at H
   have c13b0 : (a0 == 46) = false := beq_eq_false_iff_ne.mpr c13
   have c13b1 : (a0 != 46) = true := bne_iff_ne.mpr c13
   obtain rfl := Option.some.inj H
   go_enter Try.func110, Try.ntmps110
   go_wp2
   go_ret
   exact ⟨by first | rfl | (simp; done) | (simp [*]; done), by repeat (first | exact Drawn0.refl _ | apply Drawn0.step)⟩
  rw [if_pos c13] at H
  have c13b0 : (a0 == 46) = true := beq_iff_eq.mpr c13
  have c13b1 : (a0 != 46) = false := bne_eq_false_iff_eq.mpr c13
  clear c13
  obtain rfl := Option.some.inj H
  go_enter Try.func110, Try.ntmps110
  go_wp2
  go_ret
  exact ⟨by first | rfl | (simp; done) | (simp [*]; done), by repeat (first | exact Drawn0.refl _ | apply Drawn0.step)⟩
 rw [if_pos c2] at H
 have c2b0 : decide (97 ≤ a0) = true := decide_eq_true c2
 clear c2
 by_cases c3 : a0 ≤ 122
 ·rw [if_pos c3] at H
  have c3b0 : decide (a0 ≤ 122) = true := decide_eq_true c3
  clear c3
  obtain rfl := Option.some.inj H
  go_enter Try.func110, Try.ntmps110
  go_wp2
  go_ret
  exact ⟨by first | rfl | (simp; done) | (simp [*]; done), by repeat (first | exact Drawn0.refl _ | apply Drawn0.step)⟩
 rw [if_neg c3] at H
 have c3b0 : decide (a0 ≤ 122) = false := decide_eq_false c3
 clear c3
 by_cases c4 : a0 ≥ 48
 rotate_left
 ·rw [if_neg c4] at H
  have c4b0 : decide (48 ≤ a0) = false := decide_eq_false c4
  clear c4
  by_cases c8 : a0 = 32
  ·rw [if_pos c8] at H
   have c8b0 : (a0 == 32) = true := beq_iff_eq.mpr c8
   have c8b1 : (a0 != 32) = false := bne_eq_false_iff_eq.mpr c8
   clear c8
   obtain rfl := Option.some.inj H
   go_enter Try.func110, Try.ntmps110
   go_wp2
   go_ret
   exact ⟨by first | rfl | (simp; done) | (simp [*]; done), by repeat (first | exact Drawn0.refl _ | apply Drawn0.step)⟩
  rw [if_neg c8] at H
  have c8b0 : (a0 == 32) = false := beq_eq_false_iff_ne.mpr c8
  have c8b1 : (a0 != 32) = true := bne_iff_ne.mpr c8
  by_cases c9 : a0 = 46
  rotate_left
  ·rw [if_neg c9] at H
   have c9b0 : (a0 == 46) = false := beq_eq_false_iff_ne.mpr c9
   have c9b1 : (a0 != 46) = true := bne_iff_ne.mpr c9
   obtain rfl := Option.some.inj H
   go_enter Try.func110, Try.ntmps110
   go_wp2
   go_ret
   exact ⟨by first | rfl | (simp; done) | (simp [*]; done), by repeat (first | exact Drawn0.refl _ | apply Drawn0.step)⟩
  rw [if_pos c9] at H
  have c9b0 : (a0 == 46) = true := beq_iff_eq.mpr c9
  have c9b1 : (a0 != 46) = false := bne_eq_false_iff_eq.mpr c9
  clear c9
  obtain rfl := Option.some.inj H
  go_enter Try.func110, Try.ntmps110
  go_wp2
  go_ret
  exact ⟨by first | rfl | (simp; done) | (simp [*]; done), by repeat (first | exact Drawn0.refl _ | apply Drawn0.step)⟩
 rw [if_pos c4] at H
 have c4b0 : decide (48 ≤ a0) = true := decide_eq_true c4
 clear c4
 by_cases c5 : a0 ≤ 57
 ·rw [if_pos c5] at H
  have c5b0 : decide (a0 ≤ 57) = true := decide_eq_true c5
  clear c5
  obtain rfl := Option.some.inj H
  go_enter Try.func110, Try.ntmps110
  go_wp2
  go_ret
  exact ⟨by first | rfl | (simp; done) | (simp [*]; done), by repeat (first | exact Drawn0.refl _ | apply Drawn0.step)⟩
 rw [if_neg c5] at H
 have c5b0 : decide (a0 ≤ 57) = false := decide_eq_false c5
 clear c5
 by_cases c6 : a0 = 32
 ·rw [if_pos c6] at H
  have c6b0 : (a0 == 32) = true := beq_iff_eq.mpr c6
  have c6b1 : (a0 != 32) = false := bne_eq_false_iff_eq.mpr c6
  clear c6
  obtain rfl := Option.some.inj H
  go_enter Try.func110, Try.ntmps110
  go_wp2
  go_ret
  exact ⟨by first | rfl | (simp; done) | (simp [*]; done), by repeat (first | exact Drawn0.refl _ | apply Drawn0.step)⟩
 rw [if_neg c6] at H
 have c6b0 : (a0 == 32) = false := beq_eq_false_iff_ne.mpr c6
 have c6b1 : (a0 != 32) = true := bne_iff_ne.mpr c6
 by_cases c7 : a0 = 46
 rotate_left
 ·rw [if_neg c7] at H
  have c7b0 : (a0 == 46) = false := beq_eq_false_iff_ne.mpr c7
  have c7b1 : (a0 != 46) = true := bne_iff_ne.mpr c7
  obtain rfl := Option.some.inj H
  go_enter Try.func110, Try.ntmps110
  go_wp2
  go_ret
  exact ⟨by first | rfl | (simp; done) | (simp [*]; done), by repeat (first | exact Drawn0.refl _ | apply Drawn0.step)⟩
 rw [if_pos c7] at H
 have c7b0 : (a0 == 46) = true := beq_iff_eq.mpr c7
 have c7b1 : (a0 != 46) = false := bne_eq_false_iff_eq.mpr c7
 clear c7
 obtain rfl := Option.some.inj H
 go_enter Try.func110, Try.ntmps110
 go_wp2
 go_ret
 exact ⟨by first | rfl | (simp; done) | (simp [*]; done), by repeat (first | exact Drawn0.refl _ | apply Drawn0.step)⟩
def spec_l1Text.l0 : Nat → ByteArray → Int → Option (Bool)
 | 0, _, _ => none
 | k + 1, x0, x3 => if x3 < (x0.size : Int) then (if 0 ≤ x3 then ((spec_l1Open.f (bt x0 x3)).bind fun t146 => (if t146 = true then (spec_l1Text.l0 k x0 (wrap64 (x3 + 1))) else ((spec_l1Plain.f (bt x0 x3)).bind fun t147 => (if t147 = true then (spec_l1Text.l0 k x0 (wrap64 (x3 + 1))) else (if (bt x0 x3) = 47 then (spec_l1Text.l0 k x0 (wrap64 (x3 + 1))) else (some false)))))) else (none)) else (some true)
def spec_l1Text.f (k : Nat) (a0 : ByteArray) : Option (Bool) := spec_l1Text.l0 k a0 0
theorem spec_l1Text.mono_l : ∀ k, (∀ y0 y1, LeO (spec_l1Text.l0 k y0 y1) (spec_l1Text.l0 (k + 1) y0 y1))
 | 0 => fun _ _ r h => by simp [spec_l1Text.l0] at h
 | k + 1 => by
  have ih0 := spec_l1Text.mono_l k
  ·intro y0 y1
   unfold spec_l1Text.l0
   repeat' (with_reducible first | exact ih0 _ _ | exact LeO.refl _ | exact LeO.none _ | refine LeO.ite ?_ ?_ | refine LeO.bind ?_ (fun _ => ?_))
theorem spec_l1Text.mono : ∀ a0 k, LeO (spec_l1Text.f k a0) (spec_l1Text.f (k + 1) a0) := by
 intro a0 k
 have ih0 := spec_l1Text.mono_l k
 unfold spec_l1Text.f
 repeat' (with_reducible first | exact ih0 _ _ | exact LeO.refl _ | exact LeO.none _ | refine LeO.ite ?_ ?_ | refine LeO.bind ?_ (fun _ => ?_))
set_option maxHeartbeats 8000000 in
set_option maxRecDepth 100000 in
theorem spec_l1Text.calls (k : Nat) (a0 : ByteArray) (r : Bool) (w : World) (h : spec_l1Text.f k a0 = some r) :
  Calls Try.prog 93 #[.string a0] w fun e w' => e = .returned (.bool r) ∧ Drawn0 w w' := by
 have H : (spec_l1Text.l0 k a0 0) = some r := h
 clear h
 have H' := aM H
 clear H
 go_enter Try.func93, Try.ntmps93
 go_wp2
 go_loopg [3] k (fun kq v3 w' => ∃ (x3_1 : Int), v3 = .int .i64 x3_1 ∧ Aside0 (spec_l1Text.l0 kq a0 x3_1 = some r) ∧ Aside0 (kq ≤ k) ∧ Drawn0 w w')
 case atStart => exact ⟨(0), aP32, H', ⟨Nat.le_refl _⟩, by repeat (first | exact Drawn0.refl _ | apply Drawn0.step)⟩
 case round =>
  clear H'
  obtain ⟨x3_1, rfl, HA, HK1, ⟨m1, rfl⟩⟩ := hrel
  cases gk with
  | zero => exact absurd HA.out (by simp [spec_l1Text.l0])
  | succ k1 =>
   have H := HA.out
   clear HA
   simp only [spec_l1Text.l0] at H
   by_cases c2 : x3_1 < (a0.size : Int)
   rotate_left
   ·rw [if_neg c2] at H
    have c2b0 : decide (x3_1 < (a0.size : Int)) = false := decide_eq_false c2
    clear c2
    obtain rfl := Option.some.inj H
    go_wp2
    go_ret
    exact ⟨by first | rfl | (simp; done) | (simp [*]; done), by repeat (first | exact Drawn0.refl _ | apply Drawn0.step)⟩
   rw [if_pos c2] at H
   have c2b0 : decide (x3_1 < (a0.size : Int)) = true := decide_eq_true c2
   clear c2
   by_cases c3 : 0 ≤ x3_1
   rotate_left
   ·rw [if_neg c3] at H
    exact absurd H (by simp)
   rw [if_pos c3] at H
   have c3b0 : decide (0 ≤ x3_1) = true := decide_eq_true c3
   clear c3
   replace H := Option.bind_eq_some_iff.mp H
   obtain ⟨t146, A50, H⟩ := H
   replace H : (if t146 = true then (spec_l1Text.l0 k1 a0 (wrap64 (x3_1 + 1))) else ((spec_l1Plain.f (bt a0 x3_1)).bind fun t147 => (if t147 = true then (spec_l1Text.l0 k1 a0 (wrap64 (x3_1 + 1))) else (if (bt a0 x3_1) = 47 then (spec_l1Text.l0 k1 a0 (wrap64 (x3_1 + 1))) else (some false))))) = some r := H
   have A5 := aM A50
   clear A50
   by_cases c6 : t146 = true
   ·subst c6
    replace H : (spec_l1Text.l0 k1 a0 (wrap64 (x3_1 + 1))) = some r := by rw [if_pos rfl] at H; exact H
    have H' := aM H
    clear H
    have p4 : 0 ≤ (x3_1 : Int) := of_decide_eq_true (by assumption)
    have q4 : x3_1 < (a0.size : Int) := of_decide_eq_true (by assumption)
    have hx4 := bt_at a0 x3_1
    replace p4 := eq_true p4
    replace q4 := eq_true q4
    go_wp2_with (first | ((with_reducible refine gate_callee (f := 109) rfl ?_); refine goesL_ (some 13) rfl rfl Try.func109 (by kernel_rfl) rfl #[.int .u8 (bt a0 x3_1)] rfl mM ?_; (with_reducible refine (spec_l1Open.calls (bt a0 x3_1) true _ A5.out).mono ?_); rintro e w' ⟨rfl, ⟨nd, rfl⟩⟩; refine ⟨_, rfl, ?_⟩))
    go_roundg k1
    case measure => have := HK1.out; omega
    case rel => exact ⟨(wrap64 (x3_1 + 1)), aP32, H', ⟨by have := HK1.out; omega⟩, by repeat (first | exact Drawn0.refl _ | apply Drawn0.step)⟩
   replace c6 := Bool.eq_false_iff.mpr c6
   subst c6
   replace H : ((spec_l1Plain.f (bt a0 x3_1)).bind fun t147 => (if t147 = true then (spec_l1Text.l0 k1 a0 (wrap64 (x3_1 + 1))) else (if (bt a0 x3_1) = 47 then (spec_l1Text.l0 k1 a0 (wrap64 (x3_1 + 1))) else (some false)))) = some r := by rw [if_neg (show ¬ (false = true) by decide)] at H; exact H
   replace H := Option.bind_eq_some_iff.mp H
   obtain ⟨t147, A80, H⟩ := H
   replace H : (if t147 = true then (spec_l1Text.l0 k1 a0 (wrap64 (x3_1 + 1))) else (if (bt a0 x3_1) = 47 then (spec_l1Text.l0 k1 a0 (wrap64 (x3_1 + 1))) else (some false))) = some r := H
   have A8 := aM A80
   clear A80
   by_cases c9 : t147 = true
   ·subst c9
    replace H : (spec_l1Text.l0 k1 a0 (wrap64 (x3_1 + 1))) = some r := by rw [if_pos rfl] at H; exact H
    have H' := aM H
    clear H
    have p4 : 0 ≤ (x3_1 : Int) := of_decide_eq_true (by assumption)
    have q4 : x3_1 < (a0.size : Int) := of_decide_eq_true (by assumption)
    have hx4 := bt_at a0 x3_1
    replace p4 := eq_true p4
    replace q4 := eq_true q4
    go_wp2_with (first | ((with_reducible refine gate_callee (f := 109) rfl ?_); refine goesL_ (some 13) rfl rfl Try.func109 (by kernel_rfl) rfl #[.int .u8 (bt a0 x3_1)] rfl mM ?_; (with_reducible refine (spec_l1Open.calls (bt a0 x3_1) false _ A5.out).mono ?_); rintro e w' ⟨rfl, ⟨nd, rfl⟩⟩; refine ⟨_, rfl, ?_⟩; have p7 : 0 ≤ (x3_1 : Int) := of_decide_eq_true (by assumption); have q7 : x3_1 < (a0.size : Int) := of_decide_eq_true (by assumption); have hx7 := bt_at a0 x3_1; replace p7 := eq_true p7; replace q7 := eq_true q7) | (go_at_call 110; (with_reducible refine (spec_l1Plain.calls (bt a0 x3_1) true _ A8.out).mono ?_); rintro e w' ⟨rfl, ⟨nd, rfl⟩⟩))
    go_roundg k1
    case measure => have := HK1.out; omega
    case rel => exact ⟨(wrap64 (x3_1 + 1)), aP32, H', ⟨by have := HK1.out; omega⟩, by repeat (first | exact Drawn0.refl _ | apply Drawn0.step)⟩
   replace c9 := Bool.eq_false_iff.mpr c9
   subst c9
   replace H : (if (bt a0 x3_1) = 47 then (spec_l1Text.l0 k1 a0 (wrap64 (x3_1 + 1))) else (some false)) = some r := by rw [if_neg (show ¬ (false = true) by decide)] at H; exact H
   by_cases c11 : (bt a0 x3_1) = 47
   rotate_left
   ·rw [if_neg c11] at H
    have c11b0 : ((bt a0 x3_1) == 47) = false := beq_eq_false_iff_ne.mpr c11
    have c11b1 : ((bt a0 x3_1) != 47) = true := bne_iff_ne.mpr c11
    obtain rfl := Option.some.inj H
    have p4 : 0 ≤ (x3_1 : Int) := of_decide_eq_true (by assumption)
    have q4 : x3_1 < (a0.size : Int) := of_decide_eq_true (by assumption)
    have hx4 := bt_at a0 x3_1
    replace p4 := eq_true p4
    replace q4 := eq_true q4
    go_wp2_with (first | ((with_reducible refine gate_callee (f := 109) rfl ?_); refine goesL_ (some 13) rfl rfl Try.func109 (by kernel_rfl) rfl #[.int .u8 (bt a0 x3_1)] rfl mM ?_; (with_reducible refine (spec_l1Open.calls (bt a0 x3_1) false _ A5.out).mono ?_); rintro e w' ⟨rfl, ⟨nd, rfl⟩⟩; refine ⟨_, rfl, ?_⟩; have p7 : 0 ≤ (x3_1 : Int) := of_decide_eq_true (by assumption); have q7 : x3_1 < (a0.size : Int) := of_decide_eq_true (by assumption); have hx7 := bt_at a0 x3_1; replace p7 := eq_true p7; replace q7 := eq_true q7) | (go_at_call 110; (with_reducible refine (spec_l1Plain.calls (bt a0 x3_1) false _ A8.out).mono ?_); rintro e w' ⟨rfl, ⟨nd, rfl⟩⟩; have p10 : 0 ≤ (x3_1 : Int) := of_decide_eq_true (by assumption); have q10 : x3_1 < (a0.size : Int) := of_decide_eq_true (by assumption); have hx10 := bt_at a0 x3_1; replace p10 := eq_true p10; replace q10 := eq_true q10))
    go_ret
    exact ⟨by first | rfl | (simp; done) | (simp [*]; done), by repeat (first | exact Drawn0.refl _ | apply Drawn0.step)⟩
   rw [if_pos c11] at H
   have c11b0 : ((bt a0 x3_1) == 47) = true := beq_iff_eq.mpr c11
   have c11b1 : ((bt a0 x3_1) != 47) = false := bne_eq_false_iff_eq.mpr c11
   clear c11
   have H' := aM H
   clear H
   have p4 : 0 ≤ (x3_1 : Int) := of_decide_eq_true (by assumption)
   have q4 : x3_1 < (a0.size : Int) := of_decide_eq_true (by assumption)
   have hx4 := bt_at a0 x3_1
   replace p4 := eq_true p4
   replace q4 := eq_true q4
   go_wp2_with (first | ((with_reducible refine gate_callee (f := 109) rfl ?_); refine goesL_ (some 13) rfl rfl Try.func109 (by kernel_rfl) rfl #[.int .u8 (bt a0 x3_1)] rfl mM ?_; (with_reducible refine (spec_l1Open.calls (bt a0 x3_1) false _ A5.out).mono ?_); rintro e w' ⟨rfl, ⟨nd, rfl⟩⟩; refine ⟨_, rfl, ?_⟩; have p7 : 0 ≤ (x3_1 : Int) := of_decide_eq_true (by assumption); have q7 : x3_1 < (a0.size : Int) := of_decide_eq_true (by assumption); have hx7 := bt_at a0 x3_1; replace p7 := eq_true p7; replace q7 := eq_true q7) | (go_at_call 110; (with_reducible refine (spec_l1Plain.calls (bt a0 x3_1) false _ A8.out).mono ?_); rintro e w' ⟨rfl, ⟨nd, rfl⟩⟩; have p10 : 0 ≤ (x3_1 : Int) := of_decide_eq_true (by assumption); have q10 : x3_1 < (a0.size : Int) := of_decide_eq_true (by assumption); have hx10 := bt_at a0 x3_1; replace p10 := eq_true p10; replace q10 := eq_true q10))
   go_roundg k1
   case measure => have := HK1.out; omega
   case rel => exact ⟨(wrap64 (x3_1 + 1)), aP32, H', ⟨by have := HK1.out; omega⟩, by repeat (first | exact Drawn0.refl _ | apply Drawn0.step)⟩
def spec_GoodText.f (k : Nat) (a0 : ByteArray) : Option (Bool) := (spec_l1Text.f k a0).bind fun t148 => (if t148 = true then (some (decide ((a0.size : Int) ≤ 300))) else (some false))
theorem spec_GoodText.mono : ∀ a0 k, LeO (spec_GoodText.f k a0) (spec_GoodText.f (k + 1) a0) := by
 intro a0 k
 unfold spec_GoodText.f
 repeat' (with_reducible first | exact spec_l1Text.mono _ _ | exact LeO.refl _ | exact LeO.none _ | refine LeO.ite ?_ ?_ | refine LeO.bind ?_ (fun _ => ?_))
set_option maxHeartbeats 8000000 in
set_option maxRecDepth 100000 in
theorem spec_GoodText.calls (k : Nat) (a0 : ByteArray) (r : Bool) (w : World) (h : spec_GoodText.f k a0 = some r) :
  Calls Try.prog 81 #[.string a0] w fun e w' => e = .returned (.bool r) ∧ Drawn0 w w' := by
 have H : ((spec_l1Text.f k a0).bind fun t148 => (if t148 = true then (some (decide ((a0.size : Int) ≤ 300))) else (some false))) = some r := h
 clear h
 replace H := Option.bind_eq_some_iff.mp H
 obtain ⟨t148, A20, H⟩ := H
 replace H : (if t148 = true then (some (decide ((a0.size : Int) ≤ 300))) else (some false)) = some r := H
 have A2 := aM A20
 clear A20
 by_cases c3 : t148 = true
 ·subst c3
  replace H : (some (decide ((a0.size : Int) ≤ 300))) = some r := by rw [if_pos rfl] at H; exact H
  obtain rfl := Option.some.inj H
  go_enter Try.func81, Try.ntmps81
  go_wp2_with (first | ((with_reducible refine gate_callee (f := 93) rfl ?_); refine goesL_ (some 4) rfl rfl Try.func93 (by kernel_rfl) rfl #[.string a0] rfl mM ?_; (with_reducible refine (spec_l1Text.calls k a0 true _ A2.out).mono ?_); rintro e w' ⟨rfl, ⟨nd, rfl⟩⟩; refine ⟨_, rfl, ?_⟩))
  go_ret
  exact ⟨by first | rfl | (simp; done) | (simp [*]; done), by repeat (first | exact Drawn0.refl _ | apply Drawn0.step)⟩
 replace c3 := Bool.eq_false_iff.mpr c3
 subst c3
 replace H : (some false) = some r := by rw [if_neg (show ¬ (false = true) by decide)] at H; exact H
 obtain rfl := Option.some.inj H
 go_enter Try.func81, Try.ntmps81
 go_wp2_with (first | ((with_reducible refine gate_callee (f := 93) rfl ?_); refine goesL_ (some 4) rfl rfl Try.func93 (by kernel_rfl) rfl #[.string a0] rfl mM ?_; (with_reducible refine (spec_l1Text.calls k a0 false _ A2.out).mono ?_); rintro e w' ⟨rfl, ⟨nd, rfl⟩⟩; refine ⟨_, rfl, ?_⟩))
 go_ret
 exact ⟨by first | rfl | (simp; done) | (simp [*]; done), by repeat (first | exact Drawn0.refl _ | apply Drawn0.step)⟩
end Go.Proofs.Ytmhcmcdppimcpaa.PFnExactMoveMarks
