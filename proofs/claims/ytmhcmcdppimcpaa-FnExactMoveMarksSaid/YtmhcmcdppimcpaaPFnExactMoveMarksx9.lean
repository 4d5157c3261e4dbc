/- (thin) Written by a program of this session (wip/ovl.py) over the kit's print: plain functions with the answers of the Go functions, and the proofs that they are; no condition. -/
import Derived.Test.YtmhcmcdppimcpaaPFnExactMoveMarksx0
import Derived.Test.YtmhcmcdppimcpaaPFnExactMoveMarksx8
namespace Go.Proofs.Ytmhcmcdppimcpaa.PFnExactMoveMarks
open Go.RowKit Go.Proofs.YtmhcmcdppimcpaaW.PrintWords Go.Proofs.YtmhcmcdppimcpaaW.PrintLast Go.Proofs.YtmhcmcdppimcpaaW.PrintMore
attribute [local go_sem] max2_int min2_int max_two min_two max_three min_three max_four min_four   -- for this text's walks alone
set_option linter.unusedVariables false
set_option linter.unusedSimpArgs false
mutual
def impl_GoodMarks.j0 : Nat → List (S67) → Int → Bool → Option (Bool)
 | 0, _, _, _ => none
 | k + 1, x0, x1, x17 => if x17 = true then (some false) else (impl_GoodMarks.l0 k x0 x1 x0 (x0.length : Int) 0)
def impl_GoodMarks.l0 : Nat → List (S67) → Int → List (S67) → Int → Int → Option (Bool)
 | 0, _, _, _, _, _ => none
 | k + 1, x0, x1, x18, x19, x20 => if x20 < x19 then (if 0 ≤ x20 then (if x20 < (x18.length : Int) then ((impl_isMark.f k ((rd_T67 x18 x20).f0) ((rd_T67 x18 x20).f1) ((rd_T67 x18 x20).f2) x1).bind fun t253 => (if t253 = true then (if x20 > 0 then (if 0 ≤ (wrap64 (x20 - 1)) then (if (wrap64 (x20 - 1)) < (x0.length : Int) then (if (Op.bytesLess (((rd_T67 x18 x20).f2).toList) (((rd_T67 x0 (wrap64 (x20 - 1))).f2).toList)) = true then (some false) else (if ((rd_T67 x0 (wrap64 (x20 - 1))).f2).toList = ((rd_T67 x18 x20).f2).toList then (if ((rd_T67 x0 (wrap64 (x20 - 1))).f1) ≥ ((rd_T67 x18 x20).f0) then (some false) else (impl_GoodMarks.l0 k x0 x1 x18 x19 (wrap64 (x20 + 1)))) else (impl_GoodMarks.l0 k x0 x1 x18 x19 (wrap64 (x20 + 1))))) else (none)) else (none)) else (impl_GoodMarks.l0 k x0 x1 x18 x19 (wrap64 (x20 + 1)))) else (some false))) else (none)) else (none)) else (some true)
end
def impl_GoodMarks.f (k : Nat) (l0 : List (S67)) (a1 : Int) : Option (Bool) := if a1 < 0 then (impl_GoodMarks.j0 k l0 a1 true) else (if a1 > 300 then (impl_GoodMarks.j0 k l0 a1 true) else (impl_GoodMarks.j0 k l0 a1 (decide ((l0.length : Int) > 40))))
theorem impl_GoodMarks.mono_l : ∀ k, (∀ y0 y1 y2, LeO (impl_GoodMarks.j0 k y0 y1 y2) (impl_GoodMarks.j0 (k + 1) y0 y1 y2)) ∧ (∀ y0 y1 y2 y3 y4, LeO (impl_GoodMarks.l0 k y0 y1 y2 y3 y4) (impl_GoodMarks.l0 (k + 1) y0 y1 y2 y3 y4))
 | 0 => ⟨fun _ _ _ r h => by simp [impl_GoodMarks.j0] at h, fun _ _ _ _ _ r h => by simp [impl_GoodMarks.l0] at h⟩
 | k + 1 => by
  obtain ⟨ih0, ih1⟩ := impl_GoodMarks.mono_l k
  refine ⟨?_, ?_⟩
  ·intro y0 y1 y2
   unfold impl_GoodMarks.j0
   repeat' (with_reducible first | exact ih0 _ _ _ | exact ih1 _ _ _ _ _ | exact impl_isMark.mono _ _ _ _ _ | exact LeO.refl _ | exact LeO.none _ | refine LeO.ite ?_ ?_ | refine LeO.bind ?_ (fun _ => ?_))
  ·intro y0 y1 y2 y3 y4
   unfold impl_GoodMarks.l0
   repeat' (with_reducible first | exact ih0 _ _ _ | exact ih1 _ _ _ _ _ | exact impl_isMark.mono _ _ _ _ _ | exact LeO.refl _ | exact LeO.none _ | refine LeO.ite ?_ ?_ | refine LeO.bind ?_ (fun _ => ?_))
theorem impl_GoodMarks.mono : ∀ a0 a1 k, LeO (impl_GoodMarks.f k a0 a1) (impl_GoodMarks.f (k + 1) a0 a1) := by
 intro a0 a1 k
 obtain ⟨ih0, ih1⟩ := impl_GoodMarks.mono_l k
 unfold impl_GoodMarks.f
 repeat' (with_reducible first | exact ih0 _ _ _ | exact ih1 _ _ _ _ _ | exact impl_isMark.mono _ _ _ _ _ | exact LeO.refl _ | exact LeO.none _ | refine LeO.ite ?_ ?_ | refine LeO.bind ?_ (fun _ => ?_))
def impl_GoodMarks.T6 : Bool × List (List Nat × List Nat) := (true, [([], []), ([], []), ([0, 1], [0, 1]), ([2], [2]), ([3, 2], [3]), ([4], [4]), ([5, 4], [4, 5]), ([6, 4, 4], [4, 6]), ([7], [7]), ([7], [7]), ([9, 7], [7, 9]), ([8, 10, 7], [7, 8, 10]), ([11, 7], [7, 11]), ([12, 7], [7, 12]), ([7], [7]), ([14, 7], [7, 14]), ([13, 15, 7], [7, 13, 15]), ([16, 7, 7], [7, 16]), ([17], [17]), ([17], [17]), ([19, 17], [17, 19]), ([18, 20, 17], [17, 18, 20]), ([21, 17], [17, 21]), ([22, 17], [17, 22]), ([17], [17]), ([24, 17], [17, 24]), ([23, 25, 17], [17, 23, 25]), ([26, 17, 17], [17, 26]), ([27], [27]), ([27], [27]), ([29, 27], [27, 29]), ([28, 30, 27], [27, 28, 30]), ([31, 27], [27, 31]), ([32, 27], [27, 32]), ([27], [27]), ([34, 27], [27, 34]), ([33, 35, 27], [27, 33, 35]), ([27, 36, 17], [17, 27, 36]), ([17, 37, 7], [7, 17, 37]), ([7, 38, 4], [4, 7, 38]), ([4, 39], [4, 39])])
def impl_GoodMarks.B6 : List Nat := [0, 0, 3, 7, 15, 31, 63, 127, 255, 255, 767, 2047, 4095, 8191, 255, 16639, 65535, 131071, 262143, 262143, 786431, 2097151, 4194303, 8388607, 262143, 17039359, 67108863, 134217727, 268435455, 268435455, 805306367, 2147483647, 4294967295, 8589934591, 268435455, 17448304639, 68719476735, 137438953471, 274877906943, 549755813887, 1099511627775]
theorem impl_GoodMarks.tab6 : rtab .any (opsOf Try.f14 6) = impl_GoodMarks.T6 := by kernel_rfl
theorem impl_GoodMarks.bits6 : waitsOk impl_GoodMarks.T6.2 impl_GoodMarks.B6 = true := by kernel_rfl
set_option maxHeartbeats 8000000 in
set_option maxRecDepth 100000 in
theorem impl_GoodMarks.calls (k : Nat) (A0 : Option Addr) (c0 : Nat) (l0 : List (S67)) (a1 : Int) (r : Bool) (w : World) (hr0 : Kd.C k67 w A0 l0.length l0) (hc0 : l0.length ≤ c0) (h : impl_GoodMarks.f k l0 a1 = some r) :
  Calls Try.prog 14 #[.slice A0 l0.length c0, .int .i64 a1] w fun e w' => e = .returned (.bool r) ∧ Below w.heap.size w w' := by
 have hu67 := Try.underlying67
 have HR0 := aM hr0
 have HC0 := aM hc0
 clear hr0 hc0
 have HB := aM (Below.refl w.heap.size w)
 have H : (if a1 < 0 then (impl_GoodMarks.j0 k l0 a1 true) else (if a1 > 300 then (impl_GoodMarks.j0 k l0 a1 true) else (impl_GoodMarks.j0 k l0 a1 (decide ((l0.length : Int) > 40))))) = some r := h
 clear h
 have HC3 := aM H
 clear H
 go_enter Try.func14, Try.ntmps14
 go_upto_region 1 with (fail)
 go_cut [17] (fun v17 wc => ∃ (kq : Nat) (x17_2 : Bool), v17 = .bool x17_2 ∧ Aside0 (impl_GoodMarks.j0 kq l0 a1 x17_2 = some r) ∧ Aside0 (kq ≤ k) ∧ Aside0 (Below w.heap.size w wc))
 case first =>
  have H := HC3.out
  clear HC3
  by_cases c4 : a1 < 0
  ·rw [if_pos c4] at H
   have c4b0 : decide (a1 < 0) = true := decide_eq_true c4
   clear c4
   (first | rw [c4b0] | (simp only [i64_w, i32_w]; rw [c4b0]) | rw [c4e] | skip)
   have H' := aM H
   clear H
   go_wp2
   go_meet
   case rel => exact ⟨_, (true), aP32, H', ⟨by first | omega | exact Nat.le_refl _⟩, ⟨bB⟩⟩
  rw [if_neg c4] at H
  have c4b0 : decide (a1 < 0) = false := decide_eq_false c4
  clear c4
  (first | rw [c4b0] | (simp only [i64_w, i32_w]; rw [c4b0]) | rw [c4e] | skip)
  by_cases c5 : a1 > 300
  ·rw [if_pos c5] at H
   have c5b0 : decide (300 < a1) = true := decide_eq_true c5
   clear c5
   have H' := aM H
   clear H
   go_wp2
   go_meet
   case rel => exact ⟨_, (true), aP32, H', ⟨by first | omega | exact Nat.le_refl _⟩, ⟨bB⟩⟩
  rw [if_neg c5] at H
  have c5b0 : decide (300 < a1) = false := decide_eq_false c5
  clear c5
  have H' := aM H
  clear H
  go_wp2
  go_meet
  case rel => exact ⟨_, (decide ((l0.length : Int) > 40)), aP32, H', ⟨by first | omega | exact Nat.le_refl _⟩, ⟨bB⟩⟩
 case rest =>
  clear HC3
  try clear c1
  try clear p2
  try clear c4
  try clear c4b0
  try clear c5
  try clear c5b0
  obtain ⟨kq, x17_2, rfl, HA, HJ2, HB⟩ := hcut
  cases kq with
  | zero => exact absurd HA.out (by simp [impl_GoodMarks.j0])
  | succ kj2 =>
   have H := HA.out
   clear HA
   simp only [impl_GoodMarks.j0] at H
   by_cases c6 : x17_2 = true
   ·subst c6
    replace H : (some false) = some r := by rw [if_pos rfl] at H; exact H
    obtain rfl := Option.some.inj H
    go_wp2
    go_ret
    exact ⟨eR, bB⟩
   replace c6 := Bool.eq_false_iff.mpr c6
   subst c6
   replace H : (impl_GoodMarks.l0 kj2 l0 a1 l0 (l0.length : Int) 0) = some r := by rw [if_neg (show ¬ (false = true) by decide)] at H; exact H
   have H' := aM H
   clear H
   go_wp2
   go_loopg [20] kj2 (fun kq v20 w' => ∃ (x20_2 : Int), v20 = .int .i64 x20_2 ∧ Aside0 (impl_GoodMarks.l0 kq l0 a1 l0 (l0.length : Int) x20_2 = some r) ∧ Aside0 (kq ≤ kj2) ∧ Aside0 (Below w.heap.size w w'))
   case atStart => exact ⟨(0), aP32, H', ⟨Nat.le_refl _⟩, ⟨bB⟩⟩
   case round =>
    clear H'
    try clear c1
    try clear p2
    try clear c4
    try clear c4b0
    try clear c5
    try clear c5b0
    try clear c6
    try clear p2
    obtain ⟨x20_2, rfl, HA, HK2, HB⟩ := hrel
    cases gk with
    | zero => exact absurd HA.out (by simp [impl_GoodMarks.l0])
    | succ k2 =>
     have H := HA.out
     clear HA
     simp only [impl_GoodMarks.l0] at H
     by_cases c7 : x20_2 < (l0.length : Int)
     rotate_left
     ·rw [if_neg c7] at H
      have c7b0 : decide (x20_2 < (l0.length : Int)) = false := decide_eq_false c7
      clear c7
      obtain rfl := Option.some.inj H
      go_wp2
      go_ret
      exact ⟨eR, bB⟩
     rw [if_pos c7] at H
     have c7b0 : decide (x20_2 < (l0.length : Int)) = true := decide_eq_true c7
     clear c7
     by_cases c8 : 0 ≤ x20_2
     rotate_left
     ·rw [if_neg c8] at H
      exact absurd H (by simp)
     rw [if_pos c8] at H
     have c8b0 : decide (0 ≤ x20_2) = true := decide_eq_true c8
     clear c8
     by_cases c9 : x20_2 < (l0.length : Int)
     rotate_left
     ·rw [if_neg c9] at H
      exact absurd H (by simp)
     rw [if_pos c9] at H
     have c9b0 : decide (x20_2 < (l0.length : Int)) = true := decide_eq_true c9
     clear c9
     replace H := Option.bind_eq_some_iff.mp H
     obtain ⟨t253, A100, H⟩ := H
     replace H : (if t253 = true then (if x20_2 > 0 then (if 0 ≤ (wrap64 (x20_2 - 1)) then (if (wrap64 (x20_2 - 1)) < (l0.length : Int) then (if (Op.bytesLess (((rd_T67 l0 x20_2).f2).toList) (((rd_T67 l0 (wrap64 (x20_2 - 1))).f2).toList)) = true then (some false) else (if ((rd_T67 l0 (wrap64 (x20_2 - 1))).f2).toList = ((rd_T67 l0 x20_2).f2).toList then (if ((rd_T67 l0 (wrap64 (x20_2 - 1))).f1) ≥ ((rd_T67 l0 x20_2).f0) then (some false) else (impl_GoodMarks.l0 k2 l0 a1 l0 (l0.length : Int) (wrap64 (x20_2 + 1)))) else (impl_GoodMarks.l0 k2 l0 a1 l0 (l0.length : Int) (wrap64 (x20_2 + 1))))) else (none)) else (none)) else (impl_GoodMarks.l0 k2 l0 a1 l0 (l0.length : Int) (wrap64 (x20_2 + 1)))) else (some false)) = some r := H
     have A10 := aM A100
     clear A100
     by_cases c11 : t253 = true
     rotate_left
     ·replace c11 := Bool.eq_false_iff.mpr c11
      subst c11
      replace H : (some false) = some r := by rw [if_neg (show ¬ (false = true) by decide)] at H; exact H
      obtain rfl := Option.some.inj H
      have p251 : 0 ≤ (x20_2 : Int) := of_decide_eq_true (by assumption)
      have q251 : x20_2 < (l0.length : Int) := of_decide_eq_true (by assumption)
      obtain ⟨ad251, e251, hx251_0, hx251_1, hx251_2⟩ := at_T67 HR0.out x20_2 p251 q251
      cases e251
      replace hx251_0 := hC HB.out hx251_0
      replace hx251_1 := hC HB.out hx251_1
      replace hx251_2 := hC HB.out hx251_2
      replace p251 := eq_true p251
      replace q251 := eq_true q251
      try go_wp2_with (first | ((with_reducible refine gate_dst (N := 6) rfl ?_); (try (refine gate_guard (by rfl) ?_; dsimp only)); refine box_event ?hg (N := 6) ?hd (cs := #[.int .i64 0, .int .i64 0, .string (⟨#[]⟩ : ByteArray)]) (t := 67) ?hr ?_; (case hd => rfl); (case hg => rfl); (case hr => exact aP40); intro gb252 hg w44 hbox hb; have BK252 := aM (hbox); have GW252 := aM (bG (w := w) hg); have GE252 := aM (bG (w := w) hg); replace HB := aM (below_step bB hb); clear hb hbox hg; obtain ⟨hcz45_0, hcz45_1, hcz45_2, hfz45_0, hfz45_1, hfz45_2⟩ := bx3 BK252.out))
      have n0_ : Aside0 ((((w44.setCell ⟨gb252, 0, none⟩ (.int .i64 ((rd_T67 l0 x20_2).f0))).setCell ⟨gb252, 1, none⟩ (.int .i64 ((rd_T67 l0 x20_2).f1))).setCell ⟨gb252, 2, none⟩ (.string ((rd_T67 l0 x20_2).f2))).heap[gb252]? = some (.cells #[.int .i64 ((rd_T67 l0 x20_2).f0), .int .i64 ((rd_T67 l0 x20_2).f1), .string ((rd_T67 l0 x20_2).f2)] 67 (0, 0))) := ⟨by (with_reducible repeat (first | refine blk_drewN ?_ _ | refine blk_drew ?_ | refine blk_alloc ?_ _)); refine blk_put (cs := #[.int .i64 ((rd_T67 l0 x20_2).f0), .int .i64 ((rd_T67 l0 x20_2).f1), .string (⟨#[]⟩ : ByteArray)]) ?_ 2 _ rfl; (with_reducible repeat (first | refine blk_drewN ?_ _ | refine blk_drew ?_ | refine blk_alloc ?_ _)); refine blk_put (cs := #[.int .i64 ((rd_T67 l0 x20_2).f0), .int .i64 0, .string (⟨#[]⟩ : ByteArray)]) ?_ 1 _ rfl; (with_reducible repeat (first | refine blk_drewN ?_ _ | refine blk_drew ?_ | refine blk_alloc ?_ _)); refine blk_put (cs := #[.int .i64 0, .int .i64 0, .string (⟨#[]⟩ : ByteArray)]) ?_ 0 _ rfl; (with_reducible repeat (first | refine blk_drewN ?_ _ | refine blk_drew ?_ | refine blk_alloc ?_ _)); exact BK252.out⟩
      have n1_ : Aside0 (Below w.heap.size w (((w44.setCell ⟨gb252, 0, none⟩ (.int .i64 ((rd_T67 l0 x20_2).f0))).setCell ⟨gb252, 1, none⟩ (.int .i64 ((rd_T67 l0 x20_2).f1))).setCell ⟨gb252, 2, none⟩ (.string ((rd_T67 l0 x20_2).f2)))) := ⟨aP4⟩
      (try clear BK252)
      (try clear HB)
      generalize (((w44.setCell ⟨gb252, 0, none⟩ (.int .i64 ((rd_T67 l0 x20_2).f0))).setCell ⟨gb252, 1, none⟩ (.int .i64 ((rd_T67 l0 x20_2).f1))).setCell ⟨gb252, 2, none⟩ (.string ((rd_T67 l0 x20_2).f2))) = w46 at n0_ n1_ ⊢
      have BK252 := n0_
      have HB := n1_
      clear n0_ n1_
      replace BK252 := aM (blk_drew BK252.out)
      replace HB := aM (below_drew1 HB.out)
      refine start_ (n := 41) (S := fun w' => w'.cell? ⟨gb252, 0, none⟩ = some (.int .i64 ((rd_T67 l0 x20_2).f0)) ∧ w'.cell? ⟨gb252, 1, none⟩ = some (.int .i64 ((rd_T67 l0 x20_2).f1)) ∧ w'.cell? ⟨gb252, 2, none⟩ = some (.string ((rd_T67 l0 x20_2).f2))) (ds := []) (Array.replicate 41 false) (by kernel_rfl) rfl rfl ⟨(blk_cell BK252.out 0).trans rfl, (blk_cell BK252.out 1).trans rfl, (blk_cell BK252.out 2).trans rfl⟩ (fun hHeld => ?_); refine with_tabW impl_GoodMarks.tab6 impl_GoodMarks.bits6 (fun HT_ HW_ => ?_)
      generalize w46.drew = w47 at BK252 HB hHeld ⊢
      refine pV 1 26 (bN 41 2) ?_
      refine tV3 0 25 (bN 41 3) ?_
      refine one_ (i := 2) (N := some 27) (bN 41 7) rfl rfl (one_of HT_.out (by kernel_rfl)) (by decide) (fun K hK => ?_)
      refine goes_ Try.func45 (by kernel_rfl) rfl #[.agg #[.int .i64 ((rd_T67 l0 x20_2).f0), .int .i64 ((rd_T67 l0 x20_2).f1), .string ((rd_T67 l0 x20_2).f2)], .int .i64 a1] (by rfl) rfl rfl mM ?_
      with_reducible refine (impl_isMark.calls k2 ((rd_T67 l0 x20_2).f0) ((rd_T67 l0 x20_2).f1) ((rd_T67 l0 x20_2).f2) a1 false _ A10.out).mono ?_
      rintro e w48 ⟨rfl, hb⟩
      refine ⟨_, rfl, ?_⟩
      replace BK252 := aM (blk_below (g := gb252) (o := .cells #[.int .i64 ((rd_T67 l0 x20_2).f0), .int .i64 ((rd_T67 l0 x20_2).f1), .string ((rd_T67 l0 x20_2).f2)] 67 (0, 0)) (kK BK252.out) hb)
      replace HB := aM (below_step aP4 hb)
      (try clear hb)
      (try clear hb2)
      (try clear hk)
      (try clear hi)
      refine hK.out _ _ ⟨(blk_cell BK252.out 0).trans rfl, (blk_cell BK252.out 1).trans rfl, (blk_cell BK252.out 2).trans rfl⟩ (fun hHeld => ?_)
      clear hK K
      refine norm_ (a' := ?_) ?_ ?_
      rotate_left
      ·show Act.put _ (some 27) _ = _
       simp only [Act.put, List.setIfInBounds_toArray, List.set_cons_zero, List.set_cons_succ, i64_w, i32_w]
       rfl
      refine pV 3 28 (bN 41 15) ?_
      refine pV 4 29 (bN 41 31) ?_
      refine pU 5 30 (bN 41 63) ?_
      refine pU 6 31 (bN 41 127) ?_
      refine pU 7 32 (bN 41 255) ?_
      refine pU 8 33 (bN 41 511) ?_
      refine pU 9 34 (bN 41 1023) ?_
      refine pU 10 35 (bN 41 2047) ?_
      refine pU 11 36 (bN 41 4095) ?_
      refine pU 12 37 (bN 41 8191) ?_
      refine pU 13 38 (bN 41 16383) ?_
      refine pU 14 39 (bN 41 32767) ?_
      refine pU 15 40 (bN 41 65535) ?_
      refine pU 16 41 (bN 41 131071) ?_
      refine pU 17 42 (bN 41 262143) ?_
      refine pU 18 43 (bN 41 524287) ?_
      refine pU 19 44 (bN 41 1048575) ?_
      refine pU 20 45 (bN 41 2097151) ?_
      refine pU 21 46 (bN 41 4194303) ?_
      refine pU 22 47 (bN 41 8388607) ?_
      refine pU 23 48 (bN 41 16777215) ?_
      refine pU 24 49 (bN 41 33554431) ?_
      refine pU 25 50 (bN 41 67108863) ?_
      refine pU 26 51 (bN 41 134217727) ?_
      refine pU 27 52 (bN 41 268435455) ?_
      refine pU 28 53 (bN 41 536870911) ?_
      refine pU 29 54 (bN 41 1073741823) ?_
      refine pU 30 55 (bN 41 2147483647) ?_
      refine pU 31 56 (bN 41 4294967295) ?_
      refine pU 32 57 (bN 41 8589934591) ?_
      refine pU 33 58 (bN 41 17179869183) ?_
      refine pU 34 59 (bN 41 34359738367) ?_
      refine pU 35 60 (bN 41 68719476735) ?_
      refine pU 36 61 (bN 41 137438953471) ?_
      refine pU 37 62 (bN 41 274877906943) ?_
      refine pU 38 63 (bN 41 549755813887) ?_
      refine pU 39 64 (bN 41 1099511627775) ?_
      refine pV 40 65 (bN 41 2199023255551) ?_
      refine done_ (done_of HT_.out (by kernel_rfl)) ?_
      try go_wp2
      go_ret
      exact ⟨eR, aP4⟩
     subst c11
     replace H : (if x20_2 > 0 then (if 0 ≤ (wrap64 (x20_2 - 1)) then (if (wrap64 (x20_2 - 1)) < (l0.length : Int) then (if (Op.bytesLess (((rd_T67 l0 x20_2).f2).toList) (((rd_T67 l0 (wrap64 (x20_2 - 1))).f2).toList)) = true then (some false) else (if ((rd_T67 l0 (wrap64 (x20_2 - 1))).f2).toList = ((rd_T67 l0 x20_2).f2).toList then (if ((rd_T67 l0 (wrap64 (x20_2 - 1))).f1) ≥ ((rd_T67 l0 x20_2).f0) then (some false) else (impl_GoodMarks.l0 k2 l0 a1 l0 (l0.length : Int) (wrap64 (x20_2 + 1)))) else (impl_GoodMarks.l0 k2 l0 a1 l0 (l0.length : Int) (wrap64 (x20_2 + 1))))) else (none)) else (none)) else (impl_GoodMarks.l0 k2 l0 a1 l0 (l0.length : Int) (wrap64 (x20_2 + 1)))) = some r := by rw [if_pos rfl] at H; exact H
     by_cases c12 : x20_2 > 0
     rotate_left
     ·rw [if_neg c12] at H
      have c12b0 : decide (0 < x20_2) = false := decide_eq_false c12
      clear c12
      have H' := aM H
      clear H
      have p251 : 0 ≤ (x20_2 : Int) := of_decide_eq_true (by assumption)
      have q251 : x20_2 < (l0.length : Int) := of_decide_eq_true (by assumption)
      obtain ⟨ad251, e251, hx251_0, hx251_1, hx251_2⟩ := at_T67 HR0.out x20_2 p251 q251
      cases e251
      replace hx251_0 := hC HB.out hx251_0
      replace hx251_1 := hC HB.out hx251_1
      replace hx251_2 := hC HB.out hx251_2
      replace p251 := eq_true p251
      replace q251 := eq_true q251
      try go_wp2_with (first | ((with_reducible refine gate_dst (N := 6) rfl ?_); (try (refine gate_guard (by rfl) ?_; dsimp only)); refine box_event ?hg (N := 6) ?hd (cs := #[.int .i64 0, .int .i64 0, .string (⟨#[]⟩ : ByteArray)]) (t := 67) ?hr ?_; (case hd => rfl); (case hg => rfl); (case hr => exact aP40); intro gb252 hg w39 hbox hb; have BK252 := aM (hbox); have GW252 := aM (bG (w := w) hg); have GE252 := aM (bG (w := w) hg); replace HB := aM (below_step bB hb); clear hb hbox hg; obtain ⟨hcz40_0, hcz40_1, hcz40_2, hfz40_0, hfz40_1, hfz40_2⟩ := bx3 BK252.out))
      have n0_ : Aside0 ((((w39.setCell ⟨gb252, 0, none⟩ (.int .i64 ((rd_T67 l0 x20_2).f0))).setCell ⟨gb252, 1, none⟩ (.int .i64 ((rd_T67 l0 x20_2).f1))).setCell ⟨gb252, 2, none⟩ (.string ((rd_T67 l0 x20_2).f2))).heap[gb252]? = some (.cells #[.int .i64 ((rd_T67 l0 x20_2).f0), .int .i64 ((rd_T67 l0 x20_2).f1), .string ((rd_T67 l0 x20_2).f2)] 67 (0, 0))) := ⟨by (with_reducible repeat (first | refine blk_drewN ?_ _ | refine blk_drew ?_ | refine blk_alloc ?_ _)); refine blk_put (cs := #[.int .i64 ((rd_T67 l0 x20_2).f0), .int .i64 ((rd_T67 l0 x20_2).f1), .string (⟨#[]⟩ : ByteArray)]) ?_ 2 _ rfl; (with_reducible repeat (first | refine blk_drewN ?_ _ | refine blk_drew ?_ | refine blk_alloc ?_ _)); refine blk_put (cs := #[.int .i64 ((rd_T67 l0 x20_2).f0), .int .i64 0, .string (⟨#[]⟩ : ByteArray)]) ?_ 1 _ rfl; (with_reducible repeat (first | refine blk_drewN ?_ _ | refine blk_drew ?_ | refine blk_alloc ?_ _)); refine blk_put (cs := #[.int .i64 0, .int .i64 0, .string (⟨#[]⟩ : ByteArray)]) ?_ 0 _ rfl; (with_reducible repeat (first | refine blk_drewN ?_ _ | refine blk_drew ?_ | refine blk_alloc ?_ _)); exact BK252.out⟩
      have n1_ : Aside0 (Below w.heap.size w (((w39.setCell ⟨gb252, 0, none⟩ (.int .i64 ((rd_T67 l0 x20_2).f0))).setCell ⟨gb252, 1, none⟩ (.int .i64 ((rd_T67 l0 x20_2).f1))).setCell ⟨gb252, 2, none⟩ (.string ((rd_T67 l0 x20_2).f2)))) := ⟨aP4⟩
      (try clear BK252)
      (try clear HB)
      generalize (((w39.setCell ⟨gb252, 0, none⟩ (.int .i64 ((rd_T67 l0 x20_2).f0))).setCell ⟨gb252, 1, none⟩ (.int .i64 ((rd_T67 l0 x20_2).f1))).setCell ⟨gb252, 2, none⟩ (.string ((rd_T67 l0 x20_2).f2))) = w41 at n0_ n1_ ⊢
      have BK252 := n0_
      have HB := n1_
      clear n0_ n1_
      replace BK252 := aM (blk_drew BK252.out)
      replace HB := aM (below_drew1 HB.out)
      refine start_ (n := 41) (S := fun w' => w'.cell? ⟨gb252, 0, none⟩ = some (.int .i64 ((rd_T67 l0 x20_2).f0)) ∧ w'.cell? ⟨gb252, 1, none⟩ = some (.int .i64 ((rd_T67 l0 x20_2).f1)) ∧ w'.cell? ⟨gb252, 2, none⟩ = some (.string ((rd_T67 l0 x20_2).f2))) (ds := []) (Array.replicate 41 false) (by kernel_rfl) rfl rfl ⟨(blk_cell BK252.out 0).trans rfl, (blk_cell BK252.out 1).trans rfl, (blk_cell BK252.out 2).trans rfl⟩ (fun hHeld => ?_); refine with_tabW impl_GoodMarks.tab6 impl_GoodMarks.bits6 (fun HT_ HW_ => ?_)
      generalize w41.drew = w42 at BK252 HB hHeld ⊢
      refine pV 1 26 (bN 41 2) ?_
      refine tV3 0 25 (bN 41 3) ?_
      refine one_ (i := 2) (N := some 27) (bN 41 7) rfl rfl (one_of HT_.out (by kernel_rfl)) (by decide) (fun K hK => ?_)
      refine goes_ Try.func45 (by kernel_rfl) rfl #[.agg #[.int .i64 ((rd_T67 l0 x20_2).f0), .int .i64 ((rd_T67 l0 x20_2).f1), .string ((rd_T67 l0 x20_2).f2)], .int .i64 a1] (by rfl) rfl rfl mM ?_
      with_reducible refine (impl_isMark.calls k2 ((rd_T67 l0 x20_2).f0) ((rd_T67 l0 x20_2).f1) ((rd_T67 l0 x20_2).f2) a1 true _ A10.out).mono ?_
      rintro e w43 ⟨rfl, hb⟩
      refine ⟨_, rfl, ?_⟩
      replace BK252 := aM (blk_below (g := gb252) (o := .cells #[.int .i64 ((rd_T67 l0 x20_2).f0), .int .i64 ((rd_T67 l0 x20_2).f1), .string ((rd_T67 l0 x20_2).f2)] 67 (0, 0)) (kK BK252.out) hb)
      replace HB := aM (below_step aP4 hb)
      (try clear hb)
      (try clear hb2)
      (try clear hk)
      (try clear hi)
      refine hK.out _ _ ⟨(blk_cell BK252.out 0).trans rfl, (blk_cell BK252.out 1).trans rfl, (blk_cell BK252.out 2).trans rfl⟩ (fun hHeld => ?_)
      clear hK K
      refine norm_ (a' := ?_) ?_ ?_
      rotate_left
      ·show Act.put _ (some 27) _ = _
       simp only [Act.put, List.setIfInBounds_toArray, List.set_cons_zero, List.set_cons_succ, i64_w, i32_w]
       rfl
      refine pV 3 28 (bN 41 15) ?_
      refine pV 4 29 (bN 41 31) ?_
      refine pV 5 30 (bN 41 63) ?_
      refine pV 6 31 (bN 41 127) ?_
      refine pV 7 32 (bN 41 255) ?_
      refine pU 8 33 (bN 41 511) ?_
      refine pU 9 34 (bN 41 1023) ?_
      refine pU 10 35 (bN 41 2047) ?_
      refine pU 11 36 (bN 41 4095) ?_
      refine pU 12 37 (bN 41 8191) ?_
      refine pU 13 38 (bN 41 16383) ?_
      refine pU 14 39 (bN 41 32767) ?_
      refine pU 15 40 (bN 41 65535) ?_
      refine pU 16 41 (bN 41 131071) ?_
      refine pU 17 42 (bN 41 262143) ?_
      refine pU 18 43 (bN 41 524287) ?_
      refine pU 19 44 (bN 41 1048575) ?_
      refine pU 20 45 (bN 41 2097151) ?_
      refine pU 21 46 (bN 41 4194303) ?_
      refine pU 22 47 (bN 41 8388607) ?_
      refine pU 23 48 (bN 41 16777215) ?_
      refine pU 24 49 (bN 41 33554431) ?_
      refine pU 25 50 (bN 41 67108863) ?_
      refine pU 26 51 (bN 41 134217727) ?_
      refine pU 27 52 (bN 41 268435455) ?_
      refine pU 28 53 (bN 41 536870911) ?_
      refine pU 29 54 (bN 41 1073741823) ?_
      refine pU 30 55 (bN 41 2147483647) ?_
      refine pU 31 56 (bN 41 4294967295) ?_
      refine pU 32 57 (bN 41 8589934591) ?_
      refine pU 33 58 (bN 41 17179869183) ?_
      refine pU 34 59 (bN 41 34359738367) ?_
      refine pU 35 60 (bN 41 68719476735) ?_
      refine pU 36 61 (bN 41 137438953471) ?_
      refine pU 37 62 (bN 41 274877906943) ?_
      refine pU 38 63 (bN 41 549755813887) ?_
      refine pV 39 64 (bN 41 1099511627775) ?_
      refine pV 40 65 (bN 41 2199023255551) ?_
      refine done_ (done_of HT_.out (by kernel_rfl)) ?_
      try go_wp2
      go_roundg k2
      case measure => have := HJ2.out; have := HK2.out; omega
      case rel => exact ⟨(wrap64 (x20_2 + 1)), aP32, H', ⟨by have := HJ2.out; have := HK2.out; omega⟩, ⟨aP4⟩⟩
     rw [if_pos c12] at H
     have c12b0 : decide (0 < x20_2) = true := decide_eq_true c12
     clear c12
     obtain ⟨ji13, hji13⟩ : ∃ j_ : Int, (wrap64 (x20_2 - 1)) = j_ := ⟨_, rfl⟩
     replace H : (if 0 ≤ (ji13) then (if (ji13) < (l0.length : Int) then (if (Op.bytesLess (((rd_T67 l0 x20_2).f2).toList) (((rd_T67 l0 (ji13)).f2).toList)) = true then (some false) else (if ((rd_T67 l0 (ji13)).f2).toList = ((rd_T67 l0 x20_2).f2).toList then (if ((rd_T67 l0 (ji13)).f1) ≥ ((rd_T67 l0 x20_2).f0) then (some false) else (impl_GoodMarks.l0 k2 l0 a1 l0 (l0.length : Int) (wrap64 (x20_2 + 1)))) else (impl_GoodMarks.l0 k2 l0 a1 l0 (l0.length : Int) (wrap64 (x20_2 + 1))))) else (none)) else (none)) = some r := by first | (rw [hji13] at H; exact H) | (simp only [hji13] at H ⊢; exact H)
     (try rw [hji13] at A10)
     have hji13w : (IntKind.i64.wrap (x20_2 - 1)) = ji13 := (i64_w _).trans hji13
     by_cases c14 : 0 ≤ (ji13)
     rotate_left
     ·rw [if_neg c14] at H
      exact absurd H (by simp)
     rw [if_pos c14] at H
     have c14b0 : decide (0 ≤ (ji13)) = true := decide_eq_true c14
     clear c14
     by_cases c15 : (ji13) < (l0.length : Int)
     rotate_left
     ·rw [if_neg c15] at H
      exact absurd H (by simp)
     rw [if_pos c15] at H
     have c15b0 : decide ((ji13) < (l0.length : Int)) = true := decide_eq_true c15
     clear c15
     by_cases c16 : (Op.bytesLess (((rd_T67 l0 x20_2).f2).toList) (((rd_T67 l0 (ji13)).f2).toList)) = true
     ·rw [if_pos c16] at H
      have c16b0 : (Op.bytesLess (((rd_T67 l0 x20_2).f2).toList) (((rd_T67 l0 (ji13)).f2).toList)) = true := c16
      clear c16
      obtain rfl := Option.some.inj H
      have p251 : 0 ≤ (x20_2 : Int) := of_decide_eq_true (by assumption)
      have q251 : x20_2 < (l0.length : Int) := of_decide_eq_true (by assumption)
      obtain ⟨ad251, e251, hx251_0, hx251_1, hx251_2⟩ := at_T67 HR0.out x20_2 p251 q251
      cases e251
      replace hx251_0 := hC HB.out hx251_0
      replace hx251_1 := hC HB.out hx251_1
      replace hx251_2 := hC HB.out hx251_2
      replace p251 := eq_true p251
      replace q251 := eq_true q251
      try go_wp2_with (first | ((with_reducible refine gate_dst (N := 6) rfl ?_); (try (refine gate_guard (by rfl) ?_; dsimp only)); refine box_event ?hg (N := 6) ?hd (cs := #[.int .i64 0, .int .i64 0, .string (⟨#[]⟩ : ByteArray)]) (t := 67) ?hr ?_; (case hd => rfl); (case hg => rfl); (case hr => exact aP40); intro gb252 hg w17 hbox hb; have BK252 := aM (hbox); have GW252 := aM (bG (w := w) hg); have GE252 := aM (bG (w := w) hg); replace HB := aM (below_step bB hb); clear hb hbox hg; obtain ⟨hcz18_0, hcz18_1, hcz18_2, hfz18_0, hfz18_1, hfz18_2⟩ := bx3 BK252.out))
      have n0_ : Aside0 ((((w17.setCell ⟨gb252, 0, none⟩ (.int .i64 ((rd_T67 l0 x20_2).f0))).setCell ⟨gb252, 1, none⟩ (.int .i64 ((rd_T67 l0 x20_2).f1))).setCell ⟨gb252, 2, none⟩ (.string ((rd_T67 l0 x20_2).f2))).heap[gb252]? = some (.cells #[.int .i64 ((rd_T67 l0 x20_2).f0), .int .i64 ((rd_T67 l0 x20_2).f1), .string ((rd_T67 l0 x20_2).f2)] 67 (0, 0))) := ⟨by (with_reducible repeat (first | refine blk_drewN ?_ _ | refine blk_drew ?_ | refine blk_alloc ?_ _)); refine blk_put (cs := #[.int .i64 ((rd_T67 l0 x20_2).f0), .int .i64 ((rd_T67 l0 x20_2).f1), .string (⟨#[]⟩ : ByteArray)]) ?_ 2 _ rfl; (with_reducible repeat (first | refine blk_drewN ?_ _ | refine blk_drew ?_ | refine blk_alloc ?_ _)); refine blk_put (cs := #[.int .i64 ((rd_T67 l0 x20_2).f0), .int .i64 0, .string (⟨#[]⟩ : ByteArray)]) ?_ 1 _ rfl; (with_reducible repeat (first | refine blk_drewN ?_ _ | refine blk_drew ?_ | refine blk_alloc ?_ _)); refine blk_put (cs := #[.int .i64 0, .int .i64 0, .string (⟨#[]⟩ : ByteArray)]) ?_ 0 _ rfl; (with_reducible repeat (first | refine blk_drewN ?_ _ | refine blk_drew ?_ | refine blk_alloc ?_ _)); exact BK252.out⟩
      have n1_ : Aside0 (Below w.heap.size w (((w17.setCell ⟨gb252, 0, none⟩ (.int .i64 ((rd_T67 l0 x20_2).f0))).setCell ⟨gb252, 1, none⟩ (.int .i64 ((rd_T67 l0 x20_2).f1))).setCell ⟨gb252, 2, none⟩ (.string ((rd_T67 l0 x20_2).f2)))) := ⟨aP4⟩
      (try clear BK252)
      (try clear HB)
      generalize (((w17.setCell ⟨gb252, 0, none⟩ (.int .i64 ((rd_T67 l0 x20_2).f0))).setCell ⟨gb252, 1, none⟩ (.int .i64 ((rd_T67 l0 x20_2).f1))).setCell ⟨gb252, 2, none⟩ (.string ((rd_T67 l0 x20_2).f2))) = w19 at n0_ n1_ ⊢
      have BK252 := n0_
      have HB := n1_
      clear n0_ n1_
      replace BK252 := aM (blk_drew BK252.out)
      replace HB := aM (below_drew1 HB.out)
      have p254 : 0 ≤ ((ji13) : Int) := of_decide_eq_true (by assumption)
      have q254 : (ji13) < (l0.length : Int) := of_decide_eq_true (by assumption)
      obtain ⟨ad254, e254, hx254_0, hx254_1, hx254_2⟩ := at_T67 HR0.out (ji13) p254 q254
      have hw254_2 := hx254_2
      have hw254_1 := hx254_1
      have hw254_0 := hx254_0
      (first | obtain rfl : ad251 = ad254 := (by injection e254) | cases e254)
      replace hx254_0 := hC HB.out hx254_0
      replace hx254_1 := hC HB.out hx254_1
      replace hx254_2 := hC HB.out hx254_2
      replace p254 := eq_true p254
      replace q254 := eq_true q254
      refine start_ (n := 41) (S := fun w' => w'.cell? ⟨gb252, 0, none⟩ = some (.int .i64 ((rd_T67 l0 x20_2).f0)) ∧ w'.cell? ⟨gb252, 1, none⟩ = some (.int .i64 ((rd_T67 l0 x20_2).f1)) ∧ w'.cell? ⟨gb252, 2, none⟩ = some (.string ((rd_T67 l0 x20_2).f2)) ∧ w'.cell? (ad251.add (((ji13)).toNat * 3)) = some (.int .i64 ((rd_T67 l0 (ji13)).f0)) ∧ w'.cell? ⟨(ad251.add (((ji13)).toNat * 3)).block, (ad251.add (((ji13)).toNat * 3)).off + 1, none⟩ = some (.int .i64 ((rd_T67 l0 (ji13)).f1)) ∧ w'.cell? ⟨(ad251.add (((ji13)).toNat * 3)).block, (ad251.add (((ji13)).toNat * 3)).off + 2, none⟩ = some (.string ((rd_T67 l0 (ji13)).f2))) (ds := []) (Array.replicate 41 false) (by kernel_rfl) rfl rfl ⟨(blk_cell BK252.out 0).trans rfl, (blk_cell BK252.out 1).trans rfl, (blk_cell BK252.out 2).trans rfl, (hC HB.out hw254_0), (hC HB.out hw254_1), (hC HB.out hw254_2)⟩ (fun hHeld => ?_); refine with_tabW impl_GoodMarks.tab6 impl_GoodMarks.bits6 (fun HT_ HW_ => ?_)
      generalize w19.drew = w20 at BK252 HB hx254_0 hx254_1 hx254_2 hHeld ⊢
      refine pV 1 26 (bN 41 2) ?_
      refine tV6 0 25 (bN 41 3) ?_
      refine one_ (i := 2) (N := some 27) (bN 41 7) rfl rfl (one_of HT_.out (by kernel_rfl)) (by decide) (fun K hK => ?_)
      refine goes_ Try.func45 (by kernel_rfl) rfl #[.agg #[.int .i64 ((rd_T67 l0 x20_2).f0), .int .i64 ((rd_T67 l0 x20_2).f1), .string ((rd_T67 l0 x20_2).f2)], .int .i64 a1] (by rfl) rfl rfl mM ?_
      with_reducible refine (impl_isMark.calls k2 ((rd_T67 l0 x20_2).f0) ((rd_T67 l0 x20_2).f1) ((rd_T67 l0 x20_2).f2) a1 true _ A10.out).mono ?_
      rintro e w21 ⟨rfl, hb⟩
      refine ⟨_, rfl, ?_⟩
      replace BK252 := aM (blk_below (g := gb252) (o := .cells #[.int .i64 ((rd_T67 l0 x20_2).f0), .int .i64 ((rd_T67 l0 x20_2).f1), .string ((rd_T67 l0 x20_2).f2)] 67 (0, 0)) (kK BK252.out) hb)
      replace HB := aM (below_step aP4 hb)
      (try clear hb)
      (try clear hb2)
      (try clear hk)
      (try clear hi)
      refine hK.out _ _ ⟨(blk_cell BK252.out 0).trans rfl, (blk_cell BK252.out 1).trans rfl, (blk_cell BK252.out 2).trans rfl, (hC HB.out hw254_0), (hC HB.out hw254_1), (hC HB.out hw254_2)⟩ (fun hHeld => ?_)
      clear hK K
      refine norm_ (a' := ?_) ?_ ?_
      rotate_left
      ·show Act.put _ (some 27) _ = _
       simp only [Act.put, List.setIfInBounds_toArray, List.set_cons_zero, List.set_cons_succ, i64_w, i32_w]
       rfl
      refine pV 3 28 (bN 41 15) ?_
      refine pV 4 29 (bN 41 31) ?_
      refine pV 5 30 (bN 41 63) ?_
      refine pV 6 31 (bN 41 127) ?_
      refine pV 7 32 (bN 41 255) ?_
      refine pV 8 33 (bN 41 511) ?_
      refine pV 9 34 (bN 41 1023) ?_
      refine pV 10 35 (bN 41 2047) ?_
      refine pV 11 36 (bN 41 4095) ?_
      refine pV 12 37 (bN 41 8191) ?_
      refine pV 14 39 (bN 41 24575) ?_
      refine tV6 13 38 (bN 41 32767) ?_
      refine tV6 15 40 (bN 41 65535) ?_
      refine pV 16 41 (bN 41 131071) ?_
      refine pV 17 42 (bN 41 262143) ?_
      refine pU 18 43 (bN 41 524287) ?_
      refine pU 19 44 (bN 41 1048575) ?_
      refine pU 20 45 (bN 41 2097151) ?_
      refine pU 21 46 (bN 41 4194303) ?_
      refine pU 22 47 (bN 41 8388607) ?_
      refine pU 23 48 (bN 41 16777215) ?_
      refine pU 24 49 (bN 41 33554431) ?_
      refine pU 25 50 (bN 41 67108863) ?_
      refine pU 26 51 (bN 41 134217727) ?_
      refine pU 27 52 (bN 41 268435455) ?_
      refine pU 28 53 (bN 41 536870911) ?_
      refine pU 29 54 (bN 41 1073741823) ?_
      refine pU 30 55 (bN 41 2147483647) ?_
      refine pU 31 56 (bN 41 4294967295) ?_
      refine pU 32 57 (bN 41 8589934591) ?_
      refine pU 33 58 (bN 41 17179869183) ?_
      refine pU 34 59 (bN 41 34359738367) ?_
      refine pU 35 60 (bN 41 68719476735) ?_
      refine pU 36 61 (bN 41 137438953471) ?_
      refine pU 37 62 (bN 41 274877906943) ?_
      refine pV 38 63 (bN 41 549755813887) ?_
      refine pV 39 64 (bN 41 1099511627775) ?_
      refine pV 40 65 (bN 41 2199023255551) ?_
      refine done_ (done_of HT_.out (by kernel_rfl)) ?_
      try go_wp2
      go_ret
      exact ⟨by first | rfl | (simp [errW_none, errW_some] <;> rfl) | (simp [errW_none, errW_some]; exact isE _) | (simp only [← hji13]; first | rfl | (simp [errW_none, errW_some] <;> rfl)) | (simp [*, errW_none, errW_some] <;> rfl), aP4⟩
     rw [if_neg c16] at H
     have c16b0 : (Op.bytesLess (((rd_T67 l0 x20_2).f2).toList) (((rd_T67 l0 (ji13)).f2).toList)) = false := by simpa using c16
     clear c16
     by_cases c22 : ((rd_T67 l0 (ji13)).f2).toList = ((rd_T67 l0 x20_2).f2).toList
     rotate_left
     ·rw [if_neg c22] at H
      have c22b0 : (((rd_T67 l0 (ji13)).f2).toList == ((rd_T67 l0 x20_2).f2).toList) = false := beq_eq_false_iff_ne.mpr c22
      have c22b1 : (((rd_T67 l0 (ji13)).f2).toList != ((rd_T67 l0 x20_2).f2).toList) = true := bne_iff_ne.mpr c22
      have H' := aM H
      clear H
      have p251 : 0 ≤ (x20_2 : Int) := of_decide_eq_true (by assumption)
      have q251 : x20_2 < (l0.length : Int) := of_decide_eq_true (by assumption)
      obtain ⟨ad251, e251, hx251_0, hx251_1, hx251_2⟩ := at_T67 HR0.out x20_2 p251 q251
      cases e251
      replace hx251_0 := hC HB.out hx251_0
      replace hx251_1 := hC HB.out hx251_1
      replace hx251_2 := hC HB.out hx251_2
      replace p251 := eq_true p251
      replace q251 := eq_true q251
      try go_wp2_with (first | ((with_reducible refine gate_dst (N := 6) rfl ?_); (try (refine gate_guard (by rfl) ?_; dsimp only)); refine box_event ?hg (N := 6) ?hd (cs := #[.int .i64 0, .int .i64 0, .string (⟨#[]⟩ : ByteArray)]) (t := 67) ?hr ?_; (case hd => rfl); (case hg => rfl); (case hr => exact aP40); intro gb252 hg w34 hbox hb; have BK252 := aM (hbox); have GW252 := aM (bG (w := w) hg); have GE252 := aM (bG (w := w) hg); replace HB := aM (below_step bB hb); clear hb hbox hg; obtain ⟨hcz35_0, hcz35_1, hcz35_2, hfz35_0, hfz35_1, hfz35_2⟩ := bx3 BK252.out))
      have n0_ : Aside0 ((((w34.setCell ⟨gb252, 0, none⟩ (.int .i64 ((rd_T67 l0 x20_2).f0))).setCell ⟨gb252, 1, none⟩ (.int .i64 ((rd_T67 l0 x20_2).f1))).setCell ⟨gb252, 2, none⟩ (.string ((rd_T67 l0 x20_2).f2))).heap[gb252]? = some (.cells #[.int .i64 ((rd_T67 l0 x20_2).f0), .int .i64 ((rd_T67 l0 x20_2).f1), .string ((rd_T67 l0 x20_2).f2)] 67 (0, 0))) := ⟨by (with_reducible repeat (first | refine blk_drewN ?_ _ | refine blk_drew ?_ | refine blk_alloc ?_ _)); refine blk_put (cs := #[.int .i64 ((rd_T67 l0 x20_2).f0), .int .i64 ((rd_T67 l0 x20_2).f1), .string (⟨#[]⟩ : ByteArray)]) ?_ 2 _ rfl; (with_reducible repeat (first | refine blk_drewN ?_ _ | refine blk_drew ?_ | refine blk_alloc ?_ _)); refine blk_put (cs := #[.int .i64 ((rd_T67 l0 x20_2).f0), .int .i64 0, .string (⟨#[]⟩ : ByteArray)]) ?_ 1 _ rfl; (with_reducible repeat (first | refine blk_drewN ?_ _ | refine blk_drew ?_ | refine blk_alloc ?_ _)); refine blk_put (cs := #[.int .i64 0, .int .i64 0, .string (⟨#[]⟩ : ByteArray)]) ?_ 0 _ rfl; (with_reducible repeat (first | refine blk_drewN ?_ _ | refine blk_drew ?_ | refine blk_alloc ?_ _)); exact BK252.out⟩
      have n1_ : Aside0 (Below w.heap.size w (((w34.setCell ⟨gb252, 0, none⟩ (.int .i64 ((rd_T67 l0 x20_2).f0))).setCell ⟨gb252, 1, none⟩ (.int .i64 ((rd_T67 l0 x20_2).f1))).setCell ⟨gb252, 2, none⟩ (.string ((rd_T67 l0 x20_2).f2)))) := ⟨aP4⟩
      (try clear BK252)
      (try clear HB)
      generalize (((w34.setCell ⟨gb252, 0, none⟩ (.int .i64 ((rd_T67 l0 x20_2).f0))).setCell ⟨gb252, 1, none⟩ (.int .i64 ((rd_T67 l0 x20_2).f1))).setCell ⟨gb252, 2, none⟩ (.string ((rd_T67 l0 x20_2).f2))) = w36 at n0_ n1_ ⊢
      have BK252 := n0_
      have HB := n1_
      clear n0_ n1_
      replace BK252 := aM (blk_drew BK252.out)
      replace HB := aM (below_drew1 HB.out)
      have p254 : 0 ≤ ((ji13) : Int) := of_decide_eq_true (by assumption)
      have q254 : (ji13) < (l0.length : Int) := of_decide_eq_true (by assumption)
      obtain ⟨ad254, e254, hx254_0, hx254_1, hx254_2⟩ := at_T67 HR0.out (ji13) p254 q254
      have hw254_2 := hx254_2
      have hw254_1 := hx254_1
      have hw254_0 := hx254_0
      (first | obtain rfl : ad251 = ad254 := (by injection e254) | cases e254)
      replace hx254_0 := hC HB.out hx254_0
      replace hx254_1 := hC HB.out hx254_1
      replace hx254_2 := hC HB.out hx254_2
      replace p254 := eq_true p254
      replace q254 := eq_true q254
      have p255 : 0 ≤ ((ji13) : Int) := of_decide_eq_true (by assumption)
      have q255 : (ji13) < (l0.length : Int) := of_decide_eq_true (by assumption)
      obtain ⟨ad255, e255, hx255_0, hx255_1, hx255_2⟩ := at_T67 HR0.out (ji13) p255 q255
      have hw255_2 := hx255_2
      have hw255_1 := hx255_1
      have hw255_0 := hx255_0
      (first | obtain rfl : ad251 = ad255 := (by injection e255) | cases e255)
      replace hx255_0 := hC HB.out hx255_0
      replace hx255_1 := hC HB.out hx255_1
      replace hx255_2 := hC HB.out hx255_2
      replace p255 := eq_true p255
      replace q255 := eq_true q255
      refine start_ (n := 41) (S := fun w' => w'.cell? ⟨gb252, 0, none⟩ = some (.int .i64 ((rd_T67 l0 x20_2).f0)) ∧ w'.cell? ⟨gb252, 1, none⟩ = some (.int .i64 ((rd_T67 l0 x20_2).f1)) ∧ w'.cell? ⟨gb252, 2, none⟩ = some (.string ((rd_T67 l0 x20_2).f2)) ∧ w'.cell? (ad251.add (((ji13)).toNat * 3)) = some (.int .i64 ((rd_T67 l0 (ji13)).f0)) ∧ w'.cell? ⟨(ad251.add (((ji13)).toNat * 3)).block, (ad251.add (((ji13)).toNat * 3)).off + 1, none⟩ = some (.int .i64 ((rd_T67 l0 (ji13)).f1)) ∧ w'.cell? ⟨(ad251.add (((ji13)).toNat * 3)).block, (ad251.add (((ji13)).toNat * 3)).off + 2, none⟩ = some (.string ((rd_T67 l0 (ji13)).f2)) ∧ w'.cell? (ad251.add (((ji13)).toNat * 3)) = some (.int .i64 ((rd_T67 l0 (ji13)).f0)) ∧ w'.cell? ⟨(ad251.add (((ji13)).toNat * 3)).block, (ad251.add (((ji13)).toNat * 3)).off + 1, none⟩ = some (.int .i64 ((rd_T67 l0 (ji13)).f1)) ∧ w'.cell? ⟨(ad251.add (((ji13)).toNat * 3)).block, (ad251.add (((ji13)).toNat * 3)).off + 2, none⟩ = some (.string ((rd_T67 l0 (ji13)).f2))) (ds := []) (Array.replicate 41 false) (by kernel_rfl) rfl rfl ⟨(blk_cell BK252.out 0).trans rfl, (blk_cell BK252.out 1).trans rfl, (blk_cell BK252.out 2).trans rfl, (hC HB.out hw254_0), (hC HB.out hw254_1), (hC HB.out hw254_2), (hC HB.out hw255_0), (hC HB.out hw255_1), (hC HB.out hw255_2)⟩ (fun hHeld => ?_); refine with_tabW impl_GoodMarks.tab6 impl_GoodMarks.bits6 (fun HT_ HW_ => ?_)
      generalize w36.drew = w37 at BK252 HB hx254_0 hx254_1 hx254_2 hx255_0 hx255_1 hx255_2 hHeld ⊢
      refine pV 1 26 (bN 41 2) ?_
      refine tV9 0 25 (bN 41 3) ?_
      refine one_ (i := 2) (N := some 27) (bN 41 7) rfl rfl (one_of HT_.out (by kernel_rfl)) (by decide) (fun K hK => ?_)
      refine goes_ Try.func45 (by kernel_rfl) rfl #[.agg #[.int .i64 ((rd_T67 l0 x20_2).f0), .int .i64 ((rd_T67 l0 x20_2).f1), .string ((rd_T67 l0 x20_2).f2)], .int .i64 a1] (by rfl) rfl rfl mM ?_
      with_reducible refine (impl_isMark.calls k2 ((rd_T67 l0 x20_2).f0) ((rd_T67 l0 x20_2).f1) ((rd_T67 l0 x20_2).f2) a1 true _ A10.out).mono ?_
      rintro e w38 ⟨rfl, hb⟩
      refine ⟨_, rfl, ?_⟩
      replace BK252 := aM (blk_below (g := gb252) (o := .cells #[.int .i64 ((rd_T67 l0 x20_2).f0), .int .i64 ((rd_T67 l0 x20_2).f1), .string ((rd_T67 l0 x20_2).f2)] 67 (0, 0)) (kK BK252.out) hb)
      replace HB := aM (below_step aP4 hb)
      (try clear hb)
      (try clear hb2)
      (try clear hk)
      (try clear hi)
      refine hK.out _ _ ⟨(blk_cell BK252.out 0).trans rfl, (blk_cell BK252.out 1).trans rfl, (blk_cell BK252.out 2).trans rfl, (hC HB.out hw254_0), (hC HB.out hw254_1), (hC HB.out hw254_2), (hC HB.out hw255_0), (hC HB.out hw255_1), (hC HB.out hw255_2)⟩ (fun hHeld => ?_)
      clear hK K
      refine norm_ (a' := ?_) ?_ ?_
      rotate_left
      ·show Act.put _ (some 27) _ = _
       simp only [Act.put, List.setIfInBounds_toArray, List.set_cons_zero, List.set_cons_succ, i64_w, i32_w]
       rfl
      refine pV 3 28 (bN 41 15) ?_
      refine pV 4 29 (bN 41 31) ?_
      refine pV 5 30 (bN 41 63) ?_
      refine pV 6 31 (bN 41 127) ?_
      refine pV 7 32 (bN 41 255) ?_
      refine pV 8 33 (bN 41 511) ?_
      refine pV 9 34 (bN 41 1023) ?_
      refine pV 10 35 (bN 41 2047) ?_
      refine pV 11 36 (bN 41 4095) ?_
      refine pV 12 37 (bN 41 8191) ?_
      refine pV 14 39 (bN 41 24575) ?_
      refine tV9 13 38 (bN 41 32767) ?_
      refine tV9 15 40 (bN 41 65535) ?_
      refine pV 16 41 (bN 41 131071) ?_
      refine pV 17 42 (bN 41 262143) ?_
      refine pV 18 43 (bN 41 524287) ?_
      refine pV 19 44 (bN 41 1048575) ?_
      refine pV 20 45 (bN 41 2097151) ?_
      refine pV 21 46 (bN 41 4194303) ?_
      refine pV 22 47 (bN 41 8388607) ?_
      refine pV 24 49 (bN 41 25165823) ?_
      refine tV9 23 48 (bN 41 33554431) ?_
      refine tV9 25 50 (bN 41 67108863) ?_
      refine pV 26 51 (bN 41 134217727) ?_
      refine pV 27 52 (bN 41 268435455) ?_
      refine pU 28 53 (bN 41 536870911) ?_
      refine pU 29 54 (bN 41 1073741823) ?_
      refine pU 30 55 (bN 41 2147483647) ?_
      refine pU 31 56 (bN 41 4294967295) ?_
      refine pU 32 57 (bN 41 8589934591) ?_
      refine pU 33 58 (bN 41 17179869183) ?_
      refine pU 34 59 (bN 41 34359738367) ?_
      refine pU 35 60 (bN 41 68719476735) ?_
      refine pU 36 61 (bN 41 137438953471) ?_
      refine pV 37 62 (bN 41 274877906943) ?_
      refine pV 38 63 (bN 41 549755813887) ?_
      refine pV 39 64 (bN 41 1099511627775) ?_
      refine pV 40 65 (bN 41 2199023255551) ?_
      refine done_ (done_of HT_.out (by kernel_rfl)) ?_
      try go_wp2
      go_roundg k2
      case measure => have := HJ2.out; have := HK2.out; omega
      case rel => exact ⟨(wrap64 (x20_2 + 1)), aP32, H', ⟨by have := HJ2.out; have := HK2.out; omega⟩, ⟨aP4⟩⟩
     rw [if_pos c22] at H
     have c22b0 : (((rd_T67 l0 (ji13)).f2).toList == ((rd_T67 l0 x20_2).f2).toList) = true := beq_iff_eq.mpr c22
     have c22b1 : (((rd_T67 l0 (ji13)).f2).toList != ((rd_T67 l0 x20_2).f2).toList) = false := bne_eq_false_iff_eq.mpr c22
     clear c22
     by_cases c23 : ((rd_T67 l0 (ji13)).f1) ≥ ((rd_T67 l0 x20_2).f0)
     rotate_left
     ·rw [if_neg c23] at H
      have c23b0 : decide (((rd_T67 l0 x20_2).f0) ≤ ((rd_T67 l0 (ji13)).f1)) = false := decide_eq_false c23
      clear c23
      have H' := aM H
      clear H
      have p251 : 0 ≤ (x20_2 : Int) := of_decide_eq_true (by assumption)
      have q251 : x20_2 < (l0.length : Int) := of_decide_eq_true (by assumption)
      obtain ⟨ad251, e251, hx251_0, hx251_1, hx251_2⟩ := at_T67 HR0.out x20_2 p251 q251
      cases e251
      replace hx251_0 := hC HB.out hx251_0
      replace hx251_1 := hC HB.out hx251_1
      replace hx251_2 := hC HB.out hx251_2
      replace p251 := eq_true p251
      replace q251 := eq_true q251
      try go_wp2_with (first | ((with_reducible refine gate_dst (N := 6) rfl ?_); (try (refine gate_guard (by rfl) ?_; dsimp only)); refine box_event ?hg (N := 6) ?hd (cs := #[.int .i64 0, .int .i64 0, .string (⟨#[]⟩ : ByteArray)]) (t := 67) ?hr ?_; (case hd => rfl); (case hg => rfl); (case hr => exact aP40); intro gb252 hg w29 hbox hb; have BK252 := aM (hbox); have GW252 := aM (bG (w := w) hg); have GE252 := aM (bG (w := w) hg); replace HB := aM (below_step bB hb); clear hb hbox hg; obtain ⟨hcz30_0, hcz30_1, hcz30_2, hfz30_0, hfz30_1, hfz30_2⟩ := bx3 BK252.out))
      have n0_ : Aside0 ((((w29.setCell ⟨gb252, 0, none⟩ (.int .i64 ((rd_T67 l0 x20_2).f0))).setCell ⟨gb252, 1, none⟩ (.int .i64 ((rd_T67 l0 x20_2).f1))).setCell ⟨gb252, 2, none⟩ (.string ((rd_T67 l0 x20_2).f2))).heap[gb252]? = some (.cells #[.int .i64 ((rd_T67 l0 x20_2).f0), .int .i64 ((rd_T67 l0 x20_2).f1), .string ((rd_T67 l0 x20_2).f2)] 67 (0, 0))) := ⟨by (with_reducible repeat (first | refine blk_drewN ?_ _ | refine blk_drew ?_ | refine blk_alloc ?_ _)); refine blk_put (cs := #[.int .i64 ((rd_T67 l0 x20_2).f0), .int .i64 ((rd_T67 l0 x20_2).f1), .string (⟨#[]⟩ : ByteArray)]) ?_ 2 _ rfl; (with_reducible repeat (first | refine blk_drewN ?_ _ | refine blk_drew ?_ | refine blk_alloc ?_ _)); refine blk_put (cs := #[.int .i64 ((rd_T67 l0 x20_2).f0), .int .i64 0, .string (⟨#[]⟩ : ByteArray)]) ?_ 1 _ rfl; (with_reducible repeat (first | refine blk_drewN ?_ _ | refine blk_drew ?_ | refine blk_alloc ?_ _)); refine blk_put (cs := #[.int .i64 0, .int .i64 0, .string (⟨#[]⟩ : ByteArray)]) ?_ 0 _ rfl; (with_reducible repeat (first | refine blk_drewN ?_ _ | refine blk_drew ?_ | refine blk_alloc ?_ _)); exact BK252.out⟩
      have n1_ : Aside0 (Below w.heap.size w (((w29.setCell ⟨gb252, 0, none⟩ (.int .i64 ((rd_T67 l0 x20_2).f0))).setCell ⟨gb252, 1, none⟩ (.int .i64 ((rd_T67 l0 x20_2).f1))).setCell ⟨gb252, 2, none⟩ (.string ((rd_T67 l0 x20_2).f2)))) := ⟨aP4⟩
      (try clear BK252)
      (try clear HB)
      generalize (((w29.setCell ⟨gb252, 0, none⟩ (.int .i64 ((rd_T67 l0 x20_2).f0))).setCell ⟨gb252, 1, none⟩ (.int .i64 ((rd_T67 l0 x20_2).f1))).setCell ⟨gb252, 2, none⟩ (.string ((rd_T67 l0 x20_2).f2))) = w31 at n0_ n1_ ⊢
      have BK252 := n0_
      have HB := n1_
      clear n0_ n1_
      replace BK252 := aM (blk_drew BK252.out)
      replace HB := aM (below_drew1 HB.out)
      have p254 : 0 ≤ ((ji13) : Int) := of_decide_eq_true (by assumption)
      have q254 : (ji13) < (l0.length : Int) := of_decide_eq_true (by assumption)
      obtain ⟨ad254, e254, hx254_0, hx254_1, hx254_2⟩ := at_T67 HR0.out (ji13) p254 q254
      have hw254_2 := hx254_2
      have hw254_1 := hx254_1
      have hw254_0 := hx254_0
      (first | obtain rfl : ad251 = ad254 := (by injection e254) | cases e254)
      replace hx254_0 := hC HB.out hx254_0
      replace hx254_1 := hC HB.out hx254_1
      replace hx254_2 := hC HB.out hx254_2
      replace p254 := eq_true p254
      replace q254 := eq_true q254
      have p255 : 0 ≤ ((ji13) : Int) := of_decide_eq_true (by assumption)
      have q255 : (ji13) < (l0.length : Int) := of_decide_eq_true (by assumption)
      obtain ⟨ad255, e255, hx255_0, hx255_1, hx255_2⟩ := at_T67 HR0.out (ji13) p255 q255
      have hw255_2 := hx255_2
      have hw255_1 := hx255_1
      have hw255_0 := hx255_0
      (first | obtain rfl : ad251 = ad255 := (by injection e255) | cases e255)
      replace hx255_0 := hC HB.out hx255_0
      replace hx255_1 := hC HB.out hx255_1
      replace hx255_2 := hC HB.out hx255_2
      replace p255 := eq_true p255
      replace q255 := eq_true q255
      have p256 : 0 ≤ ((ji13) : Int) := of_decide_eq_true (by assumption)
      have q256 : (ji13) < (l0.length : Int) := of_decide_eq_true (by assumption)
      obtain ⟨ad256, e256, hx256_0, hx256_1, hx256_2⟩ := at_T67 HR0.out (ji13) p256 q256
      have hw256_2 := hx256_2
      have hw256_1 := hx256_1
      have hw256_0 := hx256_0
      (first | obtain rfl : ad251 = ad256 := (by injection e256) | cases e256)
      replace hx256_0 := hC HB.out hx256_0
      replace hx256_1 := hC HB.out hx256_1
      replace hx256_2 := hC HB.out hx256_2
      replace p256 := eq_true p256
      replace q256 := eq_true q256
      refine start_ (n := 41) (S := fun w' => w'.cell? ⟨gb252, 0, none⟩ = some (.int .i64 ((rd_T67 l0 x20_2).f0)) ∧ w'.cell? ⟨gb252, 1, none⟩ = some (.int .i64 ((rd_T67 l0 x20_2).f1)) ∧ w'.cell? ⟨gb252, 2, none⟩ = some (.string ((rd_T67 l0 x20_2).f2)) ∧ w'.cell? (ad251.add (((ji13)).toNat * 3)) = some (.int .i64 ((rd_T67 l0 (ji13)).f0)) ∧ w'.cell? ⟨(ad251.add (((ji13)).toNat * 3)).block, (ad251.add (((ji13)).toNat * 3)).off + 1, none⟩ = some (.int .i64 ((rd_T67 l0 (ji13)).f1)) ∧ w'.cell? ⟨(ad251.add (((ji13)).toNat * 3)).block, (ad251.add (((ji13)).toNat * 3)).off + 2, none⟩ = some (.string ((rd_T67 l0 (ji13)).f2)) ∧ w'.cell? (ad251.add (((ji13)).toNat * 3)) = some (.int .i64 ((rd_T67 l0 (ji13)).f0)) ∧ w'.cell? ⟨(ad251.add (((ji13)).toNat * 3)).block, (ad251.add (((ji13)).toNat * 3)).off + 1, none⟩ = some (.int .i64 ((rd_T67 l0 (ji13)).f1)) ∧ w'.cell? ⟨(ad251.add (((ji13)).toNat * 3)).block, (ad251.add (((ji13)).toNat * 3)).off + 2, none⟩ = some (.string ((rd_T67 l0 (ji13)).f2)) ∧ w'.cell? (ad251.add (((ji13)).toNat * 3)) = some (.int .i64 ((rd_T67 l0 (ji13)).f0)) ∧ w'.cell? ⟨(ad251.add (((ji13)).toNat * 3)).block, (ad251.add (((ji13)).toNat * 3)).off + 1, none⟩ = some (.int .i64 ((rd_T67 l0 (ji13)).f1)) ∧ w'.cell? ⟨(ad251.add (((ji13)).toNat * 3)).block, (ad251.add (((ji13)).toNat * 3)).off + 2, none⟩ = some (.string ((rd_T67 l0 (ji13)).f2))) (ds := []) (Array.replicate 41 false) (by kernel_rfl) rfl rfl ⟨(blk_cell BK252.out 0).trans rfl, (blk_cell BK252.out 1).trans rfl, (blk_cell BK252.out 2).trans rfl, (hC HB.out hw254_0), (hC HB.out hw254_1), (hC HB.out hw254_2), (hC HB.out hw255_0), (hC HB.out hw255_1), (hC HB.out hw255_2), (hC HB.out hw256_0), (hC HB.out hw256_1), (hC HB.out hw256_2)⟩ (fun hHeld => ?_); refine with_tabW impl_GoodMarks.tab6 impl_GoodMarks.bits6 (fun HT_ HW_ => ?_)
      generalize w31.drew = w32 at BK252 HB hx254_0 hx254_1 hx254_2 hx255_0 hx255_1 hx255_2 hx256_0 hx256_1 hx256_2 hHeld ⊢
      refine pV 1 26 (bN 41 2) ?_
      refine tV12 0 25 (bN 41 3) ?_
      refine one_ (i := 2) (N := some 27) (bN 41 7) rfl rfl (one_of HT_.out (by kernel_rfl)) (by decide) (fun K hK => ?_)
      refine goes_ Try.func45 (by kernel_rfl) rfl #[.agg #[.int .i64 ((rd_T67 l0 x20_2).f0), .int .i64 ((rd_T67 l0 x20_2).f1), .string ((rd_T67 l0 x20_2).f2)], .int .i64 a1] (by rfl) rfl rfl mM ?_
      with_reducible refine (impl_isMark.calls k2 ((rd_T67 l0 x20_2).f0) ((rd_T67 l0 x20_2).f1) ((rd_T67 l0 x20_2).f2) a1 true _ A10.out).mono ?_
      rintro e w33 ⟨rfl, hb⟩
      refine ⟨_, rfl, ?_⟩
      replace BK252 := aM (blk_below (g := gb252) (o := .cells #[.int .i64 ((rd_T67 l0 x20_2).f0), .int .i64 ((rd_T67 l0 x20_2).f1), .string ((rd_T67 l0 x20_2).f2)] 67 (0, 0)) (kK BK252.out) hb)
      replace HB := aM (below_step aP4 hb)
      (try clear hb)
      (try clear hb2)
      (try clear hk)
      (try clear hi)
      refine hK.out _ _ ⟨(blk_cell BK252.out 0).trans rfl, (blk_cell BK252.out 1).trans rfl, (blk_cell BK252.out 2).trans rfl, (hC HB.out hw254_0), (hC HB.out hw254_1), (hC HB.out hw254_2), (hC HB.out hw255_0), (hC HB.out hw255_1), (hC HB.out hw255_2), (hC HB.out hw256_0), (hC HB.out hw256_1), (hC HB.out hw256_2)⟩ (fun hHeld => ?_)
      clear hK K
      refine norm_ (a' := ?_) ?_ ?_
      rotate_left
      ·show Act.put _ (some 27) _ = _
       simp only [Act.put, List.setIfInBounds_toArray, List.set_cons_zero, List.set_cons_succ, i64_w, i32_w]
       rfl
      refine pV 3 28 (bN 41 15) ?_
      refine pV 4 29 (bN 41 31) ?_
      refine pV 5 30 (bN 41 63) ?_
      refine pV 6 31 (bN 41 127) ?_
      refine pV 7 32 (bN 41 255) ?_
      refine pV 8 33 (bN 41 511) ?_
      refine pV 9 34 (bN 41 1023) ?_
      refine pV 10 35 (bN 41 2047) ?_
      refine pV 11 36 (bN 41 4095) ?_
      refine pV 12 37 (bN 41 8191) ?_
      refine pV 14 39 (bN 41 24575) ?_
      refine tV12 13 38 (bN 41 32767) ?_
      refine tV12 15 40 (bN 41 65535) ?_
      refine pV 16 41 (bN 41 131071) ?_
      refine pV 17 42 (bN 41 262143) ?_
      refine pV 18 43 (bN 41 524287) ?_
      refine pV 19 44 (bN 41 1048575) ?_
      refine pV 20 45 (bN 41 2097151) ?_
      refine pV 21 46 (bN 41 4194303) ?_
      refine pV 22 47 (bN 41 8388607) ?_
      refine pV 24 49 (bN 41 25165823) ?_
      refine tV12 23 48 (bN 41 33554431) ?_
      refine tV12 25 50 (bN 41 67108863) ?_
      refine pV 26 51 (bN 41 134217727) ?_
      refine pV 27 52 (bN 41 268435455) ?_
      refine pV 28 53 (bN 41 536870911) ?_
      refine pV 29 54 (bN 41 1073741823) ?_
      refine pV 30 55 (bN 41 2147483647) ?_
      refine pV 31 56 (bN 41 4294967295) ?_
      refine pV 32 57 (bN 41 8589934591) ?_
      refine pV 34 59 (bN 41 25769803775) ?_
      refine tV12 33 58 (bN 41 34359738367) ?_
      refine tV12 35 60 (bN 41 68719476735) ?_
      refine pV 36 61 (bN 41 137438953471) ?_
      refine pV 37 62 (bN 41 274877906943) ?_
      refine pV 38 63 (bN 41 549755813887) ?_
      refine pV 39 64 (bN 41 1099511627775) ?_
      refine pV 40 65 (bN 41 2199023255551) ?_
      refine done_ (done_of HT_.out (by kernel_rfl)) ?_
      try go_wp2
      go_roundg k2
      case measure => have := HJ2.out; have := HK2.out; omega
      case rel => exact ⟨(wrap64 (x20_2 + 1)), aP32, H', ⟨by have := HJ2.out; have := HK2.out; omega⟩, ⟨aP4⟩⟩
     rw [if_pos c23] at H
     have c23b0 : decide (((rd_T67 l0 x20_2).f0) ≤ ((rd_T67 l0 (ji13)).f1)) = true := decide_eq_true c23
     clear c23
     obtain rfl := Option.some.inj H
     have p251 : 0 ≤ (x20_2 : Int) := of_decide_eq_true (by assumption)
     have q251 : x20_2 < (l0.length : Int) := of_decide_eq_true (by assumption)
     obtain ⟨ad251, e251, hx251_0, hx251_1, hx251_2⟩ := at_T67 HR0.out x20_2 p251 q251
     cases e251
     replace hx251_0 := hC HB.out hx251_0
     replace hx251_1 := hC HB.out hx251_1
     replace hx251_2 := hC HB.out hx251_2
     replace p251 := eq_true p251
     replace q251 := eq_true q251
     try go_wp2_with (first | ((with_reducible refine gate_dst (N := 6) rfl ?_); (try (refine gate_guard (by rfl) ?_; dsimp only)); refine box_event ?hg (N := 6) ?hd (cs := #[.int .i64 0, .int .i64 0, .string (⟨#[]⟩ : ByteArray)]) (t := 67) ?hr ?_; (case hd => rfl); (case hg => rfl); (case hr => exact aP40); intro gb252 hg w24 hbox hb; have BK252 := aM (hbox); have GW252 := aM (bG (w := w) hg); have GE252 := aM (bG (w := w) hg); replace HB := aM (below_step bB hb); clear hb hbox hg; obtain ⟨hcz25_0, hcz25_1, hcz25_2, hfz25_0, hfz25_1, hfz25_2⟩ := bx3 BK252.out))
     have n0_ : Aside0 ((((w24.setCell ⟨gb252, 0, none⟩ (.int .i64 ((rd_T67 l0 x20_2).f0))).setCell ⟨gb252, 1, none⟩ (.int .i64 ((rd_T67 l0 x20_2).f1))).setCell ⟨gb252, 2, none⟩ (.string ((rd_T67 l0 x20_2).f2))).heap[gb252]? = some (.cells #[.int .i64 ((rd_T67 l0 x20_2).f0), .int .i64 ((rd_T67 l0 x20_2).f1), .string ((rd_T67 l0 x20_2).f2)] 67 (0, 0))) := ⟨by (with_reducible repeat (first | refine blk_drewN ?_ _ | refine blk_drew ?_ | refine blk_alloc ?_ _)); refine blk_put (cs := #[.int .i64 ((rd_T67 l0 x20_2).f0), .int .i64 ((rd_T67 l0 x20_2).f1), .string (⟨#[]⟩ : ByteArray)]) ?_ 2 _ rfl; (with_reducible repeat (first | refine blk_drewN ?_ _ | refine blk_drew ?_ | refine blk_alloc ?_ _)); refine blk_put (cs := #[.int .i64 ((rd_T67 l0 x20_2).f0), .int .i64 0, .string (⟨#[]⟩ : ByteArray)]) ?_ 1 _ rfl; (with_reducible repeat (first | refine blk_drewN ?_ _ | refine blk_drew ?_ | refine blk_alloc ?_ _)); refine blk_put (cs := #[.int .i64 0, .int .i64 0, .string (⟨#[]⟩ : ByteArray)]) ?_ 0 _ rfl; (with_reducible repeat (first | refine blk_drewN ?_ _ | refine blk_drew ?_ | refine blk_alloc ?_ _)); exact BK252.out⟩
     have n1_ : Aside0 (Below w.heap.size w (((w24.setCell ⟨gb252, 0, none⟩ (.int .i64 ((rd_T67 l0 x20_2).f0))).setCell ⟨gb252, 1, none⟩ (.int .i64 ((rd_T67 l0 x20_2).f1))).setCell ⟨gb252, 2, none⟩ (.string ((rd_T67 l0 x20_2).f2)))) := ⟨aP4⟩
     (try clear BK252)
     (try clear HB)
     generalize (((w24.setCell ⟨gb252, 0, none⟩ (.int .i64 ((rd_T67 l0 x20_2).f0))).setCell ⟨gb252, 1, none⟩ (.int .i64 ((rd_T67 l0 x20_2).f1))).setCell ⟨gb252, 2, none⟩ (.string ((rd_T67 l0 x20_2).f2))) = w26 at n0_ n1_ ⊢
     have BK252 := n0_
     have HB := n1_
     clear n0_ n1_
     replace BK252 := aM (blk_drew BK252.out)
     replace HB := aM (below_drew1 HB.out)
     have p254 : 0 ≤ ((ji13) : Int) := of_decide_eq_true (by assumption)
     have q254 : (ji13) < (l0.length : Int) := of_decide_eq_true (by assumption)
     obtain ⟨ad254, e254, hx254_0, hx254_1, hx254_2⟩ := at_T67 HR0.out (ji13) p254 q254
     have hw254_2 := hx254_2
     have hw254_1 := hx254_1
     have hw254_0 := hx254_0
     (first | obtain rfl : ad251 = ad254 := (by injection e254) | cases e254)
     replace hx254_0 := hC HB.out hx254_0
     replace hx254_1 := hC HB.out hx254_1
     replace hx254_2 := hC HB.out hx254_2
     replace p254 := eq_true p254
     replace q254 := eq_true q254
     have p255 : 0 ≤ ((ji13) : Int) := of_decide_eq_true (by assumption)
     have q255 : (ji13) < (l0.length : Int) := of_decide_eq_true (by assumption)
     obtain ⟨ad255, e255, hx255_0, hx255_1, hx255_2⟩ := at_T67 HR0.out (ji13) p255 q255
     have hw255_2 := hx255_2
     have hw255_1 := hx255_1
     have hw255_0 := hx255_0
     (first | obtain rfl : ad251 = ad255 := (by injection e255) | cases e255)
     replace hx255_0 := hC HB.out hx255_0
     replace hx255_1 := hC HB.out hx255_1
     replace hx255_2 := hC HB.out hx255_2
     replace p255 := eq_true p255
     replace q255 := eq_true q255
     have p256 : 0 ≤ ((ji13) : Int) := of_decide_eq_true (by assumption)
     have q256 : (ji13) < (l0.length : Int) := of_decide_eq_true (by assumption)
     obtain ⟨ad256, e256, hx256_0, hx256_1, hx256_2⟩ := at_T67 HR0.out (ji13) p256 q256
     have hw256_2 := hx256_2
     have hw256_1 := hx256_1
     have hw256_0 := hx256_0
     (first | obtain rfl : ad251 = ad256 := (by injection e256) | cases e256)
     replace hx256_0 := hC HB.out hx256_0
     replace hx256_1 := hC HB.out hx256_1
     replace hx256_2 := hC HB.out hx256_2
     replace p256 := eq_true p256
     replace q256 := eq_true q256
     refine start_ (n := 41) (S := fun w' => w'.cell? ⟨gb252, 0, none⟩ = some (.int .i64 ((rd_T67 l0 x20_2).f0)) ∧ w'.cell? ⟨gb252, 1, none⟩ = some (.int .i64 ((rd_T67 l0 x20_2).f1)) ∧ w'.cell? ⟨gb252, 2, none⟩ = some (.string ((rd_T67 l0 x20_2).f2)) ∧ w'.cell? (ad251.add (((ji13)).toNat * 3)) = some (.int .i64 ((rd_T67 l0 (ji13)).f0)) ∧ w'.cell? ⟨(ad251.add (((ji13)).toNat * 3)).block, (ad251.add (((ji13)).toNat * 3)).off + 1, none⟩ = some (.int .i64 ((rd_T67 l0 (ji13)).f1)) ∧ w'.cell? ⟨(ad251.add (((ji13)).toNat * 3)).block, (ad251.add (((ji13)).toNat * 3)).off + 2, none⟩ = some (.string ((rd_T67 l0 (ji13)).f2)) ∧ w'.cell? (ad251.add (((ji13)).toNat * 3)) = some (.int .i64 ((rd_T67 l0 (ji13)).f0)) ∧ w'.cell? ⟨(ad251.add (((ji13)).toNat * 3)).block, (ad251.add (((ji13)).toNat * 3)).off + 1, none⟩ = some (.int .i64 ((rd_T67 l0 (ji13)).f1)) ∧ w'.cell? ⟨(ad251.add (((ji13)).toNat * 3)).block, (ad251.add (((ji13)).toNat * 3)).off + 2, none⟩ = some (.string ((rd_T67 l0 (ji13)).f2)) ∧ w'.cell? (ad251.add (((ji13)).toNat * 3)) = some (.int .i64 ((rd_T67 l0 (ji13)).f0)) ∧ w'.cell? ⟨(ad251.add (((ji13)).toNat * 3)).block, (ad251.add (((ji13)).toNat * 3)).off + 1, none⟩ = some (.int .i64 ((rd_T67 l0 (ji13)).f1)) ∧ w'.cell? ⟨(ad251.add (((ji13)).toNat * 3)).block, (ad251.add (((ji13)).toNat * 3)).off + 2, none⟩ = some (.string ((rd_T67 l0 (ji13)).f2))) (ds := []) (Array.replicate 41 false) (by kernel_rfl) rfl rfl ⟨(blk_cell BK252.out 0).trans rfl, (blk_cell BK252.out 1).trans rfl, (blk_cell BK252.out 2).trans rfl, (hC HB.out hw254_0), (hC HB.out hw254_1), (hC HB.out hw254_2), (hC HB.out hw255_0), (hC HB.out hw255_1), (hC HB.out hw255_2), (hC HB.out hw256_0), (hC HB.out hw256_1), (hC HB.out hw256_2)⟩ (fun hHeld => ?_); refine with_tabW impl_GoodMarks.tab6 impl_GoodMarks.bits6 (fun HT_ HW_ => ?_)
     generalize w26.drew = w27 at BK252 HB hx254_0 hx254_1 hx254_2 hx255_0 hx255_1 hx255_2 hx256_0 hx256_1 hx256_2 hHeld ⊢
     refine pV 1 26 (bN 41 2) ?_
     refine tV12 0 25 (bN 41 3) ?_
     refine one_ (i := 2) (N := some 27) (bN 41 7) rfl rfl (one_of HT_.out (by kernel_rfl)) (by decide) (fun K hK => ?_)
     refine goes_ Try.func45 (by kernel_rfl) rfl #[.agg #[.int .i64 ((rd_T67 l0 x20_2).f0), .int .i64 ((rd_T67 l0 x20_2).f1), .string ((rd_T67 l0 x20_2).f2)], .int .i64 a1] (by rfl) rfl rfl mM ?_
     with_reducible refine (impl_isMark.calls k2 ((rd_T67 l0 x20_2).f0) ((rd_T67 l0 x20_2).f1) ((rd_T67 l0 x20_2).f2) a1 true _ A10.out).mono ?_
     rintro e w28 ⟨rfl, hb⟩
     refine ⟨_, rfl, ?_⟩
     replace BK252 := aM (blk_below (g := gb252) (o := .cells #[.int .i64 ((rd_T67 l0 x20_2).f0), .int .i64 ((rd_T67 l0 x20_2).f1), .string ((rd_T67 l0 x20_2).f2)] 67 (0, 0)) (kK BK252.out) hb)
     replace HB := aM (below_step aP4 hb)
     (try clear hb)
     (try clear hb2)
     (try clear hk)
     (try clear hi)
     refine hK.out _ _ ⟨(blk_cell BK252.out 0).trans rfl, (blk_cell BK252.out 1).trans rfl, (blk_cell BK252.out 2).trans rfl, (hC HB.out hw254_0), (hC HB.out hw254_1), (hC HB.out hw254_2), (hC HB.out hw255_0), (hC HB.out hw255_1), (hC HB.out hw255_2), (hC HB.out hw256_0), (hC HB.out hw256_1), (hC HB.out hw256_2)⟩ (fun hHeld => ?_)
     clear hK K
     refine norm_ (a' := ?_) ?_ ?_
     rotate_left
     ·show Act.put _ (some 27) _ = _
      simp only [Act.put, List.setIfInBounds_toArray, List.set_cons_zero, List.set_cons_succ, i64_w, i32_w]
      rfl
     refine pV 3 28 (bN 41 15) ?_
     refine pV 4 29 (bN 41 31) ?_
     refine pV 5 30 (bN 41 63) ?_
     refine pV 6 31 (bN 41 127) ?_
     refine pV 7 32 (bN 41 255) ?_
     refine pV 8 33 (bN 41 511) ?_
     refine pV 9 34 (bN 41 1023) ?_
     refine pV 10 35 (bN 41 2047) ?_
     refine pV 11 36 (bN 41 4095) ?_
     refine pV 12 37 (bN 41 8191) ?_
     refine pV 14 39 (bN 41 24575) ?_
     refine tV12 13 38 (bN 41 32767) ?_
     refine tV12 15 40 (bN 41 65535) ?_
     refine pV 16 41 (bN 41 131071) ?_
     refine pV 17 42 (bN 41 262143) ?_
     refine pV 18 43 (bN 41 524287) ?_
     refine pV 19 44 (bN 41 1048575) ?_
     refine pV 20 45 (bN 41 2097151) ?_
     refine pV 21 46 (bN 41 4194303) ?_
     refine pV 22 47 (bN 41 8388607) ?_
     refine pV 24 49 (bN 41 25165823) ?_
     refine tV12 23 48 (bN 41 33554431) ?_
     refine tV12 25 50 (bN 41 67108863) ?_
     refine pV 26 51 (bN 41 134217727) ?_
     refine pV 27 52 (bN 41 268435455) ?_
     refine pV 28 53 (bN 41 536870911) ?_
     refine pV 29 54 (bN 41 1073741823) ?_
     refine pV 30 55 (bN 41 2147483647) ?_
     refine pV 31 56 (bN 41 4294967295) ?_
     refine pV 32 57 (bN 41 8589934591) ?_
     refine pV 34 59 (bN 41 25769803775) ?_
     refine tV12 33 58 (bN 41 34359738367) ?_
     refine tV12 35 60 (bN 41 68719476735) ?_
     refine pV 36 61 (bN 41 137438953471) ?_
     refine pV 37 62 (bN 41 274877906943) ?_
     refine pV 38 63 (bN 41 549755813887) ?_
     refine pV 39 64 (bN 41 1099511627775) ?_
     refine pV 40 65 (bN 41 2199023255551) ?_
     refine done_ (done_of HT_.out (by kernel_rfl)) ?_
     try go_wp2
     go_ret
     exact ⟨by first | rfl | (simp [errW_none, errW_some] <;> rfl) | (simp [errW_none, errW_some]; exact isE _) | (simp only [← hji13]; first | rfl | (simp [errW_none, errW_some] <;> rfl)) | (simp [*, errW_none, errW_some] <;> rfl), aP4⟩
end Go.Proofs.Ytmhcmcdppimcpaa.PFnExactMoveMarks
