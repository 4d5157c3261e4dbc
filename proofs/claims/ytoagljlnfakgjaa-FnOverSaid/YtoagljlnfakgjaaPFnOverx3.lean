/- (thin) Written by a program of this session (wip/ovl.py) over the kit's print: plain functions with the answers of the Go functions, and the proofs that they are; no condition. -/
import Derived.Test.YtoagljlnfakgjaaMk
import Derived.Test.YtoagljlnfakgjaaWFootNe
import Derived.Test.YtoagljlnfakgjaaWKept
import Derived.Test.YtoagljlnfakgjaaPFnOverx0
import Derived.Test.YtoagljlnfakgjaaPFnOverx2
namespace Go.Proofs.Ytoagljlnfakgjaa.PFnOver
open Go.RowKit Go.Proofs.YtoagljlnfakgjaaW.PrintWords Go.Proofs.YtoagljlnfakgjaaW.PrintLast Go.Proofs.YtoagljlnfakgjaaW.PrintMore
attribute [local go_sem] max2_int min2_int max_two min_two max_three min_three max_four min_four   -- for this text's walks alone
set_option linter.unusedVariables false
set_option linter.unusedSimpArgs false
def impl_dropped.l0 : Nat → List Int → List (S60) → Int → Int → Option (List Int)
 | 0, _, _, _, _ => none
 | k + 1, x3, x6, x7, x8 => if x8 < x7 then (if 0 ≤ x8 then (if x8 < (x6.length : Int) then (if 0 ≤ ((rd_T60 x6 x8).f0) then (if x3.length + ((rd_T60 x6 x8).f0 : Int).toNat < 140737488355328 then ((some (x3 ++ List.replicate ((rd_T60 x6 x8).f0 : Int).toNat 0 : List Int)).bind fun y112 => (if y112.length + ((rd_T60 x6 x8).f2).size < 140737488355328 then (impl_dropped.l0 k (y112 ++ bytesOf ((rd_T60 x6 x8).f2)) x6 x7 (wrap64 (x8 + 1))) else (none))) else (none)) else (none)) else (none)) else (none)) else (some x3)
def impl_dropped.f (k : Nat) (l0 : List (S60)) : Option (List Int) := impl_dropped.l0 k ([] : List Int) l0 (l0.length : Int) 0
theorem impl_dropped.mono_l : ∀ k, (∀ y0 y1 y2 y3, LeO (impl_dropped.l0 k y0 y1 y2 y3) (impl_dropped.l0 (k + 1) y0 y1 y2 y3))
 | 0 => fun _ _ _ _ r h => by simp [impl_dropped.l0] at h
 | k + 1 => by
  have ih0 := impl_dropped.mono_l k
  ·intro y0 y1 y2 y3
   unfold impl_dropped.l0
   repeat' (with_reducible first | exact ih0 _ _ _ _ | exact LeO.refl _ | exact LeO.none _ | refine LeO.ite ?_ ?_ | refine LeO.bind ?_ (fun _ => ?_))
theorem impl_dropped.mono : ∀ a0 k, LeO (impl_dropped.f k a0) (impl_dropped.f (k + 1) a0) := by
 intro a0 k
 have ih0 := impl_dropped.mono_l k
 unfold impl_dropped.f
 repeat' (with_reducible first | exact ih0 _ _ _ _ | exact LeO.refl _ | exact LeO.none _ | refine LeO.ite ?_ ?_ | refine LeO.bind ?_ (fun _ => ?_))
set_option maxHeartbeats 8000000 in
set_option maxRecDepth 100000 in
theorem impl_dropped.calls (k : Nat) (A0 : Option Addr) (c0 : Nat) (l0 : List (S60)) (r : List Int) (w : World) (hr0 : Kd.C k60 w A0 l0.length l0) (hc0 : l0.length ≤ c0) (h : impl_dropped.f k l0 = some r) :
  Calls Try.prog 38 #[.slice A0 l0.length c0] w fun e w' => ∃ v0_ : Value, e = .returned (v0_) ∧ Kd.R (Kd.int .u8) 5 w' w.heap.size (fun _ => True) v0_ r ∧ Below w.heap.size w w' := by
 have hu60 := Try.underlying60
 have HR0 := aM hr0
 have HC0 := aM hc0
 clear hr0 hc0
 have HB := aM (Below.refl w.heap.size w)
 have H : (impl_dropped.l0 k ([] : List Int) l0 (l0.length : Int) 0) = some r := h
 clear h
 have H' := aM H
 clear H
 go_enter Try.func38, Try.ntmps38
 go_wp2
 go_loopg [3, 8] k (fun kq v3 v8 w' => ∃ (x3_1 : List Int) (x8_1 : Int), v8 = .int .i64 x8_1 ∧ Aside0 (impl_dropped.l0 kq x3_1 l0 (l0.length : Int) x8_1 = some r) ∧ Aside0 (kq ≤ k) ∧ Aside0 (Kd.R (Kd.int .u8) 5 w' w.heap.size (fun _ => True) v3 x3_1) ∧ Aside0 (Below w.heap.size w w'))
 case atStart => exact ⟨(([] : List Int)), (0), aP16, H', ⟨Nat.le_refl _⟩, ⟨by first | exact Kd.R_nil _ _ _ _ _ | exact Kd.N_nil _ _ _ _ _ | exact Kd.V_nil _ _ _ _ _ | exact Kd.Q_nil _ _ _ _ _ | exact Kd.S_nil _ _ _ _ _⟩, ⟨bB⟩⟩
 case round =>
  clear H'
  obtain ⟨x3_1, x8_1, rfl, HA, HK1, HO_3, HB⟩ := hrel
  cases gk with
  | zero => exact absurd HA.out (by simp [impl_dropped.l0])
  | succ k1 =>
   have H := HA.out
   clear HA
   simp only [impl_dropped.l0] at H
   by_cases c2 : x8_1 < (l0.length : Int)
   rotate_left
   ·rw [if_neg c2] at H
    have c2b0 : decide (x8_1 < (l0.length : Int)) = false := decide_eq_false c2
    clear c2
    obtain rfl := Option.some.inj H
    go_wp2
    go_ret
    exact ⟨_, by first | rfl | (simp [errW_none, errW_some] <;> rfl) | (simp [*, errW_none, errW_some] <;> rfl), by (with_reducible repeat (first | apply Kd.R_alloc | apply Kd.R_drewN | apply Kd.R_drew)); exact HO_3.out, bB⟩
   rw [if_pos c2] at H
   have c2b0 : decide (x8_1 < (l0.length : Int)) = true := decide_eq_true c2
   clear c2
   by_cases c3 : 0 ≤ x8_1
   rotate_left
   ·rw [if_neg c3] at H
    exact absurd H (by simp)
   rw [if_pos c3] at H
   have c3b0 : decide (0 ≤ x8_1) = true := decide_eq_true c3
   clear c3
   by_cases c4 : x8_1 < (l0.length : Int)
   rotate_left
   ·rw [if_neg c4] at H
    exact absurd H (by simp)
   rw [if_pos c4] at H
   have c4b0 : decide (x8_1 < (l0.length : Int)) = true := decide_eq_true c4
   clear c4
   by_cases c5 : 0 ≤ ((rd_T60 l0 x8_1).f0)
   rotate_left
   ·rw [if_neg c5] at H
    exact absurd H (by simp)
   rw [if_pos c5] at H
   have c5b0 := eq_true c5
   have c5b1 : decide (0 ≤ ((rd_T60 l0 x8_1).f0)) = true := decide_eq_true c5
   clear c5
   by_cases c6 : x3_1.length + ((rd_T60 l0 x8_1).f0 : Int).toNat < 140737488355328
   rotate_left
   ·rw [if_neg c6] at H
    exact absurd H (by simp)
   rw [if_pos c6] at H
   have LMc6 := aM c6
   clear c6
   obtain ⟨y112, hy112⟩ : ∃ y_ : List Int, y_ = (x3_1 ++ List.replicate ((rd_T60 l0 x8_1).f0 : Int).toNat 0) := ⟨_, rfl⟩
   replace H : (if y112.length + ((rd_T60 l0 x8_1).f2).size < 140737488355328 then (impl_dropped.l0 k1 (y112 ++ bytesOf ((rd_T60 l0 x8_1).f2)) l0 (l0.length : Int) (wrap64 (x8_1 + 1))) else (none)) = some r := by first | (rw [hy112]; with_reducible exact H) | (have H2_ := (Option.bind_some _ _).symm.trans H; rw [hy112]; with_reducible exact H2_) | (have H2_ := (Option.bind_some _ _).symm.trans H; with_reducible exact H2_) | with_reducible exact H | (rw [hy112]; exact H) | exact H
   have Ny112 := aM hy112
   clear hy112
   by_cases c7 : y112.length + ((rd_T60 l0 x8_1).f2).size < 140737488355328
   rotate_left
   ·rw [if_neg c7] at H
    exact absurd H (by simp)
   rw [if_pos c7] at H
   have LMc7 := aM c7
   clear c7
   obtain ⟨y115, hy115⟩ : ∃ y_ : List Int, y_ = (y112 ++ bytesOf ((rd_T60 l0 x8_1).f2)) := ⟨_, rfl⟩
   replace H : (impl_dropped.l0 k1 y115 l0 (l0.length : Int) (wrap64 (x8_1 + 1))) = some r := by first | (rw [hy115]; with_reducible exact H) | (have H2_ := (Option.bind_some _ _).symm.trans H; rw [hy115]; with_reducible exact H2_) | (have H2_ := (Option.bind_some _ _).symm.trans H; with_reducible exact H2_) | with_reducible exact H | (rw [hy115]; exact H) | exact H
   have Ny115 := aM hy115
   clear hy115
   have H' := aM H
   clear H
   have p110 : 0 ≤ (x8_1 : Int) := of_decide_eq_true (by assumption)
   have q110 : x8_1 < (l0.length : Int) := of_decide_eq_true (by assumption)
   obtain ⟨ad110, e110, hx110_0, hx110_1, hx110_2⟩ := at_T60 HR0.out x8_1 p110 q110
   cases e110
   replace hx110_0 := hC HB.out hx110_0
   replace hx110_1 := hC HB.out hx110_1
   replace hx110_2 := hC HB.out hx110_2
   replace p110 := eq_true p110
   replace q110 := eq_true q110
   go_wp2_with (first | ((with_reducible refine gate_dst (N := 5) rfl ?_); refine box_event ?hg (N := 5) ?hd (cs := #[.int .i64 0, .string (⟨#[]⟩ : ByteArray), .string (⟨#[]⟩ : ByteArray)]) (t := 60) ?hr ?_; (case hd => rfl); (case hg => rfl); (case hr => exact aP21); intro gb111 hg w8 hbox hb; have BK111 := aM (hbox); have GW111 := aM (bG (w := w) hg); have GE111 := aM (bG (w := w) hg); replace HO_3 := aM (Kd.R_below (rR HO_3.out) hb); replace HB := aM (below_step bB hb); clear hb hbox hg; obtain ⟨hcz9_0, hcz9_1, hcz9_2, hfz9_0, hfz9_1, hfz9_2⟩ := bx3 BK111.out) | (at_builtin; refine Kd.R_append_zeros (Kd.int .u8) (w0 := w) w.heap.size rfl (.tmp 12) (.tmp 14) 44 3 5 (.int .u8 0) 1 rfl Try.underlying44 Try.underlying3 info5 rfl (by decide) (by omega) u3 x3_1 0 ((rd_T60 l0 x8_1).f0 : Int) (fun _ => True) rfl rfl rfl ?aF ?aO (of_decide_eq_true (by assumption)) ?aB ?aS ?aL ?_; (case aB => exact aP12); (case aF => exact (fun _ _ => trivial)); (case aO => exact (by (with_reducible repeat (first | apply Kd.R_alloc | apply Kd.R_drewN | apply Kd.R_drew)); exact Kd.R_mono (Kd.R_far (p := ⟨gb111, 2, none⟩) (Kd.R_far (p := ⟨gb111, 1, none⟩) (Kd.R_far (p := ⟨gb111, 0, none⟩) (Kd.R_types HO_3.out BK111.out (by decide)) (fun _ hk => hk.2) (.int .i64 ((rd_T60 l0 x8_1).f0))) (fun _ hk => hk.2) (.string ((rd_T60 l0 x8_1).f1))) (fun _ hk => hk.2) (.string ((rd_T60 l0 x8_1).f2))) (fun _ hk => trivial))); (case aS => exact (below_size aP12)); (case aL => have := LMc6.out; omega); intro v113 w10 ho hb hg hat; rw [← Ny112.out] at ho; have n0_ := aM (blk_grown (g := gb111) (o := .cells #[.int .i64 ((rd_T60 l0 x8_1).f0), .string ((rd_T60 l0 x8_1).f1), .string ((rd_T60 l0 x8_1).f2)] 60 (0, 0)) (by (with_reducible repeat (first | refine blk_drewN ?_ _ | refine blk_drew ?_ | refine blk_alloc ?_ _)); refine blk_put (cs := #[.int .i64 ((rd_T60 l0 x8_1).f0), .string ((rd_T60 l0 x8_1).f1), .string (⟨#[]⟩ : ByteArray)]) ?_ 2 _ rfl; (with_reducible repeat (first | refine blk_drewN ?_ _ | refine blk_drew ?_ | refine blk_alloc ?_ _)); refine blk_put (cs := #[.int .i64 ((rd_T60 l0 x8_1).f0), .string (⟨#[]⟩ : ByteArray), .string (⟨#[]⟩ : ByteArray)]) ?_ 1 _ rfl; (with_reducible repeat (first | refine blk_drewN ?_ _ | refine blk_drew ?_ | refine blk_alloc ?_ _)); refine blk_put (cs := #[.int .i64 0, .string (⟨#[]⟩ : ByteArray), .string (⟨#[]⟩ : ByteArray)]) ?_ 0 _ rfl; exact kK BK111.out) hg (Kd.R_ne HO_3.out BK111.out (by decide))); have n1_ := aM (hb); have n2_ := aM (ho); clear BK111; clear HB; clear HO_3; have BK111 := n0_; have HB := n1_; have HO114 := n2_; clear n0_ n1_ n2_; clear ho hb hg hat; obtain ⟨hcz11_0, hcz11_1, hcz11_2, hfz11_0, hfz11_1, hfz11_2⟩ := bx3 BK111.out) | (at_builtin; refine print_append_str (w0 := w) w.heap.size rfl (.tmp 16) _ 44 9 5 rfl Try.underlying44 Try.underlying9 info5 v113 y112 ((rd_T60 l0 x8_1).f2) rfl rfl ?aO ?aB ?aS ?aL ?_; (case aB => exact aP12); (case aO => exact (Kd.own_of_R (rR HO114.out))); (case aS => exact (below_size aP12)); (case aL => have := LMc7.out; omega); intro v116 w12 ho0 hb hg; have ho := Kd.R_of_own (h1 := fun _ => rfl) (ok := fun _ => True) ho0 (fun _ _ => trivial); clear ho0; have hat := True.intro; rw [← Ny115.out] at ho; change Kd.R (Kd.int .u8) 5 w12 w.heap.size (fun _ => True) v116 y115 at ho; have HO117 := aM (ho); replace BK111 := aM (blk_grown (g := gb111) (o := .cells #[.int .i64 ((rd_T60 l0 x8_1).f0), .string ((rd_T60 l0 x8_1).f1), .string ((rd_T60 l0 x8_1).f2)] 60 (0, 0)) (kK BK111.out) hg (Kd.R_ne HO114.out BK111.out (by decide))); replace HB := aM (hb); clear ho hb hg hat))
   go_roundg k1
   case measure => have := HK1.out; omega
   case rel => exact ⟨(y115), (wrap64 (x8_1 + 1)), aP16, H', ⟨by have := HK1.out; omega⟩, ⟨rR HO117.out⟩, ⟨aP12⟩⟩
mutual
def impl_SameTexts.j0 : Nat → List (S60) → List (S60) → Bool → Option (Bool × Bool)
 | 0, _, _, _ => none
 | k + 1, x0, x1, x17 => if x17 = true then (some (false, false)) else ((impl_dropped.f k x0).bind fun t120 => ((impl_dropped.f k x1).bind fun t123 => (if (t120.length : Int) = (t123.length : Int) then (impl_SameTexts.l0 k t123 t120 (t120.length : Int) 0) else (some (false, false)))))
def impl_SameTexts.l0 : Nat → List Int → List Int → Int → Int → Option (Bool × Bool)
 | 0, _, _, _, _ => none
 | k + 1, x7, x27, x28, x29 => if x29 < x28 then (if 0 ≤ x29 then (if x29 < (x27.length : Int) then (if (rd x27 x29) = 0 then (impl_SameTexts.l0 k x7 x27 x28 (wrap64 (x29 + 1))) else (if x29 < (x7.length : Int) then (if (rd x7 x29) = 0 then (impl_SameTexts.l0 k x7 x27 x28 (wrap64 (x29 + 1))) else (if (rd x27 x29) = (rd x7 x29) then (impl_SameTexts.l0 k x7 x27 x28 (wrap64 (x29 + 1))) else (some (false, true)))) else (none))) else (none)) else (none)) else (some (true, true))
end
def impl_SameTexts.f (k : Nat) (l0 : List (S60)) (l1 : List (S60)) : Option (Bool × Bool) := (impl_GoodOp.f k l0).bind fun t118 => (if t118 = true then ((impl_GoodOp.f k l1).bind fun t119 => (impl_SameTexts.j0 k l0 l1 (!t119))) else (impl_SameTexts.j0 k l0 l1 true))
theorem impl_SameTexts.mono_l : ∀ k, (∀ y0 y1 y2, LeO (impl_SameTexts.j0 k y0 y1 y2) (impl_SameTexts.j0 (k + 1) y0 y1 y2)) ∧ (∀ y0 y1 y2 y3, LeO (impl_SameTexts.l0 k y0 y1 y2 y3) (impl_SameTexts.l0 (k + 1) y0 y1 y2 y3))
 | 0 => ⟨fun _ _ _ r h => by simp [impl_SameTexts.j0] at h, fun _ _ _ _ r h => by simp [impl_SameTexts.l0] at h⟩
 | k + 1 => by
  obtain ⟨ih0, ih1⟩ := impl_SameTexts.mono_l k
  refine ⟨?_, ?_⟩
  ·intro y0 y1 y2
   unfold impl_SameTexts.j0
   repeat' (with_reducible first | exact ih0 _ _ _ | exact ih1 _ _ _ _ | exact impl_GoodOp.mono _ _ | exact impl_dropped.mono _ _ | exact LeO.refl _ | exact LeO.none _ | refine LeO.ite ?_ ?_ | refine LeO.bind ?_ (fun _ => ?_))
  ·intro y0 y1 y2 y3
   unfold impl_SameTexts.l0
   repeat' (with_reducible first | exact ih0 _ _ _ | exact ih1 _ _ _ _ | exact impl_GoodOp.mono _ _ | exact impl_dropped.mono _ _ | exact LeO.refl _ | exact LeO.none _ | refine LeO.ite ?_ ?_ | refine LeO.bind ?_ (fun _ => ?_))
theorem impl_SameTexts.mono : ∀ a0 a1 k, LeO (impl_SameTexts.f k a0 a1) (impl_SameTexts.f (k + 1) a0 a1) := by
 intro a0 a1 k
 obtain ⟨ih0, ih1⟩ := impl_SameTexts.mono_l k
 unfold impl_SameTexts.f
 repeat' (with_reducible first | exact ih0 _ _ _ | exact ih1 _ _ _ _ | exact impl_GoodOp.mono _ _ | exact impl_dropped.mono _ _ | exact LeO.refl _ | exact LeO.none _ | refine LeO.ite ?_ ?_ | refine LeO.bind ?_ (fun _ => ?_))
set_option maxHeartbeats 8000000 in
set_option maxRecDepth 100000 in
theorem impl_SameTexts.calls (k : Nat) (A0 : Option Addr) (c0 : Nat) (l0 : List (S60)) (A1 : Option Addr) (c1 : Nat) (l1 : List (S60)) (r1 : Bool) (r2 : Bool) (w : World) (hr0 : Kd.C k60 w A0 l0.length l0) (hc0 : l0.length ≤ c0) (hr1 : Kd.C k60 w A1 l1.length l1) (hc1 : l1.length ≤ c1) (h : impl_SameTexts.f k l0 l1 = some (r1, r2)) :
  Calls Try.prog 12 #[.slice A0 l0.length c0, .slice A1 l1.length c1] w fun e w' => e = .returned (.tuple #[.bool r1, .bool r2]) ∧ Below w.heap.size w w' := by
 have HR0 := aM hr0
 have HC0 := aM hc0
 clear hr0 hc0
 have HR1 := aM hr1
 have HC1 := aM hc1
 clear hr1 hc1
 have HB := aM (Below.refl w.heap.size w)
 have H : ((impl_GoodOp.f k l0).bind fun t118 => (if t118 = true then ((impl_GoodOp.f k l1).bind fun t119 => (impl_SameTexts.j0 k l0 l1 (!t119))) else (impl_SameTexts.j0 k l0 l1 true))) = some (r1, r2) := h
 clear h
 have HC3 := aM H
 clear H
 go_enter Try.func12, Try.ntmps12
 go_upto_region 1 with (fail)
 go_cut [17] (fun v17 wc => ∃ (kq : Nat) (x17_2 : Bool), v17 = .bool x17_2 ∧ Aside0 (impl_SameTexts.j0 kq l0 l1 x17_2 = some (r1, r2)) ∧ Aside0 (kq ≤ k) ∧ Aside0 (Below w.heap.size w wc))
 case first =>
  have H := HC3.out
  clear HC3
  replace H := Option.bind_eq_some_iff.mp H
  obtain ⟨t118, A40, H⟩ := H
  replace H : (if t118 = true then ((impl_GoodOp.f k l1).bind fun t119 => (impl_SameTexts.j0 k l0 l1 (!t119))) else (impl_SameTexts.j0 k l0 l1 true)) = some (r1, r2) := H
  have A4 := aM A40
  clear A40
  by_cases c5 : t118 = true
  rotate_left
  ·replace c5 := Bool.eq_false_iff.mpr c5
   subst c5
   replace H : (impl_SameTexts.j0 k l0 l1 true) = some (r1, r2) := by rw [if_neg (show ¬ (false = true) by decide)] at H; exact H
   have H' := aM H
   clear H
   go_wp2_with (first | ((with_reducible refine gate_callee (f := 37) rfl ?_); refine goesL_ (some 11) rfl rfl Try.func37 (by kernel_rfl) rfl #[.slice A0 l0.length c0] rfl mM ?_; (with_reducible refine (impl_GoodOp.calls k _ _ l0 false _ ?side1 ?side2 A4.out).mono ?_); (case side1 => exact cC (Kd.C_below HR0.out HB.out)); (case side2 => exact HC0.out); rintro e w9 ⟨rfl, hb⟩; refine ⟨_, rfl, ?_⟩; replace HB := aM (below_step bB hb); (try clear hb); (try clear hb2); (try clear hk); (try clear hi)))
   go_meet
   case rel => exact ⟨_, (true), aP16, H', ⟨by first | omega | exact Nat.le_refl _⟩, ⟨bB⟩⟩
  subst c5
  replace H : ((impl_GoodOp.f k l1).bind fun t119 => (impl_SameTexts.j0 k l0 l1 (!t119))) = some (r1, r2) := by rw [if_pos rfl] at H; exact H
  replace H := Option.bind_eq_some_iff.mp H
  obtain ⟨t119, A60, H⟩ := H
  replace H : (impl_SameTexts.j0 k l0 l1 (!t119)) = some (r1, r2) := H
  have A6 := aM A60
  clear A60
  have H' := aM H
  clear H
  go_wp2_with (first | ((with_reducible refine gate_callee (f := 37) rfl ?_); refine goesL_ (some 11) rfl rfl Try.func37 (by kernel_rfl) rfl #[.slice A0 l0.length c0] rfl mM ?_; (with_reducible refine (impl_GoodOp.calls k _ _ l0 true _ ?side1 ?side2 A4.out).mono ?_); (case side1 => exact cC (Kd.C_below HR0.out HB.out)); (case side2 => exact HC0.out); rintro e w7 ⟨rfl, hb⟩; refine ⟨_, rfl, ?_⟩; replace HB := aM (below_step bB hb); (try clear hb); (try clear hb2); (try clear hk); (try clear hi)) | (go_at_call 37; (with_reducible refine (impl_GoodOp.calls k _ _ l1 t119 _ ?side1 ?side2 A6.out).mono ?_); (case side1 => exact cC (Kd.C_below HR1.out HB.out)); (case side2 => exact HC1.out); rintro e w8 ⟨rfl, hb⟩; replace HB := aM (below_step bB hb); (try clear hb); (try clear hb2); (try clear hk); (try clear hi)))
  go_meet
  case rel => exact ⟨_, (!t119), aP16, H', ⟨by first | omega | exact Nat.le_refl _⟩, ⟨bB⟩⟩
 case rest =>
  clear HC3
  try clear c1
  try clear p2
  try clear c3
  try clear c5
  obtain ⟨kq, x17_2, rfl, HA, HJ2, HB⟩ := hcut
  cases kq with
  | zero => exact absurd HA.out (by simp [impl_SameTexts.j0])
  | succ kj2 =>
   have H := HA.out
   clear HA
   simp only [impl_SameTexts.j0] at H
   by_cases c10 : x17_2 = true
   ·subst c10
    replace H : (some (false, false)) = some (r1, r2) := by rw [if_pos rfl] at H; exact H
    simp only [Option.some.injEq, Prod.mk.injEq] at H
    obtain ⟨rfl, rfl⟩ := H
    go_wp2
    go_ret2
    exact ⟨eR, bB⟩
   replace c10 := Bool.eq_false_iff.mpr c10
   subst c10
   replace H : ((impl_dropped.f kj2 l0).bind fun t120 => ((impl_dropped.f kj2 l1).bind fun t123 => (if (t120.length : Int) = (t123.length : Int) then (impl_SameTexts.l0 kj2 t123 t120 (t120.length : Int) 0) else (some (false, false))))) = some (r1, r2) := by rw [if_neg (show ¬ (false = true) by decide)] at H; exact H
   replace H := Option.bind_eq_some_iff.mp H
   obtain ⟨t120, A110, H⟩ := H
   replace H : ((impl_dropped.f kj2 l1).bind fun t123 => (if (t120.length : Int) = (t123.length : Int) then (impl_SameTexts.l0 kj2 t123 t120 (t120.length : Int) 0) else (some (false, false)))) = some (r1, r2) := H
   have A11 := aM A110
   clear A110
   replace H := Option.bind_eq_some_iff.mp H
   obtain ⟨t123, A120, H⟩ := H
   replace H : (if (t120.length : Int) = (t123.length : Int) then (impl_SameTexts.l0 kj2 t123 t120 (t120.length : Int) 0) else (some (false, false))) = some (r1, r2) := H
   have A12 := aM A120
   clear A120
   by_cases c13 : (t120.length : Int) = (t123.length : Int)
   rotate_left
   ·rw [if_neg c13] at H
    have c13b0 : ((t120.length : Int) == (t123.length : Int)) = false := beq_eq_false_iff_ne.mpr c13
    have c13b1 : ((t120.length : Int) != (t123.length : Int)) = true := bne_iff_ne.mpr c13
    have c13b2 : (t120.length == t123.length) = false := by first | simpa using c13 | (simp at c13 ⊢; omega)
    simp only [Option.some.injEq, Prod.mk.injEq] at H
    obtain ⟨rfl, rfl⟩ := H
    go_wp2_with (first | ((with_reducible refine gate_callee (f := 38) rfl ?_); refine goesL_ (some 19) rfl rfl Try.func38 (by kernel_rfl) rfl #[.slice A0 l0.length c0] rfl mM ?_; (with_reducible refine (impl_dropped.calls kj2 _ _ l0 t120 _ ?side1 ?side2 A11.out).mono ?_); (case side1 => exact cC (Kd.C_below HR0.out HB.out)); (case side2 => exact HC0.out); rintro e w25 ⟨v121, rfl, ho0, hb⟩; refine ⟨_, rfl, ?_⟩; have HO122 := aM (Kd.R_lower ho0 (below_size bB)); replace HB := aM (below_step bB hb); (try clear hb); (try clear hb2); (try clear hk); (try clear hi); (try clear ho0)) | ((with_reducible refine gate_callee (f := 38) rfl ?_); refine goesL_ (some 21) rfl rfl Try.func38 (by kernel_rfl) rfl #[.slice A1 l1.length c1] rfl mM ?_; (with_reducible refine (impl_dropped.calls kj2 _ _ l1 t123 _ ?side1 ?side2 A12.out).mono ?_); (case side1 => exact cC (Kd.C_below HR1.out HB.out)); (case side2 => exact HC1.out); rintro e w26 ⟨v124, rfl, ho0, hb⟩; refine ⟨_, rfl, ?_⟩; have HO125 := aM (Kd.R_lower (Kd.R_new' ho0 (Kd.R_lt (rR HO122.out))) (below_size bB)); replace HO122 := aM (Kd.R_elder' (rR HO122.out) (Kd.R_base ho0) hb); replace HB := aM (below_step bB hb); (try clear hb); (try clear hb2); (try clear hk); (try clear hi); (try clear ho0); obtain ⟨Ao27, co27, eo27⟩ := Kd.R_slice HO122.out; subst eo27; obtain ⟨Ao28, co28, eo28⟩ := Kd.R_slice HO125.out; subst eo28))
    go_ret2
    exact ⟨eR, bB⟩
   rw [if_pos c13] at H
   have c13b0 : ((t120.length : Int) == (t123.length : Int)) = true := beq_iff_eq.mpr c13
   have c13b1 : ((t120.length : Int) != (t123.length : Int)) = false := bne_eq_false_iff_eq.mpr c13
   have c13b2 : (t120.length == t123.length) = true := by first | simpa using c13 | (simp at c13 ⊢; omega)
   clear c13
   have H' := aM H
   clear H
   go_wp2_with (first | ((with_reducible refine gate_callee (f := 38) rfl ?_); refine goesL_ (some 19) rfl rfl Try.func38 (by kernel_rfl) rfl #[.slice A0 l0.length c0] rfl mM ?_; (with_reducible refine (impl_dropped.calls kj2 _ _ l0 t120 _ ?side1 ?side2 A11.out).mono ?_); (case side1 => exact cC (Kd.C_below HR0.out HB.out)); (case side2 => exact HC0.out); rintro e w14 ⟨v121, rfl, ho0, hb⟩; refine ⟨_, rfl, ?_⟩; have HO122 := aM (Kd.R_lower ho0 (below_size bB)); replace HB := aM (below_step bB hb); (try clear hb); (try clear hb2); (try clear hk); (try clear hi); (try clear ho0)) | ((with_reducible refine gate_callee (f := 38) rfl ?_); refine goesL_ (some 21) rfl rfl Try.func38 (by kernel_rfl) rfl #[.slice A1 l1.length c1] rfl mM ?_; (with_reducible refine (impl_dropped.calls kj2 _ _ l1 t123 _ ?side1 ?side2 A12.out).mono ?_); (case side1 => exact cC (Kd.C_below HR1.out HB.out)); (case side2 => exact HC1.out); rintro e w15 ⟨v124, rfl, ho0, hb⟩; refine ⟨_, rfl, ?_⟩; have HO125 := aM (Kd.R_lower (Kd.R_new' ho0 (Kd.R_lt (rR HO122.out))) (below_size bB)); replace HO122 := aM (Kd.R_elder' (rR HO122.out) (Kd.R_base ho0) hb); replace HB := aM (below_step bB hb); (try clear hb); (try clear hb2); (try clear hk); (try clear hi); (try clear ho0); obtain ⟨Ao16, co16, eo16⟩ := Kd.R_slice HO122.out; subst eo16; obtain ⟨Ao17, co17, eo17⟩ := Kd.R_slice HO125.out; subst eo17))
   go_loopg [29] kj2 (fun kq v29 w' => ∃ (x29_2 : Int), v29 = .int .i64 x29_2 ∧ Aside0 (impl_SameTexts.l0 kq t123 t120 (t120.length : Int) x29_2 = some (r1, r2)) ∧ Aside0 (kq ≤ kj2) ∧ Aside0 (Kd.R (Kd.int .u8) 5 w' w.heap.size (fun k_ => some k_ ≠ ((.slice Ao16 t120.length co16) : Value).ownBlock) (.slice Ao17 t123.length co17) t123) ∧ Aside0 (Kd.R (Kd.int .u8) 5 w' w.heap.size (fun k_ => some k_ ≠ ((.slice Ao17 t123.length co17) : Value).ownBlock) (.slice Ao16 t120.length co16) t120) ∧ Aside0 (Below w.heap.size w w'))
   case atStart => exact ⟨(0), aP16, H', ⟨Nat.le_refl _⟩, ⟨by (with_reducible repeat (first | apply Kd.R_alloc | apply Kd.R_drewN | apply Kd.R_drew)); exact Kd.R_mono HO125.out (fun _ hk => hk.2)⟩, ⟨by (with_reducible repeat (first | apply Kd.R_alloc | apply Kd.R_drewN | apply Kd.R_drew)); exact Kd.R_mono HO122.out (fun _ hk => hk.2)⟩, ⟨bB⟩⟩
   case round =>
    clear H'
    try clear c1
    try clear p2
    try clear c3
    try clear c5
    try clear c10
    try clear c12
    try clear c13
    try clear c13b0
    try clear c13b1
    try clear c13b2
    try clear p2
    obtain ⟨x29_2, rfl, HA, HK2, HO_7, HO_27, HB⟩ := hrel
    cases gk with
    | zero => exact absurd HA.out (by simp [impl_SameTexts.l0])
    | succ k2 =>
     have H := HA.out
     clear HA
     simp only [impl_SameTexts.l0] at H
     by_cases c18 : x29_2 < (t120.length : Int)
     rotate_left
     ·rw [if_neg c18] at H
      have c18b0 : decide (x29_2 < (t120.length : Int)) = false := decide_eq_false c18
      clear c18
      simp only [Option.some.injEq, Prod.mk.injEq] at H
      obtain ⟨rfl, rfl⟩ := H
      go_wp2
      go_ret2
      exact ⟨eR, bB⟩
     rw [if_pos c18] at H
     have c18b0 : decide (x29_2 < (t120.length : Int)) = true := decide_eq_true c18
     clear c18
     by_cases c19 : 0 ≤ x29_2
     rotate_left
     ·rw [if_neg c19] at H
      exact absurd H (by simp)
     rw [if_pos c19] at H
     have c19b0 : decide (0 ≤ x29_2) = true := decide_eq_true c19
     clear c19
     by_cases c20 : x29_2 < (t120.length : Int)
     rotate_left
     ·rw [if_neg c20] at H
      exact absurd H (by simp)
     rw [if_pos c20] at H
     have c20b0 : decide (x29_2 < (t120.length : Int)) = true := decide_eq_true c20
     clear c20
     by_cases c21 : (rd t120 x29_2) = 0
     ·rw [if_pos c21] at H
      have c21b0 : ((rd t120 x29_2) == 0) = true := beq_iff_eq.mpr c21
      have c21b1 : ((rd t120 x29_2) != 0) = false := bne_eq_false_iff_eq.mpr c21
      clear c21
      have H' := aM H
      clear H
      have p126 : 0 ≤ (x29_2 : Int) := of_decide_eq_true (by assumption)
      have q126 : x29_2 < (t120.length : Int) := of_decide_eq_true (by assumption)
      obtain ⟨ad126, e126, hx126_0⟩ := Kd.at_int (Kd.R_reads' HO_27.out).2.2 x29_2 p126 q126
      cases e126
      replace p126 := eq_true p126
      replace q126 := eq_true q126
      go_wp2
      go_roundg k2
      case measure => have := HJ2.out; have := HK2.out; omega
      case rel => exact ⟨(wrap64 (x29_2 + 1)), aP16, H', ⟨by have := HJ2.out; have := HK2.out; omega⟩, ⟨rR HO_7.out⟩, ⟨rR HO_27.out⟩, ⟨bB⟩⟩
     rw [if_neg c21] at H
     have c21b0 : ((rd t120 x29_2) == 0) = false := beq_eq_false_iff_ne.mpr c21
     have c21b1 : ((rd t120 x29_2) != 0) = true := bne_iff_ne.mpr c21
     by_cases c22 : x29_2 < (t123.length : Int)
     rotate_left
     ·rw [if_neg c22] at H
      exact absurd H (by simp)
     rw [if_pos c22] at H
     have c22b0 : decide (x29_2 < (t123.length : Int)) = true := decide_eq_true c22
     clear c22
     by_cases c23 : (rd t123 x29_2) = 0
     ·rw [if_pos c23] at H
      have c23b0 : ((rd t123 x29_2) == 0) = true := beq_iff_eq.mpr c23
      have c23b1 : ((rd t123 x29_2) != 0) = false := bne_eq_false_iff_eq.mpr c23
      clear c23
      have H' := aM H
      clear H
      have p126 : 0 ≤ (x29_2 : Int) := of_decide_eq_true (by assumption)
      have q126 : x29_2 < (t120.length : Int) := of_decide_eq_true (by assumption)
      obtain ⟨ad126, e126, hx126_0⟩ := Kd.at_int (Kd.R_reads' HO_27.out).2.2 x29_2 p126 q126
      cases e126
      replace p126 := eq_true p126
      replace q126 := eq_true q126
      have p127 : 0 ≤ (x29_2 : Int) := of_decide_eq_true (by assumption)
      have q127 : x29_2 < (t123.length : Int) := of_decide_eq_true (by assumption)
      obtain ⟨ad127, e127, hx127_0⟩ := Kd.at_int (Kd.R_reads' HO_7.out).2.2 x29_2 p127 q127
      cases e127
      replace p127 := eq_true p127
      replace q127 := eq_true q127
      go_wp2
      go_roundg k2
      case measure => have := HJ2.out; have := HK2.out; omega
      case rel => exact ⟨(wrap64 (x29_2 + 1)), aP16, H', ⟨by have := HJ2.out; have := HK2.out; omega⟩, ⟨rR HO_7.out⟩, ⟨rR HO_27.out⟩, ⟨bB⟩⟩
     rw [if_neg c23] at H
     have c23b0 : ((rd t123 x29_2) == 0) = false := beq_eq_false_iff_ne.mpr c23
     have c23b1 : ((rd t123 x29_2) != 0) = true := bne_iff_ne.mpr c23
     by_cases c24 : (rd t120 x29_2) = (rd t123 x29_2)
     rotate_left
     ·rw [if_neg c24] at H
      have c24b0 : ((rd t120 x29_2) == (rd t123 x29_2)) = false := beq_eq_false_iff_ne.mpr c24
      have c24b1 : ((rd t120 x29_2) != (rd t123 x29_2)) = true := bne_iff_ne.mpr c24
      simp only [Option.some.injEq, Prod.mk.injEq] at H
      obtain ⟨rfl, rfl⟩ := H
      have p126 : 0 ≤ (x29_2 : Int) := of_decide_eq_true (by assumption)
      have q126 : x29_2 < (t120.length : Int) := of_decide_eq_true (by assumption)
      obtain ⟨ad126, e126, hx126_0⟩ := Kd.at_int (Kd.R_reads' HO_27.out).2.2 x29_2 p126 q126
      cases e126
      replace p126 := eq_true p126
      replace q126 := eq_true q126
      have p127 : 0 ≤ (x29_2 : Int) := of_decide_eq_true (by assumption)
      have q127 : x29_2 < (t123.length : Int) := of_decide_eq_true (by assumption)
      obtain ⟨ad127, e127, hx127_0⟩ := Kd.at_int (Kd.R_reads' HO_7.out).2.2 x29_2 p127 q127
      cases e127
      replace p127 := eq_true p127
      replace q127 := eq_true q127
      have p128 : 0 ≤ (x29_2 : Int) := of_decide_eq_true (by assumption)
      have q128 : x29_2 < (t123.length : Int) := of_decide_eq_true (by assumption)
      obtain ⟨ad128, e128, hx128_0⟩ := Kd.at_int (Kd.R_reads' HO_7.out).2.2 x29_2 p128 q128
      (first | obtain rfl : ad127 = ad128 := (by injection e128) | cases e128)
      replace p128 := eq_true p128
      replace q128 := eq_true q128
      go_wp2
      go_ret2
      exact ⟨eR, bB⟩
     rw [if_pos c24] at H
     have c24b0 : ((rd t120 x29_2) == (rd t123 x29_2)) = true := beq_iff_eq.mpr c24
     have c24b1 : ((rd t120 x29_2) != (rd t123 x29_2)) = false := bne_eq_false_iff_eq.mpr c24
     clear c24
     have H' := aM H
     clear H
     have p126 : 0 ≤ (x29_2 : Int) := of_decide_eq_true (by assumption)
     have q126 : x29_2 < (t120.length : Int) := of_decide_eq_true (by assumption)
     obtain ⟨ad126, e126, hx126_0⟩ := Kd.at_int (Kd.R_reads' HO_27.out).2.2 x29_2 p126 q126
     cases e126
     replace p126 := eq_true p126
     replace q126 := eq_true q126
     have p127 : 0 ≤ (x29_2 : Int) := of_decide_eq_true (by assumption)
     have q127 : x29_2 < (t123.length : Int) := of_decide_eq_true (by assumption)
     obtain ⟨ad127, e127, hx127_0⟩ := Kd.at_int (Kd.R_reads' HO_7.out).2.2 x29_2 p127 q127
     cases e127
     replace p127 := eq_true p127
     replace q127 := eq_true q127
     have p128 : 0 ≤ (x29_2 : Int) := of_decide_eq_true (by assumption)
     have q128 : x29_2 < (t123.length : Int) := of_decide_eq_true (by assumption)
     obtain ⟨ad128, e128, hx128_0⟩ := Kd.at_int (Kd.R_reads' HO_7.out).2.2 x29_2 p128 q128
     (first | obtain rfl : ad127 = ad128 := (by injection e128) | cases e128)
     replace p128 := eq_true p128
     replace q128 := eq_true q128
     go_wp2
     go_roundg k2
     case measure => have := HJ2.out; have := HK2.out; omega
     case rel => exact ⟨(wrap64 (x29_2 + 1)), aP16, H', ⟨by have := HJ2.out; have := HK2.out; omega⟩, ⟨rR HO_7.out⟩, ⟨rR HO_27.out⟩, ⟨bB⟩⟩
-- import Mk
section
open Go.Proofs.Ytoagljlnfakgjaa.Mk
def toP (x : S60) : Pt := (x.f0, x.f1, x.f2)
def ofP (p : Pt) : S60 := ⟨p.1, p.2.1, p.2.2⟩
def takeP (s : List Pt × ByteArray × ByteArray) (p : Pt) : List Pt × ByteArray × ByteArray := ((keepS s.1 s.2.1 s.2.2 p.1).1, (keepS s.1 s.2.1 s.2.2 p.1).2.1 ++ p.2.1, (keepS s.1 s.2.1 s.2.2 p.1).2.2 ++ p.2.2)
def normP (l : List Pt) : List Pt := (l.foldl takeP ([], ⟨#[]⟩, ⟨#[]⟩)).1 ++ endL (l.foldl takeP ([], ⟨#[]⟩, ⟨#[]⟩)).2.1 (l.foldl takeP ([], ⟨#[]⟩, ⟨#[]⟩)).2.2
theorem R_of_cells {w : World} {base : Nat} {v : Value} {l : List Pt} (h : w.ownsRow base 60 3 v l.length (cellsP l)) :
  Kd.R k60 60 w base (fun _ => True) v (l.map ofP) := by
 refine ⟨fun _ _ => trivial, cellsP l, by rw [List.length_map]; exact h, ?_⟩
 clear h
 induction l with
 | nil => exact Reps.none _ _
 | cons p r ih =>
  have h1 := Reps.snoc (R := k60.M w base fun k => (fun x => True) k ∧ some k ≠ v.ownBlock) (Reps.none _ 3) (k60_mkM w base _ (ofP p)) rfl
  exact Kd.reps_append h1 ih
def impl_normal.f (l0 : List S60) : Option (List S60) :=
 if l0.length ≤ 60 ∧ (l0.all fun x => decide (x.f1.size ≤ 300 ∧ x.f2.size ≤ 300)) = true then some ((normP (l0.map toP)).map ofP) else none
def stN (l : List S60) (i : Nat) : List Pt × ByteArray × ByteArray := ((l.take i).map toP).foldl takeP ([], ⟨#[]⟩, ⟨#[]⟩)
theorem stN_succ (l : List S60) (i : Nat) (h : i < l.length) : stN l (i + 1) = takeP (stN l i) (toP l[i]) := by
 unfold stN; rw [List.take_succ_eq_append_getElem h, List.map_append, List.foldl_append]; rfl
theorem keepS_len (l : List Pt) (a b : ByteArray) (x : Int) : (keepS l a b x).1.length ≤ l.length + 3 := by
 have he : (endL a b).length ≤ 2 := by unfold endL; rw [List.length_append]; split <;> split <;> simp
 unfold keepS; split
 ·show l.length ≤ _; omega
 show (keepA (l ++ endL a b) x).length ≤ _
 unfold keepA
 split
 rotate_left
 ·simp
 split
 rotate_left
 ·rw [List.length_append, List.length_append]; simp; omega
 rw [List.length_append, List.length_dropLast, List.length_append]; simp; omega
theorem keepS_put (l : List Pt) (a b : ByteArray) (x : Int) : (keepS l a b x).2.1.size ≤ a.size ∧ (keepS l a b x).2.2.size ≤ b.size := by
 unfold keepS; split
 ·exact ⟨Nat.le_refl _, Nat.le_refl _⟩
 exact ⟨Nat.zero_le _, Nat.zero_le _⟩
theorem stN_bound (l : List S60) (hs : ∀ x ∈ l, x.f1.size ≤ 300 ∧ x.f2.size ≤ 300) : ∀ i, i ≤ l.length → (stN l i).1.length ≤ 3 * i ∧ (stN l i).2.1.size ≤ 300 * i ∧ (stN l i).2.2.size ≤ 300 * i
 | 0, _ => ⟨Nat.le_refl _, Nat.le_refl _, Nat.le_refl _⟩
 | i + 1, h => by
  obtain ⟨h1, h2, h3⟩ := stN_bound l hs i (by omega)
  have hx := hs _ (List.getElem_mem (show i < l.length by omega))
  rw [stN_succ l i (by omega)]
  have k1 := keepS_len (stN l i).1 (stN l i).2.1 (stN l i).2.2 (l[i]'(by omega)).f0
  have k2 := keepS_put (stN l i).1 (stN l i).2.1 (stN l i).2.2 (l[i]'(by omega)).f0
  refine ⟨Nat.le_trans k1 (by omega), ?_, ?_⟩
  ·show ((keepS (stN l i).1 (stN l i).2.1 (stN l i).2.2 (l[i]'(by omega)).f0).2.1 ++ (l[i]'(by omega)).f1).size ≤ _
   rw [ByteArray.size_append]; have := k2.1; have := hx.1; omega
  ·show ((keepS (stN l i).1 (stN l i).2.1 (stN l i).2.2 (l[i]'(by omega)).f0).2.2 ++ (l[i]'(by omega)).f2).size ≤ _
   rw [ByteArray.size_append]; have := k2.2; have := hx.2; omega
theorem far_set {w0 w : World} {base g b i : Nat} {l : List Pt} {put drop : ByteArray} {v : Value} (h : IsMk w0 w base g l put drop v) (hb : base ≤ b) (hne : g ≠ b) (hv : v.ownBlock ≠ some b) (u : Value) : IsMk w0 (w.setCell ⟨b, i, none⟩ u) base g l put drop v :=
 ⟨blk_far h.blk hne u, own_set h.own hv i u, h.far, h.bel.setCell (p := ⟨b, i, none⟩) hb u, Nat.le_trans h.siz (size_set w b i u)⟩
theorem mk_init {w w1 : World} {g : Nat} (hg : g = w.heap.size) (hb : Below w.heap.size w w1) (h : w1.heap[g]? = some (.cells #[.slice none 0 0, .string ⟨#[]⟩, .string ⟨#[]⟩] 70 (0, 0))) : IsMk w w1 w.heap.size g [] ⟨#[]⟩ ⟨#[]⟩ (.slice none 0 0) :=
 ⟨h, own_nil _ _ _ _, by simp [Value.ownBlock], hb, hb.size⟩
set_option maxHeartbeats 4000000 in
set_option maxRecDepth 100000 in
theorem impl_normal.calls (A0 : Option Addr) (c0 : Nat) (l0 : List S60) (r : List S60) (w : World) (hr0 : Kd.C k60 w A0 l0.length l0) (hc0 : l0.length ≤ c0) (h : impl_normal.f l0 = some r) :
  Calls Try.prog 43 #[.slice A0 l0.length c0] w fun e w' => ∃ v0_ : Value, e = .returned v0_ ∧ Kd.R k60 60 w' w.heap.size (fun _ => True) v0_ r ∧ Below w.heap.size w w' := by
 have hu53 := Try.underlying60
 have hu74 := Try.underlying70
 unfold impl_normal.f at h
 split at h
 rotate_left
 ·cases h
 rename_i hgd
 obtain rfl := Option.some.inj h
 have HR0 := aM hr0
 have HC0 := aM hc0
 have HG := aM hgd
 clear hr0 hc0 h hgd
 go_enter Try.func43, Try.ntmps43
 go_wp2_with (first | ((with_reducible refine gate_dst (N := 3) rfl ?_); refine box_event ?hg (N := 3) ?hd (cs := #[.slice none 0 0, .string ⟨#[]⟩, .string ⟨#[]⟩]) (t := 70) ?hr ?_; (case hd => rfl); (case hg => rfl); (case hr => exact aP21); intro gb hgb w4 hbox hb; have HI := aM (mk_init hgb hb hbox); have GB := aM hgb; clear hbox hb hgb))
 go_loopw [8] (fun v8 wr => ∃ i : Nat, v8 = .int .i64 (i : Int) ∧ Aside0 (i ≤ l0.length) ∧ ∃ v, Aside0 (IsMk w wr w.heap.size gb (stN l0 i).1 (stN l0 i).2.1 (stN l0 i).2.2 v)) (fun i _ => l0.length - (match i with | .int _ n => n.toNat | _ => 0))
 case atStart => exact ⟨0, rfl, ⟨Nat.zero_le _⟩, _, HI⟩
 case round =>
  obtain ⟨i, rfl, Hi, v, HM⟩ := hrel
  clear HI
  by_cases hlt : i < l0.length
  rotate_left
  ·have c3b0 : decide ((i : Int) < (l0.length : Int)) = false := decide_eq_false (by omega)
   have c3b1 : decide (i < l0.length) = false := decide_eq_false hlt
   have hi : i = l0.length := by have := Hi.out; omega
   have hss : ∀ x ∈ l0, x.f1.size ≤ 300 ∧ x.f2.size ≤ 300 := fun x hx => of_decide_eq_true (List.all_eq_true.1 HG.out.2 x hx)
   have hb1 : (stN l0 i).1.length ≤ 1000 := by have := (stN_bound l0 hss i Hi.out).1; have := HG.out.1; omega
   clear hss
   have HH := aM hi
   clear hi hlt
   have hmd := maker_made w.heap.size gb v (stN l0 i).1 (stN l0 i).2.1 (stN l0 i).2.2 _ _ HM.out (Nat.le_of_eq GB.out.symm) hb1
   go_wp2_with fail
   refine hmd.mono ?_
   rintro e w6 ⟨v6, rfl, h6⟩
   have HM6 := aM h6
   clear h6
   go_wp2_with fail
   go_ret
   refine ⟨_, rfl, ?_, HM6.out.bel⟩
   have hR := R_of_cells HM6.out.own
   have e : stN l0 i = (l0.map toP).foldl takeP ([], ⟨#[]⟩, ⟨#[]⟩) := by unfold stN; rw [HH.out, List.take_of_length_le (Nat.le_refl _)]
   rw [e] at hR
   exact hR
  have c3b0 : decide ((i : Int) < (l0.length : Int)) = true := decide_eq_true (by omega)
  have p3 : (0 : Int) ≤ (i : Int) := by omega
  have q3 : (i : Int) < (l0.length : Int) := by omega
  obtain ⟨ad, e3, hx0, hx1, hx2⟩ := at_T60 HR0.out (i : Int) p3 q3
  cases e3
  have HX0 := (HM.out.bel.cell (World.block_lt_of_cell? w _ hx0)).trans hx0
  have HX1 := (HM.out.bel.cell (World.block_lt_of_cell? w _ hx1)).trans hx1
  have HX2 := (HM.out.bel.cell (World.block_lt_of_cell? w _ hx2)).trans hx2
  clear hx0 hx1 hx2
  simp only [Int.toNat_natCast] at HX0 HX1 HX2
  have HLT := aM hlt
  have hss : ∀ x ∈ l0, x.f1.size ≤ 300 ∧ x.f2.size ≤ 300 := fun x hx => of_decide_eq_true (List.all_eq_true.1 HG.out.2 x hx)
  have hl60 := HG.out.1
  obtain ⟨u1, u2, u3⟩ := stN_bound l0 hss i (by omega)
  have hgt : rd_T60 l0 (i : Int) = l0[i] := by
   show l0.getD _ _ = _
   simp [List.getD_eq_getElem?_getD, hlt]
  have hsi := hss _ (List.getElem_mem hlt)
  have hb1 : (stN l0 i).1.length ≤ 900 := by omega
  have hb2 : (stN l0 i).2.1.size + (l0[i]).f1.size ≤ 4611686018427387904 := by omega
  have hb3 : (stN l0 i).2.2.size + (l0[i]).f2.size ≤ 4611686018427387904 := by omega
  clear hss u1 u2 u3 hsi
  go_wp2_with (first | ((with_reducible refine gate_dst (N := 5) rfl ?_); refine box_event ?hg (N := 5) ?hd (cs := #[.int .i64 0, .string ⟨#[]⟩, .string ⟨#[]⟩]) (t := 60) ?hr ?_; (case hd => rfl); (case hg => rfl); (case hr => exact aP21); intro gp hgp w5 hbox hb; have HM5 := aM (HM.out.below hb); have GP := aM hgp; have BX := aM hbox; have y0 := (blk_cell hbox 0).trans (show _ = some (Value.int .i64 0) from rfl); have y1 := (blk_cell hbox 1).trans (show _ = some (Value.string ⟨#[]⟩) from rfl); have y2 := (blk_cell hbox 2).trans (show _ = some (Value.string ⟨#[]⟩) from rfl); have f0 := blk_frozen hbox 0; have f1 := blk_frozen hbox 1; have f2 := blk_frozen hbox 2; have g1 := aM (show w.heap.size ≤ gp by rw [hgp]; exact HM.out.siz); have g2 := aM (show gb ≠ gp by rw [hgp]; exact Nat.ne_of_lt (blk_lt HM.out.blk)); have g3 := aM (show v.ownBlock ≠ some gp from fun e => absurd (own_lt HM.out.own gp e) (by rw [hgp]; exact Nat.lt_irrefl _)); clear hb hgp hbox))
  have htk := far_set (far_set (far_set HM5.out g1.out g2.out g3.out (i := 0) (.int .i64 (l0[i]).f0)) g1.out g2.out g3.out (i := 1) (.string (l0[i]).f1)) g1.out g2.out g3.out (i := 2) (.string (l0[i]).f2)
  refine (maker_take w.heap.size gb v (stN l0 i).1 (stN l0 i).2.1 (stN l0 i).2.2 (l0[i]).f0 (l0[i]).f1 (l0[i]).f2 w _ htk (Nat.le_of_eq GB.out.symm) hb1 hb2 hb3).mono ?_
  rintro e w6 ⟨rfl, v6, h6⟩
  have HM6 := aM h6
  clear h6
  go_wp2_with fail
  have hl' := HLT.out
  have hl6 := HG.out.1
  go_roundw
  case rel =>
   refine ⟨i + 1, ?_, ⟨by omega⟩, v6, ⟨?_⟩⟩
   rotate_left
   ·rw [stN_succ l0 i hl']; exact HM6.out
   first | rfl | (simp; done) | (congr 1; unfold wrap64; omega)
  case measure => simp; omega
end
-- import Mk
-- import WFootNe
-- import WKept
def IsRd (w : World) (g : Nat) (l : List S60) (S : Nat → Prop) : Prop :=
 ∃ (A : Option Addr) (c : Nat), w.heap[g]? = some (.cells #[.slice A l.length c] 68 (0, 0)) ∧ l.length ≤ c ∧ Kd.C k60 w A l.length l ∧ (∀ ad, A = some ad → 0 < l.length → ¬ S ad.block)
def hdP (l : List S60) : S60 := l.headD ⟨0, ⟨#[]⟩, ⟨#[]⟩⟩
theorem IsRd.kept {w w' : World} {g : Nat} {l : List S60} {S S' : Nat → Prop} (h : IsRd w g l S) (hk : Kept w w' S') (hg : ¬ S' g) (hs : ∀ k, S' k → S k) : IsRd w' g l S := by
 obtain ⟨A, c, h1, h2, h3, h4⟩ := h
 refine ⟨A, c, blk_kept h1 hk hg, h2, ?_, h4⟩
 exact Kd.C_foot_neS (S := S') (fun h => h) h3 (fun ad e hn hq => h4 ad e hn (hs _ hq)) w' hk
theorem IsRd.below {w w' : World} {g : Nat} {l : List S60} {S : Nat → Prop} (h : IsRd w g l S) (hb : Below w.heap.size w w') : IsRd w' g l S :=
 h.kept (Kept.of_below hb (fun _ => False)) (fun q => q) (fun _ q => q.elim)
set_option maxHeartbeats 8000000 in
set_option maxRecDepth 100000 in
theorem rd_head (w : World) (g : Nat) (l : List S60) (S : Nat → Prop) (h : IsRd w g l S) :
  Calls Try.prog 45 #[.pointer (some ⟨g, 0, none⟩)] w fun e w' => e = .returned (.agg #[.int .i64 (hdP l).f0, .string (hdP l).f1, .string (hdP l).f2]) ∧ Below w.heap.size w w' := by
 have hu53 := Try.underlying60
 have hu72 := Try.underlying68
 obtain ⟨A, c, hk, hc, hr, _⟩ := h
 have gw := blk_lt hk
 have KB := aM hk
 have HR := aM hr
 have c0 : w.cell? ⟨g, 0, none⟩ = some (.slice A l.length c) := (blk_cell hk 0).trans rfl
 clear hk hr
 cases l with
 | nil =>
  go_enter Try.func45, Try.ntmps45
  go_wp2_with (first | ((with_reducible refine gate_dst (N := 2) rfl ?_); refine box_event ?hg (N := 2) ?hd (cs := #[.int .i64 0, .string (⟨#[]⟩ : ByteArray), .string (⟨#[]⟩ : ByteArray)]) (t := 60) ?hr ?_; (case hd => rfl); (case hg => rfl); (case hr => exact aP21); intro gb hgb w1 hbox hb; have y := (blk_cell (blk_below KB.out hb) 0).trans (show _ = some (Value.slice A ([] : List S60).length c) from rfl); have HB := aM hb; have BX := aM hbox; have GB := aM hgb; have y0 := (blk_cell hbox 0).trans (show _ = some (Value.int .i64 0) from rfl); have y1 := (blk_cell hbox 1).trans (show _ = some (Value.string ⟨#[]⟩) from rfl); have y2 := (blk_cell hbox 2).trans (show _ = some (Value.string ⟨#[]⟩) from rfl); have f0 := blk_frozen hbox 0; have f1 := blk_frozen hbox 1; have f2 := blk_frozen hbox 2; clear hb hbox hgb c0))
  refine bodyPost_ret (results_cell_row rfl _ _ gb 60 #[.int .i64 0, .string (⟨#[]⟩ : ByteArray), .string (⟨#[]⟩ : ByteArray)] (0, 0) _ rfl (by refine blk_put (cs := #[.int .i64 0, .string (⟨#[]⟩ : ByteArray), .string (⟨#[]⟩ : ByteArray)]) ?_ 2 _ rfl; refine blk_put (cs := #[.int .i64 0, .string (⟨#[]⟩ : ByteArray), .string (⟨#[]⟩ : ByteArray)]) ?_ 1 _ rfl; refine blk_put (cs := #[.int .i64 0, .string (⟨#[]⟩ : ByteArray), .string (⟨#[]⟩ : ByteArray)]) ?_ 0 _ rfl; exact BX.out) Try.underlying60 rfl (by kernel_rfl)) rfl ?_
  have hge : w.heap.size ≤ gb := Nat.le_of_eq GB.out.symm
  exact ⟨rfl, ((HB.out.setCell (p := ⟨gb, 0, none⟩) hge _).setCell (p := ⟨gb, 1, none⟩) hge _).setCell (p := ⟨gb, 2, none⟩) hge _⟩
 | cons p r =>
  have p0 : (0 : Int) < ((p :: r).length : Int) := by rw [List.length_cons]; omega
  have p1 : (0 : Nat) < (p :: r).length := by rw [List.length_cons]; omega
  obtain ⟨ad, e3, hx0, hx1, hx2⟩ := at_T60 HR.out 0 (Int.le_refl _) p0
  cases e3
  rw [show ((0 : Int)).toNat = 0 from rfl, show 0 * 3 = 0 from rfl, Addr.add_zero'] at hx0 hx1 hx2
  have X1 := aM hx1
  have X2 := aM hx2
  have b0 : (((p :: r).length : Int) == 0) = false := beq_eq_false_iff_ne.mpr (by omega)
  have b1 : (((p :: r).length : Int) != 0) = true := bne_iff_ne.mpr (by omega)
  have b2 : decide (0 < ((p :: r).length : Int)) = true := decide_eq_true p0
  have b3 : decide (0 < (p :: r).length) = true := decide_eq_true p1
  have X0 := aM hx0
  clear hx0 hx1 hx2
  generalize hL : p :: r = L at *
  have HL := aM hL
  clear hL
  go_enter Try.func45, Try.ntmps45
  go_wp2_with (first | ((with_reducible refine gate_dst (N := 2) rfl ?_); refine box_event ?hg (N := 2) ?hd (cs := #[.int .i64 0, .string (⟨#[]⟩ : ByteArray), .string (⟨#[]⟩ : ByteArray)]) (t := 60) ?hr ?_; (case hd => rfl); (case hg => rfl); (case hr => exact aP21); intro gb hgb w1 hbox hb; have y := (blk_cell (blk_below KB.out hb) 0).trans (show _ = some (Value.slice (some ad) L.length c) from rfl); have HB := aM hb; have BX := aM hbox; have GB := aM hgb; have z0 := pw_cell_below hb X0.out; have z1 := pw_cell_below hb X1.out; have z2 := pw_cell_below hb X2.out; have n1 : gb ≠ g := (by rw [hgb]; exact Nat.ne_of_gt gw); have n2 : g ≠ gb := (by rw [hgb]; exact Nat.ne_of_lt gw); have y0 := (blk_cell hbox 0).trans (show _ = some (Value.int .i64 0) from rfl); have y1 := (blk_cell hbox 1).trans (show _ = some (Value.string ⟨#[]⟩) from rfl); have y2 := (blk_cell hbox 2).trans (show _ = some (Value.string ⟨#[]⟩) from rfl); have f0 := blk_frozen hbox 0; have f1 := blk_frozen hbox 1; have f2 := blk_frozen hbox 2; clear hb hbox hgb c0))
  refine bodyPost_ret (results_cell_row rfl _ _ gb 60 #[.int .i64 (rd_T60 L 0).f0, .string (rd_T60 L 0).f1, .string (rd_T60 L 0).f2] (0, 0) _ rfl (by refine blk_put (cs := #[.int .i64 (rd_T60 L 0).f0, .string (rd_T60 L 0).f1, .string (⟨#[]⟩ : ByteArray)]) ?_ 2 _ rfl; refine blk_put (cs := #[.int .i64 (rd_T60 L 0).f0, .string (⟨#[]⟩ : ByteArray), .string (⟨#[]⟩ : ByteArray)]) ?_ 1 _ rfl; refine blk_put (cs := #[.int .i64 0, .string (⟨#[]⟩ : ByteArray), .string (⟨#[]⟩ : ByteArray)]) ?_ 0 _ rfl; exact BX.out) Try.underlying60 rfl (by kernel_rfl)) rfl ?_
  have hge : w.heap.size ≤ gb := Nat.le_of_eq GB.out.symm
  obtain rfl := HL.out
  exact ⟨rfl, ((HB.out.setCell (p := ⟨gb, 0, none⟩) hge _).setCell (p := ⟨gb, 1, none⟩) hge _).setCell (p := ⟨gb, 2, none⟩) hge _⟩
-- NOT PRINTED: function 75 (impl_maker_end)
-- NOT PRINTED: function 48 (impl_maker_keep)
-- NOT PRINTED: function 46 (impl_maker_take)
-- import Mk
-- import WKept
set_option maxHeartbeats 8000000 in
set_option maxRecDepth 100000 in
theorem rd_next (w : World) (g : Nat) (p : S60) (r : List S60) (S : Nat → Prop) (h : IsRd w g (p :: r) S) (hS : S g) :
  Calls Try.prog 47 #[.pointer (some ⟨g, 0, none⟩)] w fun e w' => e = .returned (.agg #[.int .i64 p.f0, .string p.f1, .string p.f2]) ∧ IsRd w' g r S ∧ KeptB w w' (fun k => k = g) := by
 have hu53 := Try.underlying60
 have hu72 := Try.underlying68
 have RD := aM h
 obtain ⟨A, c, hk, hc, hr, hf⟩ := h
 have gw := blk_lt hk
 have KB := aM hk
 have HR := aM hr
 have HC := aM hc
 have HF := aM hf
 have hln : (p :: r).length = r.length + 1 := rfl
 rw [hln] at KB
 have HN := aM (show r.length + 1 ≤ c from hc)
 clear hk hr hc hf hln
 have hHd : hdP (p :: r) = p := rfl
 by_cases hc1 : c = 1
 ·have d1 : (c == 1) = true := beq_iff_eq.mpr hc1
  have d2 : (c = 1) = True := eq_true hc1
  have HC1 := aM hc1
  clear hc1
  go_enter Try.func47, Try.ntmps47
  go_wp2_with (first | ((with_reducible refine gate_dst (N := 2) rfl ?_); refine box_event ?hg (N := 2) ?hd (cs := #[.int .i64 0, .string (⟨#[]⟩ : ByteArray), .string (⟨#[]⟩ : ByteArray)]) (t := 60) ?hr ?_; (case hd => rfl); (case hg => rfl); (case hr => exact aP21); intro gb hgb w1 hbox hb; have RD1 := aM (RD.out.below hb); have KB1 := aM (blk_below KB.out hb); have HB1 := aM hb; have BX := aM hbox; have GB := aM hgb; clear hb hbox hgb) | (go_at_call 45; with_reducible refine (rd_head _ g (p :: r) S RD1.out).mono ?_; rw [hHd]; rintro e w2 ⟨rfl, hb2⟩; have KB2 := aM (blk_below KB1.out hb2); have HB2 := aM hb2; have BX2 := aM (blk_below BX.out hb2); clear hb2) | ((with_reducible refine gate_dst (N := 3) rfl ?_); refine box_event ?hg (N := 3) ?hd (cs := #[.int .i64 0, .string (⟨#[]⟩ : ByteArray), .string (⟨#[]⟩ : ByteArray)]) (t := 60) ?hr ?_; (case hd => rfl); (case hg => rfl); (case hr => exact aP21); intro gc hgc w3 hbox hb; have y := (blk_cell (blk_below KB2.out hb) 0).trans (show _ = some (Value.slice A (r.length + 1) c) from rfl); have yf := blk_frozen (blk_below KB2.out hb) 0; have KB3 := aM (blk_below KB2.out hb); have BX3 := aM (blk_below BX2.out hb); have HB3 := aM hb; have BC := aM hbox; have GC := aM hgc; have a0 := (blk_cell BX3.out 0).trans (show _ = some (Value.int .i64 0) from rfl); have a1 := (blk_cell BX3.out 1).trans (show _ = some (Value.string ⟨#[]⟩) from rfl); have a2 := (blk_cell BX3.out 2).trans (show _ = some (Value.string ⟨#[]⟩) from rfl); have e0 := blk_frozen BX3.out 0; have e1 := blk_frozen BX3.out 1; have e2 := blk_frozen BX3.out 2; have y0 := (blk_cell hbox 0).trans (show _ = some (Value.int .i64 0) from rfl); have y1 := (blk_cell hbox 1).trans (show _ = some (Value.string ⟨#[]⟩) from rfl); have y2 := (blk_cell hbox 2).trans (show _ = some (Value.string ⟨#[]⟩) from rfl); have f0 := blk_frozen hbox 0; have f1 := blk_frozen hbox 1; have f2 := blk_frozen hbox 2; have n1 : gb ≠ g := (by rw [GB.out]; exact Nat.ne_of_gt gw); have n2 : g ≠ gb := (by rw [GB.out]; exact Nat.ne_of_lt gw); have n3 : gc ≠ g := (by rw [hgc]; exact Nat.ne_of_gt (blk_lt KB2.out)); have n4 : g ≠ gc := (by rw [hgc]; exact Nat.ne_of_lt (blk_lt KB2.out)); have n5 : gc ≠ gb := (by rw [hgc]; exact Nat.ne_of_gt (blk_lt BX2.out)); have n6 : gb ≠ gc := (by rw [hgc]; exact Nat.ne_of_lt (blk_lt BX2.out)); clear hb hbox hgc))
  have hgb : w.heap.size ≤ gb := Nat.le_of_eq GB.out.symm
  have z1 := HB1.out.size
  have z2 := HB2.out.size
  have hgc : w.heap.size ≤ gc := by rw [GC.out]; omega
  have k3 : KeptB w w3 (fun k => k = g) := ((KeptB.of_below HB1.out (fun k => k = g)).then_ (KeptB.of_below HB2.out (fun _ => False)) (fun _ q => q.elim)).then_ (KeptB.of_below HB3.out (fun _ => False)) (fun _ q => q.elim)
  have KW := ((((((k3.setCell (p := ⟨gc, 0, none⟩) (.inr hgc) (.int .i64 p.f0)).setCell (p := ⟨gc, 1, none⟩) (.inr hgc) (.string p.f1)).setCell (p := ⟨gc, 2, none⟩) (.inr hgc) (.string p.f2)).setCell (p := ⟨g, 0, none⟩) (.inl rfl) (.slice A r.length (c - 1))).setCell (p := ⟨gb, 0, none⟩) (.inr hgb) (.int .i64 p.f0)).setCell (p := ⟨gb, 1, none⟩) (.inr hgb) (.string p.f1)).setCell (p := ⟨gb, 2, none⟩) (.inr hgb) (.string p.f2)
  have BG := blk_far (blk_far (blk_far (blk_put (cs' := #[.slice A r.length (c - 1)]) (blk_far (blk_far (blk_far KB3.out (p := ⟨gc, 0, none⟩) n4 (.int .i64 p.f0)) (p := ⟨gc, 1, none⟩) n4 (.string p.f1)) (p := ⟨gc, 2, none⟩) n4 (.string p.f2)) 0 (.slice A r.length (c - 1)) rfl) (p := ⟨gb, 0, none⟩) n2 (.int .i64 p.f0)) (p := ⟨gb, 1, none⟩) n2 (.string p.f1)) (p := ⟨gb, 2, none⟩) n2 (.string p.f2)
  have BB := blk_put (cs' := #[.int .i64 p.f0, .string p.f1, .string p.f2]) (blk_put (cs' := #[.int .i64 p.f0, .string p.f1, .string (⟨#[]⟩ : ByteArray)]) (blk_put (cs' := #[.int .i64 p.f0, .string (⟨#[]⟩ : ByteArray), .string (⟨#[]⟩ : ByteArray)]) (blk_far (blk_far (blk_far (blk_far BX3.out (p := ⟨gc, 0, none⟩) n6 (.int .i64 p.f0)) (p := ⟨gc, 1, none⟩) n6 (.string p.f1)) (p := ⟨gc, 2, none⟩) n6 (.string p.f2)) (p := ⟨g, 0, none⟩) n1 (.slice A r.length (c - 1))) 0 (.int .i64 p.f0) rfl) 1 (.string p.f1) rfl) 2 (.string p.f2) rfl
  refine bodyPost_ret (results_cell_row rfl _ _ gb 60 #[.int .i64 p.f0, .string p.f1, .string p.f2] (0, 0) _ rfl BB Try.underlying60 rfl (by kernel_rfl)) rfl ?_
  refine ⟨rfl, ⟨_, _, BG, ?_, ?_, ?_⟩, KW⟩
  ·have := HN.out; omega
  ·have hd := Kd.C_drop (m := 1) (c := c) HR.out (by rw [List.length_cons]; omega) HC.out
   rw [if_pos HC1.out] at hd
   exact Kd.C_foot_neS (S := fun k => k = g) (fun h => h) hd (fun ad e hn hq => HF.out ad e (by rw [List.length_cons]; omega) (hq ▸ hS)) _ KW.kept
  exact fun ad e hn => HF.out ad e (by rw [List.length_cons]; omega)
 have d1 : (c == 1) = false := beq_eq_false_iff_ne.mpr hc1
 have d2 : (c = 1) = False := eq_false hc1
 have HC1 := aM hc1
 clear hc1
 go_enter Try.func47, Try.ntmps47
 go_wp2_with (first | ((with_reducible refine gate_dst (N := 2) rfl ?_); refine box_event ?hg (N := 2) ?hd (cs := #[.int .i64 0, .string (⟨#[]⟩ : ByteArray), .string (⟨#[]⟩ : ByteArray)]) (t := 60) ?hr ?_; (case hd => rfl); (case hg => rfl); (case hr => exact aP21); intro gb hgb w1 hbox hb; have RD1 := aM (RD.out.below hb); have KB1 := aM (blk_below KB.out hb); have HB1 := aM hb; have BX := aM hbox; have GB := aM hgb; clear hb hbox hgb) | (go_at_call 45; with_reducible refine (rd_head _ g (p :: r) S RD1.out).mono ?_; rw [hHd]; rintro e w2 ⟨rfl, hb2⟩; have KB2 := aM (blk_below KB1.out hb2); have HB2 := aM hb2; have BX2 := aM (blk_below BX.out hb2); clear hb2) | ((with_reducible refine gate_dst (N := 3) rfl ?_); refine box_event ?hg (N := 3) ?hd (cs := #[.int .i64 0, .string (⟨#[]⟩ : ByteArray), .string (⟨#[]⟩ : ByteArray)]) (t := 60) ?hr ?_; (case hd => rfl); (case hg => rfl); (case hr => exact aP21); intro gc hgc w3 hbox hb; have y := (blk_cell (blk_below KB2.out hb) 0).trans (show _ = some (Value.slice A (r.length + 1) c) from rfl); have yf := blk_frozen (blk_below KB2.out hb) 0; have KB3 := aM (blk_below KB2.out hb); have BX3 := aM (blk_below BX2.out hb); have HB3 := aM hb; have BC := aM hbox; have GC := aM hgc; have a0 := (blk_cell BX3.out 0).trans (show _ = some (Value.int .i64 0) from rfl); have a1 := (blk_cell BX3.out 1).trans (show _ = some (Value.string ⟨#[]⟩) from rfl); have a2 := (blk_cell BX3.out 2).trans (show _ = some (Value.string ⟨#[]⟩) from rfl); have e0 := blk_frozen BX3.out 0; have e1 := blk_frozen BX3.out 1; have e2 := blk_frozen BX3.out 2; have y0 := (blk_cell hbox 0).trans (show _ = some (Value.int .i64 0) from rfl); have y1 := (blk_cell hbox 1).trans (show _ = some (Value.string ⟨#[]⟩) from rfl); have y2 := (blk_cell hbox 2).trans (show _ = some (Value.string ⟨#[]⟩) from rfl); have f0 := blk_frozen hbox 0; have f1 := blk_frozen hbox 1; have f2 := blk_frozen hbox 2; have n1 : gb ≠ g := (by rw [GB.out]; exact Nat.ne_of_gt gw); have n2 : g ≠ gb := (by rw [GB.out]; exact Nat.ne_of_lt gw); have n3 : gc ≠ g := (by rw [hgc]; exact Nat.ne_of_gt (blk_lt KB2.out)); have n4 : g ≠ gc := (by rw [hgc]; exact Nat.ne_of_lt (blk_lt KB2.out)); have n5 : gc ≠ gb := (by rw [hgc]; exact Nat.ne_of_gt (blk_lt BX2.out)); have n6 : gb ≠ gc := (by rw [hgc]; exact Nat.ne_of_lt (blk_lt BX2.out)); clear hb hbox hgc))
 have hgb : w.heap.size ≤ gb := Nat.le_of_eq GB.out.symm
 have z1 := HB1.out.size
 have z2 := HB2.out.size
 have hgc : w.heap.size ≤ gc := by rw [GC.out]; omega
 have k3 : KeptB w w3 (fun k => k = g) := ((KeptB.of_below HB1.out (fun k => k = g)).then_ (KeptB.of_below HB2.out (fun _ => False)) (fun _ q => q.elim)).then_ (KeptB.of_below HB3.out (fun _ => False)) (fun _ q => q.elim)
 have KW := ((((((k3.setCell (p := ⟨gc, 0, none⟩) (.inr hgc) (.int .i64 p.f0)).setCell (p := ⟨gc, 1, none⟩) (.inr hgc) (.string p.f1)).setCell (p := ⟨gc, 2, none⟩) (.inr hgc) (.string p.f2)).setCell (p := ⟨g, 0, none⟩) (.inl rfl) (.slice (Option.map (fun x => ⟨x.block, x.off + 3, none⟩) A) r.length (c - 1))).setCell (p := ⟨gb, 0, none⟩) (.inr hgb) (.int .i64 p.f0)).setCell (p := ⟨gb, 1, none⟩) (.inr hgb) (.string p.f1)).setCell (p := ⟨gb, 2, none⟩) (.inr hgb) (.string p.f2)
 have BG := blk_far (blk_far (blk_far (blk_put (cs' := #[.slice (Option.map (fun x => ⟨x.block, x.off + 3, none⟩) A) r.length (c - 1)]) (blk_far (blk_far (blk_far KB3.out (p := ⟨gc, 0, none⟩) n4 (.int .i64 p.f0)) (p := ⟨gc, 1, none⟩) n4 (.string p.f1)) (p := ⟨gc, 2, none⟩) n4 (.string p.f2)) 0 (.slice (Option.map (fun x => ⟨x.block, x.off + 3, none⟩) A) r.length (c - 1)) rfl) (p := ⟨gb, 0, none⟩) n2 (.int .i64 p.f0)) (p := ⟨gb, 1, none⟩) n2 (.string p.f1)) (p := ⟨gb, 2, none⟩) n2 (.string p.f2)
 have BB := blk_put (cs' := #[.int .i64 p.f0, .string p.f1, .string p.f2]) (blk_put (cs' := #[.int .i64 p.f0, .string p.f1, .string (⟨#[]⟩ : ByteArray)]) (blk_put (cs' := #[.int .i64 p.f0, .string (⟨#[]⟩ : ByteArray), .string (⟨#[]⟩ : ByteArray)]) (blk_far (blk_far (blk_far (blk_far BX3.out (p := ⟨gc, 0, none⟩) n6 (.int .i64 p.f0)) (p := ⟨gc, 1, none⟩) n6 (.string p.f1)) (p := ⟨gc, 2, none⟩) n6 (.string p.f2)) (p := ⟨g, 0, none⟩) n1 (.slice (Option.map (fun x => ⟨x.block, x.off + 3, none⟩) A) r.length (c - 1))) 0 (.int .i64 p.f0) rfl) 1 (.string p.f1) rfl) 2 (.string p.f2) rfl
 refine bodyPost_ret (results_cell_row rfl _ _ gb 60 #[.int .i64 p.f0, .string p.f1, .string p.f2] (0, 0) _ rfl BB Try.underlying60 rfl (by kernel_rfl)) rfl ?_
 refine ⟨rfl, ⟨_, _, BG, ?_, ?_, ?_⟩, KW⟩
 ·have := HN.out; omega
 ·have hd := Kd.C_drop (m := 1) (c := c) HR.out (by rw [List.length_cons]; omega) HC.out
  rw [if_neg HC1.out] at hd
  exact Kd.C_foot_neS (S := fun k => k = g) (fun h => h) hd (fun ad e hn hq => by
   obtain ⟨a0, ea, eb⟩ := Option.map_eq_some_iff.1 e
   have hb0 : a0.block = ad.block := by subst eb; rfl
   exact HF.out a0 ea (by rw [List.length_cons]; omega) (by rw [hb0, hq]; exact hS)) _ KW.kept
 intro ad e hn
 obtain ⟨a0, ea, eb⟩ := Option.map_eq_some_iff.1 e
 have hb0 : a0.block = ad.block := by subst eb; rfl
 rw [← hb0]
 exact HF.out a0 ea (by rw [List.length_cons]; omega)
def impl_Part_size.f (a0_0 : Int) (a0_1 : ByteArray) (a0_2 : ByteArray) : Option (Int) := some (wrap64 ((wrap64 (a0_0 + (a0_1.size : Int))) + (a0_2.size : Int)))
set_option maxHeartbeats 8000000 in
set_option maxRecDepth 100000 in
theorem impl_Part_size.calls (a0_0 : Int) (a0_1 : ByteArray) (a0_2 : ByteArray) (r : Int) (w : World) (h : impl_Part_size.f a0_0 a0_1 a0_2 = some r) :
  Calls Try.prog 49 #[.agg #[.int .i64 a0_0, .string a0_1, .string a0_2]] w fun e w' => e = .returned (.int .i64 r) ∧ Below w.heap.size w w' := by
 have hu60 := Try.underlying60
 have HB := aM (Below.refl w.heap.size w)
 have H : (some (wrap64 ((wrap64 (a0_0 + (a0_1.size : Int))) + (a0_2.size : Int)))) = some r := h
 clear h
 obtain rfl := Option.some.inj H
 go_enter Try.func49, Try.ntmps49
 go_wp2_with (first | ((with_reducible refine gate_dst (N := 1) rfl ?_); refine box_event ?hg (N := 1) ?hd (cs := #[.int .i64 a0_0, .string a0_1, .string a0_2]) (t := 60) ?hr ?_; (case hd => rfl); (case hg => rfl); (case hr => exact aP21); intro gb130 hg w2 hbox hb; have BK130 := aM (hbox); have GW130 := aM (bG (w := w) hg); have GE130 := aM (bG (w := w) hg); replace HB := aM (below_step bB hb); clear hb hbox hg; obtain ⟨hcz3_0, hcz3_1, hcz3_2, hfz3_0, hfz3_1, hfz3_2⟩ := bx3 BK130.out))
 go_ret
 exact ⟨eR, by repeat (first | (with_reducible first | exact HB.out | apply below_alloc | apply pw_below_drewN | apply below_drew1 | refine below_set ?_ GE130.out) | exact HB.out)⟩
end Go.Proofs.Ytoagljlnfakgjaa.PFnOver
