/- (thin) Written by a program of this session (wip/ovl.py) over the kit's print: plain functions with the answers of the Go functions, and the proofs that they are; no condition. -/
import Derived.Test.YtoagljlnfakgjaaPFnOverx0
namespace Go.Proofs.Ytoagljlnfakgjaa.PFnOver
open Go.RowKit Go.Proofs.YtoagljlnfakgjaaW.PrintWords Go.Proofs.YtoagljlnfakgjaaW.PrintLast Go.Proofs.YtoagljlnfakgjaaW.PrintMore
attribute [local go_sem] max2_int min2_int max_two min_two max_three min_three max_four min_four   -- for this text's walks alone
set_option linter.unusedVariables false
set_option linter.unusedSimpArgs false
def spec_l4Bytes.l0 : Nat → List Int → List (S60) → Int → Int → Option (List Int)
 | 0, _, _, _, _ => none
 | k + 1, x3, x6, x7, x8 => if x8 < x7 then (if 0 ≤ x8 then (if x8 < (x6.length : Int) then (if 0 ≤ ((rd_T60 x6 x8).f0) then (if x3.length + ((rd_T60 x6 x8).f0 : Int).toNat < 140737488355328 then ((some (x3 ++ List.replicate ((rd_T60 x6 x8).f0 : Int).toNat 0 : List Int)).bind fun y148 => (if y148.length + ((rd_T60 x6 x8).f2).size < 140737488355328 then (spec_l4Bytes.l0 k (y148 ++ bytesOf ((rd_T60 x6 x8).f2)) x6 x7 (wrap64 (x8 + 1))) else (none))) else (none)) else (none)) else (none)) else (none)) else (some x3)
def spec_l4Bytes.f (k : Nat) (l0 : List (S60)) : Option (List Int) := spec_l4Bytes.l0 k ([] : List Int) l0 (l0.length : Int) 0
theorem spec_l4Bytes.mono_l : ∀ k, (∀ y0 y1 y2 y3, LeO (spec_l4Bytes.l0 k y0 y1 y2 y3) (spec_l4Bytes.l0 (k + 1) y0 y1 y2 y3))
 | 0 => fun _ _ _ _ r h => by simp [spec_l4Bytes.l0] at h
 | k + 1 => by
  have ih0 := spec_l4Bytes.mono_l k
  ·intro y0 y1 y2 y3
   unfold spec_l4Bytes.l0
   repeat' (with_reducible first | exact ih0 _ _ _ _ | exact LeO.refl _ | exact LeO.none _ | refine LeO.ite ?_ ?_ | refine LeO.bind ?_ (fun _ => ?_))
theorem spec_l4Bytes.mono : ∀ a0 k, LeO (spec_l4Bytes.f k a0) (spec_l4Bytes.f (k + 1) a0) := by
 intro a0 k
 have ih0 := spec_l4Bytes.mono_l k
 unfold spec_l4Bytes.f
 repeat' (with_reducible first | exact ih0 _ _ _ _ | exact LeO.refl _ | exact LeO.none _ | refine LeO.ite ?_ ?_ | refine LeO.bind ?_ (fun _ => ?_))
set_option maxHeartbeats 8000000 in
set_option maxRecDepth 100000 in
theorem spec_l4Bytes.calls (k : Nat) (A0 : Option Addr) (c0 : Nat) (l0 : List (S60)) (r : List Int) (w : World) (hr0 : Kd.C k60 w A0 l0.length l0) (hc0 : l0.length ≤ c0) (h : spec_l4Bytes.f k l0 = some r) :
  Calls Try.prog 41 #[.slice A0 l0.length c0] w fun e w' => ∃ v0_ : Value, e = .returned (v0_) ∧ Kd.R (Kd.int .u8) 5 w' w.heap.size (fun _ => True) v0_ r ∧ Below w.heap.size w w' := by
 have hu60 := Try.underlying60
 have HR0 := aM hr0
 have HC0 := aM hc0
 clear hr0 hc0
 have HB := aM (Below.refl w.heap.size w)
 have H : (spec_l4Bytes.l0 k ([] : List Int) l0 (l0.length : Int) 0) = some r := h
 clear h
 have H' := aM H
 clear H
 go_enter Try.func41, Try.ntmps41
 go_wp2
 go_loopg [3, 8] k (fun kq v3 v8 w' => ∃ (x3_1 : List Int) (x8_1 : Int), v8 = .int .i64 x8_1 ∧ Aside0 (spec_l4Bytes.l0 kq x3_1 l0 (l0.length : Int) x8_1 = some r) ∧ Aside0 (kq ≤ k) ∧ Aside0 (Kd.R (Kd.int .u8) 5 w' w.heap.size (fun _ => True) v3 x3_1) ∧ Aside0 (Below w.heap.size w w'))
 case atStart => exact ⟨(([] : List Int)), (0), aP16, H', ⟨Nat.le_refl _⟩, ⟨by first | exact Kd.R_nil _ _ _ _ _ | exact Kd.N_nil _ _ _ _ _ | exact Kd.V_nil _ _ _ _ _ | exact Kd.Q_nil _ _ _ _ _ | exact Kd.S_nil _ _ _ _ _⟩, ⟨bB⟩⟩
 case round =>
  clear H'
  obtain ⟨x3_1, x8_1, rfl, HA, HK1, HO_3, HB⟩ := hrel
  cases gk with
  | zero => exact absurd HA.out (by simp [spec_l4Bytes.l0])
  | succ k1 =>
   have H := HA.out
   clear HA
   simp only [spec_l4Bytes.l0] at H
   by_cases c2 : x8_1 < (l0.length : Int)
   rotate_left
   ·rw [if_neg c2] at H
    have c2b0 : decide (x8_1 < (l0.length : Int)) = false := decide_eq_false c2
    clear c2
    obtain rfl := Option.some.inj H
    go_wp2
    go_ret
    exact ⟨_, by first | rfl | (simp [errW_none, errW_some] <;> rfl) | (simp [*, errW_none, errW_some] <;> rfl), by (with_reducible repeat (first | apply Kd.R_alloc | apply Kd.R_drewN | apply Kd.R_drew)); exact HO_3.out, bB⟩
   rw [if_pos c2] at H
   have c2b0 : decide (x8_1 < (l0.length : Int)) = true := decide_eq_true c2
   clear c2
   by_cases c3 : 0 ≤ x8_1
   rotate_left
   ·rw [if_neg c3] at H
    exact absurd H (by simp)
   rw [if_pos c3] at H
   have c3b0 : decide (0 ≤ x8_1) = true := decide_eq_true c3
   clear c3
   by_cases c4 : x8_1 < (l0.length : Int)
   rotate_left
   ·rw [if_neg c4] at H
    exact absurd H (by simp)
   rw [if_pos c4] at H
   have c4b0 : decide (x8_1 < (l0.length : Int)) = true := decide_eq_true c4
   clear c4
   by_cases c5 : 0 ≤ ((rd_T60 l0 x8_1).f0)
   rotate_left
   ·rw [if_neg c5] at H
    exact absurd H (by simp)
   rw [if_pos c5] at H
   have c5b0 := eq_true c5
   have c5b1 : decide (0 ≤ ((rd_T60 l0 x8_1).f0)) = true := decide_eq_true c5
   clear c5
   by_cases c6 : x3_1.length + ((rd_T60 l0 x8_1).f0 : Int).toNat < 140737488355328
   rotate_left
   ·rw [if_neg c6] at H
    exact absurd H (by simp)
   rw [if_pos c6] at H
   have LMc6 := aM c6
   clear c6
   obtain ⟨y148, hy148⟩ : ∃ y_ : List Int, y_ = (x3_1 ++ List.replicate ((rd_T60 l0 x8_1).f0 : Int).toNat 0) := ⟨_, rfl⟩
   replace H : (if y148.length + ((rd_T60 l0 x8_1).f2).size < 140737488355328 then (spec_l4Bytes.l0 k1 (y148 ++ bytesOf ((rd_T60 l0 x8_1).f2)) l0 (l0.length : Int) (wrap64 (x8_1 + 1))) else (none)) = some r := by first | (rw [hy148]; with_reducible exact H) | (have H2_ := (Option.bind_some _ _).symm.trans H; rw [hy148]; with_reducible exact H2_) | (have H2_ := (Option.bind_some _ _).symm.trans H; with_reducible exact H2_) | with_reducible exact H | (rw [hy148]; exact H) | exact H
   have Ny148 := aM hy148
   clear hy148
   by_cases c7 : y148.length + ((rd_T60 l0 x8_1).f2).size < 140737488355328
   rotate_left
   ·rw [if_neg c7] at H
    exact absurd H (by simp)
   rw [if_pos c7] at H
   have LMc7 := aM c7
   clear c7
   obtain ⟨y151, hy151⟩ : ∃ y_ : List Int, y_ = (y148 ++ bytesOf ((rd_T60 l0 x8_1).f2)) := ⟨_, rfl⟩
   replace H : (spec_l4Bytes.l0 k1 y151 l0 (l0.length : Int) (wrap64 (x8_1 + 1))) = some r := by first | (rw [hy151]; with_reducible exact H) | (have H2_ := (Option.bind_some _ _).symm.trans H; rw [hy151]; with_reducible exact H2_) | (have H2_ := (Option.bind_some _ _).symm.trans H; with_reducible exact H2_) | with_reducible exact H | (rw [hy151]; exact H) | exact H
   have Ny151 := aM hy151
   clear hy151
   have H' := aM H
   clear H
   have p146 : 0 ≤ (x8_1 : Int) := of_decide_eq_true (by assumption)
   have q146 : x8_1 < (l0.length : Int) := of_decide_eq_true (by assumption)
   obtain ⟨ad146, e146, hx146_0, hx146_1, hx146_2⟩ := at_T60 HR0.out x8_1 p146 q146
   cases e146
   replace hx146_0 := hC HB.out hx146_0
   replace hx146_1 := hC HB.out hx146_1
   replace hx146_2 := hC HB.out hx146_2
   replace p146 := eq_true p146
   replace q146 := eq_true q146
   go_wp2_with (first | ((with_reducible refine gate_dst (N := 5) rfl ?_); refine box_event ?hg (N := 5) ?hd (cs := #[.int .i64 0, .string (⟨#[]⟩ : ByteArray), .string (⟨#[]⟩ : ByteArray)]) (t := 60) ?hr ?_; (case hd => rfl); (case hg => rfl); (case hr => exact aP21); intro gb147 hg w8 hbox hb; have BK147 := aM (hbox); have GW147 := aM (bG (w := w) hg); have GE147 := aM (bG (w := w) hg); replace HO_3 := aM (Kd.R_below (rR HO_3.out) hb); replace HB := aM (below_step bB hb); clear hb hbox hg; obtain ⟨hcz9_0, hcz9_1, hcz9_2, hfz9_0, hfz9_1, hfz9_2⟩ := bx3 BK147.out) | (at_builtin; refine Kd.R_append_zeros (Kd.int .u8) (w0 := w) w.heap.size rfl (.tmp 12) (.tmp 14) 44 3 5 (.int .u8 0) 1 rfl Try.underlying44 Try.underlying3 info5 rfl (by decide) (by omega) u3 x3_1 0 ((rd_T60 l0 x8_1).f0 : Int) (fun _ => True) rfl rfl rfl ?aF ?aO (of_decide_eq_true (by assumption)) ?aB ?aS ?aL ?_; (case aB => exact aP11); (case aF => exact (fun _ _ => trivial)); (case aO => exact (by (with_reducible repeat (first | apply Kd.R_alloc | apply Kd.R_drewN | apply Kd.R_drew)); exact Kd.R_mono (Kd.R_far (p := ⟨gb147, 2, none⟩) (Kd.R_far (p := ⟨gb147, 1, none⟩) (Kd.R_far (p := ⟨gb147, 0, none⟩) (Kd.R_types HO_3.out BK147.out (by decide)) (fun _ hk => hk.2) (.int .i64 ((rd_T60 l0 x8_1).f0))) (fun _ hk => hk.2) (.string ((rd_T60 l0 x8_1).f1))) (fun _ hk => hk.2) (.string ((rd_T60 l0 x8_1).f2))) (fun _ hk => trivial))); (case aS => exact (below_size aP11)); (case aL => have := LMc6.out; omega); intro v149 w10 ho hb hg hat; rw [← Ny148.out] at ho; have n0_ := aM (blk_grown (g := gb147) (o := .cells #[.int .i64 ((rd_T60 l0 x8_1).f0), .string ((rd_T60 l0 x8_1).f1), .string ((rd_T60 l0 x8_1).f2)] 60 (0, 0)) (by (with_reducible repeat (first | refine blk_drewN ?_ _ | refine blk_drew ?_ | refine blk_alloc ?_ _)); refine blk_put (cs := #[.int .i64 ((rd_T60 l0 x8_1).f0), .string ((rd_T60 l0 x8_1).f1), .string (⟨#[]⟩ : ByteArray)]) ?_ 2 _ rfl; (with_reducible repeat (first | refine blk_drewN ?_ _ | refine blk_drew ?_ | refine blk_alloc ?_ _)); refine blk_put (cs := #[.int .i64 ((rd_T60 l0 x8_1).f0), .string (⟨#[]⟩ : ByteArray), .string (⟨#[]⟩ : ByteArray)]) ?_ 1 _ rfl; (with_reducible repeat (first | refine blk_drewN ?_ _ | refine blk_drew ?_ | refine blk_alloc ?_ _)); refine blk_put (cs := #[.int .i64 0, .string (⟨#[]⟩ : ByteArray), .string (⟨#[]⟩ : ByteArray)]) ?_ 0 _ rfl; exact kK BK147.out) hg (Kd.R_ne HO_3.out BK147.out (by decide))); have n1_ := aM (hb); have n2_ := aM (ho); clear BK147; clear HB; clear HO_3; have BK147 := n0_; have HB := n1_; have HO150 := n2_; clear n0_ n1_ n2_; clear ho hb hg hat; obtain ⟨hcz11_0, hcz11_1, hcz11_2, hfz11_0, hfz11_1, hfz11_2⟩ := bx3 BK147.out) | (at_builtin; refine print_append_str (w0 := w) w.heap.size rfl (.tmp 16) _ 44 9 5 rfl Try.underlying44 Try.underlying9 info5 v149 y148 ((rd_T60 l0 x8_1).f2) rfl rfl ?aO ?aB ?aS ?aL ?_; (case aB => exact aP11); (case aO => exact (Kd.own_of_R (rR HO150.out))); (case aS => exact (below_size aP11)); (case aL => have := LMc7.out; omega); intro v152 w12 ho0 hb hg; have ho := Kd.R_of_own (h1 := fun _ => rfl) (ok := fun _ => True) ho0 (fun _ _ => trivial); clear ho0; have hat := True.intro; rw [← Ny151.out] at ho; change Kd.R (Kd.int .u8) 5 w12 w.heap.size (fun _ => True) v152 y151 at ho; have HO153 := aM (ho); replace BK147 := aM (blk_grown (g := gb147) (o := .cells #[.int .i64 ((rd_T60 l0 x8_1).f0), .string ((rd_T60 l0 x8_1).f1), .string ((rd_T60 l0 x8_1).f2)] 60 (0, 0)) (kK BK147.out) hg (Kd.R_ne HO150.out BK147.out (by decide))); replace HB := aM (hb); clear ho hb hg hat))
   go_roundg k1
   case measure => have := HK1.out; omega
   case rel => exact ⟨(y151), (wrap64 (x8_1 + 1)), aP16, H', ⟨by have := HK1.out; omega⟩, ⟨rR HO153.out⟩, ⟨aP11⟩⟩
def spec_l4Same.l0 : Nat → List Int → List Int → Int → Int → Option (Bool × Bool)
 | 0, _, _, _, _ => none
 | k + 1, x6, x7, x19, x20 => if x20 < x19 then (if 0 ≤ x20 then (if x20 < (x6.length : Int) then (if (rd x6 x20) = 0 then (spec_l4Same.l0 k x6 x7 x19 (wrap64 (x20 + 1))) else (if x20 < (x7.length : Int) then (if (rd x7 x20) = 0 then (spec_l4Same.l0 k x6 x7 x19 (wrap64 (x20 + 1))) else (if (rd x6 x20) = (rd x7 x20) then (spec_l4Same.l0 k x6 x7 x19 (wrap64 (x20 + 1))) else (some (false, true)))) else (none))) else (none)) else (none)) else (some (true, true))
def spec_l4Same.f (k : Nat) (l0 : List (S60)) (l1 : List (S60)) : Option (Bool × Bool) := (spec_l4Bytes.f k l0).bind fun t154 => ((spec_l4Bytes.f k l1).bind fun t157 => (if (t154.length : Int) = (t157.length : Int) then (spec_l4Same.l0 k t154 t157 (t154.length : Int) 0) else (some (false, false))))
theorem spec_l4Same.mono_l : ∀ k, (∀ y0 y1 y2 y3, LeO (spec_l4Same.l0 k y0 y1 y2 y3) (spec_l4Same.l0 (k + 1) y0 y1 y2 y3))
 | 0 => fun _ _ _ _ r h => by simp [spec_l4Same.l0] at h
 | k + 1 => by
  have ih0 := spec_l4Same.mono_l k
  ·intro y0 y1 y2 y3
   unfold spec_l4Same.l0
   repeat' (with_reducible first | exact ih0 _ _ _ _ | exact spec_l4Bytes.mono _ _ | exact LeO.refl _ | exact LeO.none _ | refine LeO.ite ?_ ?_ | refine LeO.bind ?_ (fun _ => ?_))
theorem spec_l4Same.mono : ∀ a0 a1 k, LeO (spec_l4Same.f k a0 a1) (spec_l4Same.f (k + 1) a0 a1) := by
 intro a0 a1 k
 have ih0 := spec_l4Same.mono_l k
 unfold spec_l4Same.f
 repeat' (with_reducible first | exact ih0 _ _ _ _ | exact spec_l4Bytes.mono _ _ | exact LeO.refl _ | exact LeO.none _ | refine LeO.ite ?_ ?_ | refine LeO.bind ?_ (fun _ => ?_))
set_option maxHeartbeats 8000000 in
set_option maxRecDepth 100000 in
theorem spec_l4Same.calls (k : Nat) (A0 : Option Addr) (c0 : Nat) (l0 : List (S60)) (A1 : Option Addr) (c1 : Nat) (l1 : List (S60)) (r1 : Bool) (r2 : Bool) (w : World) (hr0 : Kd.C k60 w A0 l0.length l0) (hc0 : l0.length ≤ c0) (hr1 : Kd.C k60 w A1 l1.length l1) (hc1 : l1.length ≤ c1) (h : spec_l4Same.f k l0 l1 = some (r1, r2)) :
  Calls Try.prog 35 #[.slice A0 l0.length c0, .slice A1 l1.length c1] w fun e w' => e = .returned (.tuple #[.bool r1, .bool r2]) ∧ Below w.heap.size w w' := by
 have HR0 := aM hr0
 have HC0 := aM hc0
 clear hr0 hc0
 have HR1 := aM hr1
 have HC1 := aM hc1
 clear hr1 hc1
 have HB := aM (Below.refl w.heap.size w)
 have H : ((spec_l4Bytes.f k l0).bind fun t154 => ((spec_l4Bytes.f k l1).bind fun t157 => (if (t154.length : Int) = (t157.length : Int) then (spec_l4Same.l0 k t154 t157 (t154.length : Int) 0) else (some (false, false))))) = some (r1, r2) := h
 clear h
 replace H := Option.bind_eq_some_iff.mp H
 obtain ⟨t154, A30, H⟩ := H
 replace H : ((spec_l4Bytes.f k l1).bind fun t157 => (if (t154.length : Int) = (t157.length : Int) then (spec_l4Same.l0 k t154 t157 (t154.length : Int) 0) else (some (false, false)))) = some (r1, r2) := H
 have A3 := aM A30
 clear A30
 replace H := Option.bind_eq_some_iff.mp H
 obtain ⟨t157, A40, H⟩ := H
 replace H : (if (t154.length : Int) = (t157.length : Int) then (spec_l4Same.l0 k t154 t157 (t154.length : Int) 0) else (some (false, false))) = some (r1, r2) := H
 have A4 := aM A40
 clear A40
 by_cases c5 : (t154.length : Int) = (t157.length : Int)
 rotate_left
 ·rw [if_neg c5] at H
  have c5b0 : ((t154.length : Int) == (t157.length : Int)) = false := beq_eq_false_iff_ne.mpr c5
  have c5b1 : ((t154.length : Int) != (t157.length : Int)) = true := bne_iff_ne.mpr c5
  have c5b2 : (t154.length == t157.length) = false := by first | simpa using c5 | (simp at c5 ⊢; omega)
  simp only [Option.some.injEq, Prod.mk.injEq] at H
  obtain ⟨rfl, rfl⟩ := H
  go_enter Try.func35, Try.ntmps35
  go_wp2_with (first | (go_at_call 41; (with_reducible refine (spec_l4Bytes.calls k _ _ l0 t154 _ ?side1 ?side2 A3.out).mono ?_); (case side1 => exact cC HR0.out); (case side2 => exact HC0.out); rintro e w17 ⟨v155, rfl, ho0, hb⟩; have HO156 := aM (Kd.R_lower ho0 (below_size bB)); replace HB := aM (below_step bB hb); (try clear hb); (try clear hb2); (try clear hk); (try clear hi); (try clear ho0)) | (go_at_call 41; (with_reducible refine (spec_l4Bytes.calls k _ _ l1 t157 _ ?side1 ?side2 A4.out).mono ?_); (case side1 => exact cC (Kd.C_below HR1.out HB.out)); (case side2 => exact HC1.out); rintro e w18 ⟨v158, rfl, ho0, hb⟩; have HO159 := aM (Kd.R_lower (Kd.R_new' ho0 (Kd.R_lt (rR HO156.out))) (below_size bB)); replace HO156 := aM (Kd.R_elder' (rR HO156.out) (Kd.R_base ho0) hb); replace HB := aM (below_step bB hb); (try clear hb); (try clear hb2); (try clear hk); (try clear hi); (try clear ho0); obtain ⟨Ao19, co19, eo19⟩ := Kd.R_slice HO156.out; subst eo19; obtain ⟨Ao20, co20, eo20⟩ := Kd.R_slice HO159.out; subst eo20))
  repeat (go_quiet (first | (go_at_call 41; (with_reducible refine (spec_l4Bytes.calls k _ _ l0 t154 _ ?side1 ?side2 A3.out).mono ?_); (case side1 => exact cC HR0.out); (case side2 => exact HC0.out); rintro e w17 ⟨v155, rfl, ho0, hb⟩; have HO156 := aM (Kd.R_lower ho0 (below_size bB)); replace HB := aM (below_step bB hb); (try clear hb); (try clear hb2); (try clear hk); (try clear hi); (try clear ho0)) | (go_at_call 41; (with_reducible refine (spec_l4Bytes.calls k _ _ l1 t157 _ ?side1 ?side2 A4.out).mono ?_); (case side1 => exact cC (Kd.C_below HR1.out HB.out)); (case side2 => exact HC1.out); rintro e w18 ⟨v158, rfl, ho0, hb⟩; have HO159 := aM (Kd.R_lower (Kd.R_new' ho0 (Kd.R_lt (rR HO156.out))) (below_size bB)); replace HO156 := aM (Kd.R_elder' (rR HO156.out) (Kd.R_base ho0) hb); replace HB := aM (below_step bB hb); (try clear hb); (try clear hb2); (try clear hk); (try clear hi); (try clear ho0); obtain ⟨Ao19, co19, eo19⟩ := Kd.R_slice HO156.out; subst eo19; obtain ⟨Ao20, co20, eo20⟩ := Kd.R_slice HO159.out; subst eo20)); try go_wp2_with (first | (go_at_call 41; (with_reducible refine (spec_l4Bytes.calls k _ _ l0 t154 _ ?side1 ?side2 A3.out).mono ?_); (case side1 => exact cC HR0.out); (case side2 => exact HC0.out); rintro e w17 ⟨v155, rfl, ho0, hb⟩; have HO156 := aM (Kd.R_lower ho0 (below_size bB)); replace HB := aM (below_step bB hb); (try clear hb); (try clear hb2); (try clear hk); (try clear hi); (try clear ho0)) | (go_at_call 41; (with_reducible refine (spec_l4Bytes.calls k _ _ l1 t157 _ ?side1 ?side2 A4.out).mono ?_); (case side1 => exact cC (Kd.C_below HR1.out HB.out)); (case side2 => exact HC1.out); rintro e w18 ⟨v158, rfl, ho0, hb⟩; have HO159 := aM (Kd.R_lower (Kd.R_new' ho0 (Kd.R_lt (rR HO156.out))) (below_size bB)); replace HO156 := aM (Kd.R_elder' (rR HO156.out) (Kd.R_base ho0) hb); replace HB := aM (below_step bB hb); (try clear hb); (try clear hb2); (try clear hk); (try clear hi); (try clear ho0); obtain ⟨Ao19, co19, eo19⟩ := Kd.R_slice HO156.out; subst eo19; obtain ⟨Ao20, co20, eo20⟩ := Kd.R_slice HO159.out; subst eo20)))
  go_ret2
  exact ⟨eR, bB⟩
 rw [if_pos c5] at H
 have c5b0 : ((t154.length : Int) == (t157.length : Int)) = true := beq_iff_eq.mpr c5
 have c5b1 : ((t154.length : Int) != (t157.length : Int)) = false := bne_eq_false_iff_eq.mpr c5
 have c5b2 : (t154.length == t157.length) = true := by first | simpa using c5 | (simp at c5 ⊢; omega)
 clear c5
 have H' := aM H
 clear H
 go_enter Try.func35, Try.ntmps35
 go_wp2_with (first | (go_at_call 41; (with_reducible refine (spec_l4Bytes.calls k _ _ l0 t154 _ ?side1 ?side2 A3.out).mono ?_); (case side1 => exact cC HR0.out); (case side2 => exact HC0.out); rintro e w6 ⟨v155, rfl, ho0, hb⟩; have HO156 := aM (Kd.R_lower ho0 (below_size bB)); replace HB := aM (below_step bB hb); (try clear hb); (try clear hb2); (try clear hk); (try clear hi); (try clear ho0)) | (go_at_call 41; (with_reducible refine (spec_l4Bytes.calls k _ _ l1 t157 _ ?side1 ?side2 A4.out).mono ?_); (case side1 => exact cC (Kd.C_below HR1.out HB.out)); (case side2 => exact HC1.out); rintro e w7 ⟨v158, rfl, ho0, hb⟩; have HO159 := aM (Kd.R_lower (Kd.R_new' ho0 (Kd.R_lt (rR HO156.out))) (below_size bB)); replace HO156 := aM (Kd.R_elder' (rR HO156.out) (Kd.R_base ho0) hb); replace HB := aM (below_step bB hb); (try clear hb); (try clear hb2); (try clear hk); (try clear hi); (try clear ho0); obtain ⟨Ao8, co8, eo8⟩ := Kd.R_slice HO156.out; subst eo8; obtain ⟨Ao9, co9, eo9⟩ := Kd.R_slice HO159.out; subst eo9))
 repeat (go_quiet (first | (go_at_call 41; (with_reducible refine (spec_l4Bytes.calls k _ _ l0 t154 _ ?side1 ?side2 A3.out).mono ?_); (case side1 => exact cC HR0.out); (case side2 => exact HC0.out); rintro e w6 ⟨v155, rfl, ho0, hb⟩; have HO156 := aM (Kd.R_lower ho0 (below_size bB)); replace HB := aM (below_step bB hb); (try clear hb); (try clear hb2); (try clear hk); (try clear hi); (try clear ho0)) | (go_at_call 41; (with_reducible refine (spec_l4Bytes.calls k _ _ l1 t157 _ ?side1 ?side2 A4.out).mono ?_); (case side1 => exact cC (Kd.C_below HR1.out HB.out)); (case side2 => exact HC1.out); rintro e w7 ⟨v158, rfl, ho0, hb⟩; have HO159 := aM (Kd.R_lower (Kd.R_new' ho0 (Kd.R_lt (rR HO156.out))) (below_size bB)); replace HO156 := aM (Kd.R_elder' (rR HO156.out) (Kd.R_base ho0) hb); replace HB := aM (below_step bB hb); (try clear hb); (try clear hb2); (try clear hk); (try clear hi); (try clear ho0); obtain ⟨Ao8, co8, eo8⟩ := Kd.R_slice HO156.out; subst eo8; obtain ⟨Ao9, co9, eo9⟩ := Kd.R_slice HO159.out; subst eo9)); try go_wp2_with (first | (go_at_call 41; (with_reducible refine (spec_l4Bytes.calls k _ _ l0 t154 _ ?side1 ?side2 A3.out).mono ?_); (case side1 => exact cC HR0.out); (case side2 => exact HC0.out); rintro e w6 ⟨v155, rfl, ho0, hb⟩; have HO156 := aM (Kd.R_lower ho0 (below_size bB)); replace HB := aM (below_step bB hb); (try clear hb); (try clear hb2); (try clear hk); (try clear hi); (try clear ho0)) | (go_at_call 41; (with_reducible refine (spec_l4Bytes.calls k _ _ l1 t157 _ ?side1 ?side2 A4.out).mono ?_); (case side1 => exact cC (Kd.C_below HR1.out HB.out)); (case side2 => exact HC1.out); rintro e w7 ⟨v158, rfl, ho0, hb⟩; have HO159 := aM (Kd.R_lower (Kd.R_new' ho0 (Kd.R_lt (rR HO156.out))) (below_size bB)); replace HO156 := aM (Kd.R_elder' (rR HO156.out) (Kd.R_base ho0) hb); replace HB := aM (below_step bB hb); (try clear hb); (try clear hb2); (try clear hk); (try clear hi); (try clear ho0); obtain ⟨Ao8, co8, eo8⟩ := Kd.R_slice HO156.out; subst eo8; obtain ⟨Ao9, co9, eo9⟩ := Kd.R_slice HO159.out; subst eo9)))
 go_loopg [20] k (fun kq v20 w' => ∃ (x20_1 : Int), v20 = .int .i64 x20_1 ∧ Aside0 (spec_l4Same.l0 kq t154 t157 (t154.length : Int) x20_1 = some (r1, r2)) ∧ Aside0 (kq ≤ k) ∧ Aside0 (Kd.R (Kd.int .u8) 5 w' w.heap.size (fun k_ => some k_ ≠ ((.slice Ao9 t157.length co9) : Value).ownBlock) (.slice Ao8 t154.length co8) t154) ∧ Aside0 (Kd.R (Kd.int .u8) 5 w' w.heap.size (fun k_ => some k_ ≠ ((.slice Ao8 t154.length co8) : Value).ownBlock) (.slice Ao9 t157.length co9) t157) ∧ Aside0 (Below w.heap.size w w'))
 case atStart => exact ⟨(0), aP16, H', ⟨Nat.le_refl _⟩, ⟨by (with_reducible repeat (first | apply Kd.R_alloc | apply Kd.R_drewN | apply Kd.R_drew)); exact Kd.R_mono HO156.out (fun _ hk => hk.2)⟩, ⟨by (with_reducible repeat (first | apply Kd.R_alloc | apply Kd.R_drewN | apply Kd.R_drew)); exact Kd.R_mono HO159.out (fun _ hk => hk.2)⟩, ⟨bB⟩⟩
 case round =>
  clear H'
  try clear c1
  try clear p2
  try clear c3
  try clear c5
  try clear c5b0
  try clear c5b1
  try clear c5b2
  obtain ⟨x20_1, rfl, HA, HK1, HO_6, HO_7, HB⟩ := hrel
  cases gk with
  | zero => exact absurd HA.out (by simp [spec_l4Same.l0])
  | succ k1 =>
   have H := HA.out
   clear HA
   simp only [spec_l4Same.l0] at H
   by_cases c10 : x20_1 < (t154.length : Int)
   rotate_left
   ·rw [if_neg c10] at H
    have c10b0 : decide (x20_1 < (t154.length : Int)) = false := decide_eq_false c10
    clear c10
    simp only [Option.some.injEq, Prod.mk.injEq] at H
    obtain ⟨rfl, rfl⟩ := H
    go_wp2
    repeat (go_quiet (fail); try go_wp2)
    go_ret2
    exact ⟨eR, bB⟩
   rw [if_pos c10] at H
   have c10b0 : decide (x20_1 < (t154.length : Int)) = true := decide_eq_true c10
   clear c10
   by_cases c11 : 0 ≤ x20_1
   rotate_left
   ·rw [if_neg c11] at H
    exact absurd H (by simp)
   rw [if_pos c11] at H
   have c11b0 : decide (0 ≤ x20_1) = true := decide_eq_true c11
   clear c11
   by_cases c12 : x20_1 < (t154.length : Int)
   rotate_left
   ·rw [if_neg c12] at H
    exact absurd H (by simp)
   rw [if_pos c12] at H
   have c12b0 : decide (x20_1 < (t154.length : Int)) = true := decide_eq_true c12
   clear c12
   by_cases c13 : (rd t154 x20_1) = 0
   ·rw [if_pos c13] at H
    have c13b0 : ((rd t154 x20_1) == 0) = true := beq_iff_eq.mpr c13
    have c13b1 : ((rd t154 x20_1) != 0) = false := bne_eq_false_iff_eq.mpr c13
    clear c13
    have H' := aM H
    clear H
    have p160 : 0 ≤ (x20_1 : Int) := of_decide_eq_true (by assumption)
    have q160 : x20_1 < (t154.length : Int) := of_decide_eq_true (by assumption)
    obtain ⟨ad160, e160, hx160_0⟩ := Kd.at_int (Kd.R_reads' HO_6.out).2.2 x20_1 p160 q160
    cases e160
    replace p160 := eq_true p160
    replace q160 := eq_true q160
    go_wp2
    repeat (go_quiet (fail); try go_wp2)
    go_roundg k1
    case measure => have := HK1.out; omega
    case rel => exact ⟨(wrap64 (x20_1 + 1)), aP16, H', ⟨by have := HK1.out; omega⟩, ⟨rR HO_6.out⟩, ⟨rR HO_7.out⟩, ⟨bB⟩⟩
   rw [if_neg c13] at H
   have c13b0 : ((rd t154 x20_1) == 0) = false := beq_eq_false_iff_ne.mpr c13
   have c13b1 : ((rd t154 x20_1) != 0) = true := bne_iff_ne.mpr c13
   by_cases c14 : x20_1 < (t157.length : Int)
   rotate_left
   ·rw [if_neg c14] at H
    exact absurd H (by simp)
   rw [if_pos c14] at H
   have c14b0 : decide (x20_1 < (t157.length : Int)) = true := decide_eq_true c14
   clear c14
   by_cases c15 : (rd t157 x20_1) = 0
   ·rw [if_pos c15] at H
    have c15b0 : ((rd t157 x20_1) == 0) = true := beq_iff_eq.mpr c15
    have c15b1 : ((rd t157 x20_1) != 0) = false := bne_eq_false_iff_eq.mpr c15
    clear c15
    have H' := aM H
    clear H
    have p160 : 0 ≤ (x20_1 : Int) := of_decide_eq_true (by assumption)
    have q160 : x20_1 < (t154.length : Int) := of_decide_eq_true (by assumption)
    obtain ⟨ad160, e160, hx160_0⟩ := Kd.at_int (Kd.R_reads' HO_6.out).2.2 x20_1 p160 q160
    cases e160
    replace p160 := eq_true p160
    replace q160 := eq_true q160
    have p161 : 0 ≤ (x20_1 : Int) := of_decide_eq_true (by assumption)
    have q161 : x20_1 < (t157.length : Int) := of_decide_eq_true (by assumption)
    obtain ⟨ad161, e161, hx161_0⟩ := Kd.at_int (Kd.R_reads' HO_7.out).2.2 x20_1 p161 q161
    cases e161
    replace p161 := eq_true p161
    replace q161 := eq_true q161
    go_wp2
    repeat (go_quiet (fail); try go_wp2)
    go_roundg k1
    case measure => have := HK1.out; omega
    case rel => exact ⟨(wrap64 (x20_1 + 1)), aP16, H', ⟨by have := HK1.out; omega⟩, ⟨rR HO_6.out⟩, ⟨rR HO_7.out⟩, ⟨bB⟩⟩
   rw [if_neg c15] at H
   have c15b0 : ((rd t157 x20_1) == 0) = false := beq_eq_false_iff_ne.mpr c15
   have c15b1 : ((rd t157 x20_1) != 0) = true := bne_iff_ne.mpr c15
   by_cases c16 : (rd t154 x20_1) = (rd t157 x20_1)
   ·rw [if_pos c16] at H
    have c16b0 : ((rd t154 x20_1) == (rd t157 x20_1)) = true := beq_iff_eq.mpr c16
    have c16b1 : ((rd t154 x20_1) != (rd t157 x20_1)) = false := bne_eq_false_iff_eq.mpr c16
    clear c16
    have H' := aM H
    clear H
    have p160 : 0 ≤ (x20_1 : Int) := of_decide_eq_true (by assumption)
    have q160 : x20_1 < (t154.length : Int) := of_decide_eq_true (by assumption)
    obtain ⟨ad160, e160, hx160_0⟩ := Kd.at_int (Kd.R_reads' HO_6.out).2.2 x20_1 p160 q160
    cases e160
    replace p160 := eq_true p160
    replace q160 := eq_true q160
    have p161 : 0 ≤ (x20_1 : Int) := of_decide_eq_true (by assumption)
    have q161 : x20_1 < (t157.length : Int) := of_decide_eq_true (by assumption)
    obtain ⟨ad161, e161, hx161_0⟩ := Kd.at_int (Kd.R_reads' HO_7.out).2.2 x20_1 p161 q161
    cases e161
    replace p161 := eq_true p161
    replace q161 := eq_true q161
    have p162 : 0 ≤ (x20_1 : Int) := of_decide_eq_true (by assumption)
    have q162 : x20_1 < (t154.length : Int) := of_decide_eq_true (by assumption)
    obtain ⟨ad162, e162, hx162_0⟩ := Kd.at_int (Kd.R_reads' HO_6.out).2.2 x20_1 p162 q162
    (first | obtain rfl : ad160 = ad162 := (by injection e162) | cases e162)
    replace p162 := eq_true p162
    replace q162 := eq_true q162
    have p163 : 0 ≤ (x20_1 : Int) := of_decide_eq_true (by assumption)
    have q163 : x20_1 < (t157.length : Int) := of_decide_eq_true (by assumption)
    obtain ⟨ad163, e163, hx163_0⟩ := Kd.at_int (Kd.R_reads' HO_7.out).2.2 x20_1 p163 q163
    (first | obtain rfl : ad161 = ad163 := (by injection e163) | cases e163)
    replace p163 := eq_true p163
    replace q163 := eq_true q163
    go_wp2
    repeat (go_quiet (fail); try go_wp2)
    go_roundg k1
    case measure => have := HK1.out; omega
    case rel => exact ⟨(wrap64 (x20_1 + 1)), aP16, H', ⟨by have := HK1.out; omega⟩, ⟨rR HO_6.out⟩, ⟨rR HO_7.out⟩, ⟨bB⟩⟩
   rw [if_neg c16] at H
   have c16b0 : ((rd t154 x20_1) == (rd t157 x20_1)) = false := beq_eq_false_iff_ne.mpr c16
   have c16b1 : ((rd t154 x20_1) != (rd t157 x20_1)) = true := bne_iff_ne.mpr c16
   simp only [Option.some.injEq, Prod.mk.injEq] at H
   obtain ⟨rfl, rfl⟩ := H
   have p160 : 0 ≤ (x20_1 : Int) := of_decide_eq_true (by assumption)
   have q160 : x20_1 < (t154.length : Int) := of_decide_eq_true (by assumption)
   obtain ⟨ad160, e160, hx160_0⟩ := Kd.at_int (Kd.R_reads' HO_6.out).2.2 x20_1 p160 q160
   cases e160
   replace p160 := eq_true p160
   replace q160 := eq_true q160
   have p161 : 0 ≤ (x20_1 : Int) := of_decide_eq_true (by assumption)
   have q161 : x20_1 < (t157.length : Int) := of_decide_eq_true (by assumption)
   obtain ⟨ad161, e161, hx161_0⟩ := Kd.at_int (Kd.R_reads' HO_7.out).2.2 x20_1 p161 q161
   cases e161
   replace p161 := eq_true p161
   replace q161 := eq_true q161
   have p162 : 0 ≤ (x20_1 : Int) := of_decide_eq_true (by assumption)
   have q162 : x20_1 < (t154.length : Int) := of_decide_eq_true (by assumption)
   obtain ⟨ad162, e162, hx162_0⟩ := Kd.at_int (Kd.R_reads' HO_6.out).2.2 x20_1 p162 q162
   (first | obtain rfl : ad160 = ad162 := (by injection e162) | cases e162)
   replace p162 := eq_true p162
   replace q162 := eq_true q162
   have p163 : 0 ≤ (x20_1 : Int) := of_decide_eq_true (by assumption)
   have q163 : x20_1 < (t157.length : Int) := of_decide_eq_true (by assumption)
   obtain ⟨ad163, e163, hx163_0⟩ := Kd.at_int (Kd.R_reads' HO_7.out).2.2 x20_1 p163 q163
   (first | obtain rfl : ad161 = ad163 := (by injection e163) | cases e163)
   replace p163 := eq_true p163
   replace q163 := eq_true q163
   go_wp2
   repeat (go_quiet (fail); try go_wp2)
   go_ret2
   exact ⟨eR, bB⟩
end Go.Proofs.Ytoagljlnfakgjaa.PFnOver
