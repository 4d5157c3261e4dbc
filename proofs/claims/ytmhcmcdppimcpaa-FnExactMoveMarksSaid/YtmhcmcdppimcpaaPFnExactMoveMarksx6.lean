/- (thin) Written by a program of this session (wip/ovl.py) over the kit's print: plain functions with the answers of the Go functions, and the proofs that they are; no condition. -/
import Derived.Test.YtmhcmcdppimcpaaPFnExactMoveMarksx0
import Derived.Test.YtmhcmcdppimcpaaPFnExactMoveMarksx5
namespace Go.Proofs.Ytmhcmcdppimcpaa.PFnExactMoveMarks
open Go.RowKit Go.Proofs.YtmhcmcdppimcpaaW.PrintWords Go.Proofs.YtmhcmcdppimcpaaW.PrintLast Go.Proofs.YtmhcmcdppimcpaaW.PrintMore
attribute [local go_sem] max2_int min2_int max_two min_two max_three min_three max_four min_four   -- for this text's walks alone
set_option linter.unusedVariables false
set_option linter.unusedSimpArgs false
def spec_l3Normal.l0 : Nat → List (S61) → List (S61) → Int → Int → Option ((List (S61)))
 | 0, _, _, _, _ => none
 | k + 1, x3, x6, x7, x8 => if x8 < x7 then (if 0 ≤ x8 then (if x8 < (x6.length : Int) then ((spec_l3Add.f k x3 ((rd_T61 x6 x8).f0) ((rd_T61 x6 x8).f1) ((rd_T61 x6 x8).f2)).bind fun t186 => (spec_l3Normal.l0 k t186 x6 x7 (wrap64 (x8 + 1)))) else (none)) else (none)) else (some x3)
def spec_l3Normal.f (k : Nat) (l0 : List (S61)) : Option ((List (S61))) := spec_l3Normal.l0 k ([] : List (S61)) l0 (l0.length : Int) 0
theorem spec_l3Normal.mono_l : ∀ k, (∀ y0 y1 y2 y3, LeO (spec_l3Normal.l0 k y0 y1 y2 y3) (spec_l3Normal.l0 (k + 1) y0 y1 y2 y3))
 | 0 => fun _ _ _ _ r h => by simp [spec_l3Normal.l0] at h
 | k + 1 => by
  have ih0 := spec_l3Normal.mono_l k
  ·intro y0 y1 y2 y3
   unfold spec_l3Normal.l0
   repeat' (with_reducible first | exact ih0 _ _ _ _ | exact spec_l3Add.mono _ _ _ _ _ | exact LeO.refl _ | exact LeO.none _ | refine LeO.ite ?_ ?_ | refine LeO.bind ?_ (fun _ => ?_))
theorem spec_l3Normal.mono : ∀ a0 k, LeO (spec_l3Normal.f k a0) (spec_l3Normal.f (k + 1) a0) := by
 intro a0 k
 have ih0 := spec_l3Normal.mono_l k
 unfold spec_l3Normal.f
 repeat' (with_reducible first | exact ih0 _ _ _ _ | exact spec_l3Add.mono _ _ _ _ _ | exact LeO.refl _ | exact LeO.none _ | refine LeO.ite ?_ ?_ | refine LeO.bind ?_ (fun _ => ?_))
set_option maxHeartbeats 8000000 in
set_option maxRecDepth 100000 in
theorem spec_l3Normal.calls (k : Nat) (A0 : Option Addr) (c0 : Nat) (l0 : List (S61)) (r : List (S61)) (w : World) (hr0 : Kd.C k61 w A0 l0.length l0) (hc0 : l0.length ≤ c0) (h : spec_l3Normal.f k l0 = some r) :
  Calls Try.prog 65 #[.slice A0 l0.length c0] w fun e w' => ∃ v0_ : Value, e = .returned (v0_) ∧ Kd.R k61 61 w' w.heap.size (fun _ => True) v0_ r ∧ Below w.heap.size w w' := by
 have hu61 := Try.underlying61
 have HR0 := aM hr0
 have HC0 := aM hc0
 clear hr0 hc0
 have HB := aM (Below.refl w.heap.size w)
 have H : (spec_l3Normal.l0 k ([] : List (S61)) l0 (l0.length : Int) 0) = some r := h
 clear h
 have H' := aM H
 clear H
 go_enter Try.func65, Try.ntmps65
 go_wp2
 go_loopg [3, 8] k (fun kq v3 v8 w' => ∃ (x3_1 : List (S61)) (x8_1 : Int), v8 = .int .i64 x8_1 ∧ Aside0 (spec_l3Normal.l0 kq x3_1 l0 (l0.length : Int) x8_1 = some r) ∧ Aside0 (kq ≤ k) ∧ Aside0 (Kd.R k61 61 w' w.heap.size (fun _ => True) v3 x3_1) ∧ Aside0 (Below w.heap.size w w'))
 case atStart => exact ⟨(([] : List (S61))), (0), aP32, H', ⟨Nat.le_refl _⟩, ⟨by first | exact Kd.R_nil _ _ _ _ _ | exact Kd.N_nil _ _ _ _ _ | exact Kd.V_nil _ _ _ _ _ | exact Kd.Q_nil _ _ _ _ _ | exact Kd.S_nil _ _ _ _ _⟩, ⟨bB⟩⟩
 case round =>
  clear H'
  obtain ⟨x3_1, x8_1, rfl, HA, HK1, HO_3, HB⟩ := hrel
  cases gk with
  | zero => exact absurd HA.out (by simp [spec_l3Normal.l0])
  | succ k1 =>
   have H := HA.out
   clear HA
   simp only [spec_l3Normal.l0] at H
   by_cases c2 : x8_1 < (l0.length : Int)
   rotate_left
   ·rw [if_neg c2] at H
    have c2b0 : decide (x8_1 < (l0.length : Int)) = false := decide_eq_false c2
    clear c2
    obtain rfl := Option.some.inj H
    go_wp2
    go_ret
    exact ⟨_, by first | rfl | (simp [errW_none, errW_some] <;> rfl) | (simp [*, errW_none, errW_some] <;> rfl), by (with_reducible repeat (first | apply Kd.R_alloc | apply Kd.R_drewN | apply Kd.R_drew)); exact HO_3.out, bB⟩
   rw [if_pos c2] at H
   have c2b0 : decide (x8_1 < (l0.length : Int)) = true := decide_eq_true c2
   clear c2
   by_cases c3 : 0 ≤ x8_1
   rotate_left
   ·rw [if_neg c3] at H
    exact absurd H (by simp)
   rw [if_pos c3] at H
   have c3b0 : decide (0 ≤ x8_1) = true := decide_eq_true c3
   clear c3
   by_cases c4 : x8_1 < (l0.length : Int)
   rotate_left
   ·rw [if_neg c4] at H
    exact absurd H (by simp)
   rw [if_pos c4] at H
   have c4b0 : decide (x8_1 < (l0.length : Int)) = true := decide_eq_true c4
   clear c4
   replace H := Option.bind_eq_some_iff.mp H
   obtain ⟨t186, A50, H⟩ := H
   replace H : (spec_l3Normal.l0 k1 t186 l0 (l0.length : Int) (wrap64 (x8_1 + 1))) = some r := H
   have A5 := aM A50
   clear A50
   have H' := aM H
   clear H
   have p184 : 0 ≤ (x8_1 : Int) := of_decide_eq_true (by assumption)
   have q184 : x8_1 < (l0.length : Int) := of_decide_eq_true (by assumption)
   obtain ⟨ad184, e184, hx184_0, hx184_1, hx184_2⟩ := at_T61 HR0.out x8_1 p184 q184
   cases e184
   replace hx184_0 := hC HB.out hx184_0
   replace hx184_1 := hC HB.out hx184_1
   replace hx184_2 := hC HB.out hx184_2
   replace p184 := eq_true p184
   replace q184 := eq_true q184
   go_wp2_with (first | ((with_reducible refine gate_dst (N := 5) rfl ?_); refine box_event ?hg (N := 5) ?hd (cs := #[.int .i64 0, .string (⟨#[]⟩ : ByteArray), .string (⟨#[]⟩ : ByteArray)]) (t := 61) ?hr ?_; (case hd => rfl); (case hg => rfl); (case hr => exact aP40); intro gb185 hg w6 hbox hb; have BK185 := aM (hbox); have GW185 := aM (bG (w := w) hg); have GE185 := aM (bG (w := w) hg); replace HO_3 := aM (Kd.R_below (Kd.R_elderB (rR HO_3.out) gb185 (Nat.le_of_eq hg.symm)) hb); replace HB := aM (below_step bB hb); clear hb hbox hg; obtain ⟨hcz7_0, hcz7_1, hcz7_2, hfz7_0, hfz7_1, hfz7_2⟩ := bx3 BK185.out) | ((with_reducible refine gate_store (t := 61) (p := 5) rfl ?_); refine store_event (t := 61) (p := 5) (v := ?vo_w8) (w1 := (((w6.setCell ⟨gb185, 0, none⟩ (.int .i64 ((rd_T61 l0 x8_1).f0))).setCell ⟨gb185, 1, none⟩ (.string ((rd_T61 l0 x8_1).f1))).setCell ⟨gb185, 2, none⟩ (.string ((rd_T61 l0 x8_1).f2)))) ?hg ?ho ?hn ?hr ?_; (case ho => rfl); (case hg => rfl); (case hn => rfl); (case hr => exact aP40); intro w8 hw; have n0_ : Aside0 (Kd.R k61 61 w8 w.heap.size (fun k_ => k_ ≠ gb185) u3 x3_1) := ⟨(by rw [hw]; exact (by (with_reducible repeat (first | apply Kd.R_alloc | apply Kd.R_drewN | apply Kd.R_drew)); exact Kd.R_mono (Kd.R_far (p := ⟨gb185, 2, none⟩) (Kd.R_far (p := ⟨gb185, 1, none⟩) (Kd.R_far (p := ⟨gb185, 0, none⟩) (Kd.R_mono HO_3.out (fun k_ hk => (⟨hk, hk.2⟩ : _ ∧ k_ ≠ gb185))) (fun _ hk => hk.2) (.int .i64 ((rd_T61 l0 x8_1).f0))) (fun _ hk => hk.2) (.string ((rd_T61 l0 x8_1).f1))) (fun _ hk => hk.2) (.string ((rd_T61 l0 x8_1).f2))) (fun _ hk => hk.1.2)))⟩; have n1_ : Aside0 (w8.heap[gb185]? = some (.cells #[.int .i64 ((rd_T61 l0 x8_1).f0), .string ((rd_T61 l0 x8_1).f1), .string ((rd_T61 l0 x8_1).f2)] 61 (0, 0))) := ⟨(by rw [hw]; exact (by (with_reducible repeat (first | refine blk_drewN ?_ _ | refine blk_drew ?_ | refine blk_alloc ?_ _)); refine blk_put (cs := #[.int .i64 ((rd_T61 l0 x8_1).f0), .string ((rd_T61 l0 x8_1).f1), .string (⟨#[]⟩ : ByteArray)]) ?_ 2 _ rfl; (with_reducible repeat (first | refine blk_drewN ?_ _ | refine blk_drew ?_ | refine blk_alloc ?_ _)); refine blk_put (cs := #[.int .i64 ((rd_T61 l0 x8_1).f0), .string (⟨#[]⟩ : ByteArray), .string (⟨#[]⟩ : ByteArray)]) ?_ 1 _ rfl; (with_reducible repeat (first | refine blk_drewN ?_ _ | refine blk_drew ?_ | refine blk_alloc ?_ _)); refine blk_put (cs := #[.int .i64 0, .string (⟨#[]⟩ : ByteArray), .string (⟨#[]⟩ : ByteArray)]) ?_ 0 _ rfl; exact kK BK185.out))⟩; have n2_ : Aside0 (Below w.heap.size w w8) := ⟨(by rw [hw]; exact aP29)⟩; clear hw; clear HO_3; clear BK185; clear HB; have HO_3 := n0_; have BK185 := n1_; have HB := n2_; clear n0_ n1_ n2_; obtain ⟨hcz9_0, hcz9_1, hcz9_2, hfz9_0, hfz9_1, hfz9_2⟩ := bx3 BK185.out; obtain ⟨Ao10, co10, eo10⟩ := Kd.R_slice HO_3.out; subst eo10) | ((with_reducible refine gate_callee (f := 80) rfl ?_); refine goesL_ (some 14) rfl rfl Try.func80 (by kernel_rfl) rfl #[.slice Ao10 x3_1.length co10, .agg #[.int .i64 ((rd_T61 l0 x8_1).f0), .string ((rd_T61 l0 x8_1).f1), .string ((rd_T61 l0 x8_1).f2)]] rfl mM ?_; (with_reducible refine (spec_l3Add.calls k1 (fun k_ => some k_ = (.slice Ao10 x3_1.length co10 : Value).ownBlock) (.slice Ao10 x3_1.length co10) x3_1 ((rd_T61 l0 x8_1).f0) ((rd_T61 l0 x8_1).f1) ((rd_T61 l0 x8_1).f2) t186 w _ ?side1 ?side2 A5.out).mono ?_); (case side1 => exact aP29); (case side2 => exact Kd.R_tight rfl HO_3.out); rintro e w11 ⟨v187, rfl, ho0, hb, hkp⟩; refine ⟨_, rfl, ?_⟩; have n0_ := aM (blk_kept (kK BK185.out) hkp (fun hs_ => (fun e_ => (Kd.R_away HO_3.out (fun _ hk => hk)) e_) hs_)); have n1_ := aM (Kd.R_mono (ok' := fun k_ => k_ ≠ gb185) ho0 (fun k_ hk_ => Or.elim hk_ (fun hs_ => fun e_ => (Kd.R_away HO_3.out (fun _ hk => hk)) (by rw [← e_]; exact hs_)) (fun hn_ => (Kd.freshB (g := gb185) (o := .cells #[.int .i64 ((rd_T61 l0 x8_1).f0), .string ((rd_T61 l0 x8_1).f1), .string ((rd_T61 l0 x8_1).f2)] 61 (0, 0)) (kK BK185.out) k_ hn_)))); have n2_ := aM (hb); clear BK185; clear HB; clear HO_3; have BK185 := n0_; have HO188 := n1_; have HB := n2_; clear n0_ n1_ n2_; (try clear hb); (try clear hkp); (try clear ho0)))
   go_roundg k1
   case measure => have := HK1.out; omega
   case rel => exact ⟨(t186), (wrap64 (x8_1 + 1)), aP32, H', ⟨by have := HK1.out; omega⟩, ⟨by (with_reducible repeat (first | apply Kd.R_alloc | apply Kd.R_drewN | apply Kd.R_drew)); exact Kd.R_mono HO188.out (fun _ hk => trivial)⟩, ⟨aP29⟩⟩
def spec_l4Bytes.l0 : Nat → List Int → List (S61) → Int → Int → Option (List Int)
 | 0, _, _, _, _ => none
 | k + 1, x3, x6, x7, x8 => if x8 < x7 then (if 0 ≤ x8 then (if x8 < (x6.length : Int) then (if 0 ≤ ((rd_T61 x6 x8).f0) then (if x3.length + ((rd_T61 x6 x8).f0 : Int).toNat < 140737488355328 then ((some (x3 ++ List.replicate ((rd_T61 x6 x8).f0 : Int).toNat 0 : List Int)).bind fun y191 => (if y191.length + ((rd_T61 x6 x8).f2).size < 140737488355328 then (spec_l4Bytes.l0 k (y191 ++ bytesOf ((rd_T61 x6 x8).f2)) x6 x7 (wrap64 (x8 + 1))) else (none))) else (none)) else (none)) else (none)) else (none)) else (some x3)
def spec_l4Bytes.f (k : Nat) (l0 : List (S61)) : Option (List Int) := spec_l4Bytes.l0 k ([] : List Int) l0 (l0.length : Int) 0
theorem spec_l4Bytes.mono_l : ∀ k, (∀ y0 y1 y2 y3, LeO (spec_l4Bytes.l0 k y0 y1 y2 y3) (spec_l4Bytes.l0 (k + 1) y0 y1 y2 y3))
 | 0 => fun _ _ _ _ r h => by simp [spec_l4Bytes.l0] at h
 | k + 1 => by
  have ih0 := spec_l4Bytes.mono_l k
  ·intro y0 y1 y2 y3
   unfold spec_l4Bytes.l0
   repeat' (with_reducible first | exact ih0 _ _ _ _ | exact LeO.refl _ | exact LeO.none _ | refine LeO.ite ?_ ?_ | refine LeO.bind ?_ (fun _ => ?_))
theorem spec_l4Bytes.mono : ∀ a0 k, LeO (spec_l4Bytes.f k a0) (spec_l4Bytes.f (k + 1) a0) := by
 intro a0 k
 have ih0 := spec_l4Bytes.mono_l k
 unfold spec_l4Bytes.f
 repeat' (with_reducible first | exact ih0 _ _ _ _ | exact LeO.refl _ | exact LeO.none _ | refine LeO.ite ?_ ?_ | refine LeO.bind ?_ (fun _ => ?_))
set_option maxHeartbeats 8000000 in
set_option maxRecDepth 100000 in
theorem spec_l4Bytes.calls (k : Nat) (A0 : Option Addr) (c0 : Nat) (l0 : List (S61)) (r : List Int) (w : World) (hr0 : Kd.C k61 w A0 l0.length l0) (hc0 : l0.length ≤ c0) (h : spec_l4Bytes.f k l0 = some r) :
  Calls Try.prog 82 #[.slice A0 l0.length c0] w fun e w' => ∃ v0_ : Value, e = .returned (v0_) ∧ Kd.R (Kd.int .u8) 5 w' w.heap.size (fun _ => True) v0_ r ∧ Below w.heap.size w w' := by
 have hu61 := Try.underlying61
 have HR0 := aM hr0
 have HC0 := aM hc0
 clear hr0 hc0
 have HB := aM (Below.refl w.heap.size w)
 have H : (spec_l4Bytes.l0 k ([] : List Int) l0 (l0.length : Int) 0) = some r := h
 clear h
 have H' := aM H
 clear H
 go_enter Try.func82, Try.ntmps82
 go_wp2
 go_loopg [3, 8] k (fun kq v3 v8 w' => ∃ (x3_1 : List Int) (x8_1 : Int), v8 = .int .i64 x8_1 ∧ Aside0 (spec_l4Bytes.l0 kq x3_1 l0 (l0.length : Int) x8_1 = some r) ∧ Aside0 (kq ≤ k) ∧ Aside0 (Kd.R (Kd.int .u8) 5 w' w.heap.size (fun _ => True) v3 x3_1) ∧ Aside0 (Below w.heap.size w w'))
 case atStart => exact ⟨(([] : List Int)), (0), aP32, H', ⟨Nat.le_refl _⟩, ⟨by first | exact Kd.R_nil _ _ _ _ _ | exact Kd.N_nil _ _ _ _ _ | exact Kd.V_nil _ _ _ _ _ | exact Kd.Q_nil _ _ _ _ _ | exact Kd.S_nil _ _ _ _ _⟩, ⟨bB⟩⟩
 case round =>
  clear H'
  obtain ⟨x3_1, x8_1, rfl, HA, HK1, HO_3, HB⟩ := hrel
  cases gk with
  | zero => exact absurd HA.out (by simp [spec_l4Bytes.l0])
  | succ k1 =>
   have H := HA.out
   clear HA
   simp only [spec_l4Bytes.l0] at H
   by_cases c2 : x8_1 < (l0.length : Int)
   rotate_left
   ·rw [if_neg c2] at H
    have c2b0 : decide (x8_1 < (l0.length : Int)) = false := decide_eq_false c2
    clear c2
    obtain rfl := Option.some.inj H
    go_wp2
    go_ret
    exact ⟨_, by first | rfl | (simp [errW_none, errW_some] <;> rfl) | (simp [*, errW_none, errW_some] <;> rfl), by (with_reducible repeat (first | apply Kd.R_alloc | apply Kd.R_drewN | apply Kd.R_drew)); exact HO_3.out, bB⟩
   rw [if_pos c2] at H
   have c2b0 : decide (x8_1 < (l0.length : Int)) = true := decide_eq_true c2
   clear c2
   by_cases c3 : 0 ≤ x8_1
   rotate_left
   ·rw [if_neg c3] at H
    exact absurd H (by simp)
   rw [if_pos c3] at H
   have c3b0 : decide (0 ≤ x8_1) = true := decide_eq_true c3
   clear c3
   by_cases c4 : x8_1 < (l0.length : Int)
   rotate_left
   ·rw [if_neg c4] at H
    exact absurd H (by simp)
   rw [if_pos c4] at H
   have c4b0 : decide (x8_1 < (l0.length : Int)) = true := decide_eq_true c4
   clear c4
   by_cases c5 : 0 ≤ ((rd_T61 l0 x8_1).f0)
   rotate_left
   ·rw [if_neg c5] at H
    exact absurd H (by simp)
   rw [if_pos c5] at H
   have c5b0 := eq_true c5
   have c5b1 : decide (0 ≤ ((rd_T61 l0 x8_1).f0)) = true := decide_eq_true c5
   clear c5
   by_cases c6 : x3_1.length + ((rd_T61 l0 x8_1).f0 : Int).toNat < 140737488355328
   rotate_left
   ·rw [if_neg c6] at H
    exact absurd H (by simp)
   rw [if_pos c6] at H
   have LMc6 := aM c6
   clear c6
   obtain ⟨y191, hy191⟩ : ∃ y_ : List Int, y_ = (x3_1 ++ List.replicate ((rd_T61 l0 x8_1).f0 : Int).toNat 0) := ⟨_, rfl⟩
   replace H : (if y191.length + ((rd_T61 l0 x8_1).f2).size < 140737488355328 then (spec_l4Bytes.l0 k1 (y191 ++ bytesOf ((rd_T61 l0 x8_1).f2)) l0 (l0.length : Int) (wrap64 (x8_1 + 1))) else (none)) = some r := by first | (rw [hy191]; with_reducible exact H) | (have H2_ := (Option.bind_some _ _).symm.trans H; rw [hy191]; with_reducible exact H2_) | (have H2_ := (Option.bind_some _ _).symm.trans H; with_reducible exact H2_) | with_reducible exact H | (rw [hy191]; exact H) | exact H
   have Ny191 := aM hy191
   clear hy191
   by_cases c7 : y191.length + ((rd_T61 l0 x8_1).f2).size < 140737488355328
   rotate_left
   ·rw [if_neg c7] at H
    exact absurd H (by simp)
   rw [if_pos c7] at H
   have LMc7 := aM c7
   clear c7
   obtain ⟨y194, hy194⟩ : ∃ y_ : List Int, y_ = (y191 ++ bytesOf ((rd_T61 l0 x8_1).f2)) := ⟨_, rfl⟩
   replace H : (spec_l4Bytes.l0 k1 y194 l0 (l0.length : Int) (wrap64 (x8_1 + 1))) = some r := by first | (rw [hy194]; with_reducible exact H) | (have H2_ := (Option.bind_some _ _).symm.trans H; rw [hy194]; with_reducible exact H2_) | (have H2_ := (Option.bind_some _ _).symm.trans H; with_reducible exact H2_) | with_reducible exact H | (rw [hy194]; exact H) | exact H
   have Ny194 := aM hy194
   clear hy194
   have H' := aM H
   clear H
   have p189 : 0 ≤ (x8_1 : Int) := of_decide_eq_true (by assumption)
   have q189 : x8_1 < (l0.length : Int) := of_decide_eq_true (by assumption)
   obtain ⟨ad189, e189, hx189_0, hx189_1, hx189_2⟩ := at_T61 HR0.out x8_1 p189 q189
   cases e189
   replace hx189_0 := hC HB.out hx189_0
   replace hx189_1 := hC HB.out hx189_1
   replace hx189_2 := hC HB.out hx189_2
   replace p189 := eq_true p189
   replace q189 := eq_true q189
   go_wp2_with (first | ((with_reducible refine gate_dst (N := 5) rfl ?_); refine box_event ?hg (N := 5) ?hd (cs := #[.int .i64 0, .string (⟨#[]⟩ : ByteArray), .string (⟨#[]⟩ : ByteArray)]) (t := 61) ?hr ?_; (case hd => rfl); (case hg => rfl); (case hr => exact aP40); intro gb190 hg w8 hbox hb; have BK190 := aM (hbox); have GW190 := aM (bG (w := w) hg); have GE190 := aM (bG (w := w) hg); replace HO_3 := aM (Kd.R_below (rR HO_3.out) hb); replace HB := aM (below_step bB hb); clear hb hbox hg; obtain ⟨hcz9_0, hcz9_1, hcz9_2, hfz9_0, hfz9_1, hfz9_2⟩ := bx3 BK190.out) | (at_builtin; refine Kd.R_append_zeros (Kd.int .u8) (w0 := w) w.heap.size rfl (.tmp 12) (.tmp 14) 52 3 5 (.int .u8 0) 1 rfl Try.underlying52 Try.underlying3 info5 rfl (by decide) (by omega) u3 x3_1 0 ((rd_T61 l0 x8_1).f0 : Int) (fun _ => True) rfl rfl rfl ?aF ?aO (of_decide_eq_true (by assumption)) ?aB ?aS ?aL ?_; (case aB => exact aP18); (case aF => exact (fun _ _ => trivial)); (case aO => exact (by (with_reducible repeat (first | apply Kd.R_alloc | apply Kd.R_drewN | apply Kd.R_drew)); exact Kd.R_mono (Kd.R_far (p := ⟨gb190, 2, none⟩) (Kd.R_far (p := ⟨gb190, 1, none⟩) (Kd.R_far (p := ⟨gb190, 0, none⟩) (Kd.R_types HO_3.out BK190.out (by decide)) (fun _ hk => hk.2) (.int .i64 ((rd_T61 l0 x8_1).f0))) (fun _ hk => hk.2) (.string ((rd_T61 l0 x8_1).f1))) (fun _ hk => hk.2) (.string ((rd_T61 l0 x8_1).f2))) (fun _ hk => trivial))); (case aS => exact (below_size aP18)); (case aL => have := LMc6.out; omega); intro v192 w10 ho hb hg hat; rw [← Ny191.out] at ho; have n0_ := aM (blk_grown (g := gb190) (o := .cells #[.int .i64 ((rd_T61 l0 x8_1).f0), .string ((rd_T61 l0 x8_1).f1), .string ((rd_T61 l0 x8_1).f2)] 61 (0, 0)) (by (with_reducible repeat (first | refine blk_drewN ?_ _ | refine blk_drew ?_ | refine blk_alloc ?_ _)); refine blk_put (cs := #[.int .i64 ((rd_T61 l0 x8_1).f0), .string ((rd_T61 l0 x8_1).f1), .string (⟨#[]⟩ : ByteArray)]) ?_ 2 _ rfl; (with_reducible repeat (first | refine blk_drewN ?_ _ | refine blk_drew ?_ | refine blk_alloc ?_ _)); refine blk_put (cs := #[.int .i64 ((rd_T61 l0 x8_1).f0), .string (⟨#[]⟩ : ByteArray), .string (⟨#[]⟩ : ByteArray)]) ?_ 1 _ rfl; (with_reducible repeat (first | refine blk_drewN ?_ _ | refine blk_drew ?_ | refine blk_alloc ?_ _)); refine blk_put (cs := #[.int .i64 0, .string (⟨#[]⟩ : ByteArray), .string (⟨#[]⟩ : ByteArray)]) ?_ 0 _ rfl; exact kK BK190.out) hg (Kd.R_ne HO_3.out BK190.out (by decide))); have n1_ := aM (hb); have n2_ := aM (ho); clear BK190; clear HB; clear HO_3; have BK190 := n0_; have HB := n1_; have HO193 := n2_; clear n0_ n1_ n2_; clear ho hb hg hat; obtain ⟨hcz11_0, hcz11_1, hcz11_2, hfz11_0, hfz11_1, hfz11_2⟩ := bx3 BK190.out) | (at_builtin; refine print_append_str (w0 := w) w.heap.size rfl (.tmp 16) _ 52 9 5 rfl Try.underlying52 Try.underlying9 info5 v192 y191 ((rd_T61 l0 x8_1).f2) rfl rfl ?aO ?aB ?aS ?aL ?_; (case aB => exact aP18); (case aO => exact (Kd.own_of_R (rR HO193.out))); (case aS => exact (below_size aP18)); (case aL => have := LMc7.out; omega); intro v195 w12 ho0 hb hg; have ho := Kd.R_of_own (h1 := fun _ => rfl) (ok := fun _ => True) ho0 (fun _ _ => trivial); clear ho0; have hat := True.intro; rw [← Ny194.out] at ho; change Kd.R (Kd.int .u8) 5 w12 w.heap.size (fun _ => True) v195 y194 at ho; have HO196 := aM (ho); replace BK190 := aM (blk_grown (g := gb190) (o := .cells #[.int .i64 ((rd_T61 l0 x8_1).f0), .string ((rd_T61 l0 x8_1).f1), .string ((rd_T61 l0 x8_1).f2)] 61 (0, 0)) (kK BK190.out) hg (Kd.R_ne HO193.out BK190.out (by decide))); replace HB := aM (hb); clear ho hb hg hat))
   go_roundg k1
   case measure => have := HK1.out; omega
   case rel => exact ⟨(y194), (wrap64 (x8_1 + 1)), aP32, H', ⟨by have := HK1.out; omega⟩, ⟨rR HO196.out⟩, ⟨aP18⟩⟩
def spec_l5Kept.l0 : Nat → Int → List Int → Int → Option (Bool)
 | 0, _, _, _ => none
 | k + 1, x2, x7, x8 => if x8 < x2 then (if 0 ≤ x8 then (if x8 < (x7.length : Int) then (if (rd x7 x8) = 0 then (some true) else (spec_l5Kept.l0 k x2 x7 (wrap64 (x8 + 1)))) else (none)) else (none)) else (some false)
def spec_l5Kept.f (k : Nat) (l0 : List (S61)) (a1 : Int) (a2 : Int) : Option (Bool) := (spec_l4Bytes.f k l0).bind fun t197 => (spec_l5Kept.l0 k a2 t197 a1)
theorem spec_l5Kept.mono_l : ∀ k, (∀ y0 y1 y2, LeO (spec_l5Kept.l0 k y0 y1 y2) (spec_l5Kept.l0 (k + 1) y0 y1 y2))
 | 0 => fun _ _ _ r h => by simp [spec_l5Kept.l0] at h
 | k + 1 => by
  have ih0 := spec_l5Kept.mono_l k
  ·intro y0 y1 y2
   unfold spec_l5Kept.l0
   repeat' (with_reducible first | exact ih0 _ _ _ | exact spec_l4Bytes.mono _ _ | exact LeO.refl _ | exact LeO.none _ | refine LeO.ite ?_ ?_ | refine LeO.bind ?_ (fun _ => ?_))
theorem spec_l5Kept.mono : ∀ a0 a1 a2 k, LeO (spec_l5Kept.f k a0 a1 a2) (spec_l5Kept.f (k + 1) a0 a1 a2) := by
 intro a0 a1 a2 k
 have ih0 := spec_l5Kept.mono_l k
 unfold spec_l5Kept.f
 repeat' (with_reducible first | exact ih0 _ _ _ | exact spec_l4Bytes.mono _ _ | exact LeO.refl _ | exact LeO.none _ | refine LeO.ite ?_ ?_ | refine LeO.bind ?_ (fun _ => ?_))
set_option maxHeartbeats 8000000 in
set_option maxRecDepth 100000 in
theorem spec_l5Kept.calls (k : Nat) (A0 : Option Addr) (c0 : Nat) (l0 : List (S61)) (a1 : Int) (a2 : Int) (r : Bool) (w : World) (hr0 : Kd.C k61 w A0 l0.length l0) (hc0 : l0.length ≤ c0) (h : spec_l5Kept.f k l0 a1 a2 = some r) :
  Calls Try.prog 68 #[.slice A0 l0.length c0, .int .i64 a1, .int .i64 a2] w fun e w' => e = .returned (.bool r) ∧ Below w.heap.size w w' := by
 have HR0 := aM hr0
 have HC0 := aM hc0
 clear hr0 hc0
 have HB := aM (Below.refl w.heap.size w)
 have H : ((spec_l4Bytes.f k l0).bind fun t197 => (spec_l5Kept.l0 k a2 t197 a1)) = some r := h
 clear h
 replace H := Option.bind_eq_some_iff.mp H
 obtain ⟨t197, A40, H⟩ := H
 replace H : (spec_l5Kept.l0 k a2 t197 a1) = some r := H
 have A4 := aM A40
 clear A40
 have H' := aM H
 clear H
 go_enter Try.func68, Try.ntmps68
 go_wp2_with (first | ((with_reducible refine gate_callee (f := 82) rfl ?_); refine goesL_ (some 10) rfl rfl Try.func82 (by kernel_rfl) rfl #[.slice A0 l0.length c0] rfl mM ?_; (with_reducible refine (spec_l4Bytes.calls k _ _ l0 t197 _ ?side1 ?side2 A4.out).mono ?_); (case side1 => exact cC HR0.out); (case side2 => exact HC0.out); rintro e w5 ⟨v198, rfl, ho0, hb⟩; refine ⟨_, rfl, ?_⟩; have HO199 := aM (Kd.R_lower ho0 (below_size bB)); replace HB := aM (below_step bB hb); (try clear hb); (try clear hb2); (try clear hk); (try clear hi); (try clear ho0)))
 go_loopg [8] k (fun kq v8 w' => ∃ (x8_1 : Int), v8 = .int .i64 x8_1 ∧ Aside0 (spec_l5Kept.l0 kq a2 t197 x8_1 = some r) ∧ Aside0 (kq ≤ k) ∧ Aside0 (Kd.R (Kd.int .u8) 5 w' w.heap.size (fun _ => True) v198 t197) ∧ Aside0 (Below w.heap.size w w'))
 case atStart => exact ⟨(a1), aP32, H', ⟨Nat.le_refl _⟩, ⟨rR HO199.out⟩, ⟨bB⟩⟩
 case round =>
  clear H'
  try clear p2
  obtain ⟨x8_1, rfl, HA, HK1, HO_7, HB⟩ := hrel
  cases gk with
  | zero => exact absurd HA.out (by simp [spec_l5Kept.l0])
  | succ k1 =>
   have H := HA.out
   clear HA
   simp only [spec_l5Kept.l0] at H
   by_cases c6 : x8_1 < a2
   rotate_left
   ·rw [if_neg c6] at H
    have c6b0 : decide (x8_1 < a2) = false := decide_eq_false c6
    clear c6
    obtain rfl := Option.some.inj H
    go_wp2
    go_ret
    exact ⟨eR, bB⟩
   rw [if_pos c6] at H
   have c6b0 : decide (x8_1 < a2) = true := decide_eq_true c6
   clear c6
   by_cases c7 : 0 ≤ x8_1
   rotate_left
   ·rw [if_neg c7] at H
    exact absurd H (by simp)
   rw [if_pos c7] at H
   have c7b0 : decide (0 ≤ x8_1) = true := decide_eq_true c7
   clear c7
   by_cases c8 : x8_1 < (t197.length : Int)
   rotate_left
   ·rw [if_neg c8] at H
    exact absurd H (by simp)
   rw [if_pos c8] at H
   have c8b0 : decide (x8_1 < (t197.length : Int)) = true := decide_eq_true c8
   clear c8
   by_cases c9 : (rd t197 x8_1) = 0
   rotate_left
   ·rw [if_neg c9] at H
    have c9b0 : ((rd t197 x8_1) == 0) = false := beq_eq_false_iff_ne.mpr c9
    have c9b1 : ((rd t197 x8_1) != 0) = true := bne_iff_ne.mpr c9
    have H' := aM H
    clear H
    obtain ⟨Ao11, co11, eo11⟩ := Kd.R_slice HO_7.out
    subst eo11
    have p200 : 0 ≤ (x8_1 : Int) := of_decide_eq_true (by assumption)
    have q200 : x8_1 < (t197.length : Int) := of_decide_eq_true (by assumption)
    obtain ⟨ad200, e200, hx200_0⟩ := Kd.at_int (Kd.R_reads' HO_7.out).2.2 x8_1 p200 q200
    cases e200
    replace p200 := eq_true p200
    replace q200 := eq_true q200
    go_wp2
    go_roundg k1
    case measure => have := HK1.out; omega
    case rel => exact ⟨(wrap64 (x8_1 + 1)), aP32, H', ⟨by have := HK1.out; omega⟩, ⟨rR HO_7.out⟩, ⟨bB⟩⟩
   rw [if_pos c9] at H
   have c9b0 : ((rd t197 x8_1) == 0) = true := beq_iff_eq.mpr c9
   have c9b1 : ((rd t197 x8_1) != 0) = false := bne_eq_false_iff_eq.mpr c9
   clear c9
   obtain rfl := Option.some.inj H
   obtain ⟨Ao10, co10, eo10⟩ := Kd.R_slice HO_7.out
   subst eo10
   have p200 : 0 ≤ (x8_1 : Int) := of_decide_eq_true (by assumption)
   have q200 : x8_1 < (t197.length : Int) := of_decide_eq_true (by assumption)
   obtain ⟨ad200, e200, hx200_0⟩ := Kd.at_int (Kd.R_reads' HO_7.out).2.2 x8_1 p200 q200
   cases e200
   replace p200 := eq_true p200
   replace q200 := eq_true q200
   go_wp2
   go_ret
   exact ⟨eR, bB⟩
mutual
def spec_l5Gap.l0 : Nat → List (S61) → Int → Int → Int → Int → List (S61) → Int → Int → Option (Int × Int)
 | 0, _, _, _, _, _, _, _, _ => none
 | k + 1, x0, x1, x6, x7, x8, x13, x14, x15 => if x15 < x14 then (if 0 ≤ x15 then (if x15 < (x13.length : Int) then (if x8 > x1 then (spec_l5Gap.j1 k x0 x1 x6 x7 x8 (wrap64 (((rd_T61 x13 x15).f0) + (((rd_T61 x13 x15).f2).size : Int))) x13 x14 x15 true ((rd_T61 x13 x15).f0) ((rd_T61 x13 x15).f1) ((rd_T61 x13 x15).f2)) else (if x8 = x1 then (spec_l5Gap.j1 k x0 x1 x6 x7 x8 (wrap64 (((rd_T61 x13 x15).f0) + (((rd_T61 x13 x15).f2).size : Int))) x13 x14 x15 (decide (((rd_T61 x13 x15).f0) > 0)) ((rd_T61 x13 x15).f0) ((rd_T61 x13 x15).f1) ((rd_T61 x13 x15).f2)) else (spec_l5Gap.j1 k x0 x1 x6 x7 x8 (wrap64 (((rd_T61 x13 x15).f0) + (((rd_T61 x13 x15).f2).size : Int))) x13 x14 x15 false ((rd_T61 x13 x15).f0) ((rd_T61 x13 x15).f1) ((rd_T61 x13 x15).f2)))) else (none)) else (none)) else (some (x6, x7))
def spec_l5Gap.j1 : Nat → List (S61) → Int → Int → Int → Int → Int → List (S61) → Int → Int → Bool → Int → ByteArray → ByteArray → Option (Int × Int)
 | 0, _, _, _, _, _, _, _, _, _, _, _, _, _ => none
 | k + 1, x0, x1, x6, x7, x8, x11, x13, x14, x15, x37, x206000, x206001, x206002 => if x37 = true then (some (x6, x7)) else (if x206001.toList = ([] : List UInt8) then (if x206000 > 0 then (if (wrap64 (x8 + x11)) > x1 then (spec_l5Gap.l0 k x0 x1 (wrap64 (x7 + (wrap64 (x1 - x8)))) (wrap64 (x7 + (wrap64 (x1 - x8)))) (wrap64 (x8 + (wrap64 (x206000 + (x206002.size : Int))))) x13 x14 (wrap64 (x15 + 1))) else (spec_l5Gap.l0 k x0 x1 (wrap64 (x7 + x11)) (wrap64 (x7 + x11)) (wrap64 (x8 + (wrap64 (x206000 + (x206002.size : Int))))) x13 x14 (wrap64 (x15 + 1)))) else (spec_l5Gap.l0 k x0 x1 x6 x7 (wrap64 (x8 + (wrap64 (x206000 + (x206002.size : Int))))) x13 x14 (wrap64 (x15 + 1)))) else (if x8 < x1 then ((spec_l5Kept.f k x0 x8 x1).bind fun t206 => (if t206 = true then (spec_l5Gap.l0 k x0 x1 (wrap64 (x7 + (x206001.size : Int))) (wrap64 (x7 + (x206001.size : Int))) x8 x13 x14 (wrap64 (x15 + 1))) else (spec_l5Gap.l0 k x0 x1 x6 (wrap64 (x7 + (x206001.size : Int))) x8 x13 x14 (wrap64 (x15 + 1))))) else (spec_l5Gap.l0 k x0 x1 x6 (wrap64 (x7 + (x206001.size : Int))) x8 x13 x14 (wrap64 (x15 + 1)))))
end
def spec_l5Gap.f (k : Nat) (l0 : List (S61)) (a1 : Int) : Option (Int × Int) := (spec_l3Normal.f k l0).bind fun t201 => (spec_l5Gap.l0 k l0 a1 0 0 0 t201 (t201.length : Int) 0)
theorem spec_l5Gap.mono_l : ∀ k, (∀ y0 y1 y2 y3 y4 y5 y6 y7, LeO (spec_l5Gap.l0 k y0 y1 y2 y3 y4 y5 y6 y7) (spec_l5Gap.l0 (k + 1) y0 y1 y2 y3 y4 y5 y6 y7)) ∧ (∀ y0 y1 y2 y3 y4 y5 y6 y7 y8 y9 y10 y11 y12, LeO (spec_l5Gap.j1 k y0 y1 y2 y3 y4 y5 y6 y7 y8 y9 y10 y11 y12) (spec_l5Gap.j1 (k + 1) y0 y1 y2 y3 y4 y5 y6 y7 y8 y9 y10 y11 y12))
 | 0 => ⟨fun _ _ _ _ _ _ _ _ r h => by simp [spec_l5Gap.l0] at h, fun _ _ _ _ _ _ _ _ _ _ _ _ _ r h => by simp [spec_l5Gap.j1] at h⟩
 | k + 1 => by
  obtain ⟨ih0, ih1⟩ := spec_l5Gap.mono_l k
  refine ⟨?_, ?_⟩
  ·intro y0 y1 y2 y3 y4 y5 y6 y7
   unfold spec_l5Gap.l0
   repeat' (with_reducible first | exact ih0 _ _ _ _ _ _ _ _ | exact ih1 _ _ _ _ _ _ _ _ _ _ _ _ _ | exact spec_l3Normal.mono _ _ | exact spec_l5Kept.mono _ _ _ _ | exact LeO.refl _ | exact LeO.none _ | refine LeO.ite ?_ ?_ | refine LeO.bind ?_ (fun _ => ?_))
  ·intro y0 y1 y2 y3 y4 y5 y6 y7 y8 y9 y10 y11 y12
   unfold spec_l5Gap.j1
   repeat' (with_reducible first | exact ih0 _ _ _ _ _ _ _ _ | exact ih1 _ _ _ _ _ _ _ _ _ _ _ _ _ | exact spec_l3Normal.mono _ _ | exact spec_l5Kept.mono _ _ _ _ | exact LeO.refl _ | exact LeO.none _ | refine LeO.ite ?_ ?_ | refine LeO.bind ?_ (fun _ => ?_))
theorem spec_l5Gap.mono : ∀ a0 a1 k, LeO (spec_l5Gap.f k a0 a1) (spec_l5Gap.f (k + 1) a0 a1) := by
 intro a0 a1 k
 obtain ⟨ih0, ih1⟩ := spec_l5Gap.mono_l k
 unfold spec_l5Gap.f
 repeat' (with_reducible first | exact ih0 _ _ _ _ _ _ _ _ | exact ih1 _ _ _ _ _ _ _ _ _ _ _ _ _ | exact spec_l3Normal.mono _ _ | exact spec_l5Kept.mono _ _ _ _ | exact LeO.refl _ | exact LeO.none _ | refine LeO.ite ?_ ?_ | refine LeO.bind ?_ (fun _ => ?_))
set_option maxHeartbeats 8000000 in
set_option maxRecDepth 100000 in
theorem spec_l5Gap.calls (k : Nat) (A0 : Option Addr) (c0 : Nat) (l0 : List (S61)) (a1 : Int) (r1 : Int) (r2 : Int) (w : World) (hr0 : Kd.C k61 w A0 l0.length l0) (hc0 : l0.length ≤ c0) (h : spec_l5Gap.f k l0 a1 = some (r1, r2)) :
  Calls Try.prog 54 #[.slice A0 l0.length c0, .int .i64 a1] w fun e w' => e = .returned (.tuple #[.int .i64 r1, .int .i64 r2]) ∧ Below w.heap.size w w' := by
 have hu61 := Try.underlying61
 have HR0 := aM hr0
 have HC0 := aM hc0
 clear hr0 hc0
 have HB := aM (Below.refl w.heap.size w)
 have H : ((spec_l3Normal.f k l0).bind fun t201 => (spec_l5Gap.l0 k l0 a1 0 0 0 t201 (t201.length : Int) 0)) = some (r1, r2) := h
 clear h
 replace H := Option.bind_eq_some_iff.mp H
 obtain ⟨t201, A30, H⟩ := H
 replace H : (spec_l5Gap.l0 k l0 a1 0 0 0 t201 (t201.length : Int) 0) = some (r1, r2) := H
 have A3 := aM A30
 clear A30
 have H' := aM H
 clear H
 go_enter Try.func54, Try.ntmps54
 go_wp2_with (first | ((with_reducible refine gate_callee (f := 65) rfl ?_); refine goesL_ (some 13) rfl rfl Try.func65 (by kernel_rfl) rfl #[.slice A0 l0.length c0] rfl mM ?_; (with_reducible refine (spec_l3Normal.calls k _ _ l0 t201 _ ?side1 ?side2 A3.out).mono ?_); (case side1 => exact cC HR0.out); (case side2 => exact HC0.out); rintro e w4 ⟨v202, rfl, ho0, hb⟩; refine ⟨_, rfl, ?_⟩; have HO203 := aM (Kd.R_lower ho0 (below_size bB)); replace HB := aM (below_step bB hb); (try clear hb); (try clear hb2); (try clear hk); (try clear hi); (try clear ho0); obtain ⟨Ao5, co5, eo5⟩ := Kd.R_slice HO203.out; subst eo5))
 go_loopg [6, 7, 8, 15] k (fun kq v6 v7 v8 v15 w' => ∃ (x6_1 : Int) (x7_1 : Int) (x8_1 : Int) (x15_1 : Int), v6 = .int .i64 x6_1 ∧ v7 = .int .i64 x7_1 ∧ v8 = .int .i64 x8_1 ∧ v15 = .int .i64 x15_1 ∧ Aside0 (spec_l5Gap.l0 kq l0 a1 x6_1 x7_1 x8_1 t201 (t201.length : Int) x15_1 = some (r1, r2)) ∧ Aside0 (kq ≤ k) ∧ Aside0 (Kd.R k61 61 w' w.heap.size (fun _ => True) (.slice Ao5 t201.length co5) t201) ∧ Aside0 (Below w.heap.size w w'))
 case atStart => exact ⟨(0), (0), (0), (0), aP32, aP32, aP32, aP32, H', ⟨Nat.le_refl _⟩, ⟨rR HO203.out⟩, ⟨bB⟩⟩
 case round =>
  clear H'
  try clear p2
  try clear c5
  obtain ⟨x6_1, x7_1, x8_1, x15_1, rfl, rfl, rfl, rfl, HA, HK1, HO_13, HB⟩ := hrel
  cases gk with
  | zero => exact absurd HA.out (by simp [spec_l5Gap.l0])
  | succ k1 =>
   have H := HA.out
   clear HA
   simp only [spec_l5Gap.l0] at H
   by_cases c6 : x15_1 < (t201.length : Int)
   rotate_left
   ·rw [if_neg c6] at H
    have c6b0 : decide (x15_1 < (t201.length : Int)) = false := decide_eq_false c6
    clear c6
    simp only [Option.some.injEq, Prod.mk.injEq] at H
    obtain ⟨rfl, rfl⟩ := H
    go_wp2
    go_ret2
    exact ⟨eR, bB⟩
   rw [if_pos c6] at H
   have c6b0 : decide (x15_1 < (t201.length : Int)) = true := decide_eq_true c6
   clear c6
   by_cases c7 : 0 ≤ x15_1
   rotate_left
   ·rw [if_neg c7] at H
    exact absurd H (by simp)
   rw [if_pos c7] at H
   have c7b0 : decide (0 ≤ x15_1) = true := decide_eq_true c7
   clear c7
   by_cases c8 : x15_1 < (t201.length : Int)
   rotate_left
   ·rw [if_neg c8] at H
    exact absurd H (by simp)
   rw [if_pos c8] at H
   have c8b0 : decide (x15_1 < (t201.length : Int)) = true := decide_eq_true c8
   clear c8
   have HC9 := aM H
   clear H
   have p204 : 0 ≤ (x15_1 : Int) := of_decide_eq_true (by assumption)
   have q204 : x15_1 < (t201.length : Int) := of_decide_eq_true (by assumption)
   obtain ⟨ad204, e204, hx204_0, hx204_1, hx204_2⟩ := at_T61 (Kd.R_reads' HO_13.out).2.2 x15_1 p204 q204
   cases e204
   replace p204 := eq_true p204
   replace q204 := eq_true q204
   go_upto_region 8 with (first | ((with_reducible refine gate_dst (N := 10) rfl ?_); refine box_event ?hg (N := 10) ?hd (cs := #[.int .i64 0, .string (⟨#[]⟩ : ByteArray), .string (⟨#[]⟩ : ByteArray)]) (t := 61) ?hr ?_; (case hd => rfl); (case hg => rfl); (case hr => exact aP40); intro gb205 hg w10 hbox hb; have BK205 := aM (hbox); have GW205 := aM (bG (w := w) hg); have GE205 := aM (bG (w := w) hg); replace HO_13 := aM (Kd.R_below (Kd.R_elderB (rR HO_13.out) gb205 (Nat.le_of_eq hg.symm)) hb); replace HB := aM (below_step bB hb); clear hb hbox hg; obtain ⟨hcz11_0, hcz11_1, hcz11_2, hfz11_0, hfz11_1, hfz11_2⟩ := bx3 BK205.out))
   (try simp only [Act.put, List.setIfInBounds_toArray, List.set_cons_zero, List.set_cons_succ])
   go_cut [37] (fun v37 wc => ∃ (kq : Nat) (x37_8 : Bool), v37 = .bool x37_8 ∧ Aside0 (spec_l5Gap.j1 kq l0 a1 x6_1 x7_1 x8_1 (wrap64 (((rd_T61 t201 x15_1).f0) + (((rd_T61 t201 x15_1).f2).size : Int))) t201 (t201.length : Int) x15_1 x37_8 ((rd_T61 t201 x15_1).f0) ((rd_T61 t201 x15_1).f1) ((rd_T61 t201 x15_1).f2) = some (r1, r2)) ∧ Aside0 (kq ≤ k1) ∧ Aside0 (Kd.R k61 61 wc w.heap.size (fun k_ => k_ ≠ gb205) (.slice (some ad204) t201.length co5) t201) ∧ Aside0 (wc.heap[gb205]? = some (.cells #[.int .i64 ((rd_T61 t201 x15_1).f0), .string ((rd_T61 t201 x15_1).f1), .string ((rd_T61 t201 x15_1).f2)] 61 (0, 0))) ∧ Aside0 (Below w.heap.size w wc))
   case first =>
    have H := HC9.out
    clear HC9
    by_cases c12 : x8_1 > a1
    ·rw [if_pos c12] at H
     have c12b0 : decide (a1 < x8_1) = true := decide_eq_true c12
     clear c12
     (first | rw [c12b0] | (simp only [i64_w, i32_w]; rw [c12b0]) | rw [c12e] | skip)
     have H' := aM H
     clear H
     go_wp2
     go_meet
     case rel => exact ⟨_, (true), aP32, H', ⟨by have := HK1.out; first | omega | exact Nat.le_refl _⟩, ⟨by (with_reducible repeat (first | apply Kd.R_alloc | apply Kd.R_drewN | apply Kd.R_drew)); exact Kd.R_mono (Kd.R_far (p := ⟨gb205, 2, none⟩) (Kd.R_far (p := ⟨gb205, 1, none⟩) (Kd.R_far (p := ⟨gb205, 0, none⟩) (Kd.R_mono HO_13.out (fun k_ hk => (⟨hk, hk.2⟩ : _ ∧ k_ ≠ gb205))) (fun _ hk => hk.2) (.int .i64 ((rd_T61 t201 x15_1).f0))) (fun _ hk => hk.2) (.string ((rd_T61 t201 x15_1).f1))) (fun _ hk => hk.2) (.string ((rd_T61 t201 x15_1).f2))) (fun _ hk => hk.1.2)⟩, ⟨by (with_reducible repeat (first | refine blk_drewN ?_ _ | refine blk_drew ?_ | refine blk_alloc ?_ _)); refine blk_put (cs := #[.int .i64 ((rd_T61 t201 x15_1).f0), .string ((rd_T61 t201 x15_1).f1), .string (⟨#[]⟩ : ByteArray)]) ?_ 2 _ rfl; (with_reducible repeat (first | refine blk_drewN ?_ _ | refine blk_drew ?_ | refine blk_alloc ?_ _)); refine blk_put (cs := #[.int .i64 ((rd_T61 t201 x15_1).f0), .string (⟨#[]⟩ : ByteArray), .string (⟨#[]⟩ : ByteArray)]) ?_ 1 _ rfl; (with_reducible repeat (first | refine blk_drewN ?_ _ | refine blk_drew ?_ | refine blk_alloc ?_ _)); refine blk_put (cs := #[.int .i64 0, .string (⟨#[]⟩ : ByteArray), .string (⟨#[]⟩ : ByteArray)]) ?_ 0 _ rfl; (with_reducible repeat (first | refine blk_drewN ?_ _ | refine blk_drew ?_ | refine blk_alloc ?_ _)); exact BK205.out⟩, ⟨aP10⟩⟩
    rw [if_neg c12] at H
    have c12b0 : decide (a1 < x8_1) = false := decide_eq_false c12
    clear c12
    (first | rw [c12b0] | (simp only [i64_w, i32_w]; rw [c12b0]) | rw [c12e] | skip)
    by_cases c13 : x8_1 = a1
    rotate_left
    ·rw [if_neg c13] at H
     have c13b0 : (x8_1 == a1) = false := beq_eq_false_iff_ne.mpr c13
     have c13b1 : (x8_1 != a1) = true := bne_iff_ne.mpr c13
     have H' := aM H
     clear H
     go_wp2
     go_meet
     case rel => exact ⟨_, (false), aP32, H', ⟨by have := HK1.out; first | omega | exact Nat.le_refl _⟩, ⟨by (with_reducible repeat (first | apply Kd.R_alloc | apply Kd.R_drewN | apply Kd.R_drew)); exact Kd.R_mono (Kd.R_far (p := ⟨gb205, 2, none⟩) (Kd.R_far (p := ⟨gb205, 1, none⟩) (Kd.R_far (p := ⟨gb205, 0, none⟩) (Kd.R_mono HO_13.out (fun k_ hk => (⟨hk, hk.2⟩ : _ ∧ k_ ≠ gb205))) (fun _ hk => hk.2) (.int .i64 ((rd_T61 t201 x15_1).f0))) (fun _ hk => hk.2) (.string ((rd_T61 t201 x15_1).f1))) (fun _ hk => hk.2) (.string ((rd_T61 t201 x15_1).f2))) (fun _ hk => hk.1.2)⟩, ⟨by (with_reducible repeat (first | refine blk_drewN ?_ _ | refine blk_drew ?_ | refine blk_alloc ?_ _)); refine blk_put (cs := #[.int .i64 ((rd_T61 t201 x15_1).f0), .string ((rd_T61 t201 x15_1).f1), .string (⟨#[]⟩ : ByteArray)]) ?_ 2 _ rfl; (with_reducible repeat (first | refine blk_drewN ?_ _ | refine blk_drew ?_ | refine blk_alloc ?_ _)); refine blk_put (cs := #[.int .i64 ((rd_T61 t201 x15_1).f0), .string (⟨#[]⟩ : ByteArray), .string (⟨#[]⟩ : ByteArray)]) ?_ 1 _ rfl; (with_reducible repeat (first | refine blk_drewN ?_ _ | refine blk_drew ?_ | refine blk_alloc ?_ _)); refine blk_put (cs := #[.int .i64 0, .string (⟨#[]⟩ : ByteArray), .string (⟨#[]⟩ : ByteArray)]) ?_ 0 _ rfl; (with_reducible repeat (first | refine blk_drewN ?_ _ | refine blk_drew ?_ | refine blk_alloc ?_ _)); exact BK205.out⟩, ⟨aP10⟩⟩
    rw [if_pos c13] at H
    have c13b0 : (x8_1 == a1) = true := beq_iff_eq.mpr c13
    have c13b1 : (x8_1 != a1) = false := bne_eq_false_iff_eq.mpr c13
    clear c13
    have H' := aM H
    clear H
    have hcz14_0 : w10.cell? ⟨gb205, 0, none⟩ = some (.int .i64 0) := (blk_cell BK205.out 0).trans rfl
    have hcz14_1 : w10.cell? ⟨gb205, 1, none⟩ = some (.string (⟨#[]⟩ : ByteArray)) := (blk_cell BK205.out 1).trans rfl
    have hcz14_2 : w10.cell? ⟨gb205, 2, none⟩ = some (.string (⟨#[]⟩ : ByteArray)) := (blk_cell BK205.out 2).trans rfl
    have hfz14_0 := blk_frozen BK205.out 0
    have hfz14_1 := blk_frozen BK205.out 1
    have hfz14_2 := blk_frozen BK205.out 2
    go_wp2
    go_meet
    case rel => exact ⟨_, (decide (((rd_T61 t201 x15_1).f0) > 0)), aP32, H', ⟨by have := HK1.out; first | omega | exact Nat.le_refl _⟩, ⟨by (with_reducible repeat (first | apply Kd.R_alloc | apply Kd.R_drewN | apply Kd.R_drew)); exact Kd.R_mono (Kd.R_far (p := ⟨gb205, 2, none⟩) (Kd.R_far (p := ⟨gb205, 1, none⟩) (Kd.R_far (p := ⟨gb205, 0, none⟩) (Kd.R_mono HO_13.out (fun k_ hk => (⟨hk, hk.2⟩ : _ ∧ k_ ≠ gb205))) (fun _ hk => hk.2) (.int .i64 ((rd_T61 t201 x15_1).f0))) (fun _ hk => hk.2) (.string ((rd_T61 t201 x15_1).f1))) (fun _ hk => hk.2) (.string ((rd_T61 t201 x15_1).f2))) (fun _ hk => hk.1.2)⟩, ⟨by (with_reducible repeat (first | refine blk_drewN ?_ _ | refine blk_drew ?_ | refine blk_alloc ?_ _)); refine blk_put (cs := #[.int .i64 ((rd_T61 t201 x15_1).f0), .string ((rd_T61 t201 x15_1).f1), .string (⟨#[]⟩ : ByteArray)]) ?_ 2 _ rfl; (with_reducible repeat (first | refine blk_drewN ?_ _ | refine blk_drew ?_ | refine blk_alloc ?_ _)); refine blk_put (cs := #[.int .i64 ((rd_T61 t201 x15_1).f0), .string (⟨#[]⟩ : ByteArray), .string (⟨#[]⟩ : ByteArray)]) ?_ 1 _ rfl; (with_reducible repeat (first | refine blk_drewN ?_ _ | refine blk_drew ?_ | refine blk_alloc ?_ _)); refine blk_put (cs := #[.int .i64 0, .string (⟨#[]⟩ : ByteArray), .string (⟨#[]⟩ : ByteArray)]) ?_ 0 _ rfl; (with_reducible repeat (first | refine blk_drewN ?_ _ | refine blk_drew ?_ | refine blk_alloc ?_ _)); exact BK205.out⟩, ⟨aP10⟩⟩
   case rest =>
    clear HC9
    try clear c1
    try clear p2
    try clear q2
    try clear hx2
    try clear c5
    try clear c6
    try clear c6b0
    try clear p6
    try clear c7
    try clear c7b0
    try clear c8
    try clear c8b0
    try clear c12
    try clear c12b0
    try clear c13
    try clear c13b0
    try clear c13b1
    try clear hcz11_0
    try clear hcz11_1
    try clear hcz11_2
    try clear hcz14_0
    try clear hcz14_1
    try clear hcz14_2
    try clear hfz11_0
    try clear hfz11_1
    try clear hfz11_2
    try clear hfz14_0
    try clear hfz14_1
    try clear hfz14_2
    try clear hx204_0
    try clear hx204_1
    try clear hx204_2
    try clear p2
    try clear p204
    try clear q204
    obtain ⟨kq, x37_8, rfl, HA, HJ8, HO_13, BK205, HB⟩ := hcut
    cases kq with
    | zero => exact absurd HA.out (by simp [spec_l5Gap.j1])
    | succ kj8 =>
     have H := HA.out
     clear HA
     simp only [spec_l5Gap.j1] at H
     by_cases c15 : x37_8 = true
     ·subst c15
      replace H : (some (x6_1, x7_1)) = some (r1, r2) := by rw [if_pos rfl] at H; exact H
      simp only [Option.some.injEq, Prod.mk.injEq] at H
      obtain ⟨rfl, rfl⟩ := H
      go_wp2
      go_ret2
      exact ⟨eR, aP10⟩
     replace c15 := Bool.eq_false_iff.mpr c15
     subst c15
     replace H : (if ((rd_T61 t201 x15_1).f1).toList = ([] : List UInt8) then (if ((rd_T61 t201 x15_1).f0) > 0 then (if (wrap64 (x8_1 + (wrap64 (((rd_T61 t201 x15_1).f0) + (((rd_T61 t201 x15_1).f2).size : Int))))) > a1 then (spec_l5Gap.l0 kj8 l0 a1 (wrap64 (x7_1 + (wrap64 (a1 - x8_1)))) (wrap64 (x7_1 + (wrap64 (a1 - x8_1)))) (wrap64 (x8_1 + (wrap64 (((rd_T61 t201 x15_1).f0) + (((rd_T61 t201 x15_1).f2).size : Int))))) t201 (t201.length : Int) (wrap64 (x15_1 + 1))) else (spec_l5Gap.l0 kj8 l0 a1 (wrap64 (x7_1 + (wrap64 (((rd_T61 t201 x15_1).f0) + (((rd_T61 t201 x15_1).f2).size : Int))))) (wrap64 (x7_1 + (wrap64 (((rd_T61 t201 x15_1).f0) + (((rd_T61 t201 x15_1).f2).size : Int))))) (wrap64 (x8_1 + (wrap64 (((rd_T61 t201 x15_1).f0) + (((rd_T61 t201 x15_1).f2).size : Int))))) t201 (t201.length : Int) (wrap64 (x15_1 + 1)))) else (spec_l5Gap.l0 kj8 l0 a1 x6_1 x7_1 (wrap64 (x8_1 + (wrap64 (((rd_T61 t201 x15_1).f0) + (((rd_T61 t201 x15_1).f2).size : Int))))) t201 (t201.length : Int) (wrap64 (x15_1 + 1)))) else (if x8_1 < a1 then ((spec_l5Kept.f kj8 l0 x8_1 a1).bind fun t206 => (if t206 = true then (spec_l5Gap.l0 kj8 l0 a1 (wrap64 (x7_1 + (((rd_T61 t201 x15_1).f1).size : Int))) (wrap64 (x7_1 + (((rd_T61 t201 x15_1).f1).size : Int))) x8_1 t201 (t201.length : Int) (wrap64 (x15_1 + 1))) else (spec_l5Gap.l0 kj8 l0 a1 x6_1 (wrap64 (x7_1 + (((rd_T61 t201 x15_1).f1).size : Int))) x8_1 t201 (t201.length : Int) (wrap64 (x15_1 + 1))))) else (spec_l5Gap.l0 kj8 l0 a1 x6_1 (wrap64 (x7_1 + (((rd_T61 t201 x15_1).f1).size : Int))) x8_1 t201 (t201.length : Int) (wrap64 (x15_1 + 1))))) = some (r1, r2) := by rw [if_neg (show ¬ (false = true) by decide)] at H; exact H
     by_cases c16 : ((rd_T61 t201 x15_1).f1).toList = ([] : List UInt8)
     ·rw [if_pos c16] at H
      have c16b0 : (((rd_T61 t201 x15_1).f1).toList == ([] : List UInt8)) = true := beq_iff_eq.mpr c16
      have c16b1 : (((rd_T61 t201 x15_1).f1).toList != ([] : List UInt8)) = false := bne_eq_false_iff_eq.mpr c16
      try have c16e : ((rd_T61 t201 x15_1).f1).toList.isEmpty = true := List.isEmpty_iff.mpr c16
      clear c16
      by_cases c17 : ((rd_T61 t201 x15_1).f0) > 0
      rotate_left
      ·rw [if_neg c17] at H
       have c17b0 : decide (0 < ((rd_T61 t201 x15_1).f0)) = false := decide_eq_false c17
       clear c17
       have H' := aM H
       clear H
       have hcz21_0 : wc.cell? ⟨gb205, 0, none⟩ = some (.int .i64 ((rd_T61 t201 x15_1).f0)) := (blk_cell BK205.out 0).trans rfl
       have hcz21_1 : wc.cell? ⟨gb205, 1, none⟩ = some (.string ((rd_T61 t201 x15_1).f1)) := (blk_cell BK205.out 1).trans rfl
       have hcz21_2 : wc.cell? ⟨gb205, 2, none⟩ = some (.string ((rd_T61 t201 x15_1).f2)) := (blk_cell BK205.out 2).trans rfl
       have hfz21_0 := blk_frozen BK205.out 0
       have hfz21_1 := blk_frozen BK205.out 1
       have hfz21_2 := blk_frozen BK205.out 2
       go_wp2
       go_roundg kj8
       case measure => have := HK1.out; have := HJ8.out; omega
       case rel => exact ⟨(x6_1), (x7_1), (wrap64 (x8_1 + (wrap64 (((rd_T61 t201 x15_1).f0) + (((rd_T61 t201 x15_1).f2).size : Int))))), (wrap64 (x15_1 + 1)), aP32, aP32, aP32, aP32, H', ⟨by have := HK1.out; have := HJ8.out; omega⟩, ⟨by (with_reducible repeat (first | apply Kd.R_alloc | apply Kd.R_drewN | apply Kd.R_drew)); exact Kd.R_mono HO_13.out (fun _ hk => trivial)⟩, ⟨aP10⟩⟩
      rw [if_pos c17] at H
      have c17b0 : decide (0 < ((rd_T61 t201 x15_1).f0)) = true := decide_eq_true c17
      clear c17
      by_cases c18 : (wrap64 (x8_1 + (wrap64 (((rd_T61 t201 x15_1).f0) + (((rd_T61 t201 x15_1).f2).size : Int))))) > a1
      ·rw [if_pos c18] at H
       have c18b0 : decide (a1 < (wrap64 (x8_1 + (wrap64 (((rd_T61 t201 x15_1).f0) + (((rd_T61 t201 x15_1).f2).size : Int)))))) = true := decide_eq_true c18
       clear c18
       have H' := aM H
       clear H
       have hcz19_0 : wc.cell? ⟨gb205, 0, none⟩ = some (.int .i64 ((rd_T61 t201 x15_1).f0)) := (blk_cell BK205.out 0).trans rfl
       have hcz19_1 : wc.cell? ⟨gb205, 1, none⟩ = some (.string ((rd_T61 t201 x15_1).f1)) := (blk_cell BK205.out 1).trans rfl
       have hcz19_2 : wc.cell? ⟨gb205, 2, none⟩ = some (.string ((rd_T61 t201 x15_1).f2)) := (blk_cell BK205.out 2).trans rfl
       have hfz19_0 := blk_frozen BK205.out 0
       have hfz19_1 := blk_frozen BK205.out 1
       have hfz19_2 := blk_frozen BK205.out 2
       go_wp2
       go_roundg kj8
       case measure => have := HK1.out; have := HJ8.out; omega
       case rel => exact ⟨(wrap64 (x7_1 + (wrap64 (a1 - x8_1)))), (wrap64 (x7_1 + (wrap64 (a1 - x8_1)))), (wrap64 (x8_1 + (wrap64 (((rd_T61 t201 x15_1).f0) + (((rd_T61 t201 x15_1).f2).size : Int))))), (wrap64 (x15_1 + 1)), aP32, aP32, aP32, aP32, H', ⟨by have := HK1.out; have := HJ8.out; omega⟩, ⟨by (with_reducible repeat (first | apply Kd.R_alloc | apply Kd.R_drewN | apply Kd.R_drew)); exact Kd.R_mono HO_13.out (fun _ hk => trivial)⟩, ⟨aP10⟩⟩
      rw [if_neg c18] at H
      have c18b0 : decide (a1 < (wrap64 (x8_1 + (wrap64 (((rd_T61 t201 x15_1).f0) + (((rd_T61 t201 x15_1).f2).size : Int)))))) = false := decide_eq_false c18
      clear c18
      have H' := aM H
      clear H
      have hcz20_0 : wc.cell? ⟨gb205, 0, none⟩ = some (.int .i64 ((rd_T61 t201 x15_1).f0)) := (blk_cell BK205.out 0).trans rfl
      have hcz20_1 : wc.cell? ⟨gb205, 1, none⟩ = some (.string ((rd_T61 t201 x15_1).f1)) := (blk_cell BK205.out 1).trans rfl
      have hcz20_2 : wc.cell? ⟨gb205, 2, none⟩ = some (.string ((rd_T61 t201 x15_1).f2)) := (blk_cell BK205.out 2).trans rfl
      have hfz20_0 := blk_frozen BK205.out 0
      have hfz20_1 := blk_frozen BK205.out 1
      have hfz20_2 := blk_frozen BK205.out 2
      go_wp2
      go_roundg kj8
      case measure => have := HK1.out; have := HJ8.out; omega
      case rel => exact ⟨(wrap64 (x7_1 + (wrap64 (((rd_T61 t201 x15_1).f0) + (((rd_T61 t201 x15_1).f2).size : Int))))), (wrap64 (x7_1 + (wrap64 (((rd_T61 t201 x15_1).f0) + (((rd_T61 t201 x15_1).f2).size : Int))))), (wrap64 (x8_1 + (wrap64 (((rd_T61 t201 x15_1).f0) + (((rd_T61 t201 x15_1).f2).size : Int))))), (wrap64 (x15_1 + 1)), aP32, aP32, aP32, aP32, H', ⟨by have := HK1.out; have := HJ8.out; omega⟩, ⟨by (with_reducible repeat (first | apply Kd.R_alloc | apply Kd.R_drewN | apply Kd.R_drew)); exact Kd.R_mono HO_13.out (fun _ hk => trivial)⟩, ⟨aP10⟩⟩
     rw [if_neg c16] at H
     have c16b0 : (((rd_T61 t201 x15_1).f1).toList == ([] : List UInt8)) = false := beq_eq_false_iff_ne.mpr c16
     have c16b1 : (((rd_T61 t201 x15_1).f1).toList != ([] : List UInt8)) = true := bne_iff_ne.mpr c16
     try have c16e : ((rd_T61 t201 x15_1).f1).toList.isEmpty = false := List.isEmpty_eq_false_iff.mpr c16
     by_cases c22 : x8_1 < a1
     rotate_left
     ·rw [if_neg c22] at H
      have c22b0 : decide (x8_1 < a1) = false := decide_eq_false c22
      clear c22
      have H' := aM H
      clear H
      have hcz29_0 : wc.cell? ⟨gb205, 0, none⟩ = some (.int .i64 ((rd_T61 t201 x15_1).f0)) := (blk_cell BK205.out 0).trans rfl
      have hcz29_1 : wc.cell? ⟨gb205, 1, none⟩ = some (.string ((rd_T61 t201 x15_1).f1)) := (blk_cell BK205.out 1).trans rfl
      have hcz29_2 : wc.cell? ⟨gb205, 2, none⟩ = some (.string ((rd_T61 t201 x15_1).f2)) := (blk_cell BK205.out 2).trans rfl
      have hfz29_0 := blk_frozen BK205.out 0
      have hfz29_1 := blk_frozen BK205.out 1
      have hfz29_2 := blk_frozen BK205.out 2
      go_wp2
      go_roundg kj8
      case measure => have := HK1.out; have := HJ8.out; omega
      case rel => exact ⟨(x6_1), (wrap64 (x7_1 + (((rd_T61 t201 x15_1).f1).size : Int))), (x8_1), (wrap64 (x15_1 + 1)), aP32, aP32, aP32, aP32, H', ⟨by have := HK1.out; have := HJ8.out; omega⟩, ⟨by (with_reducible repeat (first | apply Kd.R_alloc | apply Kd.R_drewN | apply Kd.R_drew)); exact Kd.R_mono HO_13.out (fun _ hk => trivial)⟩, ⟨aP10⟩⟩
     rw [if_pos c22] at H
     have c22b0 : decide (x8_1 < a1) = true := decide_eq_true c22
     clear c22
     replace H := Option.bind_eq_some_iff.mp H
     obtain ⟨t206, A230, H⟩ := H
     replace H : (if t206 = true then (spec_l5Gap.l0 kj8 l0 a1 (wrap64 (x7_1 + (((rd_T61 t201 x15_1).f1).size : Int))) (wrap64 (x7_1 + (((rd_T61 t201 x15_1).f1).size : Int))) x8_1 t201 (t201.length : Int) (wrap64 (x15_1 + 1))) else (spec_l5Gap.l0 kj8 l0 a1 x6_1 (wrap64 (x7_1 + (((rd_T61 t201 x15_1).f1).size : Int))) x8_1 t201 (t201.length : Int) (wrap64 (x15_1 + 1)))) = some (r1, r2) := H
     have A23 := aM A230
     clear A230
     by_cases c24 : t206 = true
     rotate_left
     ·replace c24 := Bool.eq_false_iff.mpr c24
      subst c24
      replace H : (spec_l5Gap.l0 kj8 l0 a1 x6_1 (wrap64 (x7_1 + (((rd_T61 t201 x15_1).f1).size : Int))) x8_1 t201 (t201.length : Int) (wrap64 (x15_1 + 1))) = some (r1, r2) := by rw [if_neg (show ¬ (false = true) by decide)] at H; exact H
      have H' := aM H
      clear H
      have hcz27_0 : wc.cell? ⟨gb205, 0, none⟩ = some (.int .i64 ((rd_T61 t201 x15_1).f0)) := (blk_cell BK205.out 0).trans rfl
      have hcz27_1 : wc.cell? ⟨gb205, 1, none⟩ = some (.string ((rd_T61 t201 x15_1).f1)) := (blk_cell BK205.out 1).trans rfl
      have hcz27_2 : wc.cell? ⟨gb205, 2, none⟩ = some (.string ((rd_T61 t201 x15_1).f2)) := (blk_cell BK205.out 2).trans rfl
      have hfz27_0 := blk_frozen BK205.out 0
      have hfz27_1 := blk_frozen BK205.out 1
      have hfz27_2 := blk_frozen BK205.out 2
      go_wp2_with (first | (go_at_call 68; (with_reducible refine (spec_l5Kept.calls kj8 _ _ l0 x8_1 a1 false _ ?side1 ?side2 A23.out).mono ?_); (case side1 => exact cC (Kd.C_below HR0.out HB.out)); (case side2 => exact HC0.out); rintro e w28 ⟨rfl, hb⟩; replace HO_13 := aM (Kd.R_below (rR HO_13.out) hb); replace BK205 := aM (blk_below (g := gb205) (o := .cells #[.int .i64 ((rd_T61 t201 x15_1).f0), .string ((rd_T61 t201 x15_1).f1), .string ((rd_T61 t201 x15_1).f2)] 61 (0, 0)) (kK BK205.out) hb); replace HB := aM (below_step aP10 hb); (try clear hb); (try clear hb2); (try clear hk); (try clear hi)))
      go_roundg kj8
      case measure => have := HK1.out; have := HJ8.out; omega
      case rel => exact ⟨(x6_1), (wrap64 (x7_1 + (((rd_T61 t201 x15_1).f1).size : Int))), (x8_1), (wrap64 (x15_1 + 1)), aP32, aP32, aP32, aP32, H', ⟨by have := HK1.out; have := HJ8.out; omega⟩, ⟨by (with_reducible repeat (first | apply Kd.R_alloc | apply Kd.R_drewN | apply Kd.R_drew)); exact Kd.R_mono HO_13.out (fun _ hk => trivial)⟩, ⟨aP10⟩⟩
     subst c24
     replace H : (spec_l5Gap.l0 kj8 l0 a1 (wrap64 (x7_1 + (((rd_T61 t201 x15_1).f1).size : Int))) (wrap64 (x7_1 + (((rd_T61 t201 x15_1).f1).size : Int))) x8_1 t201 (t201.length : Int) (wrap64 (x15_1 + 1))) = some (r1, r2) := by rw [if_pos rfl] at H; exact H
     have H' := aM H
     clear H
     have hcz25_0 : wc.cell? ⟨gb205, 0, none⟩ = some (.int .i64 ((rd_T61 t201 x15_1).f0)) := (blk_cell BK205.out 0).trans rfl
     have hcz25_1 : wc.cell? ⟨gb205, 1, none⟩ = some (.string ((rd_T61 t201 x15_1).f1)) := (blk_cell BK205.out 1).trans rfl
     have hcz25_2 : wc.cell? ⟨gb205, 2, none⟩ = some (.string ((rd_T61 t201 x15_1).f2)) := (blk_cell BK205.out 2).trans rfl
     have hfz25_0 := blk_frozen BK205.out 0
     have hfz25_1 := blk_frozen BK205.out 1
     have hfz25_2 := blk_frozen BK205.out 2
     go_wp2_with (first | (go_at_call 68; (with_reducible refine (spec_l5Kept.calls kj8 _ _ l0 x8_1 a1 true _ ?side1 ?side2 A23.out).mono ?_); (case side1 => exact cC (Kd.C_below HR0.out HB.out)); (case side2 => exact HC0.out); rintro e w26 ⟨rfl, hb⟩; replace HO_13 := aM (Kd.R_below (rR HO_13.out) hb); replace BK205 := aM (blk_below (g := gb205) (o := .cells #[.int .i64 ((rd_T61 t201 x15_1).f0), .string ((rd_T61 t201 x15_1).f1), .string ((rd_T61 t201 x15_1).f2)] 61 (0, 0)) (kK BK205.out) hb); replace HB := aM (below_step aP10 hb); (try clear hb); (try clear hb2); (try clear hk); (try clear hi)))
     go_roundg kj8
     case measure => have := HK1.out; have := HJ8.out; omega
     case rel => exact ⟨(wrap64 (x7_1 + (((rd_T61 t201 x15_1).f1).size : Int))), (wrap64 (x7_1 + (((rd_T61 t201 x15_1).f1).size : Int))), (x8_1), (wrap64 (x15_1 + 1)), aP32, aP32, aP32, aP32, H', ⟨by have := HK1.out; have := HJ8.out; omega⟩, ⟨by (with_reducible repeat (first | apply Kd.R_alloc | apply Kd.R_drewN | apply Kd.R_drew)); exact Kd.R_mono HO_13.out (fun _ hk => trivial)⟩, ⟨aP10⟩⟩
end Go.Proofs.Ytmhcmcdppimcpaa.PFnExactMoveMarks
