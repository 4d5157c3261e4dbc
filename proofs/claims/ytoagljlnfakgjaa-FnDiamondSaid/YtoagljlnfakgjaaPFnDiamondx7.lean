/- (thin) Written by a program of this session (wip/ovl.py) over the kit's print. -/
import Derived.Test.YtoagljlnfakgjaaPFnDiamondx0
import Derived.Test.YtoagljlnfakgjaaPFnDiamondx3
import Derived.Test.YtoagljlnfakgjaaPFnDiamondx6
namespace Go.Proofs.Ytoagljlnfakgjaa.PFnDiamond
open Go.RowKit Go.Proofs.YtoagljlnfakgjaaW.PrintWords Go.Proofs.YtoagljlnfakgjaaW.PrintLast Go.Proofs.YtoagljlnfakgjaaW.PrintMore
attribute [local go_sem] max2_int min2_int max_two min_two max_three min_three max_four min_four
set_option linter.unusedVariables false
set_option linter.unusedSimpArgs false
set_option maxHeartbeats 8000000
set_option maxRecDepth 100000
def jM.l0 : Nat → List S60 → List S60 → Int → Int → Option ((List S60))
 | 0, _, _, _, _ => none
 | k + 1, x3, x6, x7, x8 => if x8 < x7 then (if 0 ≤ x8 then (if x8 < (x6.length : Int) then ((jA.f k x3 ((rd_T60 x6 x8).f0) ((rd_T60 x6 x8).f1) ((rd_T60 x6 x8).f2)).bind fun t193 => (jM.l0 k t193 x6 x7 (wrap64 (x8 + 1)))) else (none)) else (none)) else (some x3)
def jM.f (k : Nat) (l0 : List S60) : Option ((List S60)) := jM.l0 k ([] : List S60) l0 (l0.length : Int) 0
theorem jM.mono_l : ∀ k, (∀ y0 y1 y2 y3, LeO (jM.l0 k y0 y1 y2 y3) (jM.l0 (k + 1) y0 y1 y2 y3))
 | 0 => fun _ _ _ _ r h => by simp [jM.l0] at h
 | k + 1 => by
  have ih0 := jM.mono_l k
  ·intro y0 y1 y2 y3
   unfold jM.l0
   repeat' (with_reducible first | apply ih0 | apply jA.mono | apply LeO.refl | apply LeO.none | apply LeO.ite | refine LeO.bind ?_ fun _ => ?_)
theorem jM.mono : ∀ a0 k, LeO (jM.f k a0) (jM.f (k + 1) a0) := by
 intro a0 k
 have ih0 := jM.mono_l k
 unfold jM.f
 repeat' (with_reducible first | apply ih0 | apply jA.mono | apply LeO.refl | apply LeO.none | apply LeO.ite | refine LeO.bind ?_ fun _ => ?_)
theorem jM.calls (k : Nat) (A0 : Option Addr) (c0 : Nat) (l0 : List S60) (r : List S60) (w : World) (hr0 : Kd.C k60 w A0 l0.length l0) (hc0 : l0.length ≤ c0) (h : jM.f k l0 = some r) :
  Calls Try.prog 70 #[.slice A0 l0.length c0] w fun e w' => ∃ v0_ : Value, e = .returned (v0_) ∧ Kd.R k60 60 w' w.heap.size (fun _ => True) v0_ r ∧ Below w.heap.size w w' := by
 have hu60 := Try.underlying60
 have HR0 := aM hr0
 have HC0 := aM hc0
 clear hr0 hc0
 have HB := aM (Below.refl w.heap.size w)
 have H : (jM.l0 k ([] : List S60) l0 (l0.length : Int) 0) = some r := h
 clear h
 have H' := aM H
 clear H
 go_enter Try.func70, Try.ntmps70
 go_wp2
 go_loopg [3, 8] k (fun kq v3 v8 w' => ∃ (x3_1 : List S60) (x8_1 : Int), v8 = .int .i64 x8_1 ∧ Aside0 (jM.l0 kq x3_1 l0 (l0.length : Int) x8_1 = some r) ∧ Aside0 (kq ≤ k) ∧ Aside0 (Kd.R k60 60 w' w.heap.size (fun _ => True) v3 x3_1) ∧ Aside0 (Below w.heap.size w w'))
 case atStart => exact ⟨(([] : List S60)), (0), aP19, H', ⟨Nat.le_refl _⟩, ⟨by first | exact Kd.R_nil _ _ _ _ _ | exact Kd.N_nil _ _ _ _ _ | exact Kd.V_nil _ _ _ _ _ | exact Kd.Q_nil _ _ _ _ _ | exact Kd.S_nil _ _ _ _ _⟩, ⟨bB⟩⟩
 case round =>
  clear H'
  obtain ⟨x3_1, x8_1, rfl, HA, HK1, HO_3, HB⟩ := hrel
  cases gk with
  | zero => exact absurd HA.out (by simp [jM.l0])
  | succ k1 => ?_
  have H := HA.out
  clear HA
  simp only [jM.l0] at H
  by_cases c2 : x8_1 < (l0.length : Int)
  rotate_left
  ·rw [if_neg c2] at H
   have c2b0 : decide (x8_1 < (l0.length : Int)) = false := decide_eq_false c2
   clear c2
   obtain rfl := Option.some.inj H
   go_wp2
   go_ret
   exact ⟨_, by first | rfl | (simp [errW_none, errW_some] <;> rfl) | (simp [*, errW_none, errW_some] <;> rfl), rR HO_3.out, bB⟩
  rw [if_pos c2] at H
  have c2b0 : decide (x8_1 < (l0.length : Int)) = true := decide_eq_true c2
  clear c2
  obtain ⟨c3b0, H⟩ := gB H
  obtain ⟨c4b0, H⟩ := gB H
  obtain ⟨t193, A5, H⟩ := bM H
  have H' := aM H
  clear H
  have p191 : 0 ≤ (x8_1 : Int) := of_decide_eq_true (by assumption)
  have q191 : x8_1 < (l0.length : Int) := of_decide_eq_true (by assumption)
  obtain ⟨ad191, e191, hx191_0, hx191_1, hx191_2⟩ := at_T60 HR0.out x8_1 p191 q191
  cases e191
  replace hx191_0 := hC HB.out hx191_0
  replace hx191_1 := hC HB.out hx191_1
  replace hx191_2 := hC HB.out hx191_2
  replace p191 := eq_true p191
  replace q191 := eq_true q191
  go_wp2_with (first | ((with_reducible refine gate_dst (N := 5) rfl ?_); refine box_event rfl (N := 5) rfl (cs := #[.int .i64 0, .string ⟨#[]⟩, .string ⟨#[]⟩]) (t := 60) aP38 ?_; intro gb192 hg w6 hbox hb; have BK192 := aM (hbox); have GW192 := aM (bG (w := w) hg); have GE192 := aM (bG (w := w) hg); replace HO_3 := aM (Kd.R_below (Kd.R_elderB (rR HO_3.out) gb192 (Nat.le_of_eq hg.symm)) hb); replace HB := aM (below_step bB hb); clear hb hbox hg; obtain ⟨hcz7_0, hcz7_1, hcz7_2, hfz7_0, hfz7_1, hfz7_2⟩ := bx3 BK192.out) | ((with_reducible refine gate_store (t := 60) (p := 5) rfl ?_); refine store_event (t := 60) (p := 5) (v := ?vo_w8) (w1 := (((w6.setCell ⟨gb192, 0, none⟩ (.int .i64 ((rd_T60 l0 x8_1).f0))).setCell ⟨gb192, 1, none⟩ (.string ((rd_T60 l0 x8_1).f1))).setCell ⟨gb192, 2, none⟩ (.string ((rd_T60 l0 x8_1).f2)))) ?hg ?ho ?hn ?hr ?_; (case ho => rfl); (case hg => rfl); (case hn => rfl); (case hr => exact aP38); intro w8 hw; have n0_ : Aside0 (Kd.R k60 60 w8 w.heap.size (fun k_ => k_ ≠ gb192) u3 x3_1) := ⟨(by rw [hw]; exact (by (with_reducible repeat (first | apply Kd.R_alloc | apply Kd.R_drewN | apply Kd.R_drew)); exact Kd.R_mono (Kd.R_far (p := ⟨gb192, 2, none⟩) (Kd.R_far (p := ⟨gb192, 1, none⟩) (Kd.R_far (p := ⟨gb192, 0, none⟩) (Kd.R_mono HO_3.out (fun k_ hk => (⟨hk, hk.2⟩ : _ ∧ k_ ≠ gb192))) (fun _ hk => hk.2) (.int .i64 ((rd_T60 l0 x8_1).f0))) (fun _ hk => hk.2) (.string ((rd_T60 l0 x8_1).f1))) (fun _ hk => hk.2) (.string ((rd_T60 l0 x8_1).f2))) (fun _ hk => hk.1.2)))⟩; have n1_ : Aside0 (w8.heap[gb192]? = some (.cells #[.int .i64 ((rd_T60 l0 x8_1).f0), .string ((rd_T60 l0 x8_1).f1), .string ((rd_T60 l0 x8_1).f2)] 60 (0, 0))) := ⟨(by rw [hw]; exact (by (with_reducible repeat (first | refine blk_drewN ?_ _ | refine blk_drew ?_ | refine blk_alloc ?_ _)); refine blk_put (cs := #[.int .i64 ((rd_T60 l0 x8_1).f0), .string ((rd_T60 l0 x8_1).f1), .string ⟨#[]⟩]) ?_ 2 _ rfl; (with_reducible repeat (first | refine blk_drewN ?_ _ | refine blk_drew ?_ | refine blk_alloc ?_ _)); refine blk_put (cs := #[.int .i64 ((rd_T60 l0 x8_1).f0), .string ⟨#[]⟩, .string ⟨#[]⟩]) ?_ 1 _ rfl; (with_reducible repeat (first | refine blk_drewN ?_ _ | refine blk_drew ?_ | refine blk_alloc ?_ _)); refine blk_put (cs := #[.int .i64 0, .string ⟨#[]⟩, .string ⟨#[]⟩]) ?_ 0 _ rfl; exact kK BK192.out))⟩; have n2_ : Aside0 (Below w.heap.size w w8) := ⟨(by rw [hw]; exact aP16)⟩; clear hw; clear HO_3; clear BK192; clear HB; have HO_3 := n0_; have BK192 := n1_; have HB := n2_; clear n0_ n1_ n2_; obtain ⟨hcz9_0, hcz9_1, hcz9_2, hfz9_0, hfz9_1, hfz9_2⟩ := bx3 BK192.out; obtain ⟨Ao10, co10, eo10⟩ := Kd.R_slice HO_3.out; subst eo10) | ((with_reducible refine gate_callee (f := 74) rfl ?_); refine gL 14 Try.func74 #[.slice Ao10 x3_1.length co10, .agg #[.int .i64 ((rd_T60 l0 x8_1).f0), .string ((rd_T60 l0 x8_1).f1), .string ((rd_T60 l0 x8_1).f2)]] ?_; (with_reducible refine (jA.calls k1 (fun k_ => some k_ = (.slice Ao10 x3_1.length co10 : Value).ownBlock) (.slice Ao10 x3_1.length co10) x3_1 ((rd_T60 l0 x8_1).f0) ((rd_T60 l0 x8_1).f1) ((rd_T60 l0 x8_1).f2) t193 w _ ?s1 ?s2 A5.out).mono ?_); (case s1 => exact aP16); (case s2 => exact Kd.R_tight rfl HO_3.out); rintro e w11 ⟨v194, rfl, ho0, hb, hkp⟩; refine ⟨_, rfl, ?_⟩; have n0_ := aM (blk_kept (kK BK192.out) hkp (fun hs_ => (fun e_ => (Kd.R_away HO_3.out (fun _ hk => hk)) e_) hs_)); have n1_ := aM (Kd.R_mono (ok' := fun k_ => k_ ≠ gb192) ho0 (fun k_ hk_ => Or.elim hk_ (fun hs_ => fun e_ => (Kd.R_away HO_3.out (fun _ hk => hk)) (by rw [← e_]; exact hs_)) (fun hn_ => (Kd.freshB (g := gb192) (o := .cells #[.int .i64 ((rd_T60 l0 x8_1).f0), .string ((rd_T60 l0 x8_1).f1), .string ((rd_T60 l0 x8_1).f2)] 60 (0, 0)) (kK BK192.out) k_ hn_)))); have n2_ := aM (hb); clear BK192; clear HB; clear HO_3; have BK192 := n0_; have HO195 := n1_; have HB := n2_; clear n0_ n1_ n2_; clear hb hkp ho0))
  go_roundg k1
  case measure => have := HK1.out; omega
  case rel => exact ⟨(t193), (wrap64 (x8_1 + 1)), aP19, H', ⟨by have := HK1.out; omega⟩, ⟨wR HO195.out⟩, ⟨aP16⟩⟩
mutual
def jL.l0 : Nat → List Int → Int → List S60 → Int → Int → Option (List Int)
 | 0, _, _, _, _, _ => none
 | k + 1, x3, x4, x9, x10, x11 => if x11 < x10 then (if 0 ≤ x11 then (if x11 < (x9.length : Int) then (if 0 ≤ ((rd_T60 x9 x11).f0) then (if x3.length + ((rd_T60 x9 x11).f0 : Int).toNat < 17592186044416 then ((some (x3 ++ List.replicate ((rd_T60 x9 x11).f0 : Int).toNat 0 : List Int)).bind fun y201 => (if ((rd_T60 x9 x11).f2).toList = ([] : List UInt8) then (jL.j1 k y201 x4 x9 x10 x11 ((rd_T60 x9 x11).f0) ((rd_T60 x9 x11).f1) ((rd_T60 x9 x11).f2)) else (jL.j1 k y201 (wrap64 (x4 + 1)) x9 x10 x11 ((rd_T60 x9 x11).f0) ((rd_T60 x9 x11).f1) ((rd_T60 x9 x11).f2)))) else (none)) else (none)) else (none)) else (none)) else (some x3)
def jL.j1 : Nat → List Int → Int → List S60 → Int → Int → Int → ByteArray → ByteArray → Option (List Int)
 | 0, _, _, _, _, _, _, _, _ => none
 | k + 1, x3, x4, x9, x10, x11, x201000, x201001, x201002 => jL.l1 k x3 x4 0 x9 x10 x11 x201000 x201001 x201002
def jL.l1 : Nat → List Int → Int → Int → List S60 → Int → Int → Int → ByteArray → ByteArray → Option (List Int)
 | 0, _, _, _, _, _, _, _, _, _ => none
 | k + 1, x3, x4, x7, x9, x10, x11, x201000, x201001, x201002 => if x7 < (x201002.size : Int) then (if x3.length < 17592186044416 then (jL.l1 k (x3 ++ [x4]) x4 (wrap64 (x7 + 1)) x9 x10 x11 x201000 x201001 x201002) else (none)) else (jL.l0 k x3 x4 x9 x10 (wrap64 (x11 + 1)))
end
def jL.f (k : Nat) (l0 : List S60) : Option (List Int) := (jM.f k l0).bind fun t196 => (jL.l0 k ([] : List Int) 0 t196 (t196.length : Int) 0)
theorem jL.mono_l : ∀ k, (∀ y0 y1 y2 y3 y4, LeO (jL.l0 k y0 y1 y2 y3 y4) (jL.l0 (k + 1) y0 y1 y2 y3 y4)) ∧ (∀ y0 y1 y2 y3 y4 y5 y6 y7, LeO (jL.j1 k y0 y1 y2 y3 y4 y5 y6 y7) (jL.j1 (k + 1) y0 y1 y2 y3 y4 y5 y6 y7)) ∧ (∀ y0 y1 y2 y3 y4 y5 y6 y7 y8, LeO (jL.l1 k y0 y1 y2 y3 y4 y5 y6 y7 y8) (jL.l1 (k + 1) y0 y1 y2 y3 y4 y5 y6 y7 y8))
 | 0 => ⟨fun _ _ _ _ _ r h => by simp [jL.l0] at h, fun _ _ _ _ _ _ _ _ r h => by simp [jL.j1] at h, fun _ _ _ _ _ _ _ _ _ r h => by simp [jL.l1] at h⟩
 | k + 1 => by
  obtain ⟨ih0, ih1, ih2⟩ := jL.mono_l k
  refine ⟨?_, ?_, ?_⟩
  ·intro y0 y1 y2 y3 y4
   unfold jL.l0
   repeat' (with_reducible first | apply ih0 | apply ih1 | apply ih2 | apply jM.mono | apply LeO.refl | apply LeO.none | apply LeO.ite | refine LeO.bind ?_ fun _ => ?_)
  ·intro y0 y1 y2 y3 y4 y5 y6 y7
   unfold jL.j1
   repeat' (with_reducible first | apply ih0 | apply ih1 | apply ih2 | apply jM.mono | apply LeO.refl | apply LeO.none | apply LeO.ite | refine LeO.bind ?_ fun _ => ?_)
  ·intro y0 y1 y2 y3 y4 y5 y6 y7 y8
   unfold jL.l1
   repeat' (with_reducible first | apply ih0 | apply ih1 | apply ih2 | apply jM.mono | apply LeO.refl | apply LeO.none | apply LeO.ite | refine LeO.bind ?_ fun _ => ?_)
theorem jL.mono : ∀ a0 k, LeO (jL.f k a0) (jL.f (k + 1) a0) := by
 intro a0 k
 obtain ⟨ih0, ih1, ih2⟩ := jL.mono_l k
 unfold jL.f
 repeat' (with_reducible first | apply ih0 | apply ih1 | apply ih2 | apply jM.mono | apply LeO.refl | apply LeO.none | apply LeO.ite | refine LeO.bind ?_ fun _ => ?_)
theorem jL.calls (k : Nat) (A0 : Option Addr) (c0 : Nat) (l0 : List S60) (r : List Int) (w : World) (hr0 : Kd.C k60 w A0 l0.length l0) (hc0 : l0.length ≤ c0) (h : jL.f k l0 = some r) :
  Calls Try.prog 69 #[.slice A0 l0.length c0] w fun e w' => ∃ v0_ : Value, e = .returned (v0_) ∧ Kd.R (Kd.int .i64) 3 w' w.heap.size (fun _ => True) v0_ r ∧ Below w.heap.size w w' := by
 have hu60 := Try.underlying60
 have HR0 := aM hr0
 have HC0 := aM hc0
 clear hr0 hc0
 have HB := aM (Below.refl w.heap.size w)
 have H : ((jM.f k l0).bind fun t196 => (jL.l0 k ([] : List Int) 0 t196 (t196.length : Int) 0)) = some r := h
 clear h
 obtain ⟨t196, A2, H⟩ := bM H
 have H' := aM H
 clear H
 go_enter Try.func69, Try.ntmps69
 go_wp2_with ((with_reducible refine gate_callee (f := 70) rfl ?_); refine gL 9 Try.func70 #[.slice A0 l0.length c0] ?_; (with_reducible refine (jM.calls k _ _ l0 t196 _ ?s1 ?s2 A2.out).mono ?_); (case s1 => exact cC HR0.out); (case s2 => exact HC0.out); rintro e w3 ⟨v197, rfl, ho0, hb⟩; refine ⟨_, rfl, ?_⟩; have HO198 := aM (Kd.R_lower ho0 (below_size bB)); replace HB := aM (below_step bB hb); clear hb ho0; obtain ⟨Ao4, co4, eo4⟩ := Kd.R_slice HO198.out; subst eo4)
 go_loopg [3, 4, 11] k (fun kq v3 v4 v11 w' => ∃ (x3_1 : List Int) (x4_1 : Int) (x11_1 : Int), v4 = .int .i64 x4_1 ∧ v11 = .int .i64 x11_1 ∧ Aside0 (jL.l0 kq x3_1 x4_1 t196 (t196.length : Int) x11_1 = some r) ∧ Aside0 (kq ≤ k) ∧ Aside0 (Kd.R (Kd.int .i64) 3 w' w.heap.size (fun _ => True) v3 x3_1) ∧ Aside0 (Kd.R k60 60 w' w.heap.size (fun _ => True) (.slice Ao4 t196.length co4) t196) ∧ Aside0 (Below w.heap.size w w'))
 case atStart => exact ⟨(([] : List Int)), (0), (0), aP19, aP19, H', ⟨Nat.le_refl _⟩, ⟨by first | exact Kd.R_nil _ _ _ _ _ | exact Kd.N_nil _ _ _ _ _ | exact Kd.V_nil _ _ _ _ _ | exact Kd.Q_nil _ _ _ _ _ | exact Kd.S_nil _ _ _ _ _⟩, ⟨rR HO198.out⟩, ⟨bB⟩⟩
 case round =>
  clear H'
  obtain ⟨x3_1, x4_1, x11_1, rfl, rfl, HA, HK1, HO_3, HO_9, HB⟩ := hrel
  cases gk with
  | zero => exact absurd HA.out (by simp [jL.l0])
  | succ k1 => ?_
  have H := HA.out
  clear HA
  simp only [jL.l0] at H
  by_cases c5 : x11_1 < (t196.length : Int)
  rotate_left
  ·rw [if_neg c5] at H
   have c5b0 : decide (x11_1 < (t196.length : Int)) = false := decide_eq_false c5
   clear c5
   obtain rfl := Option.some.inj H
   go_wp2
   go_ret
   exact ⟨_, by first | rfl | (simp [errW_none, errW_some] <;> rfl) | (simp [*, errW_none, errW_some] <;> rfl), rR HO_3.out, bB⟩
  rw [if_pos c5] at H
  have c5b0 : decide (x11_1 < (t196.length : Int)) = true := decide_eq_true c5
  clear c5
  obtain ⟨c6b0, H⟩ := gB H
  obtain ⟨c7b0, H⟩ := gB H
  obtain ⟨c8, H⟩ := gD H
  have c8b0 := eq_true c8
  have c8b1 : decide (0 ≤ ((rd_T60 t196 x11_1).f0)) = true := decide_eq_true c8
  clear c8
  obtain ⟨LMc9, H⟩ := gA H
  (try replace H := bS H)
  generalize Ny201 : (x3_1 ++ List.replicate ((rd_T60 t196 x11_1).f0 : Int).toNat 0) = y201 at H
  replace Ny201 := aM Ny201.symm
  have HC10 := aM H
  clear H
  obtain ⟨ad199, rfl, p199, q199, hx199_0, hx199_1, hx199_2⟩ := xT HO_9.out x11_1
  go_upto_if 21 with (first | ((with_reducible refine gate_dst (N := 6) rfl ?_); refine box_event rfl (N := 6) rfl (cs := #[.int .i64 0, .string ⟨#[]⟩, .string ⟨#[]⟩]) (t := 60) aP38 ?_; intro gb200 hg w11 hbox hb; have BK200 := aM (hbox); have GW200 := aM (bG (w := w) hg); have GE200 := aM (bG (w := w) hg); replace HO_3 := aM (Kd.R_below (rR HO_3.out) hb); replace HO_9 := aM (Kd.R_below (Kd.R_elderB (rR HO_9.out) gb200 (Nat.le_of_eq hg.symm)) hb); replace HB := aM (below_step bB hb); clear hb hbox hg; obtain ⟨hcz12_0, hcz12_1, hcz12_2, hfz12_0, hfz12_1, hfz12_2⟩ := bx3 BK200.out) | (at_builtin; refine Kd.R_append_zeros (Kd.int .i64) (w0 := w) w.heap.size rfl (.tmp 15) (.tmp 17) 95 3 3 (.int .i64 0) 8 rfl Try.underlying95 Try.underlying3 info3 rfl (by decide) (by omega) u3 x3_1 0 ((rd_T60 t196 x11_1).f0 : Int) (fun _ => True) rfl rfl rfl ?aF ?aO (of_decide_eq_true (by assumption)) ?aB ?aS ?aL ?_; (case aB => exact aP5); (case aF => exact (fun _ _ => trivial)); (case aO => exact (by (with_reducible repeat (first | apply Kd.R_alloc | apply Kd.R_drewN | apply Kd.R_drew)); exact Kd.R_mono (Kd.R_far (p := ⟨gb200, 2, none⟩) (Kd.R_far (p := ⟨gb200, 1, none⟩) (Kd.R_far (p := ⟨gb200, 0, none⟩) (Kd.R_types HO_3.out BK200.out (by decide)) (fun _ hk => hk.2) (.int .i64 ((rd_T60 t196 x11_1).f0))) (fun _ hk => hk.2) (.string ((rd_T60 t196 x11_1).f1))) (fun _ hk => hk.2) (.string ((rd_T60 t196 x11_1).f2))) (fun _ hk => trivial))); (case aS => exact (below_size aP5)); (case aL => have := LMc9.out; omega); intro v202 w13 ho hb hg hat; rw [← Ny201.out] at ho; have n0_ := aM (Kd.R_over' (by (with_reducible repeat (first | apply Kd.R_alloc | apply Kd.R_drewN | apply Kd.R_drew)); exact (Kd.R_mono (Kd.R_far (p := ⟨gb200, 2, none⟩) (Kd.R_far (p := ⟨gb200, 1, none⟩) (Kd.R_far (p := ⟨gb200, 0, none⟩) (Kd.R_mono HO_9.out (fun k_ hk => (⟨hk, hk.2⟩ : _ ∧ k_ ≠ gb200))) (fun _ hk => hk.2) (.int .i64 ((rd_T60 t196 x11_1).f0))) (fun _ hk => hk.2) (.string ((rd_T60 t196 x11_1).f1))) (fun _ hk => hk.2) (.string ((rd_T60 t196 x11_1).f2))) (fun _ h_ => h_.1))) (Kd.R_typed (by (with_reducible repeat (first | apply Kd.R_alloc | apply Kd.R_drewN | apply Kd.R_drew)); exact (Kd.R_mono (Kd.R_far (p := ⟨gb200, 2, none⟩) (Kd.R_far (p := ⟨gb200, 1, none⟩) (Kd.R_far (p := ⟨gb200, 0, none⟩) (Kd.R_types HO_3.out BK200.out (by decide)) (fun _ hk => hk.2) (.int .i64 ((rd_T60 t196 x11_1).f0))) (fun _ hk => hk.2) (.string ((rd_T60 t196 x11_1).f1))) (fun _ hk => hk.2) (.string ((rd_T60 t196 x11_1).f2))) (fun _ h_ => h_.1)))) (by decide) hg); have n1_ := aM (blk_grown (g := gb200) (o := .cells #[.int .i64 ((rd_T60 t196 x11_1).f0), .string ((rd_T60 t196 x11_1).f1), .string ((rd_T60 t196 x11_1).f2)] 60 (0, 0)) (by (with_reducible repeat (first | refine blk_drewN ?_ _ | refine blk_drew ?_ | refine blk_alloc ?_ _)); refine blk_put (cs := #[.int .i64 ((rd_T60 t196 x11_1).f0), .string ((rd_T60 t196 x11_1).f1), .string ⟨#[]⟩]) ?_ 2 _ rfl; (with_reducible repeat (first | refine blk_drewN ?_ _ | refine blk_drew ?_ | refine blk_alloc ?_ _)); refine blk_put (cs := #[.int .i64 ((rd_T60 t196 x11_1).f0), .string ⟨#[]⟩, .string ⟨#[]⟩]) ?_ 1 _ rfl; (with_reducible repeat (first | refine blk_drewN ?_ _ | refine blk_drew ?_ | refine blk_alloc ?_ _)); refine blk_put (cs := #[.int .i64 0, .string ⟨#[]⟩, .string ⟨#[]⟩]) ?_ 0 _ rfl; exact kK BK200.out) hg (Kd.R_ne HO_3.out BK200.out (by decide))); have n2_ := aM (hb); have n3_ := aM (ho); clear HO_9; clear BK200; clear HB; clear HO_3; have HO_9 := n0_; have BK200 := n1_; have HB := n2_; have HO203 := n3_; clear n0_ n1_ n2_ n3_; clear ho hb hg hat; obtain ⟨hcz14_0, hcz14_1, hcz14_2, hfz14_0, hfz14_1, hfz14_2⟩ := bx3 BK200.out))
  (try simp only [Act.put, List.setIfInBounds_toArray, List.set_cons_zero, List.set_cons_succ])
  go_cut [4] (fun v4 wc => ∃ (kq : Nat) (x4_9 : Int), v4 = .int .i64 x4_9 ∧ Aside0 (jL.j1 kq y201 x4_9 t196 (t196.length : Int) x11_1 ((rd_T60 t196 x11_1).f0) ((rd_T60 t196 x11_1).f1) ((rd_T60 t196 x11_1).f2) = some r) ∧ Aside0 (kq ≤ k1) ∧ Aside0 (Kd.R (Kd.int .i64) 3 wc w.heap.size (fun _ => True) v202 y201) ∧ Aside0 (Kd.R k60 60 wc w.heap.size (fun k_ => k_ ≠ gb200) (.slice (some ad199) t196.length co4) t196) ∧ Aside0 (wc.heap[gb200]? = some (.cells #[.int .i64 ((rd_T60 t196 x11_1).f0), .string ((rd_T60 t196 x11_1).f1), .string ((rd_T60 t196 x11_1).f2)] 60 (0, 0))) ∧ Aside0 (Below w.heap.size w wc))
  case first =>
   have H := HC10.out
   clear HC10
   by_cases c15 : ((rd_T60 t196 x11_1).f2).toList = ([] : List UInt8)
   ·rw [if_pos c15] at H
    obtain ⟨c15b0, c15b1⟩ := pE c15
    try have c15e : ((rd_T60 t196 x11_1).f2).toList.isEmpty = true := List.isEmpty_iff.mpr c15
    clear c15
    (first | rw [c15b0] | (simp only [i64_w, i32_w]; rw [c15b0]) | rw [c15e] | skip)
    have H' := aM H
    clear H
    go_wp2
    go_meet
    case rel => exact ⟨_, (x4_1), aP19, H', ⟨by have := HK1.out; first | omega | exact Nat.le_refl _⟩, ⟨rR HO203.out⟩, ⟨wR HO_9.out⟩, ⟨kK BK200.out⟩, ⟨aP5⟩⟩
   rw [if_neg c15] at H
   obtain ⟨c15b0, c15b1⟩ := nE c15
   try have c15e : ((rd_T60 t196 x11_1).f2).toList.isEmpty = false := List.isEmpty_eq_false_iff.mpr c15
   (first | rw [c15b0] | (simp only [i64_w, i32_w]; rw [c15b0]) | rw [c15e] | skip)
   have H' := aM H
   clear H
   go_wp2
   go_meet
   case rel => exact ⟨_, (wrap64 (x4_1 + 1)), aP19, H', ⟨by have := HK1.out; first | omega | exact Nat.le_refl _⟩, ⟨rR HO203.out⟩, ⟨wR HO_9.out⟩, ⟨kK BK200.out⟩, ⟨aP5⟩⟩
  clear HC10
  try clear c5
  try clear c5b0
  try clear c6b0
  try clear c7b0
  try clear c8
  try clear c8b0
  try clear c8b1
  try clear hcz12_0
  try clear hcz12_1
  try clear hcz12_2
  try clear hcz14_0
  try clear hcz14_1
  try clear hcz14_2
  try clear hfz12_0
  try clear hfz12_1
  try clear hfz12_2
  try clear hfz14_0
  try clear hfz14_1
  try clear hfz14_2
  try clear hx199_0
  try clear hx199_1
  try clear hx199_2
  try clear p199
  try clear q199
  obtain ⟨kq, x4_9, rfl, HA, HJ9, HO_3, HO_9, BK200, HB⟩ := hcut
  cases kq with
  | zero => exact absurd HA.out (by simp [jL.j1])
  | succ kj9 => ?_
  have H := HA.out
  clear HA
  simp only [jL.j1] at H
  have H' := aM H
  clear H
  go_wp2
  go_loopg [3, 7] kj9 (fun kq v3 v7 w' => ∃ (x3_3 : List Int) (x7_3 : Int), v7 = .int .i64 x7_3 ∧ Aside0 (jL.l1 kq x3_3 x4_9 x7_3 t196 (t196.length : Int) x11_1 ((rd_T60 t196 x11_1).f0) ((rd_T60 t196 x11_1).f1) ((rd_T60 t196 x11_1).f2) = some r) ∧ Aside0 (kq ≤ kj9) ∧ Aside0 (Kd.R (Kd.int .i64) 3 w' w.heap.size (fun _ => True) v3 x3_3) ∧ Aside0 (Kd.R k60 60 w' w.heap.size (fun k_ => k_ ≠ gb200) (.slice (some ad199) t196.length co4) t196) ∧ Aside0 (w'.heap[gb200]? = some (.cells #[.int .i64 ((rd_T60 t196 x11_1).f0), .string ((rd_T60 t196 x11_1).f1), .string ((rd_T60 t196 x11_1).f2)] 60 (0, 0))) ∧ Aside0 (Below w.heap.size w w'))
  case atStart => exact ⟨(y201), (0), aP19, H', ⟨Nat.le_refl _⟩, ⟨rR HO_3.out⟩, ⟨rR HO_9.out⟩, ⟨kK BK200.out⟩, ⟨aP5⟩⟩
  case round =>
   clear H'
   try clear c5
   try clear c5b0
   try clear c6b0
   try clear c7b0
   try clear c8
   try clear c8b0
   try clear c8b1
   try clear hcz12_0
   try clear hcz12_1
   try clear hcz12_2
   try clear hcz14_0
   try clear hcz14_1
   try clear hcz14_2
   try clear hfz12_0
   try clear hfz12_1
   try clear hfz12_2
   try clear hfz14_0
   try clear hfz14_1
   try clear hfz14_2
   try clear hx199_0
   try clear hx199_1
   try clear hx199_2
   try clear p199
   try clear q199
   obtain ⟨x3_3, x7_3, rfl, HA, HK3, HO_3, HO_9, BK200, HB⟩ := hrel
   cases gk with
   | zero => exact absurd HA.out (by simp [jL.l1])
   | succ k3 => ?_
   have H := HA.out
   clear HA
   simp only [jL.l1] at H
   by_cases c16 : x7_3 < (((rd_T60 t196 x11_1).f2).size : Int)
   rotate_left
   ·rw [if_neg c16] at H
    have c16b0 : decide (x7_3 < (((rd_T60 t196 x11_1).f2).size : Int)) = false := decide_eq_false c16
    clear c16
    have H' := aM H
    clear H
    obtain ⟨hcz20_0, hcz20_1, hcz20_2, hfz20_0, hfz20_1, hfz20_2⟩ := bx3 BK200.out
    go_wp2
    go_roundg k3
    case measure => have := HK1.out; have := HJ9.out; have := HK3.out; omega
    case rel => exact ⟨(x3_3), (x4_9), (wrap64 (x11_1 + 1)), aP19, aP19, H', ⟨by have := HK1.out; have := HJ9.out; have := HK3.out; omega⟩, ⟨rR HO_3.out⟩, ⟨wR HO_9.out⟩, ⟨aP5⟩⟩
   rw [if_pos c16] at H
   have c16b0 : decide (x7_3 < (((rd_T60 t196 x11_1).f2).size : Int)) = true := decide_eq_true c16
   clear c16
   obtain ⟨LMc17, H⟩ := gA H
   (try replace H := bS H)
   generalize Ny204 : (x3_3 ++ [x4_9]) = y204 at H
   replace Ny204 := aM Ny204.symm
   have H' := aM H
   clear H
   obtain ⟨hcz18_0, hcz18_1, hcz18_2, hfz18_0, hfz18_1, hfz18_2⟩ := bx3 BK200.out
   go_wp2_with ((with_reducible refine gate_builtin (b := .append) (xs := #[.tmp 31, .tmp 33]) rfl ?_); at_builtin; refine Kd.R_append (Kd.int .i64) (w0 := w) w.heap.size rfl (.tmp 31) (.tmp 33) 95 3 (.int .i64 0) 8 rfl Try.underlying95 info3 rfl (by decide) (by omega) u3 x3_3 x4_9 [.int .i64 x4_9] (fun _ => True) (fun _ => False) rfl rfl ?aP (fun _ hk => hk.elim) ?aF ?aO ?aB ?aS ?aL ?_; (case aP => exact rfl); (case aB => exact aP5); (case aF => exact (fun _ _ => trivial)); (case aO => exact (rR HO_3.out)); (case aS => exact (below_size aP5)); (case aL => have := LMc17.out; omega); intro v205 w19 ho hb hg hat; rw [← Ny204.out] at ho; have HO206 := aM (ho); replace HO_9 := aM (Kd.R_over' (rR HO_9.out) (Kd.R_typed (rR HO_3.out)) (by decide) hg); replace BK200 := aM (blk_grown (g := gb200) (o := .cells #[.int .i64 ((rd_T60 t196 x11_1).f0), .string ((rd_T60 t196 x11_1).f1), .string ((rd_T60 t196 x11_1).f2)] 60 (0, 0)) (kK BK200.out) hg (Kd.R_ne HO_3.out BK200.out (by decide))); replace HB := aM (hb); clear ho hb hg hat)
   go_roundg k3
   case measure => have := HK1.out; have := HJ9.out; have := HK3.out; omega
   case rel => exact ⟨(y204), (wrap64 (x7_3 + 1)), aP19, H', ⟨by have := HK1.out; have := HJ9.out; have := HK3.out; omega⟩, ⟨rR HO206.out⟩, ⟨rR HO_9.out⟩, ⟨kK BK200.out⟩, ⟨aP5⟩⟩
def jN.l0 : Nat → List Int → List Int → Int → Int → List S60 → Int → Int → Option (Int)
 | 0, _, _, _, _, _, _, _ => none
 | k + 1, x5, x6, x7, x8, x16, x17, x18 => if x18 < x17 then (if 0 ≤ x18 then (if x18 < (x16.length : Int) then (if ((rd_T60 x16 x18).f1).toList = ([] : List UInt8) then (jN.l0 k x5 x6 x7 (wrap64 (x8 + (wrap64 (((rd_T60 x16 x18).f0) + (((rd_T60 x16 x18).f2).size : Int))))) x16 x17 (wrap64 (x18 + 1))) else (if x8 > 0 then (if x8 < (x5.length : Int) then (if 0 ≤ (wrap64 (x8 - 1)) then (if (wrap64 (x8 - 1)) < (x6.length : Int) then (if (rd x6 (wrap64 (x8 - 1))) > 0 then (if 0 ≤ x8 then (if x8 < (x6.length : Int) then (if (rd x6 (wrap64 (x8 - 1))) = (rd x6 x8) then (jN.l0 k x5 x6 (wrap64 (x7 + 1)) (wrap64 (x8 + (wrap64 (((rd_T60 x16 x18).f0) + (((rd_T60 x16 x18).f2).size : Int))))) x16 x17 (wrap64 (x18 + 1))) else (jN.l0 k x5 x6 x7 (wrap64 (x8 + (wrap64 (((rd_T60 x16 x18).f0) + (((rd_T60 x16 x18).f2).size : Int))))) x16 x17 (wrap64 (x18 + 1)))) else (none)) else (none)) else (jN.l0 k x5 x6 x7 (wrap64 (x8 + (wrap64 (((rd_T60 x16 x18).f0) + (((rd_T60 x16 x18).f2).size : Int))))) x16 x17 (wrap64 (x18 + 1)))) else (none)) else (none)) else (jN.l0 k x5 x6 x7 (wrap64 (x8 + (wrap64 (((rd_T60 x16 x18).f0) + (((rd_T60 x16 x18).f2).size : Int))))) x16 x17 (wrap64 (x18 + 1)))) else (jN.l0 k x5 x6 x7 (wrap64 (x8 + (wrap64 (((rd_T60 x16 x18).f0) + (((rd_T60 x16 x18).f2).size : Int))))) x16 x17 (wrap64 (x18 + 1))))) else (none)) else (none)) else (some x7)
def jN.f (k : Nat) (l0 : List S60) (l1 : List S60) : Option (Int) := (jO.f k l1).bind fun t207 => ((jL.f k l1).bind fun t210 => ((jM.f k l0).bind fun t213 => (jN.l0 k t207 t210 0 0 t213 (t213.length : Int) 0)))
theorem jN.mono_l : ∀ k, (∀ y0 y1 y2 y3 y4 y5 y6, LeO (jN.l0 k y0 y1 y2 y3 y4 y5 y6) (jN.l0 (k + 1) y0 y1 y2 y3 y4 y5 y6))
 | 0 => fun _ _ _ _ _ _ _ r h => by simp [jN.l0] at h
 | k + 1 => by
  have ih0 := jN.mono_l k
  ·intro y0 y1 y2 y3 y4 y5 y6
   unfold jN.l0
   repeat' (with_reducible first | apply ih0 | apply jM.mono | apply jO.mono | apply jL.mono | apply LeO.refl | apply LeO.none | apply LeO.ite | refine LeO.bind ?_ fun _ => ?_)
theorem jN.mono : ∀ a0 a1 k, LeO (jN.f k a0 a1) (jN.f (k + 1) a0 a1) := by
 intro a0 a1 k
 have ih0 := jN.mono_l k
 unfold jN.f
 repeat' (with_reducible first | apply ih0 | apply jM.mono | apply jO.mono | apply jL.mono | apply LeO.refl | apply LeO.none | apply LeO.ite | refine LeO.bind ?_ fun _ => ?_)
theorem jN.calls (k : Nat) (A0 : Option Addr) (c0 : Nat) (l0 : List S60) (A1 : Option Addr) (c1 : Nat) (l1 : List S60) (r : Int) (w : World) (hr0 : Kd.C k60 w A0 l0.length l0) (hc0 : l0.length ≤ c0) (hr1 : Kd.C k60 w A1 l1.length l1) (hc1 : l1.length ≤ c1) (h : jN.f k l0 l1 = some r) :
  Calls Try.prog 40 #[.slice A0 l0.length c0, .slice A1 l1.length c1] w fun e w' => e = .returned (.int .i64 r) ∧ Below w.heap.size w w' := by
 have hu60 := Try.underlying60
 have HR0 := aM hr0
 have HC0 := aM hc0
 clear hr0 hc0
 have HR1 := aM hr1
 have HC1 := aM hc1
 clear hr1 hc1
 have HB := aM (Below.refl w.heap.size w)
 have H : ((jO.f k l1).bind fun t207 => ((jL.f k l1).bind fun t210 => ((jM.f k l0).bind fun t213 => (jN.l0 k t207 t210 0 0 t213 (t213.length : Int) 0)))) = some r := h
 clear h
 obtain ⟨t207, A3, H⟩ := bM H
 obtain ⟨t210, A4, H⟩ := bM H
 obtain ⟨t213, A5, H⟩ := bM H
 have H' := aM H
 clear H
 go_enter Try.func40, Try.ntmps40
 go_wp2_with (first | (go_at_call 41; (with_reducible refine (jO.calls k _ _ l1 t207 _ ?s1 ?s2 A3.out).mono ?_); (case s1 => exact cC HR1.out); (case s2 => exact HC1.out); rintro e w6 ⟨v208, rfl, ho0, hb⟩; have HO209 := aM (Kd.R_lower ho0 (below_size bB)); replace HB := aM (below_step bB hb); clear hb ho0) | (go_at_call 69; (with_reducible refine (jL.calls k _ _ l1 t210 _ ?s1 ?s2 A4.out).mono ?_); (case s1 => exact cC (Kd.C_below HR1.out HB.out)); (case s2 => exact HC1.out); rintro e w7 ⟨v211, rfl, ho0, hb⟩; have HO212 := aM (Kd.R_lower ho0 (below_size bB)); replace HO209 := aM (Kd.R_below (rR HO209.out) hb); replace HB := aM (below_step bB hb); clear hb ho0) | (go_at_call 70; (with_reducible refine (jM.calls k _ _ l0 t213 _ ?s1 ?s2 A5.out).mono ?_); (case s1 => exact cC (Kd.C_below HR0.out HB.out)); (case s2 => exact HC0.out); rintro e w8 ⟨v214, rfl, ho0, hb⟩; have HO215 := aM (Kd.R_lower ho0 (below_size bB)); replace HO209 := aM (Kd.R_below (rR HO209.out) hb); replace HO212 := aM (Kd.R_below (rR HO212.out) hb); replace HB := aM (below_step bB hb); clear hb ho0; obtain ⟨Ao9, co9, eo9⟩ := Kd.R_slice HO215.out; subst eo9))
 repeat (go_quiet (fail); try go_wp2_with (fail))
 go_loopg [7, 8, 18] k (fun kq v7 v8 v18 w' => ∃ (x7_1 : Int) (x8_1 : Int) (x18_1 : Int), v7 = .int .i64 x7_1 ∧ v8 = .int .i64 x8_1 ∧ v18 = .int .i64 x18_1 ∧ Aside0 (jN.l0 kq t207 t210 x7_1 x8_1 t213 (t213.length : Int) x18_1 = some r) ∧ Aside0 (kq ≤ k) ∧ Aside0 (Kd.R (Kd.int .u8) 5 w' w.heap.size (fun _ => True) v208 t207) ∧ Aside0 (Kd.R (Kd.int .i64) 3 w' w.heap.size (fun _ => True) v211 t210) ∧ Aside0 (Kd.R k60 60 w' w.heap.size (fun _ => True) (.slice Ao9 t213.length co9) t213) ∧ Aside0 (Below w.heap.size w w'))
 case atStart => exact ⟨(0), (0), (0), aP19, aP19, aP19, H', ⟨Nat.le_refl _⟩, ⟨rR HO209.out⟩, ⟨rR HO212.out⟩, ⟨rR HO215.out⟩, ⟨bB⟩⟩
 case round =>
  clear H'
  try clear c1
  obtain ⟨x7_1, x8_1, x18_1, rfl, rfl, rfl, HA, HK1, HO_5, HO_6, HO_16, HB⟩ := hrel
  cases gk with
  | zero => exact absurd HA.out (by simp [jN.l0])
  | succ k1 => ?_
  have H := HA.out
  clear HA
  simp only [jN.l0] at H
  by_cases c10 : x18_1 < (t213.length : Int)
  rotate_left
  ·rw [if_neg c10] at H
   have c10b0 : decide (x18_1 < (t213.length : Int)) = false := decide_eq_false c10
   clear c10
   obtain rfl := Option.some.inj H
   go_wp2
   repeat (go_quiet (fail); try go_wp2)
   go_ret
   exact ⟨eR, bB⟩
  rw [if_pos c10] at H
  have c10b0 : decide (x18_1 < (t213.length : Int)) = true := decide_eq_true c10
  clear c10
  obtain ⟨c11b0, H⟩ := gB H
  obtain ⟨c12b0, H⟩ := gB H
  by_cases c13 : ((rd_T60 t213 x18_1).f1).toList = ([] : List UInt8)
  ·rw [if_pos c13] at H
   obtain ⟨c13b0, c13b1⟩ := pE c13
   try have c13e : ((rd_T60 t213 x18_1).f1).toList.isEmpty = true := List.isEmpty_iff.mpr c13
   clear c13
   have H' := aM H
   clear H
   obtain ⟨ad216, rfl, p216, q216, hx216_0, hx216_1, hx216_2⟩ := xT HO_16.out x18_1
   go_wp2_with ((with_reducible refine gate_dst (N := 10) rfl ?_); (try (refine gate_guard (by rfl) ?_; dsimp only)); refine box_event rfl (N := 10) rfl (cs := #[.int .i64 0, .string ⟨#[]⟩, .string ⟨#[]⟩]) (t := 60) aP38 ?_; intro gb217 hg w14 hbox hb; have BK217 := aM (hbox); have GW217 := aM (bG (w := w) hg); have GE217 := aM (bG (w := w) hg); replace HO_5 := aM (Kd.R_below (rR HO_5.out) hb); replace HO_6 := aM (Kd.R_below (rR HO_6.out) hb); replace HO_16 := aM (Kd.R_below (Kd.R_elderB (rR HO_16.out) gb217 (Nat.le_of_eq hg.symm)) hb); replace HB := aM (below_step bB hb); clear hb hbox hg; obtain ⟨hcz15_0, hcz15_1, hcz15_2, hfz15_0, hfz15_1, hfz15_2⟩ := bx3 BK217.out)
   repeat (go_quiet (fail); try go_wp2_with (fail))
   go_roundg k1
   case measure => have := HK1.out; omega
   case rel => exact ⟨(x7_1), (wrap64 (x8_1 + (wrap64 (((rd_T60 t213 x18_1).f0) + (((rd_T60 t213 x18_1).f2).size : Int))))), (wrap64 (x18_1 + 1)), aP19, aP19, aP19, H', ⟨by have := HK1.out; omega⟩, ⟨by (with_reducible repeat (first | apply Kd.R_alloc | apply Kd.R_drewN | apply Kd.R_drew)); exact Kd.R_mono (Kd.R_far (p := ⟨gb217, 2, none⟩) (Kd.R_far (p := ⟨gb217, 1, none⟩) (Kd.R_far (p := ⟨gb217, 0, none⟩) (Kd.R_types HO_5.out BK217.out (by decide)) (fun _ hk => hk.2) (.int .i64 ((rd_T60 t213 x18_1).f0))) (fun _ hk => hk.2) (.string ((rd_T60 t213 x18_1).f1))) (fun _ hk => hk.2) (.string ((rd_T60 t213 x18_1).f2))) (fun _ hk => trivial)⟩, ⟨by (with_reducible repeat (first | apply Kd.R_alloc | apply Kd.R_drewN | apply Kd.R_drew)); exact Kd.R_mono (Kd.R_far (p := ⟨gb217, 2, none⟩) (Kd.R_far (p := ⟨gb217, 1, none⟩) (Kd.R_far (p := ⟨gb217, 0, none⟩) (Kd.R_types HO_6.out BK217.out (by decide)) (fun _ hk => hk.2) (.int .i64 ((rd_T60 t213 x18_1).f0))) (fun _ hk => hk.2) (.string ((rd_T60 t213 x18_1).f1))) (fun _ hk => hk.2) (.string ((rd_T60 t213 x18_1).f2))) (fun _ hk => trivial)⟩, ⟨by (with_reducible repeat (first | apply Kd.R_alloc | apply Kd.R_drewN | apply Kd.R_drew)); exact Kd.R_mono (Kd.R_far (p := ⟨gb217, 2, none⟩) (Kd.R_far (p := ⟨gb217, 1, none⟩) (Kd.R_far (p := ⟨gb217, 0, none⟩) (Kd.R_mono HO_16.out (fun k_ hk => (⟨hk, hk.2⟩ : _ ∧ k_ ≠ gb217))) (fun _ hk => hk.2) (.int .i64 ((rd_T60 t213 x18_1).f0))) (fun _ hk => hk.2) (.string ((rd_T60 t213 x18_1).f1))) (fun _ hk => hk.2) (.string ((rd_T60 t213 x18_1).f2))) (fun _ hk => trivial)⟩, ⟨aP11⟩⟩
  rw [if_neg c13] at H
  obtain ⟨c13b0, c13b1⟩ := nE c13
  try have c13e : ((rd_T60 t213 x18_1).f1).toList.isEmpty = false := List.isEmpty_eq_false_iff.mpr c13
  by_cases c16 : x8_1 > 0
  rotate_left
  ·rw [if_neg c16] at H
   have c16b0 : decide (0 < x8_1) = false := decide_eq_false c16
   clear c16
   have H' := aM H
   clear H
   obtain ⟨ad216, rfl, p216, q216, hx216_0, hx216_1, hx216_2⟩ := xT HO_16.out x18_1
   go_wp2_with ((with_reducible refine gate_dst (N := 10) rfl ?_); (try (refine gate_guard (by rfl) ?_; dsimp only)); refine box_event rfl (N := 10) rfl (cs := #[.int .i64 0, .string ⟨#[]⟩, .string ⟨#[]⟩]) (t := 60) aP38 ?_; intro gb217 hg w40 hbox hb; have BK217 := aM (hbox); have GW217 := aM (bG (w := w) hg); have GE217 := aM (bG (w := w) hg); replace HO_5 := aM (Kd.R_below (rR HO_5.out) hb); replace HO_6 := aM (Kd.R_below (rR HO_6.out) hb); replace HO_16 := aM (Kd.R_below (Kd.R_elderB (rR HO_16.out) gb217 (Nat.le_of_eq hg.symm)) hb); replace HB := aM (below_step bB hb); clear hb hbox hg; obtain ⟨hcz41_0, hcz41_1, hcz41_2, hfz41_0, hfz41_1, hfz41_2⟩ := bx3 BK217.out)
   repeat (go_quiet (fail); try go_wp2_with (fail))
   go_roundg k1
   case measure => have := HK1.out; omega
   case rel => exact ⟨(x7_1), (wrap64 (x8_1 + (wrap64 (((rd_T60 t213 x18_1).f0) + (((rd_T60 t213 x18_1).f2).size : Int))))), (wrap64 (x18_1 + 1)), aP19, aP19, aP19, H', ⟨by have := HK1.out; omega⟩, ⟨by (with_reducible repeat (first | apply Kd.R_alloc | apply Kd.R_drewN | apply Kd.R_drew)); exact Kd.R_mono (Kd.R_far (p := ⟨gb217, 2, none⟩) (Kd.R_far (p := ⟨gb217, 1, none⟩) (Kd.R_far (p := ⟨gb217, 0, none⟩) (Kd.R_types HO_5.out BK217.out (by decide)) (fun _ hk => hk.2) (.int .i64 ((rd_T60 t213 x18_1).f0))) (fun _ hk => hk.2) (.string ((rd_T60 t213 x18_1).f1))) (fun _ hk => hk.2) (.string ((rd_T60 t213 x18_1).f2))) (fun _ hk => trivial)⟩, ⟨by (with_reducible repeat (first | apply Kd.R_alloc | apply Kd.R_drewN | apply Kd.R_drew)); exact Kd.R_mono (Kd.R_far (p := ⟨gb217, 2, none⟩) (Kd.R_far (p := ⟨gb217, 1, none⟩) (Kd.R_far (p := ⟨gb217, 0, none⟩) (Kd.R_types HO_6.out BK217.out (by decide)) (fun _ hk => hk.2) (.int .i64 ((rd_T60 t213 x18_1).f0))) (fun _ hk => hk.2) (.string ((rd_T60 t213 x18_1).f1))) (fun _ hk => hk.2) (.string ((rd_T60 t213 x18_1).f2))) (fun _ hk => trivial)⟩, ⟨by (with_reducible repeat (first | apply Kd.R_alloc | apply Kd.R_drewN | apply Kd.R_drew)); exact Kd.R_mono (Kd.R_far (p := ⟨gb217, 2, none⟩) (Kd.R_far (p := ⟨gb217, 1, none⟩) (Kd.R_far (p := ⟨gb217, 0, none⟩) (Kd.R_mono HO_16.out (fun k_ hk => (⟨hk, hk.2⟩ : _ ∧ k_ ≠ gb217))) (fun _ hk => hk.2) (.int .i64 ((rd_T60 t213 x18_1).f0))) (fun _ hk => hk.2) (.string ((rd_T60 t213 x18_1).f1))) (fun _ hk => hk.2) (.string ((rd_T60 t213 x18_1).f2))) (fun _ hk => trivial)⟩, ⟨aP11⟩⟩
  rw [if_pos c16] at H
  have c16b0 : decide (0 < x8_1) = true := decide_eq_true c16
  clear c16
  by_cases c17 : x8_1 < (t207.length : Int)
  rotate_left
  ·rw [if_neg c17] at H
   have c17b0 : decide (x8_1 < (t207.length : Int)) = false := decide_eq_false c17
   clear c17
   have H' := aM H
   clear H
   obtain ⟨ad216, rfl, p216, q216, hx216_0, hx216_1, hx216_2⟩ := xT HO_16.out x18_1
   go_wp2_with ((with_reducible refine gate_dst (N := 10) rfl ?_); (try (refine gate_guard (by rfl) ?_; dsimp only)); refine box_event rfl (N := 10) rfl (cs := #[.int .i64 0, .string ⟨#[]⟩, .string ⟨#[]⟩]) (t := 60) aP38 ?_; intro gb217 hg w37 hbox hb; have BK217 := aM (hbox); have GW217 := aM (bG (w := w) hg); have GE217 := aM (bG (w := w) hg); replace HO_5 := aM (Kd.R_below (rR HO_5.out) hb); replace HO_6 := aM (Kd.R_below (rR HO_6.out) hb); replace HO_16 := aM (Kd.R_below (Kd.R_elderB (rR HO_16.out) gb217 (Nat.le_of_eq hg.symm)) hb); replace HB := aM (below_step bB hb); clear hb hbox hg; obtain ⟨hcz38_0, hcz38_1, hcz38_2, hfz38_0, hfz38_1, hfz38_2⟩ := bx3 BK217.out; obtain ⟨Ao39, co39, eo39⟩ := Kd.R_slice HO_5.out; subst eo39)
   repeat (go_quiet (fail); try go_wp2_with (fail))
   go_roundg k1
   case measure => have := HK1.out; omega
   case rel => exact ⟨(x7_1), (wrap64 (x8_1 + (wrap64 (((rd_T60 t213 x18_1).f0) + (((rd_T60 t213 x18_1).f2).size : Int))))), (wrap64 (x18_1 + 1)), aP19, aP19, aP19, H', ⟨by have := HK1.out; omega⟩, ⟨by (with_reducible repeat (first | apply Kd.R_alloc | apply Kd.R_drewN | apply Kd.R_drew)); exact Kd.R_mono (Kd.R_far (p := ⟨gb217, 2, none⟩) (Kd.R_far (p := ⟨gb217, 1, none⟩) (Kd.R_far (p := ⟨gb217, 0, none⟩) (Kd.R_types HO_5.out BK217.out (by decide)) (fun _ hk => hk.2) (.int .i64 ((rd_T60 t213 x18_1).f0))) (fun _ hk => hk.2) (.string ((rd_T60 t213 x18_1).f1))) (fun _ hk => hk.2) (.string ((rd_T60 t213 x18_1).f2))) (fun _ hk => trivial)⟩, ⟨by (with_reducible repeat (first | apply Kd.R_alloc | apply Kd.R_drewN | apply Kd.R_drew)); exact Kd.R_mono (Kd.R_far (p := ⟨gb217, 2, none⟩) (Kd.R_far (p := ⟨gb217, 1, none⟩) (Kd.R_far (p := ⟨gb217, 0, none⟩) (Kd.R_types HO_6.out BK217.out (by decide)) (fun _ hk => hk.2) (.int .i64 ((rd_T60 t213 x18_1).f0))) (fun _ hk => hk.2) (.string ((rd_T60 t213 x18_1).f1))) (fun _ hk => hk.2) (.string ((rd_T60 t213 x18_1).f2))) (fun _ hk => trivial)⟩, ⟨by (with_reducible repeat (first | apply Kd.R_alloc | apply Kd.R_drewN | apply Kd.R_drew)); exact Kd.R_mono (Kd.R_far (p := ⟨gb217, 2, none⟩) (Kd.R_far (p := ⟨gb217, 1, none⟩) (Kd.R_far (p := ⟨gb217, 0, none⟩) (Kd.R_mono HO_16.out (fun k_ hk => (⟨hk, hk.2⟩ : _ ∧ k_ ≠ gb217))) (fun _ hk => hk.2) (.int .i64 ((rd_T60 t213 x18_1).f0))) (fun _ hk => hk.2) (.string ((rd_T60 t213 x18_1).f1))) (fun _ hk => hk.2) (.string ((rd_T60 t213 x18_1).f2))) (fun _ hk => trivial)⟩, ⟨aP11⟩⟩
  rw [if_pos c17] at H
  have c17b0 : decide (x8_1 < (t207.length : Int)) = true := decide_eq_true c17
  clear c17
  generalize hji18 : (wrap64 (x8_1 - 1)) = ji18 at H
  have hji18w : (IntKind.i64.wrap (x8_1 - 1)) = ji18 := (i64_w _).trans hji18
  obtain ⟨c19b0, H⟩ := gB H
  obtain ⟨c20b0, H⟩ := gB H
  by_cases c21 : (rd t210 (ji18)) > 0
  rotate_left
  ·rw [if_neg c21] at H
   have c21b0 : decide (0 < (rd t210 (ji18))) = false := decide_eq_false c21
   clear c21
   have H' := aM H
   clear H
   obtain ⟨ad216, rfl, p216, q216, hx216_0, hx216_1, hx216_2⟩ := xT HO_16.out x18_1
   go_wp2_with ((with_reducible refine gate_dst (N := 10) rfl ?_); (try (refine gate_guard (by rfl) ?_; dsimp only)); refine box_event rfl (N := 10) rfl (cs := #[.int .i64 0, .string ⟨#[]⟩, .string ⟨#[]⟩]) (t := 60) aP38 ?_; intro gb217 hg w33 hbox hb; have BK217 := aM (hbox); have GW217 := aM (bG (w := w) hg); have GE217 := aM (bG (w := w) hg); replace HO_5 := aM (Kd.R_below (rR HO_5.out) hb); replace HO_6 := aM (Kd.R_below (rR HO_6.out) hb); replace HO_16 := aM (Kd.R_below (Kd.R_elderB (rR HO_16.out) gb217 (Nat.le_of_eq hg.symm)) hb); replace HB := aM (below_step bB hb); clear hb hbox hg; obtain ⟨hcz34_0, hcz34_1, hcz34_2, hfz34_0, hfz34_1, hfz34_2⟩ := bx3 BK217.out; obtain ⟨Ao35, co35, eo35⟩ := Kd.R_slice HO_5.out; subst eo35; obtain ⟨Ao36, co36, eo36⟩ := Kd.R_slice HO_6.out; subst eo36; obtain ⟨ad218, rfl, p218, q218, hx218_0⟩ := xI HO_6.out (ji18); have hn218_0 : ad218.block ≠ gb217 := Kd.own_blk (Kd.R_ne HO_6.out BK217.out (by decide)); have hn218_1 : ad218.block ≠ gb217 := Kd.own_blk (Kd.R_ne HO_6.out BK217.out (by decide)); have hn218_2 : ad218.block ≠ gb217 := Kd.own_blk (Kd.R_ne HO_6.out BK217.out (by decide)); replace hx218_0 := (cell_far (p := ⟨gb217, 0, none⟩) aP21 (.int .i64 ((rd_T60 t213 x18_1).f0))).trans hx218_0; replace hx218_0 := (cell_far (p := ⟨gb217, 1, none⟩) aP22 (.string ((rd_T60 t213 x18_1).f1))).trans hx218_0; replace hx218_0 := (cell_far (p := ⟨gb217, 2, none⟩) aP23 (.string ((rd_T60 t213 x18_1).f2))).trans hx218_0; (try have hy218_0 := fun (n_ : Nat) => (show (((((w33.drewN n_).setCell ⟨gb217, 0, none⟩ (.int .i64 ((rd_T60 t213 x18_1).f0))).setCell ⟨gb217, 1, none⟩ (.string ((rd_T60 t213 x18_1).f1))).setCell ⟨gb217, 2, none⟩ (.string ((rd_T60 t213 x18_1).f2)))).cell? _ = some _ from hx218_0)); clear hn218_0; clear hn218_1; clear hn218_2)
   repeat (go_quiet (fail); try go_wp2_with (fail))
   go_roundg k1
   case measure => have := HK1.out; omega
   case rel => exact ⟨(x7_1), (wrap64 (x8_1 + (wrap64 (((rd_T60 t213 x18_1).f0) + (((rd_T60 t213 x18_1).f2).size : Int))))), (wrap64 (x18_1 + 1)), aP19, aP19, aP19, H', ⟨by have := HK1.out; omega⟩, ⟨by (with_reducible repeat (first | apply Kd.R_alloc | apply Kd.R_drewN | apply Kd.R_drew)); exact Kd.R_mono (Kd.R_far (p := ⟨gb217, 2, none⟩) (Kd.R_far (p := ⟨gb217, 1, none⟩) (Kd.R_far (p := ⟨gb217, 0, none⟩) (Kd.R_types HO_5.out BK217.out (by decide)) (fun _ hk => hk.2) (.int .i64 ((rd_T60 t213 x18_1).f0))) (fun _ hk => hk.2) (.string ((rd_T60 t213 x18_1).f1))) (fun _ hk => hk.2) (.string ((rd_T60 t213 x18_1).f2))) (fun _ hk => trivial)⟩, ⟨by (with_reducible repeat (first | apply Kd.R_alloc | apply Kd.R_drewN | apply Kd.R_drew)); exact Kd.R_mono (Kd.R_far (p := ⟨gb217, 2, none⟩) (Kd.R_far (p := ⟨gb217, 1, none⟩) (Kd.R_far (p := ⟨gb217, 0, none⟩) (Kd.R_types HO_6.out BK217.out (by decide)) (fun _ hk => hk.2) (.int .i64 ((rd_T60 t213 x18_1).f0))) (fun _ hk => hk.2) (.string ((rd_T60 t213 x18_1).f1))) (fun _ hk => hk.2) (.string ((rd_T60 t213 x18_1).f2))) (fun _ hk => trivial)⟩, ⟨by (with_reducible repeat (first | apply Kd.R_alloc | apply Kd.R_drewN | apply Kd.R_drew)); exact Kd.R_mono (Kd.R_far (p := ⟨gb217, 2, none⟩) (Kd.R_far (p := ⟨gb217, 1, none⟩) (Kd.R_far (p := ⟨gb217, 0, none⟩) (Kd.R_mono HO_16.out (fun k_ hk => (⟨hk, hk.2⟩ : _ ∧ k_ ≠ gb217))) (fun _ hk => hk.2) (.int .i64 ((rd_T60 t213 x18_1).f0))) (fun _ hk => hk.2) (.string ((rd_T60 t213 x18_1).f1))) (fun _ hk => hk.2) (.string ((rd_T60 t213 x18_1).f2))) (fun _ hk => trivial)⟩, ⟨aP11⟩⟩
  rw [if_pos c21] at H
  have c21b0 : decide (0 < (rd t210 (ji18))) = true := decide_eq_true c21
  clear c21
  obtain ⟨c22b0, H⟩ := gB H
  obtain ⟨c23b0, H⟩ := gB H
  by_cases c24 : (rd t210 (ji18)) = (rd t210 x8_1)
  rotate_left
  ·rw [if_neg c24] at H
   obtain ⟨c24b0, c24b1⟩ := nE c24
   have H' := aM H
   clear H
   obtain ⟨ad216, rfl, p216, q216, hx216_0, hx216_1, hx216_2⟩ := xT HO_16.out x18_1
   go_wp2_with ((with_reducible refine gate_dst (N := 10) rfl ?_); (try (refine gate_guard (by rfl) ?_; dsimp only)); refine box_event rfl (N := 10) rfl (cs := #[.int .i64 0, .string ⟨#[]⟩, .string ⟨#[]⟩]) (t := 60) aP38 ?_; intro gb217 hg w29 hbox hb; have BK217 := aM (hbox); have GW217 := aM (bG (w := w) hg); have GE217 := aM (bG (w := w) hg); replace HO_5 := aM (Kd.R_below (rR HO_5.out) hb); replace HO_6 := aM (Kd.R_below (rR HO_6.out) hb); replace HO_16 := aM (Kd.R_below (Kd.R_elderB (rR HO_16.out) gb217 (Nat.le_of_eq hg.symm)) hb); replace HB := aM (below_step bB hb); clear hb hbox hg; obtain ⟨hcz30_0, hcz30_1, hcz30_2, hfz30_0, hfz30_1, hfz30_2⟩ := bx3 BK217.out; obtain ⟨Ao31, co31, eo31⟩ := Kd.R_slice HO_5.out; subst eo31; obtain ⟨Ao32, co32, eo32⟩ := Kd.R_slice HO_6.out; subst eo32; obtain ⟨ad218, rfl, p218, q218, hx218_0⟩ := xI HO_6.out (ji18); have hn218_0 : ad218.block ≠ gb217 := Kd.own_blk (Kd.R_ne HO_6.out BK217.out (by decide)); have hn218_1 : ad218.block ≠ gb217 := Kd.own_blk (Kd.R_ne HO_6.out BK217.out (by decide)); have hn218_2 : ad218.block ≠ gb217 := Kd.own_blk (Kd.R_ne HO_6.out BK217.out (by decide)); replace hx218_0 := (cell_far (p := ⟨gb217, 0, none⟩) aP21 (.int .i64 ((rd_T60 t213 x18_1).f0))).trans hx218_0; replace hx218_0 := (cell_far (p := ⟨gb217, 1, none⟩) aP22 (.string ((rd_T60 t213 x18_1).f1))).trans hx218_0; replace hx218_0 := (cell_far (p := ⟨gb217, 2, none⟩) aP23 (.string ((rd_T60 t213 x18_1).f2))).trans hx218_0; (try have hy218_0 := fun (n_ : Nat) => (show (((((w29.drewN n_).setCell ⟨gb217, 0, none⟩ (.int .i64 ((rd_T60 t213 x18_1).f0))).setCell ⟨gb217, 1, none⟩ (.string ((rd_T60 t213 x18_1).f1))).setCell ⟨gb217, 2, none⟩ (.string ((rd_T60 t213 x18_1).f2)))).cell? _ = some _ from hx218_0)); clear hn218_0; clear hn218_1; clear hn218_2; obtain ⟨ad219, e219, p219, q219, hx219_0⟩ := xI HO_6.out (ji18); obtain rfl : ad218 = ad219 := (by injection e219); have hn219_0 : ad218.block ≠ gb217 := Kd.own_blk (Kd.R_ne HO_6.out BK217.out (by decide)); have hn219_1 : ad218.block ≠ gb217 := Kd.own_blk (Kd.R_ne HO_6.out BK217.out (by decide)); have hn219_2 : ad218.block ≠ gb217 := Kd.own_blk (Kd.R_ne HO_6.out BK217.out (by decide)); replace hx219_0 := (cell_far (p := ⟨gb217, 0, none⟩) aP24 (.int .i64 ((rd_T60 t213 x18_1).f0))).trans hx219_0; replace hx219_0 := (cell_far (p := ⟨gb217, 1, none⟩) aP25 (.string ((rd_T60 t213 x18_1).f1))).trans hx219_0; replace hx219_0 := (cell_far (p := ⟨gb217, 2, none⟩) aP26 (.string ((rd_T60 t213 x18_1).f2))).trans hx219_0; (try have hy219_0 := fun (n_ : Nat) => (show (((((w29.drewN n_).setCell ⟨gb217, 0, none⟩ (.int .i64 ((rd_T60 t213 x18_1).f0))).setCell ⟨gb217, 1, none⟩ (.string ((rd_T60 t213 x18_1).f1))).setCell ⟨gb217, 2, none⟩ (.string ((rd_T60 t213 x18_1).f2)))).cell? _ = some _ from hx219_0)); clear hn219_0; clear hn219_1; clear hn219_2; obtain ⟨ad220, e220, p220, q220, hx220_0⟩ := xI HO_6.out x8_1; obtain rfl : ad218 = ad220 := (by injection e220); have hn220_0 : ad218.block ≠ gb217 := Kd.own_blk (Kd.R_ne HO_6.out BK217.out (by decide)); have hn220_1 : ad218.block ≠ gb217 := Kd.own_blk (Kd.R_ne HO_6.out BK217.out (by decide)); have hn220_2 : ad218.block ≠ gb217 := Kd.own_blk (Kd.R_ne HO_6.out BK217.out (by decide)); replace hx220_0 := (cell_far (p := ⟨gb217, 0, none⟩) aP27 (.int .i64 ((rd_T60 t213 x18_1).f0))).trans hx220_0; replace hx220_0 := (cell_far (p := ⟨gb217, 1, none⟩) aP28 (.string ((rd_T60 t213 x18_1).f1))).trans hx220_0; replace hx220_0 := (cell_far (p := ⟨gb217, 2, none⟩) aP29 (.string ((rd_T60 t213 x18_1).f2))).trans hx220_0; (try have hy220_0 := fun (n_ : Nat) => (show (((((w29.drewN n_).setCell ⟨gb217, 0, none⟩ (.int .i64 ((rd_T60 t213 x18_1).f0))).setCell ⟨gb217, 1, none⟩ (.string ((rd_T60 t213 x18_1).f1))).setCell ⟨gb217, 2, none⟩ (.string ((rd_T60 t213 x18_1).f2)))).cell? _ = some _ from hx220_0)); clear hn220_0; clear hn220_1; clear hn220_2)
   repeat (go_quiet (fail); try go_wp2_with (fail))
   go_roundg k1
   case measure => have := HK1.out; omega
   case rel => exact ⟨(x7_1), (wrap64 (x8_1 + (wrap64 (((rd_T60 t213 x18_1).f0) + (((rd_T60 t213 x18_1).f2).size : Int))))), (wrap64 (x18_1 + 1)), aP19, aP19, aP19, H', ⟨by have := HK1.out; omega⟩, ⟨by (with_reducible repeat (first | apply Kd.R_alloc | apply Kd.R_drewN | apply Kd.R_drew)); exact Kd.R_mono (Kd.R_far (p := ⟨gb217, 2, none⟩) (Kd.R_far (p := ⟨gb217, 1, none⟩) (Kd.R_far (p := ⟨gb217, 0, none⟩) (Kd.R_types HO_5.out BK217.out (by decide)) (fun _ hk => hk.2) (.int .i64 ((rd_T60 t213 x18_1).f0))) (fun _ hk => hk.2) (.string ((rd_T60 t213 x18_1).f1))) (fun _ hk => hk.2) (.string ((rd_T60 t213 x18_1).f2))) (fun _ hk => trivial)⟩, ⟨by (with_reducible repeat (first | apply Kd.R_alloc | apply Kd.R_drewN | apply Kd.R_drew)); exact Kd.R_mono (Kd.R_far (p := ⟨gb217, 2, none⟩) (Kd.R_far (p := ⟨gb217, 1, none⟩) (Kd.R_far (p := ⟨gb217, 0, none⟩) (Kd.R_types HO_6.out BK217.out (by decide)) (fun _ hk => hk.2) (.int .i64 ((rd_T60 t213 x18_1).f0))) (fun _ hk => hk.2) (.string ((rd_T60 t213 x18_1).f1))) (fun _ hk => hk.2) (.string ((rd_T60 t213 x18_1).f2))) (fun _ hk => trivial)⟩, ⟨by (with_reducible repeat (first | apply Kd.R_alloc | apply Kd.R_drewN | apply Kd.R_drew)); exact Kd.R_mono (Kd.R_far (p := ⟨gb217, 2, none⟩) (Kd.R_far (p := ⟨gb217, 1, none⟩) (Kd.R_far (p := ⟨gb217, 0, none⟩) (Kd.R_mono HO_16.out (fun k_ hk => (⟨hk, hk.2⟩ : _ ∧ k_ ≠ gb217))) (fun _ hk => hk.2) (.int .i64 ((rd_T60 t213 x18_1).f0))) (fun _ hk => hk.2) (.string ((rd_T60 t213 x18_1).f1))) (fun _ hk => hk.2) (.string ((rd_T60 t213 x18_1).f2))) (fun _ hk => trivial)⟩, ⟨aP11⟩⟩
  rw [if_pos c24] at H
  obtain ⟨c24b0, c24b1⟩ := pE c24
  clear c24
  have H' := aM H
  clear H
  obtain ⟨ad216, rfl, p216, q216, hx216_0, hx216_1, hx216_2⟩ := xT HO_16.out x18_1
  go_wp2_with ((with_reducible refine gate_dst (N := 10) rfl ?_); (try (refine gate_guard (by rfl) ?_; dsimp only)); refine box_event rfl (N := 10) rfl (cs := #[.int .i64 0, .string ⟨#[]⟩, .string ⟨#[]⟩]) (t := 60) aP38 ?_; intro gb217 hg w25 hbox hb; have BK217 := aM (hbox); have GW217 := aM (bG (w := w) hg); have GE217 := aM (bG (w := w) hg); replace HO_5 := aM (Kd.R_below (rR HO_5.out) hb); replace HO_6 := aM (Kd.R_below (rR HO_6.out) hb); replace HO_16 := aM (Kd.R_below (Kd.R_elderB (rR HO_16.out) gb217 (Nat.le_of_eq hg.symm)) hb); replace HB := aM (below_step bB hb); clear hb hbox hg; obtain ⟨hcz26_0, hcz26_1, hcz26_2, hfz26_0, hfz26_1, hfz26_2⟩ := bx3 BK217.out; obtain ⟨Ao27, co27, eo27⟩ := Kd.R_slice HO_5.out; subst eo27; obtain ⟨Ao28, co28, eo28⟩ := Kd.R_slice HO_6.out; subst eo28; obtain ⟨ad218, rfl, p218, q218, hx218_0⟩ := xI HO_6.out (ji18); have hn218_0 : ad218.block ≠ gb217 := Kd.own_blk (Kd.R_ne HO_6.out BK217.out (by decide)); have hn218_1 : ad218.block ≠ gb217 := Kd.own_blk (Kd.R_ne HO_6.out BK217.out (by decide)); have hn218_2 : ad218.block ≠ gb217 := Kd.own_blk (Kd.R_ne HO_6.out BK217.out (by decide)); replace hx218_0 := (cell_far (p := ⟨gb217, 0, none⟩) aP21 (.int .i64 ((rd_T60 t213 x18_1).f0))).trans hx218_0; replace hx218_0 := (cell_far (p := ⟨gb217, 1, none⟩) aP22 (.string ((rd_T60 t213 x18_1).f1))).trans hx218_0; replace hx218_0 := (cell_far (p := ⟨gb217, 2, none⟩) aP23 (.string ((rd_T60 t213 x18_1).f2))).trans hx218_0; (try have hy218_0 := fun (n_ : Nat) => (show (((((w25.drewN n_).setCell ⟨gb217, 0, none⟩ (.int .i64 ((rd_T60 t213 x18_1).f0))).setCell ⟨gb217, 1, none⟩ (.string ((rd_T60 t213 x18_1).f1))).setCell ⟨gb217, 2, none⟩ (.string ((rd_T60 t213 x18_1).f2)))).cell? _ = some _ from hx218_0)); clear hn218_0; clear hn218_1; clear hn218_2; obtain ⟨ad219, e219, p219, q219, hx219_0⟩ := xI HO_6.out (ji18); obtain rfl : ad218 = ad219 := (by injection e219); have hn219_0 : ad218.block ≠ gb217 := Kd.own_blk (Kd.R_ne HO_6.out BK217.out (by decide)); have hn219_1 : ad218.block ≠ gb217 := Kd.own_blk (Kd.R_ne HO_6.out BK217.out (by decide)); have hn219_2 : ad218.block ≠ gb217 := Kd.own_blk (Kd.R_ne HO_6.out BK217.out (by decide)); replace hx219_0 := (cell_far (p := ⟨gb217, 0, none⟩) aP24 (.int .i64 ((rd_T60 t213 x18_1).f0))).trans hx219_0; replace hx219_0 := (cell_far (p := ⟨gb217, 1, none⟩) aP25 (.string ((rd_T60 t213 x18_1).f1))).trans hx219_0; replace hx219_0 := (cell_far (p := ⟨gb217, 2, none⟩) aP26 (.string ((rd_T60 t213 x18_1).f2))).trans hx219_0; (try have hy219_0 := fun (n_ : Nat) => (show (((((w25.drewN n_).setCell ⟨gb217, 0, none⟩ (.int .i64 ((rd_T60 t213 x18_1).f0))).setCell ⟨gb217, 1, none⟩ (.string ((rd_T60 t213 x18_1).f1))).setCell ⟨gb217, 2, none⟩ (.string ((rd_T60 t213 x18_1).f2)))).cell? _ = some _ from hx219_0)); clear hn219_0; clear hn219_1; clear hn219_2; obtain ⟨ad220, e220, p220, q220, hx220_0⟩ := xI HO_6.out x8_1; obtain rfl : ad218 = ad220 := (by injection e220); have hn220_0 : ad218.block ≠ gb217 := Kd.own_blk (Kd.R_ne HO_6.out BK217.out (by decide)); have hn220_1 : ad218.block ≠ gb217 := Kd.own_blk (Kd.R_ne HO_6.out BK217.out (by decide)); have hn220_2 : ad218.block ≠ gb217 := Kd.own_blk (Kd.R_ne HO_6.out BK217.out (by decide)); replace hx220_0 := (cell_far (p := ⟨gb217, 0, none⟩) aP27 (.int .i64 ((rd_T60 t213 x18_1).f0))).trans hx220_0; replace hx220_0 := (cell_far (p := ⟨gb217, 1, none⟩) aP28 (.string ((rd_T60 t213 x18_1).f1))).trans hx220_0; replace hx220_0 := (cell_far (p := ⟨gb217, 2, none⟩) aP29 (.string ((rd_T60 t213 x18_1).f2))).trans hx220_0; (try have hy220_0 := fun (n_ : Nat) => (show (((((w25.drewN n_).setCell ⟨gb217, 0, none⟩ (.int .i64 ((rd_T60 t213 x18_1).f0))).setCell ⟨gb217, 1, none⟩ (.string ((rd_T60 t213 x18_1).f1))).setCell ⟨gb217, 2, none⟩ (.string ((rd_T60 t213 x18_1).f2)))).cell? _ = some _ from hx220_0)); clear hn220_0; clear hn220_1; clear hn220_2)
  repeat (go_quiet (fail); try go_wp2_with (fail))
  go_roundg k1
  case measure => have := HK1.out; omega
  case rel => exact ⟨(wrap64 (x7_1 + 1)), (wrap64 (x8_1 + (wrap64 (((rd_T60 t213 x18_1).f0) + (((rd_T60 t213 x18_1).f2).size : Int))))), (wrap64 (x18_1 + 1)), aP19, aP19, aP19, H', ⟨by have := HK1.out; omega⟩, ⟨by (with_reducible repeat (first | apply Kd.R_alloc | apply Kd.R_drewN | apply Kd.R_drew)); exact Kd.R_mono (Kd.R_far (p := ⟨gb217, 2, none⟩) (Kd.R_far (p := ⟨gb217, 1, none⟩) (Kd.R_far (p := ⟨gb217, 0, none⟩) (Kd.R_types HO_5.out BK217.out (by decide)) (fun _ hk => hk.2) (.int .i64 ((rd_T60 t213 x18_1).f0))) (fun _ hk => hk.2) (.string ((rd_T60 t213 x18_1).f1))) (fun _ hk => hk.2) (.string ((rd_T60 t213 x18_1).f2))) (fun _ hk => trivial)⟩, ⟨by (with_reducible repeat (first | apply Kd.R_alloc | apply Kd.R_drewN | apply Kd.R_drew)); exact Kd.R_mono (Kd.R_far (p := ⟨gb217, 2, none⟩) (Kd.R_far (p := ⟨gb217, 1, none⟩) (Kd.R_far (p := ⟨gb217, 0, none⟩) (Kd.R_types HO_6.out BK217.out (by decide)) (fun _ hk => hk.2) (.int .i64 ((rd_T60 t213 x18_1).f0))) (fun _ hk => hk.2) (.string ((rd_T60 t213 x18_1).f1))) (fun _ hk => hk.2) (.string ((rd_T60 t213 x18_1).f2))) (fun _ hk => trivial)⟩, ⟨by (with_reducible repeat (first | apply Kd.R_alloc | apply Kd.R_drewN | apply Kd.R_drew)); exact Kd.R_mono (Kd.R_far (p := ⟨gb217, 2, none⟩) (Kd.R_far (p := ⟨gb217, 1, none⟩) (Kd.R_far (p := ⟨gb217, 0, none⟩) (Kd.R_mono HO_16.out (fun k_ hk => (⟨hk, hk.2⟩ : _ ∧ k_ ≠ gb217))) (fun _ hk => hk.2) (.int .i64 ((rd_T60 t213 x18_1).f0))) (fun _ hk => hk.2) (.string ((rd_T60 t213 x18_1).f1))) (fun _ hk => hk.2) (.string ((rd_T60 t213 x18_1).f2))) (fun _ hk => trivial)⟩, ⟨aP11⟩⟩
end Go.Proofs.Ytoagljlnfakgjaa.PFnDiamond
