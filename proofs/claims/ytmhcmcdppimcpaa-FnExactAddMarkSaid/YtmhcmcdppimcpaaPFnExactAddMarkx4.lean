/- (thin) Written by a program of this session (wip/ovl.py) over the kit's print: plain functions with the answers of the Go functions, and the proofs that they are; no condition. -/
import Derived.Test.YtmhcmcdppimcpaaPFnExactAddMarkx0
namespace Go.Proofs.Ytmhcmcdppimcpaa.PFnExactAddMark
open Go.RowKit Go.Proofs.YtmhcmcdppimcpaaW.PrintWords Go.Proofs.YtmhcmcdppimcpaaW.PrintLast Go.Proofs.YtmhcmcdppimcpaaW.PrintMore
attribute [local go_sem] max2_int min2_int max_two min_two max_three min_three max_four min_four   -- for this text's walks alone
set_option linter.unusedVariables false
set_option linter.unusedSimpArgs false
/-! ### spec_l5Add: function 55 -/
mutual
def spec_l5Add.l0 : Nat → List (S67) → Bool → List (S67) → Int → Int → Int → Int → ByteArray → Option ((List (S67)))
 | 0, _, _, _, _, _, _, _, _ => none
 | k + 1, x5, x6, x9, x10, x11, x142000, x142001, x142002 => if x11 < x10 then (if 0 ≤ x11 then (if x11 < (x9.length : Int) then (if (Op.bytesLess (((rd_T67 x9 x11).f2).toList) x142002.toList) = true then (spec_l5Add.j1 k x5 x6 x9 x10 x11 true x142000 x142001 x142002 ((rd_T67 x9 x11).f0) ((rd_T67 x9 x11).f1) ((rd_T67 x9 x11).f2)) else (if ((rd_T67 x9 x11).f2).toList = x142002.toList then (spec_l5Add.j1 k x5 x6 x9 x10 x11 (decide (((rd_T67 x9 x11).f1) < x142000)) x142000 x142001 x142002 ((rd_T67 x9 x11).f0) ((rd_T67 x9 x11).f1) ((rd_T67 x9 x11).f2)) else (spec_l5Add.j1 k x5 x6 x9 x10 x11 false x142000 x142001 x142002 ((rd_T67 x9 x11).f0) ((rd_T67 x9 x11).f1) ((rd_T67 x9 x11).f2)))) else (none)) else (none)) else (if x6 = true then (some x5) else (if x5.length < 4398046511104 then (some (x5 ++ [(⟨x142000, x142001, x142002⟩ : S67)])) else (none)))
def spec_l5Add.j1 : Nat → List (S67) → Bool → List (S67) → Int → Int → Bool → Int → Int → ByteArray → Int → Int → ByteArray → Option ((List (S67)))
 | 0, _, _, _, _, _, _, _, _, _, _, _, _ => none
 | k + 1, x5, x6, x9, x10, x11, x31, x142000, x142001, x142002, x147000, x147001, x147002 => if x31 = true then (if x5.length < 4398046511104 then (spec_l5Add.l0 k (x5 ++ [(⟨x147000, x147001, x147002⟩ : S67)]) x6 x9 x10 (wrap64 (x11 + 1)) x142000 x142001 x142002) else (none)) else (if (Op.bytesLess x142002.toList x147002.toList) = true then (spec_l5Add.j2 k x5 x6 x9 x10 x11 true x142000 x142001 x142002 x147000 x147001 x147002) else (spec_l5Add.j2 k x5 x6 x9 x10 x11 (decide (x147000 > x142001)) x142000 x142001 x142002 x147000 x147001 x147002))
def spec_l5Add.j2 : Nat → List (S67) → Bool → List (S67) → Int → Int → Bool → Int → Int → ByteArray → Int → Int → ByteArray → Option ((List (S67)))
 | 0, _, _, _, _, _, _, _, _, _, _, _, _ => none
 | k + 1, x5, x6, x9, x10, x11, x55, x142000, x142001, x142002, x147000, x147001, x147002 => if x55 = true then (if x6 = true then (if x5.length < 4398046511104 then (spec_l5Add.l0 k (x5 ++ [(⟨x147000, x147001, x147002⟩ : S67)]) x6 x9 x10 (wrap64 (x11 + 1)) x142000 x142001 x142002) else (none)) else (if x5.length < 4398046511104 then ((some (x5 ++ [(⟨x142000, x142001, x142002⟩ : S67)] : List (S67))).bind fun y153 => (if y153.length < 4398046511104 then (spec_l5Add.l0 k (y153 ++ [(⟨x147000, x147001, x147002⟩ : S67)]) true x9 x10 (wrap64 (x11 + 1)) x142000 x142001 x142002) else (none))) else (none))) else (if x147000 < x142000 then (if x147001 > x142001 then (spec_l5Add.l0 k x5 x6 x9 x10 (wrap64 (x11 + 1)) x147000 x147001 x142002) else (spec_l5Add.l0 k x5 x6 x9 x10 (wrap64 (x11 + 1)) x147000 x142001 x142002)) else (if x147001 > x142001 then (spec_l5Add.l0 k x5 x6 x9 x10 (wrap64 (x11 + 1)) x142000 x147001 x142002) else (spec_l5Add.l0 k x5 x6 x9 x10 (wrap64 (x11 + 1)) x142000 x142001 x142002)))
end
def spec_l5Add.f (k : Nat) (l0 : List (S67)) (a1_0 : Int) (a1_1 : Int) (a1_2 : ByteArray) : Option ((List (S67))) := spec_l5Add.l0 k ([] : List (S67)) false l0 (l0.length : Int) 0 a1_0 a1_1 a1_2
theorem spec_l5Add.mono_l : ∀ k, (∀ y0 y1 y2 y3 y4 y5 y6 y7, LeO (spec_l5Add.l0 k y0 y1 y2 y3 y4 y5 y6 y7) (spec_l5Add.l0 (k + 1) y0 y1 y2 y3 y4 y5 y6 y7)) ∧ (∀ y0 y1 y2 y3 y4 y5 y6 y7 y8 y9 y10 y11, LeO (spec_l5Add.j1 k y0 y1 y2 y3 y4 y5 y6 y7 y8 y9 y10 y11) (spec_l5Add.j1 (k + 1) y0 y1 y2 y3 y4 y5 y6 y7 y8 y9 y10 y11)) ∧ (∀ y0 y1 y2 y3 y4 y5 y6 y7 y8 y9 y10 y11, LeO (spec_l5Add.j2 k y0 y1 y2 y3 y4 y5 y6 y7 y8 y9 y10 y11) (spec_l5Add.j2 (k + 1) y0 y1 y2 y3 y4 y5 y6 y7 y8 y9 y10 y11))
 | 0 => ⟨fun _ _ _ _ _ _ _ _ r h => by simp [spec_l5Add.l0] at h, fun _ _ _ _ _ _ _ _ _ _ _ _ r h => by simp [spec_l5Add.j1] at h, fun _ _ _ _ _ _ _ _ _ _ _ _ r h => by simp [spec_l5Add.j2] at h⟩
 | k + 1 => by
  obtain ⟨ih0, ih1, ih2⟩ := spec_l5Add.mono_l k
  refine ⟨?_, ?_, ?_⟩
  ·intro y0 y1 y2 y3 y4 y5 y6 y7
   unfold spec_l5Add.l0
   repeat' first
   | (with_reducible exact ih0 _ _ _ _ _ _ _ _)
   | (with_reducible exact ih1 _ _ _ _ _ _ _ _ _ _ _ _)
   | (with_reducible exact ih2 _ _ _ _ _ _ _ _ _ _ _ _)
   | (with_reducible exact LeO.refl _)
   | (with_reducible exact LeO.none _)
   | (with_reducible refine LeO.ite ?_ ?_)
   | (with_reducible refine LeO.bind ?_ (fun _ => ?_))
   | exact ih0 _ _ _ _ _ _ _ _
   | exact ih1 _ _ _ _ _ _ _ _ _ _ _ _
   | exact ih2 _ _ _ _ _ _ _ _ _ _ _ _
   | exact LeO.none _
   | refine LeO.ite ?_ ?_
   | refine LeO.bind ?_ (fun _ => ?_)
  ·intro y0 y1 y2 y3 y4 y5 y6 y7 y8 y9 y10 y11
   unfold spec_l5Add.j1
   repeat' first
   | (with_reducible exact ih0 _ _ _ _ _ _ _ _)
   | (with_reducible exact ih1 _ _ _ _ _ _ _ _ _ _ _ _)
   | (with_reducible exact ih2 _ _ _ _ _ _ _ _ _ _ _ _)
   | (with_reducible exact LeO.refl _)
   | (with_reducible exact LeO.none _)
   | (with_reducible refine LeO.ite ?_ ?_)
   | (with_reducible refine LeO.bind ?_ (fun _ => ?_))
   | exact ih0 _ _ _ _ _ _ _ _
   | exact ih1 _ _ _ _ _ _ _ _ _ _ _ _
   | exact ih2 _ _ _ _ _ _ _ _ _ _ _ _
   | exact LeO.none _
   | refine LeO.ite ?_ ?_
   | refine LeO.bind ?_ (fun _ => ?_)
  ·intro y0 y1 y2 y3 y4 y5 y6 y7 y8 y9 y10 y11
   unfold spec_l5Add.j2
   repeat' first
   | (with_reducible exact ih0 _ _ _ _ _ _ _ _)
   | (with_reducible exact ih1 _ _ _ _ _ _ _ _ _ _ _ _)
   | (with_reducible exact ih2 _ _ _ _ _ _ _ _ _ _ _ _)
   | (with_reducible exact LeO.refl _)
   | (with_reducible exact LeO.none _)
   | (with_reducible refine LeO.ite ?_ ?_)
   | (with_reducible refine LeO.bind ?_ (fun _ => ?_))
   | exact ih0 _ _ _ _ _ _ _ _
   | exact ih1 _ _ _ _ _ _ _ _ _ _ _ _
   | exact ih2 _ _ _ _ _ _ _ _ _ _ _ _
   | exact LeO.none _
   | refine LeO.ite ?_ ?_
   | refine LeO.bind ?_ (fun _ => ?_)
theorem spec_l5Add.mono : ∀ a0 a1 a2 a3 k, LeO (spec_l5Add.f k a0 a1 a2 a3) (spec_l5Add.f (k + 1) a0 a1 a2 a3) := by
 intro a0 a1 a2 a3 k
 obtain ⟨ih0, ih1, ih2⟩ := spec_l5Add.mono_l k
 unfold spec_l5Add.f
 repeat' first
   | (with_reducible exact ih0 _ _ _ _ _ _ _ _)
   | (with_reducible exact ih1 _ _ _ _ _ _ _ _ _ _ _ _)
   | (with_reducible exact ih2 _ _ _ _ _ _ _ _ _ _ _ _)
   | (with_reducible exact LeO.refl _)
   | (with_reducible exact LeO.none _)
   | (with_reducible refine LeO.ite ?_ ?_)
   | (with_reducible refine LeO.bind ?_ (fun _ => ?_))
   | exact ih0 _ _ _ _ _ _ _ _
   | exact ih1 _ _ _ _ _ _ _ _ _ _ _ _
   | exact ih2 _ _ _ _ _ _ _ _ _ _ _ _
   | exact LeO.none _
   | refine LeO.ite ?_ ?_
   | refine LeO.bind ?_ (fun _ => ?_)
set_option maxHeartbeats 8000000 in
set_option maxRecDepth 100000 in
theorem spec_l5Add.calls (k : Nat) (A0 : Option Addr) (c0 : Nat) (l0 : List (S67)) (a1_0 : Int) (a1_1 : Int) (a1_2 : ByteArray) (r : List (S67)) (w : World) (hr0 : Kd.C k67 w A0 l0.length l0) (hc0 : l0.length ≤ c0) (h : spec_l5Add.f k l0 a1_0 a1_1 a1_2 = some r) :
  Calls Try.prog 55 #[.slice A0 l0.length c0, .agg #[.int .i64 a1_0, .int .i64 a1_1, .string a1_2]] w fun e w' => ∃ v0_ : Value, e = .returned (v0_) ∧ Kd.R k67 67 w' w.heap.size (fun _ => True) v0_ r ∧ Below w.heap.size w w' := by
 have hu67 := Try.underlying67
 have HR0 := Aside0.mk hr0
 have HC0 := Aside0.mk hc0
 clear hr0 hc0
 have HB := Aside0.mk (Below.refl w.heap.size w)
 have H : (spec_l5Add.l0 k ([] : List (S67)) false l0 (l0.length : Int) 0 a1_0 a1_1 a1_2) = some r := h
 clear h
 have H' := Aside0.mk H
 clear H
 go_enter Try.func55, Try.ntmps55
 go_wp2_with (first | ((with_reducible refine gate_dst (N := 3) rfl ?_); refine box_event ?hg (N := 3) ?hd (cs := #[.int .i64 a1_0, .int .i64 a1_1, .string a1_2]) (t := 67) ?hr ?_; (case hd => rfl); (case hg => rfl); (case hr => first | (go_simp; done) | (go_simp; rfl)); intro gb141 hg w3 hbox hb; have n0_ := Aside0.mk (below_step (by repeat (first | (with_reducible first | exact HB.out | apply below_alloc | apply pw_below_drewN | apply below_drew1) | exact HB.out)) hb); have n1_ := Aside0.mk (hbox); have n2_ := Aside0.mk ((by rw [hg]; exact (below_size (by repeat (first | (with_reducible first | exact HB.out | apply below_alloc | apply pw_below_drewN | apply below_drew1) | exact HB.out))) : w.heap.size ≤ gb141)); have n3_ := Aside0.mk ((by rw [hg]; exact (below_size (by repeat (first | (with_reducible first | exact HB.out | apply below_alloc | apply pw_below_drewN | apply below_drew1) | exact HB.out))) : w.heap.size ≤ gb141)); clear HB; have HB := n0_; have BK141 := n1_; have GW141 := n2_; have GE141 := n3_; clear n0_ n1_ n2_ n3_; clear hb hbox hg))
 go_loopg [5, 6, 11] k (fun kq v5 v6 v11 w' => ∃ (x5_1 : List (S67)) (x6_1 : Bool) (x11_1 : Int) (x142000_1 : Int) (x142001_1 : Int), v6 = .bool x6_1 ∧ v11 = .int .i64 x11_1 ∧ Aside0 (spec_l5Add.l0 kq x5_1 x6_1 l0 (l0.length : Int) x11_1 x142000_1 x142001_1 a1_2 = some r) ∧ Aside0 (kq ≤ k) ∧ Aside0 (Kd.R k67 67 w' w.heap.size (fun k_ => k_ ≠ gb141) v5 x5_1) ∧ Aside0 (w'.heap[gb141]? = some (.cells #[.int .i64 x142000_1, .int .i64 x142001_1, .string a1_2] 67 (0, 0))) ∧ Aside0 (Below w.heap.size w w'))
 case atStart => exact ⟨(([] : List (S67))), (false), (0), (a1_0), (a1_1), (by first | rfl | (simp; done) | (simp [*]; done)), (by first | rfl | (simp; done) | (simp [*]; done)), H', ⟨Nat.le_refl _⟩, ⟨by first | exact Kd.R_nil _ _ _ _ _ | exact Kd.N_nil _ _ _ _ _ | exact Kd.V_nil _ _ _ _ _ | exact Kd.Q_nil _ _ _ _ _ | exact Kd.S_nil _ _ _ _ _⟩, ⟨by (with_reducible repeat (first | refine blk_drewN ?_ _ | refine blk_drew ?_ | refine blk_alloc ?_ _)); exact BK141.out⟩, ⟨by repeat (first | (with_reducible first | exact HB.out | apply below_alloc | apply pw_below_drewN | apply below_drew1 | refine below_set ?_ GE141.out) | exact HB.out)⟩⟩
 case round =>
  clear H'
  try clear p2
  obtain ⟨x5_1, x6_1, x11_1, x142000_1, x142001_1, rfl, rfl, HA, HK1, HO_5, BK141, HB⟩ := hrel
  cases gk with
  | zero => exact absurd HA.out (by simp [spec_l5Add.l0])
  | succ k1 =>
   have H := HA.out
   clear HA
   simp only [spec_l5Add.l0] at H
   by_cases c4 : x11_1 < (l0.length : Int)
   ·rw [if_pos c4] at H
    have c4b0 : decide (x11_1 < (l0.length : Int)) = true := decide_eq_true c4
    clear c4
    by_cases c5 : 0 ≤ x11_1
    ·rw [if_pos c5] at H
     have c5b0 : decide (0 ≤ x11_1) = true := decide_eq_true c5
     clear c5
     by_cases c6 : x11_1 < (l0.length : Int)
     ·rw [if_pos c6] at H
      have c6b0 : decide (x11_1 < (l0.length : Int)) = true := decide_eq_true c6
      clear c6
      have HC7 := Aside0.mk H
      clear H
      have p145 : 0 ≤ (x11_1 : Int) := of_decide_eq_true (by assumption)
      have q145 : x11_1 < (l0.length : Int) := of_decide_eq_true (by assumption)
      obtain ⟨ad145, e145, hx145_0, hx145_1, hx145_2⟩ := at_T67 HR0.out x11_1 p145 q145
      cases e145
      replace hx145_0 := (HB.out.cell (World.block_lt_of_cell? w _ hx145_0)).trans hx145_0
      replace hx145_1 := (HB.out.cell (World.block_lt_of_cell? w _ hx145_1)).trans hx145_1
      replace hx145_2 := (HB.out.cell (World.block_lt_of_cell? w _ hx145_2)).trans hx145_2
      replace p145 := eq_true p145
      replace q145 := eq_true q145
      go_upto_region 10 with (first | ((with_reducible refine gate_dst (N := 8) rfl ?_); refine box_event ?hg (N := 8) ?hd (cs := #[.int .i64 0, .int .i64 0, .string (⟨#[]⟩ : ByteArray)]) (t := 67) ?hr ?_; (case hd => rfl); (case hg => rfl); (case hr => first | (go_simp; done) | (go_simp; rfl)); intro gb146 hg w8 hbox hb; have n0_ := Aside0.mk (Kd.R_below (Kd.R_elderB (by (with_reducible repeat (first | apply Kd.R_alloc | apply Kd.R_drewN | apply Kd.R_drew)); exact HO_5.out) gb146 (Nat.le_of_eq hg.symm)) hb); have n1_ := Aside0.mk (blk_below (g := gb141) (o := .cells #[.int .i64 x142000_1, .int .i64 x142001_1, .string a1_2] 67 (0, 0)) (by (with_reducible repeat (first | refine blk_drewN ?_ _ | refine blk_drew ?_ | refine blk_alloc ?_ _)); exact BK141.out) hb); have n2_ := Aside0.mk (below_step (by repeat (first | (with_reducible first | exact HB.out | apply below_alloc | apply pw_below_drewN | apply below_drew1 | refine below_set ?_ GE141.out) | exact HB.out)) hb); have n3_ := Aside0.mk (hbox); have n4_ := Aside0.mk ((by rw [hg]; exact (below_size (by repeat (first | (with_reducible first | exact HB.out | apply below_alloc | apply pw_below_drewN | apply below_drew1 | refine below_set ?_ GE141.out) | exact HB.out))) : w.heap.size ≤ gb146)); have n5_ := Aside0.mk ((by rw [hg]; exact (below_size (by repeat (first | (with_reducible first | exact HB.out | apply below_alloc | apply pw_below_drewN | apply below_drew1 | refine below_set ?_ GE141.out) | exact HB.out))) : w.heap.size ≤ gb146)); have n6_ := Aside0.mk ((by rw [hg]; exact Nat.ne_of_lt (blk_lt (g := gb141) (o := .cells #[.int .i64 x142000_1, .int .i64 x142001_1, .string a1_2] 67 (0, 0)) (by (with_reducible repeat (first | refine blk_drewN ?_ _ | refine blk_drew ?_ | refine blk_alloc ?_ _)); exact BK141.out)) : gb141 ≠ gb146)); have n7_ := Aside0.mk ((by rw [hg]; exact Nat.ne_of_gt (blk_lt (g := gb141) (o := .cells #[.int .i64 x142000_1, .int .i64 x142001_1, .string a1_2] 67 (0, 0)) (by (with_reducible repeat (first | refine blk_drewN ?_ _ | refine blk_drew ?_ | refine blk_alloc ?_ _)); exact BK141.out)) : gb146 ≠ gb141)); clear HO_5; clear BK141; clear HB; have HO_5 := n0_; have BK141 := n1_; have HB := n2_; have BK146 := n3_; have GW146 := n4_; have GE146 := n5_; have NB141_146 := n6_; have NB146_141 := n7_; clear n0_ n1_ n2_ n3_ n4_ n5_ n6_ n7_; clear hb hbox hg; have hnb9 := NB146_141.out; have hnc9 := NB141_146.out; have hcz10_0 : w8.cell? ⟨gb146, 0, none⟩ = some (.int .i64 0) := (blk_cell BK146.out 0).trans rfl; have hcz10_1 : w8.cell? ⟨gb146, 1, none⟩ = some (.int .i64 0) := (blk_cell BK146.out 1).trans rfl; have hcz10_2 : w8.cell? ⟨gb146, 2, none⟩ = some (.string (⟨#[]⟩ : ByteArray)) := (blk_cell BK146.out 2).trans rfl; have hfz10_0 := blk_frozen BK146.out 0; have hfz10_1 := blk_frozen BK146.out 1; have hfz10_2 := blk_frozen BK146.out 2))
      (try simp only [Act.put, List.setIfInBounds_toArray, List.set_cons_zero, List.set_cons_succ])
      go_cut [31] (fun v31 wc => ∃ (kq : Nat) (x31_6 : Bool), v31 = .bool x31_6 ∧ Aside0 (spec_l5Add.j1 kq x5_1 x6_1 l0 (l0.length : Int) x11_1 x31_6 x142000_1 x142001_1 a1_2 ((rd_T67 l0 x11_1).f0) ((rd_T67 l0 x11_1).f1) ((rd_T67 l0 x11_1).f2) = some r) ∧ Aside0 (kq ≤ k1) ∧ Aside0 (Kd.R k67 67 wc w.heap.size (fun k_ => k_ ≠ gb141 ∧ k_ ≠ gb146) u5 x5_1) ∧ Aside0 (wc.heap[gb141]? = some (.cells #[.int .i64 x142000_1, .int .i64 x142001_1, .string a1_2] 67 (0, 0))) ∧ Aside0 (wc.heap[gb146]? = some (.cells #[.int .i64 ((rd_T67 l0 x11_1).f0), .int .i64 ((rd_T67 l0 x11_1).f1), .string ((rd_T67 l0 x11_1).f2)] 67 (0, 0))) ∧ Aside0 (Below w.heap.size w wc))
      case first =>
       have H := HC7.out
       clear HC7
       by_cases c11 : (Op.bytesLess (((rd_T67 l0 x11_1).f2).toList) a1_2.toList) = true
       ·rw [if_pos c11] at H
        have c11b0 : (Op.bytesLess (((rd_T67 l0 x11_1).f2).toList) a1_2.toList) = true := c11
        clear c11
        (first | rw [c11b0] | (simp only [i64_w, i32_w]; rw [c11b0]) | rw [c11e] | skip)
        have H' := Aside0.mk H
        clear H
        have hnb12 := NB146_141.out
        have hnc12 := NB141_146.out
        have hcz13_0 : w8.cell? ⟨gb146, 0, none⟩ = some (.int .i64 0) := (blk_cell BK146.out 0).trans rfl
        have hcz13_1 : w8.cell? ⟨gb146, 1, none⟩ = some (.int .i64 0) := (blk_cell BK146.out 1).trans rfl
        have hcz13_2 : w8.cell? ⟨gb146, 2, none⟩ = some (.string (⟨#[]⟩ : ByteArray)) := (blk_cell BK146.out 2).trans rfl
        have hfz13_0 := blk_frozen BK146.out 0
        have hfz13_1 := blk_frozen BK146.out 1
        have hfz13_2 := blk_frozen BK146.out 2
        have hcz14_0 : w8.cell? ⟨gb141, 0, none⟩ = some (.int .i64 x142000_1) := (blk_cell BK141.out 0).trans rfl
        have hcz14_1 : w8.cell? ⟨gb141, 1, none⟩ = some (.int .i64 x142001_1) := (blk_cell BK141.out 1).trans rfl
        have hcz14_2 : w8.cell? ⟨gb141, 2, none⟩ = some (.string a1_2) := (blk_cell BK141.out 2).trans rfl
        have hfz14_0 := blk_frozen BK141.out 0
        have hfz14_1 := blk_frozen BK141.out 1
        have hfz14_2 := blk_frozen BK141.out 2
        go_wp2
        go_meet
        case rel => exact ⟨_, (true), (by first | rfl | (simp; done) | (simp [*]; done)), H', ⟨by have := HK1.out; first | omega | exact Nat.le_refl _⟩, ⟨by (with_reducible repeat (first | apply Kd.R_alloc | apply Kd.R_drewN | apply Kd.R_drew)); exact Kd.R_mono (Kd.R_far (p := ⟨gb146, 2, none⟩) (Kd.R_far (p := ⟨gb146, 1, none⟩) (Kd.R_far (p := ⟨gb146, 0, none⟩) (Kd.R_mono HO_5.out (fun k_ hk => (⟨hk, hk.2⟩ : _ ∧ k_ ≠ gb146))) (fun _ hk => hk.2) (.int .i64 ((rd_T67 l0 x11_1).f0))) (fun _ hk => hk.2) (.int .i64 ((rd_T67 l0 x11_1).f1))) (fun _ hk => hk.2) (.string ((rd_T67 l0 x11_1).f2))) (fun _ hk => ⟨hk.1.1, hk.1.2⟩)⟩, ⟨by (with_reducible repeat (first | refine blk_drewN ?_ _ | refine blk_drew ?_ | refine blk_alloc ?_ _)); refine blk_far ?_ NB141_146.out _; (with_reducible repeat (first | refine blk_drewN ?_ _ | refine blk_drew ?_ | refine blk_alloc ?_ _)); refine blk_far ?_ NB141_146.out _; (with_reducible repeat (first | refine blk_drewN ?_ _ | refine blk_drew ?_ | refine blk_alloc ?_ _)); refine blk_far ?_ NB141_146.out _; (with_reducible repeat (first | refine blk_drewN ?_ _ | refine blk_drew ?_ | refine blk_alloc ?_ _)); exact BK141.out⟩, ⟨by (with_reducible repeat (first | refine blk_drewN ?_ _ | refine blk_drew ?_ | refine blk_alloc ?_ _)); refine blk_put (cs := #[.int .i64 ((rd_T67 l0 x11_1).f0), .int .i64 ((rd_T67 l0 x11_1).f1), .string (⟨#[]⟩ : ByteArray)]) ?_ 2 _ rfl; (with_reducible repeat (first | refine blk_drewN ?_ _ | refine blk_drew ?_ | refine blk_alloc ?_ _)); refine blk_put (cs := #[.int .i64 ((rd_T67 l0 x11_1).f0), .int .i64 0, .string (⟨#[]⟩ : ByteArray)]) ?_ 1 _ rfl; (with_reducible repeat (first | refine blk_drewN ?_ _ | refine blk_drew ?_ | refine blk_alloc ?_ _)); refine blk_put (cs := #[.int .i64 0, .int .i64 0, .string (⟨#[]⟩ : ByteArray)]) ?_ 0 _ rfl; (with_reducible repeat (first | refine blk_drewN ?_ _ | refine blk_drew ?_ | refine blk_alloc ?_ _)); exact BK146.out⟩, ⟨by repeat (first | (with_reducible first | exact HB.out | apply below_alloc | apply pw_below_drewN | apply below_drew1 | refine below_set ?_ GE141.out | refine below_set ?_ GE146.out) | exact HB.out)⟩⟩
       ·rw [if_neg c11] at H
        have c11b0 : (Op.bytesLess (((rd_T67 l0 x11_1).f2).toList) a1_2.toList) = false := by simpa using c11
        clear c11
        (first | rw [c11b0] | (simp only [i64_w, i32_w]; rw [c11b0]) | rw [c11e] | skip)
        by_cases c15 : ((rd_T67 l0 x11_1).f2).toList = a1_2.toList
        ·rw [if_pos c15] at H
         have c15b0 : (((rd_T67 l0 x11_1).f2).toList == a1_2.toList) = true := beq_iff_eq.mpr c15
         have c15b1 : (((rd_T67 l0 x11_1).f2).toList != a1_2.toList) = false := bne_eq_false_iff_eq.mpr c15
         clear c15
         have H' := Aside0.mk H
         clear H
         have hnb16 := NB146_141.out
         have hnc16 := NB141_146.out
         have hcz17_0 : w8.cell? ⟨gb146, 0, none⟩ = some (.int .i64 0) := (blk_cell BK146.out 0).trans rfl
         have hcz17_1 : w8.cell? ⟨gb146, 1, none⟩ = some (.int .i64 0) := (blk_cell BK146.out 1).trans rfl
         have hcz17_2 : w8.cell? ⟨gb146, 2, none⟩ = some (.string (⟨#[]⟩ : ByteArray)) := (blk_cell BK146.out 2).trans rfl
         have hfz17_0 := blk_frozen BK146.out 0
         have hfz17_1 := blk_frozen BK146.out 1
         have hfz17_2 := blk_frozen BK146.out 2
         have hcz18_0 : w8.cell? ⟨gb141, 0, none⟩ = some (.int .i64 x142000_1) := (blk_cell BK141.out 0).trans rfl
         have hcz18_1 : w8.cell? ⟨gb141, 1, none⟩ = some (.int .i64 x142001_1) := (blk_cell BK141.out 1).trans rfl
         have hcz18_2 : w8.cell? ⟨gb141, 2, none⟩ = some (.string a1_2) := (blk_cell BK141.out 2).trans rfl
         have hfz18_0 := blk_frozen BK141.out 0
         have hfz18_1 := blk_frozen BK141.out 1
         have hfz18_2 := blk_frozen BK141.out 2
         go_wp2
         go_meet
         case rel => exact ⟨_, (decide (((rd_T67 l0 x11_1).f1) < x142000_1)), (by first | rfl | (simp; done) | (simp [*]; done)), H', ⟨by have := HK1.out; first | omega | exact Nat.le_refl _⟩, ⟨by (with_reducible repeat (first | apply Kd.R_alloc | apply Kd.R_drewN | apply Kd.R_drew)); exact Kd.R_mono (Kd.R_far (p := ⟨gb146, 2, none⟩) (Kd.R_far (p := ⟨gb146, 1, none⟩) (Kd.R_far (p := ⟨gb146, 0, none⟩) (Kd.R_mono HO_5.out (fun k_ hk => (⟨hk, hk.2⟩ : _ ∧ k_ ≠ gb146))) (fun _ hk => hk.2) (.int .i64 ((rd_T67 l0 x11_1).f0))) (fun _ hk => hk.2) (.int .i64 ((rd_T67 l0 x11_1).f1))) (fun _ hk => hk.2) (.string ((rd_T67 l0 x11_1).f2))) (fun _ hk => ⟨hk.1.1, hk.1.2⟩)⟩, ⟨by (with_reducible repeat (first | refine blk_drewN ?_ _ | refine blk_drew ?_ | refine blk_alloc ?_ _)); refine blk_far ?_ NB141_146.out _; (with_reducible repeat (first | refine blk_drewN ?_ _ | refine blk_drew ?_ | refine blk_alloc ?_ _)); refine blk_far ?_ NB141_146.out _; (with_reducible repeat (first | refine blk_drewN ?_ _ | refine blk_drew ?_ | refine blk_alloc ?_ _)); refine blk_far ?_ NB141_146.out _; (with_reducible repeat (first | refine blk_drewN ?_ _ | refine blk_drew ?_ | refine blk_alloc ?_ _)); exact BK141.out⟩, ⟨by (with_reducible repeat (first | refine blk_drewN ?_ _ | refine blk_drew ?_ | refine blk_alloc ?_ _)); refine blk_put (cs := #[.int .i64 ((rd_T67 l0 x11_1).f0), .int .i64 ((rd_T67 l0 x11_1).f1), .string (⟨#[]⟩ : ByteArray)]) ?_ 2 _ rfl; (with_reducible repeat (first | refine blk_drewN ?_ _ | refine blk_drew ?_ | refine blk_alloc ?_ _)); refine blk_put (cs := #[.int .i64 ((rd_T67 l0 x11_1).f0), .int .i64 0, .string (⟨#[]⟩ : ByteArray)]) ?_ 1 _ rfl; (with_reducible repeat (first | refine blk_drewN ?_ _ | refine blk_drew ?_ | refine blk_alloc ?_ _)); refine blk_put (cs := #[.int .i64 0, .int .i64 0, .string (⟨#[]⟩ : ByteArray)]) ?_ 0 _ rfl; (with_reducible repeat (first | refine blk_drewN ?_ _ | refine blk_drew ?_ | refine blk_alloc ?_ _)); exact BK146.out⟩, ⟨by repeat (first | (with_reducible first | exact HB.out | apply below_alloc | apply pw_below_drewN | apply below_drew1 | refine below_set ?_ GE141.out | refine below_set ?_ GE146.out) | exact HB.out)⟩⟩
        ·rw [if_neg c15] at H
         have c15b0 : (((rd_T67 l0 x11_1).f2).toList == a1_2.toList) = false := beq_eq_false_iff_ne.mpr c15
         have c15b1 : (((rd_T67 l0 x11_1).f2).toList != a1_2.toList) = true := bne_iff_ne.mpr c15
         have H' := Aside0.mk H
         clear H
         have hnb19 := NB146_141.out
         have hnc19 := NB141_146.out
         have hcz20_0 : w8.cell? ⟨gb146, 0, none⟩ = some (.int .i64 0) := (blk_cell BK146.out 0).trans rfl
         have hcz20_1 : w8.cell? ⟨gb146, 1, none⟩ = some (.int .i64 0) := (blk_cell BK146.out 1).trans rfl
         have hcz20_2 : w8.cell? ⟨gb146, 2, none⟩ = some (.string (⟨#[]⟩ : ByteArray)) := (blk_cell BK146.out 2).trans rfl
         have hfz20_0 := blk_frozen BK146.out 0
         have hfz20_1 := blk_frozen BK146.out 1
         have hfz20_2 := blk_frozen BK146.out 2
         have hcz21_0 : w8.cell? ⟨gb141, 0, none⟩ = some (.int .i64 x142000_1) := (blk_cell BK141.out 0).trans rfl
         have hcz21_1 : w8.cell? ⟨gb141, 1, none⟩ = some (.int .i64 x142001_1) := (blk_cell BK141.out 1).trans rfl
         have hcz21_2 : w8.cell? ⟨gb141, 2, none⟩ = some (.string a1_2) := (blk_cell BK141.out 2).trans rfl
         have hfz21_0 := blk_frozen BK141.out 0
         have hfz21_1 := blk_frozen BK141.out 1
         have hfz21_2 := blk_frozen BK141.out 2
         go_wp2
         go_meet
         case rel => exact ⟨_, (false), (by first | rfl | (simp; done) | (simp [*]; done)), H', ⟨by have := HK1.out; first | omega | exact Nat.le_refl _⟩, ⟨by (with_reducible repeat (first | apply Kd.R_alloc | apply Kd.R_drewN | apply Kd.R_drew)); exact Kd.R_mono (Kd.R_far (p := ⟨gb146, 2, none⟩) (Kd.R_far (p := ⟨gb146, 1, none⟩) (Kd.R_far (p := ⟨gb146, 0, none⟩) (Kd.R_mono HO_5.out (fun k_ hk => (⟨hk, hk.2⟩ : _ ∧ k_ ≠ gb146))) (fun _ hk => hk.2) (.int .i64 ((rd_T67 l0 x11_1).f0))) (fun _ hk => hk.2) (.int .i64 ((rd_T67 l0 x11_1).f1))) (fun _ hk => hk.2) (.string ((rd_T67 l0 x11_1).f2))) (fun _ hk => ⟨hk.1.1, hk.1.2⟩)⟩, ⟨by (with_reducible repeat (first | refine blk_drewN ?_ _ | refine blk_drew ?_ | refine blk_alloc ?_ _)); refine blk_far ?_ NB141_146.out _; (with_reducible repeat (first | refine blk_drewN ?_ _ | refine blk_drew ?_ | refine blk_alloc ?_ _)); refine blk_far ?_ NB141_146.out _; (with_reducible repeat (first | refine blk_drewN ?_ _ | refine blk_drew ?_ | refine blk_alloc ?_ _)); refine blk_far ?_ NB141_146.out _; (with_reducible repeat (first | refine blk_drewN ?_ _ | refine blk_drew ?_ | refine blk_alloc ?_ _)); exact BK141.out⟩, ⟨by (with_reducible repeat (first | refine blk_drewN ?_ _ | refine blk_drew ?_ | refine blk_alloc ?_ _)); refine blk_put (cs := #[.int .i64 ((rd_T67 l0 x11_1).f0), .int .i64 ((rd_T67 l0 x11_1).f1), .string (⟨#[]⟩ : ByteArray)]) ?_ 2 _ rfl; (with_reducible repeat (first | refine blk_drewN ?_ _ | refine blk_drew ?_ | refine blk_alloc ?_ _)); refine blk_put (cs := #[.int .i64 ((rd_T67 l0 x11_1).f0), .int .i64 0, .string (⟨#[]⟩ : ByteArray)]) ?_ 1 _ rfl; (with_reducible repeat (first | refine blk_drewN ?_ _ | refine blk_drew ?_ | refine blk_alloc ?_ _)); refine blk_put (cs := #[.int .i64 0, .int .i64 0, .string (⟨#[]⟩ : ByteArray)]) ?_ 0 _ rfl; (with_reducible repeat (first | refine blk_drewN ?_ _ | refine blk_drew ?_ | refine blk_alloc ?_ _)); exact BK146.out⟩, ⟨by repeat (first | (with_reducible first | exact HB.out | apply below_alloc | apply pw_below_drewN | apply below_drew1 | refine below_set ?_ GE141.out | refine below_set ?_ GE146.out) | exact HB.out)⟩⟩
      case rest =>
       clear HC7
       try clear c1
       try clear p1
       try clear q1
       try clear hx1
       try clear p2
       try clear c4
       try clear c4b0
       try clear c5
       try clear c5b0
       try clear c6
       try clear c6b0
       try clear c9
       try clear c11
       try clear c11b0
       try clear c12
       try clear p14
       try clear q14
       try clear hx14
       try clear c15
       try clear c15b0
       try clear c15b1
       try clear c16
       try clear c19
       try clear hcz10_0
       try clear hcz10_1
       try clear hcz10_2
       try clear hcz13_0
       try clear hcz13_1
       try clear hcz13_2
       try clear hcz14_0
       try clear hcz14_1
       try clear hcz14_2
       try clear hcz17_0
       try clear hcz17_1
       try clear hcz17_2
       try clear hcz18_0
       try clear hcz18_1
       try clear hcz18_2
       try clear hcz20_0
       try clear hcz20_1
       try clear hcz20_2
       try clear hcz21_0
       try clear hcz21_1
       try clear hcz21_2
       try clear hfz10_0
       try clear hfz10_1
       try clear hfz10_2
       try clear hfz13_0
       try clear hfz13_1
       try clear hfz13_2
       try clear hfz14_0
       try clear hfz14_1
       try clear hfz14_2
       try clear hfz17_0
       try clear hfz17_1
       try clear hfz17_2
       try clear hfz18_0
       try clear hfz18_1
       try clear hfz18_2
       try clear hfz20_0
       try clear hfz20_1
       try clear hfz20_2
       try clear hfz21_0
       try clear hfz21_1
       try clear hfz21_2
       try clear hx145_0
       try clear hx145_1
       try clear hx145_2
       try clear p145
       try clear p2
       try clear q145
       obtain ⟨kq, x31_6, rfl, HA, HJ6, HO_5, BK141, BK146, HB⟩ := hcut
       cases kq with
       | zero => exact absurd HA.out (by simp [spec_l5Add.j1])
       | succ kj6 =>
        have H := HA.out
        clear HA
        simp only [spec_l5Add.j1] at H
        by_cases c22 : x31_6 = true
        ·subst c22
         have H1 : (if x5_1.length < 4398046511104 then (spec_l5Add.l0 kj6 (x5_1 ++ [(⟨((rd_T67 l0 x11_1).f0), ((rd_T67 l0 x11_1).f1), ((rd_T67 l0 x11_1).f2)⟩ : S67)]) x6_1 l0 (l0.length : Int) (wrap64 (x11_1 + 1)) x142000_1 x142001_1 a1_2) else (none)) = some r := by rw [if_pos rfl] at H; exact H
         clear H
         have H := H1
         clear H1
         by_cases c23 : x5_1.length < 4398046511104
         ·rw [if_pos c23] at H
          have LMc23 := Aside0.mk c23
          clear c23
          obtain ⟨y147, hy147⟩ : ∃ y_ : List (S67), y_ = (x5_1 ++ [(⟨((rd_T67 l0 x11_1).f0), ((rd_T67 l0 x11_1).f1), ((rd_T67 l0 x11_1).f2)⟩ : S67)]) := ⟨_, rfl⟩
          replace H : (spec_l5Add.l0 kj6 y147 x6_1 l0 (l0.length : Int) (wrap64 (x11_1 + 1)) x142000_1 x142001_1 a1_2) = some r := by first | (rw [hy147]; with_reducible exact H) | (have H2_ := (Option.bind_some _ _).symm.trans H; rw [hy147]; with_reducible exact H2_) | (have H2_ := (Option.bind_some _ _).symm.trans H; with_reducible exact H2_) | with_reducible exact H | (rw [hy147]; exact H) | exact H
          have Ny147 := Aside0.mk hy147
          clear hy147
          have H' := Aside0.mk H
          clear H
          have hnb24 := NB146_141.out
          have hnc24 := NB141_146.out
          have hcz25_0 : wc.cell? ⟨gb146, 0, none⟩ = some (.int .i64 ((rd_T67 l0 x11_1).f0)) := (blk_cell BK146.out 0).trans rfl
          have hcz25_1 : wc.cell? ⟨gb146, 1, none⟩ = some (.int .i64 ((rd_T67 l0 x11_1).f1)) := (blk_cell BK146.out 1).trans rfl
          have hcz25_2 : wc.cell? ⟨gb146, 2, none⟩ = some (.string ((rd_T67 l0 x11_1).f2)) := (blk_cell BK146.out 2).trans rfl
          have hfz25_0 := blk_frozen BK146.out 0
          have hfz25_1 := blk_frozen BK146.out 1
          have hfz25_2 := blk_frozen BK146.out 2
          go_wp2_with (first | ((with_reducible refine gate_builtin (b := .append) (xs := #[.tmp 51, .tmp 53]) rfl ?_); at_builtin; refine Kd.R_append k67 (w0 := w) w.heap.size rfl (.tmp 51) (.tmp 53) 25 67 (.agg #[(.int .i64 0), (.int .i64 0), (.string ⟨#[]⟩)]) 32 rfl Try.underlying25 info67 rfl (by decide) (by omega) u5 x5_1 (⟨((rd_T67 l0 x11_1).f0), ((rd_T67 l0 x11_1).f1), ((rd_T67 l0 x11_1).f2)⟩ : S67) [.int .i64 ((rd_T67 l0 x11_1).f0), .int .i64 ((rd_T67 l0 x11_1).f1), .string ((rd_T67 l0 x11_1).f2)] (fun k_ => k_ ≠ gb141 ∧ k_ ≠ gb146) (fun _ => False) rfl rfl ?aP (fun _ hk => hk.elim) ?aF ?aO ?aB ?aS ?aL ?_; (case aP => exact k67_mkM _ _ _ (⟨((rd_T67 l0 x11_1).f0), ((rd_T67 l0 x11_1).f1), ((rd_T67 l0 x11_1).f2)⟩ : S67)); (case aB => exact (by repeat (first | (with_reducible first | exact HB.out | apply below_alloc | apply pw_below_drewN | apply below_drew1 | refine below_set ?_ GE141.out | refine below_set ?_ GE146.out) | exact HB.out))); (case aF => exact (fun k_ hk => ⟨Kd.freshB (g := gb141) (o := .cells #[.int .i64 x142000_1, .int .i64 x142001_1, .string a1_2] 67 (0, 0)) (by (with_reducible repeat (first | refine blk_drewN ?_ _ | refine blk_drew ?_ | refine blk_alloc ?_ _)); exact BK141.out) k_ hk, Kd.freshB (g := gb146) (o := .cells #[.int .i64 ((rd_T67 l0 x11_1).f0), .int .i64 ((rd_T67 l0 x11_1).f1), .string ((rd_T67 l0 x11_1).f2)] 67 (0, 0)) (by (with_reducible repeat (first | refine blk_drewN ?_ _ | refine blk_drew ?_ | refine blk_alloc ?_ _)); exact BK146.out) k_ hk⟩)); (case aO => exact (by (with_reducible repeat (first | apply Kd.R_alloc | apply Kd.R_drewN | apply Kd.R_drew)); exact HO_5.out)); (case aS => exact (below_size (by repeat (first | (with_reducible first | exact HB.out | apply below_alloc | apply pw_below_drewN | apply below_drew1 | refine below_set ?_ GE141.out | refine below_set ?_ GE146.out) | exact HB.out)))); (case aL => have := LMc23.out; omega); intro v148 w26 ho hb hg hat; rw [← Ny147.out] at ho; have n0_ := Aside0.mk (blk_grown (g := gb141) (o := .cells #[.int .i64 x142000_1, .int .i64 x142001_1, .string a1_2] 67 (0, 0)) (by (with_reducible repeat (first | refine blk_drewN ?_ _ | refine blk_drew ?_ | refine blk_alloc ?_ _)); exact BK141.out) hg (Kd.R_away HO_5.out (fun _ hk => hk.1))); have n1_ := Aside0.mk (blk_grown (g := gb146) (o := .cells #[.int .i64 ((rd_T67 l0 x11_1).f0), .int .i64 ((rd_T67 l0 x11_1).f1), .string ((rd_T67 l0 x11_1).f2)] 67 (0, 0)) (by (with_reducible repeat (first | refine blk_drewN ?_ _ | refine blk_drew ?_ | refine blk_alloc ?_ _)); exact BK146.out) hg (Kd.R_away HO_5.out (fun _ hk => hk.2))); have n2_ := Aside0.mk (hb); have n3_ := Aside0.mk (ho); clear BK141; clear BK146; clear HB; clear HO_5; have BK141 := n0_; have BK146 := n1_; have HB := n2_; have HO149 := n3_; clear n0_ n1_ n2_ n3_; clear ho hb hg hat))
          go_roundg kj6
          case measure => have := HK1.out; have := HJ6.out; omega
          case rel => exact ⟨(y147), (x6_1), (wrap64 (x11_1 + 1)), (x142000_1), (x142001_1), (by first | rfl | (simp; done) | (simp [*]; done)), (by first | rfl | (simp; done) | (simp [*]; done)), H', ⟨by have := HK1.out; have := HJ6.out; omega⟩, ⟨by (with_reducible repeat (first | apply Kd.R_alloc | apply Kd.R_drewN | apply Kd.R_drew)); exact Kd.R_mono HO149.out (fun _ hk => hk.1)⟩, ⟨by (with_reducible repeat (first | refine blk_drewN ?_ _ | refine blk_drew ?_ | refine blk_alloc ?_ _)); exact BK141.out⟩, ⟨by repeat (first | (with_reducible first | exact HB.out | apply below_alloc | apply pw_below_drewN | apply below_drew1 | refine below_set ?_ GE141.out | refine below_set ?_ GE146.out) | exact HB.out)⟩⟩
         ·rw [if_neg c23] at H
          exact absurd H (by simp)
        ·replace c22 := Bool.eq_false_iff.mpr c22
         subst c22
         have H1 : (if (Op.bytesLess a1_2.toList ((rd_T67 l0 x11_1).f2).toList) = true then (spec_l5Add.j2 kj6 x5_1 x6_1 l0 (l0.length : Int) x11_1 true x142000_1 x142001_1 a1_2 ((rd_T67 l0 x11_1).f0) ((rd_T67 l0 x11_1).f1) ((rd_T67 l0 x11_1).f2)) else (spec_l5Add.j2 kj6 x5_1 x6_1 l0 (l0.length : Int) x11_1 (decide (((rd_T67 l0 x11_1).f0) > x142001_1)) x142000_1 x142001_1 a1_2 ((rd_T67 l0 x11_1).f0) ((rd_T67 l0 x11_1).f1) ((rd_T67 l0 x11_1).f2))) = some r := by rw [if_neg (show ¬ (false = true) by decide)] at H; exact H
         clear H
         have H := H1
         clear H1
         have HC27 := Aside0.mk H
         clear H
         go_upto_region 12 with (fail)
         go_cut [55] (fun v55 wc => ∃ (kq : Nat) (x55_26 : Bool), v55 = .bool x55_26 ∧ Aside0 (spec_l5Add.j2 kq x5_1 x6_1 l0 (l0.length : Int) x11_1 x55_26 x142000_1 x142001_1 a1_2 ((rd_T67 l0 x11_1).f0) ((rd_T67 l0 x11_1).f1) ((rd_T67 l0 x11_1).f2) = some r) ∧ Aside0 (kq ≤ kj6) ∧ Aside0 (Kd.R k67 67 wc w.heap.size (fun k_ => k_ ≠ gb141 ∧ k_ ≠ gb146) u5 x5_1) ∧ Aside0 (wc.heap[gb141]? = some (.cells #[.int .i64 x142000_1, .int .i64 x142001_1, .string a1_2] 67 (0, 0))) ∧ Aside0 (wc.heap[gb146]? = some (.cells #[.int .i64 ((rd_T67 l0 x11_1).f0), .int .i64 ((rd_T67 l0 x11_1).f1), .string ((rd_T67 l0 x11_1).f2)] 67 (0, 0))) ∧ Aside0 (Below w.heap.size w wc))
         case first =>
          have H := HC27.out
          clear HC27
          by_cases c28 : (Op.bytesLess a1_2.toList ((rd_T67 l0 x11_1).f2).toList) = true
          ·rw [if_pos c28] at H
           have c28b0 : (Op.bytesLess a1_2.toList ((rd_T67 l0 x11_1).f2).toList) = true := c28
           clear c28
           (first | rw [c28b0] | (simp only [i64_w, i32_w]; rw [c28b0]) | rw [c28e] | skip)
           have H' := Aside0.mk H
           clear H
           have hnb29 := NB146_141.out
           have hnc29 := NB141_146.out
           have hcz30_0 : wc.cell? ⟨gb146, 0, none⟩ = some (.int .i64 ((rd_T67 l0 x11_1).f0)) := (blk_cell BK146.out 0).trans rfl
           have hcz30_1 : wc.cell? ⟨gb146, 1, none⟩ = some (.int .i64 ((rd_T67 l0 x11_1).f1)) := (blk_cell BK146.out 1).trans rfl
           have hcz30_2 : wc.cell? ⟨gb146, 2, none⟩ = some (.string ((rd_T67 l0 x11_1).f2)) := (blk_cell BK146.out 2).trans rfl
           have hfz30_0 := blk_frozen BK146.out 0
           have hfz30_1 := blk_frozen BK146.out 1
           have hfz30_2 := blk_frozen BK146.out 2
           have hcz31_0 : wc.cell? ⟨gb141, 0, none⟩ = some (.int .i64 x142000_1) := (blk_cell BK141.out 0).trans rfl
           have hcz31_1 : wc.cell? ⟨gb141, 1, none⟩ = some (.int .i64 x142001_1) := (blk_cell BK141.out 1).trans rfl
           have hcz31_2 : wc.cell? ⟨gb141, 2, none⟩ = some (.string a1_2) := (blk_cell BK141.out 2).trans rfl
           have hfz31_0 := blk_frozen BK141.out 0
           have hfz31_1 := blk_frozen BK141.out 1
           have hfz31_2 := blk_frozen BK141.out 2
           go_wp2
           go_meet
           case rel => exact ⟨_, (true), (by first | rfl | (simp; done) | (simp [*]; done)), H', ⟨by have := HK1.out; have := HJ6.out; first | omega | exact Nat.le_refl _⟩, ⟨by (with_reducible repeat (first | apply Kd.R_alloc | apply Kd.R_drewN | apply Kd.R_drew)); exact HO_5.out⟩, ⟨by (with_reducible repeat (first | refine blk_drewN ?_ _ | refine blk_drew ?_ | refine blk_alloc ?_ _)); exact BK141.out⟩, ⟨by (with_reducible repeat (first | refine blk_drewN ?_ _ | refine blk_drew ?_ | refine blk_alloc ?_ _)); exact BK146.out⟩, ⟨by repeat (first | (with_reducible first | exact HB.out | apply below_alloc | apply pw_below_drewN | apply below_drew1 | refine below_set ?_ GE141.out | refine below_set ?_ GE146.out) | exact HB.out)⟩⟩
          ·rw [if_neg c28] at H
           have c28b0 : (Op.bytesLess a1_2.toList ((rd_T67 l0 x11_1).f2).toList) = false := by simpa using c28
           clear c28
           (first | rw [c28b0] | (simp only [i64_w, i32_w]; rw [c28b0]) | rw [c28e] | skip)
           have H' := Aside0.mk H
           clear H
           have hnb32 := NB146_141.out
           have hnc32 := NB141_146.out
           have hcz33_0 : wc.cell? ⟨gb146, 0, none⟩ = some (.int .i64 ((rd_T67 l0 x11_1).f0)) := (blk_cell BK146.out 0).trans rfl
           have hcz33_1 : wc.cell? ⟨gb146, 1, none⟩ = some (.int .i64 ((rd_T67 l0 x11_1).f1)) := (blk_cell BK146.out 1).trans rfl
           have hcz33_2 : wc.cell? ⟨gb146, 2, none⟩ = some (.string ((rd_T67 l0 x11_1).f2)) := (blk_cell BK146.out 2).trans rfl
           have hfz33_0 := blk_frozen BK146.out 0
           have hfz33_1 := blk_frozen BK146.out 1
           have hfz33_2 := blk_frozen BK146.out 2
           have hcz34_0 : wc.cell? ⟨gb141, 0, none⟩ = some (.int .i64 x142000_1) := (blk_cell BK141.out 0).trans rfl
           have hcz34_1 : wc.cell? ⟨gb141, 1, none⟩ = some (.int .i64 x142001_1) := (blk_cell BK141.out 1).trans rfl
           have hcz34_2 : wc.cell? ⟨gb141, 2, none⟩ = some (.string a1_2) := (blk_cell BK141.out 2).trans rfl
           have hfz34_0 := blk_frozen BK141.out 0
           have hfz34_1 := blk_frozen BK141.out 1
           have hfz34_2 := blk_frozen BK141.out 2
           go_wp2
           go_meet
           case rel => exact ⟨_, (decide (((rd_T67 l0 x11_1).f0) > x142001_1)), (by first | rfl | (simp; done) | (simp [*]; done)), H', ⟨by have := HK1.out; have := HJ6.out; first | omega | exact Nat.le_refl _⟩, ⟨by (with_reducible repeat (first | apply Kd.R_alloc | apply Kd.R_drewN | apply Kd.R_drew)); exact HO_5.out⟩, ⟨by (with_reducible repeat (first | refine blk_drewN ?_ _ | refine blk_drew ?_ | refine blk_alloc ?_ _)); exact BK141.out⟩, ⟨by (with_reducible repeat (first | refine blk_drewN ?_ _ | refine blk_drew ?_ | refine blk_alloc ?_ _)); exact BK146.out⟩, ⟨by repeat (first | (with_reducible first | exact HB.out | apply below_alloc | apply pw_below_drewN | apply below_drew1 | refine below_set ?_ GE141.out | refine below_set ?_ GE146.out) | exact HB.out)⟩⟩
         case rest =>
          clear HC27
          try clear c1
          try clear p1
          try clear q1
          try clear hx1
          try clear c2
          try clear p2
          try clear c3
          try clear c4
          try clear c4b0
          try clear c5
          try clear c5b0
          try clear c6
          try clear c6b0
          try clear p6
          try clear c9
          try clear c11
          try clear c11b0
          try clear c12
          try clear p14
          try clear q14
          try clear hx14
          try clear c15
          try clear c15b0
          try clear c15b1
          try clear c16
          try clear c19
          try clear c22
          try clear c23
          try clear c24
          try clear c28
          try clear c28b0
          try clear c29
          try clear c32
          try clear hcz10_0
          try clear hcz10_1
          try clear hcz10_2
          try clear hcz13_0
          try clear hcz13_1
          try clear hcz13_2
          try clear hcz14_0
          try clear hcz14_1
          try clear hcz14_2
          try clear hcz17_0
          try clear hcz17_1
          try clear hcz17_2
          try clear hcz18_0
          try clear hcz18_1
          try clear hcz18_2
          try clear hcz20_0
          try clear hcz20_1
          try clear hcz20_2
          try clear hcz21_0
          try clear hcz21_1
          try clear hcz21_2
          try clear hcz25_0
          try clear hcz25_1
          try clear hcz25_2
          try clear hcz30_0
          try clear hcz30_1
          try clear hcz30_2
          try clear hcz31_0
          try clear hcz31_1
          try clear hcz31_2
          try clear hcz33_0
          try clear hcz33_1
          try clear hcz33_2
          try clear hcz34_0
          try clear hcz34_1
          try clear hcz34_2
          try clear hfz10_0
          try clear hfz10_1
          try clear hfz10_2
          try clear hfz13_0
          try clear hfz13_1
          try clear hfz13_2
          try clear hfz14_0
          try clear hfz14_1
          try clear hfz14_2
          try clear hfz17_0
          try clear hfz17_1
          try clear hfz17_2
          try clear hfz18_0
          try clear hfz18_1
          try clear hfz18_2
          try clear hfz20_0
          try clear hfz20_1
          try clear hfz20_2
          try clear hfz21_0
          try clear hfz21_1
          try clear hfz21_2
          try clear hfz25_0
          try clear hfz25_1
          try clear hfz25_2
          try clear hfz30_0
          try clear hfz30_1
          try clear hfz30_2
          try clear hfz31_0
          try clear hfz31_1
          try clear hfz31_2
          try clear hfz33_0
          try clear hfz33_1
          try clear hfz33_2
          try clear hfz34_0
          try clear hfz34_1
          try clear hfz34_2
          try clear hx145_0
          try clear hx145_1
          try clear hx145_2
          try clear p1
          try clear p14
          try clear p145
          try clear p2
          try clear q1
          try clear q14
          try clear q145
          obtain ⟨kq, x55_26, rfl, HA, HJ26, HO_5, BK141, BK146, HB⟩ := hcut
          cases kq with
          | zero => exact absurd HA.out (by simp [spec_l5Add.j2])
          | succ kj26 =>
           have H := HA.out
           clear HA
           simp only [spec_l5Add.j2] at H
           by_cases c35 : x55_26 = true
           ·subst c35
            have H1 : (if x6_1 = true then (if x5_1.length < 4398046511104 then (spec_l5Add.l0 kj26 (x5_1 ++ [(⟨((rd_T67 l0 x11_1).f0), ((rd_T67 l0 x11_1).f1), ((rd_T67 l0 x11_1).f2)⟩ : S67)]) x6_1 l0 (l0.length : Int) (wrap64 (x11_1 + 1)) x142000_1 x142001_1 a1_2) else (none)) else (if x5_1.length < 4398046511104 then ((some (x5_1 ++ [(⟨x142000_1, x142001_1, a1_2⟩ : S67)] : List (S67))).bind fun y153 => (if y153.length < 4398046511104 then (spec_l5Add.l0 kj26 (y153 ++ [(⟨((rd_T67 l0 x11_1).f0), ((rd_T67 l0 x11_1).f1), ((rd_T67 l0 x11_1).f2)⟩ : S67)]) true l0 (l0.length : Int) (wrap64 (x11_1 + 1)) x142000_1 x142001_1 a1_2) else (none))) else (none))) = some r := by rw [if_pos rfl] at H; exact H
            clear H
            have H := H1
            clear H1
            by_cases c36 : x6_1 = true
            ·subst c36
             have H1 : (if x5_1.length < 4398046511104 then (spec_l5Add.l0 kj26 (x5_1 ++ [(⟨((rd_T67 l0 x11_1).f0), ((rd_T67 l0 x11_1).f1), ((rd_T67 l0 x11_1).f2)⟩ : S67)]) true l0 (l0.length : Int) (wrap64 (x11_1 + 1)) x142000_1 x142001_1 a1_2) else (none)) = some r := by rw [if_pos rfl] at H; exact H
             clear H
             have H := H1
             clear H1
             by_cases c37 : x5_1.length < 4398046511104
             ·rw [if_pos c37] at H
              have LMc37 := Aside0.mk c37
              clear c37
              obtain ⟨y150, hy150⟩ : ∃ y_ : List (S67), y_ = (x5_1 ++ [(⟨((rd_T67 l0 x11_1).f0), ((rd_T67 l0 x11_1).f1), ((rd_T67 l0 x11_1).f2)⟩ : S67)]) := ⟨_, rfl⟩
              replace H : (spec_l5Add.l0 kj26 y150 true l0 (l0.length : Int) (wrap64 (x11_1 + 1)) x142000_1 x142001_1 a1_2) = some r := by first | (rw [hy150]; with_reducible exact H) | (have H2_ := (Option.bind_some _ _).symm.trans H; rw [hy150]; with_reducible exact H2_) | (have H2_ := (Option.bind_some _ _).symm.trans H; with_reducible exact H2_) | with_reducible exact H | (rw [hy150]; exact H) | exact H
              have Ny150 := Aside0.mk hy150
              clear hy150
              have H' := Aside0.mk H
              clear H
              have hnb38 := NB146_141.out
              have hnc38 := NB141_146.out
              have hcz39_0 : wc.cell? ⟨gb146, 0, none⟩ = some (.int .i64 ((rd_T67 l0 x11_1).f0)) := (blk_cell BK146.out 0).trans rfl
              have hcz39_1 : wc.cell? ⟨gb146, 1, none⟩ = some (.int .i64 ((rd_T67 l0 x11_1).f1)) := (blk_cell BK146.out 1).trans rfl
              have hcz39_2 : wc.cell? ⟨gb146, 2, none⟩ = some (.string ((rd_T67 l0 x11_1).f2)) := (blk_cell BK146.out 2).trans rfl
              have hfz39_0 := blk_frozen BK146.out 0
              have hfz39_1 := blk_frozen BK146.out 1
              have hfz39_2 := blk_frozen BK146.out 2
              go_wp2_with (first | ((with_reducible refine gate_builtin (b := .append) (xs := #[.tmp 74, .tmp 76]) rfl ?_); at_builtin; refine Kd.R_append k67 (w0 := w) w.heap.size rfl (.tmp 74) (.tmp 76) 25 67 (.agg #[(.int .i64 0), (.int .i64 0), (.string ⟨#[]⟩)]) 32 rfl Try.underlying25 info67 rfl (by decide) (by omega) u5 x5_1 (⟨((rd_T67 l0 x11_1).f0), ((rd_T67 l0 x11_1).f1), ((rd_T67 l0 x11_1).f2)⟩ : S67) [.int .i64 ((rd_T67 l0 x11_1).f0), .int .i64 ((rd_T67 l0 x11_1).f1), .string ((rd_T67 l0 x11_1).f2)] (fun k_ => k_ ≠ gb141 ∧ k_ ≠ gb146) (fun _ => False) rfl rfl ?aP (fun _ hk => hk.elim) ?aF ?aO ?aB ?aS ?aL ?_; (case aP => exact k67_mkM _ _ _ (⟨((rd_T67 l0 x11_1).f0), ((rd_T67 l0 x11_1).f1), ((rd_T67 l0 x11_1).f2)⟩ : S67)); (case aB => exact (by repeat (first | (with_reducible first | exact HB.out | apply below_alloc | apply pw_below_drewN | apply below_drew1 | refine below_set ?_ GE141.out | refine below_set ?_ GE146.out) | exact HB.out))); (case aF => exact (fun k_ hk => ⟨Kd.freshB (g := gb141) (o := .cells #[.int .i64 x142000_1, .int .i64 x142001_1, .string a1_2] 67 (0, 0)) (by (with_reducible repeat (first | refine blk_drewN ?_ _ | refine blk_drew ?_ | refine blk_alloc ?_ _)); exact BK141.out) k_ hk, Kd.freshB (g := gb146) (o := .cells #[.int .i64 ((rd_T67 l0 x11_1).f0), .int .i64 ((rd_T67 l0 x11_1).f1), .string ((rd_T67 l0 x11_1).f2)] 67 (0, 0)) (by (with_reducible repeat (first | refine blk_drewN ?_ _ | refine blk_drew ?_ | refine blk_alloc ?_ _)); exact BK146.out) k_ hk⟩)); (case aO => exact (by (with_reducible repeat (first | apply Kd.R_alloc | apply Kd.R_drewN | apply Kd.R_drew)); exact HO_5.out)); (case aS => exact (below_size (by repeat (first | (with_reducible first | exact HB.out | apply below_alloc | apply pw_below_drewN | apply below_drew1 | refine below_set ?_ GE141.out | refine below_set ?_ GE146.out) | exact HB.out)))); (case aL => have := LMc37.out; omega); intro v151 w40 ho hb hg hat; rw [← Ny150.out] at ho; have n0_ := Aside0.mk (blk_grown (g := gb141) (o := .cells #[.int .i64 x142000_1, .int .i64 x142001_1, .string a1_2] 67 (0, 0)) (by (with_reducible repeat (first | refine blk_drewN ?_ _ | refine blk_drew ?_ | refine blk_alloc ?_ _)); exact BK141.out) hg (Kd.R_away HO_5.out (fun _ hk => hk.1))); have n1_ := Aside0.mk (blk_grown (g := gb146) (o := .cells #[.int .i64 ((rd_T67 l0 x11_1).f0), .int .i64 ((rd_T67 l0 x11_1).f1), .string ((rd_T67 l0 x11_1).f2)] 67 (0, 0)) (by (with_reducible repeat (first | refine blk_drewN ?_ _ | refine blk_drew ?_ | refine blk_alloc ?_ _)); exact BK146.out) hg (Kd.R_away HO_5.out (fun _ hk => hk.2))); have n2_ := Aside0.mk (hb); have n3_ := Aside0.mk (ho); clear BK141; clear BK146; clear HB; clear HO_5; have BK141 := n0_; have BK146 := n1_; have HB := n2_; have HO152 := n3_; clear n0_ n1_ n2_ n3_; clear ho hb hg hat))
              go_roundg kj26
              case measure => have := HK1.out; have := HJ6.out; have := HJ26.out; omega
              case rel => exact ⟨(y150), (true), (wrap64 (x11_1 + 1)), (x142000_1), (x142001_1), (by first | rfl | (simp; done) | (simp [*]; done)), (by first | rfl | (simp; done) | (simp [*]; done)), H', ⟨by have := HK1.out; have := HJ6.out; have := HJ26.out; omega⟩, ⟨by (with_reducible repeat (first | apply Kd.R_alloc | apply Kd.R_drewN | apply Kd.R_drew)); exact Kd.R_mono HO152.out (fun _ hk => hk.1)⟩, ⟨by (with_reducible repeat (first | refine blk_drewN ?_ _ | refine blk_drew ?_ | refine blk_alloc ?_ _)); exact BK141.out⟩, ⟨by repeat (first | (with_reducible first | exact HB.out | apply below_alloc | apply pw_below_drewN | apply below_drew1 | refine below_set ?_ GE141.out | refine below_set ?_ GE146.out) | exact HB.out)⟩⟩
             ·rw [if_neg c37] at H
              exact absurd H (by simp)
            ·replace c36 := Bool.eq_false_iff.mpr c36
             subst c36
             have H1 : (if x5_1.length < 4398046511104 then ((some (x5_1 ++ [(⟨x142000_1, x142001_1, a1_2⟩ : S67)] : List (S67))).bind fun y153 => (if y153.length < 4398046511104 then (spec_l5Add.l0 kj26 (y153 ++ [(⟨((rd_T67 l0 x11_1).f0), ((rd_T67 l0 x11_1).f1), ((rd_T67 l0 x11_1).f2)⟩ : S67)]) true l0 (l0.length : Int) (wrap64 (x11_1 + 1)) x142000_1 x142001_1 a1_2) else (none))) else (none)) = some r := by rw [if_neg (show ¬ (false = true) by decide)] at H; exact H
             clear H
             have H := H1
             clear H1
             by_cases c41 : x5_1.length < 4398046511104
             ·rw [if_pos c41] at H
              have LMc41 := Aside0.mk c41
              clear c41
              obtain ⟨y153, hy153⟩ : ∃ y_ : List (S67), y_ = (x5_1 ++ [(⟨x142000_1, x142001_1, a1_2⟩ : S67)]) := ⟨_, rfl⟩
              replace H : (if y153.length < 4398046511104 then (spec_l5Add.l0 kj26 (y153 ++ [(⟨((rd_T67 l0 x11_1).f0), ((rd_T67 l0 x11_1).f1), ((rd_T67 l0 x11_1).f2)⟩ : S67)]) true l0 (l0.length : Int) (wrap64 (x11_1 + 1)) x142000_1 x142001_1 a1_2) else (none)) = some r := by first | (rw [hy153]; with_reducible exact H) | (have H2_ := (Option.bind_some _ _).symm.trans H; rw [hy153]; with_reducible exact H2_) | (have H2_ := (Option.bind_some _ _).symm.trans H; with_reducible exact H2_) | with_reducible exact H | (rw [hy153]; exact H) | exact H
              have Ny153 := Aside0.mk hy153
              clear hy153
              by_cases c42 : y153.length < 4398046511104
              ·rw [if_pos c42] at H
               have LMc42 := Aside0.mk c42
               clear c42
               obtain ⟨y156, hy156⟩ : ∃ y_ : List (S67), y_ = (y153 ++ [(⟨((rd_T67 l0 x11_1).f0), ((rd_T67 l0 x11_1).f1), ((rd_T67 l0 x11_1).f2)⟩ : S67)]) := ⟨_, rfl⟩
               replace H : (spec_l5Add.l0 kj26 y156 true l0 (l0.length : Int) (wrap64 (x11_1 + 1)) x142000_1 x142001_1 a1_2) = some r := by first | (rw [hy156]; with_reducible exact H) | (have H2_ := (Option.bind_some _ _).symm.trans H; rw [hy156]; with_reducible exact H2_) | (have H2_ := (Option.bind_some _ _).symm.trans H; with_reducible exact H2_) | with_reducible exact H | (rw [hy156]; exact H) | exact H
               have Ny156 := Aside0.mk hy156
               clear hy156
               have H' := Aside0.mk H
               clear H
               have hnb43 := NB141_146.out
               have hnc43 := NB146_141.out
               have hcz44_0 : wc.cell? ⟨gb141, 0, none⟩ = some (.int .i64 x142000_1) := (blk_cell BK141.out 0).trans rfl
               have hcz44_1 : wc.cell? ⟨gb141, 1, none⟩ = some (.int .i64 x142001_1) := (blk_cell BK141.out 1).trans rfl
               have hcz44_2 : wc.cell? ⟨gb141, 2, none⟩ = some (.string a1_2) := (blk_cell BK141.out 2).trans rfl
               have hfz44_0 := blk_frozen BK141.out 0
               have hfz44_1 := blk_frozen BK141.out 1
               have hfz44_2 := blk_frozen BK141.out 2
               go_wp2_with (first | ((with_reducible refine gate_builtin (b := .append) (xs := #[.tmp 70, .tmp 72]) rfl ?_); at_builtin; refine Kd.R_append k67 (w0 := w) w.heap.size rfl (.tmp 70) (.tmp 72) 25 67 (.agg #[(.int .i64 0), (.int .i64 0), (.string ⟨#[]⟩)]) 32 rfl Try.underlying25 info67 rfl (by decide) (by omega) u5 x5_1 (⟨x142000_1, x142001_1, a1_2⟩ : S67) [.int .i64 x142000_1, .int .i64 x142001_1, .string a1_2] (fun k_ => k_ ≠ gb141 ∧ k_ ≠ gb146) (fun _ => False) rfl rfl ?aP (fun _ hk => hk.elim) ?aF ?aO ?aB ?aS ?aL ?_; (case aP => exact k67_mkM _ _ _ (⟨x142000_1, x142001_1, a1_2⟩ : S67)); (case aB => exact (by repeat (first | (with_reducible first | exact HB.out | apply below_alloc | apply pw_below_drewN | apply below_drew1 | refine below_set ?_ GE141.out | refine below_set ?_ GE146.out) | exact HB.out))); (case aF => exact (fun k_ hk => ⟨Kd.freshB (g := gb141) (o := .cells #[.int .i64 x142000_1, .int .i64 x142001_1, .string a1_2] 67 (0, 0)) (by (with_reducible repeat (first | refine blk_drewN ?_ _ | refine blk_drew ?_ | refine blk_alloc ?_ _)); exact BK141.out) k_ hk, Kd.freshB (g := gb146) (o := .cells #[.int .i64 ((rd_T67 l0 x11_1).f0), .int .i64 ((rd_T67 l0 x11_1).f1), .string ((rd_T67 l0 x11_1).f2)] 67 (0, 0)) (by (with_reducible repeat (first | refine blk_drewN ?_ _ | refine blk_drew ?_ | refine blk_alloc ?_ _)); exact BK146.out) k_ hk⟩)); (case aO => exact (by (with_reducible repeat (first | apply Kd.R_alloc | apply Kd.R_drewN | apply Kd.R_drew)); exact HO_5.out)); (case aS => exact (below_size (by repeat (first | (with_reducible first | exact HB.out | apply below_alloc | apply pw_below_drewN | apply below_drew1 | refine below_set ?_ GE141.out | refine below_set ?_ GE146.out) | exact HB.out)))); (case aL => have := LMc41.out; omega); intro v154 w45 ho hb hg hat; rw [← Ny153.out] at ho; have n0_ := Aside0.mk (blk_grown (g := gb141) (o := .cells #[.int .i64 x142000_1, .int .i64 x142001_1, .string a1_2] 67 (0, 0)) (by (with_reducible repeat (first | refine blk_drewN ?_ _ | refine blk_drew ?_ | refine blk_alloc ?_ _)); exact BK141.out) hg (Kd.R_away HO_5.out (fun _ hk => hk.1))); have n1_ := Aside0.mk (blk_grown (g := gb146) (o := .cells #[.int .i64 ((rd_T67 l0 x11_1).f0), .int .i64 ((rd_T67 l0 x11_1).f1), .string ((rd_T67 l0 x11_1).f2)] 67 (0, 0)) (by (with_reducible repeat (first | refine blk_drewN ?_ _ | refine blk_drew ?_ | refine blk_alloc ?_ _)); exact BK146.out) hg (Kd.R_away HO_5.out (fun _ hk => hk.2))); have n2_ := Aside0.mk (hb); have n3_ := Aside0.mk (ho); clear BK141; clear BK146; clear HB; clear HO_5; have BK141 := n0_; have BK146 := n1_; have HB := n2_; have HO155 := n3_; clear n0_ n1_ n2_ n3_; clear ho hb hg hat; have hcz46_0 : w45.cell? ⟨gb146, 0, none⟩ = some (.int .i64 ((rd_T67 l0 x11_1).f0)) := (blk_cell BK146.out 0).trans rfl; have hcz46_1 : w45.cell? ⟨gb146, 1, none⟩ = some (.int .i64 ((rd_T67 l0 x11_1).f1)) := (blk_cell BK146.out 1).trans rfl; have hcz46_2 : w45.cell? ⟨gb146, 2, none⟩ = some (.string ((rd_T67 l0 x11_1).f2)) := (blk_cell BK146.out 2).trans rfl; have hfz46_0 := blk_frozen BK146.out 0; have hfz46_1 := blk_frozen BK146.out 1; have hfz46_2 := blk_frozen BK146.out 2) | ((with_reducible refine gate_builtin (b := .append) (xs := #[.tmp 74, .tmp 76]) rfl ?_); at_builtin; refine Kd.R_append k67 (w0 := w) w.heap.size rfl (.tmp 74) (.tmp 76) 25 67 (.agg #[(.int .i64 0), (.int .i64 0), (.string ⟨#[]⟩)]) 32 rfl Try.underlying25 info67 rfl (by decide) (by omega) v154 y153 (⟨((rd_T67 l0 x11_1).f0), ((rd_T67 l0 x11_1).f1), ((rd_T67 l0 x11_1).f2)⟩ : S67) [.int .i64 ((rd_T67 l0 x11_1).f0), .int .i64 ((rd_T67 l0 x11_1).f1), .string ((rd_T67 l0 x11_1).f2)] (fun k_ => k_ ≠ gb141 ∧ k_ ≠ gb146) (fun _ => False) rfl rfl ?aP (fun _ hk => hk.elim) ?aF ?aO ?aB ?aS ?aL ?_; (case aP => exact k67_mkM _ _ _ (⟨((rd_T67 l0 x11_1).f0), ((rd_T67 l0 x11_1).f1), ((rd_T67 l0 x11_1).f2)⟩ : S67)); (case aB => exact (by repeat (first | (with_reducible first | exact HB.out | apply below_alloc | apply pw_below_drewN | apply below_drew1 | refine below_set ?_ GE141.out | refine below_set ?_ GE146.out) | exact HB.out))); (case aF => exact (fun k_ hk => ⟨Kd.freshB (g := gb141) (o := .cells #[.int .i64 x142000_1, .int .i64 x142001_1, .string a1_2] 67 (0, 0)) (by (with_reducible repeat (first | refine blk_drewN ?_ _ | refine blk_drew ?_ | refine blk_alloc ?_ _)); exact BK141.out) k_ hk, Kd.freshB (g := gb146) (o := .cells #[.int .i64 ((rd_T67 l0 x11_1).f0), .int .i64 ((rd_T67 l0 x11_1).f1), .string ((rd_T67 l0 x11_1).f2)] 67 (0, 0)) (by (with_reducible repeat (first | refine blk_drewN ?_ _ | refine blk_drew ?_ | refine blk_alloc ?_ _)); exact BK146.out) k_ hk⟩)); (case aO => exact (by (with_reducible repeat (first | apply Kd.R_alloc | apply Kd.R_drewN | apply Kd.R_drew)); exact HO155.out)); (case aS => exact (below_size (by repeat (first | (with_reducible first | exact HB.out | apply below_alloc | apply pw_below_drewN | apply below_drew1 | refine below_set ?_ GE141.out | refine below_set ?_ GE146.out) | exact HB.out)))); (case aL => have := LMc42.out; omega); intro v157 w47 ho hb hg hat; rw [← Ny156.out] at ho; have n0_ := Aside0.mk (blk_grown (g := gb141) (o := .cells #[.int .i64 x142000_1, .int .i64 x142001_1, .string a1_2] 67 (0, 0)) (by (with_reducible repeat (first | refine blk_drewN ?_ _ | refine blk_drew ?_ | refine blk_alloc ?_ _)); exact BK141.out) hg (Kd.R_away HO155.out (fun _ hk => hk.1))); have n1_ := Aside0.mk (blk_grown (g := gb146) (o := .cells #[.int .i64 ((rd_T67 l0 x11_1).f0), .int .i64 ((rd_T67 l0 x11_1).f1), .string ((rd_T67 l0 x11_1).f2)] 67 (0, 0)) (by (with_reducible repeat (first | refine blk_drewN ?_ _ | refine blk_drew ?_ | refine blk_alloc ?_ _)); exact BK146.out) hg (Kd.R_away HO155.out (fun _ hk => hk.2))); have n2_ := Aside0.mk (hb); have n3_ := Aside0.mk (ho); clear BK141; clear BK146; clear HB; clear HO155; have BK141 := n0_; have BK146 := n1_; have HB := n2_; have HO158 := n3_; clear n0_ n1_ n2_ n3_; clear ho hb hg hat))
               go_roundg kj26
               case measure => have := HK1.out; have := HJ6.out; have := HJ26.out; omega
               case rel => exact ⟨(y156), (true), (wrap64 (x11_1 + 1)), (x142000_1), (x142001_1), (by first | rfl | (simp; done) | (simp [*]; done)), (by first | rfl | (simp; done) | (simp [*]; done)), H', ⟨by have := HK1.out; have := HJ6.out; have := HJ26.out; omega⟩, ⟨by (with_reducible repeat (first | apply Kd.R_alloc | apply Kd.R_drewN | apply Kd.R_drew)); exact Kd.R_mono HO158.out (fun _ hk => hk.1)⟩, ⟨by (with_reducible repeat (first | refine blk_drewN ?_ _ | refine blk_drew ?_ | refine blk_alloc ?_ _)); exact BK141.out⟩, ⟨by repeat (first | (with_reducible first | exact HB.out | apply below_alloc | apply pw_below_drewN | apply below_drew1 | refine below_set ?_ GE141.out | refine below_set ?_ GE146.out) | exact HB.out)⟩⟩
              ·rw [if_neg c42] at H
               exact absurd H (by simp)
             ·rw [if_neg c41] at H
              exact absurd H (by simp)
           ·replace c35 := Bool.eq_false_iff.mpr c35
            subst c35
            have H1 : (if ((rd_T67 l0 x11_1).f0) < x142000_1 then (if ((rd_T67 l0 x11_1).f1) > x142001_1 then (spec_l5Add.l0 kj26 x5_1 x6_1 l0 (l0.length : Int) (wrap64 (x11_1 + 1)) ((rd_T67 l0 x11_1).f0) ((rd_T67 l0 x11_1).f1) a1_2) else (spec_l5Add.l0 kj26 x5_1 x6_1 l0 (l0.length : Int) (wrap64 (x11_1 + 1)) ((rd_T67 l0 x11_1).f0) x142001_1 a1_2)) else (if ((rd_T67 l0 x11_1).f1) > x142001_1 then (spec_l5Add.l0 kj26 x5_1 x6_1 l0 (l0.length : Int) (wrap64 (x11_1 + 1)) x142000_1 ((rd_T67 l0 x11_1).f1) a1_2) else (spec_l5Add.l0 kj26 x5_1 x6_1 l0 (l0.length : Int) (wrap64 (x11_1 + 1)) x142000_1 x142001_1 a1_2))) = some r := by rw [if_neg (show ¬ (false = true) by decide)] at H; exact H
            clear H
            have H := H1
            clear H1
            by_cases c48 : ((rd_T67 l0 x11_1).f0) < x142000_1
            ·rw [if_pos c48] at H
             have c48b0 : decide (((rd_T67 l0 x11_1).f0) < x142000_1) = true := decide_eq_true c48
             clear c48
             by_cases c49 : ((rd_T67 l0 x11_1).f1) > x142001_1
             ·rw [if_pos c49] at H
              have c49b0 : decide (x142001_1 < ((rd_T67 l0 x11_1).f1)) = true := decide_eq_true c49
              clear c49
              have H' := Aside0.mk H
              clear H
              have hnb50 := NB146_141.out
              have hnc50 := NB141_146.out
              have hcz51_0 : wc.cell? ⟨gb146, 0, none⟩ = some (.int .i64 ((rd_T67 l0 x11_1).f0)) := (blk_cell BK146.out 0).trans rfl
              have hcz51_1 : wc.cell? ⟨gb146, 1, none⟩ = some (.int .i64 ((rd_T67 l0 x11_1).f1)) := (blk_cell BK146.out 1).trans rfl
              have hcz51_2 : wc.cell? ⟨gb146, 2, none⟩ = some (.string ((rd_T67 l0 x11_1).f2)) := (blk_cell BK146.out 2).trans rfl
              have hfz51_0 := blk_frozen BK146.out 0
              have hfz51_1 := blk_frozen BK146.out 1
              have hfz51_2 := blk_frozen BK146.out 2
              have hcz52_0 : wc.cell? ⟨gb141, 0, none⟩ = some (.int .i64 x142000_1) := (blk_cell BK141.out 0).trans rfl
              have hcz52_1 : wc.cell? ⟨gb141, 1, none⟩ = some (.int .i64 x142001_1) := (blk_cell BK141.out 1).trans rfl
              have hcz52_2 : wc.cell? ⟨gb141, 2, none⟩ = some (.string a1_2) := (blk_cell BK141.out 2).trans rfl
              have hfz52_0 := blk_frozen BK141.out 0
              have hfz52_1 := blk_frozen BK141.out 1
              have hfz52_2 := blk_frozen BK141.out 2
              go_wp2
              go_roundg kj26
              case measure => have := HK1.out; have := HJ6.out; have := HJ26.out; omega
              case rel => exact ⟨(x5_1), (x6_1), (wrap64 (x11_1 + 1)), (((rd_T67 l0 x11_1).f0)), (((rd_T67 l0 x11_1).f1)), (by first | rfl | (simp; done) | (simp [*]; done)), (by first | rfl | (simp; done) | (simp [*]; done)), H', ⟨by have := HK1.out; have := HJ6.out; have := HJ26.out; omega⟩, ⟨by (with_reducible repeat (first | apply Kd.R_alloc | apply Kd.R_drewN | apply Kd.R_drew)); exact Kd.R_mono (Kd.R_far (p := ⟨gb141, 1, none⟩) (Kd.R_far (p := ⟨gb141, 0, none⟩) (Kd.R_mono HO_5.out (fun k_ hk => (⟨hk, hk.1⟩ : _ ∧ k_ ≠ gb141))) (fun _ hk => hk.2) (.int .i64 ((rd_T67 l0 x11_1).f0))) (fun _ hk => hk.2) (.int .i64 ((rd_T67 l0 x11_1).f1))) (fun _ hk => hk.1.1)⟩, ⟨by (with_reducible repeat (first | refine blk_drewN ?_ _ | refine blk_drew ?_ | refine blk_alloc ?_ _)); refine blk_put (cs := #[.int .i64 ((rd_T67 l0 x11_1).f0), .int .i64 x142001_1, .string a1_2]) ?_ 1 _ rfl; (with_reducible repeat (first | refine blk_drewN ?_ _ | refine blk_drew ?_ | refine blk_alloc ?_ _)); refine blk_put (cs := #[.int .i64 x142000_1, .int .i64 x142001_1, .string a1_2]) ?_ 0 _ rfl; (with_reducible repeat (first | refine blk_drewN ?_ _ | refine blk_drew ?_ | refine blk_alloc ?_ _)); exact BK141.out⟩, ⟨by repeat (first | (with_reducible first | exact HB.out | apply below_alloc | apply pw_below_drewN | apply below_drew1 | refine below_set ?_ GE141.out | refine below_set ?_ GE146.out) | exact HB.out)⟩⟩
             ·rw [if_neg c49] at H
              have c49b0 : decide (x142001_1 < ((rd_T67 l0 x11_1).f1)) = false := decide_eq_false c49
              clear c49
              have H' := Aside0.mk H
              clear H
              have hnb53 := NB146_141.out
              have hnc53 := NB141_146.out
              have hcz54_0 : wc.cell? ⟨gb146, 0, none⟩ = some (.int .i64 ((rd_T67 l0 x11_1).f0)) := (blk_cell BK146.out 0).trans rfl
              have hcz54_1 : wc.cell? ⟨gb146, 1, none⟩ = some (.int .i64 ((rd_T67 l0 x11_1).f1)) := (blk_cell BK146.out 1).trans rfl
              have hcz54_2 : wc.cell? ⟨gb146, 2, none⟩ = some (.string ((rd_T67 l0 x11_1).f2)) := (blk_cell BK146.out 2).trans rfl
              have hfz54_0 := blk_frozen BK146.out 0
              have hfz54_1 := blk_frozen BK146.out 1
              have hfz54_2 := blk_frozen BK146.out 2
              have hcz55_0 : wc.cell? ⟨gb141, 0, none⟩ = some (.int .i64 x142000_1) := (blk_cell BK141.out 0).trans rfl
              have hcz55_1 : wc.cell? ⟨gb141, 1, none⟩ = some (.int .i64 x142001_1) := (blk_cell BK141.out 1).trans rfl
              have hcz55_2 : wc.cell? ⟨gb141, 2, none⟩ = some (.string a1_2) := (blk_cell BK141.out 2).trans rfl
              have hfz55_0 := blk_frozen BK141.out 0
              have hfz55_1 := blk_frozen BK141.out 1
              have hfz55_2 := blk_frozen BK141.out 2
              go_wp2
              go_roundg kj26
              case measure => have := HK1.out; have := HJ6.out; have := HJ26.out; omega
              case rel => exact ⟨(x5_1), (x6_1), (wrap64 (x11_1 + 1)), (((rd_T67 l0 x11_1).f0)), (x142001_1), (by first | rfl | (simp; done) | (simp [*]; done)), (by first | rfl | (simp; done) | (simp [*]; done)), H', ⟨by have := HK1.out; have := HJ6.out; have := HJ26.out; omega⟩, ⟨by (with_reducible repeat (first | apply Kd.R_alloc | apply Kd.R_drewN | apply Kd.R_drew)); exact Kd.R_mono (Kd.R_far (p := ⟨gb141, 0, none⟩) (Kd.R_mono HO_5.out (fun k_ hk => (⟨hk, hk.1⟩ : _ ∧ k_ ≠ gb141))) (fun _ hk => hk.2) (.int .i64 ((rd_T67 l0 x11_1).f0))) (fun _ hk => hk.1.1)⟩, ⟨by (with_reducible repeat (first | refine blk_drewN ?_ _ | refine blk_drew ?_ | refine blk_alloc ?_ _)); refine blk_put (cs := #[.int .i64 x142000_1, .int .i64 x142001_1, .string a1_2]) ?_ 0 _ rfl; (with_reducible repeat (first | refine blk_drewN ?_ _ | refine blk_drew ?_ | refine blk_alloc ?_ _)); exact BK141.out⟩, ⟨by repeat (first | (with_reducible first | exact HB.out | apply below_alloc | apply pw_below_drewN | apply below_drew1 | refine below_set ?_ GE141.out | refine below_set ?_ GE146.out) | exact HB.out)⟩⟩
            ·rw [if_neg c48] at H
             have c48b0 : decide (((rd_T67 l0 x11_1).f0) < x142000_1) = false := decide_eq_false c48
             clear c48
             by_cases c56 : ((rd_T67 l0 x11_1).f1) > x142001_1
             ·rw [if_pos c56] at H
              have c56b0 : decide (x142001_1 < ((rd_T67 l0 x11_1).f1)) = true := decide_eq_true c56
              clear c56
              have H' := Aside0.mk H
              clear H
              have hnb57 := NB146_141.out
              have hnc57 := NB141_146.out
              have hcz58_0 : wc.cell? ⟨gb146, 0, none⟩ = some (.int .i64 ((rd_T67 l0 x11_1).f0)) := (blk_cell BK146.out 0).trans rfl
              have hcz58_1 : wc.cell? ⟨gb146, 1, none⟩ = some (.int .i64 ((rd_T67 l0 x11_1).f1)) := (blk_cell BK146.out 1).trans rfl
              have hcz58_2 : wc.cell? ⟨gb146, 2, none⟩ = some (.string ((rd_T67 l0 x11_1).f2)) := (blk_cell BK146.out 2).trans rfl
              have hfz58_0 := blk_frozen BK146.out 0
              have hfz58_1 := blk_frozen BK146.out 1
              have hfz58_2 := blk_frozen BK146.out 2
              have hcz59_0 : wc.cell? ⟨gb141, 0, none⟩ = some (.int .i64 x142000_1) := (blk_cell BK141.out 0).trans rfl
              have hcz59_1 : wc.cell? ⟨gb141, 1, none⟩ = some (.int .i64 x142001_1) := (blk_cell BK141.out 1).trans rfl
              have hcz59_2 : wc.cell? ⟨gb141, 2, none⟩ = some (.string a1_2) := (blk_cell BK141.out 2).trans rfl
              have hfz59_0 := blk_frozen BK141.out 0
              have hfz59_1 := blk_frozen BK141.out 1
              have hfz59_2 := blk_frozen BK141.out 2
              go_wp2
              go_roundg kj26
              case measure => have := HK1.out; have := HJ6.out; have := HJ26.out; omega
              case rel => exact ⟨(x5_1), (x6_1), (wrap64 (x11_1 + 1)), (x142000_1), (((rd_T67 l0 x11_1).f1)), (by first | rfl | (simp; done) | (simp [*]; done)), (by first | rfl | (simp; done) | (simp [*]; done)), H', ⟨by have := HK1.out; have := HJ6.out; have := HJ26.out; omega⟩, ⟨by (with_reducible repeat (first | apply Kd.R_alloc | apply Kd.R_drewN | apply Kd.R_drew)); exact Kd.R_mono (Kd.R_far (p := ⟨gb141, 1, none⟩) (Kd.R_mono HO_5.out (fun k_ hk => (⟨hk, hk.1⟩ : _ ∧ k_ ≠ gb141))) (fun _ hk => hk.2) (.int .i64 ((rd_T67 l0 x11_1).f1))) (fun _ hk => hk.1.1)⟩, ⟨by (with_reducible repeat (first | refine blk_drewN ?_ _ | refine blk_drew ?_ | refine blk_alloc ?_ _)); refine blk_put (cs := #[.int .i64 x142000_1, .int .i64 x142001_1, .string a1_2]) ?_ 1 _ rfl; (with_reducible repeat (first | refine blk_drewN ?_ _ | refine blk_drew ?_ | refine blk_alloc ?_ _)); exact BK141.out⟩, ⟨by repeat (first | (with_reducible first | exact HB.out | apply below_alloc | apply pw_below_drewN | apply below_drew1 | refine below_set ?_ GE141.out | refine below_set ?_ GE146.out) | exact HB.out)⟩⟩
             ·rw [if_neg c56] at H
              have c56b0 : decide (x142001_1 < ((rd_T67 l0 x11_1).f1)) = false := decide_eq_false c56
              clear c56
              have H' := Aside0.mk H
              clear H
              have hnb60 := NB146_141.out
              have hnc60 := NB141_146.out
              have hcz61_0 : wc.cell? ⟨gb146, 0, none⟩ = some (.int .i64 ((rd_T67 l0 x11_1).f0)) := (blk_cell BK146.out 0).trans rfl
              have hcz61_1 : wc.cell? ⟨gb146, 1, none⟩ = some (.int .i64 ((rd_T67 l0 x11_1).f1)) := (blk_cell BK146.out 1).trans rfl
              have hcz61_2 : wc.cell? ⟨gb146, 2, none⟩ = some (.string ((rd_T67 l0 x11_1).f2)) := (blk_cell BK146.out 2).trans rfl
              have hfz61_0 := blk_frozen BK146.out 0
              have hfz61_1 := blk_frozen BK146.out 1
              have hfz61_2 := blk_frozen BK146.out 2
              have hcz62_0 : wc.cell? ⟨gb141, 0, none⟩ = some (.int .i64 x142000_1) := (blk_cell BK141.out 0).trans rfl
              have hcz62_1 : wc.cell? ⟨gb141, 1, none⟩ = some (.int .i64 x142001_1) := (blk_cell BK141.out 1).trans rfl
              have hcz62_2 : wc.cell? ⟨gb141, 2, none⟩ = some (.string a1_2) := (blk_cell BK141.out 2).trans rfl
              have hfz62_0 := blk_frozen BK141.out 0
              have hfz62_1 := blk_frozen BK141.out 1
              have hfz62_2 := blk_frozen BK141.out 2
              go_wp2
              go_roundg kj26
              case measure => have := HK1.out; have := HJ6.out; have := HJ26.out; omega
              case rel => exact ⟨(x5_1), (x6_1), (wrap64 (x11_1 + 1)), (x142000_1), (x142001_1), (by first | rfl | (simp; done) | (simp [*]; done)), (by first | rfl | (simp; done) | (simp [*]; done)), H', ⟨by have := HK1.out; have := HJ6.out; have := HJ26.out; omega⟩, ⟨by (with_reducible repeat (first | apply Kd.R_alloc | apply Kd.R_drewN | apply Kd.R_drew)); exact Kd.R_mono HO_5.out (fun _ hk => hk.1)⟩, ⟨by (with_reducible repeat (first | refine blk_drewN ?_ _ | refine blk_drew ?_ | refine blk_alloc ?_ _)); exact BK141.out⟩, ⟨by repeat (first | (with_reducible first | exact HB.out | apply below_alloc | apply pw_below_drewN | apply below_drew1 | refine below_set ?_ GE141.out | refine below_set ?_ GE146.out) | exact HB.out)⟩⟩
     ·rw [if_neg c6] at H
      exact absurd H (by simp)
    ·rw [if_neg c5] at H
     exact absurd H (by simp)
   ·rw [if_neg c4] at H
    have c4b0 : decide (x11_1 < (l0.length : Int)) = false := decide_eq_false c4
    clear c4
    by_cases c63 : x6_1 = true
    ·subst c63
     have H1 : (some x5_1) = some r := by rw [if_pos rfl] at H; exact H
     clear H
     have H := H1
     clear H1
     obtain rfl := Option.some.inj H
     go_wp2
     go_ret
     exact ⟨_, by first | rfl | (simp [errW_none, errW_some] <;> rfl) | (simp [*, errW_none, errW_some] <;> rfl), by (with_reducible repeat (first | apply Kd.R_alloc | apply Kd.R_drewN | apply Kd.R_drew)); exact Kd.R_mono HO_5.out (fun _ hk => trivial), by repeat (first | (with_reducible first | exact HB.out | apply below_alloc | apply pw_below_drewN | apply below_drew1 | refine below_set ?_ GE141.out) | exact HB.out)⟩
    ·replace c63 := Bool.eq_false_iff.mpr c63
     subst c63
     have H1 : (if x5_1.length < 4398046511104 then (some (x5_1 ++ [(⟨x142000_1, x142001_1, a1_2⟩ : S67)])) else (none)) = some r := by rw [if_neg (show ¬ (false = true) by decide)] at H; exact H
     clear H
     have H := H1
     clear H1
     by_cases c64 : x5_1.length < 4398046511104
     ·rw [if_pos c64] at H
      have LMc64 := Aside0.mk c64
      clear c64
      obtain ⟨y142, hy142⟩ : ∃ y_ : List (S67), y_ = (x5_1 ++ [(⟨x142000_1, x142001_1, a1_2⟩ : S67)]) := ⟨_, rfl⟩
      replace H : (some y142) = some r := by first | (rw [hy142]; with_reducible exact H) | (have H2_ := (Option.bind_some _ _).symm.trans H; rw [hy142]; with_reducible exact H2_) | (have H2_ := (Option.bind_some _ _).symm.trans H; with_reducible exact H2_) | with_reducible exact H | (rw [hy142]; exact H) | exact H
      have Ny142 := Aside0.mk hy142
      clear hy142
      obtain rfl := Option.some.inj H
      have hcz65_0 : wr.cell? ⟨gb141, 0, none⟩ = some (.int .i64 x142000_1) := (blk_cell BK141.out 0).trans rfl
      have hcz65_1 : wr.cell? ⟨gb141, 1, none⟩ = some (.int .i64 x142001_1) := (blk_cell BK141.out 1).trans rfl
      have hcz65_2 : wr.cell? ⟨gb141, 2, none⟩ = some (.string a1_2) := (blk_cell BK141.out 2).trans rfl
      have hfz65_0 := blk_frozen BK141.out 0
      have hfz65_1 := blk_frozen BK141.out 1
      have hfz65_2 := blk_frozen BK141.out 2
      go_wp2_with (first | ((with_reducible refine gate_builtin (b := .append) (xs := #[.tmp 81, .tmp 83]) rfl ?_); at_builtin; refine Kd.R_append k67 (w0 := w) w.heap.size rfl (.tmp 81) (.tmp 83) 25 67 (.agg #[(.int .i64 0), (.int .i64 0), (.string ⟨#[]⟩)]) 32 rfl Try.underlying25 info67 rfl (by decide) (by omega) u5 x5_1 (⟨x142000_1, x142001_1, a1_2⟩ : S67) [.int .i64 x142000_1, .int .i64 x142001_1, .string a1_2] (fun k_ => k_ ≠ gb141) (fun _ => False) rfl rfl ?aP (fun _ hk => hk.elim) ?aF ?aO ?aB ?aS ?aL ?_; (case aP => exact k67_mkM _ _ _ (⟨x142000_1, x142001_1, a1_2⟩ : S67)); (case aB => exact (by repeat (first | (with_reducible first | exact HB.out | apply below_alloc | apply pw_below_drewN | apply below_drew1 | refine below_set ?_ GE141.out) | exact HB.out))); (case aF => exact (fun k_ hk => Kd.freshB (g := gb141) (o := .cells #[.int .i64 x142000_1, .int .i64 x142001_1, .string a1_2] 67 (0, 0)) (by (with_reducible repeat (first | refine blk_drewN ?_ _ | refine blk_drew ?_ | refine blk_alloc ?_ _)); exact BK141.out) k_ hk)); (case aO => exact (by (with_reducible repeat (first | apply Kd.R_alloc | apply Kd.R_drewN | apply Kd.R_drew)); exact HO_5.out)); (case aS => exact (below_size (by repeat (first | (with_reducible first | exact HB.out | apply below_alloc | apply pw_below_drewN | apply below_drew1 | refine below_set ?_ GE141.out) | exact HB.out)))); (case aL => have := LMc64.out; omega); intro v143 w66 ho hb hg hat; rw [← Ny142.out] at ho; have n0_ := Aside0.mk (blk_grown (g := gb141) (o := .cells #[.int .i64 x142000_1, .int .i64 x142001_1, .string a1_2] 67 (0, 0)) (by (with_reducible repeat (first | refine blk_drewN ?_ _ | refine blk_drew ?_ | refine blk_alloc ?_ _)); exact BK141.out) hg (Kd.R_away HO_5.out (fun _ hk => hk))); have n1_ := Aside0.mk (hb); have n2_ := Aside0.mk (ho); clear BK141; clear HB; clear HO_5; have BK141 := n0_; have HB := n1_; have HO144 := n2_; clear n0_ n1_ n2_; clear ho hb hg hat))
      go_ret
      exact ⟨_, by first | rfl | (simp [errW_none, errW_some] <;> rfl) | (simp [*, errW_none, errW_some] <;> rfl), by (with_reducible repeat (first | apply Kd.R_alloc | apply Kd.R_drewN | apply Kd.R_drew)); exact Kd.R_mono HO144.out (fun _ hk => trivial), by repeat (first | (with_reducible first | exact HB.out | apply below_alloc | apply pw_below_drewN | apply below_drew1 | refine below_set ?_ GE141.out) | exact HB.out)⟩
     ·rw [if_neg c64] at H
      exact absurd H (by simp)
end Go.Proofs.Ytmhcmcdppimcpaa.PFnExactAddMark
