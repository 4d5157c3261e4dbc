/- (thin) Written by a program of this session (wip/ovl.py) over the kit's print. -/
import Derived.Test.YtoagljlnfakgjaaPFnDiamondx0
namespace Go.Proofs.Ytoagljlnfakgjaa.PFnDiamond
open Go.RowKit Go.Proofs.YtoagljlnfakgjaaW.PrintWords Go.Proofs.YtoagljlnfakgjaaW.PrintLast Go.Proofs.YtoagljlnfakgjaaW.PrintMore
attribute [local go_sem] max2_int min2_int max_two min_two max_three min_three max_four min_four
set_option linter.unusedVariables false
set_option linter.unusedSimpArgs false
mutual
def jA.j0 : Nat → List S60 → Int → Bool → Int → ByteArray → ByteArray → Option ((List S60))
 | 0, _, _, _, _, _, _ => none
 | k + 1, x0, x5, x9, x166000, x166001, x166002 => if x9 = true then (some x0) else (if x5 = 0 then (if x0.length < 3518437208883 then (some (x0 ++ [(⟨x166000, x166001, x166002⟩ : S60)])) else (none)) else (if 0 ≤ (wrap64 (x5 - 1)) then (if (wrap64 (x5 - 1)) < (x0.length : Int) then (if x166000 > 0 then (jA.j1 k x0 x5 (decide (((rd_T60 x0 (wrap64 (x5 - 1))).f0) > 0)) x166000 x166001 x166002 ((rd_T60 x0 (wrap64 (x5 - 1))).f0) ((rd_T60 x0 (wrap64 (x5 - 1))).f1) ((rd_T60 x0 (wrap64 (x5 - 1))).f2)) else (jA.j1 k x0 x5 false x166000 x166001 x166002 ((rd_T60 x0 (wrap64 (x5 - 1))).f0) ((rd_T60 x0 (wrap64 (x5 - 1))).f1) ((rd_T60 x0 (wrap64 (x5 - 1))).f2))) else (none)) else (none)))
def jA.j1 : Nat → List S60 → Int → Bool → Int → ByteArray → ByteArray → Int → ByteArray → ByteArray → Option ((List S60))
 | 0, _, _, _, _, _, _, _, _, _ => none
 | k + 1, x0, x5, x40, x166000, x166001, x166002, x171000, x171001, x171002 => if x40 = true then (if 0 ≤ (wrap64 (x5 - 1)) then (if (wrap64 (x5 - 1)) < (x0.length : Int) then (some (x0.set ((wrap64 (x5 - 1)) : Int).toNat (⟨wrap64 (((rd_T60 x0 (wrap64 (x5 - 1))).f0) + x166000), (rd_T60 x0 (wrap64 (x5 - 1))).f1, (rd_T60 x0 (wrap64 (x5 - 1))).f2⟩ : S60))) else (none)) else (none)) else (if x166002.toList = ([] : List UInt8) then (jA.j2 k x0 x5 false x166000 x166001 x166002 x171000 x171001 x171002) else (jA.j2 k x0 x5 (x171002.toList != ([] : List UInt8)) x166000 x166001 x166002 x171000 x171001 x171002))
def jA.j2 : Nat → List S60 → Int → Bool → Int → ByteArray → ByteArray → Int → ByteArray → ByteArray → Option ((List S60))
 | 0, _, _, _, _, _, _, _, _, _ => none
 | k + 1, x0, x5, x60, x166000, x166001, x166002, x171000, x171001, x171002 => if x60 = true then (if 0 ≤ (wrap64 (x5 - 1)) then (if (wrap64 (x5 - 1)) < (x0.length : Int) then (if ((rd_T60 x0 (wrap64 (x5 - 1))).f2).size + x166002.size ≤ 9223372036854775807 then (some (x0.set ((wrap64 (x5 - 1)) : Int).toNat (⟨(rd_T60 x0 (wrap64 (x5 - 1))).f0, (rd_T60 x0 (wrap64 (x5 - 1))).f1, ((rd_T60 x0 (wrap64 (x5 - 1))).f2) ++ x166002⟩ : S60))) else (none)) else (none)) else (none)) else (if x166001.toList = ([] : List UInt8) then (jA.j3 k x0 x5 false x166000 x166001 x166002 x171000 x171001 x171002) else (jA.j3 k x0 x5 (x171001.toList != ([] : List UInt8)) x166000 x166001 x166002 x171000 x171001 x171002))
def jA.j3 : Nat → List S60 → Int → Bool → Int → ByteArray → ByteArray → Int → ByteArray → ByteArray → Option ((List S60))
 | 0, _, _, _, _, _, _, _, _, _ => none
 | k + 1, x0, x5, x80, x166000, x166001, x166002, x171000, x171001, x171002 => if x80 = true then (if 0 ≤ (wrap64 (x5 - 1)) then (if (wrap64 (x5 - 1)) < (x0.length : Int) then (if ((rd_T60 x0 (wrap64 (x5 - 1))).f1).size + x166001.size ≤ 9223372036854775807 then (some (x0.set ((wrap64 (x5 - 1)) : Int).toNat (⟨(rd_T60 x0 (wrap64 (x5 - 1))).f0, ((rd_T60 x0 (wrap64 (x5 - 1))).f1) ++ x166001, (rd_T60 x0 (wrap64 (x5 - 1))).f2⟩ : S60))) else (none)) else (none)) else (none)) else (if x166001.toList = ([] : List UInt8) then (jA.j4 k x0 x5 false x166000 x166001 x166002 x171000 x171001 x171002) else (jA.j4 k x0 x5 (x171002.toList != ([] : List UInt8)) x166000 x166001 x166002 x171000 x171001 x171002))
def jA.j4 : Nat → List S60 → Int → Bool → Int → ByteArray → ByteArray → Int → ByteArray → ByteArray → Option ((List S60))
 | 0, _, _, _, _, _, _, _, _, _ => none
 | k + 1, x0, x5, x100, x166000, x166001, x166002, x171000, x171001, x171002 => if x100 = true then (if x5 > 1 then (if 0 ≤ (wrap64 (x5 - 2)) then (if (wrap64 (x5 - 2)) < (x0.length : Int) then (if ((rd_T60 x0 (wrap64 (x5 - 2))).f1).toList = ([] : List UInt8) then (if 0 ≤ (wrap64 (x5 - 1)) then (if (wrap64 (x5 - 1)) < (x0.length : Int) then ((some (x0.set ((wrap64 (x5 - 1)) : Int).toNat (⟨x166000, x166001, x166002⟩ : S60) : List S60)).bind fun y178 => (if y178.length < 3518437208883 then (some (y178 ++ [(⟨x171000, x171001, x171002⟩ : S60)])) else (none))) else (none)) else (none)) else (if ((rd_T60 x0 (wrap64 (x5 - 2))).f1).size + x166001.size ≤ 9223372036854775807 then (some (x0.set ((wrap64 (x5 - 2)) : Int).toNat (⟨(rd_T60 x0 (wrap64 (x5 - 2))).f0, ((rd_T60 x0 (wrap64 (x5 - 2))).f1) ++ x166001, (rd_T60 x0 (wrap64 (x5 - 2))).f2⟩ : S60))) else (none))) else (none)) else (none)) else (if 0 ≤ (wrap64 (x5 - 1)) then (if (wrap64 (x5 - 1)) < (x0.length : Int) then ((some (x0.set ((wrap64 (x5 - 1)) : Int).toNat (⟨x166000, x166001, x166002⟩ : S60) : List S60)).bind fun y184 => (if y184.length < 3518437208883 then (some (y184 ++ [(⟨x171000, x171001, x171002⟩ : S60)])) else (none))) else (none)) else (none))) else (if x0.length < 3518437208883 then (some (x0 ++ [(⟨x166000, x166001, x166002⟩ : S60)])) else (none))
end
def jA.f (k : Nat) (l0 : List S60) (a1_0 : Int) (a1_1 : ByteArray) (a1_2 : ByteArray) : Option ((List S60)) := if a1_0 = 0 then (if a1_1.toList = ([] : List UInt8) then (jA.j0 k l0 (l0.length : Int) (a1_2.toList == ([] : List UInt8)) a1_0 a1_1 a1_2) else (jA.j0 k l0 (l0.length : Int) false a1_0 a1_1 a1_2)) else (jA.j0 k l0 (l0.length : Int) false a1_0 a1_1 a1_2)
theorem jA.mono_l : ∀ k, (∀ y0 y1 y2 y3 y4 y5, LeO (jA.j0 k y0 y1 y2 y3 y4 y5) (jA.j0 (k + 1) y0 y1 y2 y3 y4 y5)) ∧ (∀ y0 y1 y2 y3 y4 y5 y6 y7 y8, LeO (jA.j1 k y0 y1 y2 y3 y4 y5 y6 y7 y8) (jA.j1 (k + 1) y0 y1 y2 y3 y4 y5 y6 y7 y8)) ∧ (∀ y0 y1 y2 y3 y4 y5 y6 y7 y8, LeO (jA.j2 k y0 y1 y2 y3 y4 y5 y6 y7 y8) (jA.j2 (k + 1) y0 y1 y2 y3 y4 y5 y6 y7 y8)) ∧ (∀ y0 y1 y2 y3 y4 y5 y6 y7 y8, LeO (jA.j3 k y0 y1 y2 y3 y4 y5 y6 y7 y8) (jA.j3 (k + 1) y0 y1 y2 y3 y4 y5 y6 y7 y8)) ∧ (∀ y0 y1 y2 y3 y4 y5 y6 y7 y8, LeO (jA.j4 k y0 y1 y2 y3 y4 y5 y6 y7 y8) (jA.j4 (k + 1) y0 y1 y2 y3 y4 y5 y6 y7 y8))
 | 0 => ⟨fun _ _ _ _ _ _ r h => by simp [jA.j0] at h, fun _ _ _ _ _ _ _ _ _ r h => by simp [jA.j1] at h, fun _ _ _ _ _ _ _ _ _ r h => by simp [jA.j2] at h, fun _ _ _ _ _ _ _ _ _ r h => by simp [jA.j3] at h, fun _ _ _ _ _ _ _ _ _ r h => by simp [jA.j4] at h⟩
 | k + 1 => by
  obtain ⟨ih0, ih1, ih2, ih3, ih4⟩ := jA.mono_l k
  refine ⟨?_, ?_, ?_, ?_, ?_⟩
  ·intro y0 y1 y2 y3 y4 y5
   unfold jA.j0
   repeat' (with_reducible first | apply ih0 | apply ih1 | apply ih2 | apply ih3 | apply ih4 | apply LeO.refl | apply LeO.none | apply LeO.ite | refine LeO.bind ?_ fun _ => ?_)
  ·intro y0 y1 y2 y3 y4 y5 y6 y7 y8
   unfold jA.j1
   repeat' (with_reducible first | apply ih0 | apply ih1 | apply ih2 | apply ih3 | apply ih4 | apply LeO.refl | apply LeO.none | apply LeO.ite | refine LeO.bind ?_ fun _ => ?_)
  ·intro y0 y1 y2 y3 y4 y5 y6 y7 y8
   unfold jA.j2
   repeat' (with_reducible first | apply ih0 | apply ih1 | apply ih2 | apply ih3 | apply ih4 | apply LeO.refl | apply LeO.none | apply LeO.ite | refine LeO.bind ?_ fun _ => ?_)
  ·intro y0 y1 y2 y3 y4 y5 y6 y7 y8
   unfold jA.j3
   repeat' (with_reducible first | apply ih0 | apply ih1 | apply ih2 | apply ih3 | apply ih4 | apply LeO.refl | apply LeO.none | apply LeO.ite | refine LeO.bind ?_ fun _ => ?_)
  ·intro y0 y1 y2 y3 y4 y5 y6 y7 y8
   unfold jA.j4
   repeat' (with_reducible first | apply ih0 | apply ih1 | apply ih2 | apply ih3 | apply ih4 | apply LeO.refl | apply LeO.none | apply LeO.ite | refine LeO.bind ?_ fun _ => ?_)
theorem jA.mono : ∀ a0 a1 a2 a3 k, LeO (jA.f k a0 a1 a2 a3) (jA.f (k + 1) a0 a1 a2 a3) := by
 intro a0 a1 a2 a3 k
 obtain ⟨ih0, ih1, ih2, ih3, ih4⟩ := jA.mono_l k
 unfold jA.f
 repeat' (with_reducible first | apply ih0 | apply ih1 | apply ih2 | apply ih3 | apply ih4 | apply LeO.refl | apply LeO.none | apply LeO.ite | refine LeO.bind ?_ fun _ => ?_)
def jA.T9 : Bool × List (List Nat × List Nat) := (true, [([], []), ([], []), ([1], [1]), ([0, 2], [0, 2]), ([3], [3]), ([4], [4]), ([], []), ([6], [6]), ([5, 7], [5, 7]), ([0, 2, 0, 1, 2, 3, 4, 5, 6, 7, 8], [0, 2]), ([9, 0, 1, 2, 3, 4, 5, 6, 7, 8], [9]), ([10, 8, 0, 1, 2, 3, 4, 5, 6, 7, 8], [8, 10])])
def jA.B9 : List Nat := [0, 0, 2, 7, 15, 31, 0, 64, 255, 511, 1023, 2047]
theorem jA.tab9 : rtab .any (opsOf Try.f74 9) = jA.T9 := by kernel_rfl
theorem jA.bits9 : waitsOk jA.T9.2 jA.B9 = true := by kernel_rfl
def jA.T11 : Bool × List (List Nat × List Nat) := (true, [([], []), ([], []), ([1], [1]), ([0, 2], [0, 2]), ([3], [3]), ([4], [4]), ([], []), ([6], [6]), ([5, 7], [5, 7]), ([0, 2, 0, 1, 2, 3, 4, 5, 6, 7, 8], [0, 2]), ([9, 0, 1, 2, 3, 4, 5, 6, 7, 8], [9]), ([10, 8, 0, 1, 2, 3, 4, 5, 6, 7, 8], [8, 10])])
def jA.B11 : List Nat := [0, 0, 2, 7, 15, 31, 0, 64, 255, 511, 1023, 2047]
theorem jA.tab11 : rtab .any (opsOf Try.f74 11) = jA.T11 := by kernel_rfl
theorem jA.bits11 : waitsOk jA.T11.2 jA.B11 = true := by kernel_rfl
def jA.T13 : Bool × List (List Nat × List Nat) := (true, [([], []), ([], []), ([1], [1]), ([0, 2], [0, 2]), ([3], [3]), ([4], [4]), ([], []), ([6], [6]), ([5, 7], [5, 7]), ([0, 2, 0, 1, 2, 3, 4, 5, 6, 7, 8], [0, 2]), ([9, 0, 1, 2, 3, 4, 5, 6, 7, 8], [9]), ([10, 8, 0, 1, 2, 3, 4, 5, 6, 7, 8], [8, 10])])
def jA.B13 : List Nat := [0, 0, 2, 7, 15, 31, 0, 64, 255, 511, 1023, 2047]
theorem jA.tab13 : rtab .any (opsOf Try.f74 13) = jA.T13 := by kernel_rfl
theorem jA.bits13 : waitsOk jA.T13.2 jA.B13 = true := by kernel_rfl
def jA.T16 : Bool × List (List Nat × List Nat) := (true, [([], []), ([], []), ([1], [1]), ([0, 2], [0, 2]), ([3], [3]), ([4], [4]), ([], []), ([6], [6]), ([5, 7], [5, 7]), ([0, 2, 0, 1, 2, 3, 4, 5, 6, 7, 8], [0, 2]), ([9, 0, 1, 2, 3, 4, 5, 6, 7, 8], [9]), ([10, 8, 0, 1, 2, 3, 4, 5, 6, 7, 8], [8, 10])])
def jA.B16 : List Nat := [0, 0, 2, 7, 15, 31, 0, 64, 255, 511, 1023, 2047]
theorem jA.tab16 : rtab .any (opsOf Try.f74 16) = jA.T16 := by kernel_rfl
theorem jA.bits16 : waitsOk jA.T16.2 jA.B16 = true := by kernel_rfl
set_option maxHeartbeats 8000000 in
set_option maxRecDepth 100000 in
theorem jA.calls (k : Nat) (P0_ : Nat → Prop) (u9000_ : Value) (l0 : List S60) (a1_0 : Int) (a1_1 : ByteArray) (a1_2 : ByteArray) (r : List S60) (w0 w : World) (hB : Below w0.heap.size w0 w) (ho0 : Kd.R k60 60 w w0.heap.size P0_ u9000_ l0) (h : jA.f k l0 a1_0 a1_1 a1_2 = some r) :
  Calls Try.prog 74 #[u9000_, .agg #[.int .i64 a1_0, .string a1_1, .string a1_2]] w fun e w' => ∃ v0_ : Value, e = .returned (v0_) ∧ Kd.R k60 60 w' w0.heap.size (fun k_ => (P0_ k_ ∨ w.heap.size ≤ k_)) v0_ r ∧ Below w0.heap.size w0 w' ∧ Kept w w' (fun k_ => P0_ k_) := by
 have hu60 := Try.underlying60
 have HO0 := aM (show Kd.R k60 60 w w0.heap.size (fun k_ => (P0_ k_ ∨ w.heap.size ≤ k_)) u9000_ l0 from Kd.R_mono ho0 (fun k_ hk => (.inl hk)))
 have HK := aM (Kept.refl w (fun k_ => P0_ k_))
 have HW0 := aM hB.size
 have HB := aM hB
 clear hB
 have H : (if a1_0 = 0 then (if a1_1.toList = ([] : List UInt8) then (jA.j0 k l0 (l0.length : Int) (a1_2.toList == ([] : List UInt8)) a1_0 a1_1 a1_2) else (jA.j0 k l0 (l0.length : Int) false a1_0 a1_1 a1_2)) else (jA.j0 k l0 (l0.length : Int) false a1_0 a1_1 a1_2)) = some r := h
 clear h
 have HC3 := aM H
 clear H
 go_enter Try.func74, Try.ntmps74
 go_upto_region 2 with ((with_reducible refine gate_dst (N := 3) rfl ?_); refine box_event rfl (N := 3) rfl (cs := #[.int .i64 a1_0, .string a1_1, .string a1_2]) (t := 60) aP38 ?_; intro gb165 hg w4 hbox hb; have n0_ := aM (Kd.R_below (Kd.R_elderB (rR HO0.out) gb165 (Nat.le_of_eq hg.symm)) hb); have n1_ := aM (Kept.below (S := (fun k_ => P0_ k_)) aP12 hb); have n2_ := aM (below_step bB hb); have n3_ := aM (hbox); have n4_ := aM ((by rw [hg]; exact (by first | exact HK.out.1 | exact (show Kept w _ (fun k_ => P0_ k_) from aP12).1) : w.heap.size ≤ gb165)); have n5_ := aM (bG (w := w0) hg); clear HO0; clear HK; clear HB; have HO0 := n0_; have HK := n1_; have HB := n2_; have BK165 := n3_; have GW165 := n4_; have GE165 := n5_; clear n0_ n1_ n2_ n3_ n4_ n5_; clear hb hbox hg; obtain ⟨Ao5, co5, eo5⟩ := Kd.R_slice HO0.out; subst eo5)
 (try simp only [Act.put, List.setIfInBounds_toArray, List.set_cons_zero, List.set_cons_succ])
 go_cut [9] (fun v9 wc => ∃ (kq : Nat) (x9_2 : Bool), v9 = .bool x9_2 ∧ Aside0 (jA.j0 kq l0 (l0.length : Int) x9_2 a1_0 a1_1 a1_2 = some r) ∧ Aside0 (kq ≤ k) ∧ Aside0 (Kd.R k60 60 wc w0.heap.size (fun k_ => (P0_ k_ ∨ w.heap.size ≤ k_) ∧ k_ ≠ gb165) (.slice Ao5 l0.length co5) l0) ∧ Aside0 (wc.heap[gb165]? = some (.cells #[.int .i64 a1_0, .string a1_1, .string a1_2] 60 (0, 0))) ∧ Aside0 (Kept w wc (fun k_ => P0_ k_)) ∧ Aside0 (Below w0.heap.size w0 wc))
 case first =>
  have H := HC3.out
  clear HC3
  by_cases c6 : a1_0 = 0
  rotate_left
  ·rw [if_neg c6] at H
   obtain ⟨c6b0, c6b1⟩ := nE c6
   (first | rw [c6b0] | (simp only [i64_w, i32_w]; rw [c6b0]) | rw [c6e] | skip)
   have H' := aM H
   clear H
   obtain ⟨hcz10_0, hcz10_1, hcz10_2, hfz10_0, hfz10_1, hfz10_2⟩ := bx3 BK165.out
   go_wp2
   go_meet
   case rel => exact ⟨_, (false), aP19, H', ⟨lH⟩, ⟨rR HO0.out⟩, ⟨kK BK165.out⟩, ⟨aP6⟩, ⟨aP7⟩⟩
  rw [if_pos c6] at H
  obtain ⟨c6b0, c6b1⟩ := pE c6
  clear c6
  (first | rw [c6b0] | (simp only [i64_w, i32_w]; rw [c6b0]) | rw [c6e] | skip)
  by_cases c7 : a1_1.toList = ([] : List UInt8)
  rotate_left
  ·rw [if_neg c7] at H
   obtain ⟨c7b0, c7b1⟩ := nE c7
   try have c7e : a1_1.toList.isEmpty = false := List.isEmpty_eq_false_iff.mpr c7
   have H' := aM H
   clear H
   obtain ⟨hcz9_0, hcz9_1, hcz9_2, hfz9_0, hfz9_1, hfz9_2⟩ := bx3 BK165.out
   go_wp2
   go_meet
   case rel => exact ⟨_, (false), aP19, H', ⟨lH⟩, ⟨rR HO0.out⟩, ⟨kK BK165.out⟩, ⟨aP6⟩, ⟨aP7⟩⟩
  rw [if_pos c7] at H
  obtain ⟨c7b0, c7b1⟩ := pE c7
  try have c7e : a1_1.toList.isEmpty = true := List.isEmpty_iff.mpr c7
  clear c7
  have H' := aM H
  clear H
  obtain ⟨hcz8_0, hcz8_1, hcz8_2, hfz8_0, hfz8_1, hfz8_2⟩ := bx3 BK165.out
  go_wp2
  go_meet
  case rel => exact ⟨_, ((a1_2.toList == ([] : List UInt8))), aP19, H', ⟨lH⟩, ⟨rR HO0.out⟩, ⟨kK BK165.out⟩, ⟨aP6⟩, ⟨aP7⟩⟩
 clear HC3
 obtain ⟨kq, x9_2, rfl, HA, HJ2, HO_0, BK165, HK, HB⟩ := hcut
 cases kq with
 | zero => exact absurd HA.out (by simp [jA.j0])
 | succ kj2 => ?_
 have H := HA.out
 clear HA
 simp only [jA.j0] at H
 by_cases c11 : x9_2 = true
 ·subst c11
  rw [if_pos rfl] at H
  obtain rfl := Option.some.inj H
  go_wp2
  go_ret
  exact ⟨_, by first | rfl | (simp [errW_none, errW_some] <;> rfl) | (simp [*, errW_none, errW_some] <;> rfl), wR HO_0.out, by exact aP7, aP6⟩
 replace c11 := Bool.eq_false_iff.mpr c11
 subst c11
 replace H := fF H
 by_cases c12 : (l0.length : Int) = 0
 ·rw [if_pos c12] at H
  obtain ⟨c12b0, c12b1⟩ := pE c12
  clear c12
  obtain ⟨LMc13, H⟩ := gA H
  (try replace H := bS H)
  generalize Ny166 : (l0 ++ [(⟨a1_0, a1_1, a1_2⟩ : S60)]) = y166 at H
  replace Ny166 := aM Ny166.symm
  obtain rfl := Option.some.inj H
  obtain ⟨hcz14_0, hcz14_1, hcz14_2, hfz14_0, hfz14_1, hfz14_2⟩ := bx3 BK165.out
  go_wp2_with ((with_reducible refine gate_builtin (b := .append) (xs := #[.tmp 27, .tmp 29]) rfl ?_); at_builtin; refine Kd.R_append k60 (w0 := w0) w0.heap.size rfl (.tmp 27) (.tmp 29) 26 60 (.agg #[(.int .i64 0), (.string ⟨#[]⟩), (.string ⟨#[]⟩)]) 40 rfl Try.underlying26 info60 rfl (by decide) (by omega) (.slice Ao5 l0.length co5) l0 (⟨a1_0, a1_1, a1_2⟩ : S60) [.int .i64 a1_0, .string a1_1, .string a1_2] (fun k_ => (P0_ k_ ∨ w.heap.size ≤ k_) ∧ k_ ≠ gb165) (fun _ => False) rfl rfl ?aP (fun _ hk => hk.elim) ?aF ?aO ?aB ?aS ?aL ?_; (case aP => exact k60_mkM _ _ _ (⟨a1_0, a1_1, a1_2⟩ : S60)); (case aB => exact aP7); (case aF => exact (fun k_ hk => ⟨(.inr (Nat.le_trans (by first | exact HK.out.1 | exact (show Kept w _ (fun k_ => P0_ k_) from aP6).1) hk)), Kd.freshB (g := gb165) (o := .cells #[.int .i64 a1_0, .string a1_1, .string a1_2] 60 (0, 0)) (kK BK165.out) k_ hk⟩)); (case aO => exact (rR HO_0.out)); (case aS => exact (below_size aP7)); (case aL => have := LMc13.out; omega); intro v167 w15 ho hb hg hat; rw [← Ny166.out] at ho; have HO168 := aM (ho); replace BK165 := aM (blk_grown (g := gb165) (o := .cells #[.int .i64 a1_0, .string a1_1, .string a1_2] 60 (0, 0)) (kK BK165.out) hg (Kd.R_away HO_0.out (fun _ hk => hk.2))); replace HB := aM (hb); replace HK := aM (Kept.of_grown (S := (fun k_ => P0_ k_)) hg aP6 (fun k_ e_ => (HO_0.out.1 k_ e_).1)); clear ho hb hg hat)
  go_ret
  exact ⟨_, by first | rfl | (simp [errW_none, errW_some] <;> rfl) | (simp [*, errW_none, errW_some] <;> rfl), wR HO168.out, by exact aP7, aP6⟩
 rw [if_neg c12] at H
 obtain ⟨c12b0, c12b1⟩ := nE c12
 have c12b2 : ¬ (l0 = []) := fun h_ => c12 (by rw [h_]; rfl)
 generalize hji16 : (wrap64 ((l0.length : Int) - 1)) = ji16 at H
 have hji16w : (IntKind.i64.wrap ((l0.length : Int) - 1)) = ji16 := (i64_w _).trans hji16
 obtain ⟨c17b0, H⟩ := gB H
 obtain ⟨c18b0, H⟩ := gB H
 have HC19 := aM H
 clear H
 obtain ⟨ad169, rfl, p169, q169, hx169_0, hx169_1, hx169_2⟩ := xT HO_0.out (ji16)
 go_upto_region 8 with ((with_reducible refine gate_dst (N := 6) rfl ?_); refine box_event rfl (N := 6) rfl (cs := #[.int .i64 0, .string ⟨#[]⟩, .string ⟨#[]⟩]) (t := 60) aP38 ?_; intro gb170 hg w20 hbox hb; have n0_ := aM (Kd.R_below (Kd.R_elderB (rR HO_0.out) gb170 (Nat.le_of_eq hg.symm)) hb); have n1_ := aM (blk_below (g := gb165) (o := .cells #[.int .i64 a1_0, .string a1_1, .string a1_2] 60 (0, 0)) (kK BK165.out) hb); have n2_ := aM (Kept.below (S := (fun k_ => P0_ k_)) aP6 hb); have n3_ := aM (below_step aP7 hb); have n4_ := aM (hbox); have n5_ := aM ((by rw [hg]; exact (by first | exact HK.out.1 | exact (show Kept w _ (fun k_ => P0_ k_) from aP6).1) : w.heap.size ≤ gb170)); have n6_ := aM ((by rw [hg]; exact (below_size aP7) : w0.heap.size ≤ gb170)); have n7_ := aM ((by rw [hg]; exact Nat.ne_of_lt (blk_lt (g := gb165) (o := .cells #[.int .i64 a1_0, .string a1_1, .string a1_2] 60 (0, 0)) (kK BK165.out)) : gb165 ≠ gb170)); have n8_ := aM ((by rw [hg]; exact Nat.ne_of_gt (blk_lt (g := gb165) (o := .cells #[.int .i64 a1_0, .string a1_1, .string a1_2] 60 (0, 0)) (kK BK165.out)) : gb170 ≠ gb165)); clear HO_0; clear BK165; clear HK; clear HB; have HO_0 := n0_; have BK165 := n1_; have HK := n2_; have HB := n3_; have BK170 := n4_; have GW170 := n5_; have GE170 := n6_; have NB165_170 := n7_; have NB170_165 := n8_; clear n0_ n1_ n2_ n3_ n4_ n5_ n6_ n7_ n8_; clear hb hbox hg; have hnb21 := NB170_165.out; have hnc21 := NB165_170.out; obtain ⟨hcz22_0, hcz22_1, hcz22_2, hfz22_0, hfz22_1, hfz22_2⟩ := bx3 BK170.out)
 (try simp only [Act.put, List.setIfInBounds_toArray, List.set_cons_zero, List.set_cons_succ])
 go_cut [40] (fun v40 wc => ∃ (kq : Nat) (x40_18 : Bool), v40 = .bool x40_18 ∧ Aside0 (jA.j1 kq l0 (l0.length : Int) x40_18 a1_0 a1_1 a1_2 ((rd_T60 l0 (ji16)).f0) ((rd_T60 l0 (ji16)).f1) ((rd_T60 l0 (ji16)).f2) = some r) ∧ Aside0 (kq ≤ kj2) ∧ Aside0 (Kd.R k60 60 wc w0.heap.size (fun k_ => (P0_ k_ ∨ w.heap.size ≤ k_) ∧ k_ ≠ gb165 ∧ k_ ≠ gb170) (.slice (some ad169) l0.length co5) l0) ∧ Aside0 (wc.heap[gb165]? = some (.cells #[.int .i64 a1_0, .string a1_1, .string a1_2] 60 (0, 0))) ∧ Aside0 (wc.heap[gb170]? = some (.cells #[.int .i64 ((rd_T60 l0 (ji16)).f0), .string ((rd_T60 l0 (ji16)).f1), .string ((rd_T60 l0 (ji16)).f2)] 60 (0, 0))) ∧ Aside0 (Kept w wc (fun k_ => P0_ k_)) ∧ Aside0 (Below w0.heap.size w0 wc))
 case first =>
  have H := HC19.out
  clear HC19
  by_cases c23 : a1_0 > 0
  rotate_left
  ·rw [if_neg c23] at H
   have c23b0 : decide (0 < a1_0) = false := decide_eq_false c23
   clear c23
   (first | rw [c23b0] | (simp only [i64_w, i32_w]; rw [c23b0]) | rw [c23e] | skip)
   have H' := aM H
   clear H
   have hnb27 := NB165_170.out
   have hnc27 := NB170_165.out
   obtain ⟨hcz28_0, hcz28_1, hcz28_2, hfz28_0, hfz28_1, hfz28_2⟩ := bx3 BK165.out
   go_wp2
   go_meet
   case rel => exact ⟨_, (false), aP19, H', ⟨by have := HJ2.out; first | omega | exact Nat.le_refl _⟩, ⟨by (with_reducible repeat (first | apply Kd.R_alloc | apply Kd.R_drewN | apply Kd.R_drew)); exact Kd.R_mono (Kd.R_far (p := ⟨gb170, 2, none⟩) (Kd.R_far (p := ⟨gb170, 1, none⟩) (Kd.R_far (p := ⟨gb170, 0, none⟩) (Kd.R_mono HO_0.out (fun k_ hk => (⟨hk, hk.2⟩ : _ ∧ k_ ≠ gb170))) (fun _ hk => hk.2) (.int .i64 ((rd_T60 l0 (ji16)).f0))) (fun _ hk => hk.2) (.string ((rd_T60 l0 (ji16)).f1))) (fun _ hk => hk.2) (.string ((rd_T60 l0 (ji16)).f2))) (fun _ hk => ⟨hk.1.1.1, ⟨hk.1.1.2, hk.1.2⟩⟩)⟩, ⟨by (with_reducible repeat (first | refine blk_drewN ?_ _ | refine blk_drew ?_ | refine blk_alloc ?_ _)); refine blk_far ?_ NB165_170.out _; (with_reducible repeat (first | refine blk_drewN ?_ _ | refine blk_drew ?_ | refine blk_alloc ?_ _)); refine blk_far ?_ NB165_170.out _; (with_reducible repeat (first | refine blk_drewN ?_ _ | refine blk_drew ?_ | refine blk_alloc ?_ _)); refine blk_far ?_ NB165_170.out _; (with_reducible repeat (first | refine blk_drewN ?_ _ | refine blk_drew ?_ | refine blk_alloc ?_ _)); exact BK165.out⟩, ⟨by (with_reducible repeat (first | refine blk_drewN ?_ _ | refine blk_drew ?_ | refine blk_alloc ?_ _)); refine blk_put (cs := #[.int .i64 ((rd_T60 l0 (ji16)).f0), .string ((rd_T60 l0 (ji16)).f1), .string ⟨#[]⟩]) ?_ 2 _ rfl; (with_reducible repeat (first | refine blk_drewN ?_ _ | refine blk_drew ?_ | refine blk_alloc ?_ _)); refine blk_put (cs := #[.int .i64 ((rd_T60 l0 (ji16)).f0), .string ⟨#[]⟩, .string ⟨#[]⟩]) ?_ 1 _ rfl; (with_reducible repeat (first | refine blk_drewN ?_ _ | refine blk_drew ?_ | refine blk_alloc ?_ _)); refine blk_put (cs := #[.int .i64 0, .string ⟨#[]⟩, .string ⟨#[]⟩]) ?_ 0 _ rfl; (with_reducible repeat (first | refine blk_drewN ?_ _ | refine blk_drew ?_ | refine blk_alloc ?_ _)); exact BK170.out⟩, ⟨aP3⟩, ⟨aP4⟩⟩
  rw [if_pos c23] at H
  have c23b0 : decide (0 < a1_0) = true := decide_eq_true c23
  clear c23
  (first | rw [c23b0] | (simp only [i64_w, i32_w]; rw [c23b0]) | rw [c23e] | skip)
  have H' := aM H
  clear H
  have hnb24 := NB165_170.out
  have hnc24 := NB170_165.out
  obtain ⟨hcz25_0, hcz25_1, hcz25_2, hfz25_0, hfz25_1, hfz25_2⟩ := bx3 BK165.out
  obtain ⟨hcz26_0, hcz26_1, hcz26_2, hfz26_0, hfz26_1, hfz26_2⟩ := bx3 BK170.out
  go_wp2
  go_meet
  case rel => exact ⟨_, (decide (((rd_T60 l0 (ji16)).f0) > 0)), aP30, aP37, ⟨by have := HJ2.out; first | omega | exact Nat.le_refl _⟩, ⟨by (with_reducible repeat (first | apply Kd.R_alloc | apply Kd.R_drewN | apply Kd.R_drew)); exact Kd.R_mono (Kd.R_far (p := ⟨gb170, 2, none⟩) (Kd.R_far (p := ⟨gb170, 1, none⟩) (Kd.R_far (p := ⟨gb170, 0, none⟩) (Kd.R_mono HO_0.out (fun k_ hk => (⟨hk, hk.2⟩ : _ ∧ k_ ≠ gb170))) (fun _ hk => hk.2) (.int .i64 ((rd_T60 l0 (ji16)).f0))) (fun _ hk => hk.2) (.string ((rd_T60 l0 (ji16)).f1))) (fun _ hk => hk.2) (.string ((rd_T60 l0 (ji16)).f2))) (fun _ hk => ⟨hk.1.1.1, ⟨hk.1.1.2, hk.1.2⟩⟩)⟩, ⟨by (with_reducible repeat (first | refine blk_drewN ?_ _ | refine blk_drew ?_ | refine blk_alloc ?_ _)); refine blk_far ?_ NB165_170.out _; (with_reducible repeat (first | refine blk_drewN ?_ _ | refine blk_drew ?_ | refine blk_alloc ?_ _)); refine blk_far ?_ NB165_170.out _; (with_reducible repeat (first | refine blk_drewN ?_ _ | refine blk_drew ?_ | refine blk_alloc ?_ _)); refine blk_far ?_ NB165_170.out _; (with_reducible repeat (first | refine blk_drewN ?_ _ | refine blk_drew ?_ | refine blk_alloc ?_ _)); exact BK165.out⟩, ⟨by (with_reducible repeat (first | refine blk_drewN ?_ _ | refine blk_drew ?_ | refine blk_alloc ?_ _)); refine blk_put (cs := #[.int .i64 ((rd_T60 l0 (ji16)).f0), .string ((rd_T60 l0 (ji16)).f1), .string ⟨#[]⟩]) ?_ 2 _ rfl; (with_reducible repeat (first | refine blk_drewN ?_ _ | refine blk_drew ?_ | refine blk_alloc ?_ _)); refine blk_put (cs := #[.int .i64 ((rd_T60 l0 (ji16)).f0), .string ⟨#[]⟩, .string ⟨#[]⟩]) ?_ 1 _ rfl; (with_reducible repeat (first | refine blk_drewN ?_ _ | refine blk_drew ?_ | refine blk_alloc ?_ _)); refine blk_put (cs := #[.int .i64 0, .string ⟨#[]⟩, .string ⟨#[]⟩]) ?_ 0 _ rfl; (with_reducible repeat (first | refine blk_drewN ?_ _ | refine blk_drew ?_ | refine blk_alloc ?_ _)); exact BK170.out⟩, ⟨aP3⟩, ⟨aP4⟩⟩
 clear HC19
 try clear c11
 try clear c12
 try clear c12b0
 try clear c12b1
 try clear c12b2
 try clear c17b0
 try clear c18b0
 try clear hcz22_0
 try clear hcz22_1
 try clear hcz22_2
 try clear hfz22_0
 try clear hfz22_1
 try clear hfz22_2
 try clear hx169_0
 try clear hx169_1
 try clear hx169_2
 try clear p169
 try clear q169
 obtain ⟨kq, x40_18, rfl, HA, HJ18, HO_0, BK165, BK170, HK, HB⟩ := hcut
 cases kq with
 | zero => exact absurd HA.out (by simp [jA.j1])
 | succ kj18 => ?_
 have H := HA.out
 clear HA
 simp only [jA.j1] at H
 by_cases c29 : x40_18 = true
 ·subst c29
  rw [if_pos rfl] at H
  replace H : (if 0 ≤ (ji16) then (if (ji16) < (l0.length : Int) then (some (l0.set ((ji16) : Int).toNat (⟨wrap64 (((rd_T60 l0 (ji16)).f0) + a1_0), (rd_T60 l0 (ji16)).f1, (rd_T60 l0 (ji16)).f2⟩ : S60))) else (none)) else (none)) = some r := by first | (rw [hji16] at H; exact H) | (simp only [hji16] at H ⊢; exact H)
  obtain ⟨c31b0, H⟩ := gB H
  obtain ⟨c32b0, H⟩ := gB H
  (try replace H := bS H)
  generalize Ny172 : (l0.set ((ji16) : Int).toNat (⟨wrap64 (((rd_T60 l0 (ji16)).f0) + a1_0), (rd_T60 l0 (ji16)).f1, (rd_T60 l0 (ji16)).f2⟩ : S60)) = y172 at H
  replace Ny172 := aM Ny172.symm
  obtain rfl := Option.some.inj H
  try go_wp2
  replace HO_0 := aM (Kd.R_drew HO_0.out)
  replace BK165 := aM (blk_drew BK165.out)
  replace BK170 := aM (blk_drew BK170.out)
  replace HK := aM (Kept.drew HK.out)
  replace HB := aM (below_drew1 HB.out)
  obtain ⟨ad171, e171, p171, q171, hx171_0, hx171_1, hx171_2⟩ := xT HO_0.out (ji16)
  (first | obtain rfl : ad169 = ad171 := (by injection e171) | cases e171)
  have p33 : 0 ≤ ((ji16) : Int) := of_decide_eq_true (by assumption)
  have q33 : ((ji16) : Int) < ((l0.length : Int) : Int) := of_decide_eq_true (by assumption)
  obtain ⟨go33, co33, eo33, gb33, gl33, cl33, HG33⟩ := Kd.R_form HO_0.out (by omega)
  (first | cases eo33 | (injection eo33 with ea_ en_ ec_; (first | subst ea_ | (injection ea_ with ea_; subst ea_)); subst ec_; clear en_))
  have GB33 := aM gb33
  have GG33 := aM HG33
  clear gb33 gl33 HG33
  have HMgo33 := aM (show (P0_ go33 ∨ w.heap.size ≤ go33) from (HO_0.out.1 _ rfl).1)
  (first | simp only [add_plain] at hx169_0 | skip)
  (first | simp only [add_plain] at hx169_1 | skip)
  (first | simp only [add_plain] at hx169_2 | skip)
  (first | simp only [add_plain] at hx171_0 | skip)
  (first | simp only [add_plain] at hx171_1 | skip)
  (first | simp only [add_plain] at hx171_2 | skip)
  obtain ⟨ce33, hcl33, hM33, hcc33, hfr33⟩ := Kd.R_elem HO_0.out z60 ((ji16) : Int) p33 q33
  obtain rfl := k60_openM hM33
  have hx33_0 : World.cell? _ ⟨go33, ((ji16) : Int).toNat * 3, none⟩ = some (.int .i64 ((rd_T60 l0 (ji16)).f0)) := hcc33 0 _ rfl
  have hx33_1 : World.cell? _ ⟨go33, ((ji16) : Int).toNat * 3 + 1, none⟩ = some (.string ((rd_T60 l0 (ji16)).f1)) := hcc33 1 _ rfl
  have hx33_2 : World.cell? _ ⟨go33, ((ji16) : Int).toNat * 3 + 2, none⟩ = some (.string ((rd_T60 l0 (ji16)).f2)) := hcc33 2 _ rfl
  have hf33_0 : World.frozen? _ ⟨go33, ((ji16) : Int).toNat * 3, none⟩ = false := hfr33 0
  have hf33_1 : World.frozen? _ ⟨go33, ((ji16) : Int).toNat * 3 + 1, none⟩ = false := hfr33 1
  have hf33_2 : World.frozen? _ ⟨go33, ((ji16) : Int).toNat * 3 + 2, none⟩ = false := hfr33 2
  clear hcl33 hcc33 hfr33 hM33
  replace p33 := eq_true p33
  replace q33 := eq_true q33
  obtain ⟨ce35, hcl35, hM35, hcc35, hfr35⟩ := Kd.R_elem HO_0.out z60 ((ji16) : Int) (of_decide_eq_true (by assumption)) (by have h_ : ((ji16) : Int) < ((l0.length : Int) : Int) := of_decide_eq_true (by assumption); first | exact h_ | (have e_ := (Kd.R_reads' HO_0.out).1; omega) | simpa using h_)
  obtain rfl := k60_openM hM35
  have HP35 := (Kd.R_seg HO_0.out ((ji16) : Int) (of_decide_eq_true (by assumption)) (by have h_ : ((ji16) : Int) < ((l0.length : Int) : Int) := of_decide_eq_true (by assumption); first | exact h_ | (have e_ := (Kd.R_reads' HO_0.out).1; omega) | simpa using h_) (seg := [.int .i64 (wrap64 (((rd_T60 l0 (ji16)).f0) + a1_0))]) (j := 0) hcl35 hcc35 (show 1 ≤ 3 from by decide) (x' := (⟨wrap64 (((rd_T60 l0 (ji16)).f0) + a1_0), (rd_T60 l0 (ji16)).f1, (rd_T60 l0 (ji16)).f2⟩ : S60)) (k60_mkM _ _ _ (⟨wrap64 (((rd_T60 l0 (ji16)).f0) + a1_0), (rd_T60 l0 (ji16)).f1, (rd_T60 l0 (ji16)).f2⟩ : S60) ) (fun _ hk => hk)).1
  rw [← Ny172.out] at HP35
  have HQ35 := aM HP35
  clear hcl35 hcc35 hfr35 hM35 HP35
  refine start_ (n := 12) (S := fun w' => w'.cell? ⟨gb165, 0, none⟩ = some (.int .i64 a1_0) ∧ w'.cell? ⟨gb165, 1, none⟩ = some (.string a1_1) ∧ w'.cell? ⟨gb165, 2, none⟩ = some (.string a1_2) ∧ w'.cell? ⟨go33, ((ji16)).toNat * 3, none⟩ = some (.int .i64 ((rd_T60 l0 (ji16)).f0)) ∧ w'.cell? ⟨go33, ((ji16)).toNat * 3 + 1, none⟩ = some (.string ((rd_T60 l0 (ji16)).f1)) ∧ w'.cell? ⟨go33, ((ji16)).toNat * 3 + 2, none⟩ = some (.string ((rd_T60 l0 (ji16)).f2))) (ds := [11]) (Array.replicate 12 false) (by kernel_rfl) rfl rfl ⟨(blk_cell BK165.out 0).trans rfl, (blk_cell BK165.out 1).trans rfl, (blk_cell BK165.out 2).trans rfl, hx171_0, hx171_1, hx171_2⟩ (fun hHeld => ?_); refine with_tabW jA.tab9 jA.bits9 (fun HT_ HW_ => ?_)
  (first | generalize wc.drew = w34 at HO_0 BK165 BK170 HK HB GG33 HQ35 hf33_0 hf33_1 hf33_2 hx169_0 hx169_1 hx169_2 hx171_0 hx171_1 hx171_2 hx33_0 hx33_1 hx33_2 hHeld ⊢ | generalize wc.drew = w34 at HO_0 BK165 BK170 HK HB GG33 HQ35 hf33_0 hf33_1 hf33_2 hx171_0 hx171_1 hx171_2 hx33_0 hx33_1 hx33_2 hHeld ⊢ | generalize wc.drew = w34 at HO_0 BK165 BK170 HK HB GG33 HQ35 hf33_0 hf33_1 hf33_2 hx169_0 hx169_1 hx169_2 hx33_0 hx33_1 hx33_2 hHeld ⊢)
  refine pV 0 49 (bN 12 1) ?_
  refine pV 1 50 (bN 12 3) ?_
  refine pV 2 51 (bN 12 7) ?_
  refine pV 3 52 (bN 12 15) ?_
  refine pV 4 53 (bN 12 31) ?_
  refine pV 6 55 (bN 12 95) ?_
  refine tV6 5 54 (bN 12 127) ?_
  refine tV6 7 56 (bN 12 255) ?_
  refine pV 8 57 (bN 12 511) ?_
  refine pV 9 58 (bN 12 1023) ?_
  refine pV 10 59 (bN 12 2047) ?_
  refine last_ (i := 11) (N := none) (bN 12 4095) rfl rfl (one_of HT_.out (by kernel_rfl)) (by decide) (fun K hK => ?_)
  refine skip_ (w1 := ?_) (by rfl) rfl ?_ ?_
  rotate_left
  ·go_simp
   rfl
  refine hK.out _ _ ?_
  clear hK K
  refine done_ (done_of HT_.out (by kernel_rfl)) ?_
  try go_wp2
  go_ret
  exact ⟨_, by first | rfl | (simp [errW_none, errW_some] <;> rfl) | (simp only [← hji16, ← hji16]; first | rfl | (simp [errW_none, errW_some] <;> rfl)) | (simp [*, errW_none, errW_some] <;> rfl), wR HQ35.out, by repeat (first | (with_reducible first | exact HB.out | apply below_alloc | apply pw_below_drewN | apply below_drew1 | refine below_set ?_ GB33.out | refine below_set ?_ GE165.out | refine below_set ?_ GE170.out) | exact HB.out), by repeat (first | (with_reducible first | exact HK.out | apply Kept.alloc | apply Kept.drewN | apply Kept.drew | refine Kept.setCell ?_ HMgo33.out _ | refine Kept.setCell ?_ (.inr GW165.out) _ | refine Kept.setCell ?_ (.inr GW170.out) _) | exact HK.out)⟩
 replace c29 := Bool.eq_false_iff.mpr c29
 subst c29
 replace H := fF H
 have HC36 := aM H
 clear H
 go_upto_region 10 with (fail)
 go_cut [60] (fun v60 wc => ∃ (kq : Nat) (x60_35 : Bool), v60 = .bool x60_35 ∧ Aside0 (jA.j2 kq l0 (l0.length : Int) x60_35 a1_0 a1_1 a1_2 ((rd_T60 l0 (ji16)).f0) ((rd_T60 l0 (ji16)).f1) ((rd_T60 l0 (ji16)).f2) = some r) ∧ Aside0 (kq ≤ kj18) ∧ Aside0 (Kd.R k60 60 wc w0.heap.size (fun k_ => (P0_ k_ ∨ w.heap.size ≤ k_) ∧ k_ ≠ gb165 ∧ k_ ≠ gb170) (.slice (some ad169) l0.length co5) l0) ∧ Aside0 (wc.heap[gb165]? = some (.cells #[.int .i64 a1_0, .string a1_1, .string a1_2] 60 (0, 0))) ∧ Aside0 (wc.heap[gb170]? = some (.cells #[.int .i64 ((rd_T60 l0 (ji16)).f0), .string ((rd_T60 l0 (ji16)).f1), .string ((rd_T60 l0 (ji16)).f2)] 60 (0, 0))) ∧ Aside0 (Kept w wc (fun k_ => P0_ k_)) ∧ Aside0 (Below w0.heap.size w0 wc))
 case first =>
  have H := HC36.out
  clear HC36
  by_cases c37 : a1_2.toList = ([] : List UInt8)
  ·rw [if_pos c37] at H
   obtain ⟨c37b0, c37b1⟩ := pE c37
   try have c37e : a1_2.toList.isEmpty = true := List.isEmpty_iff.mpr c37
   clear c37
   (first | rw [c37b0] | (simp only [i64_w, i32_w]; rw [c37b0]) | rw [c37e] | skip)
   have H' := aM H
   clear H
   have hnb38 := NB165_170.out
   have hnc38 := NB170_165.out
   obtain ⟨hcz39_0, hcz39_1, hcz39_2, hfz39_0, hfz39_1, hfz39_2⟩ := bx3 BK165.out
   go_wp2
   go_meet
   case rel => exact ⟨_, (false), aP19, H', ⟨by have := HJ2.out; have := HJ18.out; first | omega | exact Nat.le_refl _⟩, ⟨rR HO_0.out⟩, ⟨kK BK165.out⟩, ⟨kK BK170.out⟩, ⟨aP3⟩, ⟨aP4⟩⟩
  rw [if_neg c37] at H
  obtain ⟨c37b0, c37b1⟩ := nE c37
  try have c37e : a1_2.toList.isEmpty = false := List.isEmpty_eq_false_iff.mpr c37
  (first | rw [c37b0] | (simp only [i64_w, i32_w]; rw [c37b0]) | rw [c37e] | skip)
  have H' := aM H
  clear H
  have hnb40 := NB165_170.out
  have hnc40 := NB170_165.out
  obtain ⟨hcz41_0, hcz41_1, hcz41_2, hfz41_0, hfz41_1, hfz41_2⟩ := bx3 BK165.out
  obtain ⟨hcz42_0, hcz42_1, hcz42_2, hfz42_0, hfz42_1, hfz42_2⟩ := bx3 BK170.out
  go_wp2
  go_meet
  case rel => exact ⟨_, ((((rd_T60 l0 (ji16)).f2).toList != ([] : List UInt8))), aP30, aP37, ⟨by have := HJ2.out; have := HJ18.out; first | omega | exact Nat.le_refl _⟩, ⟨rR HO_0.out⟩, ⟨kK BK165.out⟩, ⟨kK BK170.out⟩, ⟨aP3⟩, ⟨aP4⟩⟩
 clear HC36
 try clear c11
 try clear c12
 try clear c12b0
 try clear c12b1
 try clear c12b2
 try clear c17b0
 try clear c18b0
 try clear c29
 try clear hcz22_0
 try clear hcz22_1
 try clear hcz22_2
 try clear hfz22_0
 try clear hfz22_1
 try clear hfz22_2
 try clear hx169_0
 try clear hx169_1
 try clear hx169_2
 try clear p169
 try clear q169
 obtain ⟨kq, x60_35, rfl, HA, HJ35, HO_0, BK165, BK170, HK, HB⟩ := hcut
 cases kq with
 | zero => exact absurd HA.out (by simp [jA.j2])
 | succ kj35 => ?_
 have H := HA.out
 clear HA
 simp only [jA.j2] at H
 by_cases c43 : x60_35 = true
 ·subst c43
  rw [if_pos rfl] at H
  replace H : (if 0 ≤ (ji16) then (if (ji16) < (l0.length : Int) then (if ((rd_T60 l0 (ji16)).f2).size + a1_2.size ≤ 9223372036854775807 then (some (l0.set ((ji16) : Int).toNat (⟨(rd_T60 l0 (ji16)).f0, (rd_T60 l0 (ji16)).f1, ((rd_T60 l0 (ji16)).f2) ++ a1_2⟩ : S60))) else (none)) else (none)) else (none)) = some r := by first | (rw [hji16] at H; exact H) | (simp only [hji16] at H ⊢; exact H)
  obtain ⟨c45b0, H⟩ := gB H
  obtain ⟨c46b0, H⟩ := gB H
  obtain ⟨c47, H⟩ := gD H
  have c47b0 := eq_true c47
  have c47b1 : decide (((rd_T60 l0 (ji16)).f2).size + a1_2.size ≤ 9223372036854775807) = true := decide_eq_true c47
  try have c47b2 : (9223372036854775807 < ((rd_T60 l0 (ji16)).f2).size + a1_2.size) = False := eq_false (Nat.not_lt.2 c47)
  (try replace H := bS H)
  generalize Ny174 : (l0.set ((ji16) : Int).toNat (⟨(rd_T60 l0 (ji16)).f0, (rd_T60 l0 (ji16)).f1, ((rd_T60 l0 (ji16)).f2) ++ a1_2⟩ : S60)) = y174 at H
  replace Ny174 := aM Ny174.symm
  obtain rfl := Option.some.inj H
  try go_wp2
  replace HO_0 := aM (Kd.R_drew HO_0.out)
  replace BK165 := aM (blk_drew BK165.out)
  replace BK170 := aM (blk_drew BK170.out)
  replace HK := aM (Kept.drew HK.out)
  replace HB := aM (below_drew1 HB.out)
  obtain ⟨ad173, e173, p173, q173, hx173_0, hx173_1, hx173_2⟩ := xT HO_0.out (ji16)
  (first | obtain rfl : ad169 = ad173 := (by injection e173) | cases e173)
  have p48 : 0 ≤ ((ji16) : Int) := of_decide_eq_true (by assumption)
  have q48 : ((ji16) : Int) < ((l0.length : Int) : Int) := of_decide_eq_true (by assumption)
  obtain ⟨go48, co48, eo48, gb48, gl48, cl48, HG48⟩ := Kd.R_form HO_0.out (by omega)
  (first | cases eo48 | (injection eo48 with ea_ en_ ec_; (first | subst ea_ | (injection ea_ with ea_; subst ea_)); subst ec_; clear en_))
  have GB48 := aM gb48
  have GG48 := aM HG48
  clear gb48 gl48 HG48
  have HMgo48 := aM (show (P0_ go48 ∨ w.heap.size ≤ go48) from (HO_0.out.1 _ rfl).1)
  (first | simp only [add_plain] at hx173_0 | skip)
  (first | simp only [add_plain] at hx173_1 | skip)
  (first | simp only [add_plain] at hx173_2 | skip)
  obtain ⟨ce48, hcl48, hM48, hcc48, hfr48⟩ := Kd.R_elem HO_0.out z60 ((ji16) : Int) p48 q48
  obtain rfl := k60_openM hM48
  have hx48_0 : World.cell? _ ⟨go48, ((ji16) : Int).toNat * 3, none⟩ = some (.int .i64 ((rd_T60 l0 (ji16)).f0)) := hcc48 0 _ rfl
  have hx48_1 : World.cell? _ ⟨go48, ((ji16) : Int).toNat * 3 + 1, none⟩ = some (.string ((rd_T60 l0 (ji16)).f1)) := hcc48 1 _ rfl
  have hx48_2 : World.cell? _ ⟨go48, ((ji16) : Int).toNat * 3 + 2, none⟩ = some (.string ((rd_T60 l0 (ji16)).f2)) := hcc48 2 _ rfl
  have hf48_0 : World.frozen? _ ⟨go48, ((ji16) : Int).toNat * 3, none⟩ = false := hfr48 0
  have hf48_1 : World.frozen? _ ⟨go48, ((ji16) : Int).toNat * 3 + 1, none⟩ = false := hfr48 1
  have hf48_2 : World.frozen? _ ⟨go48, ((ji16) : Int).toNat * 3 + 2, none⟩ = false := hfr48 2
  clear hcl48 hcc48 hfr48 hM48
  replace p48 := eq_true p48
  replace q48 := eq_true q48
  obtain ⟨ce50, hcl50, hM50, hcc50, hfr50⟩ := Kd.R_elem HO_0.out z60 ((ji16) : Int) (of_decide_eq_true (by assumption)) (by have h_ : ((ji16) : Int) < ((l0.length : Int) : Int) := of_decide_eq_true (by assumption); first | exact h_ | (have e_ := (Kd.R_reads' HO_0.out).1; omega) | simpa using h_)
  obtain rfl := k60_openM hM50
  have HP50 := (Kd.R_seg HO_0.out ((ji16) : Int) (of_decide_eq_true (by assumption)) (by have h_ : ((ji16) : Int) < ((l0.length : Int) : Int) := of_decide_eq_true (by assumption); first | exact h_ | (have e_ := (Kd.R_reads' HO_0.out).1; omega) | simpa using h_) (seg := [.string (((rd_T60 l0 (ji16)).f2) ++ a1_2)]) (j := 2) hcl50 hcc50 (show 3 ≤ 3 from by decide) (x' := (⟨(rd_T60 l0 (ji16)).f0, (rd_T60 l0 (ji16)).f1, ((rd_T60 l0 (ji16)).f2) ++ a1_2⟩ : S60)) (k60_mkM _ _ _ (⟨(rd_T60 l0 (ji16)).f0, (rd_T60 l0 (ji16)).f1, ((rd_T60 l0 (ji16)).f2) ++ a1_2⟩ : S60) ) (fun _ hk => hk)).1
  rw [← Ny174.out] at HP50
  have HQ50 := aM HP50
  clear hcl50 hcc50 hfr50 hM50 HP50
  refine start_ (n := 12) (S := fun w' => w'.cell? ⟨gb165, 0, none⟩ = some (.int .i64 a1_0) ∧ w'.cell? ⟨gb165, 1, none⟩ = some (.string a1_1) ∧ w'.cell? ⟨gb165, 2, none⟩ = some (.string a1_2) ∧ w'.cell? ⟨go48, ((ji16)).toNat * 3, none⟩ = some (.int .i64 ((rd_T60 l0 (ji16)).f0)) ∧ w'.cell? ⟨go48, ((ji16)).toNat * 3 + 1, none⟩ = some (.string ((rd_T60 l0 (ji16)).f1)) ∧ w'.cell? ⟨go48, ((ji16)).toNat * 3 + 2, none⟩ = some (.string ((rd_T60 l0 (ji16)).f2))) (ds := [11]) (Array.replicate 12 false) (by kernel_rfl) rfl rfl ⟨(blk_cell BK165.out 0).trans rfl, (blk_cell BK165.out 1).trans rfl, (blk_cell BK165.out 2).trans rfl, hx173_0, hx173_1, hx173_2⟩ (fun hHeld => ?_); refine with_tabW jA.tab11 jA.bits11 (fun HT_ HW_ => ?_)
  generalize wc.drew = w49 at HO_0 BK165 BK170 HK HB GG48 HQ50 hf48_0 hf48_1 hf48_2 hx173_0 hx173_1 hx173_2 hx48_0 hx48_1 hx48_2 hHeld ⊢
  refine pV 0 69 (bN 12 1) ?_
  refine pV 1 70 (bN 12 3) ?_
  refine pV 2 71 (bN 12 7) ?_
  refine pV 3 72 (bN 12 15) ?_
  refine pV 4 73 (bN 12 31) ?_
  refine pV 6 75 (bN 12 95) ?_
  refine tV6 5 74 (bN 12 127) ?_
  refine tV6 7 76 (bN 12 255) ?_
  refine pV 8 77 (bN 12 511) ?_
  refine pV 9 78 (bN 12 1023) ?_
  refine pV 10 79 (bN 12 2047) ?_
  refine last_ (i := 11) (N := none) (bN 12 4095) rfl rfl (one_of HT_.out (by kernel_rfl)) (by decide) (fun K hK => ?_)
  refine skip_ (w1 := ?_) (by rfl) rfl ?_ ?_
  rotate_left
  ·go_simp
   rfl
  refine hK.out _ _ ?_
  clear hK K
  refine done_ (done_of HT_.out (by kernel_rfl)) ?_
  try go_wp2
  go_ret
  exact ⟨_, by first | rfl | (simp [errW_none, errW_some] <;> rfl) | (simp only [← hji16, ← hji16]; first | rfl | (simp [errW_none, errW_some] <;> rfl)) | (simp [*, errW_none, errW_some] <;> rfl), wR HQ50.out, by repeat (first | (with_reducible first | exact HB.out | apply below_alloc | apply pw_below_drewN | apply below_drew1 | refine below_set ?_ GB48.out | refine below_set ?_ GE165.out | refine below_set ?_ GE170.out) | exact HB.out), by repeat (first | (with_reducible first | exact HK.out | apply Kept.alloc | apply Kept.drewN | apply Kept.drew | refine Kept.setCell ?_ HMgo48.out _ | refine Kept.setCell ?_ (.inr GW165.out) _ | refine Kept.setCell ?_ (.inr GW170.out) _) | exact HK.out)⟩
 replace c43 := Bool.eq_false_iff.mpr c43
 subst c43
 replace H := fF H
 have HC51 := aM H
 clear H
 go_upto_region 12 with (fail)
 go_cut [80] (fun v80 wc => ∃ (kq : Nat) (x80_50 : Bool), v80 = .bool x80_50 ∧ Aside0 (jA.j3 kq l0 (l0.length : Int) x80_50 a1_0 a1_1 a1_2 ((rd_T60 l0 (ji16)).f0) ((rd_T60 l0 (ji16)).f1) ((rd_T60 l0 (ji16)).f2) = some r) ∧ Aside0 (kq ≤ kj35) ∧ Aside0 (Kd.R k60 60 wc w0.heap.size (fun k_ => (P0_ k_ ∨ w.heap.size ≤ k_) ∧ k_ ≠ gb165 ∧ k_ ≠ gb170) (.slice (some ad169) l0.length co5) l0) ∧ Aside0 (wc.heap[gb165]? = some (.cells #[.int .i64 a1_0, .string a1_1, .string a1_2] 60 (0, 0))) ∧ Aside0 (wc.heap[gb170]? = some (.cells #[.int .i64 ((rd_T60 l0 (ji16)).f0), .string ((rd_T60 l0 (ji16)).f1), .string ((rd_T60 l0 (ji16)).f2)] 60 (0, 0))) ∧ Aside0 (Kept w wc (fun k_ => P0_ k_)) ∧ Aside0 (Below w0.heap.size w0 wc))
 case first =>
  have H := HC51.out
  clear HC51
  by_cases c52 : a1_1.toList = ([] : List UInt8)
  ·rw [if_pos c52] at H
   obtain ⟨c52b0, c52b1⟩ := pE c52
   try have c52e : a1_1.toList.isEmpty = true := List.isEmpty_iff.mpr c52
   clear c52
   (first | rw [c52b0] | (simp only [i64_w, i32_w]; rw [c52b0]) | rw [c52e] | skip)
   have H' := aM H
   clear H
   have hnb53 := NB165_170.out
   have hnc53 := NB170_165.out
   obtain ⟨hcz54_0, hcz54_1, hcz54_2, hfz54_0, hfz54_1, hfz54_2⟩ := bx3 BK165.out
   go_wp2
   go_meet
   case rel => exact ⟨_, (false), aP19, H', ⟨by have := HJ2.out; have := HJ18.out; have := HJ35.out; first | omega | exact Nat.le_refl _⟩, ⟨rR HO_0.out⟩, ⟨kK BK165.out⟩, ⟨kK BK170.out⟩, ⟨aP3⟩, ⟨aP4⟩⟩
  rw [if_neg c52] at H
  obtain ⟨c52b0, c52b1⟩ := nE c52
  try have c52e : a1_1.toList.isEmpty = false := List.isEmpty_eq_false_iff.mpr c52
  (first | rw [c52b0] | (simp only [i64_w, i32_w]; rw [c52b0]) | rw [c52e] | skip)
  have H' := aM H
  clear H
  have hnb55 := NB165_170.out
  have hnc55 := NB170_165.out
  obtain ⟨hcz56_0, hcz56_1, hcz56_2, hfz56_0, hfz56_1, hfz56_2⟩ := bx3 BK165.out
  obtain ⟨hcz57_0, hcz57_1, hcz57_2, hfz57_0, hfz57_1, hfz57_2⟩ := bx3 BK170.out
  go_wp2
  go_meet
  case rel => exact ⟨_, ((((rd_T60 l0 (ji16)).f1).toList != ([] : List UInt8))), aP30, aP37, ⟨by have := HJ2.out; have := HJ18.out; have := HJ35.out; first | omega | exact Nat.le_refl _⟩, ⟨rR HO_0.out⟩, ⟨kK BK165.out⟩, ⟨kK BK170.out⟩, ⟨aP3⟩, ⟨aP4⟩⟩
 clear HC51
 try clear c11
 try clear c12
 try clear c12b0
 try clear c12b1
 try clear c12b2
 try clear c17b0
 try clear c18b0
 try clear c29
 try clear c43
 try clear hcz22_0
 try clear hcz22_1
 try clear hcz22_2
 try clear hfz22_0
 try clear hfz22_1
 try clear hfz22_2
 try clear hx169_0
 try clear hx169_1
 try clear hx169_2
 try clear p169
 try clear q169
 obtain ⟨kq, x80_50, rfl, HA, HJ50, HO_0, BK165, BK170, HK, HB⟩ := hcut
 cases kq with
 | zero => exact absurd HA.out (by simp [jA.j3])
 | succ kj50 => ?_
 have H := HA.out
 clear HA
 simp only [jA.j3] at H
 by_cases c58 : x80_50 = true
 ·subst c58
  rw [if_pos rfl] at H
  replace H : (if 0 ≤ (ji16) then (if (ji16) < (l0.length : Int) then (if ((rd_T60 l0 (ji16)).f1).size + a1_1.size ≤ 9223372036854775807 then (some (l0.set ((ji16) : Int).toNat (⟨(rd_T60 l0 (ji16)).f0, ((rd_T60 l0 (ji16)).f1) ++ a1_1, (rd_T60 l0 (ji16)).f2⟩ : S60))) else (none)) else (none)) else (none)) = some r := by first | (rw [hji16] at H; exact H) | (simp only [hji16] at H ⊢; exact H)
  obtain ⟨c60b0, H⟩ := gB H
  obtain ⟨c61b0, H⟩ := gB H
  obtain ⟨c62, H⟩ := gD H
  have c62b0 := eq_true c62
  have c62b1 : decide (((rd_T60 l0 (ji16)).f1).size + a1_1.size ≤ 9223372036854775807) = true := decide_eq_true c62
  try have c62b2 : (9223372036854775807 < ((rd_T60 l0 (ji16)).f1).size + a1_1.size) = False := eq_false (Nat.not_lt.2 c62)
  (try replace H := bS H)
  generalize Ny176 : (l0.set ((ji16) : Int).toNat (⟨(rd_T60 l0 (ji16)).f0, ((rd_T60 l0 (ji16)).f1) ++ a1_1, (rd_T60 l0 (ji16)).f2⟩ : S60)) = y176 at H
  replace Ny176 := aM Ny176.symm
  obtain rfl := Option.some.inj H
  try go_wp2
  replace HO_0 := aM (Kd.R_drew HO_0.out)
  replace BK165 := aM (blk_drew BK165.out)
  replace BK170 := aM (blk_drew BK170.out)
  replace HK := aM (Kept.drew HK.out)
  replace HB := aM (below_drew1 HB.out)
  obtain ⟨ad175, e175, p175, q175, hx175_0, hx175_1, hx175_2⟩ := xT HO_0.out (ji16)
  (first | obtain rfl : ad169 = ad175 := (by injection e175) | cases e175)
  have p63 : 0 ≤ ((ji16) : Int) := of_decide_eq_true (by assumption)
  have q63 : ((ji16) : Int) < ((l0.length : Int) : Int) := of_decide_eq_true (by assumption)
  obtain ⟨go63, co63, eo63, gb63, gl63, cl63, HG63⟩ := Kd.R_form HO_0.out (by omega)
  (first | cases eo63 | (injection eo63 with ea_ en_ ec_; (first | subst ea_ | (injection ea_ with ea_; subst ea_)); subst ec_; clear en_))
  have GB63 := aM gb63
  have GG63 := aM HG63
  clear gb63 gl63 HG63
  have HMgo63 := aM (show (P0_ go63 ∨ w.heap.size ≤ go63) from (HO_0.out.1 _ rfl).1)
  (first | simp only [add_plain] at hx175_0 | skip)
  (first | simp only [add_plain] at hx175_1 | skip)
  (first | simp only [add_plain] at hx175_2 | skip)
  obtain ⟨ce63, hcl63, hM63, hcc63, hfr63⟩ := Kd.R_elem HO_0.out z60 ((ji16) : Int) p63 q63
  obtain rfl := k60_openM hM63
  have hx63_0 : World.cell? _ ⟨go63, ((ji16) : Int).toNat * 3, none⟩ = some (.int .i64 ((rd_T60 l0 (ji16)).f0)) := hcc63 0 _ rfl
  have hx63_1 : World.cell? _ ⟨go63, ((ji16) : Int).toNat * 3 + 1, none⟩ = some (.string ((rd_T60 l0 (ji16)).f1)) := hcc63 1 _ rfl
  have hx63_2 : World.cell? _ ⟨go63, ((ji16) : Int).toNat * 3 + 2, none⟩ = some (.string ((rd_T60 l0 (ji16)).f2)) := hcc63 2 _ rfl
  have hf63_0 : World.frozen? _ ⟨go63, ((ji16) : Int).toNat * 3, none⟩ = false := hfr63 0
  have hf63_1 : World.frozen? _ ⟨go63, ((ji16) : Int).toNat * 3 + 1, none⟩ = false := hfr63 1
  have hf63_2 : World.frozen? _ ⟨go63, ((ji16) : Int).toNat * 3 + 2, none⟩ = false := hfr63 2
  clear hcl63 hcc63 hfr63 hM63
  replace p63 := eq_true p63
  replace q63 := eq_true q63
  obtain ⟨ce65, hcl65, hM65, hcc65, hfr65⟩ := Kd.R_elem HO_0.out z60 ((ji16) : Int) (of_decide_eq_true (by assumption)) (by have h_ : ((ji16) : Int) < ((l0.length : Int) : Int) := of_decide_eq_true (by assumption); first | exact h_ | (have e_ := (Kd.R_reads' HO_0.out).1; omega) | simpa using h_)
  obtain rfl := k60_openM hM65
  have HP65 := (Kd.R_seg HO_0.out ((ji16) : Int) (of_decide_eq_true (by assumption)) (by have h_ : ((ji16) : Int) < ((l0.length : Int) : Int) := of_decide_eq_true (by assumption); first | exact h_ | (have e_ := (Kd.R_reads' HO_0.out).1; omega) | simpa using h_) (seg := [.string (((rd_T60 l0 (ji16)).f1) ++ a1_1)]) (j := 1) hcl65 hcc65 (show 2 ≤ 3 from by decide) (x' := (⟨(rd_T60 l0 (ji16)).f0, ((rd_T60 l0 (ji16)).f1) ++ a1_1, (rd_T60 l0 (ji16)).f2⟩ : S60)) (k60_mkM _ _ _ (⟨(rd_T60 l0 (ji16)).f0, ((rd_T60 l0 (ji16)).f1) ++ a1_1, (rd_T60 l0 (ji16)).f2⟩ : S60) ) (fun _ hk => hk)).1
  rw [← Ny176.out] at HP65
  have HQ65 := aM HP65
  clear hcl65 hcc65 hfr65 hM65 HP65
  refine start_ (n := 12) (S := fun w' => w'.cell? ⟨gb165, 0, none⟩ = some (.int .i64 a1_0) ∧ w'.cell? ⟨gb165, 1, none⟩ = some (.string a1_1) ∧ w'.cell? ⟨gb165, 2, none⟩ = some (.string a1_2) ∧ w'.cell? ⟨go63, ((ji16)).toNat * 3, none⟩ = some (.int .i64 ((rd_T60 l0 (ji16)).f0)) ∧ w'.cell? ⟨go63, ((ji16)).toNat * 3 + 1, none⟩ = some (.string ((rd_T60 l0 (ji16)).f1)) ∧ w'.cell? ⟨go63, ((ji16)).toNat * 3 + 2, none⟩ = some (.string ((rd_T60 l0 (ji16)).f2))) (ds := [11]) (Array.replicate 12 false) (by kernel_rfl) rfl rfl ⟨(blk_cell BK165.out 0).trans rfl, (blk_cell BK165.out 1).trans rfl, (blk_cell BK165.out 2).trans rfl, hx175_0, hx175_1, hx175_2⟩ (fun hHeld => ?_); refine with_tabW jA.tab13 jA.bits13 (fun HT_ HW_ => ?_)
  generalize wc.drew = w64 at HO_0 BK165 BK170 HK HB GG63 HQ65 hf63_0 hf63_1 hf63_2 hx175_0 hx175_1 hx175_2 hx63_0 hx63_1 hx63_2 hHeld ⊢
  refine pV 0 89 (bN 12 1) ?_
  refine pV 1 90 (bN 12 3) ?_
  refine pV 2 91 (bN 12 7) ?_
  refine pV 3 92 (bN 12 15) ?_
  refine pV 4 93 (bN 12 31) ?_
  refine pV 6 95 (bN 12 95) ?_
  refine tV6 5 94 (bN 12 127) ?_
  refine tV6 7 96 (bN 12 255) ?_
  refine pV 8 97 (bN 12 511) ?_
  refine pV 9 98 (bN 12 1023) ?_
  refine pV 10 99 (bN 12 2047) ?_
  refine last_ (i := 11) (N := none) (bN 12 4095) rfl rfl (one_of HT_.out (by kernel_rfl)) (by decide) (fun K hK => ?_)
  refine skip_ (w1 := ?_) (by rfl) rfl ?_ ?_
  rotate_left
  ·go_simp
   rfl
  refine hK.out _ _ ?_
  clear hK K
  refine done_ (done_of HT_.out (by kernel_rfl)) ?_
  try go_wp2
  go_ret
  exact ⟨_, by first | rfl | (simp [errW_none, errW_some] <;> rfl) | (simp only [← hji16, ← hji16]; first | rfl | (simp [errW_none, errW_some] <;> rfl)) | (simp [*, errW_none, errW_some] <;> rfl), wR HQ65.out, by repeat (first | (with_reducible first | exact HB.out | apply below_alloc | apply pw_below_drewN | apply below_drew1 | refine below_set ?_ GB63.out | refine below_set ?_ GE165.out | refine below_set ?_ GE170.out) | exact HB.out), by repeat (first | (with_reducible first | exact HK.out | apply Kept.alloc | apply Kept.drewN | apply Kept.drew | refine Kept.setCell ?_ HMgo63.out _ | refine Kept.setCell ?_ (.inr GW165.out) _ | refine Kept.setCell ?_ (.inr GW170.out) _) | exact HK.out)⟩
 replace c58 := Bool.eq_false_iff.mpr c58
 subst c58
 replace H := fF H
 have HC66 := aM H
 clear H
 go_upto_region 14 with (fail)
 go_cut [100] (fun v100 wc => ∃ (kq : Nat) (x100_65 : Bool), v100 = .bool x100_65 ∧ Aside0 (jA.j4 kq l0 (l0.length : Int) x100_65 a1_0 a1_1 a1_2 ((rd_T60 l0 (ji16)).f0) ((rd_T60 l0 (ji16)).f1) ((rd_T60 l0 (ji16)).f2) = some r) ∧ Aside0 (kq ≤ kj50) ∧ Aside0 (Kd.R k60 60 wc w0.heap.size (fun k_ => (P0_ k_ ∨ w.heap.size ≤ k_) ∧ k_ ≠ gb165 ∧ k_ ≠ gb170) (.slice (some ad169) l0.length co5) l0) ∧ Aside0 (wc.heap[gb165]? = some (.cells #[.int .i64 a1_0, .string a1_1, .string a1_2] 60 (0, 0))) ∧ Aside0 (wc.heap[gb170]? = some (.cells #[.int .i64 ((rd_T60 l0 (ji16)).f0), .string ((rd_T60 l0 (ji16)).f1), .string ((rd_T60 l0 (ji16)).f2)] 60 (0, 0))) ∧ Aside0 (Kept w wc (fun k_ => P0_ k_)) ∧ Aside0 (Below w0.heap.size w0 wc))
 case first =>
  have H := HC66.out
  clear HC66
  by_cases c67 : a1_1.toList = ([] : List UInt8)
  ·rw [if_pos c67] at H
   obtain ⟨c67b0, c67b1⟩ := pE c67
   try have c67e : a1_1.toList.isEmpty = true := List.isEmpty_iff.mpr c67
   clear c67
   (first | rw [c67b0] | (simp only [i64_w, i32_w]; rw [c67b0]) | rw [c67e] | skip)
   have H' := aM H
   clear H
   have hnb68 := NB165_170.out
   have hnc68 := NB170_165.out
   obtain ⟨hcz69_0, hcz69_1, hcz69_2, hfz69_0, hfz69_1, hfz69_2⟩ := bx3 BK165.out
   go_wp2
   go_meet
   case rel => exact ⟨_, (false), aP19, H', ⟨by have := HJ2.out; have := HJ18.out; have := HJ35.out; have := HJ50.out; first | omega | exact Nat.le_refl _⟩, ⟨rR HO_0.out⟩, ⟨kK BK165.out⟩, ⟨kK BK170.out⟩, ⟨aP3⟩, ⟨aP4⟩⟩
  rw [if_neg c67] at H
  obtain ⟨c67b0, c67b1⟩ := nE c67
  try have c67e : a1_1.toList.isEmpty = false := List.isEmpty_eq_false_iff.mpr c67
  (first | rw [c67b0] | (simp only [i64_w, i32_w]; rw [c67b0]) | rw [c67e] | skip)
  have H' := aM H
  clear H
  have hnb70 := NB165_170.out
  have hnc70 := NB170_165.out
  obtain ⟨hcz71_0, hcz71_1, hcz71_2, hfz71_0, hfz71_1, hfz71_2⟩ := bx3 BK165.out
  obtain ⟨hcz72_0, hcz72_1, hcz72_2, hfz72_0, hfz72_1, hfz72_2⟩ := bx3 BK170.out
  go_wp2
  go_meet
  case rel => exact ⟨_, ((((rd_T60 l0 (ji16)).f2).toList != ([] : List UInt8))), aP30, aP37, ⟨by have := HJ2.out; have := HJ18.out; have := HJ35.out; have := HJ50.out; first | omega | exact Nat.le_refl _⟩, ⟨rR HO_0.out⟩, ⟨kK BK165.out⟩, ⟨kK BK170.out⟩, ⟨aP3⟩, ⟨aP4⟩⟩
 clear HC66
 try clear c11
 try clear c12
 try clear c12b0
 try clear c12b1
 try clear c12b2
 try clear c17b0
 try clear c18b0
 try clear c29
 try clear c43
 try clear c58
 try clear hcz22_0
 try clear hcz22_1
 try clear hcz22_2
 try clear hfz22_0
 try clear hfz22_1
 try clear hfz22_2
 try clear hx169_0
 try clear hx169_1
 try clear hx169_2
 try clear p169
 try clear q169
 obtain ⟨kq, x100_65, rfl, HA, HJ65, HO_0, BK165, BK170, HK, HB⟩ := hcut
 cases kq with
 | zero => exact absurd HA.out (by simp [jA.j4])
 | succ kj65 => ?_
 have H := HA.out
 clear HA
 simp only [jA.j4] at H
 by_cases c73 : x100_65 = true
 rotate_left
 ·replace c73 := Bool.eq_false_iff.mpr c73
  subst c73
  replace H := fF H
  obtain ⟨LMc105, H⟩ := gA H
  (try replace H := bS H)
  generalize Ny188 : (l0 ++ [(⟨a1_0, a1_1, a1_2⟩ : S60)]) = y188 at H
  replace Ny188 := aM Ny188.symm
  obtain rfl := Option.some.inj H
  have hnb106 := NB165_170.out
  have hnc106 := NB170_165.out
  obtain ⟨hcz107_0, hcz107_1, hcz107_2, hfz107_0, hfz107_1, hfz107_2⟩ := bx3 BK165.out
  go_wp2_with ((with_reducible refine gate_builtin (b := .append) (xs := #[.tmp 36, .tmp 38]) rfl ?_); at_builtin; refine Kd.R_append k60 (w0 := w0) w0.heap.size rfl (.tmp 36) (.tmp 38) 26 60 (.agg #[(.int .i64 0), (.string ⟨#[]⟩), (.string ⟨#[]⟩)]) 40 rfl Try.underlying26 info60 rfl (by decide) (by omega) (.slice (some ad169) l0.length co5) l0 (⟨a1_0, a1_1, a1_2⟩ : S60) [.int .i64 a1_0, .string a1_1, .string a1_2] (fun k_ => (P0_ k_ ∨ w.heap.size ≤ k_) ∧ k_ ≠ gb165 ∧ k_ ≠ gb170) (fun _ => False) rfl rfl ?aP (fun _ hk => hk.elim) ?aF ?aO ?aB ?aS ?aL ?_; (case aP => exact k60_mkM _ _ _ (⟨a1_0, a1_1, a1_2⟩ : S60)); (case aB => exact aP4); (case aF => exact (fun k_ hk => ⟨(.inr (Nat.le_trans (by first | exact HK.out.1 | exact (show Kept w _ (fun k_ => P0_ k_) from aP3).1) hk)), Kd.freshB (g := gb165) (o := .cells #[.int .i64 a1_0, .string a1_1, .string a1_2] 60 (0, 0)) (kK BK165.out) k_ hk, Kd.freshB (g := gb170) (o := .cells #[.int .i64 ((rd_T60 l0 (ji16)).f0), .string ((rd_T60 l0 (ji16)).f1), .string ((rd_T60 l0 (ji16)).f2)] 60 (0, 0)) (kK BK170.out) k_ hk⟩)); (case aO => exact (rR HO_0.out)); (case aS => exact (below_size aP4)); (case aL => have := LMc105.out; omega); intro v189 w108 ho hb hg hat; rw [← Ny188.out] at ho; have HO190 := aM (ho); replace BK165 := aM (blk_grown (g := gb165) (o := .cells #[.int .i64 a1_0, .string a1_1, .string a1_2] 60 (0, 0)) (kK BK165.out) hg (Kd.R_away HO_0.out (fun _ hk => hk.2.1))); replace BK170 := aM (blk_grown (g := gb170) (o := .cells #[.int .i64 ((rd_T60 l0 (ji16)).f0), .string ((rd_T60 l0 (ji16)).f1), .string ((rd_T60 l0 (ji16)).f2)] 60 (0, 0)) (kK BK170.out) hg (Kd.R_away HO_0.out (fun _ hk => hk.2.2))); replace HB := aM (hb); replace HK := aM (Kept.of_grown (S := (fun k_ => P0_ k_)) hg aP3 (fun k_ e_ => (HO_0.out.1 k_ e_).1)); clear ho hb hg hat)
  go_ret
  exact ⟨_, by first | rfl | (simp [errW_none, errW_some] <;> rfl) | (simp only [← hji16]; first | rfl | (simp [errW_none, errW_some] <;> rfl)) | (simp [*, errW_none, errW_some] <;> rfl), wR HO190.out, by exact aP4, aP3⟩
 subst c73
 rw [if_pos rfl] at H
 by_cases c74 : (l0.length : Int) > 1
 rotate_left
 ·rw [if_neg c74] at H
  have c74b0 : decide (1 < (l0.length : Int)) = false := decide_eq_false c74
  have c74b1 : decide (1 < l0.length) = false := decide_eq_false (by omega)
  clear c74
  replace H : (if 0 ≤ (ji16) then (if (ji16) < (l0.length : Int) then ((some (l0.set ((ji16) : Int).toNat (⟨a1_0, a1_1, a1_2⟩ : S60) : List S60)).bind fun y184 => (if y184.length < 3518437208883 then (some (y184 ++ [(⟨((rd_T60 l0 (ji16)).f0), ((rd_T60 l0 (ji16)).f1), ((rd_T60 l0 (ji16)).f2)⟩ : S60)])) else (none))) else (none)) else (none)) = some r := by first | (rw [hji16] at H; exact H) | (simp only [hji16] at H ⊢; exact H)
  obtain ⟨c95b0, H⟩ := gB H
  obtain ⟨c96b0, H⟩ := gB H
  (try replace H := bS H)
  generalize Ny184 : (l0.set ((ji16) : Int).toNat (⟨a1_0, a1_1, a1_2⟩ : S60)) = y184 at H
  replace Ny184 := aM Ny184.symm
  obtain ⟨LMc98, H⟩ := gA H
  (try replace H := bS H)
  generalize Ny185 : (y184 ++ [(⟨((rd_T60 l0 (ji16)).f0), ((rd_T60 l0 (ji16)).f1), ((rd_T60 l0 (ji16)).f2)⟩ : S60)]) = y185 at H
  replace Ny185 := aM Ny185.symm
  obtain rfl := Option.some.inj H
  have hnb99 := NB165_170.out
  have hnc99 := NB170_165.out
  obtain ⟨hcz100_0, hcz100_1, hcz100_2, hfz100_0, hfz100_1, hfz100_2⟩ := bx3 BK165.out
  have p97 : 0 ≤ ((ji16) : Int) := of_decide_eq_true (by assumption)
  have q97 : ((ji16) : Int) < ((l0.length : Int) : Int) := of_decide_eq_true (by assumption)
  obtain ⟨go97, co97, eo97, gb97, gl97, cl97, HG97⟩ := Kd.R_form HO_0.out (by omega)
  (first | cases eo97 | (injection eo97 with ea_ en_ ec_; (first | subst ea_ | (injection ea_ with ea_; subst ea_)); subst ec_; clear en_))
  have GB97 := aM gb97
  have GG97 := aM HG97
  clear gb97 gl97 HG97
  have HMgo97 := aM (show (P0_ go97 ∨ w.heap.size ≤ go97) from (HO_0.out.1 _ rfl).1)
  obtain ⟨ce97, hcl97, hM97, hcc97, hfr97⟩ := Kd.R_elem HO_0.out z60 ((ji16) : Int) p97 q97
  obtain rfl := k60_openM hM97
  have hx97_0 : wc.cell? ⟨go97, ((ji16) : Int).toNat * 3, none⟩ = some (.int .i64 ((rd_T60 l0 (ji16)).f0)) := hcc97 0 _ rfl
  have hx97_1 : wc.cell? ⟨go97, ((ji16) : Int).toNat * 3 + 1, none⟩ = some (.string ((rd_T60 l0 (ji16)).f1)) := hcc97 1 _ rfl
  have hx97_2 : wc.cell? ⟨go97, ((ji16) : Int).toNat * 3 + 2, none⟩ = some (.string ((rd_T60 l0 (ji16)).f2)) := hcc97 2 _ rfl
  have hf97_0 : wc.frozen? ⟨go97, ((ji16) : Int).toNat * 3, none⟩ = false := hfr97 0
  have hf97_1 : wc.frozen? ⟨go97, ((ji16) : Int).toNat * 3 + 1, none⟩ = false := hfr97 1
  have hf97_2 : wc.frozen? ⟨go97, ((ji16) : Int).toNat * 3 + 2, none⟩ = false := hfr97 2
  clear hcl97 hcc97 hfr97 hM97
  replace p97 := eq_true p97
  replace q97 := eq_true q97
  have HX101 := aM (show Kd.R k60 60 wc w0.heap.size (fun k_ => (P0_ k_ ∨ w.heap.size ≤ k_) ∧ k_ ≠ gb165 ∧ k_ ≠ gb170) (.slice (some ⟨go97, 0, none⟩) l0.length co5) l0 from (rR HO_0.out))
  obtain ⟨ce101, hcl101, hM101, hcc101, hfr101⟩ := Kd.R_elem HX101.out z60 ((ji16) : Int) (of_decide_eq_true (by assumption)) (by have h_ : ((ji16) : Int) < ((l0.length : Int) : Int) := of_decide_eq_true (by assumption); first | exact h_ | (have e_ := (Kd.R_reads' HO_0.out).1; omega) | simpa using h_)
  obtain rfl := k60_openM hM101
  have HP101 := Kd.R_seg HX101.out ((ji16) : Int) (of_decide_eq_true (by assumption)) (by have h_ : ((ji16) : Int) < ((l0.length : Int) : Int) := of_decide_eq_true (by assumption); first | exact h_ | (have e_ := (Kd.R_reads' HO_0.out).1; omega) | simpa using h_) (seg := [.int .i64 a1_0, .string a1_1, .string a1_2]) (j := 0) hcl101 hcc101 (show 3 ≤ 3 from by decide) (x' := (⟨a1_0, a1_1, a1_2⟩ : S60)) (k60_mkM _ _ _ (⟨a1_0, a1_1, a1_2⟩ : S60) ) (fun _ hk => hk)
  have hx101_0 := hcc101 0 _ rfl
  (try simp only [show (k60).sz = 3 from rfl, Nat.mul_one, Nat.add_zero] at hx101_0)
  have hf101_0 := hfr101 0
  (try simp only [show (k60).sz = 3 from rfl, Nat.mul_one, Nat.add_zero] at hf101_0)
  have hx101_1 := hcc101 1 _ rfl
  (try simp only [show (k60).sz = 3 from rfl, Nat.mul_one, Nat.add_zero] at hx101_1)
  have hf101_1 := hfr101 1
  (try simp only [show (k60).sz = 3 from rfl, Nat.mul_one, Nat.add_zero] at hf101_1)
  have hx101_2 := hcc101 2 _ rfl
  (try simp only [show (k60).sz = 3 from rfl, Nat.mul_one, Nat.add_zero] at hx101_2)
  have hf101_2 := hfr101 2
  (try simp only [show (k60).sz = 3 from rfl, Nat.mul_one, Nat.add_zero] at hf101_2)
  clear hcl101 hcc101 hfr101 hM101
  go_wp2_with (first | ((with_reducible refine gate_store (t := 60) (p := 136) rfl ?_); refine store_event (t := 60) (p := 136) (v := ?vo_w102) (w1 := (((wc.setCell ⟨go97, ((ji16) : Int).toNat * 3, none⟩ (.int .i64 a1_0)).setCell ⟨go97, ((ji16) : Int).toNat * 3 + 1, none⟩ (.string a1_1)).setCell ⟨go97, ((ji16) : Int).toNat * 3 + 2, none⟩ (.string a1_2))) ?hg ?ho ?hn ?hr ?_; (case ho => rfl); (case hg => rfl); (case hn => rfl); (case hr => exact aP38); intro w102 hw; have hg : wc.grownBy w102 (some go97) := (by rw [hw]; exact HP101.2); have hp_ : Kd.R k60 60 w102 w0.heap.size (fun k_ => (P0_ k_ ∨ w.heap.size ≤ k_) ∧ k_ ≠ gb165 ∧ k_ ≠ gb170) (.slice (some ⟨go97, 0, none⟩) l0.length co5) y184 := (by rw [hw, Ny184.out]; exact HP101.1); clear HP101; have n0_ := aM (hp_); have n1_ := aM (blk_grown (g := gb165) (o := .cells #[.int .i64 a1_0, .string a1_1, .string a1_2] 60 (0, 0)) (kK BK165.out) hg (Kd.R_away HO_0.out (fun _ hk => hk.2.1))); have n2_ := aM (blk_grown (g := gb170) (o := .cells #[.int .i64 ((rd_T60 l0 (ji16)).f0), .string ((rd_T60 l0 (ji16)).f1), .string ((rd_T60 l0 (ji16)).f2)] 60 (0, 0)) (kK BK170.out) hg (Kd.R_away HO_0.out (fun _ hk => hk.2.2))); have n3_ := aM ((by rw [hw]; exact below_set (below_set (below_set (HB.out) GB97.out) GB97.out) GB97.out : Below w0.heap.size w0 w102)); have n4_ := aM (Kept.of_grown (S := (fun k_ => P0_ k_)) hg aP3 (fun k_ e_ => (HO_0.out.1 k_ e_).1)); clear HO_0; clear BK165; clear BK170; clear HB; clear HK; have HO_0 := n0_; have BK165 := n1_; have BK170 := n2_; have HB := n3_; have HK := n4_; clear n0_ n1_ n2_ n3_ n4_; clear hg hw hp_; have hcz103_0 : w102.cell? ⟨gb170, 0, none⟩ = some (.int .i64 ((rd_T60 l0 (ji16)).f0)) := (blk_cell BK170.out 0).trans rfl; have hcz103_1 : w102.cell? ⟨gb170, 1, none⟩ = some (.string ((rd_T60 l0 (ji16)).f1)) := (blk_cell BK170.out 1).trans rfl; have hcz103_2 : w102.cell? ⟨gb170, 2, none⟩ = some (.string ((rd_T60 l0 (ji16)).f2)) := (blk_cell BK170.out 2).trans rfl; have hfz103_0 := blk_frozen BK170.out 0; have hfz103_1 := blk_frozen BK170.out 1; have hfz103_2 := blk_frozen BK170.out 2) | ((with_reducible refine gate_builtin (b := .append) (xs := #[.tmp 137, .tmp 139]) rfl ?_); at_builtin; refine Kd.R_append k60 (w0 := w0) w0.heap.size rfl (.tmp 137) (.tmp 139) 26 60 (.agg #[(.int .i64 0), (.string ⟨#[]⟩), (.string ⟨#[]⟩)]) 40 rfl Try.underlying26 info60 rfl (by decide) (by omega) (.slice (some ⟨go97, 0, none⟩) l0.length co5) y184 (⟨((rd_T60 l0 (ji16)).f0), ((rd_T60 l0 (ji16)).f1), ((rd_T60 l0 (ji16)).f2)⟩ : S60) [.int .i64 ((rd_T60 l0 (ji16)).f0), .string ((rd_T60 l0 (ji16)).f1), .string ((rd_T60 l0 (ji16)).f2)] (fun k_ => (P0_ k_ ∨ w.heap.size ≤ k_) ∧ k_ ≠ gb165 ∧ k_ ≠ gb170) (fun _ => False) rfl rfl ?aP (fun _ hk => hk.elim) ?aF ?aO ?aB ?aS ?aL ?_; (case aP => exact k60_mkM _ _ _ (⟨((rd_T60 l0 (ji16)).f0), ((rd_T60 l0 (ji16)).f1), ((rd_T60 l0 (ji16)).f2)⟩ : S60)); (case aB => exact aP4); (case aF => exact (fun k_ hk => ⟨(.inr (Nat.le_trans (by first | exact HK.out.1 | exact (show Kept w _ (fun k_ => P0_ k_) from aP3).1) hk)), Kd.freshB (g := gb165) (o := .cells #[.int .i64 a1_0, .string a1_1, .string a1_2] 60 (0, 0)) (kK BK165.out) k_ hk, Kd.freshB (g := gb170) (o := .cells #[.int .i64 ((rd_T60 l0 (ji16)).f0), .string ((rd_T60 l0 (ji16)).f1), .string ((rd_T60 l0 (ji16)).f2)] 60 (0, 0)) (kK BK170.out) k_ hk⟩)); (case aO => exact (rR HO_0.out)); (case aS => exact (below_size aP4)); (case aL => have := LMc98.out; omega); intro v186 w104 ho hb hg hat; rw [← Ny185.out] at ho; have HO187 := aM (ho); replace BK165 := aM (blk_grown (g := gb165) (o := .cells #[.int .i64 a1_0, .string a1_1, .string a1_2] 60 (0, 0)) (kK BK165.out) hg (Kd.R_away HO_0.out (fun _ hk => hk.2.1))); replace BK170 := aM (blk_grown (g := gb170) (o := .cells #[.int .i64 ((rd_T60 l0 (ji16)).f0), .string ((rd_T60 l0 (ji16)).f1), .string ((rd_T60 l0 (ji16)).f2)] 60 (0, 0)) (kK BK170.out) hg (Kd.R_away HO_0.out (fun _ hk => hk.2.2))); replace HB := aM (hb); replace HK := aM (Kept.of_grown (S := (fun k_ => P0_ k_)) hg aP3 (fun k_ e_ => (HO_0.out.1 k_ e_).1)); clear ho hb hg hat))
  go_ret
  exact ⟨_, by first | rfl | (simp [errW_none, errW_some] <;> rfl) | (simp only [← hji16, ← hji16]; first | rfl | (simp [errW_none, errW_some] <;> rfl)) | (simp [*, errW_none, errW_some] <;> rfl), wR HO187.out, by exact aP4, aP3⟩
 rw [if_pos c74] at H
 have c74b0 : decide (1 < (l0.length : Int)) = true := decide_eq_true c74
 have c74b1 : decide (1 < l0.length) = true := decide_eq_true (by omega)
 clear c74
 generalize hji75 : (wrap64 ((l0.length : Int) - 2)) = ji75 at H
 have hji75w : (IntKind.i64.wrap ((l0.length : Int) - 2)) = ji75 := (i64_w _).trans hji75
 obtain ⟨c76b0, H⟩ := gB H
 obtain ⟨c77b0, H⟩ := gB H
 by_cases c78 : ((rd_T60 l0 (ji75)).f1).toList = ([] : List UInt8)
 ·rw [if_pos c78] at H
  obtain ⟨c78b0, c78b1⟩ := pE c78
  try have c78e : ((rd_T60 l0 (ji75)).f1).toList.isEmpty = true := List.isEmpty_iff.mpr c78
  clear c78
  replace H : (if 0 ≤ (ji16) then (if (ji16) < (l0.length : Int) then ((some (l0.set ((ji16) : Int).toNat (⟨a1_0, a1_1, a1_2⟩ : S60) : List S60)).bind fun y178 => (if y178.length < 3518437208883 then (some (y178 ++ [(⟨((rd_T60 l0 (ji16)).f0), ((rd_T60 l0 (ji16)).f1), ((rd_T60 l0 (ji16)).f2)⟩ : S60)])) else (none))) else (none)) else (none)) = some r := by first | (rw [hji16] at H; exact H) | (simp only [hji16] at H ⊢; exact H)
  obtain ⟨c80b0, H⟩ := gB H
  obtain ⟨c81b0, H⟩ := gB H
  (try replace H := bS H)
  generalize Ny178 : (l0.set ((ji16) : Int).toNat (⟨a1_0, a1_1, a1_2⟩ : S60)) = y178 at H
  replace Ny178 := aM Ny178.symm
  obtain ⟨LMc83, H⟩ := gA H
  (try replace H := bS H)
  generalize Ny179 : (y178 ++ [(⟨((rd_T60 l0 (ji16)).f0), ((rd_T60 l0 (ji16)).f1), ((rd_T60 l0 (ji16)).f2)⟩ : S60)]) = y179 at H
  replace Ny179 := aM Ny179.symm
  obtain rfl := Option.some.inj H
  obtain ⟨ad177, e177, p177, q177, hx177_0, hx177_1, hx177_2⟩ := xT HO_0.out (ji75)
  (first | obtain rfl : ad169 = ad177 := (by injection e177) | cases e177)
  have hnb84 := NB165_170.out
  have hnc84 := NB170_165.out
  obtain ⟨hcz85_0, hcz85_1, hcz85_2, hfz85_0, hfz85_1, hfz85_2⟩ := bx3 BK165.out
  have p82 : 0 ≤ ((ji16) : Int) := of_decide_eq_true (by assumption)
  have q82 : ((ji16) : Int) < ((l0.length : Int) : Int) := of_decide_eq_true (by assumption)
  obtain ⟨go82, co82, eo82, gb82, gl82, cl82, HG82⟩ := Kd.R_form HO_0.out (by omega)
  (first | cases eo82 | (injection eo82 with ea_ en_ ec_; (first | subst ea_ | (injection ea_ with ea_; subst ea_)); subst ec_; clear en_))
  have GB82 := aM gb82
  have GG82 := aM HG82
  clear gb82 gl82 HG82
  have HMgo82 := aM (show (P0_ go82 ∨ w.heap.size ≤ go82) from (HO_0.out.1 _ rfl).1)
  (first | simp only [add_plain] at hx177_0 | skip)
  (first | simp only [add_plain] at hx177_1 | skip)
  (first | simp only [add_plain] at hx177_2 | skip)
  obtain ⟨ce82, hcl82, hM82, hcc82, hfr82⟩ := Kd.R_elem HO_0.out z60 ((ji16) : Int) p82 q82
  obtain rfl := k60_openM hM82
  have hx82_0 : wc.cell? ⟨go82, ((ji16) : Int).toNat * 3, none⟩ = some (.int .i64 ((rd_T60 l0 (ji16)).f0)) := hcc82 0 _ rfl
  have hx82_1 : wc.cell? ⟨go82, ((ji16) : Int).toNat * 3 + 1, none⟩ = some (.string ((rd_T60 l0 (ji16)).f1)) := hcc82 1 _ rfl
  have hx82_2 : wc.cell? ⟨go82, ((ji16) : Int).toNat * 3 + 2, none⟩ = some (.string ((rd_T60 l0 (ji16)).f2)) := hcc82 2 _ rfl
  have hf82_0 : wc.frozen? ⟨go82, ((ji16) : Int).toNat * 3, none⟩ = false := hfr82 0
  have hf82_1 : wc.frozen? ⟨go82, ((ji16) : Int).toNat * 3 + 1, none⟩ = false := hfr82 1
  have hf82_2 : wc.frozen? ⟨go82, ((ji16) : Int).toNat * 3 + 2, none⟩ = false := hfr82 2
  clear hcl82 hcc82 hfr82 hM82
  replace p82 := eq_true p82
  replace q82 := eq_true q82
  have HX86 := aM (show Kd.R k60 60 wc w0.heap.size (fun k_ => (P0_ k_ ∨ w.heap.size ≤ k_) ∧ k_ ≠ gb165 ∧ k_ ≠ gb170) (.slice (some ⟨go82, 0, none⟩) l0.length co5) l0 from (rR HO_0.out))
  obtain ⟨ce86, hcl86, hM86, hcc86, hfr86⟩ := Kd.R_elem HX86.out z60 ((ji16) : Int) (of_decide_eq_true (by assumption)) (by have h_ : ((ji16) : Int) < ((l0.length : Int) : Int) := of_decide_eq_true (by assumption); first | exact h_ | (have e_ := (Kd.R_reads' HO_0.out).1; omega) | simpa using h_)
  obtain rfl := k60_openM hM86
  have HP86 := Kd.R_seg HX86.out ((ji16) : Int) (of_decide_eq_true (by assumption)) (by have h_ : ((ji16) : Int) < ((l0.length : Int) : Int) := of_decide_eq_true (by assumption); first | exact h_ | (have e_ := (Kd.R_reads' HO_0.out).1; omega) | simpa using h_) (seg := [.int .i64 a1_0, .string a1_1, .string a1_2]) (j := 0) hcl86 hcc86 (show 3 ≤ 3 from by decide) (x' := (⟨a1_0, a1_1, a1_2⟩ : S60)) (k60_mkM _ _ _ (⟨a1_0, a1_1, a1_2⟩ : S60) ) (fun _ hk => hk)
  have hx86_0 := hcc86 0 _ rfl
  (try simp only [show (k60).sz = 3 from rfl, Nat.mul_one, Nat.add_zero] at hx86_0)
  have hf86_0 := hfr86 0
  (try simp only [show (k60).sz = 3 from rfl, Nat.mul_one, Nat.add_zero] at hf86_0)
  have hx86_1 := hcc86 1 _ rfl
  (try simp only [show (k60).sz = 3 from rfl, Nat.mul_one, Nat.add_zero] at hx86_1)
  have hf86_1 := hfr86 1
  (try simp only [show (k60).sz = 3 from rfl, Nat.mul_one, Nat.add_zero] at hf86_1)
  have hx86_2 := hcc86 2 _ rfl
  (try simp only [show (k60).sz = 3 from rfl, Nat.mul_one, Nat.add_zero] at hx86_2)
  have hf86_2 := hfr86 2
  (try simp only [show (k60).sz = 3 from rfl, Nat.mul_one, Nat.add_zero] at hf86_2)
  clear hcl86 hcc86 hfr86 hM86
  go_wp2_with (first | ((with_reducible refine gate_store (t := 60) (p := 136) rfl ?_); refine store_event (t := 60) (p := 136) (v := ?vo_w87) (w1 := (((wc.setCell ⟨go82, ((ji16) : Int).toNat * 3, none⟩ (.int .i64 a1_0)).setCell ⟨go82, ((ji16) : Int).toNat * 3 + 1, none⟩ (.string a1_1)).setCell ⟨go82, ((ji16) : Int).toNat * 3 + 2, none⟩ (.string a1_2))) ?hg ?ho ?hn ?hr ?_; (case ho => rfl); (case hg => rfl); (case hn => rfl); (case hr => exact aP38); intro w87 hw; have hg : wc.grownBy w87 (some go82) := (by rw [hw]; exact HP86.2); have hp_ : Kd.R k60 60 w87 w0.heap.size (fun k_ => (P0_ k_ ∨ w.heap.size ≤ k_) ∧ k_ ≠ gb165 ∧ k_ ≠ gb170) (.slice (some ⟨go82, 0, none⟩) l0.length co5) y178 := (by rw [hw, Ny178.out]; exact HP86.1); clear HP86; have n0_ := aM (hp_); have n1_ := aM (blk_grown (g := gb165) (o := .cells #[.int .i64 a1_0, .string a1_1, .string a1_2] 60 (0, 0)) (kK BK165.out) hg (Kd.R_away HO_0.out (fun _ hk => hk.2.1))); have n2_ := aM (blk_grown (g := gb170) (o := .cells #[.int .i64 ((rd_T60 l0 (ji16)).f0), .string ((rd_T60 l0 (ji16)).f1), .string ((rd_T60 l0 (ji16)).f2)] 60 (0, 0)) (kK BK170.out) hg (Kd.R_away HO_0.out (fun _ hk => hk.2.2))); have n3_ := aM ((by rw [hw]; exact below_set (below_set (below_set (HB.out) GB82.out) GB82.out) GB82.out : Below w0.heap.size w0 w87)); have n4_ := aM (Kept.of_grown (S := (fun k_ => P0_ k_)) hg aP3 (fun k_ e_ => (HO_0.out.1 k_ e_).1)); clear HO_0; clear BK165; clear BK170; clear HB; clear HK; have HO_0 := n0_; have BK165 := n1_; have BK170 := n2_; have HB := n3_; have HK := n4_; clear n0_ n1_ n2_ n3_ n4_; clear hg hw hp_; have hcz88_0 : w87.cell? ⟨gb170, 0, none⟩ = some (.int .i64 ((rd_T60 l0 (ji16)).f0)) := (blk_cell BK170.out 0).trans rfl; have hcz88_1 : w87.cell? ⟨gb170, 1, none⟩ = some (.string ((rd_T60 l0 (ji16)).f1)) := (blk_cell BK170.out 1).trans rfl; have hcz88_2 : w87.cell? ⟨gb170, 2, none⟩ = some (.string ((rd_T60 l0 (ji16)).f2)) := (blk_cell BK170.out 2).trans rfl; have hfz88_0 := blk_frozen BK170.out 0; have hfz88_1 := blk_frozen BK170.out 1; have hfz88_2 := blk_frozen BK170.out 2) | ((with_reducible refine gate_builtin (b := .append) (xs := #[.tmp 137, .tmp 139]) rfl ?_); at_builtin; refine Kd.R_append k60 (w0 := w0) w0.heap.size rfl (.tmp 137) (.tmp 139) 26 60 (.agg #[(.int .i64 0), (.string ⟨#[]⟩), (.string ⟨#[]⟩)]) 40 rfl Try.underlying26 info60 rfl (by decide) (by omega) (.slice (some ⟨go82, 0, none⟩) l0.length co5) y178 (⟨((rd_T60 l0 (ji16)).f0), ((rd_T60 l0 (ji16)).f1), ((rd_T60 l0 (ji16)).f2)⟩ : S60) [.int .i64 ((rd_T60 l0 (ji16)).f0), .string ((rd_T60 l0 (ji16)).f1), .string ((rd_T60 l0 (ji16)).f2)] (fun k_ => (P0_ k_ ∨ w.heap.size ≤ k_) ∧ k_ ≠ gb165 ∧ k_ ≠ gb170) (fun _ => False) rfl rfl ?aP (fun _ hk => hk.elim) ?aF ?aO ?aB ?aS ?aL ?_; (case aP => exact k60_mkM _ _ _ (⟨((rd_T60 l0 (ji16)).f0), ((rd_T60 l0 (ji16)).f1), ((rd_T60 l0 (ji16)).f2)⟩ : S60)); (case aB => exact aP4); (case aF => exact (fun k_ hk => ⟨(.inr (Nat.le_trans (by first | exact HK.out.1 | exact (show Kept w _ (fun k_ => P0_ k_) from aP3).1) hk)), Kd.freshB (g := gb165) (o := .cells #[.int .i64 a1_0, .string a1_1, .string a1_2] 60 (0, 0)) (kK BK165.out) k_ hk, Kd.freshB (g := gb170) (o := .cells #[.int .i64 ((rd_T60 l0 (ji16)).f0), .string ((rd_T60 l0 (ji16)).f1), .string ((rd_T60 l0 (ji16)).f2)] 60 (0, 0)) (kK BK170.out) k_ hk⟩)); (case aO => exact (rR HO_0.out)); (case aS => exact (below_size aP4)); (case aL => have := LMc83.out; omega); intro v180 w89 ho hb hg hat; rw [← Ny179.out] at ho; have HO181 := aM (ho); replace BK165 := aM (blk_grown (g := gb165) (o := .cells #[.int .i64 a1_0, .string a1_1, .string a1_2] 60 (0, 0)) (kK BK165.out) hg (Kd.R_away HO_0.out (fun _ hk => hk.2.1))); replace BK170 := aM (blk_grown (g := gb170) (o := .cells #[.int .i64 ((rd_T60 l0 (ji16)).f0), .string ((rd_T60 l0 (ji16)).f1), .string ((rd_T60 l0 (ji16)).f2)] 60 (0, 0)) (kK BK170.out) hg (Kd.R_away HO_0.out (fun _ hk => hk.2.2))); replace HB := aM (hb); replace HK := aM (Kept.of_grown (S := (fun k_ => P0_ k_)) hg aP3 (fun k_ e_ => (HO_0.out.1 k_ e_).1)); clear ho hb hg hat))
  go_ret
  exact ⟨_, by first | rfl | (simp [errW_none, errW_some] <;> rfl) | (simp only [← hji16, ← hji75, ← hji16]; first | rfl | (simp [errW_none, errW_some] <;> rfl)) | (simp [*, errW_none, errW_some] <;> rfl), wR HO181.out, by exact aP4, aP3⟩
 rw [if_neg c78] at H
 obtain ⟨c78b0, c78b1⟩ := nE c78
 try have c78e : ((rd_T60 l0 (ji75)).f1).toList.isEmpty = false := List.isEmpty_eq_false_iff.mpr c78
 obtain ⟨c90, H⟩ := gD H
 have c90b0 := eq_true c90
 have c90b1 : decide (((rd_T60 l0 (ji75)).f1).size + a1_1.size ≤ 9223372036854775807) = true := decide_eq_true c90
 try have c90b2 : (9223372036854775807 < ((rd_T60 l0 (ji75)).f1).size + a1_1.size) = False := eq_false (Nat.not_lt.2 c90)
 (try replace H := bS H)
 generalize Ny183 : (l0.set ((ji75) : Int).toNat (⟨(rd_T60 l0 (ji75)).f0, ((rd_T60 l0 (ji75)).f1) ++ a1_1, (rd_T60 l0 (ji75)).f2⟩ : S60)) = y183 at H
 replace Ny183 := aM Ny183.symm
 obtain rfl := Option.some.inj H
 obtain ⟨ad177, e177, p177, q177, hx177_0, hx177_1, hx177_2⟩ := xT HO_0.out (ji75)
 (first | obtain rfl : ad169 = ad177 := (by injection e177) | cases e177)
 try go_wp2
 replace HO_0 := aM (Kd.R_drew HO_0.out)
 replace BK165 := aM (blk_drew BK165.out)
 replace BK170 := aM (blk_drew BK170.out)
 replace HK := aM (Kept.drew HK.out)
 replace HB := aM (below_drew1 HB.out)
 obtain ⟨ad182, e182, p182, q182, hx182_0, hx182_1, hx182_2⟩ := xT HO_0.out (ji75)
 (first | obtain rfl : ad169 = ad182 := (by injection e182) | cases e182)
 have p91 : 0 ≤ ((ji75) : Int) := of_decide_eq_true (by assumption)
 have q91 : ((ji75) : Int) < ((l0.length : Int) : Int) := of_decide_eq_true (by assumption)
 obtain ⟨go91, co91, eo91, gb91, gl91, cl91, HG91⟩ := Kd.R_form HO_0.out (by omega)
 (first | cases eo91 | (injection eo91 with ea_ en_ ec_; (first | subst ea_ | (injection ea_ with ea_; subst ea_)); subst ec_; clear en_))
 have GB91 := aM gb91
 have GG91 := aM HG91
 clear gb91 gl91 HG91
 have HMgo91 := aM (show (P0_ go91 ∨ w.heap.size ≤ go91) from (HO_0.out.1 _ rfl).1)
 (first | simp only [add_plain] at hx177_0 | skip)
 (first | simp only [add_plain] at hx177_1 | skip)
 (first | simp only [add_plain] at hx177_2 | skip)
 (first | simp only [add_plain] at hx182_0 | skip)
 (first | simp only [add_plain] at hx182_1 | skip)
 (first | simp only [add_plain] at hx182_2 | skip)
 obtain ⟨ce91, hcl91, hM91, hcc91, hfr91⟩ := Kd.R_elem HO_0.out z60 ((ji75) : Int) p91 q91
 obtain rfl := k60_openM hM91
 have hx91_0 : World.cell? _ ⟨go91, ((ji75) : Int).toNat * 3, none⟩ = some (.int .i64 ((rd_T60 l0 (ji75)).f0)) := hcc91 0 _ rfl
 have hx91_1 : World.cell? _ ⟨go91, ((ji75) : Int).toNat * 3 + 1, none⟩ = some (.string ((rd_T60 l0 (ji75)).f1)) := hcc91 1 _ rfl
 have hx91_2 : World.cell? _ ⟨go91, ((ji75) : Int).toNat * 3 + 2, none⟩ = some (.string ((rd_T60 l0 (ji75)).f2)) := hcc91 2 _ rfl
 have hf91_0 : World.frozen? _ ⟨go91, ((ji75) : Int).toNat * 3, none⟩ = false := hfr91 0
 have hf91_1 : World.frozen? _ ⟨go91, ((ji75) : Int).toNat * 3 + 1, none⟩ = false := hfr91 1
 have hf91_2 : World.frozen? _ ⟨go91, ((ji75) : Int).toNat * 3 + 2, none⟩ = false := hfr91 2
 clear hcl91 hcc91 hfr91 hM91
 replace p91 := eq_true p91
 replace q91 := eq_true q91
 obtain ⟨ce93, hcl93, hM93, hcc93, hfr93⟩ := Kd.R_elem HO_0.out z60 ((ji75) : Int) (of_decide_eq_true (by assumption)) (by have h_ : ((ji75) : Int) < ((l0.length : Int) : Int) := of_decide_eq_true (by assumption); first | exact h_ | (have e_ := (Kd.R_reads' HO_0.out).1; omega) | simpa using h_)
 obtain rfl := k60_openM hM93
 have HP93 := (Kd.R_seg HO_0.out ((ji75) : Int) (of_decide_eq_true (by assumption)) (by have h_ : ((ji75) : Int) < ((l0.length : Int) : Int) := of_decide_eq_true (by assumption); first | exact h_ | (have e_ := (Kd.R_reads' HO_0.out).1; omega) | simpa using h_) (seg := [.string (((rd_T60 l0 (ji75)).f1) ++ a1_1)]) (j := 1) hcl93 hcc93 (show 2 ≤ 3 from by decide) (x' := (⟨(rd_T60 l0 (ji75)).f0, ((rd_T60 l0 (ji75)).f1) ++ a1_1, (rd_T60 l0 (ji75)).f2⟩ : S60)) (k60_mkM _ _ _ (⟨(rd_T60 l0 (ji75)).f0, ((rd_T60 l0 (ji75)).f1) ++ a1_1, (rd_T60 l0 (ji75)).f2⟩ : S60) ) (fun _ hk => hk)).1
 rw [← Ny183.out] at HP93
 have HQ93 := aM HP93
 clear hcl93 hcc93 hfr93 hM93 HP93
 refine start_ (n := 12) (S := fun w' => w'.cell? ⟨gb165, 0, none⟩ = some (.int .i64 a1_0) ∧ w'.cell? ⟨gb165, 1, none⟩ = some (.string a1_1) ∧ w'.cell? ⟨gb165, 2, none⟩ = some (.string a1_2) ∧ w'.cell? ⟨go91, ((ji75)).toNat * 3, none⟩ = some (.int .i64 ((rd_T60 l0 (ji75)).f0)) ∧ w'.cell? ⟨go91, ((ji75)).toNat * 3 + 1, none⟩ = some (.string ((rd_T60 l0 (ji75)).f1)) ∧ w'.cell? ⟨go91, ((ji75)).toNat * 3 + 2, none⟩ = some (.string ((rd_T60 l0 (ji75)).f2))) (ds := [11]) (Array.replicate 12 false) (by kernel_rfl) rfl rfl ⟨(blk_cell BK165.out 0).trans rfl, (blk_cell BK165.out 1).trans rfl, (blk_cell BK165.out 2).trans rfl, hx182_0, hx182_1, hx182_2⟩ (fun hHeld => ?_); refine with_tabW jA.tab16 jA.bits16 (fun HT_ HW_ => ?_)
 (first | generalize wc.drew = w92 at HO_0 BK165 BK170 HK HB GG91 HQ93 hf91_0 hf91_1 hf91_2 hx177_0 hx177_1 hx177_2 hx182_0 hx182_1 hx182_2 hx91_0 hx91_1 hx91_2 hHeld ⊢ | generalize wc.drew = w92 at HO_0 BK165 BK170 HK HB GG91 HQ93 hf91_0 hf91_1 hf91_2 hx182_0 hx182_1 hx182_2 hx91_0 hx91_1 hx91_2 hHeld ⊢ | generalize wc.drew = w92 at HO_0 BK165 BK170 HK HB GG91 HQ93 hf91_0 hf91_1 hf91_2 hx177_0 hx177_1 hx177_2 hx91_0 hx91_1 hx91_2 hHeld ⊢)
 refine pV 0 120 (bN 12 1) ?_
 refine pV 1 121 (bN 12 3) ?_
 refine pV 2 122 (bN 12 7) ?_
 refine pV 3 123 (bN 12 15) ?_
 refine pV 4 124 (bN 12 31) ?_
 refine pV 6 126 (bN 12 95) ?_
 refine tV6 5 125 (bN 12 127) ?_
 refine tV6 7 127 (bN 12 255) ?_
 refine pV 8 128 (bN 12 511) ?_
 refine pV 9 129 (bN 12 1023) ?_
 refine pV 10 130 (bN 12 2047) ?_
 refine last_ (i := 11) (N := none) (bN 12 4095) rfl rfl (one_of HT_.out (by kernel_rfl)) (by decide) (fun K hK => ?_)
 refine skip_ (w1 := ?_) (by rfl) rfl ?_ ?_
 rotate_left
 ·go_simp
  rfl
 refine hK.out _ _ ?_
 clear hK K
 refine done_ (done_of HT_.out (by kernel_rfl)) ?_
 try go_wp2
 go_ret
 exact ⟨_, by first | rfl | (simp [errW_none, errW_some] <;> rfl) | (simp only [← hji16, ← hji75]; first | rfl | (simp [errW_none, errW_some] <;> rfl)) | (simp [*, errW_none, errW_some] <;> rfl), wR HQ93.out, by repeat (first | (with_reducible first | exact HB.out | apply below_alloc | apply pw_below_drewN | apply below_drew1 | refine below_set ?_ GB91.out | refine below_set ?_ GE165.out | refine below_set ?_ GE170.out) | exact HB.out), by repeat (first | (with_reducible first | exact HK.out | apply Kept.alloc | apply Kept.drewN | apply Kept.drew | refine Kept.setCell ?_ HMgo91.out _ | refine Kept.setCell ?_ (.inr GW165.out) _ | refine Kept.setCell ?_ (.inr GW170.out) _) | exact HK.out)⟩
end Go.Proofs.Ytoagljlnfakgjaa.PFnDiamond
