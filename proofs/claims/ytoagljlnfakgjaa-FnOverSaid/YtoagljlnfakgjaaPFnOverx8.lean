/- (thin) Written by a program of this session (wip/ovl.py) over the kit's print: plain functions with the answers of the Go functions, and the proofs that they are; no condition. -/
import Derived.Test.YtoagljlnfakgjaaPFnOverx0
namespace Go.Proofs.Ytoagljlnfakgjaa.PFnOver
open Go.RowKit Go.Proofs.YtoagljlnfakgjaaW.PrintWords Go.Proofs.YtoagljlnfakgjaaW.PrintLast Go.Proofs.YtoagljlnfakgjaaW.PrintMore
attribute [local go_sem] max2_int min2_int max_two min_two max_three min_three max_four min_four   -- for this text's walks alone
set_option linter.unusedVariables false
set_option linter.unusedSimpArgs false
mutual
def spec_l3Add.j0 : Nat → List (S60) → Int → Bool → Int → ByteArray → ByteArray → Option ((List (S60)))
 | 0, _, _, _, _, _, _ => none
 | k + 1, x0, x5, x9, x165000, x165001, x165002 => if x9 = true then (some x0) else (if x5 = 0 then (if x0.length < 3518437208883 then (some (x0 ++ [(⟨x165000, x165001, x165002⟩ : S60)])) else (none)) else (if 0 ≤ (wrap64 (x5 - 1)) then (if (wrap64 (x5 - 1)) < (x0.length : Int) then (if x165000 > 0 then (spec_l3Add.j1 k x0 x5 (decide (((rd_T60 x0 (wrap64 (x5 - 1))).f0) > 0)) x165000 x165001 x165002 ((rd_T60 x0 (wrap64 (x5 - 1))).f0) ((rd_T60 x0 (wrap64 (x5 - 1))).f1) ((rd_T60 x0 (wrap64 (x5 - 1))).f2)) else (spec_l3Add.j1 k x0 x5 false x165000 x165001 x165002 ((rd_T60 x0 (wrap64 (x5 - 1))).f0) ((rd_T60 x0 (wrap64 (x5 - 1))).f1) ((rd_T60 x0 (wrap64 (x5 - 1))).f2))) else (none)) else (none)))
def spec_l3Add.j1 : Nat → List (S60) → Int → Bool → Int → ByteArray → ByteArray → Int → ByteArray → ByteArray → Option ((List (S60)))
 | 0, _, _, _, _, _, _, _, _, _ => none
 | k + 1, x0, x5, x40, x165000, x165001, x165002, x170000, x170001, x170002 => if x40 = true then (if 0 ≤ (wrap64 (x5 - 1)) then (if (wrap64 (x5 - 1)) < (x0.length : Int) then (some (x0.set ((wrap64 (x5 - 1)) : Int).toNat (⟨wrap64 (((rd_T60 x0 (wrap64 (x5 - 1))).f0) + x165000), (rd_T60 x0 (wrap64 (x5 - 1))).f1, (rd_T60 x0 (wrap64 (x5 - 1))).f2⟩ : S60))) else (none)) else (none)) else (if x165002.toList = ([] : List UInt8) then (spec_l3Add.j2 k x0 x5 false x165000 x165001 x165002 x170000 x170001 x170002) else (spec_l3Add.j2 k x0 x5 (x170002.toList != ([] : List UInt8)) x165000 x165001 x165002 x170000 x170001 x170002))
def spec_l3Add.j2 : Nat → List (S60) → Int → Bool → Int → ByteArray → ByteArray → Int → ByteArray → ByteArray → Option ((List (S60)))
 | 0, _, _, _, _, _, _, _, _, _ => none
 | k + 1, x0, x5, x60, x165000, x165001, x165002, x170000, x170001, x170002 => if x60 = true then (if 0 ≤ (wrap64 (x5 - 1)) then (if (wrap64 (x5 - 1)) < (x0.length : Int) then (if ((rd_T60 x0 (wrap64 (x5 - 1))).f2).size + x165002.size ≤ 9223372036854775807 then (some (x0.set ((wrap64 (x5 - 1)) : Int).toNat (⟨(rd_T60 x0 (wrap64 (x5 - 1))).f0, (rd_T60 x0 (wrap64 (x5 - 1))).f1, ((rd_T60 x0 (wrap64 (x5 - 1))).f2) ++ x165002⟩ : S60))) else (none)) else (none)) else (none)) else (if x165001.toList = ([] : List UInt8) then (spec_l3Add.j3 k x0 x5 false x165000 x165001 x165002 x170000 x170001 x170002) else (spec_l3Add.j3 k x0 x5 (x170001.toList != ([] : List UInt8)) x165000 x165001 x165002 x170000 x170001 x170002))
def spec_l3Add.j3 : Nat → List (S60) → Int → Bool → Int → ByteArray → ByteArray → Int → ByteArray → ByteArray → Option ((List (S60)))
 | 0, _, _, _, _, _, _, _, _, _ => none
 | k + 1, x0, x5, x80, x165000, x165001, x165002, x170000, x170001, x170002 => if x80 = true then (if 0 ≤ (wrap64 (x5 - 1)) then (if (wrap64 (x5 - 1)) < (x0.length : Int) then (if ((rd_T60 x0 (wrap64 (x5 - 1))).f1).size + x165001.size ≤ 9223372036854775807 then (some (x0.set ((wrap64 (x5 - 1)) : Int).toNat (⟨(rd_T60 x0 (wrap64 (x5 - 1))).f0, ((rd_T60 x0 (wrap64 (x5 - 1))).f1) ++ x165001, (rd_T60 x0 (wrap64 (x5 - 1))).f2⟩ : S60))) else (none)) else (none)) else (none)) else (if x165001.toList = ([] : List UInt8) then (spec_l3Add.j4 k x0 x5 false x165000 x165001 x165002 x170000 x170001 x170002) else (spec_l3Add.j4 k x0 x5 (x170002.toList != ([] : List UInt8)) x165000 x165001 x165002 x170000 x170001 x170002))
def spec_l3Add.j4 : Nat → List (S60) → Int → Bool → Int → ByteArray → ByteArray → Int → ByteArray → ByteArray → Option ((List (S60)))
 | 0, _, _, _, _, _, _, _, _, _ => none
 | k + 1, x0, x5, x100, x165000, x165001, x165002, x170000, x170001, x170002 => if x100 = true then (if x5 > 1 then (if 0 ≤ (wrap64 (x5 - 2)) then (if (wrap64 (x5 - 2)) < (x0.length : Int) then (if ((rd_T60 x0 (wrap64 (x5 - 2))).f1).toList = ([] : List UInt8) then (if 0 ≤ (wrap64 (x5 - 1)) then (if (wrap64 (x5 - 1)) < (x0.length : Int) then ((some (x0.set ((wrap64 (x5 - 1)) : Int).toNat (⟨x165000, x165001, x165002⟩ : S60) : List (S60))).bind fun y177 => (if y177.length < 3518437208883 then (some (y177 ++ [(⟨x170000, x170001, x170002⟩ : S60)])) else (none))) else (none)) else (none)) else (if ((rd_T60 x0 (wrap64 (x5 - 2))).f1).size + x165001.size ≤ 9223372036854775807 then (some (x0.set ((wrap64 (x5 - 2)) : Int).toNat (⟨(rd_T60 x0 (wrap64 (x5 - 2))).f0, ((rd_T60 x0 (wrap64 (x5 - 2))).f1) ++ x165001, (rd_T60 x0 (wrap64 (x5 - 2))).f2⟩ : S60))) else (none))) else (none)) else (none)) else (if 0 ≤ (wrap64 (x5 - 1)) then (if (wrap64 (x5 - 1)) < (x0.length : Int) then ((some (x0.set ((wrap64 (x5 - 1)) : Int).toNat (⟨x165000, x165001, x165002⟩ : S60) : List (S60))).bind fun y183 => (if y183.length < 3518437208883 then (some (y183 ++ [(⟨x170000, x170001, x170002⟩ : S60)])) else (none))) else (none)) else (none))) else (if x0.length < 3518437208883 then (some (x0 ++ [(⟨x165000, x165001, x165002⟩ : S60)])) else (none))
end
def spec_l3Add.f (k : Nat) (l0 : List (S60)) (a1_0 : Int) (a1_1 : ByteArray) (a1_2 : ByteArray) : Option ((List (S60))) := if a1_0 = 0 then (if a1_1.toList = ([] : List UInt8) then (spec_l3Add.j0 k l0 (l0.length : Int) (a1_2.toList == ([] : List UInt8)) a1_0 a1_1 a1_2) else (spec_l3Add.j0 k l0 (l0.length : Int) false a1_0 a1_1 a1_2)) else (spec_l3Add.j0 k l0 (l0.length : Int) false a1_0 a1_1 a1_2)
theorem spec_l3Add.mono_l : ∀ k, (∀ y0 y1 y2 y3 y4 y5, LeO (spec_l3Add.j0 k y0 y1 y2 y3 y4 y5) (spec_l3Add.j0 (k + 1) y0 y1 y2 y3 y4 y5)) ∧ (∀ y0 y1 y2 y3 y4 y5 y6 y7 y8, LeO (spec_l3Add.j1 k y0 y1 y2 y3 y4 y5 y6 y7 y8) (spec_l3Add.j1 (k + 1) y0 y1 y2 y3 y4 y5 y6 y7 y8)) ∧ (∀ y0 y1 y2 y3 y4 y5 y6 y7 y8, LeO (spec_l3Add.j2 k y0 y1 y2 y3 y4 y5 y6 y7 y8) (spec_l3Add.j2 (k + 1) y0 y1 y2 y3 y4 y5 y6 y7 y8)) ∧ (∀ y0 y1 y2 y3 y4 y5 y6 y7 y8, LeO (spec_l3Add.j3 k y0 y1 y2 y3 y4 y5 y6 y7 y8) (spec_l3Add.j3 (k + 1) y0 y1 y2 y3 y4 y5 y6 y7 y8)) ∧ (∀ y0 y1 y2 y3 y4 y5 y6 y7 y8, LeO (spec_l3Add.j4 k y0 y1 y2 y3 y4 y5 y6 y7 y8) (spec_l3Add.j4 (k + 1) y0 y1 y2 y3 y4 y5 y6 y7 y8))
 | 0 => ⟨fun _ _ _ _ _ _ r h => by simp [spec_l3Add.j0] at h, fun _ _ _ _ _ _ _ _ _ r h => by simp [spec_l3Add.j1] at h, fun _ _ _ _ _ _ _ _ _ r h => by simp [spec_l3Add.j2] at h, fun _ _ _ _ _ _ _ _ _ r h => by simp [spec_l3Add.j3] at h, fun _ _ _ _ _ _ _ _ _ r h => by simp [spec_l3Add.j4] at h⟩
 | k + 1 => by
  obtain ⟨ih0, ih1, ih2, ih3, ih4⟩ := spec_l3Add.mono_l k
  refine ⟨?_, ?_, ?_, ?_, ?_⟩
  ·intro y0 y1 y2 y3 y4 y5
   unfold spec_l3Add.j0
   repeat' (with_reducible first | exact ih0 _ _ _ _ _ _ | exact ih1 _ _ _ _ _ _ _ _ _ | exact ih2 _ _ _ _ _ _ _ _ _ | exact ih3 _ _ _ _ _ _ _ _ _ | exact ih4 _ _ _ _ _ _ _ _ _ | exact LeO.refl _ | exact LeO.none _ | refine LeO.ite ?_ ?_ | refine LeO.bind ?_ (fun _ => ?_))
  ·intro y0 y1 y2 y3 y4 y5 y6 y7 y8
   unfold spec_l3Add.j1
   repeat' (with_reducible first | exact ih0 _ _ _ _ _ _ | exact ih1 _ _ _ _ _ _ _ _ _ | exact ih2 _ _ _ _ _ _ _ _ _ | exact ih3 _ _ _ _ _ _ _ _ _ | exact ih4 _ _ _ _ _ _ _ _ _ | exact LeO.refl _ | exact LeO.none _ | refine LeO.ite ?_ ?_ | refine LeO.bind ?_ (fun _ => ?_))
  ·intro y0 y1 y2 y3 y4 y5 y6 y7 y8
   unfold spec_l3Add.j2
   repeat' (with_reducible first | exact ih0 _ _ _ _ _ _ | exact ih1 _ _ _ _ _ _ _ _ _ | exact ih2 _ _ _ _ _ _ _ _ _ | exact ih3 _ _ _ _ _ _ _ _ _ | exact ih4 _ _ _ _ _ _ _ _ _ | exact LeO.refl _ | exact LeO.none _ | refine LeO.ite ?_ ?_ | refine LeO.bind ?_ (fun _ => ?_))
  ·intro y0 y1 y2 y3 y4 y5 y6 y7 y8
   unfold spec_l3Add.j3
   repeat' (with_reducible first | exact ih0 _ _ _ _ _ _ | exact ih1 _ _ _ _ _ _ _ _ _ | exact ih2 _ _ _ _ _ _ _ _ _ | exact ih3 _ _ _ _ _ _ _ _ _ | exact ih4 _ _ _ _ _ _ _ _ _ | exact LeO.refl _ | exact LeO.none _ | refine LeO.ite ?_ ?_ | refine LeO.bind ?_ (fun _ => ?_))
  ·intro y0 y1 y2 y3 y4 y5 y6 y7 y8
   unfold spec_l3Add.j4
   repeat' (with_reducible first | exact ih0 _ _ _ _ _ _ | exact ih1 _ _ _ _ _ _ _ _ _ | exact ih2 _ _ _ _ _ _ _ _ _ | exact ih3 _ _ _ _ _ _ _ _ _ | exact ih4 _ _ _ _ _ _ _ _ _ | exact LeO.refl _ | exact LeO.none _ | refine LeO.ite ?_ ?_ | refine LeO.bind ?_ (fun _ => ?_))
theorem spec_l3Add.mono : ∀ a0 a1 a2 a3 k, LeO (spec_l3Add.f k a0 a1 a2 a3) (spec_l3Add.f (k + 1) a0 a1 a2 a3) := by
 intro a0 a1 a2 a3 k
 obtain ⟨ih0, ih1, ih2, ih3, ih4⟩ := spec_l3Add.mono_l k
 unfold spec_l3Add.f
 repeat' (with_reducible first | exact ih0 _ _ _ _ _ _ | exact ih1 _ _ _ _ _ _ _ _ _ | exact ih2 _ _ _ _ _ _ _ _ _ | exact ih3 _ _ _ _ _ _ _ _ _ | exact ih4 _ _ _ _ _ _ _ _ _ | exact LeO.refl _ | exact LeO.none _ | refine LeO.ite ?_ ?_ | refine LeO.bind ?_ (fun _ => ?_))
def spec_l3Add.T9 : Bool × List (List Nat × List Nat) := (true, [([], []), ([], []), ([1], [1]), ([0, 2], [0, 2]), ([3], [3]), ([4], [4]), ([], []), ([6], [6]), ([5, 7], [5, 7]), ([0, 2, 0, 1, 2, 3, 4, 5, 6, 7, 8], [0, 2]), ([9, 0, 1, 2, 3, 4, 5, 6, 7, 8], [9]), ([10, 8, 0, 1, 2, 3, 4, 5, 6, 7, 8], [8, 10])])
def spec_l3Add.B9 : List Nat := [0, 0, 2, 7, 15, 31, 0, 64, 255, 511, 1023, 2047]
theorem spec_l3Add.tab9 : rtab .any (opsOf Try.f74 9) = spec_l3Add.T9 := by kernel_rfl
theorem spec_l3Add.bits9 : waitsOk spec_l3Add.T9.2 spec_l3Add.B9 = true := by kernel_rfl
def spec_l3Add.T11 : Bool × List (List Nat × List Nat) := (true, [([], []), ([], []), ([1], [1]), ([0, 2], [0, 2]), ([3], [3]), ([4], [4]), ([], []), ([6], [6]), ([5, 7], [5, 7]), ([0, 2, 0, 1, 2, 3, 4, 5, 6, 7, 8], [0, 2]), ([9, 0, 1, 2, 3, 4, 5, 6, 7, 8], [9]), ([10, 8, 0, 1, 2, 3, 4, 5, 6, 7, 8], [8, 10])])
def spec_l3Add.B11 : List Nat := [0, 0, 2, 7, 15, 31, 0, 64, 255, 511, 1023, 2047]
theorem spec_l3Add.tab11 : rtab .any (opsOf Try.f74 11) = spec_l3Add.T11 := by kernel_rfl
theorem spec_l3Add.bits11 : waitsOk spec_l3Add.T11.2 spec_l3Add.B11 = true := by kernel_rfl
def spec_l3Add.T13 : Bool × List (List Nat × List Nat) := (true, [([], []), ([], []), ([1], [1]), ([0, 2], [0, 2]), ([3], [3]), ([4], [4]), ([], []), ([6], [6]), ([5, 7], [5, 7]), ([0, 2, 0, 1, 2, 3, 4, 5, 6, 7, 8], [0, 2]), ([9, 0, 1, 2, 3, 4, 5, 6, 7, 8], [9]), ([10, 8, 0, 1, 2, 3, 4, 5, 6, 7, 8], [8, 10])])
def spec_l3Add.B13 : List Nat := [0, 0, 2, 7, 15, 31, 0, 64, 255, 511, 1023, 2047]
theorem spec_l3Add.tab13 : rtab .any (opsOf Try.f74 13) = spec_l3Add.T13 := by kernel_rfl
theorem spec_l3Add.bits13 : waitsOk spec_l3Add.T13.2 spec_l3Add.B13 = true := by kernel_rfl
def spec_l3Add.T16 : Bool × List (List Nat × List Nat) := (true, [([], []), ([], []), ([1], [1]), ([0, 2], [0, 2]), ([3], [3]), ([4], [4]), ([], []), ([6], [6]), ([5, 7], [5, 7]), ([0, 2, 0, 1, 2, 3, 4, 5, 6, 7, 8], [0, 2]), ([9, 0, 1, 2, 3, 4, 5, 6, 7, 8], [9]), ([10, 8, 0, 1, 2, 3, 4, 5, 6, 7, 8], [8, 10])])
def spec_l3Add.B16 : List Nat := [0, 0, 2, 7, 15, 31, 0, 64, 255, 511, 1023, 2047]
theorem spec_l3Add.tab16 : rtab .any (opsOf Try.f74 16) = spec_l3Add.T16 := by kernel_rfl
theorem spec_l3Add.bits16 : waitsOk spec_l3Add.T16.2 spec_l3Add.B16 = true := by kernel_rfl
set_option maxHeartbeats 8000000 in
set_option maxRecDepth 100000 in
theorem spec_l3Add.calls (k : Nat) (P0_ : Nat → Prop) (u9000_ : Value) (l0 : List (S60)) (a1_0 : Int) (a1_1 : ByteArray) (a1_2 : ByteArray) (r : List (S60)) (w0 w : World) (hB : Below w0.heap.size w0 w) (ho0 : Kd.R k60 60 w w0.heap.size P0_ u9000_ l0) (h : spec_l3Add.f k l0 a1_0 a1_1 a1_2 = some r) :
  Calls Try.prog 74 #[u9000_, .agg #[.int .i64 a1_0, .string a1_1, .string a1_2]] w fun e w' => ∃ v0_ : Value, e = .returned (v0_) ∧ Kd.R k60 60 w' w0.heap.size (fun k_ => (P0_ k_ ∨ w.heap.size ≤ k_)) v0_ r ∧ Below w0.heap.size w0 w' ∧ Kept w w' (fun k_ => P0_ k_) := by
 have hu60 := Try.underlying60
 have HO0 := aM (show Kd.R k60 60 w w0.heap.size (fun k_ => (P0_ k_ ∨ w.heap.size ≤ k_)) u9000_ l0 from Kd.R_mono ho0 (fun k_ hk => (.inl hk)))
 have HK := aM (Kept.refl w (fun k_ => P0_ k_))
 have HW0 := aM hB.size
 have HB := aM hB
 clear hB
 have H : (if a1_0 = 0 then (if a1_1.toList = ([] : List UInt8) then (spec_l3Add.j0 k l0 (l0.length : Int) (a1_2.toList == ([] : List UInt8)) a1_0 a1_1 a1_2) else (spec_l3Add.j0 k l0 (l0.length : Int) false a1_0 a1_1 a1_2)) else (spec_l3Add.j0 k l0 (l0.length : Int) false a1_0 a1_1 a1_2)) = some r := h
 clear h
 have HC3 := aM H
 clear H
 go_enter Try.func74, Try.ntmps74
 go_upto_region 2 with (first | ((with_reducible refine gate_dst (N := 3) rfl ?_); refine box_event ?hg (N := 3) ?hd (cs := #[.int .i64 a1_0, .string a1_1, .string a1_2]) (t := 60) ?hr ?_; (case hd => rfl); (case hg => rfl); (case hr => exact aP21); intro gb164 hg w4 hbox hb; have n0_ := aM (Kd.R_below (Kd.R_elderB (rR HO0.out) gb164 (Nat.le_of_eq hg.symm)) hb); have n1_ := aM (Kept.below (S := (fun k_ => P0_ k_)) aP10 hb); have n2_ := aM (below_step bB hb); have n3_ := aM (hbox); have n4_ := aM ((by rw [hg]; exact (by first | exact HK.out.1 | exact (show Kept w _ (fun k_ => P0_ k_) from aP10).1) : w.heap.size ≤ gb164)); have n5_ := aM (bG (w := w0) hg); clear HO0; clear HK; clear HB; have HO0 := n0_; have HK := n1_; have HB := n2_; have BK164 := n3_; have GW164 := n4_; have GE164 := n5_; clear n0_ n1_ n2_ n3_ n4_ n5_; clear hb hbox hg; obtain ⟨Ao5, co5, eo5⟩ := Kd.R_slice HO0.out; subst eo5))
 (try simp only [Act.put, List.setIfInBounds_toArray, List.set_cons_zero, List.set_cons_succ])
 go_cut [9] (fun v9 wc => ∃ (kq : Nat) (x9_2 : Bool), v9 = .bool x9_2 ∧ Aside0 (spec_l3Add.j0 kq l0 (l0.length : Int) x9_2 a1_0 a1_1 a1_2 = some r) ∧ Aside0 (kq ≤ k) ∧ Aside0 (Kd.R k60 60 wc w0.heap.size (fun k_ => (P0_ k_ ∨ w.heap.size ≤ k_) ∧ k_ ≠ gb164) (.slice Ao5 l0.length co5) l0) ∧ Aside0 (wc.heap[gb164]? = some (.cells #[.int .i64 a1_0, .string a1_1, .string a1_2] 60 (0, 0))) ∧ Aside0 (Kept w wc (fun k_ => P0_ k_)) ∧ Aside0 (Below w0.heap.size w0 wc))
 case first =>
  have H := HC3.out
  clear HC3
  by_cases c6 : a1_0 = 0
  rotate_left
  ·rw [if_neg c6] at H
   have c6b0 : (a1_0 == 0) = false := beq_eq_false_iff_ne.mpr c6
   have c6b1 : (a1_0 != 0) = true := bne_iff_ne.mpr c6
   (first | rw [c6b0] | (simp only [i64_w, i32_w]; rw [c6b0]) | rw [c6e] | skip)
   have H' := aM H
   clear H
   have hcz10_0 : w4.cell? ⟨gb164, 0, none⟩ = some (.int .i64 a1_0) := (blk_cell BK164.out 0).trans rfl
   have hcz10_1 : w4.cell? ⟨gb164, 1, none⟩ = some (.string a1_1) := (blk_cell BK164.out 1).trans rfl
   have hcz10_2 : w4.cell? ⟨gb164, 2, none⟩ = some (.string a1_2) := (blk_cell BK164.out 2).trans rfl
   have hfz10_0 := blk_frozen BK164.out 0
   have hfz10_1 := blk_frozen BK164.out 1
   have hfz10_2 := blk_frozen BK164.out 2
   go_wp2
   go_meet
   case rel => exact ⟨_, (false), aP16, H', ⟨by first | omega | exact Nat.le_refl _⟩, ⟨rR HO0.out⟩, ⟨kK BK164.out⟩, ⟨aP5⟩, ⟨aP6⟩⟩
  rw [if_pos c6] at H
  have c6b0 : (a1_0 == 0) = true := beq_iff_eq.mpr c6
  have c6b1 : (a1_0 != 0) = false := bne_eq_false_iff_eq.mpr c6
  clear c6
  (first | rw [c6b0] | (simp only [i64_w, i32_w]; rw [c6b0]) | rw [c6e] | skip)
  by_cases c7 : a1_1.toList = ([] : List UInt8)
  rotate_left
  ·rw [if_neg c7] at H
   have c7b0 : (a1_1.toList == ([] : List UInt8)) = false := beq_eq_false_iff_ne.mpr c7
   have c7b1 : (a1_1.toList != ([] : List UInt8)) = true := bne_iff_ne.mpr c7
   try have c7e : a1_1.toList.isEmpty = false := List.isEmpty_eq_false_iff.mpr c7
   have H' := aM H
   clear H
   have hcz9_0 : w4.cell? ⟨gb164, 0, none⟩ = some (.int .i64 a1_0) := (blk_cell BK164.out 0).trans rfl
   have hcz9_1 : w4.cell? ⟨gb164, 1, none⟩ = some (.string a1_1) := (blk_cell BK164.out 1).trans rfl
   have hcz9_2 : w4.cell? ⟨gb164, 2, none⟩ = some (.string a1_2) := (blk_cell BK164.out 2).trans rfl
   have hfz9_0 := blk_frozen BK164.out 0
   have hfz9_1 := blk_frozen BK164.out 1
   have hfz9_2 := blk_frozen BK164.out 2
   go_wp2
   go_meet
   case rel => exact ⟨_, (false), aP16, H', ⟨by first | omega | exact Nat.le_refl _⟩, ⟨rR HO0.out⟩, ⟨kK BK164.out⟩, ⟨aP5⟩, ⟨aP6⟩⟩
  rw [if_pos c7] at H
  have c7b0 : (a1_1.toList == ([] : List UInt8)) = true := beq_iff_eq.mpr c7
  have c7b1 : (a1_1.toList != ([] : List UInt8)) = false := bne_eq_false_iff_eq.mpr c7
  try have c7e : a1_1.toList.isEmpty = true := List.isEmpty_iff.mpr c7
  clear c7
  have H' := aM H
  clear H
  have hcz8_0 : w4.cell? ⟨gb164, 0, none⟩ = some (.int .i64 a1_0) := (blk_cell BK164.out 0).trans rfl
  have hcz8_1 : w4.cell? ⟨gb164, 1, none⟩ = some (.string a1_1) := (blk_cell BK164.out 1).trans rfl
  have hcz8_2 : w4.cell? ⟨gb164, 2, none⟩ = some (.string a1_2) := (blk_cell BK164.out 2).trans rfl
  have hfz8_0 := blk_frozen BK164.out 0
  have hfz8_1 := blk_frozen BK164.out 1
  have hfz8_2 := blk_frozen BK164.out 2
  go_wp2
  go_meet
  case rel => exact ⟨_, ((a1_2.toList == ([] : List UInt8))), aP16, H', ⟨by first | omega | exact Nat.le_refl _⟩, ⟨rR HO0.out⟩, ⟨kK BK164.out⟩, ⟨aP5⟩, ⟨aP6⟩⟩
 case rest =>
  clear HC3
  try clear p2
  try clear c6
  try clear c6b0
  try clear c6b1
  try clear c7
  try clear c7b0
  try clear c7b1
  try clear hcz10_0
  try clear hcz10_1
  try clear hcz10_2
  try clear hcz8_0
  try clear hcz8_1
  try clear hcz8_2
  try clear hcz9_0
  try clear hcz9_1
  try clear hcz9_2
  try clear hfz10_0
  try clear hfz10_1
  try clear hfz10_2
  try clear hfz8_0
  try clear hfz8_1
  try clear hfz8_2
  try clear hfz9_0
  try clear hfz9_1
  try clear hfz9_2
  obtain ⟨kq, x9_2, rfl, HA, HJ2, HO_0, BK164, HK, HB⟩ := hcut
  cases kq with
  | zero => exact absurd HA.out (by simp [spec_l3Add.j0])
  | succ kj2 =>
   have H := HA.out
   clear HA
   simp only [spec_l3Add.j0] at H
   by_cases c11 : x9_2 = true
   ·subst c11
    replace H : (some l0) = some r := by rw [if_pos rfl] at H; exact H
    obtain rfl := Option.some.inj H
    go_wp2
    go_ret
    exact ⟨_, by first | rfl | (simp [errW_none, errW_some] <;> rfl) | (simp [*, errW_none, errW_some] <;> rfl), by (with_reducible repeat (first | apply Kd.R_alloc | apply Kd.R_drewN | apply Kd.R_drew)); exact Kd.R_mono HO_0.out (fun _ hk => hk.1), by exact aP6, aP5⟩
   replace c11 := Bool.eq_false_iff.mpr c11
   subst c11
   replace H : (if (l0.length : Int) = 0 then (if l0.length < 3518437208883 then (some (l0 ++ [(⟨a1_0, a1_1, a1_2⟩ : S60)])) else (none)) else (if 0 ≤ (wrap64 ((l0.length : Int) - 1)) then (if (wrap64 ((l0.length : Int) - 1)) < (l0.length : Int) then (if a1_0 > 0 then (spec_l3Add.j1 kj2 l0 (l0.length : Int) (decide (((rd_T60 l0 (wrap64 ((l0.length : Int) - 1))).f0) > 0)) a1_0 a1_1 a1_2 ((rd_T60 l0 (wrap64 ((l0.length : Int) - 1))).f0) ((rd_T60 l0 (wrap64 ((l0.length : Int) - 1))).f1) ((rd_T60 l0 (wrap64 ((l0.length : Int) - 1))).f2)) else (spec_l3Add.j1 kj2 l0 (l0.length : Int) false a1_0 a1_1 a1_2 ((rd_T60 l0 (wrap64 ((l0.length : Int) - 1))).f0) ((rd_T60 l0 (wrap64 ((l0.length : Int) - 1))).f1) ((rd_T60 l0 (wrap64 ((l0.length : Int) - 1))).f2))) else (none)) else (none))) = some r := by rw [if_neg (show ¬ (false = true) by decide)] at H; exact H
   by_cases c12 : (l0.length : Int) = 0
   ·rw [if_pos c12] at H
    have c12b0 : ((l0.length : Int) == 0) = true := beq_iff_eq.mpr c12
    have c12b1 : ((l0.length : Int) != 0) = false := bne_eq_false_iff_eq.mpr c12
    clear c12
    by_cases c13 : l0.length < 3518437208883
    rotate_left
    ·rw [if_neg c13] at H
     exact absurd H (by simp)
    rw [if_pos c13] at H
    have LMc13 := aM c13
    clear c13
    obtain ⟨y165, hy165⟩ : ∃ y_ : List (S60), y_ = (l0 ++ [(⟨a1_0, a1_1, a1_2⟩ : S60)]) := ⟨_, rfl⟩
    replace H : (some y165) = some r := by first | (rw [hy165]; with_reducible exact H) | (have H2_ := (Option.bind_some _ _).symm.trans H; rw [hy165]; with_reducible exact H2_) | (have H2_ := (Option.bind_some _ _).symm.trans H; with_reducible exact H2_) | with_reducible exact H | (rw [hy165]; exact H) | exact H
    have Ny165 := aM hy165
    clear hy165
    obtain rfl := Option.some.inj H
    have hcz14_0 : wc.cell? ⟨gb164, 0, none⟩ = some (.int .i64 a1_0) := (blk_cell BK164.out 0).trans rfl
    have hcz14_1 : wc.cell? ⟨gb164, 1, none⟩ = some (.string a1_1) := (blk_cell BK164.out 1).trans rfl
    have hcz14_2 : wc.cell? ⟨gb164, 2, none⟩ = some (.string a1_2) := (blk_cell BK164.out 2).trans rfl
    have hfz14_0 := blk_frozen BK164.out 0
    have hfz14_1 := blk_frozen BK164.out 1
    have hfz14_2 := blk_frozen BK164.out 2
    go_wp2_with (first | ((with_reducible refine gate_builtin (b := .append) (xs := #[.tmp 27, .tmp 29]) rfl ?_); at_builtin; refine Kd.R_append k60 (w0 := w0) w0.heap.size rfl (.tmp 27) (.tmp 29) 26 60 (.agg #[(.int .i64 0), (.string ⟨#[]⟩), (.string ⟨#[]⟩)]) 40 rfl Try.underlying26 info60 rfl (by decide) (by omega) (.slice Ao5 l0.length co5) l0 (⟨a1_0, a1_1, a1_2⟩ : S60) [.int .i64 a1_0, .string a1_1, .string a1_2] (fun k_ => (P0_ k_ ∨ w.heap.size ≤ k_) ∧ k_ ≠ gb164) (fun _ => False) rfl rfl ?aP (fun _ hk => hk.elim) ?aF ?aO ?aB ?aS ?aL ?_; (case aP => exact k60_mkM _ _ _ (⟨a1_0, a1_1, a1_2⟩ : S60)); (case aB => exact aP6); (case aF => exact (fun k_ hk => ⟨(.inr (Nat.le_trans (by first | exact HK.out.1 | exact (show Kept w _ (fun k_ => P0_ k_) from aP5).1) hk)), Kd.freshB (g := gb164) (o := .cells #[.int .i64 a1_0, .string a1_1, .string a1_2] 60 (0, 0)) (kK BK164.out) k_ hk⟩)); (case aO => exact (rR HO_0.out)); (case aS => exact (below_size aP6)); (case aL => have := LMc13.out; omega); intro v166 w15 ho hb hg hat; rw [← Ny165.out] at ho; have HO167 := aM (ho); replace BK164 := aM (blk_grown (g := gb164) (o := .cells #[.int .i64 a1_0, .string a1_1, .string a1_2] 60 (0, 0)) (kK BK164.out) hg (Kd.R_away HO_0.out (fun _ hk => hk.2))); replace HB := aM (hb); replace HK := aM (Kept.of_grown (S := (fun k_ => P0_ k_)) hg aP5 (fun k_ e_ => (HO_0.out.1 k_ e_).1)); clear ho hb hg hat))
    go_ret
    exact ⟨_, by first | rfl | (simp [errW_none, errW_some] <;> rfl) | (simp [*, errW_none, errW_some] <;> rfl), by (with_reducible repeat (first | apply Kd.R_alloc | apply Kd.R_drewN | apply Kd.R_drew)); exact Kd.R_mono HO167.out (fun _ hk => hk.1), by exact aP6, aP5⟩
   rw [if_neg c12] at H
   have c12b0 : ((l0.length : Int) == 0) = false := beq_eq_false_iff_ne.mpr c12
   have c12b1 : ((l0.length : Int) != 0) = true := bne_iff_ne.mpr c12
   have c12b2 : ¬ (l0 = []) := fun h_ => c12 (by rw [h_]; rfl)
   obtain ⟨ji16, hji16⟩ : ∃ j_ : Int, (wrap64 ((l0.length : Int) - 1)) = j_ := ⟨_, rfl⟩
   replace H : (if 0 ≤ (ji16) then (if (ji16) < (l0.length : Int) then (if a1_0 > 0 then (spec_l3Add.j1 kj2 l0 (l0.length : Int) (decide (((rd_T60 l0 (ji16)).f0) > 0)) a1_0 a1_1 a1_2 ((rd_T60 l0 (ji16)).f0) ((rd_T60 l0 (ji16)).f1) ((rd_T60 l0 (ji16)).f2)) else (spec_l3Add.j1 kj2 l0 (l0.length : Int) false a1_0 a1_1 a1_2 ((rd_T60 l0 (ji16)).f0) ((rd_T60 l0 (ji16)).f1) ((rd_T60 l0 (ji16)).f2))) else (none)) else (none)) = some r := by first | (rw [hji16] at H; exact H) | (simp only [hji16] at H ⊢; exact H)
   have hji16w : (IntKind.i64.wrap ((l0.length : Int) - 1)) = ji16 := (i64_w _).trans hji16
   by_cases c17 : 0 ≤ (ji16)
   rotate_left
   ·rw [if_neg c17] at H
    exact absurd H (by simp)
   rw [if_pos c17] at H
   have c17b0 : decide (0 ≤ (ji16)) = true := decide_eq_true c17
   clear c17
   by_cases c18 : (ji16) < (l0.length : Int)
   rotate_left
   ·rw [if_neg c18] at H
    exact absurd H (by simp)
   rw [if_pos c18] at H
   have c18b0 : decide ((ji16) < (l0.length : Int)) = true := decide_eq_true c18
   clear c18
   have HC19 := aM H
   clear H
   have p168 : 0 ≤ ((ji16) : Int) := of_decide_eq_true (by assumption)
   have q168 : (ji16) < (l0.length : Int) := of_decide_eq_true (by assumption)
   obtain ⟨ad168, e168, hx168_0, hx168_1, hx168_2⟩ := at_T60 (Kd.R_reads' HO_0.out).2.2 (ji16) p168 q168
   cases e168
   replace p168 := eq_true p168
   replace q168 := eq_true q168
   go_upto_region 8 with (first | ((with_reducible refine gate_dst (N := 6) rfl ?_); refine box_event ?hg (N := 6) ?hd (cs := #[.int .i64 0, .string (⟨#[]⟩ : ByteArray), .string (⟨#[]⟩ : ByteArray)]) (t := 60) ?hr ?_; (case hd => rfl); (case hg => rfl); (case hr => exact aP21); intro gb169 hg w20 hbox hb; have n0_ := aM (Kd.R_below (Kd.R_elderB (rR HO_0.out) gb169 (Nat.le_of_eq hg.symm)) hb); have n1_ := aM (blk_below (g := gb164) (o := .cells #[.int .i64 a1_0, .string a1_1, .string a1_2] 60 (0, 0)) (kK BK164.out) hb); have n2_ := aM (Kept.below (S := (fun k_ => P0_ k_)) aP5 hb); have n3_ := aM (below_step aP6 hb); have n4_ := aM (hbox); have n5_ := aM ((by rw [hg]; exact (by first | exact HK.out.1 | exact (show Kept w _ (fun k_ => P0_ k_) from aP5).1) : w.heap.size ≤ gb169)); have n6_ := aM ((by rw [hg]; exact (below_size aP6) : w0.heap.size ≤ gb169)); have n7_ := aM ((by rw [hg]; exact Nat.ne_of_lt (blk_lt (g := gb164) (o := .cells #[.int .i64 a1_0, .string a1_1, .string a1_2] 60 (0, 0)) (kK BK164.out)) : gb164 ≠ gb169)); have n8_ := aM ((by rw [hg]; exact Nat.ne_of_gt (blk_lt (g := gb164) (o := .cells #[.int .i64 a1_0, .string a1_1, .string a1_2] 60 (0, 0)) (kK BK164.out)) : gb169 ≠ gb164)); clear HO_0; clear BK164; clear HK; clear HB; have HO_0 := n0_; have BK164 := n1_; have HK := n2_; have HB := n3_; have BK169 := n4_; have GW169 := n5_; have GE169 := n6_; have NB164_169 := n7_; have NB169_164 := n8_; clear n0_ n1_ n2_ n3_ n4_ n5_ n6_ n7_ n8_; clear hb hbox hg; have hnb21 := NB169_164.out; have hnc21 := NB164_169.out; obtain ⟨hcz22_0, hcz22_1, hcz22_2, hfz22_0, hfz22_1, hfz22_2⟩ := bx3 BK169.out))
   (try simp only [Act.put, List.setIfInBounds_toArray, List.set_cons_zero, List.set_cons_succ])
   go_cut [40] (fun v40 wc => ∃ (kq : Nat) (x40_18 : Bool), v40 = .bool x40_18 ∧ Aside0 (spec_l3Add.j1 kq l0 (l0.length : Int) x40_18 a1_0 a1_1 a1_2 ((rd_T60 l0 (ji16)).f0) ((rd_T60 l0 (ji16)).f1) ((rd_T60 l0 (ji16)).f2) = some r) ∧ Aside0 (kq ≤ kj2) ∧ Aside0 (Kd.R k60 60 wc w0.heap.size (fun k_ => (P0_ k_ ∨ w.heap.size ≤ k_) ∧ k_ ≠ gb164 ∧ k_ ≠ gb169) (.slice (some ad168) l0.length co5) l0) ∧ Aside0 (wc.heap[gb164]? = some (.cells #[.int .i64 a1_0, .string a1_1, .string a1_2] 60 (0, 0))) ∧ Aside0 (wc.heap[gb169]? = some (.cells #[.int .i64 ((rd_T60 l0 (ji16)).f0), .string ((rd_T60 l0 (ji16)).f1), .string ((rd_T60 l0 (ji16)).f2)] 60 (0, 0))) ∧ Aside0 (Kept w wc (fun k_ => P0_ k_)) ∧ Aside0 (Below w0.heap.size w0 wc))
   case first =>
    have H := HC19.out
    clear HC19
    by_cases c23 : a1_0 > 0
    rotate_left
    ·rw [if_neg c23] at H
     have c23b0 : decide (0 < a1_0) = false := decide_eq_false c23
     clear c23
     (first | rw [c23b0] | (simp only [i64_w, i32_w]; rw [c23b0]) | rw [c23e] | skip)
     have H' := aM H
     clear H
     have hnb27 := NB164_169.out
     have hnc27 := NB169_164.out
     have hcz28_0 : w20.cell? ⟨gb164, 0, none⟩ = some (.int .i64 a1_0) := (blk_cell BK164.out 0).trans rfl
     have hcz28_1 : w20.cell? ⟨gb164, 1, none⟩ = some (.string a1_1) := (blk_cell BK164.out 1).trans rfl
     have hcz28_2 : w20.cell? ⟨gb164, 2, none⟩ = some (.string a1_2) := (blk_cell BK164.out 2).trans rfl
     have hfz28_0 := blk_frozen BK164.out 0
     have hfz28_1 := blk_frozen BK164.out 1
     have hfz28_2 := blk_frozen BK164.out 2
     go_wp2
     go_meet
     case rel => exact ⟨_, (false), aP16, H', ⟨by have := HJ2.out; first | omega | exact Nat.le_refl _⟩, ⟨by (with_reducible repeat (first | apply Kd.R_alloc | apply Kd.R_drewN | apply Kd.R_drew)); exact Kd.R_mono (Kd.R_far (p := ⟨gb169, 2, none⟩) (Kd.R_far (p := ⟨gb169, 1, none⟩) (Kd.R_far (p := ⟨gb169, 0, none⟩) (Kd.R_mono HO_0.out (fun k_ hk => (⟨hk, hk.2⟩ : _ ∧ k_ ≠ gb169))) (fun _ hk => hk.2) (.int .i64 ((rd_T60 l0 (ji16)).f0))) (fun _ hk => hk.2) (.string ((rd_T60 l0 (ji16)).f1))) (fun _ hk => hk.2) (.string ((rd_T60 l0 (ji16)).f2))) (fun _ hk => ⟨hk.1.1.1, ⟨hk.1.1.2, hk.1.2⟩⟩)⟩, ⟨by (with_reducible repeat (first | refine blk_drewN ?_ _ | refine blk_drew ?_ | refine blk_alloc ?_ _)); refine blk_far ?_ NB164_169.out _; (with_reducible repeat (first | refine blk_drewN ?_ _ | refine blk_drew ?_ | refine blk_alloc ?_ _)); refine blk_far ?_ NB164_169.out _; (with_reducible repeat (first | refine blk_drewN ?_ _ | refine blk_drew ?_ | refine blk_alloc ?_ _)); refine blk_far ?_ NB164_169.out _; (with_reducible repeat (first | refine blk_drewN ?_ _ | refine blk_drew ?_ | refine blk_alloc ?_ _)); exact BK164.out⟩, ⟨by (with_reducible repeat (first | refine blk_drewN ?_ _ | refine blk_drew ?_ | refine blk_alloc ?_ _)); refine blk_put (cs := #[.int .i64 ((rd_T60 l0 (ji16)).f0), .string ((rd_T60 l0 (ji16)).f1), .string (⟨#[]⟩ : ByteArray)]) ?_ 2 _ rfl; (with_reducible repeat (first | refine blk_drewN ?_ _ | refine blk_drew ?_ | refine blk_alloc ?_ _)); refine blk_put (cs := #[.int .i64 ((rd_T60 l0 (ji16)).f0), .string (⟨#[]⟩ : ByteArray), .string (⟨#[]⟩ : ByteArray)]) ?_ 1 _ rfl; (with_reducible repeat (first | refine blk_drewN ?_ _ | refine blk_drew ?_ | refine blk_alloc ?_ _)); refine blk_put (cs := #[.int .i64 0, .string (⟨#[]⟩ : ByteArray), .string (⟨#[]⟩ : ByteArray)]) ?_ 0 _ rfl; (with_reducible repeat (first | refine blk_drewN ?_ _ | refine blk_drew ?_ | refine blk_alloc ?_ _)); exact BK169.out⟩, ⟨aP3⟩, ⟨aP4⟩⟩
    rw [if_pos c23] at H
    have c23b0 : decide (0 < a1_0) = true := decide_eq_true c23
    clear c23
    (first | rw [c23b0] | (simp only [i64_w, i32_w]; rw [c23b0]) | rw [c23e] | skip)
    have H' := aM H
    clear H
    have hnb24 := NB164_169.out
    have hnc24 := NB169_164.out
    have hcz25_0 : w20.cell? ⟨gb164, 0, none⟩ = some (.int .i64 a1_0) := (blk_cell BK164.out 0).trans rfl
    have hcz25_1 : w20.cell? ⟨gb164, 1, none⟩ = some (.string a1_1) := (blk_cell BK164.out 1).trans rfl
    have hcz25_2 : w20.cell? ⟨gb164, 2, none⟩ = some (.string a1_2) := (blk_cell BK164.out 2).trans rfl
    have hfz25_0 := blk_frozen BK164.out 0
    have hfz25_1 := blk_frozen BK164.out 1
    have hfz25_2 := blk_frozen BK164.out 2
    have hcz26_0 : w20.cell? ⟨gb169, 0, none⟩ = some (.int .i64 0) := (blk_cell BK169.out 0).trans rfl
    have hcz26_1 : w20.cell? ⟨gb169, 1, none⟩ = some (.string (⟨#[]⟩ : ByteArray)) := (blk_cell BK169.out 1).trans rfl
    have hcz26_2 : w20.cell? ⟨gb169, 2, none⟩ = some (.string (⟨#[]⟩ : ByteArray)) := (blk_cell BK169.out 2).trans rfl
    have hfz26_0 := blk_frozen BK169.out 0
    have hfz26_1 := blk_frozen BK169.out 1
    have hfz26_2 := blk_frozen BK169.out 2
    go_wp2
    go_meet
    case rel => exact ⟨_, (decide (((rd_T60 l0 (ji16)).f0) > 0)), aP18, aP20, ⟨by have := HJ2.out; first | omega | exact Nat.le_refl _⟩, ⟨by (with_reducible repeat (first | apply Kd.R_alloc | apply Kd.R_drewN | apply Kd.R_drew)); exact Kd.R_mono (Kd.R_far (p := ⟨gb169, 2, none⟩) (Kd.R_far (p := ⟨gb169, 1, none⟩) (Kd.R_far (p := ⟨gb169, 0, none⟩) (Kd.R_mono HO_0.out (fun k_ hk => (⟨hk, hk.2⟩ : _ ∧ k_ ≠ gb169))) (fun _ hk => hk.2) (.int .i64 ((rd_T60 l0 (ji16)).f0))) (fun _ hk => hk.2) (.string ((rd_T60 l0 (ji16)).f1))) (fun _ hk => hk.2) (.string ((rd_T60 l0 (ji16)).f2))) (fun _ hk => ⟨hk.1.1.1, ⟨hk.1.1.2, hk.1.2⟩⟩)⟩, ⟨by (with_reducible repeat (first | refine blk_drewN ?_ _ | refine blk_drew ?_ | refine blk_alloc ?_ _)); refine blk_far ?_ NB164_169.out _; (with_reducible repeat (first | refine blk_drewN ?_ _ | refine blk_drew ?_ | refine blk_alloc ?_ _)); refine blk_far ?_ NB164_169.out _; (with_reducible repeat (first | refine blk_drewN ?_ _ | refine blk_drew ?_ | refine blk_alloc ?_ _)); refine blk_far ?_ NB164_169.out _; (with_reducible repeat (first | refine blk_drewN ?_ _ | refine blk_drew ?_ | refine blk_alloc ?_ _)); exact BK164.out⟩, ⟨by (with_reducible repeat (first | refine blk_drewN ?_ _ | refine blk_drew ?_ | refine blk_alloc ?_ _)); refine blk_put (cs := #[.int .i64 ((rd_T60 l0 (ji16)).f0), .string ((rd_T60 l0 (ji16)).f1), .string (⟨#[]⟩ : ByteArray)]) ?_ 2 _ rfl; (with_reducible repeat (first | refine blk_drewN ?_ _ | refine blk_drew ?_ | refine blk_alloc ?_ _)); refine blk_put (cs := #[.int .i64 ((rd_T60 l0 (ji16)).f0), .string (⟨#[]⟩ : ByteArray), .string (⟨#[]⟩ : ByteArray)]) ?_ 1 _ rfl; (with_reducible repeat (first | refine blk_drewN ?_ _ | refine blk_drew ?_ | refine blk_alloc ?_ _)); refine blk_put (cs := #[.int .i64 0, .string (⟨#[]⟩ : ByteArray), .string (⟨#[]⟩ : ByteArray)]) ?_ 0 _ rfl; (with_reducible repeat (first | refine blk_drewN ?_ _ | refine blk_drew ?_ | refine blk_alloc ?_ _)); exact BK169.out⟩, ⟨aP3⟩, ⟨aP4⟩⟩
   case rest =>
    clear HC19
    try clear c1
    try clear p1
    try clear q1
    try clear hx1
    try clear c2
    try clear p2
    try clear c6
    try clear c6b0
    try clear c6b1
    try clear p6
    try clear c7
    try clear c7b0
    try clear c7b1
    try clear c11
    try clear c12
    try clear c12b0
    try clear c12b1
    try clear c12b2
    try clear c13
    try clear p16
    try clear q16
    try clear hx16
    try clear c17
    try clear c17b0
    try clear c18
    try clear c18b0
    try clear c21
    try clear c23
    try clear c23b0
    try clear c24
    try clear c27
    try clear hcz10_0
    try clear hcz10_1
    try clear hcz10_2
    try clear hcz14_0
    try clear hcz14_1
    try clear hcz14_2
    try clear hcz22_0
    try clear hcz22_1
    try clear hcz22_2
    try clear hcz25_0
    try clear hcz25_1
    try clear hcz25_2
    try clear hcz26_0
    try clear hcz26_1
    try clear hcz26_2
    try clear hcz28_0
    try clear hcz28_1
    try clear hcz28_2
    try clear hcz8_0
    try clear hcz8_1
    try clear hcz8_2
    try clear hcz9_0
    try clear hcz9_1
    try clear hcz9_2
    try clear hfz10_0
    try clear hfz10_1
    try clear hfz10_2
    try clear hfz14_0
    try clear hfz14_1
    try clear hfz14_2
    try clear hfz22_0
    try clear hfz22_1
    try clear hfz22_2
    try clear hfz25_0
    try clear hfz25_1
    try clear hfz25_2
    try clear hfz26_0
    try clear hfz26_1
    try clear hfz26_2
    try clear hfz28_0
    try clear hfz28_1
    try clear hfz28_2
    try clear hfz8_0
    try clear hfz8_1
    try clear hfz8_2
    try clear hfz9_0
    try clear hfz9_1
    try clear hfz9_2
    try clear hx168_0
    try clear hx168_1
    try clear hx168_2
    try clear p168
    try clear p2
    try clear q168
    obtain ⟨kq, x40_18, rfl, HA, HJ18, HO_0, BK164, BK169, HK, HB⟩ := hcut
    cases kq with
    | zero => exact absurd HA.out (by simp [spec_l3Add.j1])
    | succ kj18 =>
     have H := HA.out
     clear HA
     simp only [spec_l3Add.j1] at H
     by_cases c29 : x40_18 = true
     ·subst c29
      replace H : (if 0 ≤ (wrap64 ((l0.length : Int) - 1)) then (if (wrap64 ((l0.length : Int) - 1)) < (l0.length : Int) then (some (l0.set ((wrap64 ((l0.length : Int) - 1)) : Int).toNat (⟨wrap64 (((rd_T60 l0 (wrap64 ((l0.length : Int) - 1))).f0) + a1_0), (rd_T60 l0 (wrap64 ((l0.length : Int) - 1))).f1, (rd_T60 l0 (wrap64 ((l0.length : Int) - 1))).f2⟩ : S60))) else (none)) else (none)) = some r := by rw [if_pos rfl] at H; exact H
      replace H : (if 0 ≤ (ji16) then (if (ji16) < (l0.length : Int) then (some (l0.set ((ji16) : Int).toNat (⟨wrap64 (((rd_T60 l0 (ji16)).f0) + a1_0), (rd_T60 l0 (ji16)).f1, (rd_T60 l0 (ji16)).f2⟩ : S60))) else (none)) else (none)) = some r := by first | (rw [hji16] at H; exact H) | (simp only [hji16] at H ⊢; exact H)
      by_cases c31 : 0 ≤ (ji16)
      rotate_left
      ·rw [if_neg c31] at H
       exact absurd H (by simp)
      rw [if_pos c31] at H
      have c31b0 : decide (0 ≤ (ji16)) = true := decide_eq_true c31
      clear c31
      by_cases c32 : (ji16) < (l0.length : Int)
      rotate_left
      ·rw [if_neg c32] at H
       exact absurd H (by simp)
      rw [if_pos c32] at H
      have c32b0 : decide ((ji16) < (l0.length : Int)) = true := decide_eq_true c32
      clear c32
      obtain ⟨y171, hy171⟩ : ∃ y_ : List (S60), y_ = (l0.set ((ji16) : Int).toNat (⟨wrap64 (((rd_T60 l0 (ji16)).f0) + a1_0), (rd_T60 l0 (ji16)).f1, (rd_T60 l0 (ji16)).f2⟩ : S60)) := ⟨_, rfl⟩
      replace H : (some y171) = some r := by first | (rw [hy171]; with_reducible exact H) | (have H2_ := (Option.bind_some _ _).symm.trans H; rw [hy171]; with_reducible exact H2_) | (have H2_ := (Option.bind_some _ _).symm.trans H; with_reducible exact H2_) | with_reducible exact H | (rw [hy171]; exact H) | exact H
      have Ny171 := aM hy171
      clear hy171
      obtain rfl := Option.some.inj H
      try go_wp2
      replace HO_0 := aM (Kd.R_drew HO_0.out)
      replace BK164 := aM (blk_drew BK164.out)
      replace BK169 := aM (blk_drew BK169.out)
      replace HK := aM (Kept.drew HK.out)
      replace HB := aM (below_drew1 HB.out)
      have p170 : 0 ≤ ((ji16) : Int) := of_decide_eq_true (by assumption)
      have q170 : (ji16) < (l0.length : Int) := of_decide_eq_true (by assumption)
      obtain ⟨ad170, e170, hx170_0, hx170_1, hx170_2⟩ := at_T60 (Kd.R_reads' HO_0.out).2.2 (ji16) p170 q170
      (first | obtain rfl : ad168 = ad170 := (by injection e170) | cases e170)
      replace p170 := eq_true p170
      replace q170 := eq_true q170
      have p33 : 0 ≤ ((ji16) : Int) := of_decide_eq_true (by assumption)
      have q33 : ((ji16) : Int) < ((l0.length : Int) : Int) := of_decide_eq_true (by assumption)
      obtain ⟨go33, co33, eo33, gb33, gl33, cl33, HG33⟩ := Kd.R_form HO_0.out (by omega)
      (first | cases eo33 | (injection eo33 with ea_ en_ ec_; (first | subst ea_ | (injection ea_ with ea_; subst ea_)); subst ec_; clear en_))
      have GB33 := aM gb33
      have GG33 := aM HG33
      clear gb33 gl33 HG33
      have HMgo33 := aM (show (P0_ go33 ∨ w.heap.size ≤ go33) from (HO_0.out.1 _ rfl).1)
      (first | simp only [add_plain] at hx168_0 | skip)
      (first | simp only [add_plain] at hx168_1 | skip)
      (first | simp only [add_plain] at hx168_2 | skip)
      (first | simp only [add_plain] at hx170_0 | skip)
      (first | simp only [add_plain] at hx170_1 | skip)
      (first | simp only [add_plain] at hx170_2 | skip)
      obtain ⟨ce33, hcl33, hM33, hcc33, hfr33⟩ := Kd.R_elem HO_0.out z60 ((ji16) : Int) p33 q33
      obtain rfl := k60_openM hM33
      have hx33_0 : World.cell? _ ⟨go33, ((ji16) : Int).toNat * 3, none⟩ = some (.int .i64 ((rd_T60 l0 (ji16)).f0)) := hcc33 0 _ rfl
      have hx33_1 : World.cell? _ ⟨go33, ((ji16) : Int).toNat * 3 + 1, none⟩ = some (.string ((rd_T60 l0 (ji16)).f1)) := hcc33 1 _ rfl
      have hx33_2 : World.cell? _ ⟨go33, ((ji16) : Int).toNat * 3 + 2, none⟩ = some (.string ((rd_T60 l0 (ji16)).f2)) := hcc33 2 _ rfl
      have hf33_0 : World.frozen? _ ⟨go33, ((ji16) : Int).toNat * 3, none⟩ = false := hfr33 0
      have hf33_1 : World.frozen? _ ⟨go33, ((ji16) : Int).toNat * 3 + 1, none⟩ = false := hfr33 1
      have hf33_2 : World.frozen? _ ⟨go33, ((ji16) : Int).toNat * 3 + 2, none⟩ = false := hfr33 2
      clear hcl33 hcc33 hfr33 hM33
      replace p33 := eq_true p33
      replace q33 := eq_true q33
      obtain ⟨ce35, hcl35, hM35, hcc35, hfr35⟩ := Kd.R_elem HO_0.out z60 ((ji16) : Int) (of_decide_eq_true (by assumption)) (by have h_ : ((ji16) : Int) < ((l0.length : Int) : Int) := of_decide_eq_true (by assumption); first | exact h_ | (have e_ := (Kd.R_reads' HO_0.out).1; omega) | simpa using h_)
      obtain rfl := k60_openM hM35
      have HP35 := (Kd.R_seg HO_0.out ((ji16) : Int) (of_decide_eq_true (by assumption)) (by have h_ : ((ji16) : Int) < ((l0.length : Int) : Int) := of_decide_eq_true (by assumption); first | exact h_ | (have e_ := (Kd.R_reads' HO_0.out).1; omega) | simpa using h_) (seg := [.int .i64 (wrap64 (((rd_T60 l0 (ji16)).f0) + a1_0))]) (j := 0) hcl35 hcc35 (show 1 ≤ 3 from by decide) (x' := (⟨wrap64 (((rd_T60 l0 (ji16)).f0) + a1_0), (rd_T60 l0 (ji16)).f1, (rd_T60 l0 (ji16)).f2⟩ : S60)) (k60_mkM _ _ _ (⟨wrap64 (((rd_T60 l0 (ji16)).f0) + a1_0), (rd_T60 l0 (ji16)).f1, (rd_T60 l0 (ji16)).f2⟩ : S60) ) (fun _ hk => hk)).1
      rw [← Ny171.out] at HP35
      have HQ35 := aM HP35
      clear hcl35 hcc35 hfr35 hM35 HP35
      refine start_ (n := 12) (S := fun w' => w'.cell? ⟨gb164, 0, none⟩ = some (.int .i64 a1_0) ∧ w'.cell? ⟨gb164, 1, none⟩ = some (.string a1_1) ∧ w'.cell? ⟨gb164, 2, none⟩ = some (.string a1_2) ∧ w'.cell? ⟨go33, ((ji16)).toNat * 3, none⟩ = some (.int .i64 ((rd_T60 l0 (ji16)).f0)) ∧ w'.cell? ⟨go33, ((ji16)).toNat * 3 + 1, none⟩ = some (.string ((rd_T60 l0 (ji16)).f1)) ∧ w'.cell? ⟨go33, ((ji16)).toNat * 3 + 2, none⟩ = some (.string ((rd_T60 l0 (ji16)).f2))) (ds := [11]) (Array.replicate 12 false) (by kernel_rfl) rfl rfl ⟨(blk_cell BK164.out 0).trans rfl, (blk_cell BK164.out 1).trans rfl, (blk_cell BK164.out 2).trans rfl, hx170_0, hx170_1, hx170_2⟩ (fun hHeld => ?_); refine with_tabW spec_l3Add.tab9 spec_l3Add.bits9 (fun HT_ HW_ => ?_)
      (first | generalize wc.drew = w34 at HO_0 BK164 BK169 HK HB GG33 HQ35 hf33_0 hf33_1 hf33_2 hx168_0 hx168_1 hx168_2 hx170_0 hx170_1 hx170_2 hx33_0 hx33_1 hx33_2 hHeld ⊢ | generalize wc.drew = w34 at HO_0 BK164 BK169 HK HB GG33 HQ35 hf33_0 hf33_1 hf33_2 hx170_0 hx170_1 hx170_2 hx33_0 hx33_1 hx33_2 hHeld ⊢ | generalize wc.drew = w34 at HO_0 BK164 BK169 HK HB GG33 HQ35 hf33_0 hf33_1 hf33_2 hx168_0 hx168_1 hx168_2 hx33_0 hx33_1 hx33_2 hHeld ⊢)
      refine pV 0 49 (bN 12 1) ?_
      refine pV 1 50 (bN 12 3) ?_
      refine pV 2 51 (bN 12 7) ?_
      refine pV 3 52 (bN 12 15) ?_
      refine pV 4 53 (bN 12 31) ?_
      refine pV 6 55 (bN 12 95) ?_
      refine tV6 5 54 (bN 12 127) ?_
      refine tV6 7 56 (bN 12 255) ?_
      refine pV 8 57 (bN 12 511) ?_
      refine pV 9 58 (bN 12 1023) ?_
      refine pV 10 59 (bN 12 2047) ?_
      refine last_ (i := 11) (N := none) (bN 12 4095) rfl rfl (one_of HT_.out (by kernel_rfl)) (by decide) (fun K hK => ?_)
      refine skip_ (w1 := ?_) (by rfl) rfl ?_ ?_
      rotate_left
      ·go_simp
       rfl
      refine hK.out _ _ ?_
      clear hK K
      refine done_ (done_of HT_.out (by kernel_rfl)) ?_
      try go_wp2
      go_ret
      exact ⟨_, by first | rfl | (simp [errW_none, errW_some] <;> rfl) | (simp only [← hji16, ← hji16]; first | rfl | (simp [errW_none, errW_some] <;> rfl)) | (simp [*, errW_none, errW_some] <;> rfl), by (with_reducible repeat (first | apply Kd.R_alloc | apply Kd.R_drewN | apply Kd.R_drew)); exact Kd.R_mono HQ35.out (fun _ hk => hk.1), by repeat (first | (with_reducible first | exact HB.out | apply below_alloc | apply pw_below_drewN | apply below_drew1 | refine below_set ?_ GB33.out | refine below_set ?_ GE164.out | refine below_set ?_ GE169.out) | exact HB.out), by repeat (first | (with_reducible first | exact HK.out | apply Kept.alloc | apply Kept.drewN | apply Kept.drew | refine Kept.setCell ?_ HMgo33.out _ | refine Kept.setCell ?_ (.inr GW164.out) _ | refine Kept.setCell ?_ (.inr GW169.out) _) | exact HK.out)⟩
     replace c29 := Bool.eq_false_iff.mpr c29
     subst c29
     replace H : (if a1_2.toList = ([] : List UInt8) then (spec_l3Add.j2 kj18 l0 (l0.length : Int) false a1_0 a1_1 a1_2 ((rd_T60 l0 (ji16)).f0) ((rd_T60 l0 (ji16)).f1) ((rd_T60 l0 (ji16)).f2)) else (spec_l3Add.j2 kj18 l0 (l0.length : Int) (((rd_T60 l0 (ji16)).f2).toList != ([] : List UInt8)) a1_0 a1_1 a1_2 ((rd_T60 l0 (ji16)).f0) ((rd_T60 l0 (ji16)).f1) ((rd_T60 l0 (ji16)).f2))) = some r := by rw [if_neg (show ¬ (false = true) by decide)] at H; exact H
     have HC36 := aM H
     clear H
     go_upto_region 10 with (fail)
     go_cut [60] (fun v60 wc => ∃ (kq : Nat) (x60_35 : Bool), v60 = .bool x60_35 ∧ Aside0 (spec_l3Add.j2 kq l0 (l0.length : Int) x60_35 a1_0 a1_1 a1_2 ((rd_T60 l0 (ji16)).f0) ((rd_T60 l0 (ji16)).f1) ((rd_T60 l0 (ji16)).f2) = some r) ∧ Aside0 (kq ≤ kj18) ∧ Aside0 (Kd.R k60 60 wc w0.heap.size (fun k_ => (P0_ k_ ∨ w.heap.size ≤ k_) ∧ k_ ≠ gb164 ∧ k_ ≠ gb169) (.slice (some ad168) l0.length co5) l0) ∧ Aside0 (wc.heap[gb164]? = some (.cells #[.int .i64 a1_0, .string a1_1, .string a1_2] 60 (0, 0))) ∧ Aside0 (wc.heap[gb169]? = some (.cells #[.int .i64 ((rd_T60 l0 (ji16)).f0), .string ((rd_T60 l0 (ji16)).f1), .string ((rd_T60 l0 (ji16)).f2)] 60 (0, 0))) ∧ Aside0 (Kept w wc (fun k_ => P0_ k_)) ∧ Aside0 (Below w0.heap.size w0 wc))
     case first =>
      have H := HC36.out
      clear HC36
      by_cases c37 : a1_2.toList = ([] : List UInt8)
      ·rw [if_pos c37] at H
       have c37b0 : (a1_2.toList == ([] : List UInt8)) = true := beq_iff_eq.mpr c37
       have c37b1 : (a1_2.toList != ([] : List UInt8)) = false := bne_eq_false_iff_eq.mpr c37
       try have c37e : a1_2.toList.isEmpty = true := List.isEmpty_iff.mpr c37
       clear c37
       (first | rw [c37b0] | (simp only [i64_w, i32_w]; rw [c37b0]) | rw [c37e] | skip)
       have H' := aM H
       clear H
       have hnb38 := NB164_169.out
       have hnc38 := NB169_164.out
       have hcz39_0 : wc.cell? ⟨gb164, 0, none⟩ = some (.int .i64 a1_0) := (blk_cell BK164.out 0).trans rfl
       have hcz39_1 : wc.cell? ⟨gb164, 1, none⟩ = some (.string a1_1) := (blk_cell BK164.out 1).trans rfl
       have hcz39_2 : wc.cell? ⟨gb164, 2, none⟩ = some (.string a1_2) := (blk_cell BK164.out 2).trans rfl
       have hfz39_0 := blk_frozen BK164.out 0
       have hfz39_1 := blk_frozen BK164.out 1
       have hfz39_2 := blk_frozen BK164.out 2
       go_wp2
       go_meet
       case rel => exact ⟨_, (false), aP16, H', ⟨by have := HJ2.out; have := HJ18.out; first | omega | exact Nat.le_refl _⟩, ⟨rR HO_0.out⟩, ⟨kK BK164.out⟩, ⟨kK BK169.out⟩, ⟨aP3⟩, ⟨aP4⟩⟩
      rw [if_neg c37] at H
      have c37b0 : (a1_2.toList == ([] : List UInt8)) = false := beq_eq_false_iff_ne.mpr c37
      have c37b1 : (a1_2.toList != ([] : List UInt8)) = true := bne_iff_ne.mpr c37
      try have c37e : a1_2.toList.isEmpty = false := List.isEmpty_eq_false_iff.mpr c37
      (first | rw [c37b0] | (simp only [i64_w, i32_w]; rw [c37b0]) | rw [c37e] | skip)
      have H' := aM H
      clear H
      have hnb40 := NB164_169.out
      have hnc40 := NB169_164.out
      have hcz41_0 : wc.cell? ⟨gb164, 0, none⟩ = some (.int .i64 a1_0) := (blk_cell BK164.out 0).trans rfl
      have hcz41_1 : wc.cell? ⟨gb164, 1, none⟩ = some (.string a1_1) := (blk_cell BK164.out 1).trans rfl
      have hcz41_2 : wc.cell? ⟨gb164, 2, none⟩ = some (.string a1_2) := (blk_cell BK164.out 2).trans rfl
      have hfz41_0 := blk_frozen BK164.out 0
      have hfz41_1 := blk_frozen BK164.out 1
      have hfz41_2 := blk_frozen BK164.out 2
      have hcz42_0 : wc.cell? ⟨gb169, 0, none⟩ = some (.int .i64 ((rd_T60 l0 (ji16)).f0)) := (blk_cell BK169.out 0).trans rfl
      have hcz42_1 : wc.cell? ⟨gb169, 1, none⟩ = some (.string ((rd_T60 l0 (ji16)).f1)) := (blk_cell BK169.out 1).trans rfl
      have hcz42_2 : wc.cell? ⟨gb169, 2, none⟩ = some (.string ((rd_T60 l0 (ji16)).f2)) := (blk_cell BK169.out 2).trans rfl
      have hfz42_0 := blk_frozen BK169.out 0
      have hfz42_1 := blk_frozen BK169.out 1
      have hfz42_2 := blk_frozen BK169.out 2
      go_wp2
      go_meet
      case rel => exact ⟨_, ((((rd_T60 l0 (ji16)).f2).toList != ([] : List UInt8))), aP18, aP20, ⟨by have := HJ2.out; have := HJ18.out; first | omega | exact Nat.le_refl _⟩, ⟨rR HO_0.out⟩, ⟨kK BK164.out⟩, ⟨kK BK169.out⟩, ⟨aP3⟩, ⟨aP4⟩⟩
     case rest =>
      clear HC36
      try clear c1
      try clear p1
      try clear q1
      try clear hx1
      try clear c2
      try clear p2
      try clear c3
      try clear p3
      try clear q3
      try clear hx3
      try clear hf3
      try clear c4
      try clear c6
      try clear c6b0
      try clear c6b1
      try clear p6
      try clear c7
      try clear c7b0
      try clear c7b1
      try clear c11
      try clear c12
      try clear c12b0
      try clear c12b1
      try clear c12b2
      try clear c13
      try clear p16
      try clear q16
      try clear hx16
      try clear c17
      try clear c17b0
      try clear p17
      try clear q17
      try clear hx17
      try clear c18
      try clear c18b0
      try clear c21
      try clear c23
      try clear c23b0
      try clear c24
      try clear c27
      try clear c29
      try clear c31
      try clear c31b0
      try clear c32
      try clear c32b0
      try clear c33
      try clear p33
      try clear q33
      try clear hx33
      try clear hf33
      try clear c35
      try clear c37
      try clear c37b0
      try clear c37b1
      try clear c38
      try clear c40
      try clear hcz10_0
      try clear hcz10_1
      try clear hcz10_2
      try clear hcz14_0
      try clear hcz14_1
      try clear hcz14_2
      try clear hcz22_0
      try clear hcz22_1
      try clear hcz22_2
      try clear hcz25_0
      try clear hcz25_1
      try clear hcz25_2
      try clear hcz26_0
      try clear hcz26_1
      try clear hcz26_2
      try clear hcz28_0
      try clear hcz28_1
      try clear hcz28_2
      try clear hcz39_0
      try clear hcz39_1
      try clear hcz39_2
      try clear hcz41_0
      try clear hcz41_1
      try clear hcz41_2
      try clear hcz42_0
      try clear hcz42_1
      try clear hcz42_2
      try clear hcz8_0
      try clear hcz8_1
      try clear hcz8_2
      try clear hcz9_0
      try clear hcz9_1
      try clear hcz9_2
      try clear hfz10_0
      try clear hfz10_1
      try clear hfz10_2
      try clear hfz14_0
      try clear hfz14_1
      try clear hfz14_2
      try clear hfz22_0
      try clear hfz22_1
      try clear hfz22_2
      try clear hfz25_0
      try clear hfz25_1
      try clear hfz25_2
      try clear hfz26_0
      try clear hfz26_1
      try clear hfz26_2
      try clear hfz28_0
      try clear hfz28_1
      try clear hfz28_2
      try clear hfz39_0
      try clear hfz39_1
      try clear hfz39_2
      try clear hfz41_0
      try clear hfz41_1
      try clear hfz41_2
      try clear hfz42_0
      try clear hfz42_1
      try clear hfz42_2
      try clear hfz8_0
      try clear hfz8_1
      try clear hfz8_2
      try clear hfz9_0
      try clear hfz9_1
      try clear hfz9_2
      try clear hx168_0
      try clear hx168_1
      try clear hx168_2
      try clear hx170_0
      try clear hx170_1
      try clear hx170_2
      try clear hx33_0
      try clear hx33_1
      try clear hx33_2
      try clear p1
      try clear p16
      try clear p168
      try clear p170
      try clear p2
      try clear p33
      try clear p6
      try clear q1
      try clear q16
      try clear q168
      try clear q170
      try clear q33
      obtain ⟨kq, x60_35, rfl, HA, HJ35, HO_0, BK164, BK169, HK, HB⟩ := hcut
      cases kq with
      | zero => exact absurd HA.out (by simp [spec_l3Add.j2])
      | succ kj35 =>
       have H := HA.out
       clear HA
       simp only [spec_l3Add.j2] at H
       by_cases c43 : x60_35 = true
       ·subst c43
        replace H : (if 0 ≤ (wrap64 ((l0.length : Int) - 1)) then (if (wrap64 ((l0.length : Int) - 1)) < (l0.length : Int) then (if ((rd_T60 l0 (wrap64 ((l0.length : Int) - 1))).f2).size + a1_2.size ≤ 9223372036854775807 then (some (l0.set ((wrap64 ((l0.length : Int) - 1)) : Int).toNat (⟨(rd_T60 l0 (wrap64 ((l0.length : Int) - 1))).f0, (rd_T60 l0 (wrap64 ((l0.length : Int) - 1))).f1, ((rd_T60 l0 (wrap64 ((l0.length : Int) - 1))).f2) ++ a1_2⟩ : S60))) else (none)) else (none)) else (none)) = some r := by rw [if_pos rfl] at H; exact H
        replace H : (if 0 ≤ (ji16) then (if (ji16) < (l0.length : Int) then (if ((rd_T60 l0 (ji16)).f2).size + a1_2.size ≤ 9223372036854775807 then (some (l0.set ((ji16) : Int).toNat (⟨(rd_T60 l0 (ji16)).f0, (rd_T60 l0 (ji16)).f1, ((rd_T60 l0 (ji16)).f2) ++ a1_2⟩ : S60))) else (none)) else (none)) else (none)) = some r := by first | (rw [hji16] at H; exact H) | (simp only [hji16] at H ⊢; exact H)
        by_cases c45 : 0 ≤ (ji16)
        rotate_left
        ·rw [if_neg c45] at H
         exact absurd H (by simp)
        rw [if_pos c45] at H
        have c45b0 : decide (0 ≤ (ji16)) = true := decide_eq_true c45
        clear c45
        by_cases c46 : (ji16) < (l0.length : Int)
        rotate_left
        ·rw [if_neg c46] at H
         exact absurd H (by simp)
        rw [if_pos c46] at H
        have c46b0 : decide ((ji16) < (l0.length : Int)) = true := decide_eq_true c46
        clear c46
        by_cases c47 : ((rd_T60 l0 (ji16)).f2).size + a1_2.size ≤ 9223372036854775807
        rotate_left
        ·rw [if_neg c47] at H
         exact absurd H (by simp)
        rw [if_pos c47] at H
        have c47b0 := eq_true c47
        have c47b1 : decide (((rd_T60 l0 (ji16)).f2).size + a1_2.size ≤ 9223372036854775807) = true := decide_eq_true c47
        try have c47b2 : (9223372036854775807 < ((rd_T60 l0 (ji16)).f2).size + a1_2.size) = False := eq_false (Nat.not_lt.2 c47)
        obtain ⟨y173, hy173⟩ : ∃ y_ : List (S60), y_ = (l0.set ((ji16) : Int).toNat (⟨(rd_T60 l0 (ji16)).f0, (rd_T60 l0 (ji16)).f1, ((rd_T60 l0 (ji16)).f2) ++ a1_2⟩ : S60)) := ⟨_, rfl⟩
        replace H : (some y173) = some r := by first | (rw [hy173]; with_reducible exact H) | (have H2_ := (Option.bind_some _ _).symm.trans H; rw [hy173]; with_reducible exact H2_) | (have H2_ := (Option.bind_some _ _).symm.trans H; with_reducible exact H2_) | with_reducible exact H | (rw [hy173]; exact H) | exact H
        have Ny173 := aM hy173
        clear hy173
        obtain rfl := Option.some.inj H
        try go_wp2
        replace HO_0 := aM (Kd.R_drew HO_0.out)
        replace BK164 := aM (blk_drew BK164.out)
        replace BK169 := aM (blk_drew BK169.out)
        replace HK := aM (Kept.drew HK.out)
        replace HB := aM (below_drew1 HB.out)
        have p172 : 0 ≤ ((ji16) : Int) := of_decide_eq_true (by assumption)
        have q172 : (ji16) < (l0.length : Int) := of_decide_eq_true (by assumption)
        obtain ⟨ad172, e172, hx172_0, hx172_1, hx172_2⟩ := at_T60 (Kd.R_reads' HO_0.out).2.2 (ji16) p172 q172
        (first | obtain rfl : ad168 = ad172 := (by injection e172) | cases e172)
        replace p172 := eq_true p172
        replace q172 := eq_true q172
        have p48 : 0 ≤ ((ji16) : Int) := of_decide_eq_true (by assumption)
        have q48 : ((ji16) : Int) < ((l0.length : Int) : Int) := of_decide_eq_true (by assumption)
        obtain ⟨go48, co48, eo48, gb48, gl48, cl48, HG48⟩ := Kd.R_form HO_0.out (by omega)
        (first | cases eo48 | (injection eo48 with ea_ en_ ec_; (first | subst ea_ | (injection ea_ with ea_; subst ea_)); subst ec_; clear en_))
        have GB48 := aM gb48
        have GG48 := aM HG48
        clear gb48 gl48 HG48
        have HMgo48 := aM (show (P0_ go48 ∨ w.heap.size ≤ go48) from (HO_0.out.1 _ rfl).1)
        (first | simp only [add_plain] at hx172_0 | skip)
        (first | simp only [add_plain] at hx172_1 | skip)
        (first | simp only [add_plain] at hx172_2 | skip)
        obtain ⟨ce48, hcl48, hM48, hcc48, hfr48⟩ := Kd.R_elem HO_0.out z60 ((ji16) : Int) p48 q48
        obtain rfl := k60_openM hM48
        have hx48_0 : World.cell? _ ⟨go48, ((ji16) : Int).toNat * 3, none⟩ = some (.int .i64 ((rd_T60 l0 (ji16)).f0)) := hcc48 0 _ rfl
        have hx48_1 : World.cell? _ ⟨go48, ((ji16) : Int).toNat * 3 + 1, none⟩ = some (.string ((rd_T60 l0 (ji16)).f1)) := hcc48 1 _ rfl
        have hx48_2 : World.cell? _ ⟨go48, ((ji16) : Int).toNat * 3 + 2, none⟩ = some (.string ((rd_T60 l0 (ji16)).f2)) := hcc48 2 _ rfl
        have hf48_0 : World.frozen? _ ⟨go48, ((ji16) : Int).toNat * 3, none⟩ = false := hfr48 0
        have hf48_1 : World.frozen? _ ⟨go48, ((ji16) : Int).toNat * 3 + 1, none⟩ = false := hfr48 1
        have hf48_2 : World.frozen? _ ⟨go48, ((ji16) : Int).toNat * 3 + 2, none⟩ = false := hfr48 2
        clear hcl48 hcc48 hfr48 hM48
        replace p48 := eq_true p48
        replace q48 := eq_true q48
        obtain ⟨ce50, hcl50, hM50, hcc50, hfr50⟩ := Kd.R_elem HO_0.out z60 ((ji16) : Int) (of_decide_eq_true (by assumption)) (by have h_ : ((ji16) : Int) < ((l0.length : Int) : Int) := of_decide_eq_true (by assumption); first | exact h_ | (have e_ := (Kd.R_reads' HO_0.out).1; omega) | simpa using h_)
        obtain rfl := k60_openM hM50
        have HP50 := (Kd.R_seg HO_0.out ((ji16) : Int) (of_decide_eq_true (by assumption)) (by have h_ : ((ji16) : Int) < ((l0.length : Int) : Int) := of_decide_eq_true (by assumption); first | exact h_ | (have e_ := (Kd.R_reads' HO_0.out).1; omega) | simpa using h_) (seg := [.string (((rd_T60 l0 (ji16)).f2) ++ a1_2)]) (j := 2) hcl50 hcc50 (show 3 ≤ 3 from by decide) (x' := (⟨(rd_T60 l0 (ji16)).f0, (rd_T60 l0 (ji16)).f1, ((rd_T60 l0 (ji16)).f2) ++ a1_2⟩ : S60)) (k60_mkM _ _ _ (⟨(rd_T60 l0 (ji16)).f0, (rd_T60 l0 (ji16)).f1, ((rd_T60 l0 (ji16)).f2) ++ a1_2⟩ : S60) ) (fun _ hk => hk)).1
        rw [← Ny173.out] at HP50
        have HQ50 := aM HP50
        clear hcl50 hcc50 hfr50 hM50 HP50
        refine start_ (n := 12) (S := fun w' => w'.cell? ⟨gb164, 0, none⟩ = some (.int .i64 a1_0) ∧ w'.cell? ⟨gb164, 1, none⟩ = some (.string a1_1) ∧ w'.cell? ⟨gb164, 2, none⟩ = some (.string a1_2) ∧ w'.cell? ⟨go48, ((ji16)).toNat * 3, none⟩ = some (.int .i64 ((rd_T60 l0 (ji16)).f0)) ∧ w'.cell? ⟨go48, ((ji16)).toNat * 3 + 1, none⟩ = some (.string ((rd_T60 l0 (ji16)).f1)) ∧ w'.cell? ⟨go48, ((ji16)).toNat * 3 + 2, none⟩ = some (.string ((rd_T60 l0 (ji16)).f2))) (ds := [11]) (Array.replicate 12 false) (by kernel_rfl) rfl rfl ⟨(blk_cell BK164.out 0).trans rfl, (blk_cell BK164.out 1).trans rfl, (blk_cell BK164.out 2).trans rfl, hx172_0, hx172_1, hx172_2⟩ (fun hHeld => ?_); refine with_tabW spec_l3Add.tab11 spec_l3Add.bits11 (fun HT_ HW_ => ?_)
        generalize wc.drew = w49 at HO_0 BK164 BK169 HK HB GG48 HQ50 hf48_0 hf48_1 hf48_2 hx172_0 hx172_1 hx172_2 hx48_0 hx48_1 hx48_2 hHeld ⊢
        refine pV 0 69 (bN 12 1) ?_
        refine pV 1 70 (bN 12 3) ?_
        refine pV 2 71 (bN 12 7) ?_
        refine pV 3 72 (bN 12 15) ?_
        refine pV 4 73 (bN 12 31) ?_
        refine pV 6 75 (bN 12 95) ?_
        refine tV6 5 74 (bN 12 127) ?_
        refine tV6 7 76 (bN 12 255) ?_
        refine pV 8 77 (bN 12 511) ?_
        refine pV 9 78 (bN 12 1023) ?_
        refine pV 10 79 (bN 12 2047) ?_
        refine last_ (i := 11) (N := none) (bN 12 4095) rfl rfl (one_of HT_.out (by kernel_rfl)) (by decide) (fun K hK => ?_)
        refine skip_ (w1 := ?_) (by rfl) rfl ?_ ?_
        rotate_left
        ·go_simp
         rfl
        refine hK.out _ _ ?_
        clear hK K
        refine done_ (done_of HT_.out (by kernel_rfl)) ?_
        try go_wp2
        go_ret
        exact ⟨_, by first | rfl | (simp [errW_none, errW_some] <;> rfl) | (simp only [← hji16, ← hji16]; first | rfl | (simp [errW_none, errW_some] <;> rfl)) | (simp [*, errW_none, errW_some] <;> rfl), by (with_reducible repeat (first | apply Kd.R_alloc | apply Kd.R_drewN | apply Kd.R_drew)); exact Kd.R_mono HQ50.out (fun _ hk => hk.1), by repeat (first | (with_reducible first | exact HB.out | apply below_alloc | apply pw_below_drewN | apply below_drew1 | refine below_set ?_ GB48.out | refine below_set ?_ GE164.out | refine below_set ?_ GE169.out) | exact HB.out), by repeat (first | (with_reducible first | exact HK.out | apply Kept.alloc | apply Kept.drewN | apply Kept.drew | refine Kept.setCell ?_ HMgo48.out _ | refine Kept.setCell ?_ (.inr GW164.out) _ | refine Kept.setCell ?_ (.inr GW169.out) _) | exact HK.out)⟩
       replace c43 := Bool.eq_false_iff.mpr c43
       subst c43
       replace H : (if a1_1.toList = ([] : List UInt8) then (spec_l3Add.j3 kj35 l0 (l0.length : Int) false a1_0 a1_1 a1_2 ((rd_T60 l0 (ji16)).f0) ((rd_T60 l0 (ji16)).f1) ((rd_T60 l0 (ji16)).f2)) else (spec_l3Add.j3 kj35 l0 (l0.length : Int) (((rd_T60 l0 (ji16)).f1).toList != ([] : List UInt8)) a1_0 a1_1 a1_2 ((rd_T60 l0 (ji16)).f0) ((rd_T60 l0 (ji16)).f1) ((rd_T60 l0 (ji16)).f2))) = some r := by rw [if_neg (show ¬ (false = true) by decide)] at H; exact H
       have HC51 := aM H
       clear H
       go_upto_region 12 with (fail)
       go_cut [80] (fun v80 wc => ∃ (kq : Nat) (x80_50 : Bool), v80 = .bool x80_50 ∧ Aside0 (spec_l3Add.j3 kq l0 (l0.length : Int) x80_50 a1_0 a1_1 a1_2 ((rd_T60 l0 (ji16)).f0) ((rd_T60 l0 (ji16)).f1) ((rd_T60 l0 (ji16)).f2) = some r) ∧ Aside0 (kq ≤ kj35) ∧ Aside0 (Kd.R k60 60 wc w0.heap.size (fun k_ => (P0_ k_ ∨ w.heap.size ≤ k_) ∧ k_ ≠ gb164 ∧ k_ ≠ gb169) (.slice (some ad168) l0.length co5) l0) ∧ Aside0 (wc.heap[gb164]? = some (.cells #[.int .i64 a1_0, .string a1_1, .string a1_2] 60 (0, 0))) ∧ Aside0 (wc.heap[gb169]? = some (.cells #[.int .i64 ((rd_T60 l0 (ji16)).f0), .string ((rd_T60 l0 (ji16)).f1), .string ((rd_T60 l0 (ji16)).f2)] 60 (0, 0))) ∧ Aside0 (Kept w wc (fun k_ => P0_ k_)) ∧ Aside0 (Below w0.heap.size w0 wc))
       case first =>
        have H := HC51.out
        clear HC51
        by_cases c52 : a1_1.toList = ([] : List UInt8)
        ·rw [if_pos c52] at H
         have c52b0 : (a1_1.toList == ([] : List UInt8)) = true := beq_iff_eq.mpr c52
         have c52b1 : (a1_1.toList != ([] : List UInt8)) = false := bne_eq_false_iff_eq.mpr c52
         try have c52e : a1_1.toList.isEmpty = true := List.isEmpty_iff.mpr c52
         clear c52
         (first | rw [c52b0] | (simp only [i64_w, i32_w]; rw [c52b0]) | rw [c52e] | skip)
         have H' := aM H
         clear H
         have hnb53 := NB164_169.out
         have hnc53 := NB169_164.out
         have hcz54_0 : wc.cell? ⟨gb164, 0, none⟩ = some (.int .i64 a1_0) := (blk_cell BK164.out 0).trans rfl
         have hcz54_1 : wc.cell? ⟨gb164, 1, none⟩ = some (.string a1_1) := (blk_cell BK164.out 1).trans rfl
         have hcz54_2 : wc.cell? ⟨gb164, 2, none⟩ = some (.string a1_2) := (blk_cell BK164.out 2).trans rfl
         have hfz54_0 := blk_frozen BK164.out 0
         have hfz54_1 := blk_frozen BK164.out 1
         have hfz54_2 := blk_frozen BK164.out 2
         go_wp2
         go_meet
         case rel => exact ⟨_, (false), aP16, H', ⟨by have := HJ2.out; have := HJ18.out; have := HJ35.out; first | omega | exact Nat.le_refl _⟩, ⟨rR HO_0.out⟩, ⟨kK BK164.out⟩, ⟨kK BK169.out⟩, ⟨aP3⟩, ⟨aP4⟩⟩
        rw [if_neg c52] at H
        have c52b0 : (a1_1.toList == ([] : List UInt8)) = false := beq_eq_false_iff_ne.mpr c52
        have c52b1 : (a1_1.toList != ([] : List UInt8)) = true := bne_iff_ne.mpr c52
        try have c52e : a1_1.toList.isEmpty = false := List.isEmpty_eq_false_iff.mpr c52
        (first | rw [c52b0] | (simp only [i64_w, i32_w]; rw [c52b0]) | rw [c52e] | skip)
        have H' := aM H
        clear H
        have hnb55 := NB164_169.out
        have hnc55 := NB169_164.out
        have hcz56_0 : wc.cell? ⟨gb164, 0, none⟩ = some (.int .i64 a1_0) := (blk_cell BK164.out 0).trans rfl
        have hcz56_1 : wc.cell? ⟨gb164, 1, none⟩ = some (.string a1_1) := (blk_cell BK164.out 1).trans rfl
        have hcz56_2 : wc.cell? ⟨gb164, 2, none⟩ = some (.string a1_2) := (blk_cell BK164.out 2).trans rfl
        have hfz56_0 := blk_frozen BK164.out 0
        have hfz56_1 := blk_frozen BK164.out 1
        have hfz56_2 := blk_frozen BK164.out 2
        have hcz57_0 : wc.cell? ⟨gb169, 0, none⟩ = some (.int .i64 ((rd_T60 l0 (ji16)).f0)) := (blk_cell BK169.out 0).trans rfl
        have hcz57_1 : wc.cell? ⟨gb169, 1, none⟩ = some (.string ((rd_T60 l0 (ji16)).f1)) := (blk_cell BK169.out 1).trans rfl
        have hcz57_2 : wc.cell? ⟨gb169, 2, none⟩ = some (.string ((rd_T60 l0 (ji16)).f2)) := (blk_cell BK169.out 2).trans rfl
        have hfz57_0 := blk_frozen BK169.out 0
        have hfz57_1 := blk_frozen BK169.out 1
        have hfz57_2 := blk_frozen BK169.out 2
        go_wp2
        go_meet
        case rel => exact ⟨_, ((((rd_T60 l0 (ji16)).f1).toList != ([] : List UInt8))), aP18, aP20, ⟨by have := HJ2.out; have := HJ18.out; have := HJ35.out; first | omega | exact Nat.le_refl _⟩, ⟨rR HO_0.out⟩, ⟨kK BK164.out⟩, ⟨kK BK169.out⟩, ⟨aP3⟩, ⟨aP4⟩⟩
       case rest =>
        clear HC51
        try clear c1
        try clear p1
        try clear q1
        try clear hx1
        try clear c2
        try clear p2
        try clear c3
        try clear p3
        try clear q3
        try clear hx3
        try clear hf3
        try clear c4
        try clear p4
        try clear q4
        try clear hx4
        try clear hf4
        try clear c5
        try clear c6
        try clear c6b0
        try clear c6b1
        try clear p6
        try clear c7
        try clear c7b0
        try clear c7b1
        try clear c11
        try clear c12
        try clear c12b0
        try clear c12b1
        try clear c12b2
        try clear c13
        try clear p16
        try clear q16
        try clear hx16
        try clear c17
        try clear c17b0
        try clear p17
        try clear q17
        try clear hx17
        try clear c18
        try clear c18b0
        try clear c21
        try clear c23
        try clear c23b0
        try clear c24
        try clear c27
        try clear c29
        try clear c31
        try clear c31b0
        try clear c32
        try clear c32b0
        try clear c33
        try clear p33
        try clear q33
        try clear hx33
        try clear hf33
        try clear c35
        try clear c37
        try clear c37b0
        try clear c37b1
        try clear c38
        try clear c40
        try clear c43
        try clear c45
        try clear c45b0
        try clear c46
        try clear c46b0
        try clear c47
        try clear c47b0
        try clear c47b1
        try clear c47b2
        try clear c48
        try clear p48
        try clear q48
        try clear hx48
        try clear hf48
        try clear c50
        try clear c52
        try clear c52b0
        try clear c52b1
        try clear c53
        try clear c55
        try clear hcz10_0
        try clear hcz10_1
        try clear hcz10_2
        try clear hcz14_0
        try clear hcz14_1
        try clear hcz14_2
        try clear hcz22_0
        try clear hcz22_1
        try clear hcz22_2
        try clear hcz25_0
        try clear hcz25_1
        try clear hcz25_2
        try clear hcz26_0
        try clear hcz26_1
        try clear hcz26_2
        try clear hcz28_0
        try clear hcz28_1
        try clear hcz28_2
        try clear hcz39_0
        try clear hcz39_1
        try clear hcz39_2
        try clear hcz41_0
        try clear hcz41_1
        try clear hcz41_2
        try clear hcz42_0
        try clear hcz42_1
        try clear hcz42_2
        try clear hcz54_0
        try clear hcz54_1
        try clear hcz54_2
        try clear hcz56_0
        try clear hcz56_1
        try clear hcz56_2
        try clear hcz57_0
        try clear hcz57_1
        try clear hcz57_2
        try clear hcz8_0
        try clear hcz8_1
        try clear hcz8_2
        try clear hcz9_0
        try clear hcz9_1
        try clear hcz9_2
        try clear hfz10_0
        try clear hfz10_1
        try clear hfz10_2
        try clear hfz14_0
        try clear hfz14_1
        try clear hfz14_2
        try clear hfz22_0
        try clear hfz22_1
        try clear hfz22_2
        try clear hfz25_0
        try clear hfz25_1
        try clear hfz25_2
        try clear hfz26_0
        try clear hfz26_1
        try clear hfz26_2
        try clear hfz28_0
        try clear hfz28_1
        try clear hfz28_2
        try clear hfz39_0
        try clear hfz39_1
        try clear hfz39_2
        try clear hfz41_0
        try clear hfz41_1
        try clear hfz41_2
        try clear hfz42_0
        try clear hfz42_1
        try clear hfz42_2
        try clear hfz54_0
        try clear hfz54_1
        try clear hfz54_2
        try clear hfz56_0
        try clear hfz56_1
        try clear hfz56_2
        try clear hfz57_0
        try clear hfz57_1
        try clear hfz57_2
        try clear hfz8_0
        try clear hfz8_1
        try clear hfz8_2
        try clear hfz9_0
        try clear hfz9_1
        try clear hfz9_2
        try clear hx168_0
        try clear hx168_1
        try clear hx168_2
        try clear hx170_0
        try clear hx170_1
        try clear hx170_2
        try clear hx172_0
        try clear hx172_1
        try clear hx172_2
        try clear hx33_0
        try clear hx33_1
        try clear hx33_2
        try clear hx48_0
        try clear hx48_1
        try clear hx48_2
        try clear p1
        try clear p16
        try clear p168
        try clear p17
        try clear p170
        try clear p172
        try clear p2
        try clear p3
        try clear p33
        try clear p48
        try clear p6
        try clear q1
        try clear q16
        try clear q168
        try clear q17
        try clear q170
        try clear q172
        try clear q3
        try clear q33
        try clear q48
        obtain ⟨kq, x80_50, rfl, HA, HJ50, HO_0, BK164, BK169, HK, HB⟩ := hcut
        cases kq with
        | zero => exact absurd HA.out (by simp [spec_l3Add.j3])
        | succ kj50 =>
         have H := HA.out
         clear HA
         simp only [spec_l3Add.j3] at H
         by_cases c58 : x80_50 = true
         ·subst c58
          replace H : (if 0 ≤ (wrap64 ((l0.length : Int) - 1)) then (if (wrap64 ((l0.length : Int) - 1)) < (l0.length : Int) then (if ((rd_T60 l0 (wrap64 ((l0.length : Int) - 1))).f1).size + a1_1.size ≤ 9223372036854775807 then (some (l0.set ((wrap64 ((l0.length : Int) - 1)) : Int).toNat (⟨(rd_T60 l0 (wrap64 ((l0.length : Int) - 1))).f0, ((rd_T60 l0 (wrap64 ((l0.length : Int) - 1))).f1) ++ a1_1, (rd_T60 l0 (wrap64 ((l0.length : Int) - 1))).f2⟩ : S60))) else (none)) else (none)) else (none)) = some r := by rw [if_pos rfl] at H; exact H
          replace H : (if 0 ≤ (ji16) then (if (ji16) < (l0.length : Int) then (if ((rd_T60 l0 (ji16)).f1).size + a1_1.size ≤ 9223372036854775807 then (some (l0.set ((ji16) : Int).toNat (⟨(rd_T60 l0 (ji16)).f0, ((rd_T60 l0 (ji16)).f1) ++ a1_1, (rd_T60 l0 (ji16)).f2⟩ : S60))) else (none)) else (none)) else (none)) = some r := by first | (rw [hji16] at H; exact H) | (simp only [hji16] at H ⊢; exact H)
          by_cases c60 : 0 ≤ (ji16)
          rotate_left
          ·rw [if_neg c60] at H
           exact absurd H (by simp)
          rw [if_pos c60] at H
          have c60b0 : decide (0 ≤ (ji16)) = true := decide_eq_true c60
          clear c60
          by_cases c61 : (ji16) < (l0.length : Int)
          rotate_left
          ·rw [if_neg c61] at H
           exact absurd H (by simp)
          rw [if_pos c61] at H
          have c61b0 : decide ((ji16) < (l0.length : Int)) = true := decide_eq_true c61
          clear c61
          by_cases c62 : ((rd_T60 l0 (ji16)).f1).size + a1_1.size ≤ 9223372036854775807
          rotate_left
          ·rw [if_neg c62] at H
           exact absurd H (by simp)
          rw [if_pos c62] at H
          have c62b0 := eq_true c62
          have c62b1 : decide (((rd_T60 l0 (ji16)).f1).size + a1_1.size ≤ 9223372036854775807) = true := decide_eq_true c62
          try have c62b2 : (9223372036854775807 < ((rd_T60 l0 (ji16)).f1).size + a1_1.size) = False := eq_false (Nat.not_lt.2 c62)
          obtain ⟨y175, hy175⟩ : ∃ y_ : List (S60), y_ = (l0.set ((ji16) : Int).toNat (⟨(rd_T60 l0 (ji16)).f0, ((rd_T60 l0 (ji16)).f1) ++ a1_1, (rd_T60 l0 (ji16)).f2⟩ : S60)) := ⟨_, rfl⟩
          replace H : (some y175) = some r := by first | (rw [hy175]; with_reducible exact H) | (have H2_ := (Option.bind_some _ _).symm.trans H; rw [hy175]; with_reducible exact H2_) | (have H2_ := (Option.bind_some _ _).symm.trans H; with_reducible exact H2_) | with_reducible exact H | (rw [hy175]; exact H) | exact H
          have Ny175 := aM hy175
          clear hy175
          obtain rfl := Option.some.inj H
          try go_wp2
          replace HO_0 := aM (Kd.R_drew HO_0.out)
          replace BK164 := aM (blk_drew BK164.out)
          replace BK169 := aM (blk_drew BK169.out)
          replace HK := aM (Kept.drew HK.out)
          replace HB := aM (below_drew1 HB.out)
          have p174 : 0 ≤ ((ji16) : Int) := of_decide_eq_true (by assumption)
          have q174 : (ji16) < (l0.length : Int) := of_decide_eq_true (by assumption)
          obtain ⟨ad174, e174, hx174_0, hx174_1, hx174_2⟩ := at_T60 (Kd.R_reads' HO_0.out).2.2 (ji16) p174 q174
          (first | obtain rfl : ad168 = ad174 := (by injection e174) | cases e174)
          replace p174 := eq_true p174
          replace q174 := eq_true q174
          have p63 : 0 ≤ ((ji16) : Int) := of_decide_eq_true (by assumption)
          have q63 : ((ji16) : Int) < ((l0.length : Int) : Int) := of_decide_eq_true (by assumption)
          obtain ⟨go63, co63, eo63, gb63, gl63, cl63, HG63⟩ := Kd.R_form HO_0.out (by omega)
          (first | cases eo63 | (injection eo63 with ea_ en_ ec_; (first | subst ea_ | (injection ea_ with ea_; subst ea_)); subst ec_; clear en_))
          have GB63 := aM gb63
          have GG63 := aM HG63
          clear gb63 gl63 HG63
          have HMgo63 := aM (show (P0_ go63 ∨ w.heap.size ≤ go63) from (HO_0.out.1 _ rfl).1)
          (first | simp only [add_plain] at hx174_0 | skip)
          (first | simp only [add_plain] at hx174_1 | skip)
          (first | simp only [add_plain] at hx174_2 | skip)
          obtain ⟨ce63, hcl63, hM63, hcc63, hfr63⟩ := Kd.R_elem HO_0.out z60 ((ji16) : Int) p63 q63
          obtain rfl := k60_openM hM63
          have hx63_0 : World.cell? _ ⟨go63, ((ji16) : Int).toNat * 3, none⟩ = some (.int .i64 ((rd_T60 l0 (ji16)).f0)) := hcc63 0 _ rfl
          have hx63_1 : World.cell? _ ⟨go63, ((ji16) : Int).toNat * 3 + 1, none⟩ = some (.string ((rd_T60 l0 (ji16)).f1)) := hcc63 1 _ rfl
          have hx63_2 : World.cell? _ ⟨go63, ((ji16) : Int).toNat * 3 + 2, none⟩ = some (.string ((rd_T60 l0 (ji16)).f2)) := hcc63 2 _ rfl
          have hf63_0 : World.frozen? _ ⟨go63, ((ji16) : Int).toNat * 3, none⟩ = false := hfr63 0
          have hf63_1 : World.frozen? _ ⟨go63, ((ji16) : Int).toNat * 3 + 1, none⟩ = false := hfr63 1
          have hf63_2 : World.frozen? _ ⟨go63, ((ji16) : Int).toNat * 3 + 2, none⟩ = false := hfr63 2
          clear hcl63 hcc63 hfr63 hM63
          replace p63 := eq_true p63
          replace q63 := eq_true q63
          obtain ⟨ce65, hcl65, hM65, hcc65, hfr65⟩ := Kd.R_elem HO_0.out z60 ((ji16) : Int) (of_decide_eq_true (by assumption)) (by have h_ : ((ji16) : Int) < ((l0.length : Int) : Int) := of_decide_eq_true (by assumption); first | exact h_ | (have e_ := (Kd.R_reads' HO_0.out).1; omega) | simpa using h_)
          obtain rfl := k60_openM hM65
          have HP65 := (Kd.R_seg HO_0.out ((ji16) : Int) (of_decide_eq_true (by assumption)) (by have h_ : ((ji16) : Int) < ((l0.length : Int) : Int) := of_decide_eq_true (by assumption); first | exact h_ | (have e_ := (Kd.R_reads' HO_0.out).1; omega) | simpa using h_) (seg := [.string (((rd_T60 l0 (ji16)).f1) ++ a1_1)]) (j := 1) hcl65 hcc65 (show 2 ≤ 3 from by decide) (x' := (⟨(rd_T60 l0 (ji16)).f0, ((rd_T60 l0 (ji16)).f1) ++ a1_1, (rd_T60 l0 (ji16)).f2⟩ : S60)) (k60_mkM _ _ _ (⟨(rd_T60 l0 (ji16)).f0, ((rd_T60 l0 (ji16)).f1) ++ a1_1, (rd_T60 l0 (ji16)).f2⟩ : S60) ) (fun _ hk => hk)).1
          rw [← Ny175.out] at HP65
          have HQ65 := aM HP65
          clear hcl65 hcc65 hfr65 hM65 HP65
          refine start_ (n := 12) (S := fun w' => w'.cell? ⟨gb164, 0, none⟩ = some (.int .i64 a1_0) ∧ w'.cell? ⟨gb164, 1, none⟩ = some (.string a1_1) ∧ w'.cell? ⟨gb164, 2, none⟩ = some (.string a1_2) ∧ w'.cell? ⟨go63, ((ji16)).toNat * 3, none⟩ = some (.int .i64 ((rd_T60 l0 (ji16)).f0)) ∧ w'.cell? ⟨go63, ((ji16)).toNat * 3 + 1, none⟩ = some (.string ((rd_T60 l0 (ji16)).f1)) ∧ w'.cell? ⟨go63, ((ji16)).toNat * 3 + 2, none⟩ = some (.string ((rd_T60 l0 (ji16)).f2))) (ds := [11]) (Array.replicate 12 false) (by kernel_rfl) rfl rfl ⟨(blk_cell BK164.out 0).trans rfl, (blk_cell BK164.out 1).trans rfl, (blk_cell BK164.out 2).trans rfl, hx174_0, hx174_1, hx174_2⟩ (fun hHeld => ?_); refine with_tabW spec_l3Add.tab13 spec_l3Add.bits13 (fun HT_ HW_ => ?_)
          generalize wc.drew = w64 at HO_0 BK164 BK169 HK HB GG63 HQ65 hf63_0 hf63_1 hf63_2 hx174_0 hx174_1 hx174_2 hx63_0 hx63_1 hx63_2 hHeld ⊢
          refine pV 0 89 (bN 12 1) ?_
          refine pV 1 90 (bN 12 3) ?_
          refine pV 2 91 (bN 12 7) ?_
          refine pV 3 92 (bN 12 15) ?_
          refine pV 4 93 (bN 12 31) ?_
          refine pV 6 95 (bN 12 95) ?_
          refine tV6 5 94 (bN 12 127) ?_
          refine tV6 7 96 (bN 12 255) ?_
          refine pV 8 97 (bN 12 511) ?_
          refine pV 9 98 (bN 12 1023) ?_
          refine pV 10 99 (bN 12 2047) ?_
          refine last_ (i := 11) (N := none) (bN 12 4095) rfl rfl (one_of HT_.out (by kernel_rfl)) (by decide) (fun K hK => ?_)
          refine skip_ (w1 := ?_) (by rfl) rfl ?_ ?_
          rotate_left
          ·go_simp
           rfl
          refine hK.out _ _ ?_
          clear hK K
          refine done_ (done_of HT_.out (by kernel_rfl)) ?_
          try go_wp2
          go_ret
          exact ⟨_, by first | rfl | (simp [errW_none, errW_some] <;> rfl) | (simp only [← hji16, ← hji16]; first | rfl | (simp [errW_none, errW_some] <;> rfl)) | (simp [*, errW_none, errW_some] <;> rfl), by (with_reducible repeat (first | apply Kd.R_alloc | apply Kd.R_drewN | apply Kd.R_drew)); exact Kd.R_mono HQ65.out (fun _ hk => hk.1), by repeat (first | (with_reducible first | exact HB.out | apply below_alloc | apply pw_below_drewN | apply below_drew1 | refine below_set ?_ GB63.out | refine below_set ?_ GE164.out | refine below_set ?_ GE169.out) | exact HB.out), by repeat (first | (with_reducible first | exact HK.out | apply Kept.alloc | apply Kept.drewN | apply Kept.drew | refine Kept.setCell ?_ HMgo63.out _ | refine Kept.setCell ?_ (.inr GW164.out) _ | refine Kept.setCell ?_ (.inr GW169.out) _) | exact HK.out)⟩
         replace c58 := Bool.eq_false_iff.mpr c58
         subst c58
         replace H : (if a1_1.toList = ([] : List UInt8) then (spec_l3Add.j4 kj50 l0 (l0.length : Int) false a1_0 a1_1 a1_2 ((rd_T60 l0 (ji16)).f0) ((rd_T60 l0 (ji16)).f1) ((rd_T60 l0 (ji16)).f2)) else (spec_l3Add.j4 kj50 l0 (l0.length : Int) (((rd_T60 l0 (ji16)).f2).toList != ([] : List UInt8)) a1_0 a1_1 a1_2 ((rd_T60 l0 (ji16)).f0) ((rd_T60 l0 (ji16)).f1) ((rd_T60 l0 (ji16)).f2))) = some r := by rw [if_neg (show ¬ (false = true) by decide)] at H; exact H
         have HC66 := aM H
         clear H
         go_upto_region 14 with (fail)
         go_cut [100] (fun v100 wc => ∃ (kq : Nat) (x100_65 : Bool), v100 = .bool x100_65 ∧ Aside0 (spec_l3Add.j4 kq l0 (l0.length : Int) x100_65 a1_0 a1_1 a1_2 ((rd_T60 l0 (ji16)).f0) ((rd_T60 l0 (ji16)).f1) ((rd_T60 l0 (ji16)).f2) = some r) ∧ Aside0 (kq ≤ kj50) ∧ Aside0 (Kd.R k60 60 wc w0.heap.size (fun k_ => (P0_ k_ ∨ w.heap.size ≤ k_) ∧ k_ ≠ gb164 ∧ k_ ≠ gb169) (.slice (some ad168) l0.length co5) l0) ∧ Aside0 (wc.heap[gb164]? = some (.cells #[.int .i64 a1_0, .string a1_1, .string a1_2] 60 (0, 0))) ∧ Aside0 (wc.heap[gb169]? = some (.cells #[.int .i64 ((rd_T60 l0 (ji16)).f0), .string ((rd_T60 l0 (ji16)).f1), .string ((rd_T60 l0 (ji16)).f2)] 60 (0, 0))) ∧ Aside0 (Kept w wc (fun k_ => P0_ k_)) ∧ Aside0 (Below w0.heap.size w0 wc))
         case first =>
          have H := HC66.out
          clear HC66
          by_cases c67 : a1_1.toList = ([] : List UInt8)
          ·rw [if_pos c67] at H
           have c67b0 : (a1_1.toList == ([] : List UInt8)) = true := beq_iff_eq.mpr c67
           have c67b1 : (a1_1.toList != ([] : List UInt8)) = false := bne_eq_false_iff_eq.mpr c67
           try have c67e : a1_1.toList.isEmpty = true := List.isEmpty_iff.mpr c67
           clear c67
           (first | rw [c67b0] | (simp only [i64_w, i32_w]; rw [c67b0]) | rw [c67e] | skip)
           have H' := aM H
           clear H
           have hnb68 := NB164_169.out
           have hnc68 := NB169_164.out
           have hcz69_0 : wc.cell? ⟨gb164, 0, none⟩ = some (.int .i64 a1_0) := (blk_cell BK164.out 0).trans rfl
           have hcz69_1 : wc.cell? ⟨gb164, 1, none⟩ = some (.string a1_1) := (blk_cell BK164.out 1).trans rfl
           have hcz69_2 : wc.cell? ⟨gb164, 2, none⟩ = some (.string a1_2) := (blk_cell BK164.out 2).trans rfl
           have hfz69_0 := blk_frozen BK164.out 0
           have hfz69_1 := blk_frozen BK164.out 1
           have hfz69_2 := blk_frozen BK164.out 2
           go_wp2
           go_meet
           case rel => exact ⟨_, (false), aP16, H', ⟨by have := HJ2.out; have := HJ18.out; have := HJ35.out; have := HJ50.out; first | omega | exact Nat.le_refl _⟩, ⟨rR HO_0.out⟩, ⟨kK BK164.out⟩, ⟨kK BK169.out⟩, ⟨aP3⟩, ⟨aP4⟩⟩
          rw [if_neg c67] at H
          have c67b0 : (a1_1.toList == ([] : List UInt8)) = false := beq_eq_false_iff_ne.mpr c67
          have c67b1 : (a1_1.toList != ([] : List UInt8)) = true := bne_iff_ne.mpr c67
          try have c67e : a1_1.toList.isEmpty = false := List.isEmpty_eq_false_iff.mpr c67
          (first | rw [c67b0] | (simp only [i64_w, i32_w]; rw [c67b0]) | rw [c67e] | skip)
          have H' := aM H
          clear H
          have hnb70 := NB164_169.out
          have hnc70 := NB169_164.out
          have hcz71_0 : wc.cell? ⟨gb164, 0, none⟩ = some (.int .i64 a1_0) := (blk_cell BK164.out 0).trans rfl
          have hcz71_1 : wc.cell? ⟨gb164, 1, none⟩ = some (.string a1_1) := (blk_cell BK164.out 1).trans rfl
          have hcz71_2 : wc.cell? ⟨gb164, 2, none⟩ = some (.string a1_2) := (blk_cell BK164.out 2).trans rfl
          have hfz71_0 := blk_frozen BK164.out 0
          have hfz71_1 := blk_frozen BK164.out 1
          have hfz71_2 := blk_frozen BK164.out 2
          have hcz72_0 : wc.cell? ⟨gb169, 0, none⟩ = some (.int .i64 ((rd_T60 l0 (ji16)).f0)) := (blk_cell BK169.out 0).trans rfl
          have hcz72_1 : wc.cell? ⟨gb169, 1, none⟩ = some (.string ((rd_T60 l0 (ji16)).f1)) := (blk_cell BK169.out 1).trans rfl
          have hcz72_2 : wc.cell? ⟨gb169, 2, none⟩ = some (.string ((rd_T60 l0 (ji16)).f2)) := (blk_cell BK169.out 2).trans rfl
          have hfz72_0 := blk_frozen BK169.out 0
          have hfz72_1 := blk_frozen BK169.out 1
          have hfz72_2 := blk_frozen BK169.out 2
          go_wp2
          go_meet
          case rel => exact ⟨_, ((((rd_T60 l0 (ji16)).f2).toList != ([] : List UInt8))), aP18, aP20, ⟨by have := HJ2.out; have := HJ18.out; have := HJ35.out; have := HJ50.out; first | omega | exact Nat.le_refl _⟩, ⟨rR HO_0.out⟩, ⟨kK BK164.out⟩, ⟨kK BK169.out⟩, ⟨aP3⟩, ⟨aP4⟩⟩
         case rest =>
          clear HC66
          try clear c1
          try clear p1
          try clear q1
          try clear hx1
          try clear c2
          try clear p2
          try clear c3
          try clear p3
          try clear q3
          try clear hx3
          try clear hf3
          try clear c4
          try clear p4
          try clear q4
          try clear hx4
          try clear hf4
          try clear c5
          try clear c6
          try clear c6b0
          try clear c6b1
          try clear p6
          try clear q6
          try clear hx6
          try clear hf6
          try clear c7
          try clear c7b0
          try clear c7b1
          try clear c11
          try clear c12
          try clear c12b0
          try clear c12b1
          try clear c12b2
          try clear c13
          try clear p16
          try clear q16
          try clear hx16
          try clear c17
          try clear c17b0
          try clear p17
          try clear q17
          try clear hx17
          try clear c18
          try clear c18b0
          try clear c21
          try clear c23
          try clear c23b0
          try clear c24
          try clear c27
          try clear c29
          try clear c31
          try clear c31b0
          try clear c32
          try clear c32b0
          try clear c33
          try clear p33
          try clear q33
          try clear hx33
          try clear hf33
          try clear c35
          try clear c37
          try clear c37b0
          try clear c37b1
          try clear c38
          try clear c40
          try clear c43
          try clear c45
          try clear c45b0
          try clear c46
          try clear c46b0
          try clear c47
          try clear c47b0
          try clear c47b1
          try clear c47b2
          try clear c48
          try clear p48
          try clear q48
          try clear hx48
          try clear hf48
          try clear c50
          try clear c52
          try clear c52b0
          try clear c52b1
          try clear c53
          try clear c55
          try clear c58
          try clear c60
          try clear c60b0
          try clear c61
          try clear c61b0
          try clear c62
          try clear c62b0
          try clear c62b1
          try clear c62b2
          try clear c63
          try clear p63
          try clear q63
          try clear hx63
          try clear hf63
          try clear p64
          try clear c65
          try clear c67
          try clear c67b0
          try clear c67b1
          try clear c68
          try clear c70
          try clear hcz10_0
          try clear hcz10_1
          try clear hcz10_2
          try clear hcz14_0
          try clear hcz14_1
          try clear hcz14_2
          try clear hcz22_0
          try clear hcz22_1
          try clear hcz22_2
          try clear hcz25_0
          try clear hcz25_1
          try clear hcz25_2
          try clear hcz26_0
          try clear hcz26_1
          try clear hcz26_2
          try clear hcz28_0
          try clear hcz28_1
          try clear hcz28_2
          try clear hcz39_0
          try clear hcz39_1
          try clear hcz39_2
          try clear hcz41_0
          try clear hcz41_1
          try clear hcz41_2
          try clear hcz42_0
          try clear hcz42_1
          try clear hcz42_2
          try clear hcz54_0
          try clear hcz54_1
          try clear hcz54_2
          try clear hcz56_0
          try clear hcz56_1
          try clear hcz56_2
          try clear hcz57_0
          try clear hcz57_1
          try clear hcz57_2
          try clear hcz69_0
          try clear hcz69_1
          try clear hcz69_2
          try clear hcz71_0
          try clear hcz71_1
          try clear hcz71_2
          try clear hcz72_0
          try clear hcz72_1
          try clear hcz72_2
          try clear hcz8_0
          try clear hcz8_1
          try clear hcz8_2
          try clear hcz9_0
          try clear hcz9_1
          try clear hcz9_2
          try clear hfz10_0
          try clear hfz10_1
          try clear hfz10_2
          try clear hfz14_0
          try clear hfz14_1
          try clear hfz14_2
          try clear hfz22_0
          try clear hfz22_1
          try clear hfz22_2
          try clear hfz25_0
          try clear hfz25_1
          try clear hfz25_2
          try clear hfz26_0
          try clear hfz26_1
          try clear hfz26_2
          try clear hfz28_0
          try clear hfz28_1
          try clear hfz28_2
          try clear hfz39_0
          try clear hfz39_1
          try clear hfz39_2
          try clear hfz41_0
          try clear hfz41_1
          try clear hfz41_2
          try clear hfz42_0
          try clear hfz42_1
          try clear hfz42_2
          try clear hfz54_0
          try clear hfz54_1
          try clear hfz54_2
          try clear hfz56_0
          try clear hfz56_1
          try clear hfz56_2
          try clear hfz57_0
          try clear hfz57_1
          try clear hfz57_2
          try clear hfz69_0
          try clear hfz69_1
          try clear hfz69_2
          try clear hfz71_0
          try clear hfz71_1
          try clear hfz71_2
          try clear hfz72_0
          try clear hfz72_1
          try clear hfz72_2
          try clear hfz8_0
          try clear hfz8_1
          try clear hfz8_2
          try clear hfz9_0
          try clear hfz9_1
          try clear hfz9_2
          try clear hx168_0
          try clear hx168_1
          try clear hx168_2
          try clear hx170_0
          try clear hx170_1
          try clear hx170_2
          try clear hx172_0
          try clear hx172_1
          try clear hx172_2
          try clear hx174_0
          try clear hx174_1
          try clear hx174_2
          try clear hx33_0
          try clear hx33_1
          try clear hx33_2
          try clear hx48_0
          try clear hx48_1
          try clear hx48_2
          try clear hx63_0
          try clear hx63_1
          try clear hx63_2
          try clear p1
          try clear p16
          try clear p168
          try clear p17
          try clear p170
          try clear p172
          try clear p174
          try clear p2
          try clear p3
          try clear p33
          try clear p4
          try clear p48
          try clear p6
          try clear p63
          try clear q1
          try clear q16
          try clear q168
          try clear q17
          try clear q170
          try clear q172
          try clear q174
          try clear q3
          try clear q33
          try clear q4
          try clear q48
          try clear q63
          obtain ⟨kq, x100_65, rfl, HA, HJ65, HO_0, BK164, BK169, HK, HB⟩ := hcut
          cases kq with
          | zero => exact absurd HA.out (by simp [spec_l3Add.j4])
          | succ kj65 =>
           have H := HA.out
           clear HA
           simp only [spec_l3Add.j4] at H
           by_cases c73 : x100_65 = true
           rotate_left
           ·replace c73 := Bool.eq_false_iff.mpr c73
            subst c73
            replace H : (if l0.length < 3518437208883 then (some (l0 ++ [(⟨a1_0, a1_1, a1_2⟩ : S60)])) else (none)) = some r := by rw [if_neg (show ¬ (false = true) by decide)] at H; exact H
            by_cases c105 : l0.length < 3518437208883
            rotate_left
            ·rw [if_neg c105] at H
             exact absurd H (by simp)
            rw [if_pos c105] at H
            have LMc105 := aM c105
            clear c105
            obtain ⟨y187, hy187⟩ : ∃ y_ : List (S60), y_ = (l0 ++ [(⟨a1_0, a1_1, a1_2⟩ : S60)]) := ⟨_, rfl⟩
            replace H : (some y187) = some r := by first | (rw [hy187]; with_reducible exact H) | (have H2_ := (Option.bind_some _ _).symm.trans H; rw [hy187]; with_reducible exact H2_) | (have H2_ := (Option.bind_some _ _).symm.trans H; with_reducible exact H2_) | with_reducible exact H | (rw [hy187]; exact H) | exact H
            have Ny187 := aM hy187
            clear hy187
            obtain rfl := Option.some.inj H
            have hnb106 := NB164_169.out
            have hnc106 := NB169_164.out
            have hcz107_0 : wc.cell? ⟨gb164, 0, none⟩ = some (.int .i64 a1_0) := (blk_cell BK164.out 0).trans rfl
            have hcz107_1 : wc.cell? ⟨gb164, 1, none⟩ = some (.string a1_1) := (blk_cell BK164.out 1).trans rfl
            have hcz107_2 : wc.cell? ⟨gb164, 2, none⟩ = some (.string a1_2) := (blk_cell BK164.out 2).trans rfl
            have hfz107_0 := blk_frozen BK164.out 0
            have hfz107_1 := blk_frozen BK164.out 1
            have hfz107_2 := blk_frozen BK164.out 2
            go_wp2_with (first | ((with_reducible refine gate_builtin (b := .append) (xs := #[.tmp 36, .tmp 38]) rfl ?_); at_builtin; refine Kd.R_append k60 (w0 := w0) w0.heap.size rfl (.tmp 36) (.tmp 38) 26 60 (.agg #[(.int .i64 0), (.string ⟨#[]⟩), (.string ⟨#[]⟩)]) 40 rfl Try.underlying26 info60 rfl (by decide) (by omega) (.slice (some ad168) l0.length co5) l0 (⟨a1_0, a1_1, a1_2⟩ : S60) [.int .i64 a1_0, .string a1_1, .string a1_2] (fun k_ => (P0_ k_ ∨ w.heap.size ≤ k_) ∧ k_ ≠ gb164 ∧ k_ ≠ gb169) (fun _ => False) rfl rfl ?aP (fun _ hk => hk.elim) ?aF ?aO ?aB ?aS ?aL ?_; (case aP => exact k60_mkM _ _ _ (⟨a1_0, a1_1, a1_2⟩ : S60)); (case aB => exact aP4); (case aF => exact (fun k_ hk => ⟨(.inr (Nat.le_trans (by first | exact HK.out.1 | exact (show Kept w _ (fun k_ => P0_ k_) from aP3).1) hk)), Kd.freshB (g := gb164) (o := .cells #[.int .i64 a1_0, .string a1_1, .string a1_2] 60 (0, 0)) (kK BK164.out) k_ hk, Kd.freshB (g := gb169) (o := .cells #[.int .i64 ((rd_T60 l0 (ji16)).f0), .string ((rd_T60 l0 (ji16)).f1), .string ((rd_T60 l0 (ji16)).f2)] 60 (0, 0)) (kK BK169.out) k_ hk⟩)); (case aO => exact (rR HO_0.out)); (case aS => exact (below_size aP4)); (case aL => have := LMc105.out; omega); intro v188 w108 ho hb hg hat; rw [← Ny187.out] at ho; have HO189 := aM (ho); replace BK164 := aM (blk_grown (g := gb164) (o := .cells #[.int .i64 a1_0, .string a1_1, .string a1_2] 60 (0, 0)) (kK BK164.out) hg (Kd.R_away HO_0.out (fun _ hk => hk.2.1))); replace BK169 := aM (blk_grown (g := gb169) (o := .cells #[.int .i64 ((rd_T60 l0 (ji16)).f0), .string ((rd_T60 l0 (ji16)).f1), .string ((rd_T60 l0 (ji16)).f2)] 60 (0, 0)) (kK BK169.out) hg (Kd.R_away HO_0.out (fun _ hk => hk.2.2))); replace HB := aM (hb); replace HK := aM (Kept.of_grown (S := (fun k_ => P0_ k_)) hg aP3 (fun k_ e_ => (HO_0.out.1 k_ e_).1)); clear ho hb hg hat))
            go_ret
            exact ⟨_, by first | rfl | (simp [errW_none, errW_some] <;> rfl) | (simp only [← hji16]; first | rfl | (simp [errW_none, errW_some] <;> rfl)) | (simp [*, errW_none, errW_some] <;> rfl), by (with_reducible repeat (first | apply Kd.R_alloc | apply Kd.R_drewN | apply Kd.R_drew)); exact Kd.R_mono HO189.out (fun _ hk => hk.1), by exact aP4, aP3⟩
           subst c73
           replace H : (if (l0.length : Int) > 1 then (if 0 ≤ (wrap64 ((l0.length : Int) - 2)) then (if (wrap64 ((l0.length : Int) - 2)) < (l0.length : Int) then (if ((rd_T60 l0 (wrap64 ((l0.length : Int) - 2))).f1).toList = ([] : List UInt8) then (if 0 ≤ (wrap64 ((l0.length : Int) - 1)) then (if (wrap64 ((l0.length : Int) - 1)) < (l0.length : Int) then ((some (l0.set ((wrap64 ((l0.length : Int) - 1)) : Int).toNat (⟨a1_0, a1_1, a1_2⟩ : S60) : List (S60))).bind fun y177 => (if y177.length < 3518437208883 then (some (y177 ++ [(⟨((rd_T60 l0 (ji16)).f0), ((rd_T60 l0 (ji16)).f1), ((rd_T60 l0 (ji16)).f2)⟩ : S60)])) else (none))) else (none)) else (none)) else (if ((rd_T60 l0 (wrap64 ((l0.length : Int) - 2))).f1).size + a1_1.size ≤ 9223372036854775807 then (some (l0.set ((wrap64 ((l0.length : Int) - 2)) : Int).toNat (⟨(rd_T60 l0 (wrap64 ((l0.length : Int) - 2))).f0, ((rd_T60 l0 (wrap64 ((l0.length : Int) - 2))).f1) ++ a1_1, (rd_T60 l0 (wrap64 ((l0.length : Int) - 2))).f2⟩ : S60))) else (none))) else (none)) else (none)) else (if 0 ≤ (wrap64 ((l0.length : Int) - 1)) then (if (wrap64 ((l0.length : Int) - 1)) < (l0.length : Int) then ((some (l0.set ((wrap64 ((l0.length : Int) - 1)) : Int).toNat (⟨a1_0, a1_1, a1_2⟩ : S60) : List (S60))).bind fun y183 => (if y183.length < 3518437208883 then (some (y183 ++ [(⟨((rd_T60 l0 (ji16)).f0), ((rd_T60 l0 (ji16)).f1), ((rd_T60 l0 (ji16)).f2)⟩ : S60)])) else (none))) else (none)) else (none))) = some r := by rw [if_pos rfl] at H; exact H
           by_cases c74 : (l0.length : Int) > 1
           rotate_left
           ·rw [if_neg c74] at H
            have c74b0 : decide (1 < (l0.length : Int)) = false := decide_eq_false c74
            have c74b1 : decide (1 < l0.length) = false := decide_eq_false (by omega)
            clear c74
            replace H : (if 0 ≤ (ji16) then (if (ji16) < (l0.length : Int) then ((some (l0.set ((ji16) : Int).toNat (⟨a1_0, a1_1, a1_2⟩ : S60) : List (S60))).bind fun y183 => (if y183.length < 3518437208883 then (some (y183 ++ [(⟨((rd_T60 l0 (ji16)).f0), ((rd_T60 l0 (ji16)).f1), ((rd_T60 l0 (ji16)).f2)⟩ : S60)])) else (none))) else (none)) else (none)) = some r := by first | (rw [hji16] at H; exact H) | (simp only [hji16] at H ⊢; exact H)
            by_cases c95 : 0 ≤ (ji16)
            rotate_left
            ·rw [if_neg c95] at H
             exact absurd H (by simp)
            rw [if_pos c95] at H
            have c95b0 : decide (0 ≤ (ji16)) = true := decide_eq_true c95
            clear c95
            by_cases c96 : (ji16) < (l0.length : Int)
            rotate_left
            ·rw [if_neg c96] at H
             exact absurd H (by simp)
            rw [if_pos c96] at H
            have c96b0 : decide ((ji16) < (l0.length : Int)) = true := decide_eq_true c96
            clear c96
            obtain ⟨y183, hy183⟩ : ∃ y_ : List (S60), y_ = (l0.set ((ji16) : Int).toNat (⟨a1_0, a1_1, a1_2⟩ : S60)) := ⟨_, rfl⟩
            replace H : (if y183.length < 3518437208883 then (some (y183 ++ [(⟨((rd_T60 l0 (ji16)).f0), ((rd_T60 l0 (ji16)).f1), ((rd_T60 l0 (ji16)).f2)⟩ : S60)])) else (none)) = some r := by first | (rw [hy183]; with_reducible exact H) | (have H2_ := (Option.bind_some _ _).symm.trans H; rw [hy183]; with_reducible exact H2_) | (have H2_ := (Option.bind_some _ _).symm.trans H; with_reducible exact H2_) | with_reducible exact H | (rw [hy183]; exact H) | exact H
            have Ny183 := aM hy183
            clear hy183
            by_cases c98 : y183.length < 3518437208883
            rotate_left
            ·rw [if_neg c98] at H
             exact absurd H (by simp)
            rw [if_pos c98] at H
            have LMc98 := aM c98
            clear c98
            obtain ⟨y184, hy184⟩ : ∃ y_ : List (S60), y_ = (y183 ++ [(⟨((rd_T60 l0 (ji16)).f0), ((rd_T60 l0 (ji16)).f1), ((rd_T60 l0 (ji16)).f2)⟩ : S60)]) := ⟨_, rfl⟩
            replace H : (some y184) = some r := by first | (rw [hy184]; with_reducible exact H) | (have H2_ := (Option.bind_some _ _).symm.trans H; rw [hy184]; with_reducible exact H2_) | (have H2_ := (Option.bind_some _ _).symm.trans H; with_reducible exact H2_) | with_reducible exact H | (rw [hy184]; exact H) | exact H
            have Ny184 := aM hy184
            clear hy184
            obtain rfl := Option.some.inj H
            have hnb99 := NB164_169.out
            have hnc99 := NB169_164.out
            have hcz100_0 : wc.cell? ⟨gb164, 0, none⟩ = some (.int .i64 a1_0) := (blk_cell BK164.out 0).trans rfl
            have hcz100_1 : wc.cell? ⟨gb164, 1, none⟩ = some (.string a1_1) := (blk_cell BK164.out 1).trans rfl
            have hcz100_2 : wc.cell? ⟨gb164, 2, none⟩ = some (.string a1_2) := (blk_cell BK164.out 2).trans rfl
            have hfz100_0 := blk_frozen BK164.out 0
            have hfz100_1 := blk_frozen BK164.out 1
            have hfz100_2 := blk_frozen BK164.out 2
            have p97 : 0 ≤ ((ji16) : Int) := of_decide_eq_true (by assumption)
            have q97 : ((ji16) : Int) < ((l0.length : Int) : Int) := of_decide_eq_true (by assumption)
            obtain ⟨go97, co97, eo97, gb97, gl97, cl97, HG97⟩ := Kd.R_form HO_0.out (by omega)
            (first | cases eo97 | (injection eo97 with ea_ en_ ec_; (first | subst ea_ | (injection ea_ with ea_; subst ea_)); subst ec_; clear en_))
            have GB97 := aM gb97
            have GG97 := aM HG97
            clear gb97 gl97 HG97
            have HMgo97 := aM (show (P0_ go97 ∨ w.heap.size ≤ go97) from (HO_0.out.1 _ rfl).1)
            obtain ⟨ce97, hcl97, hM97, hcc97, hfr97⟩ := Kd.R_elem HO_0.out z60 ((ji16) : Int) p97 q97
            obtain rfl := k60_openM hM97
            have hx97_0 : wc.cell? ⟨go97, ((ji16) : Int).toNat * 3, none⟩ = some (.int .i64 ((rd_T60 l0 (ji16)).f0)) := hcc97 0 _ rfl
            have hx97_1 : wc.cell? ⟨go97, ((ji16) : Int).toNat * 3 + 1, none⟩ = some (.string ((rd_T60 l0 (ji16)).f1)) := hcc97 1 _ rfl
            have hx97_2 : wc.cell? ⟨go97, ((ji16) : Int).toNat * 3 + 2, none⟩ = some (.string ((rd_T60 l0 (ji16)).f2)) := hcc97 2 _ rfl
            have hf97_0 : wc.frozen? ⟨go97, ((ji16) : Int).toNat * 3, none⟩ = false := hfr97 0
            have hf97_1 : wc.frozen? ⟨go97, ((ji16) : Int).toNat * 3 + 1, none⟩ = false := hfr97 1
            have hf97_2 : wc.frozen? ⟨go97, ((ji16) : Int).toNat * 3 + 2, none⟩ = false := hfr97 2
            clear hcl97 hcc97 hfr97 hM97
            replace p97 := eq_true p97
            replace q97 := eq_true q97
            have HX101 := aM (show Kd.R k60 60 wc w0.heap.size (fun k_ => (P0_ k_ ∨ w.heap.size ≤ k_) ∧ k_ ≠ gb164 ∧ k_ ≠ gb169) (.slice (some ⟨go97, 0, none⟩) l0.length co5) l0 from (rR HO_0.out))
            obtain ⟨ce101, hcl101, hM101, hcc101, hfr101⟩ := Kd.R_elem HX101.out z60 ((ji16) : Int) (of_decide_eq_true (by assumption)) (by have h_ : ((ji16) : Int) < ((l0.length : Int) : Int) := of_decide_eq_true (by assumption); first | exact h_ | (have e_ := (Kd.R_reads' HO_0.out).1; omega) | simpa using h_)
            obtain rfl := k60_openM hM101
            have HP101 := Kd.R_seg HX101.out ((ji16) : Int) (of_decide_eq_true (by assumption)) (by have h_ : ((ji16) : Int) < ((l0.length : Int) : Int) := of_decide_eq_true (by assumption); first | exact h_ | (have e_ := (Kd.R_reads' HO_0.out).1; omega) | simpa using h_) (seg := [.int .i64 a1_0, .string a1_1, .string a1_2]) (j := 0) hcl101 hcc101 (show 3 ≤ 3 from by decide) (x' := (⟨a1_0, a1_1, a1_2⟩ : S60)) (k60_mkM _ _ _ (⟨a1_0, a1_1, a1_2⟩ : S60) ) (fun _ hk => hk)
            have hx101_0 := hcc101 0 _ rfl
            (try simp only [show (k60).sz = 3 from rfl, Nat.mul_one, Nat.add_zero] at hx101_0)
            have hf101_0 := hfr101 0
            (try simp only [show (k60).sz = 3 from rfl, Nat.mul_one, Nat.add_zero] at hf101_0)
            have hx101_1 := hcc101 1 _ rfl
            (try simp only [show (k60).sz = 3 from rfl, Nat.mul_one, Nat.add_zero] at hx101_1)
            have hf101_1 := hfr101 1
            (try simp only [show (k60).sz = 3 from rfl, Nat.mul_one, Nat.add_zero] at hf101_1)
            have hx101_2 := hcc101 2 _ rfl
            (try simp only [show (k60).sz = 3 from rfl, Nat.mul_one, Nat.add_zero] at hx101_2)
            have hf101_2 := hfr101 2
            (try simp only [show (k60).sz = 3 from rfl, Nat.mul_one, Nat.add_zero] at hf101_2)
            clear hcl101 hcc101 hfr101 hM101
            go_wp2_with (first | ((with_reducible refine gate_store (t := 60) (p := 136) rfl ?_); refine store_event (t := 60) (p := 136) (v := ?vo_w102) (w1 := (((wc.setCell ⟨go97, ((ji16) : Int).toNat * 3, none⟩ (.int .i64 a1_0)).setCell ⟨go97, ((ji16) : Int).toNat * 3 + 1, none⟩ (.string a1_1)).setCell ⟨go97, ((ji16) : Int).toNat * 3 + 2, none⟩ (.string a1_2))) ?hg ?ho ?hn ?hr ?_; (case ho => rfl); (case hg => rfl); (case hn => rfl); (case hr => exact aP21); intro w102 hw; have hg : wc.grownBy w102 (some go97) := (by rw [hw]; exact HP101.2); have hp_ : Kd.R k60 60 w102 w0.heap.size (fun k_ => (P0_ k_ ∨ w.heap.size ≤ k_) ∧ k_ ≠ gb164 ∧ k_ ≠ gb169) (.slice (some ⟨go97, 0, none⟩) l0.length co5) y183 := (by rw [hw, Ny183.out]; exact HP101.1); clear HP101; have n0_ := aM (hp_); have n1_ := aM (blk_grown (g := gb164) (o := .cells #[.int .i64 a1_0, .string a1_1, .string a1_2] 60 (0, 0)) (kK BK164.out) hg (Kd.R_away HO_0.out (fun _ hk => hk.2.1))); have n2_ := aM (blk_grown (g := gb169) (o := .cells #[.int .i64 ((rd_T60 l0 (ji16)).f0), .string ((rd_T60 l0 (ji16)).f1), .string ((rd_T60 l0 (ji16)).f2)] 60 (0, 0)) (kK BK169.out) hg (Kd.R_away HO_0.out (fun _ hk => hk.2.2))); have n3_ := aM ((by rw [hw]; exact below_set (below_set (below_set (HB.out) GB97.out) GB97.out) GB97.out : Below w0.heap.size w0 w102)); have n4_ := aM (Kept.of_grown (S := (fun k_ => P0_ k_)) hg aP3 (fun k_ e_ => (HO_0.out.1 k_ e_).1)); clear HO_0; clear BK164; clear BK169; clear HB; clear HK; have HO_0 := n0_; have BK164 := n1_; have BK169 := n2_; have HB := n3_; have HK := n4_; clear n0_ n1_ n2_ n3_ n4_; clear hg hw hp_; have hcz103_0 : w102.cell? ⟨gb169, 0, none⟩ = some (.int .i64 ((rd_T60 l0 (ji16)).f0)) := (blk_cell BK169.out 0).trans rfl; have hcz103_1 : w102.cell? ⟨gb169, 1, none⟩ = some (.string ((rd_T60 l0 (ji16)).f1)) := (blk_cell BK169.out 1).trans rfl; have hcz103_2 : w102.cell? ⟨gb169, 2, none⟩ = some (.string ((rd_T60 l0 (ji16)).f2)) := (blk_cell BK169.out 2).trans rfl; have hfz103_0 := blk_frozen BK169.out 0; have hfz103_1 := blk_frozen BK169.out 1; have hfz103_2 := blk_frozen BK169.out 2) | ((with_reducible refine gate_builtin (b := .append) (xs := #[.tmp 137, .tmp 139]) rfl ?_); at_builtin; refine Kd.R_append k60 (w0 := w0) w0.heap.size rfl (.tmp 137) (.tmp 139) 26 60 (.agg #[(.int .i64 0), (.string ⟨#[]⟩), (.string ⟨#[]⟩)]) 40 rfl Try.underlying26 info60 rfl (by decide) (by omega) (.slice (some ⟨go97, 0, none⟩) l0.length co5) y183 (⟨((rd_T60 l0 (ji16)).f0), ((rd_T60 l0 (ji16)).f1), ((rd_T60 l0 (ji16)).f2)⟩ : S60) [.int .i64 ((rd_T60 l0 (ji16)).f0), .string ((rd_T60 l0 (ji16)).f1), .string ((rd_T60 l0 (ji16)).f2)] (fun k_ => (P0_ k_ ∨ w.heap.size ≤ k_) ∧ k_ ≠ gb164 ∧ k_ ≠ gb169) (fun _ => False) rfl rfl ?aP (fun _ hk => hk.elim) ?aF ?aO ?aB ?aS ?aL ?_; (case aP => exact k60_mkM _ _ _ (⟨((rd_T60 l0 (ji16)).f0), ((rd_T60 l0 (ji16)).f1), ((rd_T60 l0 (ji16)).f2)⟩ : S60)); (case aB => exact aP4); (case aF => exact (fun k_ hk => ⟨(.inr (Nat.le_trans (by first | exact HK.out.1 | exact (show Kept w _ (fun k_ => P0_ k_) from aP3).1) hk)), Kd.freshB (g := gb164) (o := .cells #[.int .i64 a1_0, .string a1_1, .string a1_2] 60 (0, 0)) (kK BK164.out) k_ hk, Kd.freshB (g := gb169) (o := .cells #[.int .i64 ((rd_T60 l0 (ji16)).f0), .string ((rd_T60 l0 (ji16)).f1), .string ((rd_T60 l0 (ji16)).f2)] 60 (0, 0)) (kK BK169.out) k_ hk⟩)); (case aO => exact (rR HO_0.out)); (case aS => exact (below_size aP4)); (case aL => have := LMc98.out; omega); intro v185 w104 ho hb hg hat; rw [← Ny184.out] at ho; have HO186 := aM (ho); replace BK164 := aM (blk_grown (g := gb164) (o := .cells #[.int .i64 a1_0, .string a1_1, .string a1_2] 60 (0, 0)) (kK BK164.out) hg (Kd.R_away HO_0.out (fun _ hk => hk.2.1))); replace BK169 := aM (blk_grown (g := gb169) (o := .cells #[.int .i64 ((rd_T60 l0 (ji16)).f0), .string ((rd_T60 l0 (ji16)).f1), .string ((rd_T60 l0 (ji16)).f2)] 60 (0, 0)) (kK BK169.out) hg (Kd.R_away HO_0.out (fun _ hk => hk.2.2))); replace HB := aM (hb); replace HK := aM (Kept.of_grown (S := (fun k_ => P0_ k_)) hg aP3 (fun k_ e_ => (HO_0.out.1 k_ e_).1)); clear ho hb hg hat))
            go_ret
            exact ⟨_, by first | rfl | (simp [errW_none, errW_some] <;> rfl) | (simp only [← hji16, ← hji16]; first | rfl | (simp [errW_none, errW_some] <;> rfl)) | (simp [*, errW_none, errW_some] <;> rfl), by (with_reducible repeat (first | apply Kd.R_alloc | apply Kd.R_drewN | apply Kd.R_drew)); exact Kd.R_mono HO186.out (fun _ hk => hk.1), by exact aP4, aP3⟩
           rw [if_pos c74] at H
           have c74b0 : decide (1 < (l0.length : Int)) = true := decide_eq_true c74
           have c74b1 : decide (1 < l0.length) = true := decide_eq_true (by omega)
           clear c74
           obtain ⟨ji75, hji75⟩ : ∃ j_ : Int, (wrap64 ((l0.length : Int) - 2)) = j_ := ⟨_, rfl⟩
           replace H : (if 0 ≤ (ji75) then (if (ji75) < (l0.length : Int) then (if ((rd_T60 l0 (ji75)).f1).toList = ([] : List UInt8) then (if 0 ≤ (wrap64 ((l0.length : Int) - 1)) then (if (wrap64 ((l0.length : Int) - 1)) < (l0.length : Int) then ((some (l0.set ((wrap64 ((l0.length : Int) - 1)) : Int).toNat (⟨a1_0, a1_1, a1_2⟩ : S60) : List (S60))).bind fun y177 => (if y177.length < 3518437208883 then (some (y177 ++ [(⟨((rd_T60 l0 (ji16)).f0), ((rd_T60 l0 (ji16)).f1), ((rd_T60 l0 (ji16)).f2)⟩ : S60)])) else (none))) else (none)) else (none)) else (if ((rd_T60 l0 (ji75)).f1).size + a1_1.size ≤ 9223372036854775807 then (some (l0.set ((ji75) : Int).toNat (⟨(rd_T60 l0 (ji75)).f0, ((rd_T60 l0 (ji75)).f1) ++ a1_1, (rd_T60 l0 (ji75)).f2⟩ : S60))) else (none))) else (none)) else (none)) = some r := by first | (rw [hji75] at H; exact H) | (simp only [hji75] at H ⊢; exact H)
           have hji75w : (IntKind.i64.wrap ((l0.length : Int) - 2)) = ji75 := (i64_w _).trans hji75
           by_cases c76 : 0 ≤ (ji75)
           rotate_left
           ·rw [if_neg c76] at H
            exact absurd H (by simp)
           rw [if_pos c76] at H
           have c76b0 : decide (0 ≤ (ji75)) = true := decide_eq_true c76
           clear c76
           by_cases c77 : (ji75) < (l0.length : Int)
           rotate_left
           ·rw [if_neg c77] at H
            exact absurd H (by simp)
           rw [if_pos c77] at H
           have c77b0 : decide ((ji75) < (l0.length : Int)) = true := decide_eq_true c77
           clear c77
           by_cases c78 : ((rd_T60 l0 (ji75)).f1).toList = ([] : List UInt8)
           ·rw [if_pos c78] at H
            have c78b0 : (((rd_T60 l0 (ji75)).f1).toList == ([] : List UInt8)) = true := beq_iff_eq.mpr c78
            have c78b1 : (((rd_T60 l0 (ji75)).f1).toList != ([] : List UInt8)) = false := bne_eq_false_iff_eq.mpr c78
            try have c78e : ((rd_T60 l0 (ji75)).f1).toList.isEmpty = true := List.isEmpty_iff.mpr c78
            clear c78
            replace H : (if 0 ≤ (ji16) then (if (ji16) < (l0.length : Int) then ((some (l0.set ((ji16) : Int).toNat (⟨a1_0, a1_1, a1_2⟩ : S60) : List (S60))).bind fun y177 => (if y177.length < 3518437208883 then (some (y177 ++ [(⟨((rd_T60 l0 (ji16)).f0), ((rd_T60 l0 (ji16)).f1), ((rd_T60 l0 (ji16)).f2)⟩ : S60)])) else (none))) else (none)) else (none)) = some r := by first | (rw [hji16] at H; exact H) | (simp only [hji16] at H ⊢; exact H)
            by_cases c80 : 0 ≤ (ji16)
            rotate_left
            ·rw [if_neg c80] at H
             exact absurd H (by simp)
            rw [if_pos c80] at H
            have c80b0 : decide (0 ≤ (ji16)) = true := decide_eq_true c80
            clear c80
            by_cases c81 : (ji16) < (l0.length : Int)
            rotate_left
            ·rw [if_neg c81] at H
             exact absurd H (by simp)
            rw [if_pos c81] at H
            have c81b0 : decide ((ji16) < (l0.length : Int)) = true := decide_eq_true c81
            clear c81
            obtain ⟨y177, hy177⟩ : ∃ y_ : List (S60), y_ = (l0.set ((ji16) : Int).toNat (⟨a1_0, a1_1, a1_2⟩ : S60)) := ⟨_, rfl⟩
            replace H : (if y177.length < 3518437208883 then (some (y177 ++ [(⟨((rd_T60 l0 (ji16)).f0), ((rd_T60 l0 (ji16)).f1), ((rd_T60 l0 (ji16)).f2)⟩ : S60)])) else (none)) = some r := by first | (rw [hy177]; with_reducible exact H) | (have H2_ := (Option.bind_some _ _).symm.trans H; rw [hy177]; with_reducible exact H2_) | (have H2_ := (Option.bind_some _ _).symm.trans H; with_reducible exact H2_) | with_reducible exact H | (rw [hy177]; exact H) | exact H
            have Ny177 := aM hy177
            clear hy177
            by_cases c83 : y177.length < 3518437208883
            rotate_left
            ·rw [if_neg c83] at H
             exact absurd H (by simp)
            rw [if_pos c83] at H
            have LMc83 := aM c83
            clear c83
            obtain ⟨y178, hy178⟩ : ∃ y_ : List (S60), y_ = (y177 ++ [(⟨((rd_T60 l0 (ji16)).f0), ((rd_T60 l0 (ji16)).f1), ((rd_T60 l0 (ji16)).f2)⟩ : S60)]) := ⟨_, rfl⟩
            replace H : (some y178) = some r := by first | (rw [hy178]; with_reducible exact H) | (have H2_ := (Option.bind_some _ _).symm.trans H; rw [hy178]; with_reducible exact H2_) | (have H2_ := (Option.bind_some _ _).symm.trans H; with_reducible exact H2_) | with_reducible exact H | (rw [hy178]; exact H) | exact H
            have Ny178 := aM hy178
            clear hy178
            obtain rfl := Option.some.inj H
            have p176 : 0 ≤ ((ji75) : Int) := of_decide_eq_true (by assumption)
            have q176 : (ji75) < (l0.length : Int) := of_decide_eq_true (by assumption)
            obtain ⟨ad176, e176, hx176_0, hx176_1, hx176_2⟩ := at_T60 (Kd.R_reads' HO_0.out).2.2 (ji75) p176 q176
            (first | obtain rfl : ad168 = ad176 := (by injection e176) | cases e176)
            replace p176 := eq_true p176
            replace q176 := eq_true q176
            have hnb84 := NB164_169.out
            have hnc84 := NB169_164.out
            have hcz85_0 : wc.cell? ⟨gb164, 0, none⟩ = some (.int .i64 a1_0) := (blk_cell BK164.out 0).trans rfl
            have hcz85_1 : wc.cell? ⟨gb164, 1, none⟩ = some (.string a1_1) := (blk_cell BK164.out 1).trans rfl
            have hcz85_2 : wc.cell? ⟨gb164, 2, none⟩ = some (.string a1_2) := (blk_cell BK164.out 2).trans rfl
            have hfz85_0 := blk_frozen BK164.out 0
            have hfz85_1 := blk_frozen BK164.out 1
            have hfz85_2 := blk_frozen BK164.out 2
            have p82 : 0 ≤ ((ji16) : Int) := of_decide_eq_true (by assumption)
            have q82 : ((ji16) : Int) < ((l0.length : Int) : Int) := of_decide_eq_true (by assumption)
            obtain ⟨go82, co82, eo82, gb82, gl82, cl82, HG82⟩ := Kd.R_form HO_0.out (by omega)
            (first | cases eo82 | (injection eo82 with ea_ en_ ec_; (first | subst ea_ | (injection ea_ with ea_; subst ea_)); subst ec_; clear en_))
            have GB82 := aM gb82
            have GG82 := aM HG82
            clear gb82 gl82 HG82
            have HMgo82 := aM (show (P0_ go82 ∨ w.heap.size ≤ go82) from (HO_0.out.1 _ rfl).1)
            (first | simp only [add_plain] at hx176_0 | skip)
            (first | simp only [add_plain] at hx176_1 | skip)
            (first | simp only [add_plain] at hx176_2 | skip)
            obtain ⟨ce82, hcl82, hM82, hcc82, hfr82⟩ := Kd.R_elem HO_0.out z60 ((ji16) : Int) p82 q82
            obtain rfl := k60_openM hM82
            have hx82_0 : wc.cell? ⟨go82, ((ji16) : Int).toNat * 3, none⟩ = some (.int .i64 ((rd_T60 l0 (ji16)).f0)) := hcc82 0 _ rfl
            have hx82_1 : wc.cell? ⟨go82, ((ji16) : Int).toNat * 3 + 1, none⟩ = some (.string ((rd_T60 l0 (ji16)).f1)) := hcc82 1 _ rfl
            have hx82_2 : wc.cell? ⟨go82, ((ji16) : Int).toNat * 3 + 2, none⟩ = some (.string ((rd_T60 l0 (ji16)).f2)) := hcc82 2 _ rfl
            have hf82_0 : wc.frozen? ⟨go82, ((ji16) : Int).toNat * 3, none⟩ = false := hfr82 0
            have hf82_1 : wc.frozen? ⟨go82, ((ji16) : Int).toNat * 3 + 1, none⟩ = false := hfr82 1
            have hf82_2 : wc.frozen? ⟨go82, ((ji16) : Int).toNat * 3 + 2, none⟩ = false := hfr82 2
            clear hcl82 hcc82 hfr82 hM82
            replace p82 := eq_true p82
            replace q82 := eq_true q82
            have HX86 := aM (show Kd.R k60 60 wc w0.heap.size (fun k_ => (P0_ k_ ∨ w.heap.size ≤ k_) ∧ k_ ≠ gb164 ∧ k_ ≠ gb169) (.slice (some ⟨go82, 0, none⟩) l0.length co5) l0 from (rR HO_0.out))
            obtain ⟨ce86, hcl86, hM86, hcc86, hfr86⟩ := Kd.R_elem HX86.out z60 ((ji16) : Int) (of_decide_eq_true (by assumption)) (by have h_ : ((ji16) : Int) < ((l0.length : Int) : Int) := of_decide_eq_true (by assumption); first | exact h_ | (have e_ := (Kd.R_reads' HO_0.out).1; omega) | simpa using h_)
            obtain rfl := k60_openM hM86
            have HP86 := Kd.R_seg HX86.out ((ji16) : Int) (of_decide_eq_true (by assumption)) (by have h_ : ((ji16) : Int) < ((l0.length : Int) : Int) := of_decide_eq_true (by assumption); first | exact h_ | (have e_ := (Kd.R_reads' HO_0.out).1; omega) | simpa using h_) (seg := [.int .i64 a1_0, .string a1_1, .string a1_2]) (j := 0) hcl86 hcc86 (show 3 ≤ 3 from by decide) (x' := (⟨a1_0, a1_1, a1_2⟩ : S60)) (k60_mkM _ _ _ (⟨a1_0, a1_1, a1_2⟩ : S60) ) (fun _ hk => hk)
            have hx86_0 := hcc86 0 _ rfl
            (try simp only [show (k60).sz = 3 from rfl, Nat.mul_one, Nat.add_zero] at hx86_0)
            have hf86_0 := hfr86 0
            (try simp only [show (k60).sz = 3 from rfl, Nat.mul_one, Nat.add_zero] at hf86_0)
            have hx86_1 := hcc86 1 _ rfl
            (try simp only [show (k60).sz = 3 from rfl, Nat.mul_one, Nat.add_zero] at hx86_1)
            have hf86_1 := hfr86 1
            (try simp only [show (k60).sz = 3 from rfl, Nat.mul_one, Nat.add_zero] at hf86_1)
            have hx86_2 := hcc86 2 _ rfl
            (try simp only [show (k60).sz = 3 from rfl, Nat.mul_one, Nat.add_zero] at hx86_2)
            have hf86_2 := hfr86 2
            (try simp only [show (k60).sz = 3 from rfl, Nat.mul_one, Nat.add_zero] at hf86_2)
            clear hcl86 hcc86 hfr86 hM86
            go_wp2_with (first | ((with_reducible refine gate_store (t := 60) (p := 136) rfl ?_); refine store_event (t := 60) (p := 136) (v := ?vo_w87) (w1 := (((wc.setCell ⟨go82, ((ji16) : Int).toNat * 3, none⟩ (.int .i64 a1_0)).setCell ⟨go82, ((ji16) : Int).toNat * 3 + 1, none⟩ (.string a1_1)).setCell ⟨go82, ((ji16) : Int).toNat * 3 + 2, none⟩ (.string a1_2))) ?hg ?ho ?hn ?hr ?_; (case ho => rfl); (case hg => rfl); (case hn => rfl); (case hr => exact aP21); intro w87 hw; have hg : wc.grownBy w87 (some go82) := (by rw [hw]; exact HP86.2); have hp_ : Kd.R k60 60 w87 w0.heap.size (fun k_ => (P0_ k_ ∨ w.heap.size ≤ k_) ∧ k_ ≠ gb164 ∧ k_ ≠ gb169) (.slice (some ⟨go82, 0, none⟩) l0.length co5) y177 := (by rw [hw, Ny177.out]; exact HP86.1); clear HP86; have n0_ := aM (hp_); have n1_ := aM (blk_grown (g := gb164) (o := .cells #[.int .i64 a1_0, .string a1_1, .string a1_2] 60 (0, 0)) (kK BK164.out) hg (Kd.R_away HO_0.out (fun _ hk => hk.2.1))); have n2_ := aM (blk_grown (g := gb169) (o := .cells #[.int .i64 ((rd_T60 l0 (ji16)).f0), .string ((rd_T60 l0 (ji16)).f1), .string ((rd_T60 l0 (ji16)).f2)] 60 (0, 0)) (kK BK169.out) hg (Kd.R_away HO_0.out (fun _ hk => hk.2.2))); have n3_ := aM ((by rw [hw]; exact below_set (below_set (below_set (HB.out) GB82.out) GB82.out) GB82.out : Below w0.heap.size w0 w87)); have n4_ := aM (Kept.of_grown (S := (fun k_ => P0_ k_)) hg aP3 (fun k_ e_ => (HO_0.out.1 k_ e_).1)); clear HO_0; clear BK164; clear BK169; clear HB; clear HK; have HO_0 := n0_; have BK164 := n1_; have BK169 := n2_; have HB := n3_; have HK := n4_; clear n0_ n1_ n2_ n3_ n4_; clear hg hw hp_; have hcz88_0 : w87.cell? ⟨gb169, 0, none⟩ = some (.int .i64 ((rd_T60 l0 (ji16)).f0)) := (blk_cell BK169.out 0).trans rfl; have hcz88_1 : w87.cell? ⟨gb169, 1, none⟩ = some (.string ((rd_T60 l0 (ji16)).f1)) := (blk_cell BK169.out 1).trans rfl; have hcz88_2 : w87.cell? ⟨gb169, 2, none⟩ = some (.string ((rd_T60 l0 (ji16)).f2)) := (blk_cell BK169.out 2).trans rfl; have hfz88_0 := blk_frozen BK169.out 0; have hfz88_1 := blk_frozen BK169.out 1; have hfz88_2 := blk_frozen BK169.out 2) | ((with_reducible refine gate_builtin (b := .append) (xs := #[.tmp 137, .tmp 139]) rfl ?_); at_builtin; refine Kd.R_append k60 (w0 := w0) w0.heap.size rfl (.tmp 137) (.tmp 139) 26 60 (.agg #[(.int .i64 0), (.string ⟨#[]⟩), (.string ⟨#[]⟩)]) 40 rfl Try.underlying26 info60 rfl (by decide) (by omega) (.slice (some ⟨go82, 0, none⟩) l0.length co5) y177 (⟨((rd_T60 l0 (ji16)).f0), ((rd_T60 l0 (ji16)).f1), ((rd_T60 l0 (ji16)).f2)⟩ : S60) [.int .i64 ((rd_T60 l0 (ji16)).f0), .string ((rd_T60 l0 (ji16)).f1), .string ((rd_T60 l0 (ji16)).f2)] (fun k_ => (P0_ k_ ∨ w.heap.size ≤ k_) ∧ k_ ≠ gb164 ∧ k_ ≠ gb169) (fun _ => False) rfl rfl ?aP (fun _ hk => hk.elim) ?aF ?aO ?aB ?aS ?aL ?_; (case aP => exact k60_mkM _ _ _ (⟨((rd_T60 l0 (ji16)).f0), ((rd_T60 l0 (ji16)).f1), ((rd_T60 l0 (ji16)).f2)⟩ : S60)); (case aB => exact aP4); (case aF => exact (fun k_ hk => ⟨(.inr (Nat.le_trans (by first | exact HK.out.1 | exact (show Kept w _ (fun k_ => P0_ k_) from aP3).1) hk)), Kd.freshB (g := gb164) (o := .cells #[.int .i64 a1_0, .string a1_1, .string a1_2] 60 (0, 0)) (kK BK164.out) k_ hk, Kd.freshB (g := gb169) (o := .cells #[.int .i64 ((rd_T60 l0 (ji16)).f0), .string ((rd_T60 l0 (ji16)).f1), .string ((rd_T60 l0 (ji16)).f2)] 60 (0, 0)) (kK BK169.out) k_ hk⟩)); (case aO => exact (rR HO_0.out)); (case aS => exact (below_size aP4)); (case aL => have := LMc83.out; omega); intro v179 w89 ho hb hg hat; rw [← Ny178.out] at ho; have HO180 := aM (ho); replace BK164 := aM (blk_grown (g := gb164) (o := .cells #[.int .i64 a1_0, .string a1_1, .string a1_2] 60 (0, 0)) (kK BK164.out) hg (Kd.R_away HO_0.out (fun _ hk => hk.2.1))); replace BK169 := aM (blk_grown (g := gb169) (o := .cells #[.int .i64 ((rd_T60 l0 (ji16)).f0), .string ((rd_T60 l0 (ji16)).f1), .string ((rd_T60 l0 (ji16)).f2)] 60 (0, 0)) (kK BK169.out) hg (Kd.R_away HO_0.out (fun _ hk => hk.2.2))); replace HB := aM (hb); replace HK := aM (Kept.of_grown (S := (fun k_ => P0_ k_)) hg aP3 (fun k_ e_ => (HO_0.out.1 k_ e_).1)); clear ho hb hg hat))
            go_ret
            exact ⟨_, by first | rfl | (simp [errW_none, errW_some] <;> rfl) | (simp only [← hji16, ← hji75, ← hji16]; first | rfl | (simp [errW_none, errW_some] <;> rfl)) | (simp [*, errW_none, errW_some] <;> rfl), by (with_reducible repeat (first | apply Kd.R_alloc | apply Kd.R_drewN | apply Kd.R_drew)); exact Kd.R_mono HO180.out (fun _ hk => hk.1), by exact aP4, aP3⟩
           rw [if_neg c78] at H
           have c78b0 : (((rd_T60 l0 (ji75)).f1).toList == ([] : List UInt8)) = false := beq_eq_false_iff_ne.mpr c78
           have c78b1 : (((rd_T60 l0 (ji75)).f1).toList != ([] : List UInt8)) = true := bne_iff_ne.mpr c78
           try have c78e : ((rd_T60 l0 (ji75)).f1).toList.isEmpty = false := List.isEmpty_eq_false_iff.mpr c78
           by_cases c90 : ((rd_T60 l0 (ji75)).f1).size + a1_1.size ≤ 9223372036854775807
           rotate_left
           ·rw [if_neg c90] at H
            exact absurd H (by simp)
           rw [if_pos c90] at H
           have c90b0 := eq_true c90
           have c90b1 : decide (((rd_T60 l0 (ji75)).f1).size + a1_1.size ≤ 9223372036854775807) = true := decide_eq_true c90
           try have c90b2 : (9223372036854775807 < ((rd_T60 l0 (ji75)).f1).size + a1_1.size) = False := eq_false (Nat.not_lt.2 c90)
           obtain ⟨y182, hy182⟩ : ∃ y_ : List (S60), y_ = (l0.set ((ji75) : Int).toNat (⟨(rd_T60 l0 (ji75)).f0, ((rd_T60 l0 (ji75)).f1) ++ a1_1, (rd_T60 l0 (ji75)).f2⟩ : S60)) := ⟨_, rfl⟩
           replace H : (some y182) = some r := by first | (rw [hy182]; with_reducible exact H) | (have H2_ := (Option.bind_some _ _).symm.trans H; rw [hy182]; with_reducible exact H2_) | (have H2_ := (Option.bind_some _ _).symm.trans H; with_reducible exact H2_) | with_reducible exact H | (rw [hy182]; exact H) | exact H
           have Ny182 := aM hy182
           clear hy182
           obtain rfl := Option.some.inj H
           have p176 : 0 ≤ ((ji75) : Int) := of_decide_eq_true (by assumption)
           have q176 : (ji75) < (l0.length : Int) := of_decide_eq_true (by assumption)
           obtain ⟨ad176, e176, hx176_0, hx176_1, hx176_2⟩ := at_T60 (Kd.R_reads' HO_0.out).2.2 (ji75) p176 q176
           (first | obtain rfl : ad168 = ad176 := (by injection e176) | cases e176)
           replace p176 := eq_true p176
           replace q176 := eq_true q176
           try go_wp2
           replace HO_0 := aM (Kd.R_drew HO_0.out)
           replace BK164 := aM (blk_drew BK164.out)
           replace BK169 := aM (blk_drew BK169.out)
           replace HK := aM (Kept.drew HK.out)
           replace HB := aM (below_drew1 HB.out)
           have p181 : 0 ≤ ((ji75) : Int) := of_decide_eq_true (by assumption)
           have q181 : (ji75) < (l0.length : Int) := of_decide_eq_true (by assumption)
           obtain ⟨ad181, e181, hx181_0, hx181_1, hx181_2⟩ := at_T60 (Kd.R_reads' HO_0.out).2.2 (ji75) p181 q181
           (first | obtain rfl : ad168 = ad181 := (by injection e181) | cases e181)
           replace p181 := eq_true p181
           replace q181 := eq_true q181
           have p91 : 0 ≤ ((ji75) : Int) := of_decide_eq_true (by assumption)
           have q91 : ((ji75) : Int) < ((l0.length : Int) : Int) := of_decide_eq_true (by assumption)
           obtain ⟨go91, co91, eo91, gb91, gl91, cl91, HG91⟩ := Kd.R_form HO_0.out (by omega)
           (first | cases eo91 | (injection eo91 with ea_ en_ ec_; (first | subst ea_ | (injection ea_ with ea_; subst ea_)); subst ec_; clear en_))
           have GB91 := aM gb91
           have GG91 := aM HG91
           clear gb91 gl91 HG91
           have HMgo91 := aM (show (P0_ go91 ∨ w.heap.size ≤ go91) from (HO_0.out.1 _ rfl).1)
           (first | simp only [add_plain] at hx176_0 | skip)
           (first | simp only [add_plain] at hx176_1 | skip)
           (first | simp only [add_plain] at hx176_2 | skip)
           (first | simp only [add_plain] at hx181_0 | skip)
           (first | simp only [add_plain] at hx181_1 | skip)
           (first | simp only [add_plain] at hx181_2 | skip)
           obtain ⟨ce91, hcl91, hM91, hcc91, hfr91⟩ := Kd.R_elem HO_0.out z60 ((ji75) : Int) p91 q91
           obtain rfl := k60_openM hM91
           have hx91_0 : World.cell? _ ⟨go91, ((ji75) : Int).toNat * 3, none⟩ = some (.int .i64 ((rd_T60 l0 (ji75)).f0)) := hcc91 0 _ rfl
           have hx91_1 : World.cell? _ ⟨go91, ((ji75) : Int).toNat * 3 + 1, none⟩ = some (.string ((rd_T60 l0 (ji75)).f1)) := hcc91 1 _ rfl
           have hx91_2 : World.cell? _ ⟨go91, ((ji75) : Int).toNat * 3 + 2, none⟩ = some (.string ((rd_T60 l0 (ji75)).f2)) := hcc91 2 _ rfl
           have hf91_0 : World.frozen? _ ⟨go91, ((ji75) : Int).toNat * 3, none⟩ = false := hfr91 0
           have hf91_1 : World.frozen? _ ⟨go91, ((ji75) : Int).toNat * 3 + 1, none⟩ = false := hfr91 1
           have hf91_2 : World.frozen? _ ⟨go91, ((ji75) : Int).toNat * 3 + 2, none⟩ = false := hfr91 2
           clear hcl91 hcc91 hfr91 hM91
           replace p91 := eq_true p91
           replace q91 := eq_true q91
           obtain ⟨ce93, hcl93, hM93, hcc93, hfr93⟩ := Kd.R_elem HO_0.out z60 ((ji75) : Int) (of_decide_eq_true (by assumption)) (by have h_ : ((ji75) : Int) < ((l0.length : Int) : Int) := of_decide_eq_true (by assumption); first | exact h_ | (have e_ := (Kd.R_reads' HO_0.out).1; omega) | simpa using h_)
           obtain rfl := k60_openM hM93
           have HP93 := (Kd.R_seg HO_0.out ((ji75) : Int) (of_decide_eq_true (by assumption)) (by have h_ : ((ji75) : Int) < ((l0.length : Int) : Int) := of_decide_eq_true (by assumption); first | exact h_ | (have e_ := (Kd.R_reads' HO_0.out).1; omega) | simpa using h_) (seg := [.string (((rd_T60 l0 (ji75)).f1) ++ a1_1)]) (j := 1) hcl93 hcc93 (show 2 ≤ 3 from by decide) (x' := (⟨(rd_T60 l0 (ji75)).f0, ((rd_T60 l0 (ji75)).f1) ++ a1_1, (rd_T60 l0 (ji75)).f2⟩ : S60)) (k60_mkM _ _ _ (⟨(rd_T60 l0 (ji75)).f0, ((rd_T60 l0 (ji75)).f1) ++ a1_1, (rd_T60 l0 (ji75)).f2⟩ : S60) ) (fun _ hk => hk)).1
           rw [← Ny182.out] at HP93
           have HQ93 := aM HP93
           clear hcl93 hcc93 hfr93 hM93 HP93
           refine start_ (n := 12) (S := fun w' => w'.cell? ⟨gb164, 0, none⟩ = some (.int .i64 a1_0) ∧ w'.cell? ⟨gb164, 1, none⟩ = some (.string a1_1) ∧ w'.cell? ⟨gb164, 2, none⟩ = some (.string a1_2) ∧ w'.cell? ⟨go91, ((ji75)).toNat * 3, none⟩ = some (.int .i64 ((rd_T60 l0 (ji75)).f0)) ∧ w'.cell? ⟨go91, ((ji75)).toNat * 3 + 1, none⟩ = some (.string ((rd_T60 l0 (ji75)).f1)) ∧ w'.cell? ⟨go91, ((ji75)).toNat * 3 + 2, none⟩ = some (.string ((rd_T60 l0 (ji75)).f2))) (ds := [11]) (Array.replicate 12 false) (by kernel_rfl) rfl rfl ⟨(blk_cell BK164.out 0).trans rfl, (blk_cell BK164.out 1).trans rfl, (blk_cell BK164.out 2).trans rfl, hx181_0, hx181_1, hx181_2⟩ (fun hHeld => ?_); refine with_tabW spec_l3Add.tab16 spec_l3Add.bits16 (fun HT_ HW_ => ?_)
           (first | generalize wc.drew = w92 at HO_0 BK164 BK169 HK HB GG91 HQ93 hf91_0 hf91_1 hf91_2 hx176_0 hx176_1 hx176_2 hx181_0 hx181_1 hx181_2 hx91_0 hx91_1 hx91_2 hHeld ⊢ | generalize wc.drew = w92 at HO_0 BK164 BK169 HK HB GG91 HQ93 hf91_0 hf91_1 hf91_2 hx181_0 hx181_1 hx181_2 hx91_0 hx91_1 hx91_2 hHeld ⊢ | generalize wc.drew = w92 at HO_0 BK164 BK169 HK HB GG91 HQ93 hf91_0 hf91_1 hf91_2 hx176_0 hx176_1 hx176_2 hx91_0 hx91_1 hx91_2 hHeld ⊢)
           refine pV 0 120 (bN 12 1) ?_
           refine pV 1 121 (bN 12 3) ?_
           refine pV 2 122 (bN 12 7) ?_
           refine pV 3 123 (bN 12 15) ?_
           refine pV 4 124 (bN 12 31) ?_
           refine pV 6 126 (bN 12 95) ?_
           refine tV6 5 125 (bN 12 127) ?_
           refine tV6 7 127 (bN 12 255) ?_
           refine pV 8 128 (bN 12 511) ?_
           refine pV 9 129 (bN 12 1023) ?_
           refine pV 10 130 (bN 12 2047) ?_
           refine last_ (i := 11) (N := none) (bN 12 4095) rfl rfl (one_of HT_.out (by kernel_rfl)) (by decide) (fun K hK => ?_)
           refine skip_ (w1 := ?_) (by rfl) rfl ?_ ?_
           rotate_left
           ·go_simp
            rfl
           refine hK.out _ _ ?_
           clear hK K
           refine done_ (done_of HT_.out (by kernel_rfl)) ?_
           try go_wp2
           go_ret
           exact ⟨_, by first | rfl | (simp [errW_none, errW_some] <;> rfl) | (simp only [← hji16, ← hji75]; first | rfl | (simp [errW_none, errW_some] <;> rfl)) | (simp [*, errW_none, errW_some] <;> rfl), by (with_reducible repeat (first | apply Kd.R_alloc | apply Kd.R_drewN | apply Kd.R_drew)); exact Kd.R_mono HQ93.out (fun _ hk => hk.1), by repeat (first | (with_reducible first | exact HB.out | apply below_alloc | apply pw_below_drewN | apply below_drew1 | refine below_set ?_ GB91.out | refine below_set ?_ GE164.out | refine below_set ?_ GE169.out) | exact HB.out), by repeat (first | (with_reducible first | exact HK.out | apply Kept.alloc | apply Kept.drewN | apply Kept.drew | refine Kept.setCell ?_ HMgo91.out _ | refine Kept.setCell ?_ (.inr GW164.out) _ | refine Kept.setCell ?_ (.inr GW169.out) _) | exact HK.out)⟩
end Go.Proofs.Ytoagljlnfakgjaa.PFnOver
