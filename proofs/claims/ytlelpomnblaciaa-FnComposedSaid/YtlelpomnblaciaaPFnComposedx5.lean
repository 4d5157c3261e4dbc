/- (thin) Written by a program of this session (wip/ovl.py) over the kit's print: plain functions with the answers of the Go functions, and the proofs that they are; no condition. -/
import Derived.Test.YtlelpomnblaciaaPFnComposedx0
namespace Go.Proofs.Ytlelpomnblaciaa.PFnComposed
open Go.RowKit Go.Proofs.YtlelpomnblaciaaW.PrintWords Go.Proofs.YtlelpomnblaciaaW.PrintLast Go.Proofs.YtlelpomnblaciaaW.PrintMore
attribute [local go_sem] max2_int min2_int max_two min_two max_three min_three max_four min_four   -- for this text's walks alone
set_option linter.unusedVariables false
set_option linter.unusedSimpArgs false
mutual
def jA.j0 : Nat → List (S53) → Int → Bool → Int → ByteArray → ByteArray → Option ((List (S53)))
 | 0, _, _, _, _, _, _ => none
 | k + 1, x0, x5, x9, x134000, x134001, x134002 => if x9 = true then (some x0) else (if x5 = 0 then (if x0.length < 3518437208883 then (some (x0 ++ [(⟨x134000, x134001, x134002⟩ : S53)])) else (none)) else (if 0 ≤ (wrap64 (x5 - 1)) then (if (wrap64 (x5 - 1)) < (x0.length : Int) then (if x134000 > 0 then (jA.j1 k x0 x5 (decide (((rd_T53 x0 (wrap64 (x5 - 1))).f0) > 0)) x134000 x134001 x134002 ((rd_T53 x0 (wrap64 (x5 - 1))).f0) ((rd_T53 x0 (wrap64 (x5 - 1))).f1) ((rd_T53 x0 (wrap64 (x5 - 1))).f2)) else (jA.j1 k x0 x5 false x134000 x134001 x134002 ((rd_T53 x0 (wrap64 (x5 - 1))).f0) ((rd_T53 x0 (wrap64 (x5 - 1))).f1) ((rd_T53 x0 (wrap64 (x5 - 1))).f2))) else (none)) else (none)))
def jA.j1 : Nat → List (S53) → Int → Bool → Int → ByteArray → ByteArray → Int → ByteArray → ByteArray → Option ((List (S53)))
 | 0, _, _, _, _, _, _, _, _, _ => none
 | k + 1, x0, x5, x40, x134000, x134001, x134002, x139000, x139001, x139002 => if x40 = true then (if 0 ≤ (wrap64 (x5 - 1)) then (if (wrap64 (x5 - 1)) < (x0.length : Int) then (some (x0.set ((wrap64 (x5 - 1)) : Int).toNat (⟨wrap64 (((rd_T53 x0 (wrap64 (x5 - 1))).f0) + x134000), (rd_T53 x0 (wrap64 (x5 - 1))).f1, (rd_T53 x0 (wrap64 (x5 - 1))).f2⟩ : S53))) else (none)) else (none)) else (if x134002.toList = ([] : List UInt8) then (jA.j2 k x0 x5 false x134000 x134001 x134002 x139000 x139001 x139002) else (jA.j2 k x0 x5 (x139002.toList != ([] : List UInt8)) x134000 x134001 x134002 x139000 x139001 x139002))
def jA.j2 : Nat → List (S53) → Int → Bool → Int → ByteArray → ByteArray → Int → ByteArray → ByteArray → Option ((List (S53)))
 | 0, _, _, _, _, _, _, _, _, _ => none
 | k + 1, x0, x5, x60, x134000, x134001, x134002, x139000, x139001, x139002 => if x60 = true then (if 0 ≤ (wrap64 (x5 - 1)) then (if (wrap64 (x5 - 1)) < (x0.length : Int) then (if ((rd_T53 x0 (wrap64 (x5 - 1))).f2).size + x134002.size ≤ 9223372036854775807 then (some (x0.set ((wrap64 (x5 - 1)) : Int).toNat (⟨(rd_T53 x0 (wrap64 (x5 - 1))).f0, (rd_T53 x0 (wrap64 (x5 - 1))).f1, ((rd_T53 x0 (wrap64 (x5 - 1))).f2) ++ x134002⟩ : S53))) else (none)) else (none)) else (none)) else (if x134001.toList = ([] : List UInt8) then (jA.j3 k x0 x5 false x134000 x134001 x134002 x139000 x139001 x139002) else (jA.j3 k x0 x5 (x139001.toList != ([] : List UInt8)) x134000 x134001 x134002 x139000 x139001 x139002))
def jA.j3 : Nat → List (S53) → Int → Bool → Int → ByteArray → ByteArray → Int → ByteArray → ByteArray → Option ((List (S53)))
 | 0, _, _, _, _, _, _, _, _, _ => none
 | k + 1, x0, x5, x80, x134000, x134001, x134002, x139000, x139001, x139002 => if x80 = true then (if 0 ≤ (wrap64 (x5 - 1)) then (if (wrap64 (x5 - 1)) < (x0.length : Int) then (if ((rd_T53 x0 (wrap64 (x5 - 1))).f1).size + x134001.size ≤ 9223372036854775807 then (some (x0.set ((wrap64 (x5 - 1)) : Int).toNat (⟨(rd_T53 x0 (wrap64 (x5 - 1))).f0, ((rd_T53 x0 (wrap64 (x5 - 1))).f1) ++ x134001, (rd_T53 x0 (wrap64 (x5 - 1))).f2⟩ : S53))) else (none)) else (none)) else (none)) else (if x134001.toList = ([] : List UInt8) then (jA.j4 k x0 x5 false x134000 x134001 x134002 x139000 x139001 x139002) else (jA.j4 k x0 x5 (x139002.toList != ([] : List UInt8)) x134000 x134001 x134002 x139000 x139001 x139002))
def jA.j4 : Nat → List (S53) → Int → Bool → Int → ByteArray → ByteArray → Int → ByteArray → ByteArray → Option ((List (S53)))
 | 0, _, _, _, _, _, _, _, _, _ => none
 | k + 1, x0, x5, x100, x134000, x134001, x134002, x139000, x139001, x139002 => if x100 = true then (if x5 > 1 then (if 0 ≤ (wrap64 (x5 - 2)) then (if (wrap64 (x5 - 2)) < (x0.length : Int) then (if ((rd_T53 x0 (wrap64 (x5 - 2))).f1).toList = ([] : List UInt8) then (if 0 ≤ (wrap64 (x5 - 1)) then (if (wrap64 (x5 - 1)) < (x0.length : Int) then ((some (x0.set ((wrap64 (x5 - 1)) : Int).toNat (⟨x134000, x134001, x134002⟩ : S53) : List (S53))).bind fun y146 => (if y146.length < 3518437208883 then (some (y146 ++ [(⟨x139000, x139001, x139002⟩ : S53)])) else (none))) else (none)) else (none)) else (if ((rd_T53 x0 (wrap64 (x5 - 2))).f1).size + x134001.size ≤ 9223372036854775807 then (some (x0.set ((wrap64 (x5 - 2)) : Int).toNat (⟨(rd_T53 x0 (wrap64 (x5 - 2))).f0, ((rd_T53 x0 (wrap64 (x5 - 2))).f1) ++ x134001, (rd_T53 x0 (wrap64 (x5 - 2))).f2⟩ : S53))) else (none))) else (none)) else (none)) else (if 0 ≤ (wrap64 (x5 - 1)) then (if (wrap64 (x5 - 1)) < (x0.length : Int) then ((some (x0.set ((wrap64 (x5 - 1)) : Int).toNat (⟨x134000, x134001, x134002⟩ : S53) : List (S53))).bind fun y152 => (if y152.length < 3518437208883 then (some (y152 ++ [(⟨x139000, x139001, x139002⟩ : S53)])) else (none))) else (none)) else (none))) else (if x0.length < 3518437208883 then (some (x0 ++ [(⟨x134000, x134001, x134002⟩ : S53)])) else (none))
end
def jA.f (k : Nat) (l0 : List (S53)) (a1_0 : Int) (a1_1 : ByteArray) (a1_2 : ByteArray) : Option ((List (S53))) := if a1_0 = 0 then (if a1_1.toList = ([] : List UInt8) then (jA.j0 k l0 (l0.length : Int) (a1_2.toList == ([] : List UInt8)) a1_0 a1_1 a1_2) else (jA.j0 k l0 (l0.length : Int) false a1_0 a1_1 a1_2)) else (jA.j0 k l0 (l0.length : Int) false a1_0 a1_1 a1_2)
theorem jA.mono_l : ∀ k, (∀ y0 y1 y2 y3 y4 y5, LeO (jA.j0 k y0 y1 y2 y3 y4 y5) (jA.j0 (k + 1) y0 y1 y2 y3 y4 y5)) ∧ (∀ y0 y1 y2 y3 y4 y5 y6 y7 y8, LeO (jA.j1 k y0 y1 y2 y3 y4 y5 y6 y7 y8) (jA.j1 (k + 1) y0 y1 y2 y3 y4 y5 y6 y7 y8)) ∧ (∀ y0 y1 y2 y3 y4 y5 y6 y7 y8, LeO (jA.j2 k y0 y1 y2 y3 y4 y5 y6 y7 y8) (jA.j2 (k + 1) y0 y1 y2 y3 y4 y5 y6 y7 y8)) ∧ (∀ y0 y1 y2 y3 y4 y5 y6 y7 y8, LeO (jA.j3 k y0 y1 y2 y3 y4 y5 y6 y7 y8) (jA.j3 (k + 1) y0 y1 y2 y3 y4 y5 y6 y7 y8)) ∧ (∀ y0 y1 y2 y3 y4 y5 y6 y7 y8, LeO (jA.j4 k y0 y1 y2 y3 y4 y5 y6 y7 y8) (jA.j4 (k + 1) y0 y1 y2 y3 y4 y5 y6 y7 y8))
 | 0 => ⟨fun _ _ _ _ _ _ r h => by simp [jA.j0] at h, fun _ _ _ _ _ _ _ _ _ r h => by simp [jA.j1] at h, fun _ _ _ _ _ _ _ _ _ r h => by simp [jA.j2] at h, fun _ _ _ _ _ _ _ _ _ r h => by simp [jA.j3] at h, fun _ _ _ _ _ _ _ _ _ r h => by simp [jA.j4] at h⟩
 | k + 1 => by
  obtain ⟨ih0, ih1, ih2, ih3, ih4⟩ := jA.mono_l k
  refine ⟨?_, ?_, ?_, ?_, ?_⟩
  ·intro y0 y1 y2 y3 y4 y5
   unfold jA.j0
   repeat' first
   | (with_reducible exact ih0 _ _ _ _ _ _)
   | (with_reducible exact ih1 _ _ _ _ _ _ _ _ _)
   | (with_reducible exact ih2 _ _ _ _ _ _ _ _ _)
   | (with_reducible exact ih3 _ _ _ _ _ _ _ _ _)
   | (with_reducible exact ih4 _ _ _ _ _ _ _ _ _)
   | (with_reducible exact LeO.refl _)
   | (with_reducible exact LeO.none _)
   | (with_reducible refine LeO.ite ?_ ?_)
   | (with_reducible refine LeO.bind ?_ (fun _ => ?_))
   | exact ih0 _ _ _ _ _ _
   | exact ih1 _ _ _ _ _ _ _ _ _
   | exact ih2 _ _ _ _ _ _ _ _ _
   | exact ih3 _ _ _ _ _ _ _ _ _
   | exact ih4 _ _ _ _ _ _ _ _ _
   | exact LeO.none _
   | refine LeO.ite ?_ ?_
   | refine LeO.bind ?_ (fun _ => ?_)
  ·intro y0 y1 y2 y3 y4 y5 y6 y7 y8
   unfold jA.j1
   repeat' first
   | (with_reducible exact ih0 _ _ _ _ _ _)
   | (with_reducible exact ih1 _ _ _ _ _ _ _ _ _)
   | (with_reducible exact ih2 _ _ _ _ _ _ _ _ _)
   | (with_reducible exact ih3 _ _ _ _ _ _ _ _ _)
   | (with_reducible exact ih4 _ _ _ _ _ _ _ _ _)
   | (with_reducible exact LeO.refl _)
   | (with_reducible exact LeO.none _)
   | (with_reducible refine LeO.ite ?_ ?_)
   | (with_reducible refine LeO.bind ?_ (fun _ => ?_))
   | exact ih0 _ _ _ _ _ _
   | exact ih1 _ _ _ _ _ _ _ _ _
   | exact ih2 _ _ _ _ _ _ _ _ _
   | exact ih3 _ _ _ _ _ _ _ _ _
   | exact ih4 _ _ _ _ _ _ _ _ _
   | exact LeO.none _
   | refine LeO.ite ?_ ?_
   | refine LeO.bind ?_ (fun _ => ?_)
  ·intro y0 y1 y2 y3 y4 y5 y6 y7 y8
   unfold jA.j2
   repeat' first
   | (with_reducible exact ih0 _ _ _ _ _ _)
   | (with_reducible exact ih1 _ _ _ _ _ _ _ _ _)
   | (with_reducible exact ih2 _ _ _ _ _ _ _ _ _)
   | (with_reducible exact ih3 _ _ _ _ _ _ _ _ _)
   | (with_reducible exact ih4 _ _ _ _ _ _ _ _ _)
   | (with_reducible exact LeO.refl _)
   | (with_reducible exact LeO.none _)
   | (with_reducible refine LeO.ite ?_ ?_)
   | (with_reducible refine LeO.bind ?_ (fun _ => ?_))
   | exact ih0 _ _ _ _ _ _
   | exact ih1 _ _ _ _ _ _ _ _ _
   | exact ih2 _ _ _ _ _ _ _ _ _
   | exact ih3 _ _ _ _ _ _ _ _ _
   | exact ih4 _ _ _ _ _ _ _ _ _
   | exact LeO.none _
   | refine LeO.ite ?_ ?_
   | refine LeO.bind ?_ (fun _ => ?_)
  ·intro y0 y1 y2 y3 y4 y5 y6 y7 y8
   unfold jA.j3
   repeat' first
   | (with_reducible exact ih0 _ _ _ _ _ _)
   | (with_reducible exact ih1 _ _ _ _ _ _ _ _ _)
   | (with_reducible exact ih2 _ _ _ _ _ _ _ _ _)
   | (with_reducible exact ih3 _ _ _ _ _ _ _ _ _)
   | (with_reducible exact ih4 _ _ _ _ _ _ _ _ _)
   | (with_reducible exact LeO.refl _)
   | (with_reducible exact LeO.none _)
   | (with_reducible refine LeO.ite ?_ ?_)
   | (with_reducible refine LeO.bind ?_ (fun _ => ?_))
   | exact ih0 _ _ _ _ _ _
   | exact ih1 _ _ _ _ _ _ _ _ _
   | exact ih2 _ _ _ _ _ _ _ _ _
   | exact ih3 _ _ _ _ _ _ _ _ _
   | exact ih4 _ _ _ _ _ _ _ _ _
   | exact LeO.none _
   | refine LeO.ite ?_ ?_
   | refine LeO.bind ?_ (fun _ => ?_)
  ·intro y0 y1 y2 y3 y4 y5 y6 y7 y8
   unfold jA.j4
   repeat' first
   | (with_reducible exact ih0 _ _ _ _ _ _)
   | (with_reducible exact ih1 _ _ _ _ _ _ _ _ _)
   | (with_reducible exact ih2 _ _ _ _ _ _ _ _ _)
   | (with_reducible exact ih3 _ _ _ _ _ _ _ _ _)
   | (with_reducible exact ih4 _ _ _ _ _ _ _ _ _)
   | (with_reducible exact LeO.refl _)
   | (with_reducible exact LeO.none _)
   | (with_reducible refine LeO.ite ?_ ?_)
   | (with_reducible refine LeO.bind ?_ (fun _ => ?_))
   | exact ih0 _ _ _ _ _ _
   | exact ih1 _ _ _ _ _ _ _ _ _
   | exact ih2 _ _ _ _ _ _ _ _ _
   | exact ih3 _ _ _ _ _ _ _ _ _
   | exact ih4 _ _ _ _ _ _ _ _ _
   | exact LeO.none _
   | refine LeO.ite ?_ ?_
   | refine LeO.bind ?_ (fun _ => ?_)
theorem jA.mono : ∀ a0 a1 a2 a3 k, LeO (jA.f k a0 a1 a2 a3) (jA.f (k + 1) a0 a1 a2 a3) := by
 intro a0 a1 a2 a3 k
 obtain ⟨ih0, ih1, ih2, ih3, ih4⟩ := jA.mono_l k
 unfold jA.f
 repeat' first
   | (with_reducible exact ih0 _ _ _ _ _ _)
   | (with_reducible exact ih1 _ _ _ _ _ _ _ _ _)
   | (with_reducible exact ih2 _ _ _ _ _ _ _ _ _)
   | (with_reducible exact ih3 _ _ _ _ _ _ _ _ _)
   | (with_reducible exact ih4 _ _ _ _ _ _ _ _ _)
   | (with_reducible exact LeO.refl _)
   | (with_reducible exact LeO.none _)
   | (with_reducible refine LeO.ite ?_ ?_)
   | (with_reducible refine LeO.bind ?_ (fun _ => ?_))
   | exact ih0 _ _ _ _ _ _
   | exact ih1 _ _ _ _ _ _ _ _ _
   | exact ih2 _ _ _ _ _ _ _ _ _
   | exact ih3 _ _ _ _ _ _ _ _ _
   | exact ih4 _ _ _ _ _ _ _ _ _
   | exact LeO.none _
   | refine LeO.ite ?_ ?_
   | refine LeO.bind ?_ (fun _ => ?_)
def jA.T9 : Bool × List (List Nat × List Nat) := (true, [([], []), ([], []), ([1], [1]), ([0, 2], [0, 2]), ([3], [3]), ([4], [4]), ([], []), ([6], [6]), ([5, 7], [5, 7]), ([0, 2, 0, 1, 2, 3, 4, 5, 6, 7, 8], [0, 2]), ([9, 0, 1, 2, 3, 4, 5, 6, 7, 8], [9]), ([10, 8, 0, 1, 2, 3, 4, 5, 6, 7, 8], [8, 10])])
def jA.B9 : List Nat := [0, 0, 2, 7, 15, 31, 0, 64, 255, 511, 1023, 2047]
theorem jA.tab9 : rtab .any (opsOf Try.f41 9) = jA.T9 := by kernel_rfl
theorem jA.bits9 : waitsOk jA.T9.2 jA.B9 = true := by kernel_rfl
def jA.T11 : Bool × List (List Nat × List Nat) := (true, [([], []), ([], []), ([1], [1]), ([0, 2], [0, 2]), ([3], [3]), ([4], [4]), ([], []), ([6], [6]), ([5, 7], [5, 7]), ([0, 2, 0, 1, 2, 3, 4, 5, 6, 7, 8], [0, 2]), ([9, 0, 1, 2, 3, 4, 5, 6, 7, 8], [9]), ([10, 8, 0, 1, 2, 3, 4, 5, 6, 7, 8], [8, 10])])
def jA.B11 : List Nat := [0, 0, 2, 7, 15, 31, 0, 64, 255, 511, 1023, 2047]
theorem jA.tab11 : rtab .any (opsOf Try.f41 11) = jA.T11 := by kernel_rfl
theorem jA.bits11 : waitsOk jA.T11.2 jA.B11 = true := by kernel_rfl
def jA.T13 : Bool × List (List Nat × List Nat) := (true, [([], []), ([], []), ([1], [1]), ([0, 2], [0, 2]), ([3], [3]), ([4], [4]), ([], []), ([6], [6]), ([5, 7], [5, 7]), ([0, 2, 0, 1, 2, 3, 4, 5, 6, 7, 8], [0, 2]), ([9, 0, 1, 2, 3, 4, 5, 6, 7, 8], [9]), ([10, 8, 0, 1, 2, 3, 4, 5, 6, 7, 8], [8, 10])])
def jA.B13 : List Nat := [0, 0, 2, 7, 15, 31, 0, 64, 255, 511, 1023, 2047]
theorem jA.tab13 : rtab .any (opsOf Try.f41 13) = jA.T13 := by kernel_rfl
theorem jA.bits13 : waitsOk jA.T13.2 jA.B13 = true := by kernel_rfl
def jA.T16 : Bool × List (List Nat × List Nat) := (true, [([], []), ([], []), ([1], [1]), ([0, 2], [0, 2]), ([3], [3]), ([4], [4]), ([], []), ([6], [6]), ([5, 7], [5, 7]), ([0, 2, 0, 1, 2, 3, 4, 5, 6, 7, 8], [0, 2]), ([9, 0, 1, 2, 3, 4, 5, 6, 7, 8], [9]), ([10, 8, 0, 1, 2, 3, 4, 5, 6, 7, 8], [8, 10])])
def jA.B16 : List Nat := [0, 0, 2, 7, 15, 31, 0, 64, 255, 511, 1023, 2047]
theorem jA.tab16 : rtab .any (opsOf Try.f41 16) = jA.T16 := by kernel_rfl
theorem jA.bits16 : waitsOk jA.T16.2 jA.B16 = true := by kernel_rfl
set_option maxHeartbeats 8000000 in
set_option maxRecDepth 100000 in
theorem jA.calls (k : Nat) (P0_ : Nat → Prop) (u9000_ : Value) (l0 : List (S53)) (a1_0 : Int) (a1_1 : ByteArray) (a1_2 : ByteArray) (r : List (S53)) (w0 w : World) (hB : Below w0.heap.size w0 w) (ho0 : Kd.R k53 53 w w0.heap.size P0_ u9000_ l0) (h : jA.f k l0 a1_0 a1_1 a1_2 = some r) :
  Calls Try.prog 41 #[u9000_, .agg #[.int .i64 a1_0, .string a1_1, .string a1_2]] w fun e w' => ∃ v0_ : Value, e = .returned (v0_) ∧ Kd.R k53 53 w' w0.heap.size (fun k_ => (P0_ k_ ∨ w.heap.size ≤ k_)) v0_ r ∧ Below w0.heap.size w0 w' ∧ Kept w w' (fun k_ => P0_ k_) := by
 have hu53 := Try.underlying53
 have HO0 := aM (show Kd.R k53 53 w w0.heap.size (fun k_ => (P0_ k_ ∨ w.heap.size ≤ k_)) u9000_ l0 from Kd.R_mono ho0 (fun k_ hk => (.inl hk)))
 have HK := aM (Kept.refl w (fun k_ => P0_ k_))
 have HW0 := aM hB.size
 have HB := aM hB
 clear hB
 have H : (if a1_0 = 0 then (if a1_1.toList = ([] : List UInt8) then (jA.j0 k l0 (l0.length : Int) (a1_2.toList == ([] : List UInt8)) a1_0 a1_1 a1_2) else (jA.j0 k l0 (l0.length : Int) false a1_0 a1_1 a1_2)) else (jA.j0 k l0 (l0.length : Int) false a1_0 a1_1 a1_2)) = some r := h
 clear h
 have HC3 := aM H
 clear H
 go_enter Try.func41, Try.ntmps41
 go_upto_region 2 with (first | ((with_reducible refine gate_dst (N := 3) rfl ?_); refine box_event ?hg (N := 3) ?hd (cs := #[.int .i64 a1_0, .string a1_1, .string a1_2]) (t := 53) ?hr ?_; (case hd => rfl); (case hg => rfl); (case hr => exact aP21); intro gb133 hg w4 hbox hb; have n0_ := aM (Kd.R_below (Kd.R_elderB (rR HO0.out) gb133 (Nat.le_of_eq hg.symm)) hb); have n1_ := aM (Kept.below (S := (fun k_ => P0_ k_)) aP9 hb); have n2_ := aM (below_step bB hb); have n3_ := aM (hbox); have n4_ := aM ((by rw [hg]; exact (by first | exact HK.out.1 | exact (show Kept w _ (fun k_ => P0_ k_) from aP9).1) : w.heap.size ≤ gb133)); have n5_ := aM ((by rw [hg]; exact (below_size bB) : w0.heap.size ≤ gb133)); clear HO0; clear HK; clear HB; have HO0 := n0_; have HK := n1_; have HB := n2_; have BK133 := n3_; have GW133 := n4_; have GE133 := n5_; clear n0_ n1_ n2_ n3_ n4_ n5_; clear hb hbox hg; obtain ⟨Ao5, co5, eo5⟩ := Kd.R_slice HO0.out; subst eo5))
 (try simp only [Act.put, List.setIfInBounds_toArray, List.set_cons_zero, List.set_cons_succ])
 go_cut [9] (fun v9 wc => ∃ (kq : Nat) (x9_2 : Bool), v9 = .bool x9_2 ∧ Aside0 (jA.j0 kq l0 (l0.length : Int) x9_2 a1_0 a1_1 a1_2 = some r) ∧ Aside0 (kq ≤ k) ∧ Aside0 (Kd.R k53 53 wc w0.heap.size (fun k_ => (P0_ k_ ∨ w.heap.size ≤ k_) ∧ k_ ≠ gb133) (.slice Ao5 l0.length co5) l0) ∧ Aside0 (wc.heap[gb133]? = some (.cells #[.int .i64 a1_0, .string a1_1, .string a1_2] 53 (0, 0))) ∧ Aside0 (Kept w wc (fun k_ => P0_ k_)) ∧ Aside0 (Below w0.heap.size w0 wc))
 case first =>
  have H := HC3.out
  clear HC3
  by_cases c6 : a1_0 = 0
  rotate_left
  ·rw [if_neg c6] at H
   have c6b0 : (a1_0 == 0) = false := beq_eq_false_iff_ne.mpr c6
   have c6b1 : (a1_0 != 0) = true := bne_iff_ne.mpr c6
   (first | rw [c6b0] | (simp only [i64_w, i32_w]; rw [c6b0]) | rw [c6e] | skip)
   have H' := aM H
   clear H
   have hcz10_0 : w4.cell? ⟨gb133, 0, none⟩ = some (.int .i64 a1_0) := (blk_cell BK133.out 0).trans rfl
   have hcz10_1 : w4.cell? ⟨gb133, 1, none⟩ = some (.string a1_1) := (blk_cell BK133.out 1).trans rfl
   have hcz10_2 : w4.cell? ⟨gb133, 2, none⟩ = some (.string a1_2) := (blk_cell BK133.out 2).trans rfl
   have hfz10_0 := blk_frozen BK133.out 0
   have hfz10_1 := blk_frozen BK133.out 1
   have hfz10_2 := blk_frozen BK133.out 2
   go_wp2
   go_meet
   case rel => exact ⟨_, (false), aP16, H', ⟨by first | omega | exact Nat.le_refl _⟩, ⟨rR HO0.out⟩, ⟨kK BK133.out⟩, ⟨aP5⟩, ⟨aP6⟩⟩
  rw [if_pos c6] at H
  have c6b0 : (a1_0 == 0) = true := beq_iff_eq.mpr c6
  have c6b1 : (a1_0 != 0) = false := bne_eq_false_iff_eq.mpr c6
  clear c6
  (first | rw [c6b0] | (simp only [i64_w, i32_w]; rw [c6b0]) | rw [c6e] | skip)
  by_cases c7 : a1_1.toList = ([] : List UInt8)
  rotate_left
  ·rw [if_neg c7] at H
   have c7b0 : (a1_1.toList == ([] : List UInt8)) = false := beq_eq_false_iff_ne.mpr c7
   have c7b1 : (a1_1.toList != ([] : List UInt8)) = true := bne_iff_ne.mpr c7
   try have c7e : a1_1.toList.isEmpty = false := List.isEmpty_eq_false_iff.mpr c7
   have H' := aM H
   clear H
   have hcz9_0 : w4.cell? ⟨gb133, 0, none⟩ = some (.int .i64 a1_0) := (blk_cell BK133.out 0).trans rfl
   have hcz9_1 : w4.cell? ⟨gb133, 1, none⟩ = some (.string a1_1) := (blk_cell BK133.out 1).trans rfl
   have hcz9_2 : w4.cell? ⟨gb133, 2, none⟩ = some (.string a1_2) := (blk_cell BK133.out 2).trans rfl
   have hfz9_0 := blk_frozen BK133.out 0
   have hfz9_1 := blk_frozen BK133.out 1
   have hfz9_2 := blk_frozen BK133.out 2
   go_wp2
   go_meet
   case rel => exact ⟨_, (false), aP16, H', ⟨by first | omega | exact Nat.le_refl _⟩, ⟨rR HO0.out⟩, ⟨kK BK133.out⟩, ⟨aP5⟩, ⟨aP6⟩⟩
  rw [if_pos c7] at H
  have c7b0 : (a1_1.toList == ([] : List UInt8)) = true := beq_iff_eq.mpr c7
  have c7b1 : (a1_1.toList != ([] : List UInt8)) = false := bne_eq_false_iff_eq.mpr c7
  try have c7e : a1_1.toList.isEmpty = true := List.isEmpty_iff.mpr c7
  clear c7
  have H' := aM H
  clear H
  have hcz8_0 : w4.cell? ⟨gb133, 0, none⟩ = some (.int .i64 a1_0) := (blk_cell BK133.out 0).trans rfl
  have hcz8_1 : w4.cell? ⟨gb133, 1, none⟩ = some (.string a1_1) := (blk_cell BK133.out 1).trans rfl
  have hcz8_2 : w4.cell? ⟨gb133, 2, none⟩ = some (.string a1_2) := (blk_cell BK133.out 2).trans rfl
  have hfz8_0 := blk_frozen BK133.out 0
  have hfz8_1 := blk_frozen BK133.out 1
  have hfz8_2 := blk_frozen BK133.out 2
  go_wp2
  go_meet
  case rel => exact ⟨_, ((a1_2.toList == ([] : List UInt8))), aP16, H', ⟨by first | omega | exact Nat.le_refl _⟩, ⟨rR HO0.out⟩, ⟨kK BK133.out⟩, ⟨aP5⟩, ⟨aP6⟩⟩
 case rest =>
  clear HC3
  try clear p2
  try clear c4
  try clear c6
  try clear c6b0
  try clear c6b1
  try clear c7
  try clear c7b0
  try clear c7b1
  try clear hcz10_0
  try clear hcz10_1
  try clear hcz10_2
  try clear hcz8_0
  try clear hcz8_1
  try clear hcz8_2
  try clear hcz9_0
  try clear hcz9_1
  try clear hcz9_2
  try clear hfz10_0
  try clear hfz10_1
  try clear hfz10_2
  try clear hfz8_0
  try clear hfz8_1
  try clear hfz8_2
  try clear hfz9_0
  try clear hfz9_1
  try clear hfz9_2
  obtain ⟨kq, x9_2, rfl, HA, HJ2, HO_0, BK133, HK, HB⟩ := hcut
  cases kq with
  | zero => exact absurd HA.out (by simp [jA.j0])
  | succ kj2 =>
   have H := HA.out
   clear HA
   simp only [jA.j0] at H
   by_cases c11 : x9_2 = true
   ·subst c11
    have H1 : (some l0) = some r := by rw [if_pos rfl] at H; exact H
    clear H
    have H := H1
    clear H1
    obtain rfl := Option.some.inj H
    go_wp2
    go_ret
    exact ⟨_, by first | rfl | (simp [errW_none, errW_some] <;> rfl) | (simp [*, errW_none, errW_some] <;> rfl), by (with_reducible repeat (first | apply Kd.R_alloc | apply Kd.R_drewN | apply Kd.R_drew)); exact Kd.R_mono HO_0.out (fun _ hk => hk.1), by exact aP6, aP5⟩
   replace c11 := Bool.eq_false_iff.mpr c11
   subst c11
   have H1 : (if (l0.length : Int) = 0 then (if l0.length < 3518437208883 then (some (l0 ++ [(⟨a1_0, a1_1, a1_2⟩ : S53)])) else (none)) else (if 0 ≤ (wrap64 ((l0.length : Int) - 1)) then (if (wrap64 ((l0.length : Int) - 1)) < (l0.length : Int) then (if a1_0 > 0 then (jA.j1 kj2 l0 (l0.length : Int) (decide (((rd_T53 l0 (wrap64 ((l0.length : Int) - 1))).f0) > 0)) a1_0 a1_1 a1_2 ((rd_T53 l0 (wrap64 ((l0.length : Int) - 1))).f0) ((rd_T53 l0 (wrap64 ((l0.length : Int) - 1))).f1) ((rd_T53 l0 (wrap64 ((l0.length : Int) - 1))).f2)) else (jA.j1 kj2 l0 (l0.length : Int) false a1_0 a1_1 a1_2 ((rd_T53 l0 (wrap64 ((l0.length : Int) - 1))).f0) ((rd_T53 l0 (wrap64 ((l0.length : Int) - 1))).f1) ((rd_T53 l0 (wrap64 ((l0.length : Int) - 1))).f2))) else (none)) else (none))) = some r := by rw [if_neg (show ¬ (false = true) by decide)] at H; exact H
   clear H
   have H := H1
   clear H1
   by_cases c12 : (l0.length : Int) = 0
   ·rw [if_pos c12] at H
    have c12b0 : ((l0.length : Int) == 0) = true := beq_iff_eq.mpr c12
    have c12b1 : ((l0.length : Int) != 0) = false := bne_eq_false_iff_eq.mpr c12
    clear c12
    by_cases c13 : l0.length < 3518437208883
    rotate_left
    ·rw [if_neg c13] at H
     exact absurd H (by simp)
    rw [if_pos c13] at H
    have LMc13 := aM c13
    clear c13
    obtain ⟨y134, hy134⟩ : ∃ y_ : List (S53), y_ = (l0 ++ [(⟨a1_0, a1_1, a1_2⟩ : S53)]) := ⟨_, rfl⟩
    replace H : (some y134) = some r := by first | (rw [hy134]; with_reducible exact H) | (have H2_ := (Option.bind_some _ _).symm.trans H; rw [hy134]; with_reducible exact H2_) | (have H2_ := (Option.bind_some _ _).symm.trans H; with_reducible exact H2_) | with_reducible exact H | (rw [hy134]; exact H) | exact H
    have Ny134 := aM hy134
    clear hy134
    obtain rfl := Option.some.inj H
    have hcz14_0 : wc.cell? ⟨gb133, 0, none⟩ = some (.int .i64 a1_0) := (blk_cell BK133.out 0).trans rfl
    have hcz14_1 : wc.cell? ⟨gb133, 1, none⟩ = some (.string a1_1) := (blk_cell BK133.out 1).trans rfl
    have hcz14_2 : wc.cell? ⟨gb133, 2, none⟩ = some (.string a1_2) := (blk_cell BK133.out 2).trans rfl
    have hfz14_0 := blk_frozen BK133.out 0
    have hfz14_1 := blk_frozen BK133.out 1
    have hfz14_2 := blk_frozen BK133.out 2
    go_wp2_with (first | ((with_reducible refine gate_builtin (b := .append) (xs := #[.tmp 27, .tmp 29]) rfl ?_); at_builtin; refine Kd.R_append k53 (w0 := w0) w0.heap.size rfl (.tmp 27) (.tmp 29) 22 53 (.agg #[(.int .i64 0), (.string ⟨#[]⟩), (.string ⟨#[]⟩)]) 40 rfl Try.underlying22 info53 rfl (by decide) (by omega) (.slice Ao5 l0.length co5) l0 (⟨a1_0, a1_1, a1_2⟩ : S53) [.int .i64 a1_0, .string a1_1, .string a1_2] (fun k_ => (P0_ k_ ∨ w.heap.size ≤ k_) ∧ k_ ≠ gb133) (fun _ => False) rfl rfl ?aP (fun _ hk => hk.elim) ?aF ?aO ?aB ?aS ?aL ?_; (case aP => exact k53_mkM _ _ _ (⟨a1_0, a1_1, a1_2⟩ : S53)); (case aB => exact aP6); (case aF => exact (fun k_ hk => ⟨(.inr (Nat.le_trans (by first | exact HK.out.1 | exact (show Kept w _ (fun k_ => P0_ k_) from aP5).1) hk)), Kd.freshB (g := gb133) (o := .cells #[.int .i64 a1_0, .string a1_1, .string a1_2] 53 (0, 0)) (kK BK133.out) k_ hk⟩)); (case aO => exact (rR HO_0.out)); (case aS => exact (below_size aP6)); (case aL => have := LMc13.out; omega); intro v135 w15 ho hb hg hat; rw [← Ny134.out] at ho; have n0_ := aM (blk_grown (g := gb133) (o := .cells #[.int .i64 a1_0, .string a1_1, .string a1_2] 53 (0, 0)) (kK BK133.out) hg (Kd.R_away HO_0.out (fun _ hk => hk.2))); have n1_ := aM (hb); have n2_ := aM (Kept.of_grown (S := (fun k_ => P0_ k_)) hg aP5 (fun k_ e_ => (HO_0.out.1 k_ e_).1)); have n3_ := aM (ho); clear BK133; clear HB; clear HK; clear HO_0; have BK133 := n0_; have HB := n1_; have HK := n2_; have HO136 := n3_; clear n0_ n1_ n2_ n3_; clear ho hb hg hat))
    go_ret
    exact ⟨_, by first | rfl | (simp [errW_none, errW_some] <;> rfl) | (simp [*, errW_none, errW_some] <;> rfl), by (with_reducible repeat (first | apply Kd.R_alloc | apply Kd.R_drewN | apply Kd.R_drew)); exact Kd.R_mono HO136.out (fun _ hk => hk.1), by exact aP6, aP5⟩
   rw [if_neg c12] at H
   have c12b0 : ((l0.length : Int) == 0) = false := beq_eq_false_iff_ne.mpr c12
   have c12b1 : ((l0.length : Int) != 0) = true := bne_iff_ne.mpr c12
   have c12b2 : ¬ (l0 = []) := fun h_ => c12 (by rw [h_]; rfl)
   obtain ⟨ji16, hji16⟩ : ∃ j_ : Int, (wrap64 ((l0.length : Int) - 1)) = j_ := ⟨_, rfl⟩
   replace H : (if 0 ≤ (ji16) then (if (ji16) < (l0.length : Int) then (if a1_0 > 0 then (jA.j1 kj2 l0 (l0.length : Int) (decide (((rd_T53 l0 (ji16)).f0) > 0)) a1_0 a1_1 a1_2 ((rd_T53 l0 (ji16)).f0) ((rd_T53 l0 (ji16)).f1) ((rd_T53 l0 (ji16)).f2)) else (jA.j1 kj2 l0 (l0.length : Int) false a1_0 a1_1 a1_2 ((rd_T53 l0 (ji16)).f0) ((rd_T53 l0 (ji16)).f1) ((rd_T53 l0 (ji16)).f2))) else (none)) else (none)) = some r := by first | (rw [hji16] at H; exact H) | (simp only [hji16] at H ⊢; exact H)
   have hji16w : (IntKind.i64.wrap ((l0.length : Int) - 1)) = ji16 := (i64_w _).trans hji16
   by_cases c17 : 0 ≤ (ji16)
   rotate_left
   ·rw [if_neg c17] at H
    exact absurd H (by simp)
   rw [if_pos c17] at H
   have c17b0 : decide (0 ≤ (ji16)) = true := decide_eq_true c17
   clear c17
   by_cases c18 : (ji16) < (l0.length : Int)
   rotate_left
   ·rw [if_neg c18] at H
    exact absurd H (by simp)
   rw [if_pos c18] at H
   have c18b0 : decide ((ji16) < (l0.length : Int)) = true := decide_eq_true c18
   clear c18
   have HC19 := aM H
   clear H
   have p137 : 0 ≤ ((ji16) : Int) := of_decide_eq_true (by assumption)
   have q137 : (ji16) < (l0.length : Int) := of_decide_eq_true (by assumption)
   obtain ⟨ad137, e137, hx137_0, hx137_1, hx137_2⟩ := at_T53 (Kd.R_reads' HO_0.out).2.2 (ji16) p137 q137
   cases e137
   replace p137 := eq_true p137
   replace q137 := eq_true q137
   go_upto_region 8 with (first | ((with_reducible refine gate_dst (N := 6) rfl ?_); refine box_event ?hg (N := 6) ?hd (cs := #[.int .i64 0, .string (⟨#[]⟩ : ByteArray), .string (⟨#[]⟩ : ByteArray)]) (t := 53) ?hr ?_; (case hd => rfl); (case hg => rfl); (case hr => exact aP21); intro gb138 hg w20 hbox hb; have n0_ := aM (Kd.R_below (Kd.R_elderB (rR HO_0.out) gb138 (Nat.le_of_eq hg.symm)) hb); have n1_ := aM (blk_below (g := gb133) (o := .cells #[.int .i64 a1_0, .string a1_1, .string a1_2] 53 (0, 0)) (kK BK133.out) hb); have n2_ := aM (Kept.below (S := (fun k_ => P0_ k_)) aP5 hb); have n3_ := aM (below_step aP6 hb); have n4_ := aM (hbox); have n5_ := aM ((by rw [hg]; exact (by first | exact HK.out.1 | exact (show Kept w _ (fun k_ => P0_ k_) from aP5).1) : w.heap.size ≤ gb138)); have n6_ := aM ((by rw [hg]; exact (below_size aP6) : w0.heap.size ≤ gb138)); have n7_ := aM ((by rw [hg]; exact Nat.ne_of_lt (blk_lt (g := gb133) (o := .cells #[.int .i64 a1_0, .string a1_1, .string a1_2] 53 (0, 0)) (kK BK133.out)) : gb133 ≠ gb138)); have n8_ := aM ((by rw [hg]; exact Nat.ne_of_gt (blk_lt (g := gb133) (o := .cells #[.int .i64 a1_0, .string a1_1, .string a1_2] 53 (0, 0)) (kK BK133.out)) : gb138 ≠ gb133)); clear HO_0; clear BK133; clear HK; clear HB; have HO_0 := n0_; have BK133 := n1_; have HK := n2_; have HB := n3_; have BK138 := n4_; have GW138 := n5_; have GE138 := n6_; have NB133_138 := n7_; have NB138_133 := n8_; clear n0_ n1_ n2_ n3_ n4_ n5_ n6_ n7_ n8_; clear hb hbox hg; have hnb21 := NB138_133.out; have hnc21 := NB133_138.out; have hcz22_0 : w20.cell? ⟨gb138, 0, none⟩ = some (.int .i64 0) := (blk_cell BK138.out 0).trans rfl; have hcz22_1 : w20.cell? ⟨gb138, 1, none⟩ = some (.string (⟨#[]⟩ : ByteArray)) := (blk_cell BK138.out 1).trans rfl; have hcz22_2 : w20.cell? ⟨gb138, 2, none⟩ = some (.string (⟨#[]⟩ : ByteArray)) := (blk_cell BK138.out 2).trans rfl; have hfz22_0 := blk_frozen BK138.out 0; have hfz22_1 := blk_frozen BK138.out 1; have hfz22_2 := blk_frozen BK138.out 2))
   (try simp only [Act.put, List.setIfInBounds_toArray, List.set_cons_zero, List.set_cons_succ])
   go_cut [40] (fun v40 wc => ∃ (kq : Nat) (x40_18 : Bool), v40 = .bool x40_18 ∧ Aside0 (jA.j1 kq l0 (l0.length : Int) x40_18 a1_0 a1_1 a1_2 ((rd_T53 l0 (ji16)).f0) ((rd_T53 l0 (ji16)).f1) ((rd_T53 l0 (ji16)).f2) = some r) ∧ Aside0 (kq ≤ kj2) ∧ Aside0 (Kd.R k53 53 wc w0.heap.size (fun k_ => (P0_ k_ ∨ w.heap.size ≤ k_) ∧ k_ ≠ gb133 ∧ k_ ≠ gb138) (.slice (some ad137) l0.length co5) l0) ∧ Aside0 (wc.heap[gb133]? = some (.cells #[.int .i64 a1_0, .string a1_1, .string a1_2] 53 (0, 0))) ∧ Aside0 (wc.heap[gb138]? = some (.cells #[.int .i64 ((rd_T53 l0 (ji16)).f0), .string ((rd_T53 l0 (ji16)).f1), .string ((rd_T53 l0 (ji16)).f2)] 53 (0, 0))) ∧ Aside0 (Kept w wc (fun k_ => P0_ k_)) ∧ Aside0 (Below w0.heap.size w0 wc))
   case first =>
    have H := HC19.out
    clear HC19
    by_cases c23 : a1_0 > 0
    rotate_left
    ·rw [if_neg c23] at H
     have c23b0 : decide (0 < a1_0) = false := decide_eq_false c23
     clear c23
     (first | rw [c23b0] | (simp only [i64_w, i32_w]; rw [c23b0]) | rw [c23e] | skip)
     have H' := aM H
     clear H
     have hnb27 := NB133_138.out
     have hnc27 := NB138_133.out
     have hcz28_0 : w20.cell? ⟨gb133, 0, none⟩ = some (.int .i64 a1_0) := (blk_cell BK133.out 0).trans rfl
     have hcz28_1 : w20.cell? ⟨gb133, 1, none⟩ = some (.string a1_1) := (blk_cell BK133.out 1).trans rfl
     have hcz28_2 : w20.cell? ⟨gb133, 2, none⟩ = some (.string a1_2) := (blk_cell BK133.out 2).trans rfl
     have hfz28_0 := blk_frozen BK133.out 0
     have hfz28_1 := blk_frozen BK133.out 1
     have hfz28_2 := blk_frozen BK133.out 2
     go_wp2
     go_meet
     case rel => exact ⟨_, (false), aP16, H', ⟨by have := HJ2.out; first | omega | exact Nat.le_refl _⟩, ⟨by (with_reducible repeat (first | apply Kd.R_alloc | apply Kd.R_drewN | apply Kd.R_drew)); exact Kd.R_mono (Kd.R_far (p := ⟨gb138, 2, none⟩) (Kd.R_far (p := ⟨gb138, 1, none⟩) (Kd.R_far (p := ⟨gb138, 0, none⟩) (Kd.R_mono HO_0.out (fun k_ hk => (⟨hk, hk.2⟩ : _ ∧ k_ ≠ gb138))) (fun _ hk => hk.2) (.int .i64 ((rd_T53 l0 (ji16)).f0))) (fun _ hk => hk.2) (.string ((rd_T53 l0 (ji16)).f1))) (fun _ hk => hk.2) (.string ((rd_T53 l0 (ji16)).f2))) (fun _ hk => ⟨hk.1.1.1, ⟨hk.1.1.2, hk.1.2⟩⟩)⟩, ⟨by (with_reducible repeat (first | refine blk_drewN ?_ _ | refine blk_drew ?_ | refine blk_alloc ?_ _)); refine blk_far ?_ NB133_138.out _; (with_reducible repeat (first | refine blk_drewN ?_ _ | refine blk_drew ?_ | refine blk_alloc ?_ _)); refine blk_far ?_ NB133_138.out _; (with_reducible repeat (first | refine blk_drewN ?_ _ | refine blk_drew ?_ | refine blk_alloc ?_ _)); refine blk_far ?_ NB133_138.out _; (with_reducible repeat (first | refine blk_drewN ?_ _ | refine blk_drew ?_ | refine blk_alloc ?_ _)); exact BK133.out⟩, ⟨by (with_reducible repeat (first | refine blk_drewN ?_ _ | refine blk_drew ?_ | refine blk_alloc ?_ _)); refine blk_put (cs := #[.int .i64 ((rd_T53 l0 (ji16)).f0), .string ((rd_T53 l0 (ji16)).f1), .string (⟨#[]⟩ : ByteArray)]) ?_ 2 _ rfl; (with_reducible repeat (first | refine blk_drewN ?_ _ | refine blk_drew ?_ | refine blk_alloc ?_ _)); refine blk_put (cs := #[.int .i64 ((rd_T53 l0 (ji16)).f0), .string (⟨#[]⟩ : ByteArray), .string (⟨#[]⟩ : ByteArray)]) ?_ 1 _ rfl; (with_reducible repeat (first | refine blk_drewN ?_ _ | refine blk_drew ?_ | refine blk_alloc ?_ _)); refine blk_put (cs := #[.int .i64 0, .string (⟨#[]⟩ : ByteArray), .string (⟨#[]⟩ : ByteArray)]) ?_ 0 _ rfl; (with_reducible repeat (first | refine blk_drewN ?_ _ | refine blk_drew ?_ | refine blk_alloc ?_ _)); exact BK138.out⟩, ⟨aP3⟩, ⟨aP4⟩⟩
    rw [if_pos c23] at H
    have c23b0 : decide (0 < a1_0) = true := decide_eq_true c23
    clear c23
    (first | rw [c23b0] | (simp only [i64_w, i32_w]; rw [c23b0]) | rw [c23e] | skip)
    have H' := aM H
    clear H
    have hnb24 := NB133_138.out
    have hnc24 := NB138_133.out
    have hcz25_0 : w20.cell? ⟨gb133, 0, none⟩ = some (.int .i64 a1_0) := (blk_cell BK133.out 0).trans rfl
    have hcz25_1 : w20.cell? ⟨gb133, 1, none⟩ = some (.string a1_1) := (blk_cell BK133.out 1).trans rfl
    have hcz25_2 : w20.cell? ⟨gb133, 2, none⟩ = some (.string a1_2) := (blk_cell BK133.out 2).trans rfl
    have hfz25_0 := blk_frozen BK133.out 0
    have hfz25_1 := blk_frozen BK133.out 1
    have hfz25_2 := blk_frozen BK133.out 2
    have hcz26_0 : w20.cell? ⟨gb138, 0, none⟩ = some (.int .i64 0) := (blk_cell BK138.out 0).trans rfl
    have hcz26_1 : w20.cell? ⟨gb138, 1, none⟩ = some (.string (⟨#[]⟩ : ByteArray)) := (blk_cell BK138.out 1).trans rfl
    have hcz26_2 : w20.cell? ⟨gb138, 2, none⟩ = some (.string (⟨#[]⟩ : ByteArray)) := (blk_cell BK138.out 2).trans rfl
    have hfz26_0 := blk_frozen BK138.out 0
    have hfz26_1 := blk_frozen BK138.out 1
    have hfz26_2 := blk_frozen BK138.out 2
    go_wp2
    go_meet
    case rel => exact ⟨_, (decide (((rd_T53 l0 (ji16)).f0) > 0)), aP18, aP20, ⟨by have := HJ2.out; first | omega | exact Nat.le_refl _⟩, ⟨by (with_reducible repeat (first | apply Kd.R_alloc | apply Kd.R_drewN | apply Kd.R_drew)); exact Kd.R_mono (Kd.R_far (p := ⟨gb138, 2, none⟩) (Kd.R_far (p := ⟨gb138, 1, none⟩) (Kd.R_far (p := ⟨gb138, 0, none⟩) (Kd.R_mono HO_0.out (fun k_ hk => (⟨hk, hk.2⟩ : _ ∧ k_ ≠ gb138))) (fun _ hk => hk.2) (.int .i64 ((rd_T53 l0 (ji16)).f0))) (fun _ hk => hk.2) (.string ((rd_T53 l0 (ji16)).f1))) (fun _ hk => hk.2) (.string ((rd_T53 l0 (ji16)).f2))) (fun _ hk => ⟨hk.1.1.1, ⟨hk.1.1.2, hk.1.2⟩⟩)⟩, ⟨by (with_reducible repeat (first | refine blk_drewN ?_ _ | refine blk_drew ?_ | refine blk_alloc ?_ _)); refine blk_far ?_ NB133_138.out _; (with_reducible repeat (first | refine blk_drewN ?_ _ | refine blk_drew ?_ | refine blk_alloc ?_ _)); refine blk_far ?_ NB133_138.out _; (with_reducible repeat (first | refine blk_drewN ?_ _ | refine blk_drew ?_ | refine blk_alloc ?_ _)); refine blk_far ?_ NB133_138.out _; (with_reducible repeat (first | refine blk_drewN ?_ _ | refine blk_drew ?_ | refine blk_alloc ?_ _)); exact BK133.out⟩, ⟨by (with_reducible repeat (first | refine blk_drewN ?_ _ | refine blk_drew ?_ | refine blk_alloc ?_ _)); refine blk_put (cs := #[.int .i64 ((rd_T53 l0 (ji16)).f0), .string ((rd_T53 l0 (ji16)).f1), .string (⟨#[]⟩ : ByteArray)]) ?_ 2 _ rfl; (with_reducible repeat (first | refine blk_drewN ?_ _ | refine blk_drew ?_ | refine blk_alloc ?_ _)); refine blk_put (cs := #[.int .i64 ((rd_T53 l0 (ji16)).f0), .string (⟨#[]⟩ : ByteArray), .string (⟨#[]⟩ : ByteArray)]) ?_ 1 _ rfl; (with_reducible repeat (first | refine blk_drewN ?_ _ | refine blk_drew ?_ | refine blk_alloc ?_ _)); refine blk_put (cs := #[.int .i64 0, .string (⟨#[]⟩ : ByteArray), .string (⟨#[]⟩ : ByteArray)]) ?_ 0 _ rfl; (with_reducible repeat (first | refine blk_drewN ?_ _ | refine blk_drew ?_ | refine blk_alloc ?_ _)); exact BK138.out⟩, ⟨aP3⟩, ⟨aP4⟩⟩
   case rest =>
    clear HC19
    try clear c1
    try clear p1
    try clear q1
    try clear hx1
    try clear c2
    try clear p2
    try clear c4
    try clear c6
    try clear c6b0
    try clear c6b1
    try clear p6
    try clear c7
    try clear c7b0
    try clear c7b1
    try clear c11
    try clear c12
    try clear c12b0
    try clear c12b1
    try clear c12b2
    try clear c13
    try clear p13
    try clear q13
    try clear hx13
    try clear c17
    try clear c17b0
    try clear c18
    try clear c18b0
    try clear c21
    try clear c23
    try clear c23b0
    try clear c24
    try clear c27
    try clear hcz10_0
    try clear hcz10_1
    try clear hcz10_2
    try clear hcz14_0
    try clear hcz14_1
    try clear hcz14_2
    try clear hcz22_0
    try clear hcz22_1
    try clear hcz22_2
    try clear hcz25_0
    try clear hcz25_1
    try clear hcz25_2
    try clear hcz26_0
    try clear hcz26_1
    try clear hcz26_2
    try clear hcz28_0
    try clear hcz28_1
    try clear hcz28_2
    try clear hcz8_0
    try clear hcz8_1
    try clear hcz8_2
    try clear hcz9_0
    try clear hcz9_1
    try clear hcz9_2
    try clear hfz10_0
    try clear hfz10_1
    try clear hfz10_2
    try clear hfz14_0
    try clear hfz14_1
    try clear hfz14_2
    try clear hfz22_0
    try clear hfz22_1
    try clear hfz22_2
    try clear hfz25_0
    try clear hfz25_1
    try clear hfz25_2
    try clear hfz26_0
    try clear hfz26_1
    try clear hfz26_2
    try clear hfz28_0
    try clear hfz28_1
    try clear hfz28_2
    try clear hfz8_0
    try clear hfz8_1
    try clear hfz8_2
    try clear hfz9_0
    try clear hfz9_1
    try clear hfz9_2
    try clear hx137_0
    try clear hx137_1
    try clear hx137_2
    try clear p137
    try clear p2
    try clear q137
    obtain ⟨kq, x40_18, rfl, HA, HJ18, HO_0, BK133, BK138, HK, HB⟩ := hcut
    cases kq with
    | zero => exact absurd HA.out (by simp [jA.j1])
    | succ kj18 =>
     have H := HA.out
     clear HA
     simp only [jA.j1] at H
     by_cases c29 : x40_18 = true
     ·subst c29
      have H1 : (if 0 ≤ (wrap64 ((l0.length : Int) - 1)) then (if (wrap64 ((l0.length : Int) - 1)) < (l0.length : Int) then (some (l0.set ((wrap64 ((l0.length : Int) - 1)) : Int).toNat (⟨wrap64 (((rd_T53 l0 (wrap64 ((l0.length : Int) - 1))).f0) + a1_0), (rd_T53 l0 (wrap64 ((l0.length : Int) - 1))).f1, (rd_T53 l0 (wrap64 ((l0.length : Int) - 1))).f2⟩ : S53))) else (none)) else (none)) = some r := by rw [if_pos rfl] at H; exact H
      clear H
      have H := H1
      clear H1
      replace H : (if 0 ≤ (ji16) then (if (ji16) < (l0.length : Int) then (some (l0.set ((ji16) : Int).toNat (⟨wrap64 (((rd_T53 l0 (ji16)).f0) + a1_0), (rd_T53 l0 (ji16)).f1, (rd_T53 l0 (ji16)).f2⟩ : S53))) else (none)) else (none)) = some r := by first | (rw [hji16] at H; exact H) | (simp only [hji16] at H ⊢; exact H)
      by_cases c31 : 0 ≤ (ji16)
      rotate_left
      ·rw [if_neg c31] at H
       exact absurd H (by simp)
      rw [if_pos c31] at H
      have c31b0 : decide (0 ≤ (ji16)) = true := decide_eq_true c31
      clear c31
      by_cases c32 : (ji16) < (l0.length : Int)
      rotate_left
      ·rw [if_neg c32] at H
       exact absurd H (by simp)
      rw [if_pos c32] at H
      have c32b0 : decide ((ji16) < (l0.length : Int)) = true := decide_eq_true c32
      clear c32
      obtain ⟨y140, hy140⟩ : ∃ y_ : List (S53), y_ = (l0.set ((ji16) : Int).toNat (⟨wrap64 (((rd_T53 l0 (ji16)).f0) + a1_0), (rd_T53 l0 (ji16)).f1, (rd_T53 l0 (ji16)).f2⟩ : S53)) := ⟨_, rfl⟩
      replace H : (some y140) = some r := by first | (rw [hy140]; with_reducible exact H) | (have H2_ := (Option.bind_some _ _).symm.trans H; rw [hy140]; with_reducible exact H2_) | (have H2_ := (Option.bind_some _ _).symm.trans H; with_reducible exact H2_) | with_reducible exact H | (rw [hy140]; exact H) | exact H
      have Ny140 := aM hy140
      clear hy140
      obtain rfl := Option.some.inj H
      try go_wp2
      have n0_ := aM (Kd.R_drew HO_0.out)
      have n1_ := aM (blk_drew BK133.out)
      have n2_ := aM (blk_drew BK138.out)
      have n3_ := aM (Kept.drew HK.out)
      have n4_ := aM (below_drew1 HB.out)
      clear HO_0
      clear BK133
      clear BK138
      clear HK
      clear HB
      have HO_0 := n0_
      have BK133 := n1_
      have BK138 := n2_
      have HK := n3_
      have HB := n4_
      clear n0_ n1_ n2_ n3_ n4_
      have p139 : 0 ≤ ((ji16) : Int) := of_decide_eq_true (by assumption)
      have q139 : (ji16) < (l0.length : Int) := of_decide_eq_true (by assumption)
      obtain ⟨ad139, e139, hx139_0, hx139_1, hx139_2⟩ := at_T53 (Kd.R_reads' HO_0.out).2.2 (ji16) p139 q139
      (first | obtain rfl : ad137 = ad139 := (by injection e139) | cases e139)
      replace p139 := eq_true p139
      replace q139 := eq_true q139
      have p33 : 0 ≤ ((ji16) : Int) := of_decide_eq_true (by assumption)
      have q33 : ((ji16) : Int) < ((l0.length : Int) : Int) := of_decide_eq_true (by assumption)
      obtain ⟨go33, co33, eo33, gb33, gl33, cl33, HG33⟩ := Kd.R_form HO_0.out (by omega)
      (first | cases eo33 | (injection eo33 with ea_ en_ ec_; (first | subst ea_ | (injection ea_ with ea_; subst ea_)); subst ec_; clear en_))
      have GB33 := aM gb33
      have GG33 := aM HG33
      clear gb33 gl33 HG33
      have HMgo33 := aM (show (P0_ go33 ∨ w.heap.size ≤ go33) from (HO_0.out.1 _ rfl).1)
      (first | simp only [add_plain] at hx137_0 | skip)
      (first | simp only [add_plain] at hx137_1 | skip)
      (first | simp only [add_plain] at hx137_2 | skip)
      (first | simp only [add_plain] at hx139_0 | skip)
      (first | simp only [add_plain] at hx139_1 | skip)
      (first | simp only [add_plain] at hx139_2 | skip)
      obtain ⟨ce33, hcl33, hM33, hcc33, hfr33⟩ := Kd.R_elem HO_0.out z53 ((ji16) : Int) p33 q33
      obtain rfl := k53_openM hM33
      have hx33_0 : World.cell? _ ⟨go33, ((ji16) : Int).toNat * 3, none⟩ = some (.int .i64 ((rd_T53 l0 (ji16)).f0)) := hcc33 0 _ rfl
      have hx33_1 : World.cell? _ ⟨go33, ((ji16) : Int).toNat * 3 + 1, none⟩ = some (.string ((rd_T53 l0 (ji16)).f1)) := hcc33 1 _ rfl
      have hx33_2 : World.cell? _ ⟨go33, ((ji16) : Int).toNat * 3 + 2, none⟩ = some (.string ((rd_T53 l0 (ji16)).f2)) := hcc33 2 _ rfl
      have hf33_0 : World.frozen? _ ⟨go33, ((ji16) : Int).toNat * 3, none⟩ = false := hfr33 0
      have hf33_1 : World.frozen? _ ⟨go33, ((ji16) : Int).toNat * 3 + 1, none⟩ = false := hfr33 1
      have hf33_2 : World.frozen? _ ⟨go33, ((ji16) : Int).toNat * 3 + 2, none⟩ = false := hfr33 2
      clear hcl33 hcc33 hfr33 hM33
      replace p33 := eq_true p33
      replace q33 := eq_true q33
      obtain ⟨ce35, hcl35, hM35, hcc35, hfr35⟩ := Kd.R_elem HO_0.out z53 ((ji16) : Int) (of_decide_eq_true (by assumption)) (by have h_ : ((ji16) : Int) < ((l0.length : Int) : Int) := of_decide_eq_true (by assumption); first | exact h_ | (have e_ := (Kd.R_reads' HO_0.out).1; omega) | simpa using h_)
      obtain rfl := k53_openM hM35
      have HP35 := (Kd.R_seg HO_0.out ((ji16) : Int) (of_decide_eq_true (by assumption)) (by have h_ : ((ji16) : Int) < ((l0.length : Int) : Int) := of_decide_eq_true (by assumption); first | exact h_ | (have e_ := (Kd.R_reads' HO_0.out).1; omega) | simpa using h_) (seg := [.int .i64 (wrap64 (((rd_T53 l0 (ji16)).f0) + a1_0))]) (j := 0) hcl35 hcc35 (show 1 ≤ 3 from by decide) (x' := (⟨wrap64 (((rd_T53 l0 (ji16)).f0) + a1_0), (rd_T53 l0 (ji16)).f1, (rd_T53 l0 (ji16)).f2⟩ : S53)) (k53_mkM _ _ _ (⟨wrap64 (((rd_T53 l0 (ji16)).f0) + a1_0), (rd_T53 l0 (ji16)).f1, (rd_T53 l0 (ji16)).f2⟩ : S53) ) (fun _ hk => hk)).1
      rw [← Ny140.out] at HP35
      have HQ35 := aM HP35
      clear hcl35 hcc35 hfr35 hM35 HP35
      refine start_ (n := 12) (S := fun w' => w'.cell? ⟨gb133, 0, none⟩ = some (.int .i64 a1_0) ∧ w'.cell? ⟨gb133, 1, none⟩ = some (.string a1_1) ∧ w'.cell? ⟨gb133, 2, none⟩ = some (.string a1_2) ∧ w'.cell? ⟨go33, ((ji16)).toNat * 3, none⟩ = some (.int .i64 ((rd_T53 l0 (ji16)).f0)) ∧ w'.cell? ⟨go33, ((ji16)).toNat * 3 + 1, none⟩ = some (.string ((rd_T53 l0 (ji16)).f1)) ∧ w'.cell? ⟨go33, ((ji16)).toNat * 3 + 2, none⟩ = some (.string ((rd_T53 l0 (ji16)).f2))) (ds := [11]) #[false, false, false, false, false, false, false, false, false, false, false, false] (by kernel_rfl) rfl rfl ⟨(blk_cell BK133.out 0).trans rfl, (blk_cell BK133.out 1).trans rfl, (blk_cell BK133.out 2).trans rfl, hx139_0, hx139_1, hx139_2⟩ (fun hHeld => ?_); refine with_tabW jA.tab9 jA.bits9 (fun HT_ HW_ => ?_)
      (first | generalize wc.drew = w34 at HO_0 BK133 BK138 HK HB GG33 HQ35 hf33_0 hf33_1 hf33_2 hx137_0 hx137_1 hx137_2 hx139_0 hx139_1 hx139_2 hx33_0 hx33_1 hx33_2 hHeld ⊢ | generalize wc.drew = w34 at HO_0 BK133 BK138 HK HB GG33 HQ35 hf33_0 hf33_1 hf33_2 hx139_0 hx139_1 hx139_2 hx33_0 hx33_1 hx33_2 hHeld ⊢ | generalize wc.drew = w34 at HO_0 BK133 BK138 HK HB GG33 HQ35 hf33_0 hf33_1 hf33_2 hx137_0 hx137_1 hx137_2 hx33_0 hx33_1 hx33_2 hHeld ⊢)
      refine pure_ (i := 0) (N := some 49) (v := ?_) (a' := ?_) #[true, false, false, false, false, false, false, false, false, false, false, false] rfl rfl (any_of HT_.out (by kernel_rfl)) (fun _ _ _ h => h) (Or.inl ⟨by rfl, ?_⟩) ?_ ?_
      rotate_left
      ·intro w'
       go_simp
       with_reducible rfl
      rotate_left
      ·simp only [Act.put, List.setIfInBounds_toArray, List.set_cons_zero, List.set_cons_succ, i64_w, i32_w]
       rfl
      refine pure_ (i := 1) (N := some 50) (v := ?_) (a' := ?_) #[true, true, false, false, false, false, false, false, false, false, false, false] rfl rfl (any_of HT_.out (by kernel_rfl)) (fun _ _ _ h => h) (Or.inl ⟨by rfl, ?_⟩) ?_ ?_
      rotate_left
      ·intro w'
       go_simp
       with_reducible rfl
      rotate_left
      ·simp only [Act.put, List.setIfInBounds_toArray, List.set_cons_zero, List.set_cons_succ, i64_w, i32_w]
       rfl
      refine pure_ (i := 2) (N := some 51) (v := ?_) (a' := ?_) #[true, true, true, false, false, false, false, false, false, false, false, false] rfl rfl (any_of HT_.out (by kernel_rfl)) (fun _ _ _ h => h) (Or.inl ⟨by rfl, ?_⟩) ?_ ?_
      rotate_left
      ·intro w'
       go_simp
       with_reducible rfl
      rotate_left
      ·simp only [Act.put, List.setIfInBounds_toArray, List.set_cons_zero, List.set_cons_succ, i64_w, i32_w]
       rfl
      refine pure_ (i := 3) (N := some 52) (v := ?_) (a' := ?_) #[true, true, true, true, false, false, false, false, false, false, false, false] rfl rfl (any_of HT_.out (by kernel_rfl)) (fun _ _ _ h => h) (Or.inl ⟨by rfl, ?_⟩) ?_ ?_
      rotate_left
      ·intro w'
       go_simp
       with_reducible rfl
      rotate_left
      ·simp only [Act.put, List.setIfInBounds_toArray, List.set_cons_zero, List.set_cons_succ, i64_w, i32_w]
       rfl
      refine pure_ (i := 4) (N := some 53) (v := ?_) (a' := ?_) #[true, true, true, true, true, false, false, false, false, false, false, false] rfl rfl (any_of HT_.out (by kernel_rfl)) (fun _ _ _ h => h) (Or.inl ⟨by rfl, ?_⟩) ?_ ?_
      rotate_left
      ·intro w'
       go_simp
       with_reducible rfl
      rotate_left
      ·simp only [Act.put, List.setIfInBounds_toArray, List.set_cons_zero, List.set_cons_succ, i64_w, i32_w]
       rfl
      refine pure_ (i := 6) (N := some 55) (v := ?_) (a' := ?_) #[true, true, true, true, true, false, true, false, false, false, false, false] rfl rfl (any_of HT_.out (by kernel_rfl)) (fun _ _ _ h => h) (Or.inl ⟨by rfl, ?_⟩) ?_ ?_
      rotate_left
      ·intro w'
       go_simp
       with_reducible rfl
      rotate_left
      ·simp only [Act.put, List.setIfInBounds_toArray, List.set_cons_zero, List.set_cons_succ, i64_w, i32_w]
       rfl
      refine take_ (i := 5) (N := some 54) (v := ?_) (a' := ?_) #[true, true, true, true, true, true, true, false, false, false, false, false] rfl rfl (take_ofW HT_.out HW_.out (by kernel_rfl)) (fun _ _ _ h => h) (Or.inl ⟨by rfl, ?_⟩) hHeld ?_ ?_
      rotate_left
      ·rintro w' ⟨s0, s1, s2, s3, s4, s5⟩
       go_simp
       with_reducible rfl
      rotate_left
      ·simp only [Act.put, List.setIfInBounds_toArray, List.set_cons_zero, List.set_cons_succ, i64_w, i32_w]
       rfl
      refine take_ (i := 7) (N := some 56) (v := ?_) (a' := ?_) #[true, true, true, true, true, true, true, true, false, false, false, false] rfl rfl (take_ofW HT_.out HW_.out (by kernel_rfl)) (fun _ _ _ h => h) (Or.inl ⟨by rfl, ?_⟩) hHeld ?_ ?_
      rotate_left
      ·rintro w' ⟨s0, s1, s2, s3, s4, s5⟩
       go_simp
       with_reducible rfl
      rotate_left
      ·simp only [Act.put, List.setIfInBounds_toArray, List.set_cons_zero, List.set_cons_succ, i64_w, i32_w]
       rfl
      refine pure_ (i := 8) (N := some 57) (v := ?_) (a' := ?_) #[true, true, true, true, true, true, true, true, true, false, false, false] rfl rfl (any_of HT_.out (by kernel_rfl)) (fun _ _ _ h => h) (Or.inl ⟨by rfl, ?_⟩) ?_ ?_
      rotate_left
      ·intro w'
       go_simp
       with_reducible rfl
      rotate_left
      ·simp only [Act.put, List.setIfInBounds_toArray, List.set_cons_zero, List.set_cons_succ, i64_w, i32_w]
       rfl
      refine pure_ (i := 9) (N := some 58) (v := ?_) (a' := ?_) #[true, true, true, true, true, true, true, true, true, true, false, false] rfl rfl (any_of HT_.out (by kernel_rfl)) (fun _ _ _ h => h) (Or.inl ⟨by rfl, ?_⟩) ?_ ?_
      rotate_left
      ·intro w'
       go_simp
       with_reducible rfl
      rotate_left
      ·simp only [Act.put, List.setIfInBounds_toArray, List.set_cons_zero, List.set_cons_succ, i64_w, i32_w]
       rfl
      refine pure_ (i := 10) (N := some 59) (v := ?_) (a' := ?_) #[true, true, true, true, true, true, true, true, true, true, true, false] rfl rfl (any_of HT_.out (by kernel_rfl)) (fun _ _ _ h => h) (Or.inl ⟨by rfl, ?_⟩) ?_ ?_
      rotate_left
      ·intro w'
       go_simp
       with_reducible rfl
      rotate_left
      ·simp only [Act.put, List.setIfInBounds_toArray, List.set_cons_zero, List.set_cons_succ, i64_w, i32_w]
       rfl
      refine last_ (i := 11) (N := none) #[true, true, true, true, true, true, true, true, true, true, true, true] rfl rfl (one_of HT_.out (by kernel_rfl)) (by decide) (fun K hK => ?_)
      refine skip_ (w1 := ?_) (by rfl) rfl ?_ ?_
      rotate_left
      ·go_simp
       rfl
      refine hK.out _ _ ?_
      clear hK K
      refine done_ (done_of HT_.out (by kernel_rfl)) ?_
      try go_wp2
      go_ret
      exact ⟨_, by first | rfl | (simp [errW_none, errW_some] <;> rfl) | (simp only [← hji16, ← hji16]; first | rfl | (simp [errW_none, errW_some] <;> rfl)) | (simp [*, errW_none, errW_some] <;> rfl), by (with_reducible repeat (first | apply Kd.R_alloc | apply Kd.R_drewN | apply Kd.R_drew)); exact Kd.R_mono HQ35.out (fun _ hk => hk.1), by repeat (first | (with_reducible first | exact HB.out | apply below_alloc | apply pw_below_drewN | apply below_drew1 | refine below_set ?_ GB33.out | refine below_set ?_ GE133.out | refine below_set ?_ GE138.out) | exact HB.out), by repeat (first | (with_reducible first | exact HK.out | apply Kept.alloc | apply Kept.drewN | apply Kept.drew | refine Kept.setCell ?_ HMgo33.out _ | refine Kept.setCell ?_ (.inr GW133.out) _ | refine Kept.setCell ?_ (.inr GW138.out) _) | exact HK.out)⟩
     replace c29 := Bool.eq_false_iff.mpr c29
     subst c29
     have H1 : (if a1_2.toList = ([] : List UInt8) then (jA.j2 kj18 l0 (l0.length : Int) false a1_0 a1_1 a1_2 ((rd_T53 l0 (ji16)).f0) ((rd_T53 l0 (ji16)).f1) ((rd_T53 l0 (ji16)).f2)) else (jA.j2 kj18 l0 (l0.length : Int) (((rd_T53 l0 (ji16)).f2).toList != ([] : List UInt8)) a1_0 a1_1 a1_2 ((rd_T53 l0 (ji16)).f0) ((rd_T53 l0 (ji16)).f1) ((rd_T53 l0 (ji16)).f2))) = some r := by rw [if_neg (show ¬ (false = true) by decide)] at H; exact H
     clear H
     have H := H1
     clear H1
     have HC36 := aM H
     clear H
     go_upto_region 10 with (fail)
     go_cut [60] (fun v60 wc => ∃ (kq : Nat) (x60_35 : Bool), v60 = .bool x60_35 ∧ Aside0 (jA.j2 kq l0 (l0.length : Int) x60_35 a1_0 a1_1 a1_2 ((rd_T53 l0 (ji16)).f0) ((rd_T53 l0 (ji16)).f1) ((rd_T53 l0 (ji16)).f2) = some r) ∧ Aside0 (kq ≤ kj18) ∧ Aside0 (Kd.R k53 53 wc w0.heap.size (fun k_ => (P0_ k_ ∨ w.heap.size ≤ k_) ∧ k_ ≠ gb133 ∧ k_ ≠ gb138) (.slice (some ad137) l0.length co5) l0) ∧ Aside0 (wc.heap[gb133]? = some (.cells #[.int .i64 a1_0, .string a1_1, .string a1_2] 53 (0, 0))) ∧ Aside0 (wc.heap[gb138]? = some (.cells #[.int .i64 ((rd_T53 l0 (ji16)).f0), .string ((rd_T53 l0 (ji16)).f1), .string ((rd_T53 l0 (ji16)).f2)] 53 (0, 0))) ∧ Aside0 (Kept w wc (fun k_ => P0_ k_)) ∧ Aside0 (Below w0.heap.size w0 wc))
     case first =>
      have H := HC36.out
      clear HC36
      by_cases c37 : a1_2.toList = ([] : List UInt8)
      ·rw [if_pos c37] at H
       have c37b0 : (a1_2.toList == ([] : List UInt8)) = true := beq_iff_eq.mpr c37
       have c37b1 : (a1_2.toList != ([] : List UInt8)) = false := bne_eq_false_iff_eq.mpr c37
       try have c37e : a1_2.toList.isEmpty = true := List.isEmpty_iff.mpr c37
       clear c37
       (first | rw [c37b0] | (simp only [i64_w, i32_w]; rw [c37b0]) | rw [c37e] | skip)
       have H' := aM H
       clear H
       have hnb38 := NB133_138.out
       have hnc38 := NB138_133.out
       have hcz39_0 : wc.cell? ⟨gb133, 0, none⟩ = some (.int .i64 a1_0) := (blk_cell BK133.out 0).trans rfl
       have hcz39_1 : wc.cell? ⟨gb133, 1, none⟩ = some (.string a1_1) := (blk_cell BK133.out 1).trans rfl
       have hcz39_2 : wc.cell? ⟨gb133, 2, none⟩ = some (.string a1_2) := (blk_cell BK133.out 2).trans rfl
       have hfz39_0 := blk_frozen BK133.out 0
       have hfz39_1 := blk_frozen BK133.out 1
       have hfz39_2 := blk_frozen BK133.out 2
       go_wp2
       go_meet
       case rel => exact ⟨_, (false), aP16, H', ⟨by have := HJ2.out; have := HJ18.out; first | omega | exact Nat.le_refl _⟩, ⟨rR HO_0.out⟩, ⟨kK BK133.out⟩, ⟨kK BK138.out⟩, ⟨aP3⟩, ⟨aP4⟩⟩
      rw [if_neg c37] at H
      have c37b0 : (a1_2.toList == ([] : List UInt8)) = false := beq_eq_false_iff_ne.mpr c37
      have c37b1 : (a1_2.toList != ([] : List UInt8)) = true := bne_iff_ne.mpr c37
      try have c37e : a1_2.toList.isEmpty = false := List.isEmpty_eq_false_iff.mpr c37
      (first | rw [c37b0] | (simp only [i64_w, i32_w]; rw [c37b0]) | rw [c37e] | skip)
      have H' := aM H
      clear H
      have hnb40 := NB133_138.out
      have hnc40 := NB138_133.out
      have hcz41_0 : wc.cell? ⟨gb133, 0, none⟩ = some (.int .i64 a1_0) := (blk_cell BK133.out 0).trans rfl
      have hcz41_1 : wc.cell? ⟨gb133, 1, none⟩ = some (.string a1_1) := (blk_cell BK133.out 1).trans rfl
      have hcz41_2 : wc.cell? ⟨gb133, 2, none⟩ = some (.string a1_2) := (blk_cell BK133.out 2).trans rfl
      have hfz41_0 := blk_frozen BK133.out 0
      have hfz41_1 := blk_frozen BK133.out 1
      have hfz41_2 := blk_frozen BK133.out 2
      have hcz42_0 : wc.cell? ⟨gb138, 0, none⟩ = some (.int .i64 ((rd_T53 l0 (ji16)).f0)) := (blk_cell BK138.out 0).trans rfl
      have hcz42_1 : wc.cell? ⟨gb138, 1, none⟩ = some (.string ((rd_T53 l0 (ji16)).f1)) := (blk_cell BK138.out 1).trans rfl
      have hcz42_2 : wc.cell? ⟨gb138, 2, none⟩ = some (.string ((rd_T53 l0 (ji16)).f2)) := (blk_cell BK138.out 2).trans rfl
      have hfz42_0 := blk_frozen BK138.out 0
      have hfz42_1 := blk_frozen BK138.out 1
      have hfz42_2 := blk_frozen BK138.out 2
      go_wp2
      go_meet
      case rel => exact ⟨_, ((((rd_T53 l0 (ji16)).f2).toList != ([] : List UInt8))), aP18, aP20, ⟨by have := HJ2.out; have := HJ18.out; first | omega | exact Nat.le_refl _⟩, ⟨rR HO_0.out⟩, ⟨kK BK133.out⟩, ⟨kK BK138.out⟩, ⟨aP3⟩, ⟨aP4⟩⟩
     case rest =>
      clear HC36
      try clear c1
      try clear p1
      try clear q1
      try clear hx1
      try clear c2
      try clear p2
      try clear c3
      try clear p3
      try clear q3
      try clear hx3
      try clear hf3
      try clear c4
      try clear c6
      try clear c6b0
      try clear c6b1
      try clear p6
      try clear c7
      try clear c7b0
      try clear c7b1
      try clear c11
      try clear c12
      try clear c12b0
      try clear c12b1
      try clear c12b2
      try clear c13
      try clear p13
      try clear q13
      try clear hx13
      try clear c17
      try clear c17b0
      try clear c18
      try clear c18b0
      try clear c21
      try clear c23
      try clear c23b0
      try clear c24
      try clear c27
      try clear c29
      try clear c31
      try clear c31b0
      try clear c32
      try clear c32b0
      try clear c33
      try clear p33
      try clear q33
      try clear hx33
      try clear hf33
      try clear c35
      try clear c37
      try clear c37b0
      try clear c37b1
      try clear c38
      try clear c40
      try clear c41
      try clear hcz10_0
      try clear hcz10_1
      try clear hcz10_2
      try clear hcz14_0
      try clear hcz14_1
      try clear hcz14_2
      try clear hcz22_0
      try clear hcz22_1
      try clear hcz22_2
      try clear hcz25_0
      try clear hcz25_1
      try clear hcz25_2
      try clear hcz26_0
      try clear hcz26_1
      try clear hcz26_2
      try clear hcz28_0
      try clear hcz28_1
      try clear hcz28_2
      try clear hcz39_0
      try clear hcz39_1
      try clear hcz39_2
      try clear hcz41_0
      try clear hcz41_1
      try clear hcz41_2
      try clear hcz42_0
      try clear hcz42_1
      try clear hcz42_2
      try clear hcz8_0
      try clear hcz8_1
      try clear hcz8_2
      try clear hcz9_0
      try clear hcz9_1
      try clear hcz9_2
      try clear hfz10_0
      try clear hfz10_1
      try clear hfz10_2
      try clear hfz14_0
      try clear hfz14_1
      try clear hfz14_2
      try clear hfz22_0
      try clear hfz22_1
      try clear hfz22_2
      try clear hfz25_0
      try clear hfz25_1
      try clear hfz25_2
      try clear hfz26_0
      try clear hfz26_1
      try clear hfz26_2
      try clear hfz28_0
      try clear hfz28_1
      try clear hfz28_2
      try clear hfz39_0
      try clear hfz39_1
      try clear hfz39_2
      try clear hfz41_0
      try clear hfz41_1
      try clear hfz41_2
      try clear hfz42_0
      try clear hfz42_1
      try clear hfz42_2
      try clear hfz8_0
      try clear hfz8_1
      try clear hfz8_2
      try clear hfz9_0
      try clear hfz9_1
      try clear hfz9_2
      try clear hx137_0
      try clear hx137_1
      try clear hx137_2
      try clear hx139_0
      try clear hx139_1
      try clear hx139_2
      try clear hx33_0
      try clear hx33_1
      try clear hx33_2
      try clear p1
      try clear p13
      try clear p137
      try clear p139
      try clear p2
      try clear p33
      try clear p6
      try clear q1
      try clear q13
      try clear q137
      try clear q139
      try clear q33
      obtain ⟨kq, x60_35, rfl, HA, HJ35, HO_0, BK133, BK138, HK, HB⟩ := hcut
      cases kq with
      | zero => exact absurd HA.out (by simp [jA.j2])
      | succ kj35 =>
       have H := HA.out
       clear HA
       simp only [jA.j2] at H
       by_cases c43 : x60_35 = true
       ·subst c43
        have H1 : (if 0 ≤ (wrap64 ((l0.length : Int) - 1)) then (if (wrap64 ((l0.length : Int) - 1)) < (l0.length : Int) then (if ((rd_T53 l0 (wrap64 ((l0.length : Int) - 1))).f2).size + a1_2.size ≤ 9223372036854775807 then (some (l0.set ((wrap64 ((l0.length : Int) - 1)) : Int).toNat (⟨(rd_T53 l0 (wrap64 ((l0.length : Int) - 1))).f0, (rd_T53 l0 (wrap64 ((l0.length : Int) - 1))).f1, ((rd_T53 l0 (wrap64 ((l0.length : Int) - 1))).f2) ++ a1_2⟩ : S53))) else (none)) else (none)) else (none)) = some r := by rw [if_pos rfl] at H; exact H
        clear H
        have H := H1
        clear H1
        replace H : (if 0 ≤ (ji16) then (if (ji16) < (l0.length : Int) then (if ((rd_T53 l0 (ji16)).f2).size + a1_2.size ≤ 9223372036854775807 then (some (l0.set ((ji16) : Int).toNat (⟨(rd_T53 l0 (ji16)).f0, (rd_T53 l0 (ji16)).f1, ((rd_T53 l0 (ji16)).f2) ++ a1_2⟩ : S53))) else (none)) else (none)) else (none)) = some r := by first | (rw [hji16] at H; exact H) | (simp only [hji16] at H ⊢; exact H)
        by_cases c45 : 0 ≤ (ji16)
        rotate_left
        ·rw [if_neg c45] at H
         exact absurd H (by simp)
        rw [if_pos c45] at H
        have c45b0 : decide (0 ≤ (ji16)) = true := decide_eq_true c45
        clear c45
        by_cases c46 : (ji16) < (l0.length : Int)
        rotate_left
        ·rw [if_neg c46] at H
         exact absurd H (by simp)
        rw [if_pos c46] at H
        have c46b0 : decide ((ji16) < (l0.length : Int)) = true := decide_eq_true c46
        clear c46
        by_cases c47 : ((rd_T53 l0 (ji16)).f2).size + a1_2.size ≤ 9223372036854775807
        rotate_left
        ·rw [if_neg c47] at H
         exact absurd H (by simp)
        rw [if_pos c47] at H
        have c47b0 := eq_true c47
        have c47b1 : decide (((rd_T53 l0 (ji16)).f2).size + a1_2.size ≤ 9223372036854775807) = true := decide_eq_true c47
        try have c47b2 : (9223372036854775807 < ((rd_T53 l0 (ji16)).f2).size + a1_2.size) = False := eq_false (Nat.not_lt.2 c47)
        obtain ⟨y142, hy142⟩ : ∃ y_ : List (S53), y_ = (l0.set ((ji16) : Int).toNat (⟨(rd_T53 l0 (ji16)).f0, (rd_T53 l0 (ji16)).f1, ((rd_T53 l0 (ji16)).f2) ++ a1_2⟩ : S53)) := ⟨_, rfl⟩
        replace H : (some y142) = some r := by first | (rw [hy142]; with_reducible exact H) | (have H2_ := (Option.bind_some _ _).symm.trans H; rw [hy142]; with_reducible exact H2_) | (have H2_ := (Option.bind_some _ _).symm.trans H; with_reducible exact H2_) | with_reducible exact H | (rw [hy142]; exact H) | exact H
        have Ny142 := aM hy142
        clear hy142
        obtain rfl := Option.some.inj H
        try go_wp2
        have n0_ := aM (Kd.R_drew HO_0.out)
        have n1_ := aM (blk_drew BK133.out)
        have n2_ := aM (blk_drew BK138.out)
        have n3_ := aM (Kept.drew HK.out)
        have n4_ := aM (below_drew1 HB.out)
        clear HO_0
        clear BK133
        clear BK138
        clear HK
        clear HB
        have HO_0 := n0_
        have BK133 := n1_
        have BK138 := n2_
        have HK := n3_
        have HB := n4_
        clear n0_ n1_ n2_ n3_ n4_
        have p141 : 0 ≤ ((ji16) : Int) := of_decide_eq_true (by assumption)
        have q141 : (ji16) < (l0.length : Int) := of_decide_eq_true (by assumption)
        obtain ⟨ad141, e141, hx141_0, hx141_1, hx141_2⟩ := at_T53 (Kd.R_reads' HO_0.out).2.2 (ji16) p141 q141
        (first | obtain rfl : ad137 = ad141 := (by injection e141) | cases e141)
        replace p141 := eq_true p141
        replace q141 := eq_true q141
        have p48 : 0 ≤ ((ji16) : Int) := of_decide_eq_true (by assumption)
        have q48 : ((ji16) : Int) < ((l0.length : Int) : Int) := of_decide_eq_true (by assumption)
        obtain ⟨go48, co48, eo48, gb48, gl48, cl48, HG48⟩ := Kd.R_form HO_0.out (by omega)
        (first | cases eo48 | (injection eo48 with ea_ en_ ec_; (first | subst ea_ | (injection ea_ with ea_; subst ea_)); subst ec_; clear en_))
        have GB48 := aM gb48
        have GG48 := aM HG48
        clear gb48 gl48 HG48
        have HMgo48 := aM (show (P0_ go48 ∨ w.heap.size ≤ go48) from (HO_0.out.1 _ rfl).1)
        (first | simp only [add_plain] at hx141_0 | skip)
        (first | simp only [add_plain] at hx141_1 | skip)
        (first | simp only [add_plain] at hx141_2 | skip)
        obtain ⟨ce48, hcl48, hM48, hcc48, hfr48⟩ := Kd.R_elem HO_0.out z53 ((ji16) : Int) p48 q48
        obtain rfl := k53_openM hM48
        have hx48_0 : World.cell? _ ⟨go48, ((ji16) : Int).toNat * 3, none⟩ = some (.int .i64 ((rd_T53 l0 (ji16)).f0)) := hcc48 0 _ rfl
        have hx48_1 : World.cell? _ ⟨go48, ((ji16) : Int).toNat * 3 + 1, none⟩ = some (.string ((rd_T53 l0 (ji16)).f1)) := hcc48 1 _ rfl
        have hx48_2 : World.cell? _ ⟨go48, ((ji16) : Int).toNat * 3 + 2, none⟩ = some (.string ((rd_T53 l0 (ji16)).f2)) := hcc48 2 _ rfl
        have hf48_0 : World.frozen? _ ⟨go48, ((ji16) : Int).toNat * 3, none⟩ = false := hfr48 0
        have hf48_1 : World.frozen? _ ⟨go48, ((ji16) : Int).toNat * 3 + 1, none⟩ = false := hfr48 1
        have hf48_2 : World.frozen? _ ⟨go48, ((ji16) : Int).toNat * 3 + 2, none⟩ = false := hfr48 2
        clear hcl48 hcc48 hfr48 hM48
        replace p48 := eq_true p48
        replace q48 := eq_true q48
        obtain ⟨ce50, hcl50, hM50, hcc50, hfr50⟩ := Kd.R_elem HO_0.out z53 ((ji16) : Int) (of_decide_eq_true (by assumption)) (by have h_ : ((ji16) : Int) < ((l0.length : Int) : Int) := of_decide_eq_true (by assumption); first | exact h_ | (have e_ := (Kd.R_reads' HO_0.out).1; omega) | simpa using h_)
        obtain rfl := k53_openM hM50
        have HP50 := (Kd.R_seg HO_0.out ((ji16) : Int) (of_decide_eq_true (by assumption)) (by have h_ : ((ji16) : Int) < ((l0.length : Int) : Int) := of_decide_eq_true (by assumption); first | exact h_ | (have e_ := (Kd.R_reads' HO_0.out).1; omega) | simpa using h_) (seg := [.string (((rd_T53 l0 (ji16)).f2) ++ a1_2)]) (j := 2) hcl50 hcc50 (show 3 ≤ 3 from by decide) (x' := (⟨(rd_T53 l0 (ji16)).f0, (rd_T53 l0 (ji16)).f1, ((rd_T53 l0 (ji16)).f2) ++ a1_2⟩ : S53)) (k53_mkM _ _ _ (⟨(rd_T53 l0 (ji16)).f0, (rd_T53 l0 (ji16)).f1, ((rd_T53 l0 (ji16)).f2) ++ a1_2⟩ : S53) ) (fun _ hk => hk)).1
        rw [← Ny142.out] at HP50
        have HQ50 := aM HP50
        clear hcl50 hcc50 hfr50 hM50 HP50
        refine start_ (n := 12) (S := fun w' => w'.cell? ⟨gb133, 0, none⟩ = some (.int .i64 a1_0) ∧ w'.cell? ⟨gb133, 1, none⟩ = some (.string a1_1) ∧ w'.cell? ⟨gb133, 2, none⟩ = some (.string a1_2) ∧ w'.cell? ⟨go48, ((ji16)).toNat * 3, none⟩ = some (.int .i64 ((rd_T53 l0 (ji16)).f0)) ∧ w'.cell? ⟨go48, ((ji16)).toNat * 3 + 1, none⟩ = some (.string ((rd_T53 l0 (ji16)).f1)) ∧ w'.cell? ⟨go48, ((ji16)).toNat * 3 + 2, none⟩ = some (.string ((rd_T53 l0 (ji16)).f2))) (ds := [11]) #[false, false, false, false, false, false, false, false, false, false, false, false] (by kernel_rfl) rfl rfl ⟨(blk_cell BK133.out 0).trans rfl, (blk_cell BK133.out 1).trans rfl, (blk_cell BK133.out 2).trans rfl, hx141_0, hx141_1, hx141_2⟩ (fun hHeld => ?_); refine with_tabW jA.tab11 jA.bits11 (fun HT_ HW_ => ?_)
        generalize wc.drew = w49 at HO_0 BK133 BK138 HK HB GG48 HQ50 hf48_0 hf48_1 hf48_2 hx141_0 hx141_1 hx141_2 hx48_0 hx48_1 hx48_2 hHeld ⊢
        refine pure_ (i := 0) (N := some 69) (v := ?_) (a' := ?_) #[true, false, false, false, false, false, false, false, false, false, false, false] rfl rfl (any_of HT_.out (by kernel_rfl)) (fun _ _ _ h => h) (Or.inl ⟨by rfl, ?_⟩) ?_ ?_
        rotate_left
        ·intro w'
         go_simp
         with_reducible rfl
        rotate_left
        ·simp only [Act.put, List.setIfInBounds_toArray, List.set_cons_zero, List.set_cons_succ, i64_w, i32_w]
         rfl
        refine pure_ (i := 1) (N := some 70) (v := ?_) (a' := ?_) #[true, true, false, false, false, false, false, false, false, false, false, false] rfl rfl (any_of HT_.out (by kernel_rfl)) (fun _ _ _ h => h) (Or.inl ⟨by rfl, ?_⟩) ?_ ?_
        rotate_left
        ·intro w'
         go_simp
         with_reducible rfl
        rotate_left
        ·simp only [Act.put, List.setIfInBounds_toArray, List.set_cons_zero, List.set_cons_succ, i64_w, i32_w]
         rfl
        refine pure_ (i := 2) (N := some 71) (v := ?_) (a' := ?_) #[true, true, true, false, false, false, false, false, false, false, false, false] rfl rfl (any_of HT_.out (by kernel_rfl)) (fun _ _ _ h => h) (Or.inl ⟨by rfl, ?_⟩) ?_ ?_
        rotate_left
        ·intro w'
         go_simp
         with_reducible rfl
        rotate_left
        ·simp only [Act.put, List.setIfInBounds_toArray, List.set_cons_zero, List.set_cons_succ, i64_w, i32_w]
         rfl
        refine pure_ (i := 3) (N := some 72) (v := ?_) (a' := ?_) #[true, true, true, true, false, false, false, false, false, false, false, false] rfl rfl (any_of HT_.out (by kernel_rfl)) (fun _ _ _ h => h) (Or.inl ⟨by rfl, ?_⟩) ?_ ?_
        rotate_left
        ·intro w'
         go_simp
         with_reducible rfl
        rotate_left
        ·simp only [Act.put, List.setIfInBounds_toArray, List.set_cons_zero, List.set_cons_succ, i64_w, i32_w]
         rfl
        refine pure_ (i := 4) (N := some 73) (v := ?_) (a' := ?_) #[true, true, true, true, true, false, false, false, false, false, false, false] rfl rfl (any_of HT_.out (by kernel_rfl)) (fun _ _ _ h => h) (Or.inl ⟨by rfl, ?_⟩) ?_ ?_
        rotate_left
        ·intro w'
         go_simp
         with_reducible rfl
        rotate_left
        ·simp only [Act.put, List.setIfInBounds_toArray, List.set_cons_zero, List.set_cons_succ, i64_w, i32_w]
         rfl
        refine pure_ (i := 6) (N := some 75) (v := ?_) (a' := ?_) #[true, true, true, true, true, false, true, false, false, false, false, false] rfl rfl (any_of HT_.out (by kernel_rfl)) (fun _ _ _ h => h) (Or.inl ⟨by rfl, ?_⟩) ?_ ?_
        rotate_left
        ·intro w'
         go_simp
         with_reducible rfl
        rotate_left
        ·simp only [Act.put, List.setIfInBounds_toArray, List.set_cons_zero, List.set_cons_succ, i64_w, i32_w]
         rfl
        refine take_ (i := 5) (N := some 74) (v := ?_) (a' := ?_) #[true, true, true, true, true, true, true, false, false, false, false, false] rfl rfl (take_ofW HT_.out HW_.out (by kernel_rfl)) (fun _ _ _ h => h) (Or.inl ⟨by rfl, ?_⟩) hHeld ?_ ?_
        rotate_left
        ·rintro w' ⟨s0, s1, s2, s3, s4, s5⟩
         go_simp
         with_reducible rfl
        rotate_left
        ·simp only [Act.put, List.setIfInBounds_toArray, List.set_cons_zero, List.set_cons_succ, i64_w, i32_w]
         rfl
        refine take_ (i := 7) (N := some 76) (v := ?_) (a' := ?_) #[true, true, true, true, true, true, true, true, false, false, false, false] rfl rfl (take_ofW HT_.out HW_.out (by kernel_rfl)) (fun _ _ _ h => h) (Or.inl ⟨by rfl, ?_⟩) hHeld ?_ ?_
        rotate_left
        ·rintro w' ⟨s0, s1, s2, s3, s4, s5⟩
         go_simp
         with_reducible rfl
        rotate_left
        ·simp only [Act.put, List.setIfInBounds_toArray, List.set_cons_zero, List.set_cons_succ, i64_w, i32_w]
         rfl
        refine pure_ (i := 8) (N := some 77) (v := ?_) (a' := ?_) #[true, true, true, true, true, true, true, true, true, false, false, false] rfl rfl (any_of HT_.out (by kernel_rfl)) (fun _ _ _ h => h) (Or.inl ⟨by rfl, ?_⟩) ?_ ?_
        rotate_left
        ·intro w'
         go_simp
         with_reducible rfl
        rotate_left
        ·simp only [Act.put, List.setIfInBounds_toArray, List.set_cons_zero, List.set_cons_succ, i64_w, i32_w]
         rfl
        refine pure_ (i := 9) (N := some 78) (v := ?_) (a' := ?_) #[true, true, true, true, true, true, true, true, true, true, false, false] rfl rfl (any_of HT_.out (by kernel_rfl)) (fun _ _ _ h => h) (Or.inl ⟨by rfl, ?_⟩) ?_ ?_
        rotate_left
        ·intro w'
         go_simp
         with_reducible rfl
        rotate_left
        ·simp only [Act.put, List.setIfInBounds_toArray, List.set_cons_zero, List.set_cons_succ, i64_w, i32_w]
         rfl
        refine pure_ (i := 10) (N := some 79) (v := ?_) (a' := ?_) #[true, true, true, true, true, true, true, true, true, true, true, false] rfl rfl (any_of HT_.out (by kernel_rfl)) (fun _ _ _ h => h) (Or.inl ⟨by rfl, ?_⟩) ?_ ?_
        rotate_left
        ·intro w'
         go_simp
         with_reducible rfl
        rotate_left
        ·simp only [Act.put, List.setIfInBounds_toArray, List.set_cons_zero, List.set_cons_succ, i64_w, i32_w]
         rfl
        refine last_ (i := 11) (N := none) #[true, true, true, true, true, true, true, true, true, true, true, true] rfl rfl (one_of HT_.out (by kernel_rfl)) (by decide) (fun K hK => ?_)
        refine skip_ (w1 := ?_) (by rfl) rfl ?_ ?_
        rotate_left
        ·go_simp
         rfl
        refine hK.out _ _ ?_
        clear hK K
        refine done_ (done_of HT_.out (by kernel_rfl)) ?_
        try go_wp2
        go_ret
        exact ⟨_, by first | rfl | (simp [errW_none, errW_some] <;> rfl) | (simp only [← hji16, ← hji16]; first | rfl | (simp [errW_none, errW_some] <;> rfl)) | (simp [*, errW_none, errW_some] <;> rfl), by (with_reducible repeat (first | apply Kd.R_alloc | apply Kd.R_drewN | apply Kd.R_drew)); exact Kd.R_mono HQ50.out (fun _ hk => hk.1), by repeat (first | (with_reducible first | exact HB.out | apply below_alloc | apply pw_below_drewN | apply below_drew1 | refine below_set ?_ GB48.out | refine below_set ?_ GE133.out | refine below_set ?_ GE138.out) | exact HB.out), by repeat (first | (with_reducible first | exact HK.out | apply Kept.alloc | apply Kept.drewN | apply Kept.drew | refine Kept.setCell ?_ HMgo48.out _ | refine Kept.setCell ?_ (.inr GW133.out) _ | refine Kept.setCell ?_ (.inr GW138.out) _) | exact HK.out)⟩
       replace c43 := Bool.eq_false_iff.mpr c43
       subst c43
       have H1 : (if a1_1.toList = ([] : List UInt8) then (jA.j3 kj35 l0 (l0.length : Int) false a1_0 a1_1 a1_2 ((rd_T53 l0 (ji16)).f0) ((rd_T53 l0 (ji16)).f1) ((rd_T53 l0 (ji16)).f2)) else (jA.j3 kj35 l0 (l0.length : Int) (((rd_T53 l0 (ji16)).f1).toList != ([] : List UInt8)) a1_0 a1_1 a1_2 ((rd_T53 l0 (ji16)).f0) ((rd_T53 l0 (ji16)).f1) ((rd_T53 l0 (ji16)).f2))) = some r := by rw [if_neg (show ¬ (false = true) by decide)] at H; exact H
       clear H
       have H := H1
       clear H1
       have HC51 := aM H
       clear H
       go_upto_region 12 with (fail)
       go_cut [80] (fun v80 wc => ∃ (kq : Nat) (x80_50 : Bool), v80 = .bool x80_50 ∧ Aside0 (jA.j3 kq l0 (l0.length : Int) x80_50 a1_0 a1_1 a1_2 ((rd_T53 l0 (ji16)).f0) ((rd_T53 l0 (ji16)).f1) ((rd_T53 l0 (ji16)).f2) = some r) ∧ Aside0 (kq ≤ kj35) ∧ Aside0 (Kd.R k53 53 wc w0.heap.size (fun k_ => (P0_ k_ ∨ w.heap.size ≤ k_) ∧ k_ ≠ gb133 ∧ k_ ≠ gb138) (.slice (some ad137) l0.length co5) l0) ∧ Aside0 (wc.heap[gb133]? = some (.cells #[.int .i64 a1_0, .string a1_1, .string a1_2] 53 (0, 0))) ∧ Aside0 (wc.heap[gb138]? = some (.cells #[.int .i64 ((rd_T53 l0 (ji16)).f0), .string ((rd_T53 l0 (ji16)).f1), .string ((rd_T53 l0 (ji16)).f2)] 53 (0, 0))) ∧ Aside0 (Kept w wc (fun k_ => P0_ k_)) ∧ Aside0 (Below w0.heap.size w0 wc))
       case first =>
        have H := HC51.out
        clear HC51
        by_cases c52 : a1_1.toList = ([] : List UInt8)
        ·rw [if_pos c52] at H
         have c52b0 : (a1_1.toList == ([] : List UInt8)) = true := beq_iff_eq.mpr c52
         have c52b1 : (a1_1.toList != ([] : List UInt8)) = false := bne_eq_false_iff_eq.mpr c52
         try have c52e : a1_1.toList.isEmpty = true := List.isEmpty_iff.mpr c52
         clear c52
         (first | rw [c52b0] | (simp only [i64_w, i32_w]; rw [c52b0]) | rw [c52e] | skip)
         have H' := aM H
         clear H
         have hnb53 := NB133_138.out
         have hnc53 := NB138_133.out
         have hcz54_0 : wc.cell? ⟨gb133, 0, none⟩ = some (.int .i64 a1_0) := (blk_cell BK133.out 0).trans rfl
         have hcz54_1 : wc.cell? ⟨gb133, 1, none⟩ = some (.string a1_1) := (blk_cell BK133.out 1).trans rfl
         have hcz54_2 : wc.cell? ⟨gb133, 2, none⟩ = some (.string a1_2) := (blk_cell BK133.out 2).trans rfl
         have hfz54_0 := blk_frozen BK133.out 0
         have hfz54_1 := blk_frozen BK133.out 1
         have hfz54_2 := blk_frozen BK133.out 2
         go_wp2
         go_meet
         case rel => exact ⟨_, (false), aP16, H', ⟨by have := HJ2.out; have := HJ18.out; have := HJ35.out; first | omega | exact Nat.le_refl _⟩, ⟨rR HO_0.out⟩, ⟨kK BK133.out⟩, ⟨kK BK138.out⟩, ⟨aP3⟩, ⟨aP4⟩⟩
        rw [if_neg c52] at H
        have c52b0 : (a1_1.toList == ([] : List UInt8)) = false := beq_eq_false_iff_ne.mpr c52
        have c52b1 : (a1_1.toList != ([] : List UInt8)) = true := bne_iff_ne.mpr c52
        try have c52e : a1_1.toList.isEmpty = false := List.isEmpty_eq_false_iff.mpr c52
        (first | rw [c52b0] | (simp only [i64_w, i32_w]; rw [c52b0]) | rw [c52e] | skip)
        have H' := aM H
        clear H
        have hnb55 := NB133_138.out
        have hnc55 := NB138_133.out
        have hcz56_0 : wc.cell? ⟨gb133, 0, none⟩ = some (.int .i64 a1_0) := (blk_cell BK133.out 0).trans rfl
        have hcz56_1 : wc.cell? ⟨gb133, 1, none⟩ = some (.string a1_1) := (blk_cell BK133.out 1).trans rfl
        have hcz56_2 : wc.cell? ⟨gb133, 2, none⟩ = some (.string a1_2) := (blk_cell BK133.out 2).trans rfl
        have hfz56_0 := blk_frozen BK133.out 0
        have hfz56_1 := blk_frozen BK133.out 1
        have hfz56_2 := blk_frozen BK133.out 2
        have hcz57_0 : wc.cell? ⟨gb138, 0, none⟩ = some (.int .i64 ((rd_T53 l0 (ji16)).f0)) := (blk_cell BK138.out 0).trans rfl
        have hcz57_1 : wc.cell? ⟨gb138, 1, none⟩ = some (.string ((rd_T53 l0 (ji16)).f1)) := (blk_cell BK138.out 1).trans rfl
        have hcz57_2 : wc.cell? ⟨gb138, 2, none⟩ = some (.string ((rd_T53 l0 (ji16)).f2)) := (blk_cell BK138.out 2).trans rfl
        have hfz57_0 := blk_frozen BK138.out 0
        have hfz57_1 := blk_frozen BK138.out 1
        have hfz57_2 := blk_frozen BK138.out 2
        go_wp2
        go_meet
        case rel => exact ⟨_, ((((rd_T53 l0 (ji16)).f1).toList != ([] : List UInt8))), aP18, aP20, ⟨by have := HJ2.out; have := HJ18.out; have := HJ35.out; first | omega | exact Nat.le_refl _⟩, ⟨rR HO_0.out⟩, ⟨kK BK133.out⟩, ⟨kK BK138.out⟩, ⟨aP3⟩, ⟨aP4⟩⟩
       case rest =>
        clear HC51
        try clear c1
        try clear p1
        try clear q1
        try clear hx1
        try clear c2
        try clear p2
        try clear c3
        try clear p3
        try clear q3
        try clear hx3
        try clear hf3
        try clear c4
        try clear p4
        try clear q4
        try clear hx4
        try clear hf4
        try clear c5
        try clear c6
        try clear c6b0
        try clear c6b1
        try clear p6
        try clear c7
        try clear c7b0
        try clear c7b1
        try clear c11
        try clear c12
        try clear c12b0
        try clear c12b1
        try clear c12b2
        try clear c13
        try clear p13
        try clear q13
        try clear hx13
        try clear p14
        try clear q14
        try clear hx14
        try clear c17
        try clear c17b0
        try clear c18
        try clear c18b0
        try clear c21
        try clear c23
        try clear c23b0
        try clear c24
        try clear c27
        try clear c29
        try clear c31
        try clear c31b0
        try clear c32
        try clear c32b0
        try clear c33
        try clear p33
        try clear q33
        try clear hx33
        try clear hf33
        try clear c35
        try clear c37
        try clear c37b0
        try clear c37b1
        try clear c38
        try clear c40
        try clear c41
        try clear c43
        try clear c45
        try clear c45b0
        try clear c46
        try clear c46b0
        try clear c47
        try clear c47b0
        try clear c47b1
        try clear c47b2
        try clear c48
        try clear p48
        try clear q48
        try clear hx48
        try clear hf48
        try clear c50
        try clear c52
        try clear c52b0
        try clear c52b1
        try clear c53
        try clear c55
        try clear hcz10_0
        try clear hcz10_1
        try clear hcz10_2
        try clear hcz14_0
        try clear hcz14_1
        try clear hcz14_2
        try clear hcz22_0
        try clear hcz22_1
        try clear hcz22_2
        try clear hcz25_0
        try clear hcz25_1
        try clear hcz25_2
        try clear hcz26_0
        try clear hcz26_1
        try clear hcz26_2
        try clear hcz28_0
        try clear hcz28_1
        try clear hcz28_2
        try clear hcz39_0
        try clear hcz39_1
        try clear hcz39_2
        try clear hcz41_0
        try clear hcz41_1
        try clear hcz41_2
        try clear hcz42_0
        try clear hcz42_1
        try clear hcz42_2
        try clear hcz54_0
        try clear hcz54_1
        try clear hcz54_2
        try clear hcz56_0
        try clear hcz56_1
        try clear hcz56_2
        try clear hcz57_0
        try clear hcz57_1
        try clear hcz57_2
        try clear hcz8_0
        try clear hcz8_1
        try clear hcz8_2
        try clear hcz9_0
        try clear hcz9_1
        try clear hcz9_2
        try clear hfz10_0
        try clear hfz10_1
        try clear hfz10_2
        try clear hfz14_0
        try clear hfz14_1
        try clear hfz14_2
        try clear hfz22_0
        try clear hfz22_1
        try clear hfz22_2
        try clear hfz25_0
        try clear hfz25_1
        try clear hfz25_2
        try clear hfz26_0
        try clear hfz26_1
        try clear hfz26_2
        try clear hfz28_0
        try clear hfz28_1
        try clear hfz28_2
        try clear hfz39_0
        try clear hfz39_1
        try clear hfz39_2
        try clear hfz41_0
        try clear hfz41_1
        try clear hfz41_2
        try clear hfz42_0
        try clear hfz42_1
        try clear hfz42_2
        try clear hfz54_0
        try clear hfz54_1
        try clear hfz54_2
        try clear hfz56_0
        try clear hfz56_1
        try clear hfz56_2
        try clear hfz57_0
        try clear hfz57_1
        try clear hfz57_2
        try clear hfz8_0
        try clear hfz8_1
        try clear hfz8_2
        try clear hfz9_0
        try clear hfz9_1
        try clear hfz9_2
        try clear hx137_0
        try clear hx137_1
        try clear hx137_2
        try clear hx139_0
        try clear hx139_1
        try clear hx139_2
        try clear hx141_0
        try clear hx141_1
        try clear hx141_2
        try clear hx33_0
        try clear hx33_1
        try clear hx33_2
        try clear hx48_0
        try clear hx48_1
        try clear hx48_2
        try clear p1
        try clear p13
        try clear p137
        try clear p139
        try clear p141
        try clear p2
        try clear p3
        try clear p33
        try clear p48
        try clear p6
        try clear q1
        try clear q13
        try clear q137
        try clear q139
        try clear q141
        try clear q3
        try clear q33
        try clear q48
        obtain ⟨kq, x80_50, rfl, HA, HJ50, HO_0, BK133, BK138, HK, HB⟩ := hcut
        cases kq with
        | zero => exact absurd HA.out (by simp [jA.j3])
        | succ kj50 =>
         have H := HA.out
         clear HA
         simp only [jA.j3] at H
         by_cases c58 : x80_50 = true
         ·subst c58
          have H1 : (if 0 ≤ (wrap64 ((l0.length : Int) - 1)) then (if (wrap64 ((l0.length : Int) - 1)) < (l0.length : Int) then (if ((rd_T53 l0 (wrap64 ((l0.length : Int) - 1))).f1).size + a1_1.size ≤ 9223372036854775807 then (some (l0.set ((wrap64 ((l0.length : Int) - 1)) : Int).toNat (⟨(rd_T53 l0 (wrap64 ((l0.length : Int) - 1))).f0, ((rd_T53 l0 (wrap64 ((l0.length : Int) - 1))).f1) ++ a1_1, (rd_T53 l0 (wrap64 ((l0.length : Int) - 1))).f2⟩ : S53))) else (none)) else (none)) else (none)) = some r := by rw [if_pos rfl] at H; exact H
          clear H
          have H := H1
          clear H1
          replace H : (if 0 ≤ (ji16) then (if (ji16) < (l0.length : Int) then (if ((rd_T53 l0 (ji16)).f1).size + a1_1.size ≤ 9223372036854775807 then (some (l0.set ((ji16) : Int).toNat (⟨(rd_T53 l0 (ji16)).f0, ((rd_T53 l0 (ji16)).f1) ++ a1_1, (rd_T53 l0 (ji16)).f2⟩ : S53))) else (none)) else (none)) else (none)) = some r := by first | (rw [hji16] at H; exact H) | (simp only [hji16] at H ⊢; exact H)
          by_cases c60 : 0 ≤ (ji16)
          rotate_left
          ·rw [if_neg c60] at H
           exact absurd H (by simp)
          rw [if_pos c60] at H
          have c60b0 : decide (0 ≤ (ji16)) = true := decide_eq_true c60
          clear c60
          by_cases c61 : (ji16) < (l0.length : Int)
          rotate_left
          ·rw [if_neg c61] at H
           exact absurd H (by simp)
          rw [if_pos c61] at H
          have c61b0 : decide ((ji16) < (l0.length : Int)) = true := decide_eq_true c61
          clear c61
          by_cases c62 : ((rd_T53 l0 (ji16)).f1).size + a1_1.size ≤ 9223372036854775807
          rotate_left
          ·rw [if_neg c62] at H
           exact absurd H (by simp)
          rw [if_pos c62] at H
          have c62b0 := eq_true c62
          have c62b1 : decide (((rd_T53 l0 (ji16)).f1).size + a1_1.size ≤ 9223372036854775807) = true := decide_eq_true c62
          try have c62b2 : (9223372036854775807 < ((rd_T53 l0 (ji16)).f1).size + a1_1.size) = False := eq_false (Nat.not_lt.2 c62)
          obtain ⟨y144, hy144⟩ : ∃ y_ : List (S53), y_ = (l0.set ((ji16) : Int).toNat (⟨(rd_T53 l0 (ji16)).f0, ((rd_T53 l0 (ji16)).f1) ++ a1_1, (rd_T53 l0 (ji16)).f2⟩ : S53)) := ⟨_, rfl⟩
          replace H : (some y144) = some r := by first | (rw [hy144]; with_reducible exact H) | (have H2_ := (Option.bind_some _ _).symm.trans H; rw [hy144]; with_reducible exact H2_) | (have H2_ := (Option.bind_some _ _).symm.trans H; with_reducible exact H2_) | with_reducible exact H | (rw [hy144]; exact H) | exact H
          have Ny144 := aM hy144
          clear hy144
          obtain rfl := Option.some.inj H
          try go_wp2
          have n0_ := aM (Kd.R_drew HO_0.out)
          have n1_ := aM (blk_drew BK133.out)
          have n2_ := aM (blk_drew BK138.out)
          have n3_ := aM (Kept.drew HK.out)
          have n4_ := aM (below_drew1 HB.out)
          clear HO_0
          clear BK133
          clear BK138
          clear HK
          clear HB
          have HO_0 := n0_
          have BK133 := n1_
          have BK138 := n2_
          have HK := n3_
          have HB := n4_
          clear n0_ n1_ n2_ n3_ n4_
          have p143 : 0 ≤ ((ji16) : Int) := of_decide_eq_true (by assumption)
          have q143 : (ji16) < (l0.length : Int) := of_decide_eq_true (by assumption)
          obtain ⟨ad143, e143, hx143_0, hx143_1, hx143_2⟩ := at_T53 (Kd.R_reads' HO_0.out).2.2 (ji16) p143 q143
          (first | obtain rfl : ad137 = ad143 := (by injection e143) | cases e143)
          replace p143 := eq_true p143
          replace q143 := eq_true q143
          have p63 : 0 ≤ ((ji16) : Int) := of_decide_eq_true (by assumption)
          have q63 : ((ji16) : Int) < ((l0.length : Int) : Int) := of_decide_eq_true (by assumption)
          obtain ⟨go63, co63, eo63, gb63, gl63, cl63, HG63⟩ := Kd.R_form HO_0.out (by omega)
          (first | cases eo63 | (injection eo63 with ea_ en_ ec_; (first | subst ea_ | (injection ea_ with ea_; subst ea_)); subst ec_; clear en_))
          have GB63 := aM gb63
          have GG63 := aM HG63
          clear gb63 gl63 HG63
          have HMgo63 := aM (show (P0_ go63 ∨ w.heap.size ≤ go63) from (HO_0.out.1 _ rfl).1)
          (first | simp only [add_plain] at hx143_0 | skip)
          (first | simp only [add_plain] at hx143_1 | skip)
          (first | simp only [add_plain] at hx143_2 | skip)
          obtain ⟨ce63, hcl63, hM63, hcc63, hfr63⟩ := Kd.R_elem HO_0.out z53 ((ji16) : Int) p63 q63
          obtain rfl := k53_openM hM63
          have hx63_0 : World.cell? _ ⟨go63, ((ji16) : Int).toNat * 3, none⟩ = some (.int .i64 ((rd_T53 l0 (ji16)).f0)) := hcc63 0 _ rfl
          have hx63_1 : World.cell? _ ⟨go63, ((ji16) : Int).toNat * 3 + 1, none⟩ = some (.string ((rd_T53 l0 (ji16)).f1)) := hcc63 1 _ rfl
          have hx63_2 : World.cell? _ ⟨go63, ((ji16) : Int).toNat * 3 + 2, none⟩ = some (.string ((rd_T53 l0 (ji16)).f2)) := hcc63 2 _ rfl
          have hf63_0 : World.frozen? _ ⟨go63, ((ji16) : Int).toNat * 3, none⟩ = false := hfr63 0
          have hf63_1 : World.frozen? _ ⟨go63, ((ji16) : Int).toNat * 3 + 1, none⟩ = false := hfr63 1
          have hf63_2 : World.frozen? _ ⟨go63, ((ji16) : Int).toNat * 3 + 2, none⟩ = false := hfr63 2
          clear hcl63 hcc63 hfr63 hM63
          replace p63 := eq_true p63
          replace q63 := eq_true q63
          obtain ⟨ce65, hcl65, hM65, hcc65, hfr65⟩ := Kd.R_elem HO_0.out z53 ((ji16) : Int) (of_decide_eq_true (by assumption)) (by have h_ : ((ji16) : Int) < ((l0.length : Int) : Int) := of_decide_eq_true (by assumption); first | exact h_ | (have e_ := (Kd.R_reads' HO_0.out).1; omega) | simpa using h_)
          obtain rfl := k53_openM hM65
          have HP65 := (Kd.R_seg HO_0.out ((ji16) : Int) (of_decide_eq_true (by assumption)) (by have h_ : ((ji16) : Int) < ((l0.length : Int) : Int) := of_decide_eq_true (by assumption); first | exact h_ | (have e_ := (Kd.R_reads' HO_0.out).1; omega) | simpa using h_) (seg := [.string (((rd_T53 l0 (ji16)).f1) ++ a1_1)]) (j := 1) hcl65 hcc65 (show 2 ≤ 3 from by decide) (x' := (⟨(rd_T53 l0 (ji16)).f0, ((rd_T53 l0 (ji16)).f1) ++ a1_1, (rd_T53 l0 (ji16)).f2⟩ : S53)) (k53_mkM _ _ _ (⟨(rd_T53 l0 (ji16)).f0, ((rd_T53 l0 (ji16)).f1) ++ a1_1, (rd_T53 l0 (ji16)).f2⟩ : S53) ) (fun _ hk => hk)).1
          rw [← Ny144.out] at HP65
          have HQ65 := aM HP65
          clear hcl65 hcc65 hfr65 hM65 HP65
          refine start_ (n := 12) (S := fun w' => w'.cell? ⟨gb133, 0, none⟩ = some (.int .i64 a1_0) ∧ w'.cell? ⟨gb133, 1, none⟩ = some (.string a1_1) ∧ w'.cell? ⟨gb133, 2, none⟩ = some (.string a1_2) ∧ w'.cell? ⟨go63, ((ji16)).toNat * 3, none⟩ = some (.int .i64 ((rd_T53 l0 (ji16)).f0)) ∧ w'.cell? ⟨go63, ((ji16)).toNat * 3 + 1, none⟩ = some (.string ((rd_T53 l0 (ji16)).f1)) ∧ w'.cell? ⟨go63, ((ji16)).toNat * 3 + 2, none⟩ = some (.string ((rd_T53 l0 (ji16)).f2))) (ds := [11]) #[false, false, false, false, false, false, false, false, false, false, false, false] (by kernel_rfl) rfl rfl ⟨(blk_cell BK133.out 0).trans rfl, (blk_cell BK133.out 1).trans rfl, (blk_cell BK133.out 2).trans rfl, hx143_0, hx143_1, hx143_2⟩ (fun hHeld => ?_); refine with_tabW jA.tab13 jA.bits13 (fun HT_ HW_ => ?_)
          generalize wc.drew = w64 at HO_0 BK133 BK138 HK HB GG63 HQ65 hf63_0 hf63_1 hf63_2 hx143_0 hx143_1 hx143_2 hx63_0 hx63_1 hx63_2 hHeld ⊢
          refine pure_ (i := 0) (N := some 89) (v := ?_) (a' := ?_) #[true, false, false, false, false, false, false, false, false, false, false, false] rfl rfl (any_of HT_.out (by kernel_rfl)) (fun _ _ _ h => h) (Or.inl ⟨by rfl, ?_⟩) ?_ ?_
          rotate_left
          ·intro w'
           go_simp
           with_reducible rfl
          rotate_left
          ·simp only [Act.put, List.setIfInBounds_toArray, List.set_cons_zero, List.set_cons_succ, i64_w, i32_w]
           rfl
          refine pure_ (i := 1) (N := some 90) (v := ?_) (a' := ?_) #[true, true, false, false, false, false, false, false, false, false, false, false] rfl rfl (any_of HT_.out (by kernel_rfl)) (fun _ _ _ h => h) (Or.inl ⟨by rfl, ?_⟩) ?_ ?_
          rotate_left
          ·intro w'
           go_simp
           with_reducible rfl
          rotate_left
          ·simp only [Act.put, List.setIfInBounds_toArray, List.set_cons_zero, List.set_cons_succ, i64_w, i32_w]
           rfl
          refine pure_ (i := 2) (N := some 91) (v := ?_) (a' := ?_) #[true, true, true, false, false, false, false, false, false, false, false, false] rfl rfl (any_of HT_.out (by kernel_rfl)) (fun _ _ _ h => h) (Or.inl ⟨by rfl, ?_⟩) ?_ ?_
          rotate_left
          ·intro w'
           go_simp
           with_reducible rfl
          rotate_left
          ·simp only [Act.put, List.setIfInBounds_toArray, List.set_cons_zero, List.set_cons_succ, i64_w, i32_w]
           rfl
          refine pure_ (i := 3) (N := some 92) (v := ?_) (a' := ?_) #[true, true, true, true, false, false, false, false, false, false, false, false] rfl rfl (any_of HT_.out (by kernel_rfl)) (fun _ _ _ h => h) (Or.inl ⟨by rfl, ?_⟩) ?_ ?_
          rotate_left
          ·intro w'
           go_simp
           with_reducible rfl
          rotate_left
          ·simp only [Act.put, List.setIfInBounds_toArray, List.set_cons_zero, List.set_cons_succ, i64_w, i32_w]
           rfl
          refine pure_ (i := 4) (N := some 93) (v := ?_) (a' := ?_) #[true, true, true, true, true, false, false, false, false, false, false, false] rfl rfl (any_of HT_.out (by kernel_rfl)) (fun _ _ _ h => h) (Or.inl ⟨by rfl, ?_⟩) ?_ ?_
          rotate_left
          ·intro w'
           go_simp
           with_reducible rfl
          rotate_left
          ·simp only [Act.put, List.setIfInBounds_toArray, List.set_cons_zero, List.set_cons_succ, i64_w, i32_w]
           rfl
          refine pure_ (i := 6) (N := some 95) (v := ?_) (a' := ?_) #[true, true, true, true, true, false, true, false, false, false, false, false] rfl rfl (any_of HT_.out (by kernel_rfl)) (fun _ _ _ h => h) (Or.inl ⟨by rfl, ?_⟩) ?_ ?_
          rotate_left
          ·intro w'
           go_simp
           with_reducible rfl
          rotate_left
          ·simp only [Act.put, List.setIfInBounds_toArray, List.set_cons_zero, List.set_cons_succ, i64_w, i32_w]
           rfl
          refine take_ (i := 5) (N := some 94) (v := ?_) (a' := ?_) #[true, true, true, true, true, true, true, false, false, false, false, false] rfl rfl (take_ofW HT_.out HW_.out (by kernel_rfl)) (fun _ _ _ h => h) (Or.inl ⟨by rfl, ?_⟩) hHeld ?_ ?_
          rotate_left
          ·rintro w' ⟨s0, s1, s2, s3, s4, s5⟩
           go_simp
           with_reducible rfl
          rotate_left
          ·simp only [Act.put, List.setIfInBounds_toArray, List.set_cons_zero, List.set_cons_succ, i64_w, i32_w]
           rfl
          refine take_ (i := 7) (N := some 96) (v := ?_) (a' := ?_) #[true, true, true, true, true, true, true, true, false, false, false, false] rfl rfl (take_ofW HT_.out HW_.out (by kernel_rfl)) (fun _ _ _ h => h) (Or.inl ⟨by rfl, ?_⟩) hHeld ?_ ?_
          rotate_left
          ·rintro w' ⟨s0, s1, s2, s3, s4, s5⟩
           go_simp
           with_reducible rfl
          rotate_left
          ·simp only [Act.put, List.setIfInBounds_toArray, List.set_cons_zero, List.set_cons_succ, i64_w, i32_w]
           rfl
          refine pure_ (i := 8) (N := some 97) (v := ?_) (a' := ?_) #[true, true, true, true, true, true, true, true, true, false, false, false] rfl rfl (any_of HT_.out (by kernel_rfl)) (fun _ _ _ h => h) (Or.inl ⟨by rfl, ?_⟩) ?_ ?_
          rotate_left
          ·intro w'
           go_simp
           with_reducible rfl
          rotate_left
          ·simp only [Act.put, List.setIfInBounds_toArray, List.set_cons_zero, List.set_cons_succ, i64_w, i32_w]
           rfl
          refine pure_ (i := 9) (N := some 98) (v := ?_) (a' := ?_) #[true, true, true, true, true, true, true, true, true, true, false, false] rfl rfl (any_of HT_.out (by kernel_rfl)) (fun _ _ _ h => h) (Or.inl ⟨by rfl, ?_⟩) ?_ ?_
          rotate_left
          ·intro w'
           go_simp
           with_reducible rfl
          rotate_left
          ·simp only [Act.put, List.setIfInBounds_toArray, List.set_cons_zero, List.set_cons_succ, i64_w, i32_w]
           rfl
          refine pure_ (i := 10) (N := some 99) (v := ?_) (a' := ?_) #[true, true, true, true, true, true, true, true, true, true, true, false] rfl rfl (any_of HT_.out (by kernel_rfl)) (fun _ _ _ h => h) (Or.inl ⟨by rfl, ?_⟩) ?_ ?_
          rotate_left
          ·intro w'
           go_simp
           with_reducible rfl
          rotate_left
          ·simp only [Act.put, List.setIfInBounds_toArray, List.set_cons_zero, List.set_cons_succ, i64_w, i32_w]
           rfl
          refine last_ (i := 11) (N := none) #[true, true, true, true, true, true, true, true, true, true, true, true] rfl rfl (one_of HT_.out (by kernel_rfl)) (by decide) (fun K hK => ?_)
          refine skip_ (w1 := ?_) (by rfl) rfl ?_ ?_
          rotate_left
          ·go_simp
           rfl
          refine hK.out _ _ ?_
          clear hK K
          refine done_ (done_of HT_.out (by kernel_rfl)) ?_
          try go_wp2
          go_ret
          exact ⟨_, by first | rfl | (simp [errW_none, errW_some] <;> rfl) | (simp only [← hji16, ← hji16]; first | rfl | (simp [errW_none, errW_some] <;> rfl)) | (simp [*, errW_none, errW_some] <;> rfl), by (with_reducible repeat (first | apply Kd.R_alloc | apply Kd.R_drewN | apply Kd.R_drew)); exact Kd.R_mono HQ65.out (fun _ hk => hk.1), by repeat (first | (with_reducible first | exact HB.out | apply below_alloc | apply pw_below_drewN | apply below_drew1 | refine below_set ?_ GB63.out | refine below_set ?_ GE133.out | refine below_set ?_ GE138.out) | exact HB.out), by repeat (first | (with_reducible first | exact HK.out | apply Kept.alloc | apply Kept.drewN | apply Kept.drew | refine Kept.setCell ?_ HMgo63.out _ | refine Kept.setCell ?_ (.inr GW133.out) _ | refine Kept.setCell ?_ (.inr GW138.out) _) | exact HK.out)⟩
         replace c58 := Bool.eq_false_iff.mpr c58
         subst c58
         have H1 : (if a1_1.toList = ([] : List UInt8) then (jA.j4 kj50 l0 (l0.length : Int) false a1_0 a1_1 a1_2 ((rd_T53 l0 (ji16)).f0) ((rd_T53 l0 (ji16)).f1) ((rd_T53 l0 (ji16)).f2)) else (jA.j4 kj50 l0 (l0.length : Int) (((rd_T53 l0 (ji16)).f2).toList != ([] : List UInt8)) a1_0 a1_1 a1_2 ((rd_T53 l0 (ji16)).f0) ((rd_T53 l0 (ji16)).f1) ((rd_T53 l0 (ji16)).f2))) = some r := by rw [if_neg (show ¬ (false = true) by decide)] at H; exact H
         clear H
         have H := H1
         clear H1
         have HC66 := aM H
         clear H
         go_upto_region 14 with (fail)
         go_cut [100] (fun v100 wc => ∃ (kq : Nat) (x100_65 : Bool), v100 = .bool x100_65 ∧ Aside0 (jA.j4 kq l0 (l0.length : Int) x100_65 a1_0 a1_1 a1_2 ((rd_T53 l0 (ji16)).f0) ((rd_T53 l0 (ji16)).f1) ((rd_T53 l0 (ji16)).f2) = some r) ∧ Aside0 (kq ≤ kj50) ∧ Aside0 (Kd.R k53 53 wc w0.heap.size (fun k_ => (P0_ k_ ∨ w.heap.size ≤ k_) ∧ k_ ≠ gb133 ∧ k_ ≠ gb138) (.slice (some ad137) l0.length co5) l0) ∧ Aside0 (wc.heap[gb133]? = some (.cells #[.int .i64 a1_0, .string a1_1, .string a1_2] 53 (0, 0))) ∧ Aside0 (wc.heap[gb138]? = some (.cells #[.int .i64 ((rd_T53 l0 (ji16)).f0), .string ((rd_T53 l0 (ji16)).f1), .string ((rd_T53 l0 (ji16)).f2)] 53 (0, 0))) ∧ Aside0 (Kept w wc (fun k_ => P0_ k_)) ∧ Aside0 (Below w0.heap.size w0 wc))
         case first =>
          have H := HC66.out
          clear HC66
          by_cases c67 : a1_1.toList = ([] : List UInt8)
          ·rw [if_pos c67] at H
           have c67b0 : (a1_1.toList == ([] : List UInt8)) = true := beq_iff_eq.mpr c67
           have c67b1 : (a1_1.toList != ([] : List UInt8)) = false := bne_eq_false_iff_eq.mpr c67
           try have c67e : a1_1.toList.isEmpty = true := List.isEmpty_iff.mpr c67
           clear c67
           (first | rw [c67b0] | (simp only [i64_w, i32_w]; rw [c67b0]) | rw [c67e] | skip)
           have H' := aM H
           clear H
           have hnb68 := NB133_138.out
           have hnc68 := NB138_133.out
           have hcz69_0 : wc.cell? ⟨gb133, 0, none⟩ = some (.int .i64 a1_0) := (blk_cell BK133.out 0).trans rfl
           have hcz69_1 : wc.cell? ⟨gb133, 1, none⟩ = some (.string a1_1) := (blk_cell BK133.out 1).trans rfl
           have hcz69_2 : wc.cell? ⟨gb133, 2, none⟩ = some (.string a1_2) := (blk_cell BK133.out 2).trans rfl
           have hfz69_0 := blk_frozen BK133.out 0
           have hfz69_1 := blk_frozen BK133.out 1
           have hfz69_2 := blk_frozen BK133.out 2
           go_wp2
           go_meet
           case rel => exact ⟨_, (false), aP16, H', ⟨by have := HJ2.out; have := HJ18.out; have := HJ35.out; have := HJ50.out; first | omega | exact Nat.le_refl _⟩, ⟨rR HO_0.out⟩, ⟨kK BK133.out⟩, ⟨kK BK138.out⟩, ⟨aP3⟩, ⟨aP4⟩⟩
          rw [if_neg c67] at H
          have c67b0 : (a1_1.toList == ([] : List UInt8)) = false := beq_eq_false_iff_ne.mpr c67
          have c67b1 : (a1_1.toList != ([] : List UInt8)) = true := bne_iff_ne.mpr c67
          try have c67e : a1_1.toList.isEmpty = false := List.isEmpty_eq_false_iff.mpr c67
          (first | rw [c67b0] | (simp only [i64_w, i32_w]; rw [c67b0]) | rw [c67e] | skip)
          have H' := aM H
          clear H
          have hnb70 := NB133_138.out
          have hnc70 := NB138_133.out
          have hcz71_0 : wc.cell? ⟨gb133, 0, none⟩ = some (.int .i64 a1_0) := (blk_cell BK133.out 0).trans rfl
          have hcz71_1 : wc.cell? ⟨gb133, 1, none⟩ = some (.string a1_1) := (blk_cell BK133.out 1).trans rfl
          have hcz71_2 : wc.cell? ⟨gb133, 2, none⟩ = some (.string a1_2) := (blk_cell BK133.out 2).trans rfl
          have hfz71_0 := blk_frozen BK133.out 0
          have hfz71_1 := blk_frozen BK133.out 1
          have hfz71_2 := blk_frozen BK133.out 2
          have hcz72_0 : wc.cell? ⟨gb138, 0, none⟩ = some (.int .i64 ((rd_T53 l0 (ji16)).f0)) := (blk_cell BK138.out 0).trans rfl
          have hcz72_1 : wc.cell? ⟨gb138, 1, none⟩ = some (.string ((rd_T53 l0 (ji16)).f1)) := (blk_cell BK138.out 1).trans rfl
          have hcz72_2 : wc.cell? ⟨gb138, 2, none⟩ = some (.string ((rd_T53 l0 (ji16)).f2)) := (blk_cell BK138.out 2).trans rfl
          have hfz72_0 := blk_frozen BK138.out 0
          have hfz72_1 := blk_frozen BK138.out 1
          have hfz72_2 := blk_frozen BK138.out 2
          go_wp2
          go_meet
          case rel => exact ⟨_, ((((rd_T53 l0 (ji16)).f2).toList != ([] : List UInt8))), aP18, aP20, ⟨by have := HJ2.out; have := HJ18.out; have := HJ35.out; have := HJ50.out; first | omega | exact Nat.le_refl _⟩, ⟨rR HO_0.out⟩, ⟨kK BK133.out⟩, ⟨kK BK138.out⟩, ⟨aP3⟩, ⟨aP4⟩⟩
         case rest =>
          clear HC66
          try clear c1
          try clear p1
          try clear q1
          try clear hx1
          try clear c2
          try clear p2
          try clear c3
          try clear p3
          try clear q3
          try clear hx3
          try clear hf3
          try clear c4
          try clear p4
          try clear q4
          try clear hx4
          try clear hf4
          try clear c5
          try clear c6
          try clear c6b0
          try clear c6b1
          try clear p6
          try clear q6
          try clear hx6
          try clear hf6
          try clear c7
          try clear c7b0
          try clear c7b1
          try clear c11
          try clear c12
          try clear c12b0
          try clear c12b1
          try clear c12b2
          try clear c13
          try clear p13
          try clear q13
          try clear hx13
          try clear p14
          try clear q14
          try clear hx14
          try clear c17
          try clear c17b0
          try clear c18
          try clear c18b0
          try clear c21
          try clear c23
          try clear c23b0
          try clear c24
          try clear c27
          try clear c29
          try clear c31
          try clear c31b0
          try clear c32
          try clear c32b0
          try clear c33
          try clear p33
          try clear q33
          try clear hx33
          try clear hf33
          try clear c35
          try clear c37
          try clear c37b0
          try clear c37b1
          try clear c38
          try clear c40
          try clear c41
          try clear c43
          try clear c45
          try clear c45b0
          try clear c46
          try clear c46b0
          try clear c47
          try clear c47b0
          try clear c47b1
          try clear c47b2
          try clear c48
          try clear p48
          try clear q48
          try clear hx48
          try clear hf48
          try clear c50
          try clear c52
          try clear c52b0
          try clear c52b1
          try clear c53
          try clear c55
          try clear c58
          try clear c60
          try clear c60b0
          try clear c61
          try clear c61b0
          try clear c62
          try clear c62b0
          try clear c62b1
          try clear c62b2
          try clear c63
          try clear p63
          try clear q63
          try clear hx63
          try clear hf63
          try clear p64
          try clear c65
          try clear c67
          try clear c67b0
          try clear c67b1
          try clear c68
          try clear c70
          try clear hcz10_0
          try clear hcz10_1
          try clear hcz10_2
          try clear hcz14_0
          try clear hcz14_1
          try clear hcz14_2
          try clear hcz22_0
          try clear hcz22_1
          try clear hcz22_2
          try clear hcz25_0
          try clear hcz25_1
          try clear hcz25_2
          try clear hcz26_0
          try clear hcz26_1
          try clear hcz26_2
          try clear hcz28_0
          try clear hcz28_1
          try clear hcz28_2
          try clear hcz39_0
          try clear hcz39_1
          try clear hcz39_2
          try clear hcz41_0
          try clear hcz41_1
          try clear hcz41_2
          try clear hcz42_0
          try clear hcz42_1
          try clear hcz42_2
          try clear hcz54_0
          try clear hcz54_1
          try clear hcz54_2
          try clear hcz56_0
          try clear hcz56_1
          try clear hcz56_2
          try clear hcz57_0
          try clear hcz57_1
          try clear hcz57_2
          try clear hcz69_0
          try clear hcz69_1
          try clear hcz69_2
          try clear hcz71_0
          try clear hcz71_1
          try clear hcz71_2
          try clear hcz72_0
          try clear hcz72_1
          try clear hcz72_2
          try clear hcz8_0
          try clear hcz8_1
          try clear hcz8_2
          try clear hcz9_0
          try clear hcz9_1
          try clear hcz9_2
          try clear hfz10_0
          try clear hfz10_1
          try clear hfz10_2
          try clear hfz14_0
          try clear hfz14_1
          try clear hfz14_2
          try clear hfz22_0
          try clear hfz22_1
          try clear hfz22_2
          try clear hfz25_0
          try clear hfz25_1
          try clear hfz25_2
          try clear hfz26_0
          try clear hfz26_1
          try clear hfz26_2
          try clear hfz28_0
          try clear hfz28_1
          try clear hfz28_2
          try clear hfz39_0
          try clear hfz39_1
          try clear hfz39_2
          try clear hfz41_0
          try clear hfz41_1
          try clear hfz41_2
          try clear hfz42_0
          try clear hfz42_1
          try clear hfz42_2
          try clear hfz54_0
          try clear hfz54_1
          try clear hfz54_2
          try clear hfz56_0
          try clear hfz56_1
          try clear hfz56_2
          try clear hfz57_0
          try clear hfz57_1
          try clear hfz57_2
          try clear hfz69_0
          try clear hfz69_1
          try clear hfz69_2
          try clear hfz71_0
          try clear hfz71_1
          try clear hfz71_2
          try clear hfz72_0
          try clear hfz72_1
          try clear hfz72_2
          try clear hfz8_0
          try clear hfz8_1
          try clear hfz8_2
          try clear hfz9_0
          try clear hfz9_1
          try clear hfz9_2
          try clear hx137_0
          try clear hx137_1
          try clear hx137_2
          try clear hx139_0
          try clear hx139_1
          try clear hx139_2
          try clear hx141_0
          try clear hx141_1
          try clear hx141_2
          try clear hx143_0
          try clear hx143_1
          try clear hx143_2
          try clear hx33_0
          try clear hx33_1
          try clear hx33_2
          try clear hx48_0
          try clear hx48_1
          try clear hx48_2
          try clear hx63_0
          try clear hx63_1
          try clear hx63_2
          try clear p1
          try clear p13
          try clear p137
          try clear p139
          try clear p14
          try clear p141
          try clear p143
          try clear p2
          try clear p3
          try clear p33
          try clear p4
          try clear p48
          try clear p6
          try clear p63
          try clear q1
          try clear q13
          try clear q137
          try clear q139
          try clear q14
          try clear q141
          try clear q143
          try clear q3
          try clear q33
          try clear q4
          try clear q48
          try clear q63
          obtain ⟨kq, x100_65, rfl, HA, HJ65, HO_0, BK133, BK138, HK, HB⟩ := hcut
          cases kq with
          | zero => exact absurd HA.out (by simp [jA.j4])
          | succ kj65 =>
           have H := HA.out
           clear HA
           simp only [jA.j4] at H
           by_cases c73 : x100_65 = true
           rotate_left
           ·replace c73 := Bool.eq_false_iff.mpr c73
            subst c73
            have H1 : (if l0.length < 3518437208883 then (some (l0 ++ [(⟨a1_0, a1_1, a1_2⟩ : S53)])) else (none)) = some r := by rw [if_neg (show ¬ (false = true) by decide)] at H; exact H
            clear H
            have H := H1
            clear H1
            by_cases c105 : l0.length < 3518437208883
            rotate_left
            ·rw [if_neg c105] at H
             exact absurd H (by simp)
            rw [if_pos c105] at H
            have LMc105 := aM c105
            clear c105
            obtain ⟨y156, hy156⟩ : ∃ y_ : List (S53), y_ = (l0 ++ [(⟨a1_0, a1_1, a1_2⟩ : S53)]) := ⟨_, rfl⟩
            replace H : (some y156) = some r := by first | (rw [hy156]; with_reducible exact H) | (have H2_ := (Option.bind_some _ _).symm.trans H; rw [hy156]; with_reducible exact H2_) | (have H2_ := (Option.bind_some _ _).symm.trans H; with_reducible exact H2_) | with_reducible exact H | (rw [hy156]; exact H) | exact H
            have Ny156 := aM hy156
            clear hy156
            obtain rfl := Option.some.inj H
            have hnb106 := NB133_138.out
            have hnc106 := NB138_133.out
            have hcz107_0 : wc.cell? ⟨gb133, 0, none⟩ = some (.int .i64 a1_0) := (blk_cell BK133.out 0).trans rfl
            have hcz107_1 : wc.cell? ⟨gb133, 1, none⟩ = some (.string a1_1) := (blk_cell BK133.out 1).trans rfl
            have hcz107_2 : wc.cell? ⟨gb133, 2, none⟩ = some (.string a1_2) := (blk_cell BK133.out 2).trans rfl
            have hfz107_0 := blk_frozen BK133.out 0
            have hfz107_1 := blk_frozen BK133.out 1
            have hfz107_2 := blk_frozen BK133.out 2
            go_wp2_with (first | ((with_reducible refine gate_builtin (b := .append) (xs := #[.tmp 36, .tmp 38]) rfl ?_); at_builtin; refine Kd.R_append k53 (w0 := w0) w0.heap.size rfl (.tmp 36) (.tmp 38) 22 53 (.agg #[(.int .i64 0), (.string ⟨#[]⟩), (.string ⟨#[]⟩)]) 40 rfl Try.underlying22 info53 rfl (by decide) (by omega) (.slice (some ad137) l0.length co5) l0 (⟨a1_0, a1_1, a1_2⟩ : S53) [.int .i64 a1_0, .string a1_1, .string a1_2] (fun k_ => (P0_ k_ ∨ w.heap.size ≤ k_) ∧ k_ ≠ gb133 ∧ k_ ≠ gb138) (fun _ => False) rfl rfl ?aP (fun _ hk => hk.elim) ?aF ?aO ?aB ?aS ?aL ?_; (case aP => exact k53_mkM _ _ _ (⟨a1_0, a1_1, a1_2⟩ : S53)); (case aB => exact aP4); (case aF => exact (fun k_ hk => ⟨(.inr (Nat.le_trans (by first | exact HK.out.1 | exact (show Kept w _ (fun k_ => P0_ k_) from aP3).1) hk)), Kd.freshB (g := gb133) (o := .cells #[.int .i64 a1_0, .string a1_1, .string a1_2] 53 (0, 0)) (kK BK133.out) k_ hk, Kd.freshB (g := gb138) (o := .cells #[.int .i64 ((rd_T53 l0 (ji16)).f0), .string ((rd_T53 l0 (ji16)).f1), .string ((rd_T53 l0 (ji16)).f2)] 53 (0, 0)) (kK BK138.out) k_ hk⟩)); (case aO => exact (rR HO_0.out)); (case aS => exact (below_size aP4)); (case aL => have := LMc105.out; omega); intro v157 w108 ho hb hg hat; rw [← Ny156.out] at ho; have n0_ := aM (blk_grown (g := gb133) (o := .cells #[.int .i64 a1_0, .string a1_1, .string a1_2] 53 (0, 0)) (kK BK133.out) hg (Kd.R_away HO_0.out (fun _ hk => hk.2.1))); have n1_ := aM (blk_grown (g := gb138) (o := .cells #[.int .i64 ((rd_T53 l0 (ji16)).f0), .string ((rd_T53 l0 (ji16)).f1), .string ((rd_T53 l0 (ji16)).f2)] 53 (0, 0)) (kK BK138.out) hg (Kd.R_away HO_0.out (fun _ hk => hk.2.2))); have n2_ := aM (hb); have n3_ := aM (Kept.of_grown (S := (fun k_ => P0_ k_)) hg aP3 (fun k_ e_ => (HO_0.out.1 k_ e_).1)); have n4_ := aM (ho); clear BK133; clear BK138; clear HB; clear HK; clear HO_0; have BK133 := n0_; have BK138 := n1_; have HB := n2_; have HK := n3_; have HO158 := n4_; clear n0_ n1_ n2_ n3_ n4_; clear ho hb hg hat))
            go_ret
            exact ⟨_, by first | rfl | (simp [errW_none, errW_some] <;> rfl) | (simp only [← hji16]; first | rfl | (simp [errW_none, errW_some] <;> rfl)) | (simp [*, errW_none, errW_some] <;> rfl), by (with_reducible repeat (first | apply Kd.R_alloc | apply Kd.R_drewN | apply Kd.R_drew)); exact Kd.R_mono HO158.out (fun _ hk => hk.1), by exact aP4, aP3⟩
           subst c73
           have H1 : (if (l0.length : Int) > 1 then (if 0 ≤ (wrap64 ((l0.length : Int) - 2)) then (if (wrap64 ((l0.length : Int) - 2)) < (l0.length : Int) then (if ((rd_T53 l0 (wrap64 ((l0.length : Int) - 2))).f1).toList = ([] : List UInt8) then (if 0 ≤ (wrap64 ((l0.length : Int) - 1)) then (if (wrap64 ((l0.length : Int) - 1)) < (l0.length : Int) then ((some (l0.set ((wrap64 ((l0.length : Int) - 1)) : Int).toNat (⟨a1_0, a1_1, a1_2⟩ : S53) : List (S53))).bind fun y146 => (if y146.length < 3518437208883 then (some (y146 ++ [(⟨((rd_T53 l0 (ji16)).f0), ((rd_T53 l0 (ji16)).f1), ((rd_T53 l0 (ji16)).f2)⟩ : S53)])) else (none))) else (none)) else (none)) else (if ((rd_T53 l0 (wrap64 ((l0.length : Int) - 2))).f1).size + a1_1.size ≤ 9223372036854775807 then (some (l0.set ((wrap64 ((l0.length : Int) - 2)) : Int).toNat (⟨(rd_T53 l0 (wrap64 ((l0.length : Int) - 2))).f0, ((rd_T53 l0 (wrap64 ((l0.length : Int) - 2))).f1) ++ a1_1, (rd_T53 l0 (wrap64 ((l0.length : Int) - 2))).f2⟩ : S53))) else (none))) else (none)) else (none)) else (if 0 ≤ (wrap64 ((l0.length : Int) - 1)) then (if (wrap64 ((l0.length : Int) - 1)) < (l0.length : Int) then ((some (l0.set ((wrap64 ((l0.length : Int) - 1)) : Int).toNat (⟨a1_0, a1_1, a1_2⟩ : S53) : List (S53))).bind fun y152 => (if y152.length < 3518437208883 then (some (y152 ++ [(⟨((rd_T53 l0 (ji16)).f0), ((rd_T53 l0 (ji16)).f1), ((rd_T53 l0 (ji16)).f2)⟩ : S53)])) else (none))) else (none)) else (none))) = some r := by rw [if_pos rfl] at H; exact H
           clear H
           have H := H1
           clear H1
           by_cases c74 : (l0.length : Int) > 1
           rotate_left
           ·rw [if_neg c74] at H
            have c74b0 : decide (1 < (l0.length : Int)) = false := decide_eq_false c74
            have c74b1 : decide (1 < l0.length) = false := decide_eq_false (by omega)
            clear c74
            replace H : (if 0 ≤ (ji16) then (if (ji16) < (l0.length : Int) then ((some (l0.set ((ji16) : Int).toNat (⟨a1_0, a1_1, a1_2⟩ : S53) : List (S53))).bind fun y152 => (if y152.length < 3518437208883 then (some (y152 ++ [(⟨((rd_T53 l0 (ji16)).f0), ((rd_T53 l0 (ji16)).f1), ((rd_T53 l0 (ji16)).f2)⟩ : S53)])) else (none))) else (none)) else (none)) = some r := by first | (rw [hji16] at H; exact H) | (simp only [hji16] at H ⊢; exact H)
            by_cases c95 : 0 ≤ (ji16)
            rotate_left
            ·rw [if_neg c95] at H
             exact absurd H (by simp)
            rw [if_pos c95] at H
            have c95b0 : decide (0 ≤ (ji16)) = true := decide_eq_true c95
            clear c95
            by_cases c96 : (ji16) < (l0.length : Int)
            rotate_left
            ·rw [if_neg c96] at H
             exact absurd H (by simp)
            rw [if_pos c96] at H
            have c96b0 : decide ((ji16) < (l0.length : Int)) = true := decide_eq_true c96
            clear c96
            obtain ⟨y152, hy152⟩ : ∃ y_ : List (S53), y_ = (l0.set ((ji16) : Int).toNat (⟨a1_0, a1_1, a1_2⟩ : S53)) := ⟨_, rfl⟩
            replace H : (if y152.length < 3518437208883 then (some (y152 ++ [(⟨((rd_T53 l0 (ji16)).f0), ((rd_T53 l0 (ji16)).f1), ((rd_T53 l0 (ji16)).f2)⟩ : S53)])) else (none)) = some r := by first | (rw [hy152]; with_reducible exact H) | (have H2_ := (Option.bind_some _ _).symm.trans H; rw [hy152]; with_reducible exact H2_) | (have H2_ := (Option.bind_some _ _).symm.trans H; with_reducible exact H2_) | with_reducible exact H | (rw [hy152]; exact H) | exact H
            have Ny152 := aM hy152
            clear hy152
            by_cases c98 : y152.length < 3518437208883
            rotate_left
            ·rw [if_neg c98] at H
             exact absurd H (by simp)
            rw [if_pos c98] at H
            have LMc98 := aM c98
            clear c98
            obtain ⟨y153, hy153⟩ : ∃ y_ : List (S53), y_ = (y152 ++ [(⟨((rd_T53 l0 (ji16)).f0), ((rd_T53 l0 (ji16)).f1), ((rd_T53 l0 (ji16)).f2)⟩ : S53)]) := ⟨_, rfl⟩
            replace H : (some y153) = some r := by first | (rw [hy153]; with_reducible exact H) | (have H2_ := (Option.bind_some _ _).symm.trans H; rw [hy153]; with_reducible exact H2_) | (have H2_ := (Option.bind_some _ _).symm.trans H; with_reducible exact H2_) | with_reducible exact H | (rw [hy153]; exact H) | exact H
            have Ny153 := aM hy153
            clear hy153
            obtain rfl := Option.some.inj H
            have hnb99 := NB133_138.out
            have hnc99 := NB138_133.out
            have hcz100_0 : wc.cell? ⟨gb133, 0, none⟩ = some (.int .i64 a1_0) := (blk_cell BK133.out 0).trans rfl
            have hcz100_1 : wc.cell? ⟨gb133, 1, none⟩ = some (.string a1_1) := (blk_cell BK133.out 1).trans rfl
            have hcz100_2 : wc.cell? ⟨gb133, 2, none⟩ = some (.string a1_2) := (blk_cell BK133.out 2).trans rfl
            have hfz100_0 := blk_frozen BK133.out 0
            have hfz100_1 := blk_frozen BK133.out 1
            have hfz100_2 := blk_frozen BK133.out 2
            have p97 : 0 ≤ ((ji16) : Int) := of_decide_eq_true (by assumption)
            have q97 : ((ji16) : Int) < ((l0.length : Int) : Int) := of_decide_eq_true (by assumption)
            obtain ⟨go97, co97, eo97, gb97, gl97, cl97, HG97⟩ := Kd.R_form HO_0.out (by omega)
            (first | cases eo97 | (injection eo97 with ea_ en_ ec_; (first | subst ea_ | (injection ea_ with ea_; subst ea_)); subst ec_; clear en_))
            have GB97 := aM gb97
            have GG97 := aM HG97
            clear gb97 gl97 HG97
            have HMgo97 := aM (show (P0_ go97 ∨ w.heap.size ≤ go97) from (HO_0.out.1 _ rfl).1)
            obtain ⟨ce97, hcl97, hM97, hcc97, hfr97⟩ := Kd.R_elem HO_0.out z53 ((ji16) : Int) p97 q97
            obtain rfl := k53_openM hM97
            have hx97_0 : wc.cell? ⟨go97, ((ji16) : Int).toNat * 3, none⟩ = some (.int .i64 ((rd_T53 l0 (ji16)).f0)) := hcc97 0 _ rfl
            have hx97_1 : wc.cell? ⟨go97, ((ji16) : Int).toNat * 3 + 1, none⟩ = some (.string ((rd_T53 l0 (ji16)).f1)) := hcc97 1 _ rfl
            have hx97_2 : wc.cell? ⟨go97, ((ji16) : Int).toNat * 3 + 2, none⟩ = some (.string ((rd_T53 l0 (ji16)).f2)) := hcc97 2 _ rfl
            have hf97_0 : wc.frozen? ⟨go97, ((ji16) : Int).toNat * 3, none⟩ = false := hfr97 0
            have hf97_1 : wc.frozen? ⟨go97, ((ji16) : Int).toNat * 3 + 1, none⟩ = false := hfr97 1
            have hf97_2 : wc.frozen? ⟨go97, ((ji16) : Int).toNat * 3 + 2, none⟩ = false := hfr97 2
            clear hcl97 hcc97 hfr97 hM97
            replace p97 := eq_true p97
            replace q97 := eq_true q97
            have HX101 := aM (show Kd.R k53 53 wc w0.heap.size (fun k_ => (P0_ k_ ∨ w.heap.size ≤ k_) ∧ k_ ≠ gb133 ∧ k_ ≠ gb138) (.slice (some ⟨go97, 0, none⟩) l0.length co5) l0 from (rR HO_0.out))
            obtain ⟨ce101, hcl101, hM101, hcc101, hfr101⟩ := Kd.R_elem HX101.out z53 ((ji16) : Int) (of_decide_eq_true (by assumption)) (by have h_ : ((ji16) : Int) < ((l0.length : Int) : Int) := of_decide_eq_true (by assumption); first | exact h_ | (have e_ := (Kd.R_reads' HO_0.out).1; omega) | simpa using h_)
            obtain rfl := k53_openM hM101
            have HP101 := Kd.R_seg HX101.out ((ji16) : Int) (of_decide_eq_true (by assumption)) (by have h_ : ((ji16) : Int) < ((l0.length : Int) : Int) := of_decide_eq_true (by assumption); first | exact h_ | (have e_ := (Kd.R_reads' HO_0.out).1; omega) | simpa using h_) (seg := [.int .i64 a1_0, .string a1_1, .string a1_2]) (j := 0) hcl101 hcc101 (show 3 ≤ 3 from by decide) (x' := (⟨a1_0, a1_1, a1_2⟩ : S53)) (k53_mkM _ _ _ (⟨a1_0, a1_1, a1_2⟩ : S53) ) (fun _ hk => hk)
            have hx101_0 := hcc101 0 _ rfl
            (try simp only [show (k53).sz = 3 from rfl, Nat.mul_one, Nat.add_zero] at hx101_0)
            have hf101_0 := hfr101 0
            (try simp only [show (k53).sz = 3 from rfl, Nat.mul_one, Nat.add_zero] at hf101_0)
            have hx101_1 := hcc101 1 _ rfl
            (try simp only [show (k53).sz = 3 from rfl, Nat.mul_one, Nat.add_zero] at hx101_1)
            have hf101_1 := hfr101 1
            (try simp only [show (k53).sz = 3 from rfl, Nat.mul_one, Nat.add_zero] at hf101_1)
            have hx101_2 := hcc101 2 _ rfl
            (try simp only [show (k53).sz = 3 from rfl, Nat.mul_one, Nat.add_zero] at hx101_2)
            have hf101_2 := hfr101 2
            (try simp only [show (k53).sz = 3 from rfl, Nat.mul_one, Nat.add_zero] at hf101_2)
            clear hcl101 hcc101 hfr101 hM101
            go_wp2_with (first | ((with_reducible refine gate_store (t := 53) (p := 136) rfl ?_); refine store_event (t := 53) (p := 136) (v := ?vo_w102) (w1 := (((wc.setCell ⟨go97, ((ji16) : Int).toNat * 3, none⟩ (.int .i64 a1_0)).setCell ⟨go97, ((ji16) : Int).toNat * 3 + 1, none⟩ (.string a1_1)).setCell ⟨go97, ((ji16) : Int).toNat * 3 + 2, none⟩ (.string a1_2))) ?hg ?ho ?hn ?hr ?_; (case ho => rfl); (case hg => rfl); (case hn => rfl); (case hr => exact aP21); intro w102 hw; have hg : wc.grownBy w102 (some go97) := (by rw [hw]; exact HP101.2); have hp_ : Kd.R k53 53 w102 w0.heap.size (fun k_ => (P0_ k_ ∨ w.heap.size ≤ k_) ∧ k_ ≠ gb133 ∧ k_ ≠ gb138) (.slice (some ⟨go97, 0, none⟩) l0.length co5) y152 := (by rw [hw, Ny152.out]; exact HP101.1); clear HP101; have n0_ := aM (hp_); have n1_ := aM (blk_grown (g := gb133) (o := .cells #[.int .i64 a1_0, .string a1_1, .string a1_2] 53 (0, 0)) (kK BK133.out) hg (Kd.R_away HO_0.out (fun _ hk => hk.2.1))); have n2_ := aM (blk_grown (g := gb138) (o := .cells #[.int .i64 ((rd_T53 l0 (ji16)).f0), .string ((rd_T53 l0 (ji16)).f1), .string ((rd_T53 l0 (ji16)).f2)] 53 (0, 0)) (kK BK138.out) hg (Kd.R_away HO_0.out (fun _ hk => hk.2.2))); have n3_ := aM ((by rw [hw]; exact below_set (below_set (below_set (HB.out) GB97.out) GB97.out) GB97.out : Below w0.heap.size w0 w102)); have n4_ := aM (Kept.of_grown (S := (fun k_ => P0_ k_)) hg aP3 (fun k_ e_ => (HO_0.out.1 k_ e_).1)); clear HO_0; clear BK133; clear BK138; clear HB; clear HK; have HO_0 := n0_; have BK133 := n1_; have BK138 := n2_; have HB := n3_; have HK := n4_; clear n0_ n1_ n2_ n3_ n4_; clear hg hw hp_; have hcz103_0 : w102.cell? ⟨gb138, 0, none⟩ = some (.int .i64 ((rd_T53 l0 (ji16)).f0)) := (blk_cell BK138.out 0).trans rfl; have hcz103_1 : w102.cell? ⟨gb138, 1, none⟩ = some (.string ((rd_T53 l0 (ji16)).f1)) := (blk_cell BK138.out 1).trans rfl; have hcz103_2 : w102.cell? ⟨gb138, 2, none⟩ = some (.string ((rd_T53 l0 (ji16)).f2)) := (blk_cell BK138.out 2).trans rfl; have hfz103_0 := blk_frozen BK138.out 0; have hfz103_1 := blk_frozen BK138.out 1; have hfz103_2 := blk_frozen BK138.out 2) | ((with_reducible refine gate_builtin (b := .append) (xs := #[.tmp 137, .tmp 139]) rfl ?_); at_builtin; refine Kd.R_append k53 (w0 := w0) w0.heap.size rfl (.tmp 137) (.tmp 139) 22 53 (.agg #[(.int .i64 0), (.string ⟨#[]⟩), (.string ⟨#[]⟩)]) 40 rfl Try.underlying22 info53 rfl (by decide) (by omega) (.slice (some ⟨go97, 0, none⟩) l0.length co5) y152 (⟨((rd_T53 l0 (ji16)).f0), ((rd_T53 l0 (ji16)).f1), ((rd_T53 l0 (ji16)).f2)⟩ : S53) [.int .i64 ((rd_T53 l0 (ji16)).f0), .string ((rd_T53 l0 (ji16)).f1), .string ((rd_T53 l0 (ji16)).f2)] (fun k_ => (P0_ k_ ∨ w.heap.size ≤ k_) ∧ k_ ≠ gb133 ∧ k_ ≠ gb138) (fun _ => False) rfl rfl ?aP (fun _ hk => hk.elim) ?aF ?aO ?aB ?aS ?aL ?_; (case aP => exact k53_mkM _ _ _ (⟨((rd_T53 l0 (ji16)).f0), ((rd_T53 l0 (ji16)).f1), ((rd_T53 l0 (ji16)).f2)⟩ : S53)); (case aB => exact aP4); (case aF => exact (fun k_ hk => ⟨(.inr (Nat.le_trans (by first | exact HK.out.1 | exact (show Kept w _ (fun k_ => P0_ k_) from aP3).1) hk)), Kd.freshB (g := gb133) (o := .cells #[.int .i64 a1_0, .string a1_1, .string a1_2] 53 (0, 0)) (kK BK133.out) k_ hk, Kd.freshB (g := gb138) (o := .cells #[.int .i64 ((rd_T53 l0 (ji16)).f0), .string ((rd_T53 l0 (ji16)).f1), .string ((rd_T53 l0 (ji16)).f2)] 53 (0, 0)) (kK BK138.out) k_ hk⟩)); (case aO => exact (rR HO_0.out)); (case aS => exact (below_size aP4)); (case aL => have := LMc98.out; omega); intro v154 w104 ho hb hg hat; rw [← Ny153.out] at ho; have n0_ := aM (blk_grown (g := gb133) (o := .cells #[.int .i64 a1_0, .string a1_1, .string a1_2] 53 (0, 0)) (kK BK133.out) hg (Kd.R_away HO_0.out (fun _ hk => hk.2.1))); have n1_ := aM (blk_grown (g := gb138) (o := .cells #[.int .i64 ((rd_T53 l0 (ji16)).f0), .string ((rd_T53 l0 (ji16)).f1), .string ((rd_T53 l0 (ji16)).f2)] 53 (0, 0)) (kK BK138.out) hg (Kd.R_away HO_0.out (fun _ hk => hk.2.2))); have n2_ := aM (hb); have n3_ := aM (Kept.of_grown (S := (fun k_ => P0_ k_)) hg aP3 (fun k_ e_ => (HO_0.out.1 k_ e_).1)); have n4_ := aM (ho); clear BK133; clear BK138; clear HB; clear HK; clear HO_0; have BK133 := n0_; have BK138 := n1_; have HB := n2_; have HK := n3_; have HO155 := n4_; clear n0_ n1_ n2_ n3_ n4_; clear ho hb hg hat))
            go_ret
            exact ⟨_, by first | rfl | (simp [errW_none, errW_some] <;> rfl) | (simp only [← hji16, ← hji16]; first | rfl | (simp [errW_none, errW_some] <;> rfl)) | (simp [*, errW_none, errW_some] <;> rfl), by (with_reducible repeat (first | apply Kd.R_alloc | apply Kd.R_drewN | apply Kd.R_drew)); exact Kd.R_mono HO155.out (fun _ hk => hk.1), by exact aP4, aP3⟩
           rw [if_pos c74] at H
           have c74b0 : decide (1 < (l0.length : Int)) = true := decide_eq_true c74
           have c74b1 : decide (1 < l0.length) = true := decide_eq_true (by omega)
           clear c74
           obtain ⟨ji75, hji75⟩ : ∃ j_ : Int, (wrap64 ((l0.length : Int) - 2)) = j_ := ⟨_, rfl⟩
           replace H : (if 0 ≤ (ji75) then (if (ji75) < (l0.length : Int) then (if ((rd_T53 l0 (ji75)).f1).toList = ([] : List UInt8) then (if 0 ≤ (wrap64 ((l0.length : Int) - 1)) then (if (wrap64 ((l0.length : Int) - 1)) < (l0.length : Int) then ((some (l0.set ((wrap64 ((l0.length : Int) - 1)) : Int).toNat (⟨a1_0, a1_1, a1_2⟩ : S53) : List (S53))).bind fun y146 => (if y146.length < 3518437208883 then (some (y146 ++ [(⟨((rd_T53 l0 (ji16)).f0), ((rd_T53 l0 (ji16)).f1), ((rd_T53 l0 (ji16)).f2)⟩ : S53)])) else (none))) else (none)) else (none)) else (if ((rd_T53 l0 (ji75)).f1).size + a1_1.size ≤ 9223372036854775807 then (some (l0.set ((ji75) : Int).toNat (⟨(rd_T53 l0 (ji75)).f0, ((rd_T53 l0 (ji75)).f1) ++ a1_1, (rd_T53 l0 (ji75)).f2⟩ : S53))) else (none))) else (none)) else (none)) = some r := by first | (rw [hji75] at H; exact H) | (simp only [hji75] at H ⊢; exact H)
           have hji75w : (IntKind.i64.wrap ((l0.length : Int) - 2)) = ji75 := (i64_w _).trans hji75
           by_cases c76 : 0 ≤ (ji75)
           rotate_left
           ·rw [if_neg c76] at H
            exact absurd H (by simp)
           rw [if_pos c76] at H
           have c76b0 : decide (0 ≤ (ji75)) = true := decide_eq_true c76
           clear c76
           by_cases c77 : (ji75) < (l0.length : Int)
           rotate_left
           ·rw [if_neg c77] at H
            exact absurd H (by simp)
           rw [if_pos c77] at H
           have c77b0 : decide ((ji75) < (l0.length : Int)) = true := decide_eq_true c77
           clear c77
           by_cases c78 : ((rd_T53 l0 (ji75)).f1).toList = ([] : List UInt8)
           ·rw [if_pos c78] at H
            have c78b0 : (((rd_T53 l0 (ji75)).f1).toList == ([] : List UInt8)) = true := beq_iff_eq.mpr c78
            have c78b1 : (((rd_T53 l0 (ji75)).f1).toList != ([] : List UInt8)) = false := bne_eq_false_iff_eq.mpr c78
            try have c78e : ((rd_T53 l0 (ji75)).f1).toList.isEmpty = true := List.isEmpty_iff.mpr c78
            clear c78
            replace H : (if 0 ≤ (ji16) then (if (ji16) < (l0.length : Int) then ((some (l0.set ((ji16) : Int).toNat (⟨a1_0, a1_1, a1_2⟩ : S53) : List (S53))).bind fun y146 => (if y146.length < 3518437208883 then (some (y146 ++ [(⟨((rd_T53 l0 (ji16)).f0), ((rd_T53 l0 (ji16)).f1), ((rd_T53 l0 (ji16)).f2)⟩ : S53)])) else (none))) else (none)) else (none)) = some r := by first | (rw [hji16] at H; exact H) | (simp only [hji16] at H ⊢; exact H)
            by_cases c80 : 0 ≤ (ji16)
            rotate_left
            ·rw [if_neg c80] at H
             exact absurd H (by simp)
            rw [if_pos c80] at H
            have c80b0 : decide (0 ≤ (ji16)) = true := decide_eq_true c80
            clear c80
            by_cases c81 : (ji16) < (l0.length : Int)
            rotate_left
            ·rw [if_neg c81] at H
             exact absurd H (by simp)
            rw [if_pos c81] at H
            have c81b0 : decide ((ji16) < (l0.length : Int)) = true := decide_eq_true c81
            clear c81
            obtain ⟨y146, hy146⟩ : ∃ y_ : List (S53), y_ = (l0.set ((ji16) : Int).toNat (⟨a1_0, a1_1, a1_2⟩ : S53)) := ⟨_, rfl⟩
            replace H : (if y146.length < 3518437208883 then (some (y146 ++ [(⟨((rd_T53 l0 (ji16)).f0), ((rd_T53 l0 (ji16)).f1), ((rd_T53 l0 (ji16)).f2)⟩ : S53)])) else (none)) = some r := by first | (rw [hy146]; with_reducible exact H) | (have H2_ := (Option.bind_some _ _).symm.trans H; rw [hy146]; with_reducible exact H2_) | (have H2_ := (Option.bind_some _ _).symm.trans H; with_reducible exact H2_) | with_reducible exact H | (rw [hy146]; exact H) | exact H
            have Ny146 := aM hy146
            clear hy146
            by_cases c83 : y146.length < 3518437208883
            rotate_left
            ·rw [if_neg c83] at H
             exact absurd H (by simp)
            rw [if_pos c83] at H
            have LMc83 := aM c83
            clear c83
            obtain ⟨y147, hy147⟩ : ∃ y_ : List (S53), y_ = (y146 ++ [(⟨((rd_T53 l0 (ji16)).f0), ((rd_T53 l0 (ji16)).f1), ((rd_T53 l0 (ji16)).f2)⟩ : S53)]) := ⟨_, rfl⟩
            replace H : (some y147) = some r := by first | (rw [hy147]; with_reducible exact H) | (have H2_ := (Option.bind_some _ _).symm.trans H; rw [hy147]; with_reducible exact H2_) | (have H2_ := (Option.bind_some _ _).symm.trans H; with_reducible exact H2_) | with_reducible exact H | (rw [hy147]; exact H) | exact H
            have Ny147 := aM hy147
            clear hy147
            obtain rfl := Option.some.inj H
            have p145 : 0 ≤ ((ji75) : Int) := of_decide_eq_true (by assumption)
            have q145 : (ji75) < (l0.length : Int) := of_decide_eq_true (by assumption)
            obtain ⟨ad145, e145, hx145_0, hx145_1, hx145_2⟩ := at_T53 (Kd.R_reads' HO_0.out).2.2 (ji75) p145 q145
            (first | obtain rfl : ad137 = ad145 := (by injection e145) | cases e145)
            replace p145 := eq_true p145
            replace q145 := eq_true q145
            have hnb84 := NB133_138.out
            have hnc84 := NB138_133.out
            have hcz85_0 : wc.cell? ⟨gb133, 0, none⟩ = some (.int .i64 a1_0) := (blk_cell BK133.out 0).trans rfl
            have hcz85_1 : wc.cell? ⟨gb133, 1, none⟩ = some (.string a1_1) := (blk_cell BK133.out 1).trans rfl
            have hcz85_2 : wc.cell? ⟨gb133, 2, none⟩ = some (.string a1_2) := (blk_cell BK133.out 2).trans rfl
            have hfz85_0 := blk_frozen BK133.out 0
            have hfz85_1 := blk_frozen BK133.out 1
            have hfz85_2 := blk_frozen BK133.out 2
            have p82 : 0 ≤ ((ji16) : Int) := of_decide_eq_true (by assumption)
            have q82 : ((ji16) : Int) < ((l0.length : Int) : Int) := of_decide_eq_true (by assumption)
            obtain ⟨go82, co82, eo82, gb82, gl82, cl82, HG82⟩ := Kd.R_form HO_0.out (by omega)
            (first | cases eo82 | (injection eo82 with ea_ en_ ec_; (first | subst ea_ | (injection ea_ with ea_; subst ea_)); subst ec_; clear en_))
            have GB82 := aM gb82
            have GG82 := aM HG82
            clear gb82 gl82 HG82
            have HMgo82 := aM (show (P0_ go82 ∨ w.heap.size ≤ go82) from (HO_0.out.1 _ rfl).1)
            (first | simp only [add_plain] at hx145_0 | skip)
            (first | simp only [add_plain] at hx145_1 | skip)
            (first | simp only [add_plain] at hx145_2 | skip)
            obtain ⟨ce82, hcl82, hM82, hcc82, hfr82⟩ := Kd.R_elem HO_0.out z53 ((ji16) : Int) p82 q82
            obtain rfl := k53_openM hM82
            have hx82_0 : wc.cell? ⟨go82, ((ji16) : Int).toNat * 3, none⟩ = some (.int .i64 ((rd_T53 l0 (ji16)).f0)) := hcc82 0 _ rfl
            have hx82_1 : wc.cell? ⟨go82, ((ji16) : Int).toNat * 3 + 1, none⟩ = some (.string ((rd_T53 l0 (ji16)).f1)) := hcc82 1 _ rfl
            have hx82_2 : wc.cell? ⟨go82, ((ji16) : Int).toNat * 3 + 2, none⟩ = some (.string ((rd_T53 l0 (ji16)).f2)) := hcc82 2 _ rfl
            have hf82_0 : wc.frozen? ⟨go82, ((ji16) : Int).toNat * 3, none⟩ = false := hfr82 0
            have hf82_1 : wc.frozen? ⟨go82, ((ji16) : Int).toNat * 3 + 1, none⟩ = false := hfr82 1
            have hf82_2 : wc.frozen? ⟨go82, ((ji16) : Int).toNat * 3 + 2, none⟩ = false := hfr82 2
            clear hcl82 hcc82 hfr82 hM82
            replace p82 := eq_true p82
            replace q82 := eq_true q82
            have HX86 := aM (show Kd.R k53 53 wc w0.heap.size (fun k_ => (P0_ k_ ∨ w.heap.size ≤ k_) ∧ k_ ≠ gb133 ∧ k_ ≠ gb138) (.slice (some ⟨go82, 0, none⟩) l0.length co5) l0 from (rR HO_0.out))
            obtain ⟨ce86, hcl86, hM86, hcc86, hfr86⟩ := Kd.R_elem HX86.out z53 ((ji16) : Int) (of_decide_eq_true (by assumption)) (by have h_ : ((ji16) : Int) < ((l0.length : Int) : Int) := of_decide_eq_true (by assumption); first | exact h_ | (have e_ := (Kd.R_reads' HO_0.out).1; omega) | simpa using h_)
            obtain rfl := k53_openM hM86
            have HP86 := Kd.R_seg HX86.out ((ji16) : Int) (of_decide_eq_true (by assumption)) (by have h_ : ((ji16) : Int) < ((l0.length : Int) : Int) := of_decide_eq_true (by assumption); first | exact h_ | (have e_ := (Kd.R_reads' HO_0.out).1; omega) | simpa using h_) (seg := [.int .i64 a1_0, .string a1_1, .string a1_2]) (j := 0) hcl86 hcc86 (show 3 ≤ 3 from by decide) (x' := (⟨a1_0, a1_1, a1_2⟩ : S53)) (k53_mkM _ _ _ (⟨a1_0, a1_1, a1_2⟩ : S53) ) (fun _ hk => hk)
            have hx86_0 := hcc86 0 _ rfl
            (try simp only [show (k53).sz = 3 from rfl, Nat.mul_one, Nat.add_zero] at hx86_0)
            have hf86_0 := hfr86 0
            (try simp only [show (k53).sz = 3 from rfl, Nat.mul_one, Nat.add_zero] at hf86_0)
            have hx86_1 := hcc86 1 _ rfl
            (try simp only [show (k53).sz = 3 from rfl, Nat.mul_one, Nat.add_zero] at hx86_1)
            have hf86_1 := hfr86 1
            (try simp only [show (k53).sz = 3 from rfl, Nat.mul_one, Nat.add_zero] at hf86_1)
            have hx86_2 := hcc86 2 _ rfl
            (try simp only [show (k53).sz = 3 from rfl, Nat.mul_one, Nat.add_zero] at hx86_2)
            have hf86_2 := hfr86 2
            (try simp only [show (k53).sz = 3 from rfl, Nat.mul_one, Nat.add_zero] at hf86_2)
            clear hcl86 hcc86 hfr86 hM86
            go_wp2_with (first | ((with_reducible refine gate_store (t := 53) (p := 136) rfl ?_); refine store_event (t := 53) (p := 136) (v := ?vo_w87) (w1 := (((wc.setCell ⟨go82, ((ji16) : Int).toNat * 3, none⟩ (.int .i64 a1_0)).setCell ⟨go82, ((ji16) : Int).toNat * 3 + 1, none⟩ (.string a1_1)).setCell ⟨go82, ((ji16) : Int).toNat * 3 + 2, none⟩ (.string a1_2))) ?hg ?ho ?hn ?hr ?_; (case ho => rfl); (case hg => rfl); (case hn => rfl); (case hr => exact aP21); intro w87 hw; have hg : wc.grownBy w87 (some go82) := (by rw [hw]; exact HP86.2); have hp_ : Kd.R k53 53 w87 w0.heap.size (fun k_ => (P0_ k_ ∨ w.heap.size ≤ k_) ∧ k_ ≠ gb133 ∧ k_ ≠ gb138) (.slice (some ⟨go82, 0, none⟩) l0.length co5) y146 := (by rw [hw, Ny146.out]; exact HP86.1); clear HP86; have n0_ := aM (hp_); have n1_ := aM (blk_grown (g := gb133) (o := .cells #[.int .i64 a1_0, .string a1_1, .string a1_2] 53 (0, 0)) (kK BK133.out) hg (Kd.R_away HO_0.out (fun _ hk => hk.2.1))); have n2_ := aM (blk_grown (g := gb138) (o := .cells #[.int .i64 ((rd_T53 l0 (ji16)).f0), .string ((rd_T53 l0 (ji16)).f1), .string ((rd_T53 l0 (ji16)).f2)] 53 (0, 0)) (kK BK138.out) hg (Kd.R_away HO_0.out (fun _ hk => hk.2.2))); have n3_ := aM ((by rw [hw]; exact below_set (below_set (below_set (HB.out) GB82.out) GB82.out) GB82.out : Below w0.heap.size w0 w87)); have n4_ := aM (Kept.of_grown (S := (fun k_ => P0_ k_)) hg aP3 (fun k_ e_ => (HO_0.out.1 k_ e_).1)); clear HO_0; clear BK133; clear BK138; clear HB; clear HK; have HO_0 := n0_; have BK133 := n1_; have BK138 := n2_; have HB := n3_; have HK := n4_; clear n0_ n1_ n2_ n3_ n4_; clear hg hw hp_; have hcz88_0 : w87.cell? ⟨gb138, 0, none⟩ = some (.int .i64 ((rd_T53 l0 (ji16)).f0)) := (blk_cell BK138.out 0).trans rfl; have hcz88_1 : w87.cell? ⟨gb138, 1, none⟩ = some (.string ((rd_T53 l0 (ji16)).f1)) := (blk_cell BK138.out 1).trans rfl; have hcz88_2 : w87.cell? ⟨gb138, 2, none⟩ = some (.string ((rd_T53 l0 (ji16)).f2)) := (blk_cell BK138.out 2).trans rfl; have hfz88_0 := blk_frozen BK138.out 0; have hfz88_1 := blk_frozen BK138.out 1; have hfz88_2 := blk_frozen BK138.out 2) | ((with_reducible refine gate_builtin (b := .append) (xs := #[.tmp 137, .tmp 139]) rfl ?_); at_builtin; refine Kd.R_append k53 (w0 := w0) w0.heap.size rfl (.tmp 137) (.tmp 139) 22 53 (.agg #[(.int .i64 0), (.string ⟨#[]⟩), (.string ⟨#[]⟩)]) 40 rfl Try.underlying22 info53 rfl (by decide) (by omega) (.slice (some ⟨go82, 0, none⟩) l0.length co5) y146 (⟨((rd_T53 l0 (ji16)).f0), ((rd_T53 l0 (ji16)).f1), ((rd_T53 l0 (ji16)).f2)⟩ : S53) [.int .i64 ((rd_T53 l0 (ji16)).f0), .string ((rd_T53 l0 (ji16)).f1), .string ((rd_T53 l0 (ji16)).f2)] (fun k_ => (P0_ k_ ∨ w.heap.size ≤ k_) ∧ k_ ≠ gb133 ∧ k_ ≠ gb138) (fun _ => False) rfl rfl ?aP (fun _ hk => hk.elim) ?aF ?aO ?aB ?aS ?aL ?_; (case aP => exact k53_mkM _ _ _ (⟨((rd_T53 l0 (ji16)).f0), ((rd_T53 l0 (ji16)).f1), ((rd_T53 l0 (ji16)).f2)⟩ : S53)); (case aB => exact aP4); (case aF => exact (fun k_ hk => ⟨(.inr (Nat.le_trans (by first | exact HK.out.1 | exact (show Kept w _ (fun k_ => P0_ k_) from aP3).1) hk)), Kd.freshB (g := gb133) (o := .cells #[.int .i64 a1_0, .string a1_1, .string a1_2] 53 (0, 0)) (kK BK133.out) k_ hk, Kd.freshB (g := gb138) (o := .cells #[.int .i64 ((rd_T53 l0 (ji16)).f0), .string ((rd_T53 l0 (ji16)).f1), .string ((rd_T53 l0 (ji16)).f2)] 53 (0, 0)) (kK BK138.out) k_ hk⟩)); (case aO => exact (rR HO_0.out)); (case aS => exact (below_size aP4)); (case aL => have := LMc83.out; omega); intro v148 w89 ho hb hg hat; rw [← Ny147.out] at ho; have n0_ := aM (blk_grown (g := gb133) (o := .cells #[.int .i64 a1_0, .string a1_1, .string a1_2] 53 (0, 0)) (kK BK133.out) hg (Kd.R_away HO_0.out (fun _ hk => hk.2.1))); have n1_ := aM (blk_grown (g := gb138) (o := .cells #[.int .i64 ((rd_T53 l0 (ji16)).f0), .string ((rd_T53 l0 (ji16)).f1), .string ((rd_T53 l0 (ji16)).f2)] 53 (0, 0)) (kK BK138.out) hg (Kd.R_away HO_0.out (fun _ hk => hk.2.2))); have n2_ := aM (hb); have n3_ := aM (Kept.of_grown (S := (fun k_ => P0_ k_)) hg aP3 (fun k_ e_ => (HO_0.out.1 k_ e_).1)); have n4_ := aM (ho); clear BK133; clear BK138; clear HB; clear HK; clear HO_0; have BK133 := n0_; have BK138 := n1_; have HB := n2_; have HK := n3_; have HO149 := n4_; clear n0_ n1_ n2_ n3_ n4_; clear ho hb hg hat))
            go_ret
            exact ⟨_, by first | rfl | (simp [errW_none, errW_some] <;> rfl) | (simp only [← hji16, ← hji75, ← hji16]; first | rfl | (simp [errW_none, errW_some] <;> rfl)) | (simp [*, errW_none, errW_some] <;> rfl), by (with_reducible repeat (first | apply Kd.R_alloc | apply Kd.R_drewN | apply Kd.R_drew)); exact Kd.R_mono HO149.out (fun _ hk => hk.1), by exact aP4, aP3⟩
           rw [if_neg c78] at H
           have c78b0 : (((rd_T53 l0 (ji75)).f1).toList == ([] : List UInt8)) = false := beq_eq_false_iff_ne.mpr c78
           have c78b1 : (((rd_T53 l0 (ji75)).f1).toList != ([] : List UInt8)) = true := bne_iff_ne.mpr c78
           try have c78e : ((rd_T53 l0 (ji75)).f1).toList.isEmpty = false := List.isEmpty_eq_false_iff.mpr c78
           by_cases c90 : ((rd_T53 l0 (ji75)).f1).size + a1_1.size ≤ 9223372036854775807
           rotate_left
           ·rw [if_neg c90] at H
            exact absurd H (by simp)
           rw [if_pos c90] at H
           have c90b0 := eq_true c90
           have c90b1 : decide (((rd_T53 l0 (ji75)).f1).size + a1_1.size ≤ 9223372036854775807) = true := decide_eq_true c90
           try have c90b2 : (9223372036854775807 < ((rd_T53 l0 (ji75)).f1).size + a1_1.size) = False := eq_false (Nat.not_lt.2 c90)
           obtain ⟨y151, hy151⟩ : ∃ y_ : List (S53), y_ = (l0.set ((ji75) : Int).toNat (⟨(rd_T53 l0 (ji75)).f0, ((rd_T53 l0 (ji75)).f1) ++ a1_1, (rd_T53 l0 (ji75)).f2⟩ : S53)) := ⟨_, rfl⟩
           replace H : (some y151) = some r := by first | (rw [hy151]; with_reducible exact H) | (have H2_ := (Option.bind_some _ _).symm.trans H; rw [hy151]; with_reducible exact H2_) | (have H2_ := (Option.bind_some _ _).symm.trans H; with_reducible exact H2_) | with_reducible exact H | (rw [hy151]; exact H) | exact H
           have Ny151 := aM hy151
           clear hy151
           obtain rfl := Option.some.inj H
           have p145 : 0 ≤ ((ji75) : Int) := of_decide_eq_true (by assumption)
           have q145 : (ji75) < (l0.length : Int) := of_decide_eq_true (by assumption)
           obtain ⟨ad145, e145, hx145_0, hx145_1, hx145_2⟩ := at_T53 (Kd.R_reads' HO_0.out).2.2 (ji75) p145 q145
           (first | obtain rfl : ad137 = ad145 := (by injection e145) | cases e145)
           replace p145 := eq_true p145
           replace q145 := eq_true q145
           try go_wp2
           have n0_ := aM (Kd.R_drew HO_0.out)
           have n1_ := aM (blk_drew BK133.out)
           have n2_ := aM (blk_drew BK138.out)
           have n3_ := aM (Kept.drew HK.out)
           have n4_ := aM (below_drew1 HB.out)
           clear HO_0
           clear BK133
           clear BK138
           clear HK
           clear HB
           have HO_0 := n0_
           have BK133 := n1_
           have BK138 := n2_
           have HK := n3_
           have HB := n4_
           clear n0_ n1_ n2_ n3_ n4_
           have p150 : 0 ≤ ((ji75) : Int) := of_decide_eq_true (by assumption)
           have q150 : (ji75) < (l0.length : Int) := of_decide_eq_true (by assumption)
           obtain ⟨ad150, e150, hx150_0, hx150_1, hx150_2⟩ := at_T53 (Kd.R_reads' HO_0.out).2.2 (ji75) p150 q150
           (first | obtain rfl : ad137 = ad150 := (by injection e150) | cases e150)
           replace p150 := eq_true p150
           replace q150 := eq_true q150
           have p91 : 0 ≤ ((ji75) : Int) := of_decide_eq_true (by assumption)
           have q91 : ((ji75) : Int) < ((l0.length : Int) : Int) := of_decide_eq_true (by assumption)
           obtain ⟨go91, co91, eo91, gb91, gl91, cl91, HG91⟩ := Kd.R_form HO_0.out (by omega)
           (first | cases eo91 | (injection eo91 with ea_ en_ ec_; (first | subst ea_ | (injection ea_ with ea_; subst ea_)); subst ec_; clear en_))
           have GB91 := aM gb91
           have GG91 := aM HG91
           clear gb91 gl91 HG91
           have HMgo91 := aM (show (P0_ go91 ∨ w.heap.size ≤ go91) from (HO_0.out.1 _ rfl).1)
           (first | simp only [add_plain] at hx145_0 | skip)
           (first | simp only [add_plain] at hx145_1 | skip)
           (first | simp only [add_plain] at hx145_2 | skip)
           (first | simp only [add_plain] at hx150_0 | skip)
           (first | simp only [add_plain] at hx150_1 | skip)
           (first | simp only [add_plain] at hx150_2 | skip)
           obtain ⟨ce91, hcl91, hM91, hcc91, hfr91⟩ := Kd.R_elem HO_0.out z53 ((ji75) : Int) p91 q91
           obtain rfl := k53_openM hM91
           have hx91_0 : World.cell? _ ⟨go91, ((ji75) : Int).toNat * 3, none⟩ = some (.int .i64 ((rd_T53 l0 (ji75)).f0)) := hcc91 0 _ rfl
           have hx91_1 : World.cell? _ ⟨go91, ((ji75) : Int).toNat * 3 + 1, none⟩ = some (.string ((rd_T53 l0 (ji75)).f1)) := hcc91 1 _ rfl
           have hx91_2 : World.cell? _ ⟨go91, ((ji75) : Int).toNat * 3 + 2, none⟩ = some (.string ((rd_T53 l0 (ji75)).f2)) := hcc91 2 _ rfl
           have hf91_0 : World.frozen? _ ⟨go91, ((ji75) : Int).toNat * 3, none⟩ = false := hfr91 0
           have hf91_1 : World.frozen? _ ⟨go91, ((ji75) : Int).toNat * 3 + 1, none⟩ = false := hfr91 1
           have hf91_2 : World.frozen? _ ⟨go91, ((ji75) : Int).toNat * 3 + 2, none⟩ = false := hfr91 2
           clear hcl91 hcc91 hfr91 hM91
           replace p91 := eq_true p91
           replace q91 := eq_true q91
           obtain ⟨ce93, hcl93, hM93, hcc93, hfr93⟩ := Kd.R_elem HO_0.out z53 ((ji75) : Int) (of_decide_eq_true (by assumption)) (by have h_ : ((ji75) : Int) < ((l0.length : Int) : Int) := of_decide_eq_true (by assumption); first | exact h_ | (have e_ := (Kd.R_reads' HO_0.out).1; omega) | simpa using h_)
           obtain rfl := k53_openM hM93
           have HP93 := (Kd.R_seg HO_0.out ((ji75) : Int) (of_decide_eq_true (by assumption)) (by have h_ : ((ji75) : Int) < ((l0.length : Int) : Int) := of_decide_eq_true (by assumption); first | exact h_ | (have e_ := (Kd.R_reads' HO_0.out).1; omega) | simpa using h_) (seg := [.string (((rd_T53 l0 (ji75)).f1) ++ a1_1)]) (j := 1) hcl93 hcc93 (show 2 ≤ 3 from by decide) (x' := (⟨(rd_T53 l0 (ji75)).f0, ((rd_T53 l0 (ji75)).f1) ++ a1_1, (rd_T53 l0 (ji75)).f2⟩ : S53)) (k53_mkM _ _ _ (⟨(rd_T53 l0 (ji75)).f0, ((rd_T53 l0 (ji75)).f1) ++ a1_1, (rd_T53 l0 (ji75)).f2⟩ : S53) ) (fun _ hk => hk)).1
           rw [← Ny151.out] at HP93
           have HQ93 := aM HP93
           clear hcl93 hcc93 hfr93 hM93 HP93
           refine start_ (n := 12) (S := fun w' => w'.cell? ⟨gb133, 0, none⟩ = some (.int .i64 a1_0) ∧ w'.cell? ⟨gb133, 1, none⟩ = some (.string a1_1) ∧ w'.cell? ⟨gb133, 2, none⟩ = some (.string a1_2) ∧ w'.cell? ⟨go91, ((ji75)).toNat * 3, none⟩ = some (.int .i64 ((rd_T53 l0 (ji75)).f0)) ∧ w'.cell? ⟨go91, ((ji75)).toNat * 3 + 1, none⟩ = some (.string ((rd_T53 l0 (ji75)).f1)) ∧ w'.cell? ⟨go91, ((ji75)).toNat * 3 + 2, none⟩ = some (.string ((rd_T53 l0 (ji75)).f2))) (ds := [11]) #[false, false, false, false, false, false, false, false, false, false, false, false] (by kernel_rfl) rfl rfl ⟨(blk_cell BK133.out 0).trans rfl, (blk_cell BK133.out 1).trans rfl, (blk_cell BK133.out 2).trans rfl, hx150_0, hx150_1, hx150_2⟩ (fun hHeld => ?_); refine with_tabW jA.tab16 jA.bits16 (fun HT_ HW_ => ?_)
           (first | generalize wc.drew = w92 at HO_0 BK133 BK138 HK HB GG91 HQ93 hf91_0 hf91_1 hf91_2 hx145_0 hx145_1 hx145_2 hx150_0 hx150_1 hx150_2 hx91_0 hx91_1 hx91_2 hHeld ⊢ | generalize wc.drew = w92 at HO_0 BK133 BK138 HK HB GG91 HQ93 hf91_0 hf91_1 hf91_2 hx150_0 hx150_1 hx150_2 hx91_0 hx91_1 hx91_2 hHeld ⊢ | generalize wc.drew = w92 at HO_0 BK133 BK138 HK HB GG91 HQ93 hf91_0 hf91_1 hf91_2 hx145_0 hx145_1 hx145_2 hx91_0 hx91_1 hx91_2 hHeld ⊢)
           refine pure_ (i := 0) (N := some 120) (v := ?_) (a' := ?_) #[true, false, false, false, false, false, false, false, false, false, false, false] rfl rfl (any_of HT_.out (by kernel_rfl)) (fun _ _ _ h => h) (Or.inl ⟨by rfl, ?_⟩) ?_ ?_
           rotate_left
           ·intro w'
            go_simp
            with_reducible rfl
           rotate_left
           ·simp only [Act.put, List.setIfInBounds_toArray, List.set_cons_zero, List.set_cons_succ, i64_w, i32_w]
            rfl
           refine pure_ (i := 1) (N := some 121) (v := ?_) (a' := ?_) #[true, true, false, false, false, false, false, false, false, false, false, false] rfl rfl (any_of HT_.out (by kernel_rfl)) (fun _ _ _ h => h) (Or.inl ⟨by rfl, ?_⟩) ?_ ?_
           rotate_left
           ·intro w'
            go_simp
            with_reducible rfl
           rotate_left
           ·simp only [Act.put, List.setIfInBounds_toArray, List.set_cons_zero, List.set_cons_succ, i64_w, i32_w]
            rfl
           refine pure_ (i := 2) (N := some 122) (v := ?_) (a' := ?_) #[true, true, true, false, false, false, false, false, false, false, false, false] rfl rfl (any_of HT_.out (by kernel_rfl)) (fun _ _ _ h => h) (Or.inl ⟨by rfl, ?_⟩) ?_ ?_
           rotate_left
           ·intro w'
            go_simp
            with_reducible rfl
           rotate_left
           ·simp only [Act.put, List.setIfInBounds_toArray, List.set_cons_zero, List.set_cons_succ, i64_w, i32_w]
            rfl
           refine pure_ (i := 3) (N := some 123) (v := ?_) (a' := ?_) #[true, true, true, true, false, false, false, false, false, false, false, false] rfl rfl (any_of HT_.out (by kernel_rfl)) (fun _ _ _ h => h) (Or.inl ⟨by rfl, ?_⟩) ?_ ?_
           rotate_left
           ·intro w'
            go_simp
            with_reducible rfl
           rotate_left
           ·simp only [Act.put, List.setIfInBounds_toArray, List.set_cons_zero, List.set_cons_succ, i64_w, i32_w]
            rfl
           refine pure_ (i := 4) (N := some 124) (v := ?_) (a' := ?_) #[true, true, true, true, true, false, false, false, false, false, false, false] rfl rfl (any_of HT_.out (by kernel_rfl)) (fun _ _ _ h => h) (Or.inl ⟨by rfl, ?_⟩) ?_ ?_
           rotate_left
           ·intro w'
            go_simp
            with_reducible rfl
           rotate_left
           ·simp only [Act.put, List.setIfInBounds_toArray, List.set_cons_zero, List.set_cons_succ, i64_w, i32_w]
            rfl
           refine pure_ (i := 6) (N := some 126) (v := ?_) (a' := ?_) #[true, true, true, true, true, false, true, false, false, false, false, false] rfl rfl (any_of HT_.out (by kernel_rfl)) (fun _ _ _ h => h) (Or.inl ⟨by rfl, ?_⟩) ?_ ?_
           rotate_left
           ·intro w'
            go_simp
            with_reducible rfl
           rotate_left
           ·simp only [Act.put, List.setIfInBounds_toArray, List.set_cons_zero, List.set_cons_succ, i64_w, i32_w]
            rfl
           refine take_ (i := 5) (N := some 125) (v := ?_) (a' := ?_) #[true, true, true, true, true, true, true, false, false, false, false, false] rfl rfl (take_ofW HT_.out HW_.out (by kernel_rfl)) (fun _ _ _ h => h) (Or.inl ⟨by rfl, ?_⟩) hHeld ?_ ?_
           rotate_left
           ·rintro w' ⟨s0, s1, s2, s3, s4, s5⟩
            go_simp
            with_reducible rfl
           rotate_left
           ·simp only [Act.put, List.setIfInBounds_toArray, List.set_cons_zero, List.set_cons_succ, i64_w, i32_w]
            rfl
           refine take_ (i := 7) (N := some 127) (v := ?_) (a' := ?_) #[true, true, true, true, true, true, true, true, false, false, false, false] rfl rfl (take_ofW HT_.out HW_.out (by kernel_rfl)) (fun _ _ _ h => h) (Or.inl ⟨by rfl, ?_⟩) hHeld ?_ ?_
           rotate_left
           ·rintro w' ⟨s0, s1, s2, s3, s4, s5⟩
            go_simp
            with_reducible rfl
           rotate_left
           ·simp only [Act.put, List.setIfInBounds_toArray, List.set_cons_zero, List.set_cons_succ, i64_w, i32_w]
            rfl
           refine pure_ (i := 8) (N := some 128) (v := ?_) (a' := ?_) #[true, true, true, true, true, true, true, true, true, false, false, false] rfl rfl (any_of HT_.out (by kernel_rfl)) (fun _ _ _ h => h) (Or.inl ⟨by rfl, ?_⟩) ?_ ?_
           rotate_left
           ·intro w'
            go_simp
            with_reducible rfl
           rotate_left
           ·simp only [Act.put, List.setIfInBounds_toArray, List.set_cons_zero, List.set_cons_succ, i64_w, i32_w]
            rfl
           refine pure_ (i := 9) (N := some 129) (v := ?_) (a' := ?_) #[true, true, true, true, true, true, true, true, true, true, false, false] rfl rfl (any_of HT_.out (by kernel_rfl)) (fun _ _ _ h => h) (Or.inl ⟨by rfl, ?_⟩) ?_ ?_
           rotate_left
           ·intro w'
            go_simp
            with_reducible rfl
           rotate_left
           ·simp only [Act.put, List.setIfInBounds_toArray, List.set_cons_zero, List.set_cons_succ, i64_w, i32_w]
            rfl
           refine pure_ (i := 10) (N := some 130) (v := ?_) (a' := ?_) #[true, true, true, true, true, true, true, true, true, true, true, false] rfl rfl (any_of HT_.out (by kernel_rfl)) (fun _ _ _ h => h) (Or.inl ⟨by rfl, ?_⟩) ?_ ?_
           rotate_left
           ·intro w'
            go_simp
            with_reducible rfl
           rotate_left
           ·simp only [Act.put, List.setIfInBounds_toArray, List.set_cons_zero, List.set_cons_succ, i64_w, i32_w]
            rfl
           refine last_ (i := 11) (N := none) #[true, true, true, true, true, true, true, true, true, true, true, true] rfl rfl (one_of HT_.out (by kernel_rfl)) (by decide) (fun K hK => ?_)
           refine skip_ (w1 := ?_) (by rfl) rfl ?_ ?_
           rotate_left
           ·go_simp
            rfl
           refine hK.out _ _ ?_
           clear hK K
           refine done_ (done_of HT_.out (by kernel_rfl)) ?_
           try go_wp2
           go_ret
           exact ⟨_, by first | rfl | (simp [errW_none, errW_some] <;> rfl) | (simp only [← hji16, ← hji75]; first | rfl | (simp [errW_none, errW_some] <;> rfl)) | (simp [*, errW_none, errW_some] <;> rfl), by (with_reducible repeat (first | apply Kd.R_alloc | apply Kd.R_drewN | apply Kd.R_drew)); exact Kd.R_mono HQ93.out (fun _ hk => hk.1), by repeat (first | (with_reducible first | exact HB.out | apply below_alloc | apply pw_below_drewN | apply below_drew1 | refine below_set ?_ GB91.out | refine below_set ?_ GE133.out | refine below_set ?_ GE138.out) | exact HB.out), by repeat (first | (with_reducible first | exact HK.out | apply Kept.alloc | apply Kept.drewN | apply Kept.drew | refine Kept.setCell ?_ HMgo91.out _ | refine Kept.setCell ?_ (.inr GW133.out) _ | refine Kept.setCell ?_ (.inr GW138.out) _) | exact HK.out)⟩
end Go.Proofs.Ytlelpomnblaciaa.PFnComposed
