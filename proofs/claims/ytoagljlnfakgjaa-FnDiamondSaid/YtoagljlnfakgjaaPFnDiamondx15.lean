/- (thin) Written by a program of this session (wip/ovl.py) over the kit's print. -/
import Derived.Test.YtoagljlnfakgjaaPFnDiamondx0
import Derived.Test.YtoagljlnfakgjaaPFnDiamondx2
import Derived.Test.YtoagljlnfakgjaaPFnDiamondx13
import Derived.Test.YtoagljlnfakgjaaPFnDiamondx14
namespace Go.Proofs.Ytoagljlnfakgjaa.PFnDiamond
open Go.RowKit Go.Proofs.YtoagljlnfakgjaaW.PrintWords Go.Proofs.YtoagljlnfakgjaaW.PrintLast Go.Proofs.YtoagljlnfakgjaaW.PrintMore
attribute [local go_sem] max2_int min2_int max_two min_two max_three min_three max_four min_four
set_option linter.unusedVariables false
set_option linter.unusedSimpArgs false
set_option maxHeartbeats 8000000
set_option maxRecDepth 100000
mutual
def jH.l0 : Nat → ByteArray → ByteArray → Int → List Int → Int → Int → Option (ByteArray × Int × Int)
 | 0, _, _, _, _, _, _ => none
 | k + 1, x1, x2, x7, x1000, x1001, x1002 => if x7 > 0 then (jH.j1 k x1 x2 x7 (decide ((x1.size : Int) > 0)) x1000 x1001 x1002) else (jH.j1 k x1 x2 x7 false x1000 x1001 x1002)
def jH.j1 : Nat → ByteArray → ByteArray → Int → Bool → List Int → Int → Int → Option (ByteArray × Int × Int)
 | 0, _, _, _, _, _, _, _ => none
 | k + 1, x1, x2, x7, x18, x1000, x1001, x1002 => if x18 = true then ((jD.f x1000 x1001 x1002 (x1.size : Int)).bind fun bt309 => ((jD.f x1000 bt309.2.1 bt309.2.2 (x2.size : Int)).bind fun bt312 => (if 0 ≤ bt312.1 then (if bt312.1 < (x2.size : Int) then ((some (([bt x2 bt312.1] : List Int) : List Int)).bind fun y315 => ((jD.f x1000 bt312.2.1 bt312.2.2 3).bind fun bt318 => (if bt318.1 = 0 then (if 0 ≤ bt309.1 then (if bt309.1 ≤ (x1.size : Int) then (if (x1.extract 0 (bt309.1 : Int).toNat).size + (strOfNums y315).size ≤ 9223372036854775807 then (if ((x1.extract 0 (bt309.1 : Int).toNat) ++ (strOfNums y315)).size + (x1.extract (bt309.1 : Int).toNat x1.size).size ≤ 9223372036854775807 then (jH.l0 k (((x1.extract 0 (bt309.1 : Int).toNat) ++ (strOfNums y315)) ++ (x1.extract (bt309.1 : Int).toNat x1.size)) x2 (wrap64 (x7 - 1)) x1000 bt318.2.1 bt318.2.2) else (none)) else (none)) else (none)) else (none)) else (if bt318.1 = 1 then (if 0 ≤ bt309.1 then (if bt309.1 ≤ (x1.size : Int) then (if (x1.extract 0 (bt309.1 : Int).toNat).size + (strOfNums y315).size ≤ 9223372036854775807 then (if 0 ≤ (wrap64 (bt309.1 + 1)) then (if (wrap64 (bt309.1 + 1)) ≤ (x1.size : Int) then (if ((x1.extract 0 (bt309.1 : Int).toNat) ++ (strOfNums y315)).size + (x1.extract ((wrap64 (bt309.1 + 1)) : Int).toNat x1.size).size ≤ 9223372036854775807 then (jH.l0 k (((x1.extract 0 (bt309.1 : Int).toNat) ++ (strOfNums y315)) ++ (x1.extract ((wrap64 (bt309.1 + 1)) : Int).toNat x1.size)) x2 (wrap64 (x7 - 1)) x1000 bt318.2.1 bt318.2.2) else (none)) else (none)) else (none)) else (none)) else (none)) else (none)) else (if 0 ≤ bt309.1 then (if bt309.1 ≤ (x1.size : Int) then (if 0 ≤ (wrap64 (bt309.1 + 1)) then (if (wrap64 (bt309.1 + 1)) ≤ (x1.size : Int) then (if (x1.extract 0 (bt309.1 : Int).toNat).size + (x1.extract ((wrap64 (bt309.1 + 1)) : Int).toNat x1.size).size ≤ 9223372036854775807 then (jH.l0 k ((x1.extract 0 (bt309.1 : Int).toNat) ++ (x1.extract ((wrap64 (bt309.1 + 1)) : Int).toNat x1.size)) x2 (wrap64 (x7 - 1)) x1000 bt318.2.1 bt318.2.2) else (none)) else (none)) else (none)) else (none)) else (none)))))) else (none)) else (none)))) else (some (x1, x1001, x1002))
end
def jH.f (k : Nat) (s0_0 : List Int) (s0_1 : Int) (s0_2 : Int) (a1 : ByteArray) (a2 : ByteArray) : Option (ByteArray × Int × Int) := (jD.f s0_0 s0_1 s0_2 3).bind fun bt306 => (jH.l0 k a1 a2 bt306.1 s0_0 bt306.2.1 bt306.2.2)
theorem jH.mono_l : ∀ k, (∀ y0 y1 y2 y3 y4 y5, LeO (jH.l0 k y0 y1 y2 y3 y4 y5) (jH.l0 (k + 1) y0 y1 y2 y3 y4 y5)) ∧ (∀ y0 y1 y2 y3 y4 y5 y6, LeO (jH.j1 k y0 y1 y2 y3 y4 y5 y6) (jH.j1 (k + 1) y0 y1 y2 y3 y4 y5 y6))
 | 0 => ⟨fun _ _ _ _ _ _ r h => by simp [jH.l0] at h, fun _ _ _ _ _ _ _ r h => by simp [jH.j1] at h⟩
 | k + 1 => by
  obtain ⟨ih0, ih1⟩ := jH.mono_l k
  refine ⟨?_, ?_⟩
  ·intro y0 y1 y2 y3 y4 y5
   unfold jH.l0
   repeat' (with_reducible first | apply ih0 | apply ih1 | apply LeO.refl | apply LeO.none | apply LeO.ite | refine LeO.bind ?_ fun _ => ?_)
  ·intro y0 y1 y2 y3 y4 y5 y6
   unfold jH.j1
   repeat' (with_reducible first | apply ih0 | apply ih1 | apply LeO.refl | apply LeO.none | apply LeO.ite | refine LeO.bind ?_ fun _ => ?_)
theorem jH.mono : ∀ a0 a1 a2 a3 a4 k, LeO (jH.f k a0 a1 a2 a3 a4) (jH.f (k + 1) a0 a1 a2 a3 a4) := by
 intro a0 a1 a2 a3 a4 k
 obtain ⟨ih0, ih1⟩ := jH.mono_l k
 unfold jH.f
 repeat' (with_reducible first | apply ih0 | apply ih1 | apply LeO.refl | apply LeO.none | apply LeO.ite | refine LeO.bind ?_ fun _ => ?_)
theorem jH.calls (k : Nat) (g : Nat) (s0_0 : List Int) (s0_1 : Int) (s0_2 : Int) (a1 : ByteArray) (a2 : ByteArray) (r1 : ByteArray) (r2 : Int) (r3 : Int) (w0 w : World) (hI : IsS82 w0 w g s0_0 s0_1 s0_2) (hB : Below w0.heap.size w0 w) (h : jH.f k s0_0 s0_1 s0_2 a1 a2 = some (r1, r2, r3)) :
  Calls Try.prog 86 #[.pointer (some ⟨g, 0, none⟩), .string a1, .string a2] w fun e w' => e = .returned (.string r1) ∧ IsS82 w0 w' g s0_0 r2 r3 ∧ Below w0.heap.size w0 w' ∧ KeepBut w w' g none := by
 have HI0 := aM hI
 have HK := aM (KeepBut.refl w g none)
 have HL := aM hB.size
 clear hI
 have HW0 := aM hB.size
 have HB := aM hB
 clear hB
 have H : ((jD.f s0_0 s0_1 s0_2 3).bind fun bt306 => (jH.l0 k a1 a2 bt306.1 s0_0 bt306.2.1 bt306.2.2)) = some (r1, r2, r3) := h
 clear h
 obtain ⟨⟨t306, t307, t308⟩, A4, H⟩ := bM H
 have H' := aM H
 clear H
 go_enter Try.func86, Try.ntmps86
 go_wp2_with (go_at_call 60; (with_reducible refine (jD.calls g s0_0 s0_1 s0_2 3 t306 t307 t308 w0 _ ?s1 ?s2 A4.out).mono ?_); (case s1 => exact aP0); (case s2 => exact aP2); rintro e w5 ⟨rfl, hi, hb, hk⟩; replace HK := aM (KeepBut.trans aP1 hk (.inl rfl)); replace HB := aM (hb); replace HI0 := aM (hi); clear hb hk hi)
 repeat (go_quiet (fail); try go_wp2_with (fail))
 go_loopg [1, 7] k (fun kq v1 v7 w' => ∃ (x1_1 : ByteArray) (x7_1 : Int) (x1001_1 : Int) (x1002_1 : Int), v1 = .string x1_1 ∧ v7 = .int .i64 x7_1 ∧ Aside0 (jH.l0 kq x1_1 a2 x7_1 s0_0 x1001_1 x1002_1 = some (r1, r2, r3)) ∧ Aside0 (kq ≤ k) ∧ Aside0 (IsS82 w0 w' g s0_0 x1001_1 x1002_1) ∧ Aside0 (KeepBut w w' g none) ∧ Aside0 (Below w0.heap.size w0 w'))
 case atStart => exact ⟨(a1), (t306), (t307), (t308), aP19, aP19, H', ⟨Nat.le_refl _⟩, ⟨aP0⟩, ⟨aP1⟩, ⟨aP2⟩⟩
 case round =>
  clear H'
  obtain ⟨x1_1, x7_1, x1001_1, x1002_1, rfl, rfl, HA, HK1, HI0, HK, HB⟩ := hrel
  cases gk with
  | zero => exact absurd HA.out (by simp [jH.l0])
  | succ k1 => ?_
  have H := HA.out
  clear HA
  simp only [jH.l0] at H
  have HC6 := aM H
  clear H
  go_upto_region 2 with (fail)
  repeat (go_quiet (fail); go_upto_region 2 with (fail))
  go_cut [18] (fun v18 wc => ∃ (kq : Nat) (x18_5 : Bool), v18 = .bool x18_5 ∧ Aside0 (jH.j1 kq x1_1 a2 x7_1 x18_5 s0_0 x1001_1 x1002_1 = some (r1, r2, r3)) ∧ Aside0 (kq ≤ k1) ∧ Aside0 (IsS82 w0 wc g s0_0 x1001_1 x1002_1) ∧ Aside0 (KeepBut w wc g none) ∧ Aside0 (Below w0.heap.size w0 wc))
  case first =>
   have H := HC6.out
   clear HC6
   by_cases c7 : x7_1 > 0
   rotate_left
   ·rw [if_neg c7] at H
    have c7b0 : decide (0 < x7_1) = false := decide_eq_false c7
    clear c7
    (first | rw [c7b0] | (simp only [i64_w, i32_w]; rw [c7b0]) | rw [c7e] | skip)
    have H' := aM H
    clear H
    go_wp2
    repeat (go_quiet (fail); try go_wp2)
    go_meet
    case rel => exact ⟨_, (false), aP19, H', ⟨by have := HK1.out; first | omega | exact Nat.le_refl _⟩, ⟨aP0⟩, ⟨aP1⟩, ⟨aP2⟩⟩
   rw [if_pos c7] at H
   have c7b0 : decide (0 < x7_1) = true := decide_eq_true c7
   clear c7
   (first | rw [c7b0] | (simp only [i64_w, i32_w]; rw [c7b0]) | rw [c7e] | skip)
   have H' := aM H
   clear H
   go_wp2
   repeat (go_quiet (fail); try go_wp2)
   go_meet
   case rel => exact ⟨_, (decide ((x1_1.size : Int) > 0)), aP19, H', ⟨by have := HK1.out; first | omega | exact Nat.le_refl _⟩, ⟨aP0⟩, ⟨aP1⟩, ⟨aP2⟩⟩
  clear HC6
  obtain ⟨kq, x18_5, rfl, HA, HJ5, HI0, HK, HB⟩ := hcut
  cases kq with
  | zero => exact absurd HA.out (by simp [jH.j1])
  | succ kj5 => ?_
  have H := HA.out
  clear HA
  simp only [jH.j1] at H
  by_cases c8 : x18_5 = true
  rotate_left
  ·replace c8 := Bool.eq_false_iff.mpr c8
   subst c8
   replace H := fF H
   simp only [Option.some.injEq, Prod.mk.injEq] at H
   obtain ⟨rfl, rfl, rfl⟩ := H
   go_wp2
   repeat (go_quiet (fail); try go_wp2)
   go_ret
   exact ⟨eR, by (try simp only [Int.add_zero]); exact aP0, by exact aP2, aP1⟩
  subst c8
  rw [if_pos rfl] at H
  obtain ⟨⟨t309, t310, t311⟩, A9, H⟩ := bM H
  obtain ⟨⟨t312, t313, t314⟩, A10, H⟩ := bM H
  obtain ⟨c11b0, H⟩ := gB H
  obtain ⟨c12b0, H⟩ := gB H
  (try replace H := bS H)
  generalize Ny315 : (([bt a2 t312] : List Int)) = y315 at H
  replace Ny315 := aM Ny315.symm
  obtain ⟨⟨t318, t319, t320⟩, A14, H⟩ := bM H
  by_cases c15 : t318 = 0
  ·rw [if_pos c15] at H
   obtain ⟨c15b0, c15b1⟩ := pE c15
   clear c15
   obtain ⟨c16, H⟩ := gD H
   have c16b0 := eq_true c16
   have c16b1 : decide (0 ≤ t309) = true := decide_eq_true c16
   clear c16
   obtain ⟨c17, H⟩ := gD H
   have c17b0 := eq_true c17
   have c17b1 : decide (t309 ≤ (x1_1.size : Int)) = true := decide_eq_true c17
   clear c17
   obtain ⟨c18, H⟩ := gD H
   have c18b0 := eq_true c18
   have c18b1 : decide ((x1_1.extract 0 (t309 : Int).toNat).size + (strOfNums y315).size ≤ 9223372036854775807) = true := decide_eq_true c18
   try have c18b2 : (9223372036854775807 < (x1_1.extract 0 (t309 : Int).toNat).size + (strOfNums y315).size) = False := eq_false (Nat.not_lt.2 c18)
   have c19b0 := eq_true (of_decide_eq_true (by assumption) : 0 ≤ t309)
   have c20b0 := eq_true (of_decide_eq_true (by assumption) : t309 ≤ (x1_1.size : Int))
   obtain ⟨c21, H⟩ := gD H
   have c21b0 := eq_true c21
   have c21b1 : decide (((x1_1.extract 0 (t309 : Int).toNat) ++ (strOfNums y315)).size + (x1_1.extract (t309 : Int).toNat x1_1.size).size ≤ 9223372036854775807) = true := decide_eq_true c21
   try have c21b2 : (9223372036854775807 < ((x1_1.extract 0 (t309 : Int).toNat) ++ (strOfNums y315)).size + (x1_1.extract (t309 : Int).toNat x1_1.size).size) = False := eq_false (Nat.not_lt.2 c21)
   try have c21s := eq_false (Nat.not_lt.2 c21)
   try simp only [ByteArray.size_append] at c21s
   have H' := aM H
   clear H
   go_wp2_with (first | (go_at_call 60; (with_reducible refine (jD.calls g s0_0 x1001_1 x1002_1 (x1_1.size : Int) t309 t310 t311 w0 _ ?s1 ?s2 A9.out).mono ?_); (case s1 => exact aP0); (case s2 => exact aP2); rintro e w22 ⟨rfl, hi, hb, hk⟩; replace HK := aM (KeepBut.trans aP1 hk (.inl rfl)); replace HB := aM (hb); replace HI0 := aM (hi); clear hb hk hi) | (go_at_call 60; (with_reducible refine (jD.calls g s0_0 t310 t311 (a2.size : Int) t312 t313 t314 w0 _ ?s1 ?s2 A10.out).mono ?_); (case s1 => exact aP0); (case s2 => exact aP2); rintro e w23 ⟨rfl, hi, hb, hk⟩; replace HK := aM (KeepBut.trans aP1 hk (.inl rfl)); replace HB := aM (hb); replace HI0 := aM (hi); clear hb hk hi; obtain ⟨p13, q13⟩ := dT t312 (a2.size : Int); have hx13 := bt_at a2 t312) | ((with_reducible refine gate_dst (N := 31) rfl ?_); (try (refine gate_guard (by rfl) ?_; dsimp only)); refine Kd.R_lit (Kd.int .u8) _ 5 ?hg (N := 31) ?hd (xs := ([bt a2 t312] : List Int)) (inner := [.int .u8 (bt a2 t312)]) (ok := fun _ => True) (okp := fun _ => True) ?hr ?hp (fun _ hk => hk) trivial (Below.refl _ _) (Nat.le_refl _) (by simp) ?_; (case hd => rfl); (case hg => rfl); (case hr => exact aP38); (case hp => exact (Reps.one (show Kd.M (Kd.int .u8) _ _ _ (bt a2 t312) [.int .u8 (bt a2 t312)] from rfl) (Reps.none _ _))); intro v316 w24 ho25 hb hg_ hnew_; clear hg_ hnew_; (first | rw [← Ny315.out] at ho25 | (simp only [Int.reduceToNat] at ho25; rw [← Ny315.out] at ho25)); have HO317 := aM (Kd.R_lower ho25 (keep_size (w := w) (g := g) (row := none) aP1)); replace HI0 := aM (IsS82.below aP0 hb); replace HK := aM (KeepBut.trans aP1 (KeepBut.of_below hb g none) (.inl rfl)); replace HB := aM (below_step aP2 hb); clear hb ho25; have hcv26 := own_string (P := Try.prog) Try.underlying44 Try.underlying5 Try.underlying9 (Kd.own_of_R HO317.out)) | (go_at_call 60; (with_reducible refine (jD.calls g s0_0 t313 t314 3 t318 t319 t320 w0 _ ?s1 ?s2 A14.out).mono ?_); (case s1 => exact aP0); (case s2 => exact aP2); rintro e w27 ⟨rfl, hi, hb, hk⟩; replace HO317 := aM (Kd.R_mono (Kd.R_keep (IsS82.apart (show IsS82 w0 _ g s0_0 t313 t314 from aP0) (rR HO317.out) (by decide)) hk (fun _ h => h.2)) (fun _ h => h.1)); replace HK := aM (KeepBut.trans aP1 hk (.inl rfl)); replace HB := aM (hb); replace HI0 := aM (hi); clear hb hk hi))
   repeat (go_quiet (fail); try go_wp2_with (fail))
   go_roundg kj5
   case measure => have := HK1.out; have := HJ5.out; omega
   case rel => exact ⟨(((x1_1.extract 0 (t309 : Int).toNat) ++ (strOfNums y315)) ++ (x1_1.extract (t309 : Int).toNat x1_1.size)), (wrap64 (x7_1 - 1)), (t319), (t320), aP19, aP19, H', ⟨by have := HK1.out; have := HJ5.out; omega⟩, ⟨aP0⟩, ⟨aP1⟩, ⟨aP2⟩⟩
  rw [if_neg c15] at H
  obtain ⟨c15b0, c15b1⟩ := nE c15
  by_cases c28 : t318 = 1
  rotate_left
  ·rw [if_neg c28] at H
   obtain ⟨c28b0, c28b1⟩ := nE c28
   obtain ⟨c42, H⟩ := gD H
   have c42b0 := eq_true c42
   have c42b1 : decide (0 ≤ t309) = true := decide_eq_true c42
   clear c42
   obtain ⟨c43, H⟩ := gD H
   have c43b0 := eq_true c43
   have c43b1 : decide (t309 ≤ (x1_1.size : Int)) = true := decide_eq_true c43
   clear c43
   generalize hji44 : (wrap64 (t309 + 1)) = ji44 at H
   (try rw [hji44] at A9)
   (try rw [hji44] at A10)
   (try rw [hji44] at A14)
   have hji44w : (IntKind.i64.wrap (t309 + 1)) = ji44 := (i64_w _).trans hji44
   obtain ⟨c45, H⟩ := gD H
   have c45b0 := eq_true c45
   have c45b1 : decide (0 ≤ (ji44)) = true := decide_eq_true c45
   clear c45
   obtain ⟨c46, H⟩ := gD H
   have c46b0 := eq_true c46
   have c46b1 : decide ((ji44) ≤ (x1_1.size : Int)) = true := decide_eq_true c46
   clear c46
   obtain ⟨c47, H⟩ := gD H
   have c47b0 := eq_true c47
   have c47b1 : decide ((x1_1.extract 0 (t309 : Int).toNat).size + (x1_1.extract ((ji44) : Int).toNat x1_1.size).size ≤ 9223372036854775807) = true := decide_eq_true c47
   try have c47b2 : (9223372036854775807 < (x1_1.extract 0 (t309 : Int).toNat).size + (x1_1.extract ((ji44) : Int).toNat x1_1.size).size) = False := eq_false (Nat.not_lt.2 c47)
   try have c47v : (9223372036854775807 < t309.toNat + (x1_1.size - ji44.toNat)) = False := eq_false (by have h_ := c47; have k_ := of_eq_true c43b0; simp only [ByteArray.size_extract] at h_; omega)
   have H' := aM H
   clear H
   go_wp2_with (first | (go_at_call 60; (with_reducible refine (jD.calls g s0_0 x1001_1 x1002_1 (x1_1.size : Int) t309 t310 t311 w0 _ ?s1 ?s2 A9.out).mono ?_); (case s1 => exact aP0); (case s2 => exact aP2); rintro e w48 ⟨rfl, hi, hb, hk⟩; replace HK := aM (KeepBut.trans aP1 hk (.inl rfl)); replace HB := aM (hb); replace HI0 := aM (hi); clear hb hk hi) | (go_at_call 60; (with_reducible refine (jD.calls g s0_0 t310 t311 (a2.size : Int) t312 t313 t314 w0 _ ?s1 ?s2 A10.out).mono ?_); (case s1 => exact aP0); (case s2 => exact aP2); rintro e w49 ⟨rfl, hi, hb, hk⟩; replace HK := aM (KeepBut.trans aP1 hk (.inl rfl)); replace HB := aM (hb); replace HI0 := aM (hi); clear hb hk hi; obtain ⟨p13, q13⟩ := dT t312 (a2.size : Int); have hx13 := bt_at a2 t312) | ((with_reducible refine gate_dst (N := 31) rfl ?_); (try (refine gate_guard (by rfl) ?_; dsimp only)); refine Kd.R_lit (Kd.int .u8) _ 5 ?hg (N := 31) ?hd (xs := ([bt a2 t312] : List Int)) (inner := [.int .u8 (bt a2 t312)]) (ok := fun _ => True) (okp := fun _ => True) ?hr ?hp (fun _ hk => hk) trivial (Below.refl _ _) (Nat.le_refl _) (by simp) ?_; (case hd => rfl); (case hg => rfl); (case hr => exact aP38); (case hp => exact (Reps.one (show Kd.M (Kd.int .u8) _ _ _ (bt a2 t312) [.int .u8 (bt a2 t312)] from rfl) (Reps.none _ _))); intro v316 w50 ho51 hb hg_ hnew_; clear hg_ hnew_; (first | rw [← Ny315.out] at ho51 | (simp only [Int.reduceToNat] at ho51; rw [← Ny315.out] at ho51)); have HO317 := aM (Kd.R_lower ho51 (keep_size (w := w) (g := g) (row := none) aP1)); replace HI0 := aM (IsS82.below aP0 hb); replace HK := aM (KeepBut.trans aP1 (KeepBut.of_below hb g none) (.inl rfl)); replace HB := aM (below_step aP2 hb); clear hb ho51; have hcv52 := own_string (P := Try.prog) Try.underlying44 Try.underlying5 Try.underlying9 (Kd.own_of_R HO317.out)) | (go_at_call 60; (with_reducible refine (jD.calls g s0_0 t313 t314 3 t318 t319 t320 w0 _ ?s1 ?s2 A14.out).mono ?_); (case s1 => exact aP0); (case s2 => exact aP2); rintro e w53 ⟨rfl, hi, hb, hk⟩; replace HO317 := aM (Kd.R_mono (Kd.R_keep (IsS82.apart (show IsS82 w0 _ g s0_0 t313 t314 from aP0) (rR HO317.out) (by decide)) hk (fun _ h => h.2)) (fun _ h => h.1)); replace HK := aM (KeepBut.trans aP1 hk (.inl rfl)); replace HB := aM (hb); replace HI0 := aM (hi); clear hb hk hi))
   repeat (go_quiet (fail); try go_wp2_with (fail))
   go_roundg kj5
   case measure => have := HK1.out; have := HJ5.out; omega
   case rel => exact ⟨((x1_1.extract 0 (t309 : Int).toNat) ++ (x1_1.extract ((ji44) : Int).toNat x1_1.size)), (wrap64 (x7_1 - 1)), (t319), (t320), (by first | rfl | (simp; done) | (simp only [← hji44] <;> (first | rfl | (simp; done) | (simp; exact isE _))) | (simp [*]; done)), aP19, (by first | exact H' | (rw [hji44]; exact H')), ⟨by have := HK1.out; have := HJ5.out; omega⟩, ⟨aP0⟩, ⟨aP1⟩, ⟨aP2⟩⟩
  rw [if_pos c28] at H
  obtain ⟨c28b0, c28b1⟩ := pE c28
  clear c28
  obtain ⟨c29, H⟩ := gD H
  have c29b0 := eq_true c29
  have c29b1 : decide (0 ≤ t309) = true := decide_eq_true c29
  clear c29
  obtain ⟨c30, H⟩ := gD H
  have c30b0 := eq_true c30
  have c30b1 : decide (t309 ≤ (x1_1.size : Int)) = true := decide_eq_true c30
  clear c30
  obtain ⟨c31, H⟩ := gD H
  have c31b0 := eq_true c31
  have c31b1 : decide ((x1_1.extract 0 (t309 : Int).toNat).size + (strOfNums y315).size ≤ 9223372036854775807) = true := decide_eq_true c31
  try have c31b2 : (9223372036854775807 < (x1_1.extract 0 (t309 : Int).toNat).size + (strOfNums y315).size) = False := eq_false (Nat.not_lt.2 c31)
  generalize hji32 : (wrap64 (t309 + 1)) = ji32 at H
  (try rw [hji32] at A9)
  (try rw [hji32] at A10)
  (try rw [hji32] at A14)
  have hji32w : (IntKind.i64.wrap (t309 + 1)) = ji32 := (i64_w _).trans hji32
  obtain ⟨c33, H⟩ := gD H
  have c33b0 := eq_true c33
  have c33b1 : decide (0 ≤ (ji32)) = true := decide_eq_true c33
  clear c33
  obtain ⟨c34, H⟩ := gD H
  have c34b0 := eq_true c34
  have c34b1 : decide ((ji32) ≤ (x1_1.size : Int)) = true := decide_eq_true c34
  clear c34
  obtain ⟨c35, H⟩ := gD H
  have c35b0 := eq_true c35
  have c35b1 : decide (((x1_1.extract 0 (t309 : Int).toNat) ++ (strOfNums y315)).size + (x1_1.extract ((ji32) : Int).toNat x1_1.size).size ≤ 9223372036854775807) = true := decide_eq_true c35
  try have c35b2 : (9223372036854775807 < ((x1_1.extract 0 (t309 : Int).toNat) ++ (strOfNums y315)).size + (x1_1.extract ((ji32) : Int).toNat x1_1.size).size) = False := eq_false (Nat.not_lt.2 c35)
  try have c35s := eq_false (Nat.not_lt.2 c35)
  try simp only [ByteArray.size_append] at c35s
  have H' := aM H
  clear H
  go_wp2_with (first | (go_at_call 60; (with_reducible refine (jD.calls g s0_0 x1001_1 x1002_1 (x1_1.size : Int) t309 t310 t311 w0 _ ?s1 ?s2 A9.out).mono ?_); (case s1 => exact aP0); (case s2 => exact aP2); rintro e w36 ⟨rfl, hi, hb, hk⟩; replace HK := aM (KeepBut.trans aP1 hk (.inl rfl)); replace HB := aM (hb); replace HI0 := aM (hi); clear hb hk hi) | (go_at_call 60; (with_reducible refine (jD.calls g s0_0 t310 t311 (a2.size : Int) t312 t313 t314 w0 _ ?s1 ?s2 A10.out).mono ?_); (case s1 => exact aP0); (case s2 => exact aP2); rintro e w37 ⟨rfl, hi, hb, hk⟩; replace HK := aM (KeepBut.trans aP1 hk (.inl rfl)); replace HB := aM (hb); replace HI0 := aM (hi); clear hb hk hi; obtain ⟨p13, q13⟩ := dT t312 (a2.size : Int); have hx13 := bt_at a2 t312) | ((with_reducible refine gate_dst (N := 31) rfl ?_); (try (refine gate_guard (by rfl) ?_; dsimp only)); refine Kd.R_lit (Kd.int .u8) _ 5 ?hg (N := 31) ?hd (xs := ([bt a2 t312] : List Int)) (inner := [.int .u8 (bt a2 t312)]) (ok := fun _ => True) (okp := fun _ => True) ?hr ?hp (fun _ hk => hk) trivial (Below.refl _ _) (Nat.le_refl _) (by simp) ?_; (case hd => rfl); (case hg => rfl); (case hr => exact aP38); (case hp => exact (Reps.one (show Kd.M (Kd.int .u8) _ _ _ (bt a2 t312) [.int .u8 (bt a2 t312)] from rfl) (Reps.none _ _))); intro v316 w38 ho39 hb hg_ hnew_; clear hg_ hnew_; (first | rw [← Ny315.out] at ho39 | (simp only [Int.reduceToNat] at ho39; rw [← Ny315.out] at ho39)); have HO317 := aM (Kd.R_lower ho39 (keep_size (w := w) (g := g) (row := none) aP1)); replace HI0 := aM (IsS82.below aP0 hb); replace HK := aM (KeepBut.trans aP1 (KeepBut.of_below hb g none) (.inl rfl)); replace HB := aM (below_step aP2 hb); clear hb ho39; have hcv40 := own_string (P := Try.prog) Try.underlying44 Try.underlying5 Try.underlying9 (Kd.own_of_R HO317.out)) | (go_at_call 60; (with_reducible refine (jD.calls g s0_0 t313 t314 3 t318 t319 t320 w0 _ ?s1 ?s2 A14.out).mono ?_); (case s1 => exact aP0); (case s2 => exact aP2); rintro e w41 ⟨rfl, hi, hb, hk⟩; replace HO317 := aM (Kd.R_mono (Kd.R_keep (IsS82.apart (show IsS82 w0 _ g s0_0 t313 t314 from aP0) (rR HO317.out) (by decide)) hk (fun _ h => h.2)) (fun _ h => h.1)); replace HK := aM (KeepBut.trans aP1 hk (.inl rfl)); replace HB := aM (hb); replace HI0 := aM (hi); clear hb hk hi))
  repeat (go_quiet (fail); try go_wp2_with (fail))
  go_roundg kj5
  case measure => have := HK1.out; have := HJ5.out; omega
  case rel => exact ⟨(((x1_1.extract 0 (t309 : Int).toNat) ++ (strOfNums y315)) ++ (x1_1.extract ((ji32) : Int).toNat x1_1.size)), (wrap64 (x7_1 - 1)), (t319), (t320), (by first | rfl | (simp; done) | (simp only [← hji32] <;> (first | rfl | (simp; done) | (simp; exact isE _))) | (simp [*]; done)), aP19, (by first | exact H' | (rw [hji32]; exact H')), ⟨by have := HK1.out; have := HJ5.out; omega⟩, ⟨aP0⟩, ⟨aP1⟩, ⟨aP2⟩⟩
def jS.j0 : Nat → ByteArray → List Int → Int → Int → Option (ByteArray × Int × Int)
 | 0, _, _, _, _ => none
 | k + 1, x3, x1000, x1001, x1002 => (yB.f x1000 x1001 x1002 12).bind fun bt339 => (if bt339.1 = true then ((jH.f k x1000 bt339.2.1 bt339.2.2 x3 (⟨#[65, 47, 97, 90]⟩ : ByteArray)).bind fun bt342 => (some (bt342.1, bt342.2.1, bt342.2.2))) else (some (x3, bt339.2.1, bt339.2.2)))
def jS.f (k : Nat) (s0_0 : List Int) (s0_1 : Int) (s0_2 : Int) : Option (ByteArray × Int × Int) := (jD.f s0_0 s0_1 s0_2 7).bind fun bt321 => ((jB.f k s0_0 bt321.2.1 bt321.2.2 bt321.1 3).bind fun bt324 => ((jD.f s0_0 bt324.2.1 bt324.2.2 30).bind fun bt327 => (if bt327.1 = 0 then ((jB.f k s0_0 bt327.2.1 bt327.2.2 60 3).bind fun bt330 => (jS.j0 k bt330.1 s0_0 bt330.2.1 bt330.2.2)) else (if bt327.1 = 1 then ((yK.f s0_0 bt327.2.1 bt327.2.2 (([(⟨#[65, 65, 65, 65, 65, 65, 65, 65, 65, 65, 65, 65, 47, 47, 47, 47, 47, 47, 47, 47, 47, 47, 47, 47]⟩ : ByteArray), (⟨#[65, 65, 65, 65, 65, 65, 65, 65, 65, 65, 65, 65, 65, 47, 47, 47, 47, 47, 47, 47, 47, 47, 47, 47, 47, 47]⟩ : ByteArray)] : List ByteArray))).bind fun bt336 => (jS.j0 k bt336.1 s0_0 bt336.2.1 bt336.2.2)) else (jS.j0 k bt324.1 s0_0 bt327.2.1 bt327.2.2)))))
theorem jS.mono_l : ∀ k, (∀ y0 y1 y2 y3, LeO (jS.j0 k y0 y1 y2 y3) (jS.j0 (k + 1) y0 y1 y2 y3))
 | 0 => fun _ _ _ _ r h => by simp [jS.j0] at h
 | k + 1 => by
  have ih0 := jS.mono_l k
  ·intro y0 y1 y2 y3
   unfold jS.j0
   repeat' (with_reducible first | apply ih0 | apply jB.mono | apply jH.mono | apply LeO.refl | apply LeO.none | apply LeO.ite | refine LeO.bind ?_ fun _ => ?_)
theorem jS.mono : ∀ a0 a1 a2 k, LeO (jS.f k a0 a1 a2) (jS.f (k + 1) a0 a1 a2) := by
 intro a0 a1 a2 k
 have ih0 := jS.mono_l k
 unfold jS.f
 repeat' (with_reducible first | apply ih0 | apply jB.mono | apply jH.mono | apply LeO.refl | apply LeO.none | apply LeO.ite | refine LeO.bind ?_ fun _ => ?_)
theorem jS.calls (k : Nat) (g : Nat) (s0_0 : List Int) (s0_1 : Int) (s0_2 : Int) (r1 : ByteArray) (r2 : Int) (r3 : Int) (w0 w : World) (hI : IsS82 w0 w g s0_0 s0_1 s0_2) (hB : Below w0.heap.size w0 w) (h : jS.f k s0_0 s0_1 s0_2 = some (r1, r2, r3)) :
  Calls Try.prog 78 #[.pointer (some ⟨g, 0, none⟩)] w fun e w' => e = .returned (.string r1) ∧ IsS82 w0 w' g s0_0 r2 r3 ∧ Below w0.heap.size w0 w' ∧ KeepBut w w' g none := by
 have HI0 := aM hI
 have HK := aM (KeepBut.refl w g none)
 have HL := aM hB.size
 clear hI
 have HW0 := aM hB.size
 have HB := aM hB
 clear hB
 have H : ((jD.f s0_0 s0_1 s0_2 7).bind fun bt321 => ((jB.f k s0_0 bt321.2.1 bt321.2.2 bt321.1 3).bind fun bt324 => ((jD.f s0_0 bt324.2.1 bt324.2.2 30).bind fun bt327 => (if bt327.1 = 0 then ((jB.f k s0_0 bt327.2.1 bt327.2.2 60 3).bind fun bt330 => (jS.j0 k bt330.1 s0_0 bt330.2.1 bt330.2.2)) else (if bt327.1 = 1 then ((yK.f s0_0 bt327.2.1 bt327.2.2 (([(⟨#[65, 65, 65, 65, 65, 65, 65, 65, 65, 65, 65, 65, 47, 47, 47, 47, 47, 47, 47, 47, 47, 47, 47, 47]⟩ : ByteArray), (⟨#[65, 65, 65, 65, 65, 65, 65, 65, 65, 65, 65, 65, 65, 47, 47, 47, 47, 47, 47, 47, 47, 47, 47, 47, 47, 47]⟩ : ByteArray)] : List ByteArray))).bind fun bt336 => (jS.j0 k bt336.1 s0_0 bt336.2.1 bt336.2.2)) else (jS.j0 k bt324.1 s0_0 bt327.2.1 bt327.2.2)))))) = some (r1, r2, r3) := h
 clear h
 obtain ⟨⟨t321, t322, t323⟩, A2, H⟩ := bM H
 obtain ⟨⟨t324, t325, t326⟩, A3, H⟩ := bM H
 obtain ⟨⟨t327, t328, t329⟩, A4, H⟩ := bM H
 have HC5 := aM H
 clear H
 go_enter Try.func78, Try.ntmps78
 go_upto_block 0 with (first | ((with_reducible refine gate_callee (f := 60) rfl ?_); refine gL 6 Try.func60 #[.pointer (some ⟨g, 0, none⟩), .int .i64 7] ?_; (with_reducible refine (jD.calls g s0_0 s0_1 s0_2 7 t321 t322 t323 w0 _ ?s1 ?s2 A2.out).mono ?_); (case s1 => exact aP0); (case s2 => exact aP2); rintro e w6 ⟨rfl, hi, hb, hk⟩; refine ⟨_, rfl, ?_⟩; replace HK := aM (KeepBut.trans aP1 hk (.inl rfl)); replace HB := aM (hb); replace HI0 := aM (hi); clear hb hk hi) | ((with_reducible refine gate_callee (f := 85) rfl ?_); refine gL 7 Try.func85 #[.pointer (some ⟨g, 0, none⟩), .int .i64 t321, .int .i64 3] ?_; (with_reducible refine (jB.calls k g s0_0 t322 t323 t321 3 t324 t325 t326 w0 _ ?s1 ?s2 A3.out).mono ?_); (case s1 => exact aP0); (case s2 => exact aP2); rintro e w7 ⟨rfl, hi, hb, hk⟩; refine ⟨_, rfl, ?_⟩; replace HK := aM (KeepBut.trans aP1 hk (.inl rfl)); replace HB := aM (hb); replace HI0 := aM (hi); clear hb hk hi) | ((with_reducible refine gate_callee (f := 60) rfl ?_); refine gL 9 Try.func60 #[.pointer (some ⟨g, 0, none⟩), .int .i64 30] ?_; (with_reducible refine (jD.calls g s0_0 t325 t326 30 t327 t328 t329 w0 _ ?s1 ?s2 A4.out).mono ?_); (case s1 => exact aP0); (case s2 => exact aP2); rintro e w8 ⟨rfl, hi, hb, hk⟩; refine ⟨_, rfl, ?_⟩; replace HK := aM (KeepBut.trans aP1 hk (.inl rfl)); replace HB := aM (hb); replace HI0 := aM (hi); clear hb hk hi))
 (try simp only [Act.put, List.setIfInBounds_toArray, List.set_cons_zero, List.set_cons_succ])
 go_cut [3] (fun v3 wc => ∃ (kq : Nat) (x3_4 : ByteArray) (x1001_4 : Int) (x1002_4 : Int), v3 = .string x3_4 ∧ Aside0 (jS.j0 kq x3_4 s0_0 x1001_4 x1002_4 = some (r1, r2, r3)) ∧ Aside0 (kq ≤ k) ∧ Aside0 (IsS82 w0 wc g s0_0 x1001_4 x1002_4) ∧ Aside0 (KeepBut w wc g none) ∧ Aside0 (Below w0.heap.size w0 wc))
 case first =>
  have H := HC5.out
  clear HC5
  by_cases c9 : t327 = 0
  ·rw [if_pos c9] at H
   obtain ⟨c9b0, c9b1⟩ := pE c9
   clear c9
   (first | rw [c9b0] | (simp only [i64_w, i32_w]; rw [c9b0]) | rw [c9e] | skip)
   obtain ⟨⟨t330, t331, t332⟩, A10, H⟩ := bM H
   have H' := aM H
   clear H
   go_wp2_with ((with_reducible refine gate_callee (f := 85) rfl ?_); refine gL 13 Try.func85 #[.pointer (some ⟨g, 0, none⟩), .int .i64 60, .int .i64 3] ?_; (with_reducible refine (jB.calls k g s0_0 t328 t329 60 3 t330 t331 t332 w0 _ ?s1 ?s2 A10.out).mono ?_); (case s1 => exact aP0); (case s2 => exact aP2); rintro e w11 ⟨rfl, hi, hb, hk⟩; refine ⟨_, rfl, ?_⟩; replace HK := aM (KeepBut.trans aP1 hk (.inl rfl)); replace HB := aM (hb); replace HI0 := aM (hi); clear hb hk hi)
   go_meet
   case rel => exact ⟨_, (t330), (t331), (t332), aP19, H', ⟨lH⟩, ⟨aP0⟩, ⟨aP1⟩, ⟨aP2⟩⟩
  rw [if_neg c9] at H
  obtain ⟨c9b0, c9b1⟩ := nE c9
  (first | rw [c9b0] | (simp only [i64_w, i32_w]; rw [c9b0]) | rw [c9e] | skip)
  by_cases c12 : t327 = 1
  rotate_left
  ·rw [if_neg c12] at H
   obtain ⟨c12b0, c12b1⟩ := nE c12
   have H' := aM H
   clear H
   go_wp2
   go_meet
   case rel => exact ⟨_, (t324), (t328), (t329), aP19, H', ⟨lH⟩, ⟨aP0⟩, ⟨aP1⟩, ⟨aP2⟩⟩
  rw [if_pos c12] at H
  obtain ⟨c12b0, c12b1⟩ := pE c12
  clear c12
  (try replace H := bS H)
  generalize Ny333 : (([(⟨#[65, 65, 65, 65, 65, 65, 65, 65, 65, 65, 65, 65, 47, 47, 47, 47, 47, 47, 47, 47, 47, 47, 47, 47]⟩ : ByteArray), (⟨#[65, 65, 65, 65, 65, 65, 65, 65, 65, 65, 65, 65, 65, 47, 47, 47, 47, 47, 47, 47, 47, 47, 47, 47, 47, 47]⟩ : ByteArray)] : List ByteArray)) = y333 at H
  replace Ny333 := aM Ny333.symm
  obtain ⟨⟨t336, t337, t338⟩, A13, H⟩ := bM H
  have H' := aM H
  clear H
  go_wp2_with (first | ((with_reducible refine gate_dst (N := 17) rfl ?_); refine Kd.R_lit Kd.string _ 9 ?hg (N := 17) ?hd (xs := ([(⟨#[65, 65, 65, 65, 65, 65, 65, 65, 65, 65, 65, 65, 47, 47, 47, 47, 47, 47, 47, 47, 47, 47, 47, 47]⟩ : ByteArray), (⟨#[65, 65, 65, 65, 65, 65, 65, 65, 65, 65, 65, 65, 65, 47, 47, 47, 47, 47, 47, 47, 47, 47, 47, 47, 47, 47]⟩ : ByteArray)] : List ByteArray)) (inner := [.string (⟨#[65, 65, 65, 65, 65, 65, 65, 65, 65, 65, 65, 65, 47, 47, 47, 47, 47, 47, 47, 47, 47, 47, 47, 47]⟩ : ByteArray), .string (⟨#[65, 65, 65, 65, 65, 65, 65, 65, 65, 65, 65, 65, 65, 47, 47, 47, 47, 47, 47, 47, 47, 47, 47, 47, 47, 47]⟩ : ByteArray)]) (ok := fun _ => True) (okp := fun _ => True) ?hr ?hp (fun _ hk => hk) trivial (Below.refl _ _) (Nat.le_refl _) (by simp) ?_; (case hd => rfl); (case hg => rfl); (case hr => exact aP38); (case hp => exact (Reps.one (show Kd.M Kd.string _ _ _ (⟨#[65, 65, 65, 65, 65, 65, 65, 65, 65, 65, 65, 65, 47, 47, 47, 47, 47, 47, 47, 47, 47, 47, 47, 47]⟩ : ByteArray) [.string (⟨#[65, 65, 65, 65, 65, 65, 65, 65, 65, 65, 65, 65, 47, 47, 47, 47, 47, 47, 47, 47, 47, 47, 47, 47]⟩ : ByteArray)] from rfl) (Reps.one (show Kd.M Kd.string _ _ _ (⟨#[65, 65, 65, 65, 65, 65, 65, 65, 65, 65, 65, 65, 65, 47, 47, 47, 47, 47, 47, 47, 47, 47, 47, 47, 47, 47]⟩ : ByteArray) [.string (⟨#[65, 65, 65, 65, 65, 65, 65, 65, 65, 65, 65, 65, 65, 47, 47, 47, 47, 47, 47, 47, 47, 47, 47, 47, 47, 47]⟩ : ByteArray)] from rfl) (Reps.none _ _)))); intro v334 w14 ho15 hb hg_ hnew_; clear hg_ hnew_; (first | rw [← Ny333.out] at ho15 | (simp only [Int.reduceToNat] at ho15; rw [← Ny333.out] at ho15)); have HO335 := aM (Kd.R_lower ho15 (keep_size (w := w) (g := g) (row := none) aP1)); replace HI0 := aM (IsS82.below aP0 hb); replace HK := aM (KeepBut.trans aP1 (KeepBut.of_below hb g none) (.inl rfl)); replace HB := aM (below_step aP2 hb); clear hb ho15; obtain ⟨Ao16, co16, eo16⟩ := Kd.R_slice HO335.out; subst eo16) | ((with_reducible refine gate_callee (f := 80) rfl ?_); refine gL 18 Try.func80 #[.pointer (some ⟨g, 0, none⟩), .slice Ao16 y333.length co16] ?_; (with_reducible refine (yK.calls g s0_0 t328 t329 _ _ y333 t336 t337 t338 w0 _ ?s1 ?s2 ?s3 ?s4 ?s5 A13.out).mono ?_); (case s1 => exact aP0); (case s2 => exact aP2); (case s3 => exact cC ((Kd.R_reads' HO335.out).2.2)); (case s4 => exact (Kd.R_reads' HO335.out).2.1); (case s5 => exact far_slice (IsS82.own_ne HI0.out HO335.out (by decide))); rintro e w17 ⟨rfl, hi, hb, hk⟩; refine ⟨_, rfl, ?_⟩; replace HO335 := aM (Kd.R_mono (Kd.R_keep (IsS82.apart (show IsS82 w0 _ g s0_0 t328 t329 from aP0) (rR HO335.out) (by decide)) hk (fun _ h => h.2)) (fun _ h => h.1)); replace HK := aM (KeepBut.trans aP1 hk (.inl rfl)); replace HB := aM (hb); replace HI0 := aM (hi); clear hb hk hi))
  go_meet
  case rel => exact ⟨_, (t336), (t337), (t338), aP19, H', ⟨lH⟩, ⟨aP0⟩, ⟨aP1⟩, ⟨aP2⟩⟩
 clear HC5
 obtain ⟨kq, x3_4, x1001_4, x1002_4, rfl, HA, HJ4, HI0, HK, HB⟩ := hcut
 cases kq with
 | zero => exact absurd HA.out (by simp [jS.j0])
 | succ kj4 => ?_
 have H := HA.out
 clear HA
 simp only [jS.j0] at H
 obtain ⟨⟨t339, t340, t341⟩, A18, H⟩ := bM H
 by_cases c19 : t339 = true
 rotate_left
 ·replace c19 := Bool.eq_false_iff.mpr c19
  subst c19
  replace H := fF H
  simp only [Option.some.injEq, Prod.mk.injEq] at H
  obtain ⟨rfl, rfl, rfl⟩ := H
  go_wp2_with ((with_reducible refine gate_callee (f := 62) rfl ?_); refine gL 20 Try.func62 #[.pointer (some ⟨g, 0, none⟩), .int .i64 12] ?_; (with_reducible refine (yB.calls g s0_0 x1001_4 x1002_4 12 false t340 t341 w0 _ ?s1 ?s2 A18.out).mono ?_); (case s1 => exact aP0); (case s2 => exact aP2); rintro e w23 ⟨rfl, hi, hb, hk⟩; refine ⟨_, rfl, ?_⟩; replace HK := aM (KeepBut.trans aP1 hk (.inl rfl)); replace HB := aM (hb); replace HI0 := aM (hi); clear hb hk hi)
  go_ret
  exact ⟨eR, by (try simp only [Int.add_zero]); exact aP0, by exact aP2, aP1⟩
 subst c19
 rw [if_pos rfl] at H
 obtain ⟨⟨t342, t343, t344⟩, A20, H⟩ := bM H
 simp only [Option.some.injEq, Prod.mk.injEq] at H
 obtain ⟨rfl, rfl, rfl⟩ := H
 go_wp2_with (first | ((with_reducible refine gate_callee (f := 62) rfl ?_); refine gL 20 Try.func62 #[.pointer (some ⟨g, 0, none⟩), .int .i64 12] ?_; (with_reducible refine (yB.calls g s0_0 x1001_4 x1002_4 12 true t340 t341 w0 _ ?s1 ?s2 A18.out).mono ?_); (case s1 => exact aP0); (case s2 => exact aP2); rintro e w21 ⟨rfl, hi, hb, hk⟩; refine ⟨_, rfl, ?_⟩; replace HK := aM (KeepBut.trans aP1 hk (.inl rfl)); replace HB := aM (hb); replace HI0 := aM (hi); clear hb hk hi) | ((with_reducible refine gate_callee (f := 86) rfl ?_); refine gL 23 Try.func86 #[.pointer (some ⟨g, 0, none⟩), .string x3_4, .string (⟨#[65, 47, 97, 90]⟩ : ByteArray)] ?_; (with_reducible refine (jH.calls kj4 g s0_0 t340 t341 x3_4 (⟨#[65, 47, 97, 90]⟩ : ByteArray) t342 t343 t344 w0 _ ?s1 ?s2 A20.out).mono ?_); (case s1 => exact aP0); (case s2 => exact aP2); rintro e w22 ⟨rfl, hi, hb, hk⟩; refine ⟨_, rfl, ?_⟩; replace HK := aM (KeepBut.trans aP1 hk (.inl rfl)); replace HB := aM (hb); replace HI0 := aM (hi); clear hb hk hi))
 go_ret
 exact ⟨eR, by (try simp only [Int.add_zero]); exact aP0, by exact aP2, aP1⟩
def jY.f (k : Nat) (s0_0 : List Int) (s0_1 : Int) (s0_2 : Int) : Option (ByteArray × Int × Int) := (jS.f k s0_0 s0_1 s0_2).bind fun bt345 => ((yE.f k bt345.1).bind fun t348 => (if t348 = true then (if (bt345.1.size : Int) > 40 then ((yB.f s0_0 bt345.2.1 bt345.2.2 20).bind fun bt349 => (if bt349.1 = true then (some (bt345.1, bt349.2.1, bt349.2.2)) else (if 0 ≤ 40 then (if 40 ≤ (bt345.1.size : Int) then (some (bt345.1.extract 0 40, bt349.2.1, bt349.2.2)) else (none)) else (none)))) else (some (bt345.1, bt345.2.1, bt345.2.2))) else (if 4 > 40 then ((yB.f s0_0 bt345.2.1 bt345.2.2 20).bind fun bt352 => (if bt352.1 = true then (some ((⟨#[116, 101, 120, 116]⟩ : ByteArray), bt352.2.1, bt352.2.2)) else (if 0 ≤ 40 then (if 40 ≤ 4 then (some ((⟨#[116, 101, 120, 116]⟩ : ByteArray).extract 0 40, bt352.2.1, bt352.2.2)) else (none)) else (none)))) else (some ((⟨#[116, 101, 120, 116]⟩ : ByteArray), bt345.2.1, bt345.2.2)))))
theorem jY.mono : ∀ a0 a1 a2 k, LeO (jY.f k a0 a1 a2) (jY.f (k + 1) a0 a1 a2) := by
 intro a0 a1 a2 k
 unfold jY.f
 repeat' (with_reducible first | apply yE.mono | apply jS.mono | apply LeO.refl | apply LeO.none | apply LeO.ite | refine LeO.bind ?_ fun _ => ?_)
theorem jY.calls (k : Nat) (g : Nat) (s0_0 : List Int) (s0_1 : Int) (s0_2 : Int) (r1 : ByteArray) (r2 : Int) (r3 : Int) (w0 w : World) (hI : IsS82 w0 w g s0_0 s0_1 s0_2) (hB : Below w0.heap.size w0 w) (h : jY.f k s0_0 s0_1 s0_2 = some (r1, r2, r3)) :
  Calls Try.prog 58 #[.pointer (some ⟨g, 0, none⟩)] w fun e w' => e = .returned (.string r1) ∧ IsS82 w0 w' g s0_0 r2 r3 ∧ Below w0.heap.size w0 w' ∧ KeepBut w w' g none := by
 have HI0 := aM hI
 have HK := aM (KeepBut.refl w g none)
 have HL := aM hB.size
 clear hI
 have HW0 := aM hB.size
 have HB := aM hB
 clear hB
 have H : ((jS.f k s0_0 s0_1 s0_2).bind fun bt345 => ((yE.f k bt345.1).bind fun t348 => (if t348 = true then (if (bt345.1.size : Int) > 40 then ((yB.f s0_0 bt345.2.1 bt345.2.2 20).bind fun bt349 => (if bt349.1 = true then (some (bt345.1, bt349.2.1, bt349.2.2)) else (if 0 ≤ 40 then (if 40 ≤ (bt345.1.size : Int) then (some (bt345.1.extract 0 40, bt349.2.1, bt349.2.2)) else (none)) else (none)))) else (some (bt345.1, bt345.2.1, bt345.2.2))) else (if 4 > 40 then ((yB.f s0_0 bt345.2.1 bt345.2.2 20).bind fun bt352 => (if bt352.1 = true then (some ((⟨#[116, 101, 120, 116]⟩ : ByteArray), bt352.2.1, bt352.2.2)) else (if 0 ≤ 40 then (if 40 ≤ 4 then (some ((⟨#[116, 101, 120, 116]⟩ : ByteArray).extract 0 40, bt352.2.1, bt352.2.2)) else (none)) else (none)))) else (some ((⟨#[116, 101, 120, 116]⟩ : ByteArray), bt345.2.1, bt345.2.2)))))) = some (r1, r2, r3) := h
 clear h
 obtain ⟨⟨t345, t346, t347⟩, A2, H⟩ := bM H
 obtain ⟨t348, A3, H⟩ := bM H
 by_cases c4 : t348 = true
 rotate_left
 ·replace c4 := Bool.eq_false_iff.mpr c4
  subst c4
  replace H := fF H
  by_cases c15 : 4 > 40
  ·exact absurd c15 (by omega)
  rw [if_neg c15] at H
  have c15b0 : decide (40 < 4) = false := decide_eq_false c15
  clear c15
  simp only [Option.some.injEq, Prod.mk.injEq] at H
  obtain ⟨rfl, rfl, rfl⟩ := H
  go_enter Try.func58, Try.ntmps58
  go_wp2_with (first | ((with_reducible refine gate_callee (f := 78) rfl ?_); refine gL 5 Try.func78 #[.pointer (some ⟨g, 0, none⟩)] ?_; (with_reducible refine (jS.calls k g s0_0 s0_1 s0_2 t345 t346 t347 w0 _ ?s1 ?s2 A2.out).mono ?_); (case s1 => exact aP0); (case s2 => exact aP2); rintro e w24 ⟨rfl, hi, hb, hk⟩; refine ⟨_, rfl, ?_⟩; replace HK := aM (KeepBut.trans aP1 hk (.inl rfl)); replace HB := aM (hb); replace HI0 := aM (hi); clear hb hk hi) | ((with_reducible refine gate_callee (f := 79) rfl ?_); refine gL 7 Try.func79 #[.string t345] ?_; (with_reducible refine (yE.calls k t345 false _ A3.out).mono ?_); rintro e w' ⟨rfl, ⟨nd, rfl⟩⟩; refine ⟨_, rfl, ?_⟩))
  go_ret
  exact ⟨eR, by (try simp only [Int.add_zero]); exact aP0, by exact aP2, aP1⟩
 subst c4
 rw [if_pos rfl] at H
 by_cases c5 : (t345.size : Int) > 40
 rotate_left
 ·rw [if_neg c5] at H
  have c5b0 : decide (40 < (t345.size : Int)) = false := decide_eq_false c5
  have c5b1 : decide (40 < t345.size) = false := decide_eq_false (by omega)
  clear c5
  simp only [Option.some.injEq, Prod.mk.injEq] at H
  obtain ⟨rfl, rfl, rfl⟩ := H
  go_enter Try.func58, Try.ntmps58
  go_wp2_with (first | ((with_reducible refine gate_callee (f := 78) rfl ?_); refine gL 5 Try.func78 #[.pointer (some ⟨g, 0, none⟩)] ?_; (with_reducible refine (jS.calls k g s0_0 s0_1 s0_2 t345 t346 t347 w0 _ ?s1 ?s2 A2.out).mono ?_); (case s1 => exact aP0); (case s2 => exact aP2); rintro e w14 ⟨rfl, hi, hb, hk⟩; refine ⟨_, rfl, ?_⟩; replace HK := aM (KeepBut.trans aP1 hk (.inl rfl)); replace HB := aM (hb); replace HI0 := aM (hi); clear hb hk hi) | ((with_reducible refine gate_callee (f := 79) rfl ?_); refine gL 7 Try.func79 #[.string t345] ?_; (with_reducible refine (yE.calls k t345 true _ A3.out).mono ?_); rintro e w' ⟨rfl, ⟨nd, rfl⟩⟩; refine ⟨_, rfl, ?_⟩))
  go_ret
  exact ⟨eR, by (try simp only [Int.add_zero]); exact aP0, by exact aP2, aP1⟩
 rw [if_pos c5] at H
 have c5b0 : decide (40 < (t345.size : Int)) = true := decide_eq_true c5
 have c5b1 : decide (40 < t345.size) = true := decide_eq_true (by omega)
 clear c5
 obtain ⟨⟨t349, t350, t351⟩, A6, H⟩ := bM H
 by_cases c7 : t349 = true
 ·subst c7
  rw [if_pos rfl] at H
  simp only [Option.some.injEq, Prod.mk.injEq] at H
  obtain ⟨rfl, rfl, rfl⟩ := H
  go_enter Try.func58, Try.ntmps58
  go_wp2_with (first | ((with_reducible refine gate_callee (f := 78) rfl ?_); refine gL 5 Try.func78 #[.pointer (some ⟨g, 0, none⟩)] ?_; (with_reducible refine (jS.calls k g s0_0 s0_1 s0_2 t345 t346 t347 w0 _ ?s1 ?s2 A2.out).mono ?_); (case s1 => exact aP0); (case s2 => exact aP2); rintro e w8 ⟨rfl, hi, hb, hk⟩; refine ⟨_, rfl, ?_⟩; replace HK := aM (KeepBut.trans aP1 hk (.inl rfl)); replace HB := aM (hb); replace HI0 := aM (hi); clear hb hk hi) | ((with_reducible refine gate_callee (f := 79) rfl ?_); refine gL 7 Try.func79 #[.string t345] ?_; (with_reducible refine (yE.calls k t345 true _ A3.out).mono ?_); rintro e w' ⟨rfl, ⟨nd, rfl⟩⟩; refine ⟨_, rfl, ?_⟩) | (go_at_call 62; (with_reducible refine (yB.calls g s0_0 t346 t347 20 true t350 t351 w0 _ ?s1 ?s2 A6.out).mono ?_); (case s1 => exact aP0); (case s2 => exact aP2); rintro e w9 ⟨rfl, hi, hb, hk⟩; replace HK := aM (KeepBut.trans aP1 hk (.inl rfl)); replace HB := aM (hb); replace HI0 := aM (hi); clear hb hk hi))
  go_ret
  exact ⟨eR, by (try simp only [Int.add_zero]); exact aP0, by exact aP2, aP1⟩
 replace c7 := Bool.eq_false_iff.mpr c7
 subst c7
 replace H := fF H
 obtain ⟨c10, H⟩ := gD H
 have c10b0 := eq_true c10
 have c10b1 : decide (0 ≤ 40) = true := decide_eq_true c10
 clear c10
 obtain ⟨c11, H⟩ := gD H
 have c11b0 := eq_true c11
 have c11b1 : decide (40 ≤ (t345.size : Int)) = true := decide_eq_true c11
 clear c11
 simp only [Option.some.injEq, Prod.mk.injEq] at H
 obtain ⟨rfl, rfl, rfl⟩ := H
 go_enter Try.func58, Try.ntmps58
 go_wp2_with (first | ((with_reducible refine gate_callee (f := 78) rfl ?_); refine gL 5 Try.func78 #[.pointer (some ⟨g, 0, none⟩)] ?_; (with_reducible refine (jS.calls k g s0_0 s0_1 s0_2 t345 t346 t347 w0 _ ?s1 ?s2 A2.out).mono ?_); (case s1 => exact aP0); (case s2 => exact aP2); rintro e w12 ⟨rfl, hi, hb, hk⟩; refine ⟨_, rfl, ?_⟩; replace HK := aM (KeepBut.trans aP1 hk (.inl rfl)); replace HB := aM (hb); replace HI0 := aM (hi); clear hb hk hi) | ((with_reducible refine gate_callee (f := 79) rfl ?_); refine gL 7 Try.func79 #[.string t345] ?_; (with_reducible refine (yE.calls k t345 true _ A3.out).mono ?_); rintro e w' ⟨rfl, ⟨nd, rfl⟩⟩; refine ⟨_, rfl, ?_⟩) | (go_at_call 62; (with_reducible refine (yB.calls g s0_0 t346 t347 20 false t350 t351 w0 _ ?s1 ?s2 A6.out).mono ?_); (case s1 => exact aP0); (case s2 => exact aP2); rintro e w13 ⟨rfl, hi, hb, hk⟩; replace HK := aM (KeepBut.trans aP1 hk (.inl rfl)); replace HB := aM (hb); replace HI0 := aM (hi); clear hb hk hi))
 go_ret
 exact ⟨eR, by (try simp only [Int.add_zero]); exact aP0, by exact aP2, aP1⟩
end Go.Proofs.Ytoagljlnfakgjaa.PFnDiamond
