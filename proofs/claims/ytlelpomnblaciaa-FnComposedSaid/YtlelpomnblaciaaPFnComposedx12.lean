/- (thin) Written by a program of this session (wip/ovl.py) over the kit's print: plain functions with the answers of the Go functions, and the proofs that they are; no condition. -/
import Derived.Test.YtlelpomnblaciaaPFnComposedx0
import Derived.Test.YtlelpomnblaciaaPFnComposedx11
namespace Go.Proofs.Ytlelpomnblaciaa.PFnComposed
open Go.RowKit Go.Proofs.YtlelpomnblaciaaW.PrintWords Go.Proofs.YtlelpomnblaciaaW.PrintLast Go.Proofs.YtlelpomnblaciaaW.PrintMore
attribute [local go_sem] max2_int min2_int max_two min_two max_three min_three max_four min_four   -- for this text's walks alone
set_option linter.unusedVariables false
set_option linter.unusedSimpArgs false
mutual
def jC.l0 : Nat → ByteArray → ByteArray → Int → List Int → Int → Int → Option (ByteArray × Int × Int)
 | 0, _, _, _, _, _, _ => none
 | k + 1, x1, x2, x7, x1000, x1001, x1002 => if x7 > 0 then (jC.j1 k x1 x2 x7 (decide ((x1.size : Int) > 0)) x1000 x1001 x1002) else (jC.j1 k x1 x2 x7 false x1000 x1001 x1002)
def jC.j1 : Nat → ByteArray → ByteArray → Int → Bool → List Int → Int → Int → Option (ByteArray × Int × Int)
 | 0, _, _, _, _, _, _, _ => none
 | k + 1, x1, x2, x7, x18, x1000, x1001, x1002 => if x18 = true then ((jD.f x1000 x1001 x1002 (x1.size : Int)).bind fun bt197 => ((jD.f x1000 bt197.2.1 bt197.2.2 (x2.size : Int)).bind fun bt200 => (if 0 ≤ bt200.1 then (if bt200.1 < (x2.size : Int) then ((some (([bt x2 bt200.1] : List Int) : List Int)).bind fun y203 => ((jD.f x1000 bt200.2.1 bt200.2.2 3).bind fun bt206 => (if bt206.1 = 0 then (if 0 ≤ bt197.1 then (if bt197.1 ≤ (x1.size : Int) then (if (x1.extract 0 (bt197.1 : Int).toNat).size + (strOfNums y203).size ≤ 9223372036854775807 then (if ((x1.extract 0 (bt197.1 : Int).toNat) ++ (strOfNums y203)).size + (x1.extract (bt197.1 : Int).toNat x1.size).size ≤ 9223372036854775807 then (jC.l0 k (((x1.extract 0 (bt197.1 : Int).toNat) ++ (strOfNums y203)) ++ (x1.extract (bt197.1 : Int).toNat x1.size)) x2 (wrap64 (x7 - 1)) x1000 bt206.2.1 bt206.2.2) else (none)) else (none)) else (none)) else (none)) else (if bt206.1 = 1 then (if 0 ≤ bt197.1 then (if bt197.1 ≤ (x1.size : Int) then (if (x1.extract 0 (bt197.1 : Int).toNat).size + (strOfNums y203).size ≤ 9223372036854775807 then (if 0 ≤ (wrap64 (bt197.1 + 1)) then (if (wrap64 (bt197.1 + 1)) ≤ (x1.size : Int) then (if ((x1.extract 0 (bt197.1 : Int).toNat) ++ (strOfNums y203)).size + (x1.extract ((wrap64 (bt197.1 + 1)) : Int).toNat x1.size).size ≤ 9223372036854775807 then (jC.l0 k (((x1.extract 0 (bt197.1 : Int).toNat) ++ (strOfNums y203)) ++ (x1.extract ((wrap64 (bt197.1 + 1)) : Int).toNat x1.size)) x2 (wrap64 (x7 - 1)) x1000 bt206.2.1 bt206.2.2) else (none)) else (none)) else (none)) else (none)) else (none)) else (none)) else (if 0 ≤ bt197.1 then (if bt197.1 ≤ (x1.size : Int) then (if 0 ≤ (wrap64 (bt197.1 + 1)) then (if (wrap64 (bt197.1 + 1)) ≤ (x1.size : Int) then (if (x1.extract 0 (bt197.1 : Int).toNat).size + (x1.extract ((wrap64 (bt197.1 + 1)) : Int).toNat x1.size).size ≤ 9223372036854775807 then (jC.l0 k ((x1.extract 0 (bt197.1 : Int).toNat) ++ (x1.extract ((wrap64 (bt197.1 + 1)) : Int).toNat x1.size)) x2 (wrap64 (x7 - 1)) x1000 bt206.2.1 bt206.2.2) else (none)) else (none)) else (none)) else (none)) else (none)))))) else (none)) else (none)))) else (some (x1, x1001, x1002))
end
def jC.f (k : Nat) (s0_0 : List Int) (s0_1 : Int) (s0_2 : Int) (a1 : ByteArray) (a2 : ByteArray) : Option (ByteArray × Int × Int) := (jD.f s0_0 s0_1 s0_2 3).bind fun bt194 => (jC.l0 k a1 a2 bt194.1 s0_0 bt194.2.1 bt194.2.2)
theorem jC.mono_l : ∀ k, (∀ y0 y1 y2 y3 y4 y5, LeO (jC.l0 k y0 y1 y2 y3 y4 y5) (jC.l0 (k + 1) y0 y1 y2 y3 y4 y5)) ∧ (∀ y0 y1 y2 y3 y4 y5 y6, LeO (jC.j1 k y0 y1 y2 y3 y4 y5 y6) (jC.j1 (k + 1) y0 y1 y2 y3 y4 y5 y6))
 | 0 => ⟨fun _ _ _ _ _ _ r h => by simp [jC.l0] at h, fun _ _ _ _ _ _ _ r h => by simp [jC.j1] at h⟩
 | k + 1 => by
  obtain ⟨ih0, ih1⟩ := jC.mono_l k
  refine ⟨?_, ?_⟩
  ·intro y0 y1 y2 y3 y4 y5
   unfold jC.l0
   repeat' first
   | (with_reducible exact ih0 _ _ _ _ _ _)
   | (with_reducible exact ih1 _ _ _ _ _ _ _)
   | (with_reducible exact LeO.refl _)
   | (with_reducible exact LeO.none _)
   | (with_reducible refine LeO.ite ?_ ?_)
   | (with_reducible refine LeO.bind ?_ (fun _ => ?_))
   | exact ih0 _ _ _ _ _ _
   | exact ih1 _ _ _ _ _ _ _
   | exact LeO.none _
   | refine LeO.ite ?_ ?_
   | refine LeO.bind ?_ (fun _ => ?_)
  ·intro y0 y1 y2 y3 y4 y5 y6
   unfold jC.j1
   repeat' first
   | (with_reducible exact ih0 _ _ _ _ _ _)
   | (with_reducible exact ih1 _ _ _ _ _ _ _)
   | (with_reducible exact LeO.refl _)
   | (with_reducible exact LeO.none _)
   | (with_reducible refine LeO.ite ?_ ?_)
   | (with_reducible refine LeO.bind ?_ (fun _ => ?_))
   | exact ih0 _ _ _ _ _ _
   | exact ih1 _ _ _ _ _ _ _
   | exact LeO.none _
   | refine LeO.ite ?_ ?_
   | refine LeO.bind ?_ (fun _ => ?_)
theorem jC.mono : ∀ a0 a1 a2 a3 a4 k, LeO (jC.f k a0 a1 a2 a3 a4) (jC.f (k + 1) a0 a1 a2 a3 a4) := by
 intro a0 a1 a2 a3 a4 k
 obtain ⟨ih0, ih1⟩ := jC.mono_l k
 unfold jC.f
 repeat' first
   | (with_reducible exact ih0 _ _ _ _ _ _)
   | (with_reducible exact ih1 _ _ _ _ _ _ _)
   | (with_reducible exact LeO.refl _)
   | (with_reducible exact LeO.none _)
   | (with_reducible refine LeO.ite ?_ ?_)
   | (with_reducible refine LeO.bind ?_ (fun _ => ?_))
   | exact ih0 _ _ _ _ _ _
   | exact ih1 _ _ _ _ _ _ _
   | exact LeO.none _
   | refine LeO.ite ?_ ?_
   | refine LeO.bind ?_ (fun _ => ?_)
set_option maxHeartbeats 8000000 in
set_option maxRecDepth 100000 in
theorem jC.calls (k : Nat) (g : Nat) (s0_0 : List Int) (s0_1 : Int) (s0_2 : Int) (a1 : ByteArray) (a2 : ByteArray) (r1 : ByteArray) (r2 : Int) (r3 : Int) (w0 w : World) (hI : IsS83 w0 w g s0_0 s0_1 s0_2) (hB : Below w0.heap.size w0 w) (h : jC.f k s0_0 s0_1 s0_2 a1 a2 = some (r1, r2, r3)) :
  Calls Try.prog 73 #[.pointer (some ⟨g, 0, none⟩), .string a1, .string a2] w fun e w' => e = .returned (.string r1) ∧ IsS83 w0 w' g s0_0 r2 r3 ∧ Below w0.heap.size w0 w' ∧ KeepBut w w' g none := by
 have HI0 := aM hI
 have HK := aM (KeepBut.refl w g none)
 have HL := aM hB.size
 clear hI
 have HW0 := aM hB.size
 have HB := aM hB
 clear hB
 have H : ((jD.f s0_0 s0_1 s0_2 3).bind fun bt194 => (jC.l0 k a1 a2 bt194.1 s0_0 bt194.2.1 bt194.2.2)) = some (r1, r2, r3) := h
 clear h
 replace H := Option.bind_eq_some_iff.mp H
 obtain ⟨⟨t194, t195, t196⟩, A40, H⟩ := H
 replace H : (jC.l0 k a1 a2 t194 s0_0 t195 t196) = some (r1, r2, r3) := H
 have A4 := aM A40
 clear A40
 have H' := aM H
 clear H
 go_enter Try.func73, Try.ntmps73
 go_wp2_with (first | (go_at_call 74; (with_reducible refine (jD.calls g s0_0 s0_1 s0_2 3 t194 t195 t196 w0 _ ?side1 ?side2 A4.out).mono ?_); (case side1 => exact aP0); (case side2 => exact aP2); rintro e w5 ⟨rfl, hi, hb, hk⟩; have n0_ := aM (KeepBut.trans aP1 hk (.inl rfl)); have n1_ := aM (hb); have n2_ := aM (hi); clear HK; clear HB; clear HI0; have HK := n0_; have HB := n1_; have HI0 := n2_; clear n0_ n1_ n2_; (try clear hb); (try clear hb2); (try clear hk); (try clear hi)))
 repeat (go_quiet (first | (go_at_call 74; (with_reducible refine (jD.calls g s0_0 s0_1 s0_2 3 t194 t195 t196 w0 _ ?side1 ?side2 A4.out).mono ?_); (case side1 => exact aP0); (case side2 => exact aP2); rintro e w5 ⟨rfl, hi, hb, hk⟩; have n0_ := aM (KeepBut.trans aP1 hk (.inl rfl)); have n1_ := aM (hb); have n2_ := aM (hi); clear HK; clear HB; clear HI0; have HK := n0_; have HB := n1_; have HI0 := n2_; clear n0_ n1_ n2_; (try clear hb); (try clear hb2); (try clear hk); (try clear hi))); try go_wp2_with (first | (go_at_call 74; (with_reducible refine (jD.calls g s0_0 s0_1 s0_2 3 t194 t195 t196 w0 _ ?side1 ?side2 A4.out).mono ?_); (case side1 => exact aP0); (case side2 => exact aP2); rintro e w5 ⟨rfl, hi, hb, hk⟩; have n0_ := aM (KeepBut.trans aP1 hk (.inl rfl)); have n1_ := aM (hb); have n2_ := aM (hi); clear HK; clear HB; clear HI0; have HK := n0_; have HB := n1_; have HI0 := n2_; clear n0_ n1_ n2_; (try clear hb); (try clear hb2); (try clear hk); (try clear hi))))
 go_loopg [1, 7] k (fun kq v1 v7 w' => ∃ (x1_1 : ByteArray) (x7_1 : Int) (x1001_1 : Int) (x1002_1 : Int), v1 = .string x1_1 ∧ v7 = .int .i64 x7_1 ∧ Aside0 (jC.l0 kq x1_1 a2 x7_1 s0_0 x1001_1 x1002_1 = some (r1, r2, r3)) ∧ Aside0 (kq ≤ k) ∧ Aside0 (IsS83 w0 w' g s0_0 x1001_1 x1002_1) ∧ Aside0 (KeepBut w w' g none) ∧ Aside0 (Below w0.heap.size w0 w'))
 case atStart => exact ⟨(a1), (t194), (t195), (t196), aP16, aP16, H', ⟨Nat.le_refl _⟩, ⟨aP0⟩, ⟨aP1⟩, ⟨aP2⟩⟩
 case round =>
  clear H'
  try clear p2
  obtain ⟨x1_1, x7_1, x1001_1, x1002_1, rfl, rfl, HA, HK1, HI0, HK, HB⟩ := hrel
  cases gk with
  | zero => exact absurd HA.out (by simp [jC.l0])
  | succ k1 =>
   have H := HA.out
   clear HA
   simp only [jC.l0] at H
   have HC6 := aM H
   clear H
   go_upto_region 2 with (fail)
   repeat (go_quiet (fail); go_upto_region 2 with (fail))
   go_cut [18] (fun v18 wc => ∃ (kq : Nat) (x18_5 : Bool), v18 = .bool x18_5 ∧ Aside0 (jC.j1 kq x1_1 a2 x7_1 x18_5 s0_0 x1001_1 x1002_1 = some (r1, r2, r3)) ∧ Aside0 (kq ≤ k1) ∧ Aside0 (IsS83 w0 wc g s0_0 x1001_1 x1002_1) ∧ Aside0 (KeepBut w wc g none) ∧ Aside0 (Below w0.heap.size w0 wc))
   case first =>
    have H := HC6.out
    clear HC6
    by_cases c7 : x7_1 > 0
    rotate_left
    ·rw [if_neg c7] at H
     have c7b0 : decide (0 < x7_1) = false := decide_eq_false c7
     clear c7
     (first | rw [c7b0] | (simp only [i64_w, i32_w]; rw [c7b0]) | rw [c7e] | skip)
     have H' := aM H
     clear H
     go_wp2
     repeat (go_quiet (fail); try go_wp2)
     go_meet
     case rel => exact ⟨_, (false), aP16, H', ⟨by have := HK1.out; first | omega | exact Nat.le_refl _⟩, ⟨aP0⟩, ⟨aP1⟩, ⟨aP2⟩⟩
    rw [if_pos c7] at H
    have c7b0 : decide (0 < x7_1) = true := decide_eq_true c7
    clear c7
    (first | rw [c7b0] | (simp only [i64_w, i32_w]; rw [c7b0]) | rw [c7e] | skip)
    have H' := aM H
    clear H
    go_wp2
    repeat (go_quiet (fail); try go_wp2)
    go_meet
    case rel => exact ⟨_, (decide ((x1_1.size : Int) > 0)), aP16, H', ⟨by have := HK1.out; first | omega | exact Nat.le_refl _⟩, ⟨aP0⟩, ⟨aP1⟩, ⟨aP2⟩⟩
   case rest =>
    clear HC6
    try clear p2
    try clear c7
    try clear c7b0
    try clear p2
    obtain ⟨kq, x18_5, rfl, HA, HJ5, HI0, HK, HB⟩ := hcut
    cases kq with
    | zero => exact absurd HA.out (by simp [jC.j1])
    | succ kj5 =>
     have H := HA.out
     clear HA
     simp only [jC.j1] at H
     by_cases c8 : x18_5 = true
     rotate_left
     ·replace c8 := Bool.eq_false_iff.mpr c8
      subst c8
      have H1 : (some (x1_1, x1001_1, x1002_1)) = some (r1, r2, r3) := by rw [if_neg (show ¬ (false = true) by decide)] at H; exact H
      clear H
      have H := H1
      clear H1
      simp only [Option.some.injEq, Prod.mk.injEq] at H
      obtain ⟨rfl, rfl, rfl⟩ := H
      go_wp2
      repeat (go_quiet (fail); try go_wp2)
      go_ret
      exact ⟨by first | rfl | (simp [errW_none, errW_some] <;> rfl) | (simp [errW_none, errW_some]; exact isE _) | (simp [*, errW_none, errW_some] <;> rfl), by (try simp only [Int.add_zero]); exact aP0, by exact aP2, aP1⟩
     subst c8
     have H1 : ((jD.f s0_0 x1001_1 x1002_1 (x1_1.size : Int)).bind fun bt197 => ((jD.f s0_0 bt197.2.1 bt197.2.2 (a2.size : Int)).bind fun bt200 => (if 0 ≤ bt200.1 then (if bt200.1 < (a2.size : Int) then ((some (([bt a2 bt200.1] : List Int) : List Int)).bind fun y203 => ((jD.f s0_0 bt200.2.1 bt200.2.2 3).bind fun bt206 => (if bt206.1 = 0 then (if 0 ≤ bt197.1 then (if bt197.1 ≤ (x1_1.size : Int) then (if (x1_1.extract 0 (bt197.1 : Int).toNat).size + (strOfNums y203).size ≤ 9223372036854775807 then (if ((x1_1.extract 0 (bt197.1 : Int).toNat) ++ (strOfNums y203)).size + (x1_1.extract (bt197.1 : Int).toNat x1_1.size).size ≤ 9223372036854775807 then (jC.l0 kj5 (((x1_1.extract 0 (bt197.1 : Int).toNat) ++ (strOfNums y203)) ++ (x1_1.extract (bt197.1 : Int).toNat x1_1.size)) a2 (wrap64 (x7_1 - 1)) s0_0 bt206.2.1 bt206.2.2) else (none)) else (none)) else (none)) else (none)) else (if bt206.1 = 1 then (if 0 ≤ bt197.1 then (if bt197.1 ≤ (x1_1.size : Int) then (if (x1_1.extract 0 (bt197.1 : Int).toNat).size + (strOfNums y203).size ≤ 9223372036854775807 then (if 0 ≤ (wrap64 (bt197.1 + 1)) then (if (wrap64 (bt197.1 + 1)) ≤ (x1_1.size : Int) then (if ((x1_1.extract 0 (bt197.1 : Int).toNat) ++ (strOfNums y203)).size + (x1_1.extract ((wrap64 (bt197.1 + 1)) : Int).toNat x1_1.size).size ≤ 9223372036854775807 then (jC.l0 kj5 (((x1_1.extract 0 (bt197.1 : Int).toNat) ++ (strOfNums y203)) ++ (x1_1.extract ((wrap64 (bt197.1 + 1)) : Int).toNat x1_1.size)) a2 (wrap64 (x7_1 - 1)) s0_0 bt206.2.1 bt206.2.2) else (none)) else (none)) else (none)) else (none)) else (none)) else (none)) else (if 0 ≤ bt197.1 then (if bt197.1 ≤ (x1_1.size : Int) then (if 0 ≤ (wrap64 (bt197.1 + 1)) then (if (wrap64 (bt197.1 + 1)) ≤ (x1_1.size : Int) then (if (x1_1.extract 0 (bt197.1 : Int).toNat).size + (x1_1.extract ((wrap64 (bt197.1 + 1)) : Int).toNat x1_1.size).size ≤ 9223372036854775807 then (jC.l0 kj5 ((x1_1.extract 0 (bt197.1 : Int).toNat) ++ (x1_1.extract ((wrap64 (bt197.1 + 1)) : Int).toNat x1_1.size)) a2 (wrap64 (x7_1 - 1)) s0_0 bt206.2.1 bt206.2.2) else (none)) else (none)) else (none)) else (none)) else (none)))))) else (none)) else (none)))) = some (r1, r2, r3) := by rw [if_pos rfl] at H; exact H
     clear H
     have H := H1
     clear H1
     replace H := Option.bind_eq_some_iff.mp H
     obtain ⟨⟨t197, t198, t199⟩, A90, H⟩ := H
     replace H : ((jD.f s0_0 t198 t199 (a2.size : Int)).bind fun bt200 => (if 0 ≤ bt200.1 then (if bt200.1 < (a2.size : Int) then ((some (([bt a2 bt200.1] : List Int) : List Int)).bind fun y203 => ((jD.f s0_0 bt200.2.1 bt200.2.2 3).bind fun bt206 => (if bt206.1 = 0 then (if 0 ≤ t197 then (if t197 ≤ (x1_1.size : Int) then (if (x1_1.extract 0 (t197 : Int).toNat).size + (strOfNums y203).size ≤ 9223372036854775807 then (if ((x1_1.extract 0 (t197 : Int).toNat) ++ (strOfNums y203)).size + (x1_1.extract (t197 : Int).toNat x1_1.size).size ≤ 9223372036854775807 then (jC.l0 kj5 (((x1_1.extract 0 (t197 : Int).toNat) ++ (strOfNums y203)) ++ (x1_1.extract (t197 : Int).toNat x1_1.size)) a2 (wrap64 (x7_1 - 1)) s0_0 bt206.2.1 bt206.2.2) else (none)) else (none)) else (none)) else (none)) else (if bt206.1 = 1 then (if 0 ≤ t197 then (if t197 ≤ (x1_1.size : Int) then (if (x1_1.extract 0 (t197 : Int).toNat).size + (strOfNums y203).size ≤ 9223372036854775807 then (if 0 ≤ (wrap64 (t197 + 1)) then (if (wrap64 (t197 + 1)) ≤ (x1_1.size : Int) then (if ((x1_1.extract 0 (t197 : Int).toNat) ++ (strOfNums y203)).size + (x1_1.extract ((wrap64 (t197 + 1)) : Int).toNat x1_1.size).size ≤ 9223372036854775807 then (jC.l0 kj5 (((x1_1.extract 0 (t197 : Int).toNat) ++ (strOfNums y203)) ++ (x1_1.extract ((wrap64 (t197 + 1)) : Int).toNat x1_1.size)) a2 (wrap64 (x7_1 - 1)) s0_0 bt206.2.1 bt206.2.2) else (none)) else (none)) else (none)) else (none)) else (none)) else (none)) else (if 0 ≤ t197 then (if t197 ≤ (x1_1.size : Int) then (if 0 ≤ (wrap64 (t197 + 1)) then (if (wrap64 (t197 + 1)) ≤ (x1_1.size : Int) then (if (x1_1.extract 0 (t197 : Int).toNat).size + (x1_1.extract ((wrap64 (t197 + 1)) : Int).toNat x1_1.size).size ≤ 9223372036854775807 then (jC.l0 kj5 ((x1_1.extract 0 (t197 : Int).toNat) ++ (x1_1.extract ((wrap64 (t197 + 1)) : Int).toNat x1_1.size)) a2 (wrap64 (x7_1 - 1)) s0_0 bt206.2.1 bt206.2.2) else (none)) else (none)) else (none)) else (none)) else (none)))))) else (none)) else (none))) = some (r1, r2, r3) := H
     have A9 := aM A90
     clear A90
     replace H := Option.bind_eq_some_iff.mp H
     obtain ⟨⟨t200, t201, t202⟩, A100, H⟩ := H
     replace H : (if 0 ≤ t200 then (if t200 < (a2.size : Int) then ((some (([bt a2 t200] : List Int) : List Int)).bind fun y203 => ((jD.f s0_0 t201 t202 3).bind fun bt206 => (if bt206.1 = 0 then (if 0 ≤ t197 then (if t197 ≤ (x1_1.size : Int) then (if (x1_1.extract 0 (t197 : Int).toNat).size + (strOfNums y203).size ≤ 9223372036854775807 then (if ((x1_1.extract 0 (t197 : Int).toNat) ++ (strOfNums y203)).size + (x1_1.extract (t197 : Int).toNat x1_1.size).size ≤ 9223372036854775807 then (jC.l0 kj5 (((x1_1.extract 0 (t197 : Int).toNat) ++ (strOfNums y203)) ++ (x1_1.extract (t197 : Int).toNat x1_1.size)) a2 (wrap64 (x7_1 - 1)) s0_0 bt206.2.1 bt206.2.2) else (none)) else (none)) else (none)) else (none)) else (if bt206.1 = 1 then (if 0 ≤ t197 then (if t197 ≤ (x1_1.size : Int) then (if (x1_1.extract 0 (t197 : Int).toNat).size + (strOfNums y203).size ≤ 9223372036854775807 then (if 0 ≤ (wrap64 (t197 + 1)) then (if (wrap64 (t197 + 1)) ≤ (x1_1.size : Int) then (if ((x1_1.extract 0 (t197 : Int).toNat) ++ (strOfNums y203)).size + (x1_1.extract ((wrap64 (t197 + 1)) : Int).toNat x1_1.size).size ≤ 9223372036854775807 then (jC.l0 kj5 (((x1_1.extract 0 (t197 : Int).toNat) ++ (strOfNums y203)) ++ (x1_1.extract ((wrap64 (t197 + 1)) : Int).toNat x1_1.size)) a2 (wrap64 (x7_1 - 1)) s0_0 bt206.2.1 bt206.2.2) else (none)) else (none)) else (none)) else (none)) else (none)) else (none)) else (if 0 ≤ t197 then (if t197 ≤ (x1_1.size : Int) then (if 0 ≤ (wrap64 (t197 + 1)) then (if (wrap64 (t197 + 1)) ≤ (x1_1.size : Int) then (if (x1_1.extract 0 (t197 : Int).toNat).size + (x1_1.extract ((wrap64 (t197 + 1)) : Int).toNat x1_1.size).size ≤ 9223372036854775807 then (jC.l0 kj5 ((x1_1.extract 0 (t197 : Int).toNat) ++ (x1_1.extract ((wrap64 (t197 + 1)) : Int).toNat x1_1.size)) a2 (wrap64 (x7_1 - 1)) s0_0 bt206.2.1 bt206.2.2) else (none)) else (none)) else (none)) else (none)) else (none)))))) else (none)) else (none)) = some (r1, r2, r3) := H
     have A10 := aM A100
     clear A100
     by_cases c11 : 0 ≤ t200
     rotate_left
     ·rw [if_neg c11] at H
      exact absurd H (by simp)
     rw [if_pos c11] at H
     have c11b0 : decide (0 ≤ t200) = true := decide_eq_true c11
     clear c11
     by_cases c12 : t200 < (a2.size : Int)
     rotate_left
     ·rw [if_neg c12] at H
      exact absurd H (by simp)
     rw [if_pos c12] at H
     have c12b0 : decide (t200 < (a2.size : Int)) = true := decide_eq_true c12
     clear c12
     obtain ⟨y203, hy203⟩ : ∃ y_ : List Int, y_ = (([bt a2 t200] : List Int)) := ⟨_, rfl⟩
     replace H : ((jD.f s0_0 t201 t202 3).bind fun bt206 => (if bt206.1 = 0 then (if 0 ≤ t197 then (if t197 ≤ (x1_1.size : Int) then (if (x1_1.extract 0 (t197 : Int).toNat).size + (strOfNums y203).size ≤ 9223372036854775807 then (if ((x1_1.extract 0 (t197 : Int).toNat) ++ (strOfNums y203)).size + (x1_1.extract (t197 : Int).toNat x1_1.size).size ≤ 9223372036854775807 then (jC.l0 kj5 (((x1_1.extract 0 (t197 : Int).toNat) ++ (strOfNums y203)) ++ (x1_1.extract (t197 : Int).toNat x1_1.size)) a2 (wrap64 (x7_1 - 1)) s0_0 bt206.2.1 bt206.2.2) else (none)) else (none)) else (none)) else (none)) else (if bt206.1 = 1 then (if 0 ≤ t197 then (if t197 ≤ (x1_1.size : Int) then (if (x1_1.extract 0 (t197 : Int).toNat).size + (strOfNums y203).size ≤ 9223372036854775807 then (if 0 ≤ (wrap64 (t197 + 1)) then (if (wrap64 (t197 + 1)) ≤ (x1_1.size : Int) then (if ((x1_1.extract 0 (t197 : Int).toNat) ++ (strOfNums y203)).size + (x1_1.extract ((wrap64 (t197 + 1)) : Int).toNat x1_1.size).size ≤ 9223372036854775807 then (jC.l0 kj5 (((x1_1.extract 0 (t197 : Int).toNat) ++ (strOfNums y203)) ++ (x1_1.extract ((wrap64 (t197 + 1)) : Int).toNat x1_1.size)) a2 (wrap64 (x7_1 - 1)) s0_0 bt206.2.1 bt206.2.2) else (none)) else (none)) else (none)) else (none)) else (none)) else (none)) else (if 0 ≤ t197 then (if t197 ≤ (x1_1.size : Int) then (if 0 ≤ (wrap64 (t197 + 1)) then (if (wrap64 (t197 + 1)) ≤ (x1_1.size : Int) then (if (x1_1.extract 0 (t197 : Int).toNat).size + (x1_1.extract ((wrap64 (t197 + 1)) : Int).toNat x1_1.size).size ≤ 9223372036854775807 then (jC.l0 kj5 ((x1_1.extract 0 (t197 : Int).toNat) ++ (x1_1.extract ((wrap64 (t197 + 1)) : Int).toNat x1_1.size)) a2 (wrap64 (x7_1 - 1)) s0_0 bt206.2.1 bt206.2.2) else (none)) else (none)) else (none)) else (none)) else (none))))) = some (r1, r2, r3) := by first | (rw [hy203]; with_reducible exact H) | (have H2_ := (Option.bind_some _ _).symm.trans H; rw [hy203]; with_reducible exact H2_) | (have H2_ := (Option.bind_some _ _).symm.trans H; with_reducible exact H2_) | with_reducible exact H | (rw [hy203]; exact H) | exact H
     have Ny203 := aM hy203
     clear hy203
     replace H := Option.bind_eq_some_iff.mp H
     obtain ⟨⟨t206, t207, t208⟩, A140, H⟩ := H
     replace H : (if t206 = 0 then (if 0 ≤ t197 then (if t197 ≤ (x1_1.size : Int) then (if (x1_1.extract 0 (t197 : Int).toNat).size + (strOfNums y203).size ≤ 9223372036854775807 then (if ((x1_1.extract 0 (t197 : Int).toNat) ++ (strOfNums y203)).size + (x1_1.extract (t197 : Int).toNat x1_1.size).size ≤ 9223372036854775807 then (jC.l0 kj5 (((x1_1.extract 0 (t197 : Int).toNat) ++ (strOfNums y203)) ++ (x1_1.extract (t197 : Int).toNat x1_1.size)) a2 (wrap64 (x7_1 - 1)) s0_0 t207 t208) else (none)) else (none)) else (none)) else (none)) else (if t206 = 1 then (if 0 ≤ t197 then (if t197 ≤ (x1_1.size : Int) then (if (x1_1.extract 0 (t197 : Int).toNat).size + (strOfNums y203).size ≤ 9223372036854775807 then (if 0 ≤ (wrap64 (t197 + 1)) then (if (wrap64 (t197 + 1)) ≤ (x1_1.size : Int) then (if ((x1_1.extract 0 (t197 : Int).toNat) ++ (strOfNums y203)).size + (x1_1.extract ((wrap64 (t197 + 1)) : Int).toNat x1_1.size).size ≤ 9223372036854775807 then (jC.l0 kj5 (((x1_1.extract 0 (t197 : Int).toNat) ++ (strOfNums y203)) ++ (x1_1.extract ((wrap64 (t197 + 1)) : Int).toNat x1_1.size)) a2 (wrap64 (x7_1 - 1)) s0_0 t207 t208) else (none)) else (none)) else (none)) else (none)) else (none)) else (none)) else (if 0 ≤ t197 then (if t197 ≤ (x1_1.size : Int) then (if 0 ≤ (wrap64 (t197 + 1)) then (if (wrap64 (t197 + 1)) ≤ (x1_1.size : Int) then (if (x1_1.extract 0 (t197 : Int).toNat).size + (x1_1.extract ((wrap64 (t197 + 1)) : Int).toNat x1_1.size).size ≤ 9223372036854775807 then (jC.l0 kj5 ((x1_1.extract 0 (t197 : Int).toNat) ++ (x1_1.extract ((wrap64 (t197 + 1)) : Int).toNat x1_1.size)) a2 (wrap64 (x7_1 - 1)) s0_0 t207 t208) else (none)) else (none)) else (none)) else (none)) else (none)))) = some (r1, r2, r3) := H
     have A14 := aM A140
     clear A140
     by_cases c15 : t206 = 0
     ·rw [if_pos c15] at H
      have c15b0 : (t206 == 0) = true := beq_iff_eq.mpr c15
      have c15b1 : (t206 != 0) = false := bne_eq_false_iff_eq.mpr c15
      clear c15
      by_cases c16 : 0 ≤ t197
      rotate_left
      ·rw [if_neg c16] at H
       exact absurd H (by simp)
      rw [if_pos c16] at H
      have c16b0 := eq_true c16
      have c16b1 : decide (0 ≤ t197) = true := decide_eq_true c16
      clear c16
      by_cases c17 : t197 ≤ (x1_1.size : Int)
      rotate_left
      ·rw [if_neg c17] at H
       exact absurd H (by simp)
      rw [if_pos c17] at H
      have c17b0 := eq_true c17
      have c17b1 : decide (t197 ≤ (x1_1.size : Int)) = true := decide_eq_true c17
      clear c17
      by_cases c18 : (x1_1.extract 0 (t197 : Int).toNat).size + (strOfNums y203).size ≤ 9223372036854775807
      rotate_left
      ·rw [if_neg c18] at H
       exact absurd H (by simp)
      rw [if_pos c18] at H
      have c18b0 := eq_true c18
      have c18b1 : decide ((x1_1.extract 0 (t197 : Int).toNat).size + (strOfNums y203).size ≤ 9223372036854775807) = true := decide_eq_true c18
      try have c18b2 : (9223372036854775807 < (x1_1.extract 0 (t197 : Int).toNat).size + (strOfNums y203).size) = False := eq_false (Nat.not_lt.2 c18)
      have c19b0 := eq_true (of_decide_eq_true (by assumption) : 0 ≤ t197)
      have c20b0 := eq_true (of_decide_eq_true (by assumption) : t197 ≤ (x1_1.size : Int))
      by_cases c21 : ((x1_1.extract 0 (t197 : Int).toNat) ++ (strOfNums y203)).size + (x1_1.extract (t197 : Int).toNat x1_1.size).size ≤ 9223372036854775807
      rotate_left
      ·rw [if_neg c21] at H
       exact absurd H (by simp)
      rw [if_pos c21] at H
      have c21b0 := eq_true c21
      have c21b1 : decide (((x1_1.extract 0 (t197 : Int).toNat) ++ (strOfNums y203)).size + (x1_1.extract (t197 : Int).toNat x1_1.size).size ≤ 9223372036854775807) = true := decide_eq_true c21
      try have c21b2 : (9223372036854775807 < ((x1_1.extract 0 (t197 : Int).toNat) ++ (strOfNums y203)).size + (x1_1.extract (t197 : Int).toNat x1_1.size).size) = False := eq_false (Nat.not_lt.2 c21)
      try have c21s := eq_false (Nat.not_lt.2 c21)
      try simp only [ByteArray.size_append] at c21s
      have H' := aM H
      clear H
      go_wp2_with (first | (go_at_call 74; (with_reducible refine (jD.calls g s0_0 x1001_1 x1002_1 (x1_1.size : Int) t197 t198 t199 w0 _ ?side1 ?side2 A9.out).mono ?_); (case side1 => exact aP0); (case side2 => exact aP2); rintro e w22 ⟨rfl, hi, hb, hk⟩; have n0_ := aM (KeepBut.trans aP1 hk (.inl rfl)); have n1_ := aM (hb); have n2_ := aM (hi); clear HK; clear HB; clear HI0; have HK := n0_; have HB := n1_; have HI0 := n2_; clear n0_ n1_ n2_; (try clear hb); (try clear hb2); (try clear hk); (try clear hi)) | (go_at_call 74; (with_reducible refine (jD.calls g s0_0 t198 t199 (a2.size : Int) t200 t201 t202 w0 _ ?side1 ?side2 A10.out).mono ?_); (case side1 => exact aP0); (case side2 => exact aP2); rintro e w23 ⟨rfl, hi, hb, hk⟩; have n0_ := aM (KeepBut.trans aP1 hk (.inl rfl)); have n1_ := aM (hb); have n2_ := aM (hi); clear HK; clear HB; clear HI0; have HK := n0_; have HB := n1_; have HI0 := n2_; clear n0_ n1_ n2_; (try clear hb); (try clear hb2); (try clear hk); (try clear hi); have p13 : 0 ≤ (t200 : Int) := of_decide_eq_true (by assumption); have q13 : t200 < (a2.size : Int) := of_decide_eq_true (by assumption); have hx13 := bt_at a2 t200; replace p13 := eq_true p13; replace q13 := eq_true q13) | ((with_reducible refine gate_dst (N := 31) rfl ?_); (try (refine gate_guard (by rfl) ?_; dsimp only)); refine Kd.R_lit (Kd.int .u8) _ 5 ?hg (N := 31) ?hd (xs := ([bt a2 t200] : List Int)) (inner := [.int .u8 (bt a2 t200)]) (ok := fun _ => True) (okp := fun _ => True) ?hr ?hp (fun _ hk => hk) trivial (Below.refl _ _) (Nat.le_refl _) (by simp) ?_; (case hd => rfl); (case hg => rfl); (case hr => exact aP21); (case hp => exact (Reps.one (show Kd.M (Kd.int .u8) _ _ _ (bt a2 t200) [.int .u8 (bt a2 t200)] from rfl) (Reps.none _ _))); intro v204 w24 ho25 hb hg_ hnew_; clear hg_ hnew_; (first | rw [← Ny203.out] at ho25 | (simp only [Int.reduceToNat] at ho25; rw [← Ny203.out] at ho25)); have n0_ := aM (Kd.R_lower ho25 (keep_size (w := w) (g := g) (row := none) aP1)); have n1_ := aM (IsS83.below aP0 hb); have n2_ := aM (KeepBut.trans aP1 (KeepBut.of_below hb g none) (.inl rfl)); have n3_ := aM (below_step aP2 hb); clear HI0; clear HK; clear HB; have HO205 := n0_; have HI0 := n1_; have HK := n2_; have HB := n3_; clear n0_ n1_ n2_ n3_; clear hb ho25; have hcv26 := own_string (P := Try.prog) Try.underlying43 Try.underlying5 Try.underlying9 (Kd.own_of_R HO205.out)) | (go_at_call 74; (with_reducible refine (jD.calls g s0_0 t201 t202 3 t206 t207 t208 w0 _ ?side1 ?side2 A14.out).mono ?_); (case side1 => exact aP0); (case side2 => exact aP2); rintro e w27 ⟨rfl, hi, hb, hk⟩; have n0_ := aM (Kd.R_mono (Kd.R_keep (IsS83.apart (show IsS83 w0 _ g s0_0 t201 t202 from aP0) (rR HO205.out) (by decide)) hk (fun _ h => h.2)) (fun _ h => h.1)); have n1_ := aM (KeepBut.trans aP1 hk (.inl rfl)); have n2_ := aM (hb); have n3_ := aM (hi); clear HO205; clear HK; clear HB; clear HI0; have HO205 := n0_; have HK := n1_; have HB := n2_; have HI0 := n3_; clear n0_ n1_ n2_ n3_; (try clear hb); (try clear hb2); (try clear hk); (try clear hi)))
      repeat (go_quiet (first | (go_at_call 74; (with_reducible refine (jD.calls g s0_0 x1001_1 x1002_1 (x1_1.size : Int) t197 t198 t199 w0 _ ?side1 ?side2 A9.out).mono ?_); (case side1 => exact aP0); (case side2 => exact aP2); rintro e w22 ⟨rfl, hi, hb, hk⟩; have n0_ := aM (KeepBut.trans aP1 hk (.inl rfl)); have n1_ := aM (hb); have n2_ := aM (hi); clear HK; clear HB; clear HI0; have HK := n0_; have HB := n1_; have HI0 := n2_; clear n0_ n1_ n2_; (try clear hb); (try clear hb2); (try clear hk); (try clear hi)) | (go_at_call 74; (with_reducible refine (jD.calls g s0_0 t198 t199 (a2.size : Int) t200 t201 t202 w0 _ ?side1 ?side2 A10.out).mono ?_); (case side1 => exact aP0); (case side2 => exact aP2); rintro e w23 ⟨rfl, hi, hb, hk⟩; have n0_ := aM (KeepBut.trans aP1 hk (.inl rfl)); have n1_ := aM (hb); have n2_ := aM (hi); clear HK; clear HB; clear HI0; have HK := n0_; have HB := n1_; have HI0 := n2_; clear n0_ n1_ n2_; (try clear hb); (try clear hb2); (try clear hk); (try clear hi); have p13 : 0 ≤ (t200 : Int) := of_decide_eq_true (by assumption); have q13 : t200 < (a2.size : Int) := of_decide_eq_true (by assumption); have hx13 := bt_at a2 t200; replace p13 := eq_true p13; replace q13 := eq_true q13) | ((with_reducible refine gate_dst (N := 31) rfl ?_); (try (refine gate_guard (by rfl) ?_; dsimp only)); refine Kd.R_lit (Kd.int .u8) _ 5 ?hg (N := 31) ?hd (xs := ([bt a2 t200] : List Int)) (inner := [.int .u8 (bt a2 t200)]) (ok := fun _ => True) (okp := fun _ => True) ?hr ?hp (fun _ hk => hk) trivial (Below.refl _ _) (Nat.le_refl _) (by simp) ?_; (case hd => rfl); (case hg => rfl); (case hr => exact aP21); (case hp => exact (Reps.one (show Kd.M (Kd.int .u8) _ _ _ (bt a2 t200) [.int .u8 (bt a2 t200)] from rfl) (Reps.none _ _))); intro v204 w24 ho25 hb hg_ hnew_; clear hg_ hnew_; (first | rw [← Ny203.out] at ho25 | (simp only [Int.reduceToNat] at ho25; rw [← Ny203.out] at ho25)); have n0_ := aM (Kd.R_lower ho25 (keep_size (w := w) (g := g) (row := none) aP1)); have n1_ := aM (IsS83.below aP0 hb); have n2_ := aM (KeepBut.trans aP1 (KeepBut.of_below hb g none) (.inl rfl)); have n3_ := aM (below_step aP2 hb); clear HI0; clear HK; clear HB; have HO205 := n0_; have HI0 := n1_; have HK := n2_; have HB := n3_; clear n0_ n1_ n2_ n3_; clear hb ho25; have hcv26 := own_string (P := Try.prog) Try.underlying43 Try.underlying5 Try.underlying9 (Kd.own_of_R HO205.out)) | (go_at_call 74; (with_reducible refine (jD.calls g s0_0 t201 t202 3 t206 t207 t208 w0 _ ?side1 ?side2 A14.out).mono ?_); (case side1 => exact aP0); (case side2 => exact aP2); rintro e w27 ⟨rfl, hi, hb, hk⟩; have n0_ := aM (Kd.R_mono (Kd.R_keep (IsS83.apart (show IsS83 w0 _ g s0_0 t201 t202 from aP0) (rR HO205.out) (by decide)) hk (fun _ h => h.2)) (fun _ h => h.1)); have n1_ := aM (KeepBut.trans aP1 hk (.inl rfl)); have n2_ := aM (hb); have n3_ := aM (hi); clear HO205; clear HK; clear HB; clear HI0; have HO205 := n0_; have HK := n1_; have HB := n2_; have HI0 := n3_; clear n0_ n1_ n2_ n3_; (try clear hb); (try clear hb2); (try clear hk); (try clear hi))); try go_wp2_with (first | (go_at_call 74; (with_reducible refine (jD.calls g s0_0 x1001_1 x1002_1 (x1_1.size : Int) t197 t198 t199 w0 _ ?side1 ?side2 A9.out).mono ?_); (case side1 => exact aP0); (case side2 => exact aP2); rintro e w22 ⟨rfl, hi, hb, hk⟩; have n0_ := aM (KeepBut.trans aP1 hk (.inl rfl)); have n1_ := aM (hb); have n2_ := aM (hi); clear HK; clear HB; clear HI0; have HK := n0_; have HB := n1_; have HI0 := n2_; clear n0_ n1_ n2_; (try clear hb); (try clear hb2); (try clear hk); (try clear hi)) | (go_at_call 74; (with_reducible refine (jD.calls g s0_0 t198 t199 (a2.size : Int) t200 t201 t202 w0 _ ?side1 ?side2 A10.out).mono ?_); (case side1 => exact aP0); (case side2 => exact aP2); rintro e w23 ⟨rfl, hi, hb, hk⟩; have n0_ := aM (KeepBut.trans aP1 hk (.inl rfl)); have n1_ := aM (hb); have n2_ := aM (hi); clear HK; clear HB; clear HI0; have HK := n0_; have HB := n1_; have HI0 := n2_; clear n0_ n1_ n2_; (try clear hb); (try clear hb2); (try clear hk); (try clear hi); have p13 : 0 ≤ (t200 : Int) := of_decide_eq_true (by assumption); have q13 : t200 < (a2.size : Int) := of_decide_eq_true (by assumption); have hx13 := bt_at a2 t200; replace p13 := eq_true p13; replace q13 := eq_true q13) | ((with_reducible refine gate_dst (N := 31) rfl ?_); (try (refine gate_guard (by rfl) ?_; dsimp only)); refine Kd.R_lit (Kd.int .u8) _ 5 ?hg (N := 31) ?hd (xs := ([bt a2 t200] : List Int)) (inner := [.int .u8 (bt a2 t200)]) (ok := fun _ => True) (okp := fun _ => True) ?hr ?hp (fun _ hk => hk) trivial (Below.refl _ _) (Nat.le_refl _) (by simp) ?_; (case hd => rfl); (case hg => rfl); (case hr => exact aP21); (case hp => exact (Reps.one (show Kd.M (Kd.int .u8) _ _ _ (bt a2 t200) [.int .u8 (bt a2 t200)] from rfl) (Reps.none _ _))); intro v204 w24 ho25 hb hg_ hnew_; clear hg_ hnew_; (first | rw [← Ny203.out] at ho25 | (simp only [Int.reduceToNat] at ho25; rw [← Ny203.out] at ho25)); have n0_ := aM (Kd.R_lower ho25 (keep_size (w := w) (g := g) (row := none) aP1)); have n1_ := aM (IsS83.below aP0 hb); have n2_ := aM (KeepBut.trans aP1 (KeepBut.of_below hb g none) (.inl rfl)); have n3_ := aM (below_step aP2 hb); clear HI0; clear HK; clear HB; have HO205 := n0_; have HI0 := n1_; have HK := n2_; have HB := n3_; clear n0_ n1_ n2_ n3_; clear hb ho25; have hcv26 := own_string (P := Try.prog) Try.underlying43 Try.underlying5 Try.underlying9 (Kd.own_of_R HO205.out)) | (go_at_call 74; (with_reducible refine (jD.calls g s0_0 t201 t202 3 t206 t207 t208 w0 _ ?side1 ?side2 A14.out).mono ?_); (case side1 => exact aP0); (case side2 => exact aP2); rintro e w27 ⟨rfl, hi, hb, hk⟩; have n0_ := aM (Kd.R_mono (Kd.R_keep (IsS83.apart (show IsS83 w0 _ g s0_0 t201 t202 from aP0) (rR HO205.out) (by decide)) hk (fun _ h => h.2)) (fun _ h => h.1)); have n1_ := aM (KeepBut.trans aP1 hk (.inl rfl)); have n2_ := aM (hb); have n3_ := aM (hi); clear HO205; clear HK; clear HB; clear HI0; have HO205 := n0_; have HK := n1_; have HB := n2_; have HI0 := n3_; clear n0_ n1_ n2_ n3_; (try clear hb); (try clear hb2); (try clear hk); (try clear hi))))
      go_roundg kj5
      case measure => have := HK1.out; have := HJ5.out; omega
      case rel => exact ⟨(((x1_1.extract 0 (t197 : Int).toNat) ++ (strOfNums y203)) ++ (x1_1.extract (t197 : Int).toNat x1_1.size)), (wrap64 (x7_1 - 1)), (t207), (t208), aP16, aP16, H', ⟨by have := HK1.out; have := HJ5.out; omega⟩, ⟨aP0⟩, ⟨aP1⟩, ⟨aP2⟩⟩
     rw [if_neg c15] at H
     have c15b0 : (t206 == 0) = false := beq_eq_false_iff_ne.mpr c15
     have c15b1 : (t206 != 0) = true := bne_iff_ne.mpr c15
     by_cases c28 : t206 = 1
     rotate_left
     ·rw [if_neg c28] at H
      have c28b0 : (t206 == 1) = false := beq_eq_false_iff_ne.mpr c28
      have c28b1 : (t206 != 1) = true := bne_iff_ne.mpr c28
      by_cases c42 : 0 ≤ t197
      rotate_left
      ·rw [if_neg c42] at H
       exact absurd H (by simp)
      rw [if_pos c42] at H
      have c42b0 := eq_true c42
      have c42b1 : decide (0 ≤ t197) = true := decide_eq_true c42
      clear c42
      by_cases c43 : t197 ≤ (x1_1.size : Int)
      rotate_left
      ·rw [if_neg c43] at H
       exact absurd H (by simp)
      rw [if_pos c43] at H
      have c43b0 := eq_true c43
      have c43b1 : decide (t197 ≤ (x1_1.size : Int)) = true := decide_eq_true c43
      clear c43
      obtain ⟨ji44, hji44⟩ : ∃ j_ : Int, (wrap64 (t197 + 1)) = j_ := ⟨_, rfl⟩
      replace H : (if 0 ≤ (ji44) then (if (ji44) ≤ (x1_1.size : Int) then (if (x1_1.extract 0 (t197 : Int).toNat).size + (x1_1.extract ((ji44) : Int).toNat x1_1.size).size ≤ 9223372036854775807 then (jC.l0 kj5 ((x1_1.extract 0 (t197 : Int).toNat) ++ (x1_1.extract ((ji44) : Int).toNat x1_1.size)) a2 (wrap64 (x7_1 - 1)) s0_0 t207 t208) else (none)) else (none)) else (none)) = some (r1, r2, r3) := by first | (rw [hji44] at H; exact H) | (simp only [hji44] at H ⊢; exact H)
      (try rw [hji44] at A9)
      (try rw [hji44] at A10)
      (try rw [hji44] at A14)
      have hji44w : (IntKind.i64.wrap (t197 + 1)) = ji44 := (i64_w _).trans hji44
      by_cases c45 : 0 ≤ (ji44)
      rotate_left
      ·rw [if_neg c45] at H
       exact absurd H (by simp)
      rw [if_pos c45] at H
      have c45b0 := eq_true c45
      have c45b1 : decide (0 ≤ (ji44)) = true := decide_eq_true c45
      clear c45
      by_cases c46 : (ji44) ≤ (x1_1.size : Int)
      rotate_left
      ·rw [if_neg c46] at H
       exact absurd H (by simp)
      rw [if_pos c46] at H
      have c46b0 := eq_true c46
      have c46b1 : decide ((ji44) ≤ (x1_1.size : Int)) = true := decide_eq_true c46
      clear c46
      by_cases c47 : (x1_1.extract 0 (t197 : Int).toNat).size + (x1_1.extract ((ji44) : Int).toNat x1_1.size).size ≤ 9223372036854775807
      rotate_left
      ·rw [if_neg c47] at H
       exact absurd H (by simp)
      rw [if_pos c47] at H
      have c47b0 := eq_true c47
      have c47b1 : decide ((x1_1.extract 0 (t197 : Int).toNat).size + (x1_1.extract ((ji44) : Int).toNat x1_1.size).size ≤ 9223372036854775807) = true := decide_eq_true c47
      try have c47b2 : (9223372036854775807 < (x1_1.extract 0 (t197 : Int).toNat).size + (x1_1.extract ((ji44) : Int).toNat x1_1.size).size) = False := eq_false (Nat.not_lt.2 c47)
      try have c47v : (9223372036854775807 < t197.toNat + (x1_1.size - ji44.toNat)) = False := eq_false (by have h_ := c47; have k_ := of_eq_true c43b0; simp only [ByteArray.size_extract] at h_; omega)
      have H' := aM H
      clear H
      go_wp2_with (first | (go_at_call 74; (with_reducible refine (jD.calls g s0_0 x1001_1 x1002_1 (x1_1.size : Int) t197 t198 t199 w0 _ ?side1 ?side2 A9.out).mono ?_); (case side1 => exact aP0); (case side2 => exact aP2); rintro e w48 ⟨rfl, hi, hb, hk⟩; have n0_ := aM (KeepBut.trans aP1 hk (.inl rfl)); have n1_ := aM (hb); have n2_ := aM (hi); clear HK; clear HB; clear HI0; have HK := n0_; have HB := n1_; have HI0 := n2_; clear n0_ n1_ n2_; (try clear hb); (try clear hb2); (try clear hk); (try clear hi)) | (go_at_call 74; (with_reducible refine (jD.calls g s0_0 t198 t199 (a2.size : Int) t200 t201 t202 w0 _ ?side1 ?side2 A10.out).mono ?_); (case side1 => exact aP0); (case side2 => exact aP2); rintro e w49 ⟨rfl, hi, hb, hk⟩; have n0_ := aM (KeepBut.trans aP1 hk (.inl rfl)); have n1_ := aM (hb); have n2_ := aM (hi); clear HK; clear HB; clear HI0; have HK := n0_; have HB := n1_; have HI0 := n2_; clear n0_ n1_ n2_; (try clear hb); (try clear hb2); (try clear hk); (try clear hi); have p13 : 0 ≤ (t200 : Int) := of_decide_eq_true (by assumption); have q13 : t200 < (a2.size : Int) := of_decide_eq_true (by assumption); have hx13 := bt_at a2 t200; replace p13 := eq_true p13; replace q13 := eq_true q13) | ((with_reducible refine gate_dst (N := 31) rfl ?_); (try (refine gate_guard (by rfl) ?_; dsimp only)); refine Kd.R_lit (Kd.int .u8) _ 5 ?hg (N := 31) ?hd (xs := ([bt a2 t200] : List Int)) (inner := [.int .u8 (bt a2 t200)]) (ok := fun _ => True) (okp := fun _ => True) ?hr ?hp (fun _ hk => hk) trivial (Below.refl _ _) (Nat.le_refl _) (by simp) ?_; (case hd => rfl); (case hg => rfl); (case hr => exact aP21); (case hp => exact (Reps.one (show Kd.M (Kd.int .u8) _ _ _ (bt a2 t200) [.int .u8 (bt a2 t200)] from rfl) (Reps.none _ _))); intro v204 w50 ho51 hb hg_ hnew_; clear hg_ hnew_; (first | rw [← Ny203.out] at ho51 | (simp only [Int.reduceToNat] at ho51; rw [← Ny203.out] at ho51)); have n0_ := aM (Kd.R_lower ho51 (keep_size (w := w) (g := g) (row := none) aP1)); have n1_ := aM (IsS83.below aP0 hb); have n2_ := aM (KeepBut.trans aP1 (KeepBut.of_below hb g none) (.inl rfl)); have n3_ := aM (below_step aP2 hb); clear HI0; clear HK; clear HB; have HO205 := n0_; have HI0 := n1_; have HK := n2_; have HB := n3_; clear n0_ n1_ n2_ n3_; clear hb ho51; have hcv52 := own_string (P := Try.prog) Try.underlying43 Try.underlying5 Try.underlying9 (Kd.own_of_R HO205.out)) | (go_at_call 74; (with_reducible refine (jD.calls g s0_0 t201 t202 3 t206 t207 t208 w0 _ ?side1 ?side2 A14.out).mono ?_); (case side1 => exact aP0); (case side2 => exact aP2); rintro e w53 ⟨rfl, hi, hb, hk⟩; have n0_ := aM (Kd.R_mono (Kd.R_keep (IsS83.apart (show IsS83 w0 _ g s0_0 t201 t202 from aP0) (rR HO205.out) (by decide)) hk (fun _ h => h.2)) (fun _ h => h.1)); have n1_ := aM (KeepBut.trans aP1 hk (.inl rfl)); have n2_ := aM (hb); have n3_ := aM (hi); clear HO205; clear HK; clear HB; clear HI0; have HO205 := n0_; have HK := n1_; have HB := n2_; have HI0 := n3_; clear n0_ n1_ n2_ n3_; (try clear hb); (try clear hb2); (try clear hk); (try clear hi)))
      repeat (go_quiet (first | (go_at_call 74; (with_reducible refine (jD.calls g s0_0 x1001_1 x1002_1 (x1_1.size : Int) t197 t198 t199 w0 _ ?side1 ?side2 A9.out).mono ?_); (case side1 => exact aP0); (case side2 => exact aP2); rintro e w48 ⟨rfl, hi, hb, hk⟩; have n0_ := aM (KeepBut.trans aP1 hk (.inl rfl)); have n1_ := aM (hb); have n2_ := aM (hi); clear HK; clear HB; clear HI0; have HK := n0_; have HB := n1_; have HI0 := n2_; clear n0_ n1_ n2_; (try clear hb); (try clear hb2); (try clear hk); (try clear hi)) | (go_at_call 74; (with_reducible refine (jD.calls g s0_0 t198 t199 (a2.size : Int) t200 t201 t202 w0 _ ?side1 ?side2 A10.out).mono ?_); (case side1 => exact aP0); (case side2 => exact aP2); rintro e w49 ⟨rfl, hi, hb, hk⟩; have n0_ := aM (KeepBut.trans aP1 hk (.inl rfl)); have n1_ := aM (hb); have n2_ := aM (hi); clear HK; clear HB; clear HI0; have HK := n0_; have HB := n1_; have HI0 := n2_; clear n0_ n1_ n2_; (try clear hb); (try clear hb2); (try clear hk); (try clear hi); have p13 : 0 ≤ (t200 : Int) := of_decide_eq_true (by assumption); have q13 : t200 < (a2.size : Int) := of_decide_eq_true (by assumption); have hx13 := bt_at a2 t200; replace p13 := eq_true p13; replace q13 := eq_true q13) | ((with_reducible refine gate_dst (N := 31) rfl ?_); (try (refine gate_guard (by rfl) ?_; dsimp only)); refine Kd.R_lit (Kd.int .u8) _ 5 ?hg (N := 31) ?hd (xs := ([bt a2 t200] : List Int)) (inner := [.int .u8 (bt a2 t200)]) (ok := fun _ => True) (okp := fun _ => True) ?hr ?hp (fun _ hk => hk) trivial (Below.refl _ _) (Nat.le_refl _) (by simp) ?_; (case hd => rfl); (case hg => rfl); (case hr => exact aP21); (case hp => exact (Reps.one (show Kd.M (Kd.int .u8) _ _ _ (bt a2 t200) [.int .u8 (bt a2 t200)] from rfl) (Reps.none _ _))); intro v204 w50 ho51 hb hg_ hnew_; clear hg_ hnew_; (first | rw [← Ny203.out] at ho51 | (simp only [Int.reduceToNat] at ho51; rw [← Ny203.out] at ho51)); have n0_ := aM (Kd.R_lower ho51 (keep_size (w := w) (g := g) (row := none) aP1)); have n1_ := aM (IsS83.below aP0 hb); have n2_ := aM (KeepBut.trans aP1 (KeepBut.of_below hb g none) (.inl rfl)); have n3_ := aM (below_step aP2 hb); clear HI0; clear HK; clear HB; have HO205 := n0_; have HI0 := n1_; have HK := n2_; have HB := n3_; clear n0_ n1_ n2_ n3_; clear hb ho51; have hcv52 := own_string (P := Try.prog) Try.underlying43 Try.underlying5 Try.underlying9 (Kd.own_of_R HO205.out)) | (go_at_call 74; (with_reducible refine (jD.calls g s0_0 t201 t202 3 t206 t207 t208 w0 _ ?side1 ?side2 A14.out).mono ?_); (case side1 => exact aP0); (case side2 => exact aP2); rintro e w53 ⟨rfl, hi, hb, hk⟩; have n0_ := aM (Kd.R_mono (Kd.R_keep (IsS83.apart (show IsS83 w0 _ g s0_0 t201 t202 from aP0) (rR HO205.out) (by decide)) hk (fun _ h => h.2)) (fun _ h => h.1)); have n1_ := aM (KeepBut.trans aP1 hk (.inl rfl)); have n2_ := aM (hb); have n3_ := aM (hi); clear HO205; clear HK; clear HB; clear HI0; have HO205 := n0_; have HK := n1_; have HB := n2_; have HI0 := n3_; clear n0_ n1_ n2_ n3_; (try clear hb); (try clear hb2); (try clear hk); (try clear hi))); try go_wp2_with (first | (go_at_call 74; (with_reducible refine (jD.calls g s0_0 x1001_1 x1002_1 (x1_1.size : Int) t197 t198 t199 w0 _ ?side1 ?side2 A9.out).mono ?_); (case side1 => exact aP0); (case side2 => exact aP2); rintro e w48 ⟨rfl, hi, hb, hk⟩; have n0_ := aM (KeepBut.trans aP1 hk (.inl rfl)); have n1_ := aM (hb); have n2_ := aM (hi); clear HK; clear HB; clear HI0; have HK := n0_; have HB := n1_; have HI0 := n2_; clear n0_ n1_ n2_; (try clear hb); (try clear hb2); (try clear hk); (try clear hi)) | (go_at_call 74; (with_reducible refine (jD.calls g s0_0 t198 t199 (a2.size : Int) t200 t201 t202 w0 _ ?side1 ?side2 A10.out).mono ?_); (case side1 => exact aP0); (case side2 => exact aP2); rintro e w49 ⟨rfl, hi, hb, hk⟩; have n0_ := aM (KeepBut.trans aP1 hk (.inl rfl)); have n1_ := aM (hb); have n2_ := aM (hi); clear HK; clear HB; clear HI0; have HK := n0_; have HB := n1_; have HI0 := n2_; clear n0_ n1_ n2_; (try clear hb); (try clear hb2); (try clear hk); (try clear hi); have p13 : 0 ≤ (t200 : Int) := of_decide_eq_true (by assumption); have q13 : t200 < (a2.size : Int) := of_decide_eq_true (by assumption); have hx13 := bt_at a2 t200; replace p13 := eq_true p13; replace q13 := eq_true q13) | ((with_reducible refine gate_dst (N := 31) rfl ?_); (try (refine gate_guard (by rfl) ?_; dsimp only)); refine Kd.R_lit (Kd.int .u8) _ 5 ?hg (N := 31) ?hd (xs := ([bt a2 t200] : List Int)) (inner := [.int .u8 (bt a2 t200)]) (ok := fun _ => True) (okp := fun _ => True) ?hr ?hp (fun _ hk => hk) trivial (Below.refl _ _) (Nat.le_refl _) (by simp) ?_; (case hd => rfl); (case hg => rfl); (case hr => exact aP21); (case hp => exact (Reps.one (show Kd.M (Kd.int .u8) _ _ _ (bt a2 t200) [.int .u8 (bt a2 t200)] from rfl) (Reps.none _ _))); intro v204 w50 ho51 hb hg_ hnew_; clear hg_ hnew_; (first | rw [← Ny203.out] at ho51 | (simp only [Int.reduceToNat] at ho51; rw [← Ny203.out] at ho51)); have n0_ := aM (Kd.R_lower ho51 (keep_size (w := w) (g := g) (row := none) aP1)); have n1_ := aM (IsS83.below aP0 hb); have n2_ := aM (KeepBut.trans aP1 (KeepBut.of_below hb g none) (.inl rfl)); have n3_ := aM (below_step aP2 hb); clear HI0; clear HK; clear HB; have HO205 := n0_; have HI0 := n1_; have HK := n2_; have HB := n3_; clear n0_ n1_ n2_ n3_; clear hb ho51; have hcv52 := own_string (P := Try.prog) Try.underlying43 Try.underlying5 Try.underlying9 (Kd.own_of_R HO205.out)) | (go_at_call 74; (with_reducible refine (jD.calls g s0_0 t201 t202 3 t206 t207 t208 w0 _ ?side1 ?side2 A14.out).mono ?_); (case side1 => exact aP0); (case side2 => exact aP2); rintro e w53 ⟨rfl, hi, hb, hk⟩; have n0_ := aM (Kd.R_mono (Kd.R_keep (IsS83.apart (show IsS83 w0 _ g s0_0 t201 t202 from aP0) (rR HO205.out) (by decide)) hk (fun _ h => h.2)) (fun _ h => h.1)); have n1_ := aM (KeepBut.trans aP1 hk (.inl rfl)); have n2_ := aM (hb); have n3_ := aM (hi); clear HO205; clear HK; clear HB; clear HI0; have HO205 := n0_; have HK := n1_; have HB := n2_; have HI0 := n3_; clear n0_ n1_ n2_ n3_; (try clear hb); (try clear hb2); (try clear hk); (try clear hi))))
      go_roundg kj5
      case measure => have := HK1.out; have := HJ5.out; omega
      case rel => exact ⟨((x1_1.extract 0 (t197 : Int).toNat) ++ (x1_1.extract ((ji44) : Int).toNat x1_1.size)), (wrap64 (x7_1 - 1)), (t207), (t208), (by first | rfl | (simp; done) | (simp only [← hji44] <;> (first | rfl | (simp; done) | (simp; exact isE _))) | (simp [*]; done)), aP16, (by first | exact H' | (rw [hji44]; exact H')), ⟨by have := HK1.out; have := HJ5.out; omega⟩, ⟨aP0⟩, ⟨aP1⟩, ⟨aP2⟩⟩
     rw [if_pos c28] at H
     have c28b0 : (t206 == 1) = true := beq_iff_eq.mpr c28
     have c28b1 : (t206 != 1) = false := bne_eq_false_iff_eq.mpr c28
     clear c28
     by_cases c29 : 0 ≤ t197
     rotate_left
     ·rw [if_neg c29] at H
      exact absurd H (by simp)
     rw [if_pos c29] at H
     have c29b0 := eq_true c29
     have c29b1 : decide (0 ≤ t197) = true := decide_eq_true c29
     clear c29
     by_cases c30 : t197 ≤ (x1_1.size : Int)
     rotate_left
     ·rw [if_neg c30] at H
      exact absurd H (by simp)
     rw [if_pos c30] at H
     have c30b0 := eq_true c30
     have c30b1 : decide (t197 ≤ (x1_1.size : Int)) = true := decide_eq_true c30
     clear c30
     by_cases c31 : (x1_1.extract 0 (t197 : Int).toNat).size + (strOfNums y203).size ≤ 9223372036854775807
     rotate_left
     ·rw [if_neg c31] at H
      exact absurd H (by simp)
     rw [if_pos c31] at H
     have c31b0 := eq_true c31
     have c31b1 : decide ((x1_1.extract 0 (t197 : Int).toNat).size + (strOfNums y203).size ≤ 9223372036854775807) = true := decide_eq_true c31
     try have c31b2 : (9223372036854775807 < (x1_1.extract 0 (t197 : Int).toNat).size + (strOfNums y203).size) = False := eq_false (Nat.not_lt.2 c31)
     obtain ⟨ji32, hji32⟩ : ∃ j_ : Int, (wrap64 (t197 + 1)) = j_ := ⟨_, rfl⟩
     replace H : (if 0 ≤ (ji32) then (if (ji32) ≤ (x1_1.size : Int) then (if ((x1_1.extract 0 (t197 : Int).toNat) ++ (strOfNums y203)).size + (x1_1.extract ((ji32) : Int).toNat x1_1.size).size ≤ 9223372036854775807 then (jC.l0 kj5 (((x1_1.extract 0 (t197 : Int).toNat) ++ (strOfNums y203)) ++ (x1_1.extract ((ji32) : Int).toNat x1_1.size)) a2 (wrap64 (x7_1 - 1)) s0_0 t207 t208) else (none)) else (none)) else (none)) = some (r1, r2, r3) := by first | (rw [hji32] at H; exact H) | (simp only [hji32] at H ⊢; exact H)
     (try rw [hji32] at A9)
     (try rw [hji32] at A10)
     (try rw [hji32] at A14)
     have hji32w : (IntKind.i64.wrap (t197 + 1)) = ji32 := (i64_w _).trans hji32
     by_cases c33 : 0 ≤ (ji32)
     rotate_left
     ·rw [if_neg c33] at H
      exact absurd H (by simp)
     rw [if_pos c33] at H
     have c33b0 := eq_true c33
     have c33b1 : decide (0 ≤ (ji32)) = true := decide_eq_true c33
     clear c33
     by_cases c34 : (ji32) ≤ (x1_1.size : Int)
     rotate_left
     ·rw [if_neg c34] at H
      exact absurd H (by simp)
     rw [if_pos c34] at H
     have c34b0 := eq_true c34
     have c34b1 : decide ((ji32) ≤ (x1_1.size : Int)) = true := decide_eq_true c34
     clear c34
     by_cases c35 : ((x1_1.extract 0 (t197 : Int).toNat) ++ (strOfNums y203)).size + (x1_1.extract ((ji32) : Int).toNat x1_1.size).size ≤ 9223372036854775807
     rotate_left
     ·rw [if_neg c35] at H
      exact absurd H (by simp)
     rw [if_pos c35] at H
     have c35b0 := eq_true c35
     have c35b1 : decide (((x1_1.extract 0 (t197 : Int).toNat) ++ (strOfNums y203)).size + (x1_1.extract ((ji32) : Int).toNat x1_1.size).size ≤ 9223372036854775807) = true := decide_eq_true c35
     try have c35b2 : (9223372036854775807 < ((x1_1.extract 0 (t197 : Int).toNat) ++ (strOfNums y203)).size + (x1_1.extract ((ji32) : Int).toNat x1_1.size).size) = False := eq_false (Nat.not_lt.2 c35)
     try have c35s := eq_false (Nat.not_lt.2 c35)
     try simp only [ByteArray.size_append] at c35s
     have H' := aM H
     clear H
     go_wp2_with (first | (go_at_call 74; (with_reducible refine (jD.calls g s0_0 x1001_1 x1002_1 (x1_1.size : Int) t197 t198 t199 w0 _ ?side1 ?side2 A9.out).mono ?_); (case side1 => exact aP0); (case side2 => exact aP2); rintro e w36 ⟨rfl, hi, hb, hk⟩; have n0_ := aM (KeepBut.trans aP1 hk (.inl rfl)); have n1_ := aM (hb); have n2_ := aM (hi); clear HK; clear HB; clear HI0; have HK := n0_; have HB := n1_; have HI0 := n2_; clear n0_ n1_ n2_; (try clear hb); (try clear hb2); (try clear hk); (try clear hi)) | (go_at_call 74; (with_reducible refine (jD.calls g s0_0 t198 t199 (a2.size : Int) t200 t201 t202 w0 _ ?side1 ?side2 A10.out).mono ?_); (case side1 => exact aP0); (case side2 => exact aP2); rintro e w37 ⟨rfl, hi, hb, hk⟩; have n0_ := aM (KeepBut.trans aP1 hk (.inl rfl)); have n1_ := aM (hb); have n2_ := aM (hi); clear HK; clear HB; clear HI0; have HK := n0_; have HB := n1_; have HI0 := n2_; clear n0_ n1_ n2_; (try clear hb); (try clear hb2); (try clear hk); (try clear hi); have p13 : 0 ≤ (t200 : Int) := of_decide_eq_true (by assumption); have q13 : t200 < (a2.size : Int) := of_decide_eq_true (by assumption); have hx13 := bt_at a2 t200; replace p13 := eq_true p13; replace q13 := eq_true q13) | ((with_reducible refine gate_dst (N := 31) rfl ?_); (try (refine gate_guard (by rfl) ?_; dsimp only)); refine Kd.R_lit (Kd.int .u8) _ 5 ?hg (N := 31) ?hd (xs := ([bt a2 t200] : List Int)) (inner := [.int .u8 (bt a2 t200)]) (ok := fun _ => True) (okp := fun _ => True) ?hr ?hp (fun _ hk => hk) trivial (Below.refl _ _) (Nat.le_refl _) (by simp) ?_; (case hd => rfl); (case hg => rfl); (case hr => exact aP21); (case hp => exact (Reps.one (show Kd.M (Kd.int .u8) _ _ _ (bt a2 t200) [.int .u8 (bt a2 t200)] from rfl) (Reps.none _ _))); intro v204 w38 ho39 hb hg_ hnew_; clear hg_ hnew_; (first | rw [← Ny203.out] at ho39 | (simp only [Int.reduceToNat] at ho39; rw [← Ny203.out] at ho39)); have n0_ := aM (Kd.R_lower ho39 (keep_size (w := w) (g := g) (row := none) aP1)); have n1_ := aM (IsS83.below aP0 hb); have n2_ := aM (KeepBut.trans aP1 (KeepBut.of_below hb g none) (.inl rfl)); have n3_ := aM (below_step aP2 hb); clear HI0; clear HK; clear HB; have HO205 := n0_; have HI0 := n1_; have HK := n2_; have HB := n3_; clear n0_ n1_ n2_ n3_; clear hb ho39; have hcv40 := own_string (P := Try.prog) Try.underlying43 Try.underlying5 Try.underlying9 (Kd.own_of_R HO205.out)) | (go_at_call 74; (with_reducible refine (jD.calls g s0_0 t201 t202 3 t206 t207 t208 w0 _ ?side1 ?side2 A14.out).mono ?_); (case side1 => exact aP0); (case side2 => exact aP2); rintro e w41 ⟨rfl, hi, hb, hk⟩; have n0_ := aM (Kd.R_mono (Kd.R_keep (IsS83.apart (show IsS83 w0 _ g s0_0 t201 t202 from aP0) (rR HO205.out) (by decide)) hk (fun _ h => h.2)) (fun _ h => h.1)); have n1_ := aM (KeepBut.trans aP1 hk (.inl rfl)); have n2_ := aM (hb); have n3_ := aM (hi); clear HO205; clear HK; clear HB; clear HI0; have HO205 := n0_; have HK := n1_; have HB := n2_; have HI0 := n3_; clear n0_ n1_ n2_ n3_; (try clear hb); (try clear hb2); (try clear hk); (try clear hi)))
     repeat (go_quiet (first | (go_at_call 74; (with_reducible refine (jD.calls g s0_0 x1001_1 x1002_1 (x1_1.size : Int) t197 t198 t199 w0 _ ?side1 ?side2 A9.out).mono ?_); (case side1 => exact aP0); (case side2 => exact aP2); rintro e w36 ⟨rfl, hi, hb, hk⟩; have n0_ := aM (KeepBut.trans aP1 hk (.inl rfl)); have n1_ := aM (hb); have n2_ := aM (hi); clear HK; clear HB; clear HI0; have HK := n0_; have HB := n1_; have HI0 := n2_; clear n0_ n1_ n2_; (try clear hb); (try clear hb2); (try clear hk); (try clear hi)) | (go_at_call 74; (with_reducible refine (jD.calls g s0_0 t198 t199 (a2.size : Int) t200 t201 t202 w0 _ ?side1 ?side2 A10.out).mono ?_); (case side1 => exact aP0); (case side2 => exact aP2); rintro e w37 ⟨rfl, hi, hb, hk⟩; have n0_ := aM (KeepBut.trans aP1 hk (.inl rfl)); have n1_ := aM (hb); have n2_ := aM (hi); clear HK; clear HB; clear HI0; have HK := n0_; have HB := n1_; have HI0 := n2_; clear n0_ n1_ n2_; (try clear hb); (try clear hb2); (try clear hk); (try clear hi); have p13 : 0 ≤ (t200 : Int) := of_decide_eq_true (by assumption); have q13 : t200 < (a2.size : Int) := of_decide_eq_true (by assumption); have hx13 := bt_at a2 t200; replace p13 := eq_true p13; replace q13 := eq_true q13) | ((with_reducible refine gate_dst (N := 31) rfl ?_); (try (refine gate_guard (by rfl) ?_; dsimp only)); refine Kd.R_lit (Kd.int .u8) _ 5 ?hg (N := 31) ?hd (xs := ([bt a2 t200] : List Int)) (inner := [.int .u8 (bt a2 t200)]) (ok := fun _ => True) (okp := fun _ => True) ?hr ?hp (fun _ hk => hk) trivial (Below.refl _ _) (Nat.le_refl _) (by simp) ?_; (case hd => rfl); (case hg => rfl); (case hr => exact aP21); (case hp => exact (Reps.one (show Kd.M (Kd.int .u8) _ _ _ (bt a2 t200) [.int .u8 (bt a2 t200)] from rfl) (Reps.none _ _))); intro v204 w38 ho39 hb hg_ hnew_; clear hg_ hnew_; (first | rw [← Ny203.out] at ho39 | (simp only [Int.reduceToNat] at ho39; rw [← Ny203.out] at ho39)); have n0_ := aM (Kd.R_lower ho39 (keep_size (w := w) (g := g) (row := none) aP1)); have n1_ := aM (IsS83.below aP0 hb); have n2_ := aM (KeepBut.trans aP1 (KeepBut.of_below hb g none) (.inl rfl)); have n3_ := aM (below_step aP2 hb); clear HI0; clear HK; clear HB; have HO205 := n0_; have HI0 := n1_; have HK := n2_; have HB := n3_; clear n0_ n1_ n2_ n3_; clear hb ho39; have hcv40 := own_string (P := Try.prog) Try.underlying43 Try.underlying5 Try.underlying9 (Kd.own_of_R HO205.out)) | (go_at_call 74; (with_reducible refine (jD.calls g s0_0 t201 t202 3 t206 t207 t208 w0 _ ?side1 ?side2 A14.out).mono ?_); (case side1 => exact aP0); (case side2 => exact aP2); rintro e w41 ⟨rfl, hi, hb, hk⟩; have n0_ := aM (Kd.R_mono (Kd.R_keep (IsS83.apart (show IsS83 w0 _ g s0_0 t201 t202 from aP0) (rR HO205.out) (by decide)) hk (fun _ h => h.2)) (fun _ h => h.1)); have n1_ := aM (KeepBut.trans aP1 hk (.inl rfl)); have n2_ := aM (hb); have n3_ := aM (hi); clear HO205; clear HK; clear HB; clear HI0; have HO205 := n0_; have HK := n1_; have HB := n2_; have HI0 := n3_; clear n0_ n1_ n2_ n3_; (try clear hb); (try clear hb2); (try clear hk); (try clear hi))); try go_wp2_with (first | (go_at_call 74; (with_reducible refine (jD.calls g s0_0 x1001_1 x1002_1 (x1_1.size : Int) t197 t198 t199 w0 _ ?side1 ?side2 A9.out).mono ?_); (case side1 => exact aP0); (case side2 => exact aP2); rintro e w36 ⟨rfl, hi, hb, hk⟩; have n0_ := aM (KeepBut.trans aP1 hk (.inl rfl)); have n1_ := aM (hb); have n2_ := aM (hi); clear HK; clear HB; clear HI0; have HK := n0_; have HB := n1_; have HI0 := n2_; clear n0_ n1_ n2_; (try clear hb); (try clear hb2); (try clear hk); (try clear hi)) | (go_at_call 74; (with_reducible refine (jD.calls g s0_0 t198 t199 (a2.size : Int) t200 t201 t202 w0 _ ?side1 ?side2 A10.out).mono ?_); (case side1 => exact aP0); (case side2 => exact aP2); rintro e w37 ⟨rfl, hi, hb, hk⟩; have n0_ := aM (KeepBut.trans aP1 hk (.inl rfl)); have n1_ := aM (hb); have n2_ := aM (hi); clear HK; clear HB; clear HI0; have HK := n0_; have HB := n1_; have HI0 := n2_; clear n0_ n1_ n2_; (try clear hb); (try clear hb2); (try clear hk); (try clear hi); have p13 : 0 ≤ (t200 : Int) := of_decide_eq_true (by assumption); have q13 : t200 < (a2.size : Int) := of_decide_eq_true (by assumption); have hx13 := bt_at a2 t200; replace p13 := eq_true p13; replace q13 := eq_true q13) | ((with_reducible refine gate_dst (N := 31) rfl ?_); (try (refine gate_guard (by rfl) ?_; dsimp only)); refine Kd.R_lit (Kd.int .u8) _ 5 ?hg (N := 31) ?hd (xs := ([bt a2 t200] : List Int)) (inner := [.int .u8 (bt a2 t200)]) (ok := fun _ => True) (okp := fun _ => True) ?hr ?hp (fun _ hk => hk) trivial (Below.refl _ _) (Nat.le_refl _) (by simp) ?_; (case hd => rfl); (case hg => rfl); (case hr => exact aP21); (case hp => exact (Reps.one (show Kd.M (Kd.int .u8) _ _ _ (bt a2 t200) [.int .u8 (bt a2 t200)] from rfl) (Reps.none _ _))); intro v204 w38 ho39 hb hg_ hnew_; clear hg_ hnew_; (first | rw [← Ny203.out] at ho39 | (simp only [Int.reduceToNat] at ho39; rw [← Ny203.out] at ho39)); have n0_ := aM (Kd.R_lower ho39 (keep_size (w := w) (g := g) (row := none) aP1)); have n1_ := aM (IsS83.below aP0 hb); have n2_ := aM (KeepBut.trans aP1 (KeepBut.of_below hb g none) (.inl rfl)); have n3_ := aM (below_step aP2 hb); clear HI0; clear HK; clear HB; have HO205 := n0_; have HI0 := n1_; have HK := n2_; have HB := n3_; clear n0_ n1_ n2_ n3_; clear hb ho39; have hcv40 := own_string (P := Try.prog) Try.underlying43 Try.underlying5 Try.underlying9 (Kd.own_of_R HO205.out)) | (go_at_call 74; (with_reducible refine (jD.calls g s0_0 t201 t202 3 t206 t207 t208 w0 _ ?side1 ?side2 A14.out).mono ?_); (case side1 => exact aP0); (case side2 => exact aP2); rintro e w41 ⟨rfl, hi, hb, hk⟩; have n0_ := aM (Kd.R_mono (Kd.R_keep (IsS83.apart (show IsS83 w0 _ g s0_0 t201 t202 from aP0) (rR HO205.out) (by decide)) hk (fun _ h => h.2)) (fun _ h => h.1)); have n1_ := aM (KeepBut.trans aP1 hk (.inl rfl)); have n2_ := aM (hb); have n3_ := aM (hi); clear HO205; clear HK; clear HB; clear HI0; have HO205 := n0_; have HK := n1_; have HB := n2_; have HI0 := n3_; clear n0_ n1_ n2_ n3_; (try clear hb); (try clear hb2); (try clear hk); (try clear hi))))
     go_roundg kj5
     case measure => have := HK1.out; have := HJ5.out; omega
     case rel => exact ⟨(((x1_1.extract 0 (t197 : Int).toNat) ++ (strOfNums y203)) ++ (x1_1.extract ((ji32) : Int).toNat x1_1.size)), (wrap64 (x7_1 - 1)), (t207), (t208), (by first | rfl | (simp; done) | (simp only [← hji32] <;> (first | rfl | (simp; done) | (simp; exact isE _))) | (simp [*]; done)), aP16, (by first | exact H' | (rw [hji32]; exact H')), ⟨by have := HK1.out; have := HJ5.out; omega⟩, ⟨aP0⟩, ⟨aP1⟩, ⟨aP2⟩⟩
def jV.f (s0_0 : List Int) (s0_1 : Int) (s0_2 : Int) (l1 : List ByteArray) : Option (ByteArray × Int × Int) := (jD.f s0_0 s0_1 s0_2 (l1.length : Int)).bind fun bt209 => (if 0 ≤ bt209.1 then (if bt209.1 < (l1.length : Int) then (some (rdOf ByteArray.empty l1 bt209.1, bt209.2.1, bt209.2.2)) else (none)) else (none))
set_option maxHeartbeats 8000000 in
set_option maxRecDepth 100000 in
theorem jV.calls (g : Nat) (s0_0 : List Int) (s0_1 : Int) (s0_2 : Int) (A1 : Option Addr) (c1 : Nat) (l1 : List ByteArray) (r1 : ByteArray) (r2 : Int) (r3 : Int) (w0 w : World) (hI : IsS83 w0 w g s0_0 s0_1 s0_2) (hB : Below w0.heap.size w0 w) (hr1 : Kd.C Kd.string w A1 l1.length l1) (hc1 : l1.length ≤ c1) (hf1 : ∀ ad, A1 = some ad → 0 < l1.length → ad.block ≠ g) (h : jV.f s0_0 s0_1 s0_2 l1 = some (r1, r2, r3)) :
  Calls Try.prog 85 #[.pointer (some ⟨g, 0, none⟩), .slice A1 l1.length c1] w fun e w' => e = .returned (.string r1) ∧ IsS83 w0 w' g s0_0 r2 r3 ∧ Below w0.heap.size w0 w' ∧ KeepBut w w' g none := by
 have HR1 := aM hr1
 have HC1 := aM hc1
 clear hr1 hc1
 have HI0 := aM hI
 have HK := aM (KeepBut.refl w g none)
 have HL := aM hB.size
 clear hI
 have HW0 := aM hB.size
 have HB := aM hB
 clear hB
 have H : ((jD.f s0_0 s0_1 s0_2 (l1.length : Int)).bind fun bt209 => (if 0 ≤ bt209.1 then (if bt209.1 < (l1.length : Int) then (some (rdOf ByteArray.empty l1 bt209.1, bt209.2.1, bt209.2.2)) else (none)) else (none))) = some (r1, r2, r3) := h
 clear h
 replace H := Option.bind_eq_some_iff.mp H
 obtain ⟨⟨t209, t210, t211⟩, A30, H⟩ := H
 replace H : (if 0 ≤ t209 then (if t209 < (l1.length : Int) then (some (rdOf ByteArray.empty l1 t209, t210, t211)) else (none)) else (none)) = some (r1, r2, r3) := H
 have A3 := aM A30
 clear A30
 by_cases c4 : 0 ≤ t209
 rotate_left
 ·rw [if_neg c4] at H
  exact absurd H (by simp)
 rw [if_pos c4] at H
 have c4b0 : decide (0 ≤ t209) = true := decide_eq_true c4
 clear c4
 by_cases c5 : t209 < (l1.length : Int)
 rotate_left
 ·rw [if_neg c5] at H
  exact absurd H (by simp)
 rw [if_pos c5] at H
 have c5b0 : decide (t209 < (l1.length : Int)) = true := decide_eq_true c5
 clear c5
 simp only [Option.some.injEq, Prod.mk.injEq] at H
 obtain ⟨rfl, rfl, rfl⟩ := H
 go_enter Try.func85, Try.ntmps85
 go_wp2_with (first | ((with_reducible refine gate_callee (f := 74) rfl ?_); refine goesL_ (some 9) rfl rfl Try.func74 (by kernel_rfl) rfl #[.pointer (some ⟨g, 0, none⟩), .int .i64 (l1.length : Int)] rfl mM ?_; (with_reducible refine (jD.calls g s0_0 s0_1 s0_2 (l1.length : Int) t209 t210 t211 w0 _ ?side1 ?side2 A3.out).mono ?_); (case side1 => exact aP0); (case side2 => exact aP2); rintro e w6 ⟨rfl, hi, hb, hk⟩; refine ⟨_, rfl, ?_⟩; have n0_ := aM (KeepBut.trans aP1 hk (.inl rfl)); have n1_ := aM (hb); have n2_ := aM (hi); clear HK; clear HB; clear HI0; have HK := n0_; have HB := n1_; have HI0 := n2_; clear n0_ n1_ n2_; (try clear hb); (try clear hb2); (try clear hk); (try clear hi); have p212 : 0 ≤ (t209 : Int) := of_decide_eq_true (by assumption); have q212 : t209 < (l1.length : Int) := of_decide_eq_true (by assumption); obtain ⟨ad212, e212, hx212_0⟩ := Kd.at_string HR1.out t209 p212 q212; cases e212; replace hx212_0 := keep_cell HK.out hx212_0 (by first | (rw [add_block]; exact hf1 _ rfl (by omega)) | exact hf1 _ rfl (by omega) | exact hf1 ad212 rfl (by omega)); replace p212 := eq_true p212; replace q212 := eq_true q212))
 go_ret
 exact ⟨by first | rfl | (simp [errW_none, errW_some] <;> rfl) | (simp [errW_none, errW_some]; exact isE _) | (simp [*, errW_none, errW_some] <;> rfl), by (try simp only [Int.add_zero]); exact aP0, by exact aP2, aP1⟩
end Go.Proofs.Ytlelpomnblaciaa.PFnComposed
