/- (thin) Written by a program of this session (wip/ovl.py) over the kit's print: plain functions with the answers of the Go functions, and the proofs that they are; no condition. -/
import Derived.Test.YtlelpomnblaciaaPFnComposedx0
import Derived.Test.YtlelpomnblaciaaPFnComposedx2
import Derived.Test.YtlelpomnblaciaaPFnComposedx11
import Derived.Test.YtlelpomnblaciaaPFnComposedx12
import Derived.Test.YtlelpomnblaciaaPFnComposedx13
namespace Go.Proofs.Ytlelpomnblaciaa.PFnComposed
open Go.RowKit Go.Proofs.YtlelpomnblaciaaW.PrintWords Go.Proofs.YtlelpomnblaciaaW.PrintLast Go.Proofs.YtlelpomnblaciaaW.PrintMore
attribute [local go_sem] max2_int min2_int max_two min_two max_three min_three max_four min_four   -- for this text's walks alone
set_option linter.unusedVariables false
set_option linter.unusedSimpArgs false
def jI.j0 : Nat → ByteArray → List Int → Int → Int → Option (ByteArray × Int × Int)
 | 0, _, _, _, _ => none
 | k + 1, x3, x1000, x1001, x1002 => (jU.f x1000 x1001 x1002 12).bind fun bt252 => (if bt252.1 = true then ((jC.f k x1000 bt252.2.1 bt252.2.2 x3 (⟨#[65, 47, 97, 90]⟩ : ByteArray)).bind fun bt255 => (some (bt255.1, bt255.2.1, bt255.2.2))) else (some (x3, bt252.2.1, bt252.2.2)))
def jI.f (k : Nat) (s0_0 : List Int) (s0_1 : Int) (s0_2 : Int) : Option (ByteArray × Int × Int) := (jD.f s0_0 s0_1 s0_2 7).bind fun bt234 => ((jB.f k s0_0 bt234.2.1 bt234.2.2 bt234.1 3).bind fun bt237 => ((jD.f s0_0 bt237.2.1 bt237.2.2 30).bind fun bt240 => (if bt240.1 = 0 then ((jB.f k s0_0 bt240.2.1 bt240.2.2 60 3).bind fun bt243 => (jI.j0 k bt243.1 s0_0 bt243.2.1 bt243.2.2)) else (if bt240.1 = 1 then ((jV.f s0_0 bt240.2.1 bt240.2.2 (([(⟨#[65, 65, 65, 65, 65, 65, 65, 65, 65, 65, 65, 65, 47, 47, 47, 47, 47, 47, 47, 47, 47, 47, 47, 47]⟩ : ByteArray), (⟨#[65, 65, 65, 65, 65, 65, 65, 65, 65, 65, 65, 65, 65, 47, 47, 47, 47, 47, 47, 47, 47, 47, 47, 47, 47, 47]⟩ : ByteArray)] : List ByteArray))).bind fun bt249 => (jI.j0 k bt249.1 s0_0 bt249.2.1 bt249.2.2)) else (jI.j0 k bt237.1 s0_0 bt240.2.1 bt240.2.2)))))
theorem jI.mono_l : ∀ k, (∀ y0 y1 y2 y3, LeO (jI.j0 k y0 y1 y2 y3) (jI.j0 (k + 1) y0 y1 y2 y3))
 | 0 => fun _ _ _ _ r h => by simp [jI.j0] at h
 | k + 1 => by
  have ih0 := jI.mono_l k
  ·intro y0 y1 y2 y3
   unfold jI.j0
   repeat' first
   | (with_reducible exact ih0 _ _ _ _)
   | (with_reducible exact jB.mono _ _ _ _ _ _)
   | (with_reducible exact jC.mono _ _ _ _ _ _)
   | (with_reducible exact LeO.refl _)
   | (with_reducible exact LeO.none _)
   | (with_reducible refine LeO.ite ?_ ?_)
   | (with_reducible refine LeO.bind ?_ (fun _ => ?_))
   | exact ih0 _ _ _ _
   | exact jB.mono _ _ _ _ _ _
   | exact jC.mono _ _ _ _ _ _
   | exact LeO.none _
   | refine LeO.ite ?_ ?_
   | refine LeO.bind ?_ (fun _ => ?_)
theorem jI.mono : ∀ a0 a1 a2 k, LeO (jI.f k a0 a1 a2) (jI.f (k + 1) a0 a1 a2) := by
 intro a0 a1 a2 k
 have ih0 := jI.mono_l k
 unfold jI.f
 repeat' first
   | (with_reducible exact ih0 _ _ _ _)
   | (with_reducible exact jB.mono _ _ _ _ _ _)
   | (with_reducible exact jC.mono _ _ _ _ _ _)
   | (with_reducible exact LeO.refl _)
   | (with_reducible exact LeO.none _)
   | (with_reducible refine LeO.ite ?_ ?_)
   | (with_reducible refine LeO.bind ?_ (fun _ => ?_))
   | exact ih0 _ _ _ _
   | exact jB.mono _ _ _ _ _ _
   | exact jC.mono _ _ _ _ _ _
   | exact LeO.none _
   | refine LeO.ite ?_ ?_
   | refine LeO.bind ?_ (fun _ => ?_)
set_option maxHeartbeats 8000000 in
set_option maxRecDepth 100000 in
theorem jI.calls (k : Nat) (g : Nat) (s0_0 : List Int) (s0_1 : Int) (s0_2 : Int) (r1 : ByteArray) (r2 : Int) (r3 : Int) (w0 w : World) (hI : IsS83 w0 w g s0_0 s0_1 s0_2) (hB : Below w0.heap.size w0 w) (h : jI.f k s0_0 s0_1 s0_2 = some (r1, r2, r3)) :
  Calls Try.prog 84 #[.pointer (some ⟨g, 0, none⟩)] w fun e w' => e = .returned (.string r1) ∧ IsS83 w0 w' g s0_0 r2 r3 ∧ Below w0.heap.size w0 w' ∧ KeepBut w w' g none := by
 have HI0 := aM hI
 have HK := aM (KeepBut.refl w g none)
 have HL := aM hB.size
 clear hI
 have HW0 := aM hB.size
 have HB := aM hB
 clear hB
 have H : ((jD.f s0_0 s0_1 s0_2 7).bind fun bt234 => ((jB.f k s0_0 bt234.2.1 bt234.2.2 bt234.1 3).bind fun bt237 => ((jD.f s0_0 bt237.2.1 bt237.2.2 30).bind fun bt240 => (if bt240.1 = 0 then ((jB.f k s0_0 bt240.2.1 bt240.2.2 60 3).bind fun bt243 => (jI.j0 k bt243.1 s0_0 bt243.2.1 bt243.2.2)) else (if bt240.1 = 1 then ((jV.f s0_0 bt240.2.1 bt240.2.2 (([(⟨#[65, 65, 65, 65, 65, 65, 65, 65, 65, 65, 65, 65, 47, 47, 47, 47, 47, 47, 47, 47, 47, 47, 47, 47]⟩ : ByteArray), (⟨#[65, 65, 65, 65, 65, 65, 65, 65, 65, 65, 65, 65, 65, 47, 47, 47, 47, 47, 47, 47, 47, 47, 47, 47, 47, 47]⟩ : ByteArray)] : List ByteArray))).bind fun bt249 => (jI.j0 k bt249.1 s0_0 bt249.2.1 bt249.2.2)) else (jI.j0 k bt237.1 s0_0 bt240.2.1 bt240.2.2)))))) = some (r1, r2, r3) := h
 clear h
 replace H := Option.bind_eq_some_iff.mp H
 obtain ⟨⟨t234, t235, t236⟩, A20, H⟩ := H
 replace H : ((jB.f k s0_0 t235 t236 t234 3).bind fun bt237 => ((jD.f s0_0 bt237.2.1 bt237.2.2 30).bind fun bt240 => (if bt240.1 = 0 then ((jB.f k s0_0 bt240.2.1 bt240.2.2 60 3).bind fun bt243 => (jI.j0 k bt243.1 s0_0 bt243.2.1 bt243.2.2)) else (if bt240.1 = 1 then ((jV.f s0_0 bt240.2.1 bt240.2.2 (([(⟨#[65, 65, 65, 65, 65, 65, 65, 65, 65, 65, 65, 65, 47, 47, 47, 47, 47, 47, 47, 47, 47, 47, 47, 47]⟩ : ByteArray), (⟨#[65, 65, 65, 65, 65, 65, 65, 65, 65, 65, 65, 65, 65, 47, 47, 47, 47, 47, 47, 47, 47, 47, 47, 47, 47, 47]⟩ : ByteArray)] : List ByteArray))).bind fun bt249 => (jI.j0 k bt249.1 s0_0 bt249.2.1 bt249.2.2)) else (jI.j0 k bt237.1 s0_0 bt240.2.1 bt240.2.2))))) = some (r1, r2, r3) := H
 have A2 := aM A20
 clear A20
 replace H := Option.bind_eq_some_iff.mp H
 obtain ⟨⟨t237, t238, t239⟩, A30, H⟩ := H
 replace H : ((jD.f s0_0 t238 t239 30).bind fun bt240 => (if bt240.1 = 0 then ((jB.f k s0_0 bt240.2.1 bt240.2.2 60 3).bind fun bt243 => (jI.j0 k bt243.1 s0_0 bt243.2.1 bt243.2.2)) else (if bt240.1 = 1 then ((jV.f s0_0 bt240.2.1 bt240.2.2 (([(⟨#[65, 65, 65, 65, 65, 65, 65, 65, 65, 65, 65, 65, 47, 47, 47, 47, 47, 47, 47, 47, 47, 47, 47, 47]⟩ : ByteArray), (⟨#[65, 65, 65, 65, 65, 65, 65, 65, 65, 65, 65, 65, 65, 47, 47, 47, 47, 47, 47, 47, 47, 47, 47, 47, 47, 47]⟩ : ByteArray)] : List ByteArray))).bind fun bt249 => (jI.j0 k bt249.1 s0_0 bt249.2.1 bt249.2.2)) else (jI.j0 k t237 s0_0 bt240.2.1 bt240.2.2)))) = some (r1, r2, r3) := H
 have A3 := aM A30
 clear A30
 replace H := Option.bind_eq_some_iff.mp H
 obtain ⟨⟨t240, t241, t242⟩, A40, H⟩ := H
 replace H : (if t240 = 0 then ((jB.f k s0_0 t241 t242 60 3).bind fun bt243 => (jI.j0 k bt243.1 s0_0 bt243.2.1 bt243.2.2)) else (if t240 = 1 then ((jV.f s0_0 t241 t242 (([(⟨#[65, 65, 65, 65, 65, 65, 65, 65, 65, 65, 65, 65, 47, 47, 47, 47, 47, 47, 47, 47, 47, 47, 47, 47]⟩ : ByteArray), (⟨#[65, 65, 65, 65, 65, 65, 65, 65, 65, 65, 65, 65, 65, 47, 47, 47, 47, 47, 47, 47, 47, 47, 47, 47, 47, 47]⟩ : ByteArray)] : List ByteArray))).bind fun bt249 => (jI.j0 k bt249.1 s0_0 bt249.2.1 bt249.2.2)) else (jI.j0 k t237 s0_0 t241 t242))) = some (r1, r2, r3) := H
 have A4 := aM A40
 clear A40
 have HC5 := aM H
 clear H
 go_enter Try.func84, Try.ntmps84
 go_upto_block 0 with (first | ((with_reducible refine gate_callee (f := 74) rfl ?_); refine goesL_ (some 6) rfl rfl Try.func74 (by kernel_rfl) rfl #[.pointer (some ⟨g, 0, none⟩), .int .i64 7] rfl mM ?_; (with_reducible refine (jD.calls g s0_0 s0_1 s0_2 7 t234 t235 t236 w0 _ ?side1 ?side2 A2.out).mono ?_); (case side1 => exact aP0); (case side2 => exact aP2); rintro e w6 ⟨rfl, hi, hb, hk⟩; refine ⟨_, rfl, ?_⟩; have n0_ := aM (KeepBut.trans aP1 hk (.inl rfl)); have n1_ := aM (hb); have n2_ := aM (hi); clear HK; clear HB; clear HI0; have HK := n0_; have HB := n1_; have HI0 := n2_; clear n0_ n1_ n2_; (try clear hb); (try clear hb2); (try clear hk); (try clear hi)) | ((with_reducible refine gate_callee (f := 89) rfl ?_); refine goesL_ (some 7) rfl rfl Try.func89 (by kernel_rfl) rfl #[.pointer (some ⟨g, 0, none⟩), .int .i64 t234, .int .i64 3] rfl mM ?_; (with_reducible refine (jB.calls k g s0_0 t235 t236 t234 3 t237 t238 t239 w0 _ ?side1 ?side2 A3.out).mono ?_); (case side1 => exact aP0); (case side2 => exact aP2); rintro e w7 ⟨rfl, hi, hb, hk⟩; refine ⟨_, rfl, ?_⟩; have n0_ := aM (KeepBut.trans aP1 hk (.inl rfl)); have n1_ := aM (hb); have n2_ := aM (hi); clear HK; clear HB; clear HI0; have HK := n0_; have HB := n1_; have HI0 := n2_; clear n0_ n1_ n2_; (try clear hb); (try clear hb2); (try clear hk); (try clear hi)) | ((with_reducible refine gate_callee (f := 74) rfl ?_); refine goesL_ (some 9) rfl rfl Try.func74 (by kernel_rfl) rfl #[.pointer (some ⟨g, 0, none⟩), .int .i64 30] rfl mM ?_; (with_reducible refine (jD.calls g s0_0 t238 t239 30 t240 t241 t242 w0 _ ?side1 ?side2 A4.out).mono ?_); (case side1 => exact aP0); (case side2 => exact aP2); rintro e w8 ⟨rfl, hi, hb, hk⟩; refine ⟨_, rfl, ?_⟩; have n0_ := aM (KeepBut.trans aP1 hk (.inl rfl)); have n1_ := aM (hb); have n2_ := aM (hi); clear HK; clear HB; clear HI0; have HK := n0_; have HB := n1_; have HI0 := n2_; clear n0_ n1_ n2_; (try clear hb); (try clear hb2); (try clear hk); (try clear hi)))
 (try simp only [Act.put, List.setIfInBounds_toArray, List.set_cons_zero, List.set_cons_succ])
 go_cut [3] (fun v3 wc => ∃ (kq : Nat) (x3_4 : ByteArray) (x1001_4 : Int) (x1002_4 : Int), v3 = .string x3_4 ∧ Aside0 (jI.j0 kq x3_4 s0_0 x1001_4 x1002_4 = some (r1, r2, r3)) ∧ Aside0 (kq ≤ k) ∧ Aside0 (IsS83 w0 wc g s0_0 x1001_4 x1002_4) ∧ Aside0 (KeepBut w wc g none) ∧ Aside0 (Below w0.heap.size w0 wc))
 case first =>
  have H := HC5.out
  clear HC5
  by_cases c9 : t240 = 0
  ·rw [if_pos c9] at H
   have c9b0 : (t240 == 0) = true := beq_iff_eq.mpr c9
   have c9b1 : (t240 != 0) = false := bne_eq_false_iff_eq.mpr c9
   clear c9
   (first | rw [c9b0] | (simp only [i64_w, i32_w]; rw [c9b0]) | rw [c9e] | skip)
   replace H := Option.bind_eq_some_iff.mp H
   obtain ⟨⟨t243, t244, t245⟩, A100, H⟩ := H
   replace H : (jI.j0 k t243 s0_0 t244 t245) = some (r1, r2, r3) := H
   have A10 := aM A100
   clear A100
   have H' := aM H
   clear H
   go_wp2_with (first | ((with_reducible refine gate_callee (f := 89) rfl ?_); refine goesL_ (some 13) rfl rfl Try.func89 (by kernel_rfl) rfl #[.pointer (some ⟨g, 0, none⟩), .int .i64 60, .int .i64 3] rfl mM ?_; (with_reducible refine (jB.calls k g s0_0 t241 t242 60 3 t243 t244 t245 w0 _ ?side1 ?side2 A10.out).mono ?_); (case side1 => exact aP0); (case side2 => exact aP2); rintro e w11 ⟨rfl, hi, hb, hk⟩; refine ⟨_, rfl, ?_⟩; have n0_ := aM (KeepBut.trans aP1 hk (.inl rfl)); have n1_ := aM (hb); have n2_ := aM (hi); clear HK; clear HB; clear HI0; have HK := n0_; have HB := n1_; have HI0 := n2_; clear n0_ n1_ n2_; (try clear hb); (try clear hb2); (try clear hk); (try clear hi)))
   go_meet
   case rel => exact ⟨_, (t243), (t244), (t245), aP16, H', ⟨by first | omega | exact Nat.le_refl _⟩, ⟨aP0⟩, ⟨aP1⟩, ⟨aP2⟩⟩
  rw [if_neg c9] at H
  have c9b0 : (t240 == 0) = false := beq_eq_false_iff_ne.mpr c9
  have c9b1 : (t240 != 0) = true := bne_iff_ne.mpr c9
  (first | rw [c9b0] | (simp only [i64_w, i32_w]; rw [c9b0]) | rw [c9e] | skip)
  by_cases c12 : t240 = 1
  rotate_left
  ·rw [if_neg c12] at H
   have c12b0 : (t240 == 1) = false := beq_eq_false_iff_ne.mpr c12
   have c12b1 : (t240 != 1) = true := bne_iff_ne.mpr c12
   have H' := aM H
   clear H
   go_wp2
   go_meet
   case rel => exact ⟨_, (t237), (t241), (t242), aP16, H', ⟨by first | omega | exact Nat.le_refl _⟩, ⟨aP0⟩, ⟨aP1⟩, ⟨aP2⟩⟩
  rw [if_pos c12] at H
  have c12b0 : (t240 == 1) = true := beq_iff_eq.mpr c12
  have c12b1 : (t240 != 1) = false := bne_eq_false_iff_eq.mpr c12
  clear c12
  obtain ⟨y246, hy246⟩ : ∃ y_ : List ByteArray, y_ = (([(⟨#[65, 65, 65, 65, 65, 65, 65, 65, 65, 65, 65, 65, 47, 47, 47, 47, 47, 47, 47, 47, 47, 47, 47, 47]⟩ : ByteArray), (⟨#[65, 65, 65, 65, 65, 65, 65, 65, 65, 65, 65, 65, 65, 47, 47, 47, 47, 47, 47, 47, 47, 47, 47, 47, 47, 47]⟩ : ByteArray)] : List ByteArray)) := ⟨_, rfl⟩
  replace H : ((jV.f s0_0 t241 t242 y246).bind fun bt249 => (jI.j0 k bt249.1 s0_0 bt249.2.1 bt249.2.2)) = some (r1, r2, r3) := by first | (rw [hy246]; with_reducible exact H) | (have H2_ := (Option.bind_some _ _).symm.trans H; rw [hy246]; with_reducible exact H2_) | (have H2_ := (Option.bind_some _ _).symm.trans H; with_reducible exact H2_) | with_reducible exact H | (rw [hy246]; exact H) | exact H
  have Ny246 := aM hy246
  clear hy246
  replace H := Option.bind_eq_some_iff.mp H
  obtain ⟨⟨t249, t250, t251⟩, A130, H⟩ := H
  replace H : (jI.j0 k t249 s0_0 t250 t251) = some (r1, r2, r3) := H
  have A13 := aM A130
  clear A130
  have H' := aM H
  clear H
  go_wp2_with (first | ((with_reducible refine gate_dst (N := 17) rfl ?_); refine Kd.R_lit Kd.string _ 9 ?hg (N := 17) ?hd (xs := ([(⟨#[65, 65, 65, 65, 65, 65, 65, 65, 65, 65, 65, 65, 47, 47, 47, 47, 47, 47, 47, 47, 47, 47, 47, 47]⟩ : ByteArray), (⟨#[65, 65, 65, 65, 65, 65, 65, 65, 65, 65, 65, 65, 65, 47, 47, 47, 47, 47, 47, 47, 47, 47, 47, 47, 47, 47]⟩ : ByteArray)] : List ByteArray)) (inner := [.string (⟨#[65, 65, 65, 65, 65, 65, 65, 65, 65, 65, 65, 65, 47, 47, 47, 47, 47, 47, 47, 47, 47, 47, 47, 47]⟩ : ByteArray), .string (⟨#[65, 65, 65, 65, 65, 65, 65, 65, 65, 65, 65, 65, 65, 47, 47, 47, 47, 47, 47, 47, 47, 47, 47, 47, 47, 47]⟩ : ByteArray)]) (ok := fun _ => True) (okp := fun _ => True) ?hr ?hp (fun _ hk => hk) trivial (Below.refl _ _) (Nat.le_refl _) (by simp) ?_; (case hd => rfl); (case hg => rfl); (case hr => exact aP21); (case hp => exact (Reps.one (show Kd.M Kd.string _ _ _ (⟨#[65, 65, 65, 65, 65, 65, 65, 65, 65, 65, 65, 65, 47, 47, 47, 47, 47, 47, 47, 47, 47, 47, 47, 47]⟩ : ByteArray) [.string (⟨#[65, 65, 65, 65, 65, 65, 65, 65, 65, 65, 65, 65, 47, 47, 47, 47, 47, 47, 47, 47, 47, 47, 47, 47]⟩ : ByteArray)] from rfl) (Reps.one (show Kd.M Kd.string _ _ _ (⟨#[65, 65, 65, 65, 65, 65, 65, 65, 65, 65, 65, 65, 65, 47, 47, 47, 47, 47, 47, 47, 47, 47, 47, 47, 47, 47]⟩ : ByteArray) [.string (⟨#[65, 65, 65, 65, 65, 65, 65, 65, 65, 65, 65, 65, 65, 47, 47, 47, 47, 47, 47, 47, 47, 47, 47, 47, 47, 47]⟩ : ByteArray)] from rfl) (Reps.none _ _)))); intro v247 w14 ho15 hb hg_ hnew_; clear hg_ hnew_; (first | rw [← Ny246.out] at ho15 | (simp only [Int.reduceToNat] at ho15; rw [← Ny246.out] at ho15)); have n0_ := aM (Kd.R_lower ho15 (keep_size (w := w) (g := g) (row := none) aP1)); have n1_ := aM (IsS83.below aP0 hb); have n2_ := aM (KeepBut.trans aP1 (KeepBut.of_below hb g none) (.inl rfl)); have n3_ := aM (below_step aP2 hb); clear HI0; clear HK; clear HB; have HO248 := n0_; have HI0 := n1_; have HK := n2_; have HB := n3_; clear n0_ n1_ n2_ n3_; clear hb ho15; obtain ⟨Ao16, co16, eo16⟩ := Kd.R_slice HO248.out; subst eo16) | ((with_reducible refine gate_callee (f := 85) rfl ?_); refine goesL_ (some 18) rfl rfl Try.func85 (by kernel_rfl) rfl #[.pointer (some ⟨g, 0, none⟩), .slice Ao16 y246.length co16] rfl mM ?_; (with_reducible refine (jV.calls g s0_0 t241 t242 _ _ y246 t249 t250 t251 w0 _ ?side1 ?side2 ?side3 ?side4 ?side5 A13.out).mono ?_); (case side1 => exact aP0); (case side2 => exact aP2); (case side3 => exact cC ((Kd.R_reads' HO248.out).2.2)); (case side4 => exact (Kd.R_reads' HO248.out).2.1); (case side5 => exact far_slice (IsS83.own_ne HI0.out HO248.out (by decide))); rintro e w17 ⟨rfl, hi, hb, hk⟩; refine ⟨_, rfl, ?_⟩; have n0_ := aM (Kd.R_mono (Kd.R_keep (IsS83.apart (show IsS83 w0 _ g s0_0 t241 t242 from aP0) (rR HO248.out) (by decide)) hk (fun _ h => h.2)) (fun _ h => h.1)); have n1_ := aM (KeepBut.trans aP1 hk (.inl rfl)); have n2_ := aM (hb); have n3_ := aM (hi); clear HO248; clear HK; clear HB; clear HI0; have HO248 := n0_; have HK := n1_; have HB := n2_; have HI0 := n3_; clear n0_ n1_ n2_ n3_; (try clear hb); (try clear hb2); (try clear hk); (try clear hi)))
  go_meet
  case rel => exact ⟨_, (t249), (t250), (t251), aP16, H', ⟨by first | omega | exact Nat.le_refl _⟩, ⟨aP0⟩, ⟨aP1⟩, ⟨aP2⟩⟩
 case rest =>
  clear HC5
  try clear c1
  try clear p2
  try clear c7
  try clear c8
  try clear c9
  try clear c9b0
  try clear c9b1
  try clear c12
  try clear c12b0
  try clear c12b1
  obtain ⟨kq, x3_4, x1001_4, x1002_4, rfl, HA, HJ4, HI0, HK, HB⟩ := hcut
  cases kq with
  | zero => exact absurd HA.out (by simp [jI.j0])
  | succ kj4 =>
   have H := HA.out
   clear HA
   simp only [jI.j0] at H
   replace H := Option.bind_eq_some_iff.mp H
   obtain ⟨⟨t252, t253, t254⟩, A180, H⟩ := H
   replace H : (if t252 = true then ((jC.f kj4 s0_0 t253 t254 x3_4 (⟨#[65, 47, 97, 90]⟩ : ByteArray)).bind fun bt255 => (some (bt255.1, bt255.2.1, bt255.2.2))) else (some (x3_4, t253, t254))) = some (r1, r2, r3) := H
   have A18 := aM A180
   clear A180
   by_cases c19 : t252 = true
   rotate_left
   ·replace c19 := Bool.eq_false_iff.mpr c19
    subst c19
    have H1 : (some (x3_4, t253, t254)) = some (r1, r2, r3) := by rw [if_neg (show ¬ (false = true) by decide)] at H; exact H
    clear H
    have H := H1
    clear H1
    simp only [Option.some.injEq, Prod.mk.injEq] at H
    obtain ⟨rfl, rfl, rfl⟩ := H
    go_wp2_with (first | ((with_reducible refine gate_callee (f := 72) rfl ?_); refine goesL_ (some 20) rfl rfl Try.func72 (by kernel_rfl) rfl #[.pointer (some ⟨g, 0, none⟩), .int .i64 12] rfl mM ?_; (with_reducible refine (jU.calls g s0_0 x1001_4 x1002_4 12 false t253 t254 w0 _ ?side1 ?side2 A18.out).mono ?_); (case side1 => exact aP0); (case side2 => exact aP2); rintro e w23 ⟨rfl, hi, hb, hk⟩; refine ⟨_, rfl, ?_⟩; have n0_ := aM (KeepBut.trans aP1 hk (.inl rfl)); have n1_ := aM (hb); have n2_ := aM (hi); clear HK; clear HB; clear HI0; have HK := n0_; have HB := n1_; have HI0 := n2_; clear n0_ n1_ n2_; (try clear hb); (try clear hb2); (try clear hk); (try clear hi)))
    go_ret
    exact ⟨by first | rfl | (simp [errW_none, errW_some] <;> rfl) | (simp [errW_none, errW_some]; exact isE _) | (simp [*, errW_none, errW_some] <;> rfl), by (try simp only [Int.add_zero]); exact aP0, by exact aP2, aP1⟩
   subst c19
   have H1 : ((jC.f kj4 s0_0 t253 t254 x3_4 (⟨#[65, 47, 97, 90]⟩ : ByteArray)).bind fun bt255 => (some (bt255.1, bt255.2.1, bt255.2.2))) = some (r1, r2, r3) := by rw [if_pos rfl] at H; exact H
   clear H
   have H := H1
   clear H1
   replace H := Option.bind_eq_some_iff.mp H
   obtain ⟨⟨t255, t256, t257⟩, A200, H⟩ := H
   replace H : (some (t255, t256, t257)) = some (r1, r2, r3) := H
   have A20 := aM A200
   clear A200
   simp only [Option.some.injEq, Prod.mk.injEq] at H
   obtain ⟨rfl, rfl, rfl⟩ := H
   go_wp2_with (first | ((with_reducible refine gate_callee (f := 72) rfl ?_); refine goesL_ (some 20) rfl rfl Try.func72 (by kernel_rfl) rfl #[.pointer (some ⟨g, 0, none⟩), .int .i64 12] rfl mM ?_; (with_reducible refine (jU.calls g s0_0 x1001_4 x1002_4 12 true t253 t254 w0 _ ?side1 ?side2 A18.out).mono ?_); (case side1 => exact aP0); (case side2 => exact aP2); rintro e w21 ⟨rfl, hi, hb, hk⟩; refine ⟨_, rfl, ?_⟩; have n0_ := aM (KeepBut.trans aP1 hk (.inl rfl)); have n1_ := aM (hb); have n2_ := aM (hi); clear HK; clear HB; clear HI0; have HK := n0_; have HB := n1_; have HI0 := n2_; clear n0_ n1_ n2_; (try clear hb); (try clear hb2); (try clear hk); (try clear hi)) | ((with_reducible refine gate_callee (f := 73) rfl ?_); refine goesL_ (some 23) rfl rfl Try.func73 (by kernel_rfl) rfl #[.pointer (some ⟨g, 0, none⟩), .string x3_4, .string (⟨#[65, 47, 97, 90]⟩ : ByteArray)] rfl mM ?_; (with_reducible refine (jC.calls kj4 g s0_0 t253 t254 x3_4 (⟨#[65, 47, 97, 90]⟩ : ByteArray) t255 t256 t257 w0 _ ?side1 ?side2 A20.out).mono ?_); (case side1 => exact aP0); (case side2 => exact aP2); rintro e w22 ⟨rfl, hi, hb, hk⟩; refine ⟨_, rfl, ?_⟩; have n0_ := aM (KeepBut.trans aP1 hk (.inl rfl)); have n1_ := aM (hb); have n2_ := aM (hi); clear HK; clear HB; clear HI0; have HK := n0_; have HB := n1_; have HI0 := n2_; clear n0_ n1_ n2_; (try clear hb); (try clear hb2); (try clear hk); (try clear hi)))
   go_ret
   exact ⟨by first | rfl | (simp [errW_none, errW_some] <;> rfl) | (simp [errW_none, errW_some]; exact isE _) | (simp [*, errW_none, errW_some] <;> rfl), by (try simp only [Int.add_zero]); exact aP0, by exact aP2, aP1⟩
def jZ.f (k : Nat) (s0_0 : List Int) (s0_1 : Int) (s0_2 : Int) : Option (ByteArray × Int × Int) := (jI.f k s0_0 s0_1 s0_2).bind fun bt258 => ((jW.f k bt258.1).bind fun t261 => (if t261 = true then (if (bt258.1.size : Int) > 40 then ((jU.f s0_0 bt258.2.1 bt258.2.2 20).bind fun bt262 => (if bt262.1 = true then (some (bt258.1, bt262.2.1, bt262.2.2)) else (if 0 ≤ 40 then (if 40 ≤ (bt258.1.size : Int) then (some (bt258.1.extract 0 40, bt262.2.1, bt262.2.2)) else (none)) else (none)))) else (some (bt258.1, bt258.2.1, bt258.2.2))) else (if 4 > 40 then ((jU.f s0_0 bt258.2.1 bt258.2.2 20).bind fun bt265 => (if bt265.1 = true then (some ((⟨#[116, 101, 120, 116]⟩ : ByteArray), bt265.2.1, bt265.2.2)) else (if 0 ≤ 40 then (if 40 ≤ 4 then (some ((⟨#[116, 101, 120, 116]⟩ : ByteArray).extract 0 40, bt265.2.1, bt265.2.2)) else (none)) else (none)))) else (some ((⟨#[116, 101, 120, 116]⟩ : ByteArray), bt258.2.1, bt258.2.2)))))
theorem jZ.mono : ∀ a0 a1 a2 k, LeO (jZ.f k a0 a1 a2) (jZ.f (k + 1) a0 a1 a2) := by
 intro a0 a1 a2 k
 unfold jZ.f
 repeat' first
   | (with_reducible exact jW.mono _ _)
   | (with_reducible exact jI.mono _ _ _ _)
   | (with_reducible exact LeO.refl _)
   | (with_reducible exact LeO.none _)
   | (with_reducible refine LeO.ite ?_ ?_)
   | (with_reducible refine LeO.bind ?_ (fun _ => ?_))
   | exact jW.mono _ _
   | exact jI.mono _ _ _ _
   | exact LeO.none _
   | refine LeO.ite ?_ ?_
   | refine LeO.bind ?_ (fun _ => ?_)
set_option maxHeartbeats 8000000 in
set_option maxRecDepth 100000 in
theorem jZ.calls (k : Nat) (g : Nat) (s0_0 : List Int) (s0_1 : Int) (s0_2 : Int) (r1 : ByteArray) (r2 : Int) (r3 : Int) (w0 w : World) (hI : IsS83 w0 w g s0_0 s0_1 s0_2) (hB : Below w0.heap.size w0 w) (h : jZ.f k s0_0 s0_1 s0_2 = some (r1, r2, r3)) :
  Calls Try.prog 70 #[.pointer (some ⟨g, 0, none⟩)] w fun e w' => e = .returned (.string r1) ∧ IsS83 w0 w' g s0_0 r2 r3 ∧ Below w0.heap.size w0 w' ∧ KeepBut w w' g none := by
 have HI0 := aM hI
 have HK := aM (KeepBut.refl w g none)
 have HL := aM hB.size
 clear hI
 have HW0 := aM hB.size
 have HB := aM hB
 clear hB
 have H : ((jI.f k s0_0 s0_1 s0_2).bind fun bt258 => ((jW.f k bt258.1).bind fun t261 => (if t261 = true then (if (bt258.1.size : Int) > 40 then ((jU.f s0_0 bt258.2.1 bt258.2.2 20).bind fun bt262 => (if bt262.1 = true then (some (bt258.1, bt262.2.1, bt262.2.2)) else (if 0 ≤ 40 then (if 40 ≤ (bt258.1.size : Int) then (some (bt258.1.extract 0 40, bt262.2.1, bt262.2.2)) else (none)) else (none)))) else (some (bt258.1, bt258.2.1, bt258.2.2))) else (if 4 > 40 then ((jU.f s0_0 bt258.2.1 bt258.2.2 20).bind fun bt265 => (if bt265.1 = true then (some ((⟨#[116, 101, 120, 116]⟩ : ByteArray), bt265.2.1, bt265.2.2)) else (if 0 ≤ 40 then (if 40 ≤ 4 then (some ((⟨#[116, 101, 120, 116]⟩ : ByteArray).extract 0 40, bt265.2.1, bt265.2.2)) else (none)) else (none)))) else (some ((⟨#[116, 101, 120, 116]⟩ : ByteArray), bt258.2.1, bt258.2.2)))))) = some (r1, r2, r3) := h
 clear h
 replace H := Option.bind_eq_some_iff.mp H
 obtain ⟨⟨t258, t259, t260⟩, A20, H⟩ := H
 replace H : ((jW.f k t258).bind fun t261 => (if t261 = true then (if (t258.size : Int) > 40 then ((jU.f s0_0 t259 t260 20).bind fun bt262 => (if bt262.1 = true then (some (t258, bt262.2.1, bt262.2.2)) else (if 0 ≤ 40 then (if 40 ≤ (t258.size : Int) then (some (t258.extract 0 40, bt262.2.1, bt262.2.2)) else (none)) else (none)))) else (some (t258, t259, t260))) else (if 4 > 40 then ((jU.f s0_0 t259 t260 20).bind fun bt265 => (if bt265.1 = true then (some ((⟨#[116, 101, 120, 116]⟩ : ByteArray), bt265.2.1, bt265.2.2)) else (if 0 ≤ 40 then (if 40 ≤ 4 then (some ((⟨#[116, 101, 120, 116]⟩ : ByteArray).extract 0 40, bt265.2.1, bt265.2.2)) else (none)) else (none)))) else (some ((⟨#[116, 101, 120, 116]⟩ : ByteArray), t259, t260))))) = some (r1, r2, r3) := H
 have A2 := aM A20
 clear A20
 replace H := Option.bind_eq_some_iff.mp H
 obtain ⟨t261, A30, H⟩ := H
 replace H : (if t261 = true then (if (t258.size : Int) > 40 then ((jU.f s0_0 t259 t260 20).bind fun bt262 => (if bt262.1 = true then (some (t258, bt262.2.1, bt262.2.2)) else (if 0 ≤ 40 then (if 40 ≤ (t258.size : Int) then (some (t258.extract 0 40, bt262.2.1, bt262.2.2)) else (none)) else (none)))) else (some (t258, t259, t260))) else (if 4 > 40 then ((jU.f s0_0 t259 t260 20).bind fun bt265 => (if bt265.1 = true then (some ((⟨#[116, 101, 120, 116]⟩ : ByteArray), bt265.2.1, bt265.2.2)) else (if 0 ≤ 40 then (if 40 ≤ 4 then (some ((⟨#[116, 101, 120, 116]⟩ : ByteArray).extract 0 40, bt265.2.1, bt265.2.2)) else (none)) else (none)))) else (some ((⟨#[116, 101, 120, 116]⟩ : ByteArray), t259, t260)))) = some (r1, r2, r3) := H
 have A3 := aM A30
 clear A30
 by_cases c4 : t261 = true
 rotate_left
 ·replace c4 := Bool.eq_false_iff.mpr c4
  subst c4
  have H1 : (if 4 > 40 then ((jU.f s0_0 t259 t260 20).bind fun bt265 => (if bt265.1 = true then (some ((⟨#[116, 101, 120, 116]⟩ : ByteArray), bt265.2.1, bt265.2.2)) else (if 0 ≤ 40 then (if 40 ≤ 4 then (some ((⟨#[116, 101, 120, 116]⟩ : ByteArray).extract 0 40, bt265.2.1, bt265.2.2)) else (none)) else (none)))) else (some ((⟨#[116, 101, 120, 116]⟩ : ByteArray), t259, t260))) = some (r1, r2, r3) := by rw [if_neg (show ¬ (false = true) by decide)] at H; exact H
  clear H
  have H := H1
  clear H1
  by_cases c15 : 4 > 40
  ·exact absurd c15 (by omega)
  rw [if_neg c15] at H
  have c15b0 : decide (40 < 4) = false := decide_eq_false c15
  clear c15
  simp only [Option.some.injEq, Prod.mk.injEq] at H
  obtain ⟨rfl, rfl, rfl⟩ := H
  go_enter Try.func70, Try.ntmps70
  go_wp2_with (first | ((with_reducible refine gate_callee (f := 84) rfl ?_); refine goesL_ (some 5) rfl rfl Try.func84 (by kernel_rfl) rfl #[.pointer (some ⟨g, 0, none⟩)] rfl mM ?_; (with_reducible refine (jI.calls k g s0_0 s0_1 s0_2 t258 t259 t260 w0 _ ?side1 ?side2 A2.out).mono ?_); (case side1 => exact aP0); (case side2 => exact aP2); rintro e w24 ⟨rfl, hi, hb, hk⟩; refine ⟨_, rfl, ?_⟩; have n0_ := aM (KeepBut.trans aP1 hk (.inl rfl)); have n1_ := aM (hb); have n2_ := aM (hi); clear HK; clear HB; clear HI0; have HK := n0_; have HB := n1_; have HI0 := n2_; clear n0_ n1_ n2_; (try clear hb); (try clear hb2); (try clear hk); (try clear hi)) | ((with_reducible refine gate_callee (f := 53) rfl ?_); refine goesL_ (some 7) rfl rfl Try.func53 (by kernel_rfl) rfl #[.string t258] rfl mM ?_; (with_reducible refine (jW.calls k t258 false _ A3.out).mono ?_); rintro e w' ⟨rfl, ⟨nd, rfl⟩⟩; refine ⟨_, rfl, ?_⟩))
  go_ret
  exact ⟨by first | rfl | (simp [errW_none, errW_some] <;> rfl) | (simp [errW_none, errW_some]; exact isE _) | (simp [*, errW_none, errW_some] <;> rfl), by (try simp only [Int.add_zero]); exact aP0, by exact aP2, aP1⟩
 subst c4
 have H1 : (if (t258.size : Int) > 40 then ((jU.f s0_0 t259 t260 20).bind fun bt262 => (if bt262.1 = true then (some (t258, bt262.2.1, bt262.2.2)) else (if 0 ≤ 40 then (if 40 ≤ (t258.size : Int) then (some (t258.extract 0 40, bt262.2.1, bt262.2.2)) else (none)) else (none)))) else (some (t258, t259, t260))) = some (r1, r2, r3) := by rw [if_pos rfl] at H; exact H
 clear H
 have H := H1
 clear H1
 by_cases c5 : (t258.size : Int) > 40
 rotate_left
 ·rw [if_neg c5] at H
  have c5b0 : decide (40 < (t258.size : Int)) = false := decide_eq_false c5
  have c5b1 : decide (40 < t258.size) = false := decide_eq_false (by omega)
  clear c5
  simp only [Option.some.injEq, Prod.mk.injEq] at H
  obtain ⟨rfl, rfl, rfl⟩ := H
  go_enter Try.func70, Try.ntmps70
  go_wp2_with (first | ((with_reducible refine gate_callee (f := 84) rfl ?_); refine goesL_ (some 5) rfl rfl Try.func84 (by kernel_rfl) rfl #[.pointer (some ⟨g, 0, none⟩)] rfl mM ?_; (with_reducible refine (jI.calls k g s0_0 s0_1 s0_2 t258 t259 t260 w0 _ ?side1 ?side2 A2.out).mono ?_); (case side1 => exact aP0); (case side2 => exact aP2); rintro e w14 ⟨rfl, hi, hb, hk⟩; refine ⟨_, rfl, ?_⟩; have n0_ := aM (KeepBut.trans aP1 hk (.inl rfl)); have n1_ := aM (hb); have n2_ := aM (hi); clear HK; clear HB; clear HI0; have HK := n0_; have HB := n1_; have HI0 := n2_; clear n0_ n1_ n2_; (try clear hb); (try clear hb2); (try clear hk); (try clear hi)) | ((with_reducible refine gate_callee (f := 53) rfl ?_); refine goesL_ (some 7) rfl rfl Try.func53 (by kernel_rfl) rfl #[.string t258] rfl mM ?_; (with_reducible refine (jW.calls k t258 true _ A3.out).mono ?_); rintro e w' ⟨rfl, ⟨nd, rfl⟩⟩; refine ⟨_, rfl, ?_⟩))
  go_ret
  exact ⟨by first | rfl | (simp [errW_none, errW_some] <;> rfl) | (simp [errW_none, errW_some]; exact isE _) | (simp [*, errW_none, errW_some] <;> rfl), by (try simp only [Int.add_zero]); exact aP0, by exact aP2, aP1⟩
 rw [if_pos c5] at H
 have c5b0 : decide (40 < (t258.size : Int)) = true := decide_eq_true c5
 have c5b1 : decide (40 < t258.size) = true := decide_eq_true (by omega)
 clear c5
 replace H := Option.bind_eq_some_iff.mp H
 obtain ⟨⟨t262, t263, t264⟩, A60, H⟩ := H
 replace H : (if t262 = true then (some (t258, t263, t264)) else (if 0 ≤ 40 then (if 40 ≤ (t258.size : Int) then (some (t258.extract 0 40, t263, t264)) else (none)) else (none))) = some (r1, r2, r3) := H
 have A6 := aM A60
 clear A60
 by_cases c7 : t262 = true
 ·subst c7
  have H1 : (some (t258, t263, t264)) = some (r1, r2, r3) := by rw [if_pos rfl] at H; exact H
  clear H
  have H := H1
  clear H1
  simp only [Option.some.injEq, Prod.mk.injEq] at H
  obtain ⟨rfl, rfl, rfl⟩ := H
  go_enter Try.func70, Try.ntmps70
  go_wp2_with (first | ((with_reducible refine gate_callee (f := 84) rfl ?_); refine goesL_ (some 5) rfl rfl Try.func84 (by kernel_rfl) rfl #[.pointer (some ⟨g, 0, none⟩)] rfl mM ?_; (with_reducible refine (jI.calls k g s0_0 s0_1 s0_2 t258 t259 t260 w0 _ ?side1 ?side2 A2.out).mono ?_); (case side1 => exact aP0); (case side2 => exact aP2); rintro e w8 ⟨rfl, hi, hb, hk⟩; refine ⟨_, rfl, ?_⟩; have n0_ := aM (KeepBut.trans aP1 hk (.inl rfl)); have n1_ := aM (hb); have n2_ := aM (hi); clear HK; clear HB; clear HI0; have HK := n0_; have HB := n1_; have HI0 := n2_; clear n0_ n1_ n2_; (try clear hb); (try clear hb2); (try clear hk); (try clear hi)) | ((with_reducible refine gate_callee (f := 53) rfl ?_); refine goesL_ (some 7) rfl rfl Try.func53 (by kernel_rfl) rfl #[.string t258] rfl mM ?_; (with_reducible refine (jW.calls k t258 true _ A3.out).mono ?_); rintro e w' ⟨rfl, ⟨nd, rfl⟩⟩; refine ⟨_, rfl, ?_⟩) | (go_at_call 72; (with_reducible refine (jU.calls g s0_0 t259 t260 20 true t263 t264 w0 _ ?side1 ?side2 A6.out).mono ?_); (case side1 => exact aP0); (case side2 => exact aP2); rintro e w9 ⟨rfl, hi, hb, hk⟩; have n0_ := aM (KeepBut.trans aP1 hk (.inl rfl)); have n1_ := aM (hb); have n2_ := aM (hi); clear HK; clear HB; clear HI0; have HK := n0_; have HB := n1_; have HI0 := n2_; clear n0_ n1_ n2_; (try clear hb); (try clear hb2); (try clear hk); (try clear hi)))
  go_ret
  exact ⟨by first | rfl | (simp [errW_none, errW_some] <;> rfl) | (simp [errW_none, errW_some]; exact isE _) | (simp [*, errW_none, errW_some] <;> rfl), by (try simp only [Int.add_zero]); exact aP0, by exact aP2, aP1⟩
 replace c7 := Bool.eq_false_iff.mpr c7
 subst c7
 have H1 : (if 0 ≤ 40 then (if 40 ≤ (t258.size : Int) then (some (t258.extract 0 40, t263, t264)) else (none)) else (none)) = some (r1, r2, r3) := by rw [if_neg (show ¬ (false = true) by decide)] at H; exact H
 clear H
 have H := H1
 clear H1
 by_cases c10 : 0 ≤ 40
 rotate_left
 ·rw [if_neg c10] at H
  exact absurd H (by simp)
 rw [if_pos c10] at H
 have c10b0 := eq_true c10
 have c10b1 : decide (0 ≤ 40) = true := decide_eq_true c10
 clear c10
 by_cases c11 : 40 ≤ (t258.size : Int)
 rotate_left
 ·rw [if_neg c11] at H
  exact absurd H (by simp)
 rw [if_pos c11] at H
 have c11b0 := eq_true c11
 have c11b1 : decide (40 ≤ (t258.size : Int)) = true := decide_eq_true c11
 clear c11
 simp only [Option.some.injEq, Prod.mk.injEq] at H
 obtain ⟨rfl, rfl, rfl⟩ := H
 go_enter Try.func70, Try.ntmps70
 go_wp2_with (first | ((with_reducible refine gate_callee (f := 84) rfl ?_); refine goesL_ (some 5) rfl rfl Try.func84 (by kernel_rfl) rfl #[.pointer (some ⟨g, 0, none⟩)] rfl mM ?_; (with_reducible refine (jI.calls k g s0_0 s0_1 s0_2 t258 t259 t260 w0 _ ?side1 ?side2 A2.out).mono ?_); (case side1 => exact aP0); (case side2 => exact aP2); rintro e w12 ⟨rfl, hi, hb, hk⟩; refine ⟨_, rfl, ?_⟩; have n0_ := aM (KeepBut.trans aP1 hk (.inl rfl)); have n1_ := aM (hb); have n2_ := aM (hi); clear HK; clear HB; clear HI0; have HK := n0_; have HB := n1_; have HI0 := n2_; clear n0_ n1_ n2_; (try clear hb); (try clear hb2); (try clear hk); (try clear hi)) | ((with_reducible refine gate_callee (f := 53) rfl ?_); refine goesL_ (some 7) rfl rfl Try.func53 (by kernel_rfl) rfl #[.string t258] rfl mM ?_; (with_reducible refine (jW.calls k t258 true _ A3.out).mono ?_); rintro e w' ⟨rfl, ⟨nd, rfl⟩⟩; refine ⟨_, rfl, ?_⟩) | (go_at_call 72; (with_reducible refine (jU.calls g s0_0 t259 t260 20 false t263 t264 w0 _ ?side1 ?side2 A6.out).mono ?_); (case side1 => exact aP0); (case side2 => exact aP2); rintro e w13 ⟨rfl, hi, hb, hk⟩; have n0_ := aM (KeepBut.trans aP1 hk (.inl rfl)); have n1_ := aM (hb); have n2_ := aM (hi); clear HK; clear HB; clear HI0; have HK := n0_; have HB := n1_; have HI0 := n2_; clear n0_ n1_ n2_; (try clear hb); (try clear hb2); (try clear hk); (try clear hi)))
 go_ret
 exact ⟨by first | rfl | (simp [errW_none, errW_some] <;> rfl) | (simp [errW_none, errW_some]; exact isE _) | (simp [*, errW_none, errW_some] <;> rfl), by (try simp only [Int.add_zero]); exact aP0, by exact aP2, aP1⟩
mutual
def jE.l0 : Nat → ByteArray → List (S53) → Int → List Int → Int → Int → Option ((List (S53)) × Int × Int)
 | 0, _, _, _, _, _, _ => none
 | k + 1, x1, x5, x6, x1000, x1001, x1002 => if x6 < (x1.size : Int) then ((jD.f x1000 x1001 x1002 5).bind fun bt268 => (if (wrap64 (1 + bt268.1)) > (wrap64 ((x1.size : Int) - x6)) then (jE.j1 k x1 x5 x6 (wrap64 ((x1.size : Int) - x6)) x1000 bt268.2.1 bt268.2.2) else (jE.j1 k x1 x5 x6 (wrap64 (1 + bt268.1)) x1000 bt268.2.1 bt268.2.2))) else ((jU.f x1000 x1001 x1002 3).bind fun bt289 => (if bt289.1 = true then ((jV.f x1000 bt289.2.1 bt289.2.2 (([(⟨#[101, 110, 100]⟩ : ByteArray), (⟨#[46]⟩ : ByteArray)] : List ByteArray))).bind fun bt295 => (if x5.length < 3518437208883 then (some ((x5 ++ [(⟨0, bt295.1, (⟨#[]⟩ : ByteArray)⟩ : S53)]), bt295.2.1, bt295.2.2)) else (none))) else (some (x5, bt289.2.1, bt289.2.2))))
def jE.j1 : Nat → ByteArray → List (S53) → Int → Int → List Int → Int → Int → Option ((List (S53)) × Int × Int)
 | 0, _, _, _, _, _, _, _ => none
 | k + 1, x1, x5, x6, x7, x1000, x1001, x1002 => (jD.f x1000 x1001 x1002 4).bind fun bt271 => (if bt271.1 = 0 then (if 0 ≤ x6 then (if x6 ≤ (wrap64 (x6 + x7)) then (if (wrap64 (x6 + x7)) ≤ (x1.size : Int) then (if x5.length < 3518437208883 then (jE.l0 k x1 (x5 ++ [(⟨0, (⟨#[]⟩ : ByteArray), x1.extract (x6 : Int).toNat ((wrap64 (x6 + x7)) : Int).toNat⟩ : S53)]) (wrap64 (x6 + x7)) x1000 bt271.2.1 bt271.2.2) else (none)) else (none)) else (none)) else (none)) else (if bt271.1 = 1 then ((jV.f x1000 bt271.2.1 bt271.2.2 (([(⟨#[120]⟩ : ByteArray), (⟨#[121, 121]⟩ : ByteArray), (⟨#[65, 47]⟩ : ByteArray), (⟨#[110, 101, 119]⟩ : ByteArray), (⟨#[66]⟩ : ByteArray)] : List ByteArray))).bind fun bt280 => (if x5.length < 3518437208883 then (jE.l0 k x1 (x5 ++ [(⟨0, bt280.1, (⟨#[]⟩ : ByteArray)⟩ : S53)]) x6 x1000 bt280.2.1 bt280.2.2) else (none))) else (if x5.length < 3518437208883 then (jE.l0 k x1 (x5 ++ [(⟨x7, (⟨#[]⟩ : ByteArray), (⟨#[]⟩ : ByteArray)⟩ : S53)]) (wrap64 (x6 + x7)) x1000 bt271.2.1 bt271.2.2) else (none))))
end
def jE.f (k : Nat) (s0_0 : List Int) (s0_1 : Int) (s0_2 : Int) (a1 : ByteArray) : Option ((List (S53)) × Int × Int) := jE.l0 k a1 ([] : List (S53)) 0 s0_0 s0_1 s0_2
theorem jE.mono_l : ∀ k, (∀ y0 y1 y2 y3 y4 y5, LeO (jE.l0 k y0 y1 y2 y3 y4 y5) (jE.l0 (k + 1) y0 y1 y2 y3 y4 y5)) ∧ (∀ y0 y1 y2 y3 y4 y5 y6, LeO (jE.j1 k y0 y1 y2 y3 y4 y5 y6) (jE.j1 (k + 1) y0 y1 y2 y3 y4 y5 y6))
 | 0 => ⟨fun _ _ _ _ _ _ r h => by simp [jE.l0] at h, fun _ _ _ _ _ _ _ r h => by simp [jE.j1] at h⟩
 | k + 1 => by
  obtain ⟨ih0, ih1⟩ := jE.mono_l k
  refine ⟨?_, ?_⟩
  ·intro y0 y1 y2 y3 y4 y5
   unfold jE.l0
   repeat' first
   | (with_reducible exact ih0 _ _ _ _ _ _)
   | (with_reducible exact ih1 _ _ _ _ _ _ _)
   | (with_reducible exact LeO.refl _)
   | (with_reducible exact LeO.none _)
   | (with_reducible refine LeO.ite ?_ ?_)
   | (with_reducible refine LeO.bind ?_ (fun _ => ?_))
   | exact ih0 _ _ _ _ _ _
   | exact ih1 _ _ _ _ _ _ _
   | exact LeO.none _
   | refine LeO.ite ?_ ?_
   | refine LeO.bind ?_ (fun _ => ?_)
  ·intro y0 y1 y2 y3 y4 y5 y6
   unfold jE.j1
   repeat' first
   | (with_reducible exact ih0 _ _ _ _ _ _)
   | (with_reducible exact ih1 _ _ _ _ _ _ _)
   | (with_reducible exact LeO.refl _)
   | (with_reducible exact LeO.none _)
   | (with_reducible refine LeO.ite ?_ ?_)
   | (with_reducible refine LeO.bind ?_ (fun _ => ?_))
   | exact ih0 _ _ _ _ _ _
   | exact ih1 _ _ _ _ _ _ _
   | exact LeO.none _
   | refine LeO.ite ?_ ?_
   | refine LeO.bind ?_ (fun _ => ?_)
theorem jE.mono : ∀ a0 a1 a2 a3 k, LeO (jE.f k a0 a1 a2 a3) (jE.f (k + 1) a0 a1 a2 a3) := by
 intro a0 a1 a2 a3 k
 obtain ⟨ih0, ih1⟩ := jE.mono_l k
 unfold jE.f
 repeat' first
   | (with_reducible exact ih0 _ _ _ _ _ _)
   | (with_reducible exact ih1 _ _ _ _ _ _ _)
   | (with_reducible exact LeO.refl _)
   | (with_reducible exact LeO.none _)
   | (with_reducible refine LeO.ite ?_ ?_)
   | (with_reducible refine LeO.bind ?_ (fun _ => ?_))
   | exact ih0 _ _ _ _ _ _
   | exact ih1 _ _ _ _ _ _ _
   | exact LeO.none _
   | refine LeO.ite ?_ ?_
   | refine LeO.bind ?_ (fun _ => ?_)
set_option maxHeartbeats 8000000 in
set_option maxRecDepth 100000 in
theorem jE.calls (k : Nat) (g : Nat) (s0_0 : List Int) (s0_1 : Int) (s0_2 : Int) (a1 : ByteArray) (r1 : List (S53)) (r2 : Int) (r3 : Int) (w0 w : World) (hI : IsS83 w0 w g s0_0 s0_1 s0_2) (hB : Below w0.heap.size w0 w) (h : jE.f k s0_0 s0_1 s0_2 a1 = some (r1, r2, r3)) :
  Calls Try.prog 71 #[.pointer (some ⟨g, 0, none⟩), .string a1] w fun e w' => ∃ v0_ : Value, e = .returned (v0_) ∧ Kd.R k53 53 w' w.heap.size (fun _ => True) v0_ r1 ∧ IsS83 w0 w' g s0_0 r2 r3 ∧ Below w0.heap.size w0 w' ∧ KeepBut w w' g none := by
 have hu53 := Try.underlying53
 have HI0 := aM hI
 have HK := aM (KeepBut.refl w g none)
 have HL := aM hB.size
 clear hI
 have HW0 := aM hB.size
 have HB := aM hB
 clear hB
 have H : (jE.l0 k a1 ([] : List (S53)) 0 s0_0 s0_1 s0_2) = some (r1, r2, r3) := h
 clear h
 have H' := aM H
 clear H
 go_enter Try.func71, Try.ntmps71
 go_wp2
 go_loopg [5, 6] k (fun kq v5 v6 w' => ∃ (x5_1 : List (S53)) (x6_1 : Int) (x1001_1 : Int) (x1002_1 : Int), v6 = .int .i64 x6_1 ∧ Aside0 (jE.l0 kq a1 x5_1 x6_1 s0_0 x1001_1 x1002_1 = some (r1, r2, r3)) ∧ Aside0 (kq ≤ k) ∧ Aside0 (Kd.R k53 53 w' w.heap.size (fun _ => True) v5 x5_1) ∧ Aside0 (IsS83 w0 w' g s0_0 x1001_1 x1002_1) ∧ Aside0 (KeepBut w w' g none) ∧ Aside0 (Below w0.heap.size w0 w'))
 case atStart => exact ⟨(([] : List (S53))), (0), (s0_1), (s0_2), aP16, H', ⟨Nat.le_refl _⟩, ⟨by first | exact Kd.R_nil _ _ _ _ _ | exact Kd.N_nil _ _ _ _ _ | exact Kd.V_nil _ _ _ _ _ | exact Kd.Q_nil _ _ _ _ _ | exact Kd.S_nil _ _ _ _ _⟩, ⟨aP0⟩, ⟨aP1⟩, ⟨aP2⟩⟩
 case round =>
  clear H'
  try clear p2
  obtain ⟨x5_1, x6_1, x1001_1, x1002_1, rfl, HA, HK1, HO_5, HI0, HK, HB⟩ := hrel
  cases gk with
  | zero => exact absurd HA.out (by simp [jE.l0])
  | succ k1 =>
   have H := HA.out
   clear HA
   simp only [jE.l0] at H
   by_cases c3 : x6_1 < (a1.size : Int)
   rotate_left
   ·rw [if_neg c3] at H
    have c3b0 : decide (x6_1 < (a1.size : Int)) = false := decide_eq_false c3
    clear c3
    replace H := Option.bind_eq_some_iff.mp H
    obtain ⟨⟨t289, t290, t291⟩, A280, H⟩ := H
    replace H : (if t289 = true then ((jV.f s0_0 t290 t291 (([(⟨#[101, 110, 100]⟩ : ByteArray), (⟨#[46]⟩ : ByteArray)] : List ByteArray))).bind fun bt295 => (if x5_1.length < 3518437208883 then (some ((x5_1 ++ [(⟨0, bt295.1, (⟨#[]⟩ : ByteArray)⟩ : S53)]), bt295.2.1, bt295.2.2)) else (none))) else (some (x5_1, t290, t291))) = some (r1, r2, r3) := H
    have A28 := aM A280
    clear A280
    by_cases c29 : t289 = true
    rotate_left
    ·replace c29 := Bool.eq_false_iff.mpr c29
     subst c29
     have H1 : (some (x5_1, t290, t291)) = some (r1, r2, r3) := by rw [if_neg (show ¬ (false = true) by decide)] at H; exact H
     clear H
     have H := H1
     clear H1
     simp only [Option.some.injEq, Prod.mk.injEq] at H
     obtain ⟨rfl, rfl, rfl⟩ := H
     go_wp2_with (first | ((with_reducible refine gate_callee (f := 72) rfl ?_); refine goesL_ (some 60) rfl rfl Try.func72 (by kernel_rfl) rfl #[.pointer (some ⟨g, 0, none⟩), .int .i64 3] rfl mM ?_; (with_reducible refine (jU.calls g s0_0 x1001_1 x1002_1 3 false t290 t291 w0 _ ?side1 ?side2 A28.out).mono ?_); (case side1 => exact aP0); (case side2 => exact aP2); rintro e w38 ⟨rfl, hi, hb, hk⟩; refine ⟨_, rfl, ?_⟩; have n0_ := aM (Kd.R_mono (Kd.R_keep (IsS83.apart (show IsS83 w0 _ g s0_0 x1001_1 x1002_1 from aP0) (rR HO_5.out) (by decide)) hk (fun _ h => h.2)) (fun _ h => h.1)); have n1_ := aM (KeepBut.trans aP1 hk (.inl rfl)); have n2_ := aM (hb); have n3_ := aM (hi); clear HO_5; clear HK; clear HB; clear HI0; have HO_5 := n0_; have HK := n1_; have HB := n2_; have HI0 := n3_; clear n0_ n1_ n2_ n3_; (try clear hb); (try clear hb2); (try clear hk); (try clear hi)))
     go_ret
     exact ⟨_, by first | rfl | (simp [errW_none, errW_some] <;> rfl) | (simp [*, errW_none, errW_some] <;> rfl), by (with_reducible repeat (first | apply Kd.R_alloc | apply Kd.R_drewN | apply Kd.R_drew)); exact HO_5.out, by exact aP0, by exact aP2, aP1⟩
    subst c29
    have H1 : ((jV.f s0_0 t290 t291 (([(⟨#[101, 110, 100]⟩ : ByteArray), (⟨#[46]⟩ : ByteArray)] : List ByteArray))).bind fun bt295 => (if x5_1.length < 3518437208883 then (some ((x5_1 ++ [(⟨0, bt295.1, (⟨#[]⟩ : ByteArray)⟩ : S53)]), bt295.2.1, bt295.2.2)) else (none))) = some (r1, r2, r3) := by rw [if_pos rfl] at H; exact H
    clear H
    have H := H1
    clear H1
    obtain ⟨y292, hy292⟩ : ∃ y_ : List ByteArray, y_ = (([(⟨#[101, 110, 100]⟩ : ByteArray), (⟨#[46]⟩ : ByteArray)] : List ByteArray)) := ⟨_, rfl⟩
    replace H : ((jV.f s0_0 t290 t291 y292).bind fun bt295 => (if x5_1.length < 3518437208883 then (some ((x5_1 ++ [(⟨0, bt295.1, (⟨#[]⟩ : ByteArray)⟩ : S53)]), bt295.2.1, bt295.2.2)) else (none))) = some (r1, r2, r3) := by first | (rw [hy292]; with_reducible exact H) | (have H2_ := (Option.bind_some _ _).symm.trans H; rw [hy292]; with_reducible exact H2_) | (have H2_ := (Option.bind_some _ _).symm.trans H; with_reducible exact H2_) | with_reducible exact H | (rw [hy292]; exact H) | exact H
    have Ny292 := aM hy292
    clear hy292
    replace H := Option.bind_eq_some_iff.mp H
    obtain ⟨⟨t295, t296, t297⟩, A300, H⟩ := H
    replace H : (if x5_1.length < 3518437208883 then (some ((x5_1 ++ [(⟨0, t295, (⟨#[]⟩ : ByteArray)⟩ : S53)]), t296, t297)) else (none)) = some (r1, r2, r3) := H
    have A30 := aM A300
    clear A300
    by_cases c31 : x5_1.length < 3518437208883
    rotate_left
    ·rw [if_neg c31] at H
     exact absurd H (by simp)
    rw [if_pos c31] at H
    have LMc31 := aM c31
    clear c31
    obtain ⟨y298, hy298⟩ : ∃ y_ : List (S53), y_ = (x5_1 ++ [(⟨0, t295, (⟨#[]⟩ : ByteArray)⟩ : S53)]) := ⟨_, rfl⟩
    replace H : (some (y298, t296, t297)) = some (r1, r2, r3) := by first | (rw [hy298]; with_reducible exact H) | (have H2_ := (Option.bind_some _ _).symm.trans H; rw [hy298]; with_reducible exact H2_) | (have H2_ := (Option.bind_some _ _).symm.trans H; with_reducible exact H2_) | with_reducible exact H | (rw [hy298]; exact H) | exact H
    have Ny298 := aM hy298
    clear hy298
    simp only [Option.some.injEq, Prod.mk.injEq] at H
    obtain ⟨rfl, rfl, rfl⟩ := H
    go_wp2_with (first | ((with_reducible refine gate_callee (f := 72) rfl ?_); refine goesL_ (some 60) rfl rfl Try.func72 (by kernel_rfl) rfl #[.pointer (some ⟨g, 0, none⟩), .int .i64 3] rfl mM ?_; (with_reducible refine (jU.calls g s0_0 x1001_1 x1002_1 3 true t290 t291 w0 _ ?side1 ?side2 A28.out).mono ?_); (case side1 => exact aP0); (case side2 => exact aP2); rintro e w32 ⟨rfl, hi, hb, hk⟩; refine ⟨_, rfl, ?_⟩; have n0_ := aM (Kd.R_mono (Kd.R_keep (IsS83.apart (show IsS83 w0 _ g s0_0 x1001_1 x1002_1 from aP0) (rR HO_5.out) (by decide)) hk (fun _ h => h.2)) (fun _ h => h.1)); have n1_ := aM (KeepBut.trans aP1 hk (.inl rfl)); have n2_ := aM (hb); have n3_ := aM (hi); clear HO_5; clear HK; clear HB; clear HI0; have HO_5 := n0_; have HK := n1_; have HB := n2_; have HI0 := n3_; clear n0_ n1_ n2_ n3_; (try clear hb); (try clear hb2); (try clear hk); (try clear hi)) | ((with_reducible refine gate_dst (N := 63) rfl ?_); refine Kd.R_lit Kd.string _ 9 ?hg (N := 63) ?hd (xs := ([(⟨#[101, 110, 100]⟩ : ByteArray), (⟨#[46]⟩ : ByteArray)] : List ByteArray)) (inner := [.string (⟨#[101, 110, 100]⟩ : ByteArray), .string (⟨#[46]⟩ : ByteArray)]) (ok := fun _ => True) (okp := fun _ => True) ?hr ?hp (fun _ hk => hk) trivial (Below.refl _ _) (Nat.le_refl _) (by simp) ?_; (case hd => rfl); (case hg => rfl); (case hr => exact aP21); (case hp => exact (Reps.one (show Kd.M Kd.string _ _ _ (⟨#[101, 110, 100]⟩ : ByteArray) [.string (⟨#[101, 110, 100]⟩ : ByteArray)] from rfl) (Reps.one (show Kd.M Kd.string _ _ _ (⟨#[46]⟩ : ByteArray) [.string (⟨#[46]⟩ : ByteArray)] from rfl) (Reps.none _ _)))); intro v293 w33 ho34 hb hg_ hnew_; clear hg_ hnew_; (first | rw [← Ny292.out] at ho34 | (simp only [Int.reduceToNat] at ho34; rw [← Ny292.out] at ho34)); have n0_ := aM (Kd.R_below (rR HO_5.out) hb); have n1_ := aM (Kd.R_lower ho34 (keep_size (w := w) (g := g) (row := none) aP1)); have n2_ := aM (IsS83.below aP0 hb); have n3_ := aM (KeepBut.trans aP1 (KeepBut.of_below hb g none) (.inl rfl)); have n4_ := aM (below_step aP2 hb); clear HO_5; clear HI0; clear HK; clear HB; have HO_5 := n0_; have HO294 := n1_; have HI0 := n2_; have HK := n3_; have HB := n4_; clear n0_ n1_ n2_ n3_ n4_; clear hb ho34; obtain ⟨Ao35, co35, eo35⟩ := Kd.R_slice HO294.out; subst eo35) | ((with_reducible refine gate_callee (f := 85) rfl ?_); refine goesL_ (some 64) rfl rfl Try.func85 (by kernel_rfl) rfl #[.pointer (some ⟨g, 0, none⟩), .slice Ao35 y292.length co35] rfl mM ?_; (with_reducible refine (jV.calls g s0_0 t290 t291 _ _ y292 t295 t296 t297 w0 _ ?side1 ?side2 ?side3 ?side4 ?side5 A30.out).mono ?_); (case side1 => exact aP0); (case side2 => exact aP2); (case side3 => exact cC ((Kd.R_reads' HO294.out).2.2)); (case side4 => exact (Kd.R_reads' HO294.out).2.1); (case side5 => exact far_slice (IsS83.own_ne HI0.out HO294.out (by decide))); rintro e w36 ⟨rfl, hi, hb, hk⟩; refine ⟨_, rfl, ?_⟩; have n0_ := aM (Kd.R_mono (Kd.R_keep (IsS83.apart (show IsS83 w0 _ g s0_0 t290 t291 from aP0) (rR HO_5.out) (by decide)) hk (fun _ h => h.2)) (fun _ h => h.1)); have n1_ := aM (Kd.R_mono (Kd.R_keep (IsS83.apart (show IsS83 w0 _ g s0_0 t290 t291 from aP0) (rR HO294.out) (by decide)) hk (fun _ h => h.2)) (fun _ h => h.1)); have n2_ := aM (KeepBut.trans aP1 hk (.inl rfl)); have n3_ := aM (hb); have n4_ := aM (hi); clear HO_5; clear HO294; clear HK; clear HB; clear HI0; have HO_5 := n0_; have HO294 := n1_; have HK := n2_; have HB := n3_; have HI0 := n4_; clear n0_ n1_ n2_ n3_ n4_; (try clear hb); (try clear hb2); (try clear hk); (try clear hi)) | ((with_reducible refine gate_builtin (b := .append) (xs := #[.tmp 61, .tmp 66]) rfl ?_); at_builtin; refine Kd.R_append k53 w.heap.size rfl (.tmp 61) (.tmp 66) 22 53 (.agg #[(.int .i64 0), (.string ⟨#[]⟩), (.string ⟨#[]⟩)]) 40 rfl Try.underlying22 info53 rfl (by decide) (by omega) u5 x5_1 (⟨0, t295, (⟨#[]⟩ : ByteArray)⟩ : S53) [.int .i64 0, .string t295, .string (⟨#[]⟩ : ByteArray)] (fun _ => True) (fun _ => False) rfl rfl ?aP (fun _ hk => hk.elim) ?aF ?aO (Below.refl _ _) ?aS ?aL ?_; (case aP => exact k53_mkM _ _ _ (⟨0, t295, (⟨#[]⟩ : ByteArray)⟩ : S53)); (case aF => exact (fun _ _ => trivial)); (case aO => exact (rR HO_5.out)); (case aS => exact (keep_size (w := w) (g := g) (row := none) aP1)); (case aL => have := LMc31.out; omega); intro v299 w37 ho hb hg hat; rw [← Ny298.out] at ho; have n0_ := aM (IsS83.grown aP0 hg (IsS83.own_ne HI0.out HO_5.out (by decide))); have n1_ := aM (Kd.R_over' (rR HO294.out) (Kd.R_typed (rR HO_5.out)) (by decide) hg); have n2_ := aM (below_weaken aP2 HL.out hb); have n3_ := aM (KeepBut.trans aP1 (KeepBut.of_grown hg g) (Kd.R_base2 HO_5.out)); have n4_ := aM (ho); clear HI0; clear HO294; clear HB; clear HK; clear HO_5; have HI0 := n0_; have HO294 := n1_; have HB := n2_; have HK := n3_; have HO300 := n4_; clear n0_ n1_ n2_ n3_ n4_; clear ho hb hg hat))
    go_ret
    exact ⟨_, by first | rfl | (simp [errW_none, errW_some] <;> rfl) | (simp [*, errW_none, errW_some] <;> rfl), by (with_reducible repeat (first | apply Kd.R_alloc | apply Kd.R_drewN | apply Kd.R_drew)); exact HO300.out, by exact aP0, by exact aP2, aP1⟩
   rw [if_pos c3] at H
   have c3b0 : decide (x6_1 < (a1.size : Int)) = true := decide_eq_true c3
   clear c3
   replace H := Option.bind_eq_some_iff.mp H
   obtain ⟨⟨t268, t269, t270⟩, A40, H⟩ := H
   replace H : (if (wrap64 (1 + t268)) > (wrap64 ((a1.size : Int) - x6_1)) then (jE.j1 k1 a1 x5_1 x6_1 (wrap64 ((a1.size : Int) - x6_1)) s0_0 t269 t270) else (jE.j1 k1 a1 x5_1 x6_1 (wrap64 (1 + t268)) s0_0 t269 t270)) = some (r1, r2, r3) := H
   have A4 := aM A40
   clear A40
   have HC5 := aM H
   clear H
   go_upto_if 20 with (first | ((with_reducible refine gate_callee (f := 74) rfl ?_); refine goesL_ (some 13) rfl rfl Try.func74 (by kernel_rfl) rfl #[.pointer (some ⟨g, 0, none⟩), .int .i64 5] rfl mM ?_; (with_reducible refine (jD.calls g s0_0 x1001_1 x1002_1 5 t268 t269 t270 w0 _ ?side1 ?side2 A4.out).mono ?_); (case side1 => exact aP0); (case side2 => exact aP2); rintro e w6 ⟨rfl, hi, hb, hk⟩; refine ⟨_, rfl, ?_⟩; have n0_ := aM (Kd.R_mono (Kd.R_keep (IsS83.apart (show IsS83 w0 _ g s0_0 x1001_1 x1002_1 from aP0) (rR HO_5.out) (by decide)) hk (fun _ h => h.2)) (fun _ h => h.1)); have n1_ := aM (KeepBut.trans aP1 hk (.inl rfl)); have n2_ := aM (hb); have n3_ := aM (hi); clear HO_5; clear HK; clear HB; clear HI0; have HO_5 := n0_; have HK := n1_; have HB := n2_; have HI0 := n3_; clear n0_ n1_ n2_ n3_; (try clear hb); (try clear hb2); (try clear hk); (try clear hi)))
   (try simp only [Act.put, List.setIfInBounds_toArray, List.set_cons_zero, List.set_cons_succ])
   go_cut [7] (fun v7 wc => ∃ (kq : Nat) (x7_4 : Int), v7 = .int .i64 x7_4 ∧ Aside0 (jE.j1 kq a1 x5_1 x6_1 x7_4 s0_0 t269 t270 = some (r1, r2, r3)) ∧ Aside0 (kq ≤ k1) ∧ Aside0 (Kd.R k53 53 wc w.heap.size (fun _ => True) u5 x5_1) ∧ Aside0 (IsS83 w0 wc g s0_0 t269 t270) ∧ Aside0 (KeepBut w wc g none) ∧ Aside0 (Below w0.heap.size w0 wc))
   case first =>
    have H := HC5.out
    clear HC5
    by_cases c7 : (wrap64 (1 + t268)) > (wrap64 ((a1.size : Int) - x6_1))
    rotate_left
    ·rw [if_neg c7] at H
     have c7b0 : decide ((wrap64 ((a1.size : Int) - x6_1)) < (wrap64 (1 + t268))) = false := decide_eq_false c7
     clear c7
     (first | rw [c7b0] | (simp only [i64_w, i32_w]; rw [c7b0]) | rw [c7e] | skip)
     have H' := aM H
     clear H
     go_wp2
     go_meet
     case rel => exact ⟨_, (wrap64 (1 + t268)), aP16, H', ⟨by have := HK1.out; first | omega | exact Nat.le_refl _⟩, ⟨rR HO_5.out⟩, ⟨aP0⟩, ⟨aP1⟩, ⟨aP2⟩⟩
    rw [if_pos c7] at H
    have c7b0 : decide ((wrap64 ((a1.size : Int) - x6_1)) < (wrap64 (1 + t268))) = true := decide_eq_true c7
    clear c7
    (first | rw [c7b0] | (simp only [i64_w, i32_w]; rw [c7b0]) | rw [c7e] | skip)
    have H' := aM H
    clear H
    go_wp2
    go_meet
    case rel => exact ⟨_, (wrap64 ((a1.size : Int) - x6_1)), aP16, H', ⟨by have := HK1.out; first | omega | exact Nat.le_refl _⟩, ⟨rR HO_5.out⟩, ⟨aP0⟩, ⟨aP1⟩, ⟨aP2⟩⟩
   case rest =>
    clear HC5
    try clear p2
    try clear c3
    try clear c3b0
    try clear p6
    try clear c7
    try clear c7b0
    try clear p2
    obtain ⟨kq, x7_4, rfl, HA, HJ4, HO_5, HI0, HK, HB⟩ := hcut
    cases kq with
    | zero => exact absurd HA.out (by simp [jE.j1])
    | succ kj4 =>
     have H := HA.out
     clear HA
     simp only [jE.j1] at H
     replace H := Option.bind_eq_some_iff.mp H
     obtain ⟨⟨t271, t272, t273⟩, A80, H⟩ := H
     replace H : (if t271 = 0 then (if 0 ≤ x6_1 then (if x6_1 ≤ (wrap64 (x6_1 + x7_4)) then (if (wrap64 (x6_1 + x7_4)) ≤ (a1.size : Int) then (if x5_1.length < 3518437208883 then (jE.l0 kj4 a1 (x5_1 ++ [(⟨0, (⟨#[]⟩ : ByteArray), a1.extract (x6_1 : Int).toNat ((wrap64 (x6_1 + x7_4)) : Int).toNat⟩ : S53)]) (wrap64 (x6_1 + x7_4)) s0_0 t272 t273) else (none)) else (none)) else (none)) else (none)) else (if t271 = 1 then ((jV.f s0_0 t272 t273 (([(⟨#[120]⟩ : ByteArray), (⟨#[121, 121]⟩ : ByteArray), (⟨#[65, 47]⟩ : ByteArray), (⟨#[110, 101, 119]⟩ : ByteArray), (⟨#[66]⟩ : ByteArray)] : List ByteArray))).bind fun bt280 => (if x5_1.length < 3518437208883 then (jE.l0 kj4 a1 (x5_1 ++ [(⟨0, bt280.1, (⟨#[]⟩ : ByteArray)⟩ : S53)]) x6_1 s0_0 bt280.2.1 bt280.2.2) else (none))) else (if x5_1.length < 3518437208883 then (jE.l0 kj4 a1 (x5_1 ++ [(⟨x7_4, (⟨#[]⟩ : ByteArray), (⟨#[]⟩ : ByteArray)⟩ : S53)]) (wrap64 (x6_1 + x7_4)) s0_0 t272 t273) else (none)))) = some (r1, r2, r3) := H
     have A8 := aM A80
     clear A80
     by_cases c9 : t271 = 0
     ·rw [if_pos c9] at H
      have c9b0 : (t271 == 0) = true := beq_iff_eq.mpr c9
      have c9b1 : (t271 != 0) = false := bne_eq_false_iff_eq.mpr c9
      clear c9
      by_cases c10 : 0 ≤ x6_1
      rotate_left
      ·rw [if_neg c10] at H
       exact absurd H (by simp)
      rw [if_pos c10] at H
      have c10b0 := eq_true c10
      have c10b1 : decide (0 ≤ x6_1) = true := decide_eq_true c10
      clear c10
      by_cases c11 : x6_1 ≤ (wrap64 (x6_1 + x7_4))
      rotate_left
      ·rw [if_neg c11] at H
       exact absurd H (by simp)
      rw [if_pos c11] at H
      have c11b0 := eq_true c11
      have c11b1 : decide (x6_1 ≤ (wrap64 (x6_1 + x7_4))) = true := decide_eq_true c11
      by_cases c12 : (wrap64 (x6_1 + x7_4)) ≤ (a1.size : Int)
      rotate_left
      ·rw [if_neg c12] at H
       exact absurd H (by simp)
      rw [if_pos c12] at H
      have c12b0 := eq_true c12
      have c12b1 : decide ((wrap64 (x6_1 + x7_4)) ≤ (a1.size : Int)) = true := decide_eq_true c12
      by_cases c13 : x5_1.length < 3518437208883
      rotate_left
      ·rw [if_neg c13] at H
       exact absurd H (by simp)
      rw [if_pos c13] at H
      have LMc13 := aM c13
      clear c13
      obtain ⟨y274, hy274⟩ : ∃ y_ : List (S53), y_ = (x5_1 ++ [(⟨0, (⟨#[]⟩ : ByteArray), a1.extract (x6_1 : Int).toNat ((wrap64 (x6_1 + x7_4)) : Int).toNat⟩ : S53)]) := ⟨_, rfl⟩
      replace H : (jE.l0 kj4 a1 y274 (wrap64 (x6_1 + x7_4)) s0_0 t272 t273) = some (r1, r2, r3) := by first | (rw [hy274]; with_reducible exact H) | (have H2_ := (Option.bind_some _ _).symm.trans H; rw [hy274]; with_reducible exact H2_) | (have H2_ := (Option.bind_some _ _).symm.trans H; with_reducible exact H2_) | with_reducible exact H | (rw [hy274]; exact H) | exact H
      have Ny274 := aM hy274
      clear hy274
      have H' := aM H
      clear H
      go_wp2_with (first | ((with_reducible refine gate_callee (f := 74) rfl ?_); refine goesL_ (some 26) rfl rfl Try.func74 (by kernel_rfl) rfl #[.pointer (some ⟨g, 0, none⟩), .int .i64 4] rfl mM ?_; (with_reducible refine (jD.calls g s0_0 t269 t270 4 t271 t272 t273 w0 _ ?side1 ?side2 A8.out).mono ?_); (case side1 => exact aP0); (case side2 => exact aP2); rintro e w14 ⟨rfl, hi, hb, hk⟩; refine ⟨_, rfl, ?_⟩; have n0_ := aM (Kd.R_mono (Kd.R_keep (IsS83.apart (show IsS83 w0 _ g s0_0 t269 t270 from aP0) (rR HO_5.out) (by decide)) hk (fun _ h => h.2)) (fun _ h => h.1)); have n1_ := aM (KeepBut.trans aP1 hk (.inl rfl)); have n2_ := aM (hb); have n3_ := aM (hi); clear HO_5; clear HK; clear HB; clear HI0; have HO_5 := n0_; have HK := n1_; have HB := n2_; have HI0 := n3_; clear n0_ n1_ n2_ n3_; (try clear hb); (try clear hb2); (try clear hk); (try clear hi)) | ((with_reducible refine gate_builtin (b := .append) (xs := #[.tmp 37, .tmp 45]) rfl ?_); at_builtin; refine Kd.R_append k53 w.heap.size rfl (.tmp 37) (.tmp 45) 22 53 (.agg #[(.int .i64 0), (.string ⟨#[]⟩), (.string ⟨#[]⟩)]) 40 rfl Try.underlying22 info53 rfl (by decide) (by omega) u5 x5_1 (⟨0, (⟨#[]⟩ : ByteArray), a1.extract (x6_1 : Int).toNat ((wrap64 (x6_1 + x7_4)) : Int).toNat⟩ : S53) [.int .i64 0, .string (⟨#[]⟩ : ByteArray), .string (a1.extract (x6_1 : Int).toNat ((wrap64 (x6_1 + x7_4)) : Int).toNat)] (fun _ => True) (fun _ => False) rfl rfl ?aP (fun _ hk => hk.elim) ?aF ?aO (Below.refl _ _) ?aS ?aL ?_; (case aP => exact k53_mkM _ _ _ (⟨0, (⟨#[]⟩ : ByteArray), a1.extract (x6_1 : Int).toNat ((wrap64 (x6_1 + x7_4)) : Int).toNat⟩ : S53)); (case aF => exact (fun _ _ => trivial)); (case aO => exact (rR HO_5.out)); (case aS => exact (keep_size (w := w) (g := g) (row := none) aP1)); (case aL => have := LMc13.out; omega); intro v275 w15 ho hb hg hat; rw [← Ny274.out] at ho; have n0_ := aM (IsS83.grown aP0 hg (IsS83.own_ne HI0.out HO_5.out (by decide))); have n1_ := aM (below_weaken aP2 HL.out hb); have n2_ := aM (KeepBut.trans aP1 (KeepBut.of_grown hg g) (Kd.R_base2 HO_5.out)); have n3_ := aM (ho); clear HI0; clear HB; clear HK; clear HO_5; have HI0 := n0_; have HB := n1_; have HK := n2_; have HO276 := n3_; clear n0_ n1_ n2_ n3_; clear ho hb hg hat))
      go_roundg kj4
      case measure => have := HK1.out; have := HJ4.out; omega
      case rel => exact ⟨(y274), (wrap64 (x6_1 + x7_4)), (t272), (t273), aP16, H', ⟨by have := HK1.out; have := HJ4.out; omega⟩, ⟨rR HO276.out⟩, ⟨aP0⟩, ⟨aP1⟩, ⟨aP2⟩⟩
     rw [if_neg c9] at H
     have c9b0 : (t271 == 0) = false := beq_eq_false_iff_ne.mpr c9
     have c9b1 : (t271 != 0) = true := bne_iff_ne.mpr c9
     by_cases c16 : t271 = 1
     rotate_left
     ·rw [if_neg c16] at H
      have c16b0 : (t271 == 1) = false := beq_eq_false_iff_ne.mpr c16
      have c16b1 : (t271 != 1) = true := bne_iff_ne.mpr c16
      by_cases c25 : x5_1.length < 3518437208883
      rotate_left
      ·rw [if_neg c25] at H
       exact absurd H (by simp)
      rw [if_pos c25] at H
      have LMc25 := aM c25
      clear c25
      obtain ⟨y286, hy286⟩ : ∃ y_ : List (S53), y_ = (x5_1 ++ [(⟨x7_4, (⟨#[]⟩ : ByteArray), (⟨#[]⟩ : ByteArray)⟩ : S53)]) := ⟨_, rfl⟩
      replace H : (jE.l0 kj4 a1 y286 (wrap64 (x6_1 + x7_4)) s0_0 t272 t273) = some (r1, r2, r3) := by first | (rw [hy286]; with_reducible exact H) | (have H2_ := (Option.bind_some _ _).symm.trans H; rw [hy286]; with_reducible exact H2_) | (have H2_ := (Option.bind_some _ _).symm.trans H; with_reducible exact H2_) | with_reducible exact H | (rw [hy286]; exact H) | exact H
      have Ny286 := aM hy286
      clear hy286
      have H' := aM H
      clear H
      go_wp2_with (first | ((with_reducible refine gate_callee (f := 74) rfl ?_); refine goesL_ (some 26) rfl rfl Try.func74 (by kernel_rfl) rfl #[.pointer (some ⟨g, 0, none⟩), .int .i64 4] rfl mM ?_; (with_reducible refine (jD.calls g s0_0 t269 t270 4 t271 t272 t273 w0 _ ?side1 ?side2 A8.out).mono ?_); (case side1 => exact aP0); (case side2 => exact aP2); rintro e w26 ⟨rfl, hi, hb, hk⟩; refine ⟨_, rfl, ?_⟩; have n0_ := aM (Kd.R_mono (Kd.R_keep (IsS83.apart (show IsS83 w0 _ g s0_0 t269 t270 from aP0) (rR HO_5.out) (by decide)) hk (fun _ h => h.2)) (fun _ h => h.1)); have n1_ := aM (KeepBut.trans aP1 hk (.inl rfl)); have n2_ := aM (hb); have n3_ := aM (hi); clear HO_5; clear HK; clear HB; clear HI0; have HO_5 := n0_; have HK := n1_; have HB := n2_; have HI0 := n3_; clear n0_ n1_ n2_ n3_; (try clear hb); (try clear hb2); (try clear hk); (try clear hi)) | ((with_reducible refine gate_builtin (b := .append) (xs := #[.tmp 27, .tmp 30]) rfl ?_); at_builtin; refine Kd.R_append k53 w.heap.size rfl (.tmp 27) (.tmp 30) 22 53 (.agg #[(.int .i64 0), (.string ⟨#[]⟩), (.string ⟨#[]⟩)]) 40 rfl Try.underlying22 info53 rfl (by decide) (by omega) u5 x5_1 (⟨x7_4, (⟨#[]⟩ : ByteArray), (⟨#[]⟩ : ByteArray)⟩ : S53) [.int .i64 x7_4, .string (⟨#[]⟩ : ByteArray), .string (⟨#[]⟩ : ByteArray)] (fun _ => True) (fun _ => False) rfl rfl ?aP (fun _ hk => hk.elim) ?aF ?aO (Below.refl _ _) ?aS ?aL ?_; (case aP => exact k53_mkM _ _ _ (⟨x7_4, (⟨#[]⟩ : ByteArray), (⟨#[]⟩ : ByteArray)⟩ : S53)); (case aF => exact (fun _ _ => trivial)); (case aO => exact (rR HO_5.out)); (case aS => exact (keep_size (w := w) (g := g) (row := none) aP1)); (case aL => have := LMc25.out; omega); intro v287 w27 ho hb hg hat; rw [← Ny286.out] at ho; have n0_ := aM (IsS83.grown aP0 hg (IsS83.own_ne HI0.out HO_5.out (by decide))); have n1_ := aM (below_weaken aP2 HL.out hb); have n2_ := aM (KeepBut.trans aP1 (KeepBut.of_grown hg g) (Kd.R_base2 HO_5.out)); have n3_ := aM (ho); clear HI0; clear HB; clear HK; clear HO_5; have HI0 := n0_; have HB := n1_; have HK := n2_; have HO288 := n3_; clear n0_ n1_ n2_ n3_; clear ho hb hg hat))
      go_roundg kj4
      case measure => have := HK1.out; have := HJ4.out; omega
      case rel => exact ⟨(y286), (wrap64 (x6_1 + x7_4)), (t272), (t273), aP16, H', ⟨by have := HK1.out; have := HJ4.out; omega⟩, ⟨rR HO288.out⟩, ⟨aP0⟩, ⟨aP1⟩, ⟨aP2⟩⟩
     rw [if_pos c16] at H
     have c16b0 : (t271 == 1) = true := beq_iff_eq.mpr c16
     have c16b1 : (t271 != 1) = false := bne_eq_false_iff_eq.mpr c16
     clear c16
     obtain ⟨y277, hy277⟩ : ∃ y_ : List ByteArray, y_ = (([(⟨#[120]⟩ : ByteArray), (⟨#[121, 121]⟩ : ByteArray), (⟨#[65, 47]⟩ : ByteArray), (⟨#[110, 101, 119]⟩ : ByteArray), (⟨#[66]⟩ : ByteArray)] : List ByteArray)) := ⟨_, rfl⟩
     replace H : ((jV.f s0_0 t272 t273 y277).bind fun bt280 => (if x5_1.length < 3518437208883 then (jE.l0 kj4 a1 (x5_1 ++ [(⟨0, bt280.1, (⟨#[]⟩ : ByteArray)⟩ : S53)]) x6_1 s0_0 bt280.2.1 bt280.2.2) else (none))) = some (r1, r2, r3) := by first | (rw [hy277]; with_reducible exact H) | (have H2_ := (Option.bind_some _ _).symm.trans H; rw [hy277]; with_reducible exact H2_) | (have H2_ := (Option.bind_some _ _).symm.trans H; with_reducible exact H2_) | with_reducible exact H | (rw [hy277]; exact H) | exact H
     have Ny277 := aM hy277
     clear hy277
     replace H := Option.bind_eq_some_iff.mp H
     obtain ⟨⟨t280, t281, t282⟩, A170, H⟩ := H
     replace H : (if x5_1.length < 3518437208883 then (jE.l0 kj4 a1 (x5_1 ++ [(⟨0, t280, (⟨#[]⟩ : ByteArray)⟩ : S53)]) x6_1 s0_0 t281 t282) else (none)) = some (r1, r2, r3) := H
     have A17 := aM A170
     clear A170
     by_cases c18 : x5_1.length < 3518437208883
     rotate_left
     ·rw [if_neg c18] at H
      exact absurd H (by simp)
     rw [if_pos c18] at H
     have LMc18 := aM c18
     clear c18
     obtain ⟨y283, hy283⟩ : ∃ y_ : List (S53), y_ = (x5_1 ++ [(⟨0, t280, (⟨#[]⟩ : ByteArray)⟩ : S53)]) := ⟨_, rfl⟩
     replace H : (jE.l0 kj4 a1 y283 x6_1 s0_0 t281 t282) = some (r1, r2, r3) := by first | (rw [hy283]; with_reducible exact H) | (have H2_ := (Option.bind_some _ _).symm.trans H; rw [hy283]; with_reducible exact H2_) | (have H2_ := (Option.bind_some _ _).symm.trans H; with_reducible exact H2_) | with_reducible exact H | (rw [hy283]; exact H) | exact H
     have Ny283 := aM hy283
     clear hy283
     have H' := aM H
     clear H
     go_wp2_with (first | ((with_reducible refine gate_callee (f := 74) rfl ?_); refine goesL_ (some 26) rfl rfl Try.func74 (by kernel_rfl) rfl #[.pointer (some ⟨g, 0, none⟩), .int .i64 4] rfl mM ?_; (with_reducible refine (jD.calls g s0_0 t269 t270 4 t271 t272 t273 w0 _ ?side1 ?side2 A8.out).mono ?_); (case side1 => exact aP0); (case side2 => exact aP2); rintro e w19 ⟨rfl, hi, hb, hk⟩; refine ⟨_, rfl, ?_⟩; have n0_ := aM (Kd.R_mono (Kd.R_keep (IsS83.apart (show IsS83 w0 _ g s0_0 t269 t270 from aP0) (rR HO_5.out) (by decide)) hk (fun _ h => h.2)) (fun _ h => h.1)); have n1_ := aM (KeepBut.trans aP1 hk (.inl rfl)); have n2_ := aM (hb); have n3_ := aM (hi); clear HO_5; clear HK; clear HB; clear HI0; have HO_5 := n0_; have HK := n1_; have HB := n2_; have HI0 := n3_; clear n0_ n1_ n2_ n3_; (try clear hb); (try clear hb2); (try clear hk); (try clear hi)) | ((with_reducible refine gate_dst (N := 54) rfl ?_); refine Kd.R_lit Kd.string _ 9 ?hg (N := 54) ?hd (xs := ([(⟨#[120]⟩ : ByteArray), (⟨#[121, 121]⟩ : ByteArray), (⟨#[65, 47]⟩ : ByteArray), (⟨#[110, 101, 119]⟩ : ByteArray), (⟨#[66]⟩ : ByteArray)] : List ByteArray)) (inner := [.string (⟨#[120]⟩ : ByteArray), .string (⟨#[121, 121]⟩ : ByteArray), .string (⟨#[65, 47]⟩ : ByteArray), .string (⟨#[110, 101, 119]⟩ : ByteArray), .string (⟨#[66]⟩ : ByteArray)]) (ok := fun _ => True) (okp := fun _ => True) ?hr ?hp (fun _ hk => hk) trivial (Below.refl _ _) (Nat.le_refl _) (by simp) ?_; (case hd => rfl); (case hg => rfl); (case hr => exact aP21); (case hp => exact (Reps.one (show Kd.M Kd.string _ _ _ (⟨#[120]⟩ : ByteArray) [.string (⟨#[120]⟩ : ByteArray)] from rfl) (Reps.one (show Kd.M Kd.string _ _ _ (⟨#[121, 121]⟩ : ByteArray) [.string (⟨#[121, 121]⟩ : ByteArray)] from rfl) (Reps.one (show Kd.M Kd.string _ _ _ (⟨#[65, 47]⟩ : ByteArray) [.string (⟨#[65, 47]⟩ : ByteArray)] from rfl) (Reps.one (show Kd.M Kd.string _ _ _ (⟨#[110, 101, 119]⟩ : ByteArray) [.string (⟨#[110, 101, 119]⟩ : ByteArray)] from rfl) (Reps.one (show Kd.M Kd.string _ _ _ (⟨#[66]⟩ : ByteArray) [.string (⟨#[66]⟩ : ByteArray)] from rfl) (Reps.none _ _))))))); intro v278 w20 ho21 hb hg_ hnew_; clear hg_ hnew_; (first | rw [← Ny277.out] at ho21 | (simp only [Int.reduceToNat] at ho21; rw [← Ny277.out] at ho21)); have n0_ := aM (Kd.R_below (rR HO_5.out) hb); have n1_ := aM (Kd.R_lower ho21 (keep_size (w := w) (g := g) (row := none) aP1)); have n2_ := aM (IsS83.below aP0 hb); have n3_ := aM (KeepBut.trans aP1 (KeepBut.of_below hb g none) (.inl rfl)); have n4_ := aM (below_step aP2 hb); clear HO_5; clear HI0; clear HK; clear HB; have HO_5 := n0_; have HO279 := n1_; have HI0 := n2_; have HK := n3_; have HB := n4_; clear n0_ n1_ n2_ n3_ n4_; clear hb ho21; obtain ⟨Ao22, co22, eo22⟩ := Kd.R_slice HO279.out; subst eo22) | ((with_reducible refine gate_callee (f := 85) rfl ?_); refine goesL_ (some 55) rfl rfl Try.func85 (by kernel_rfl) rfl #[.pointer (some ⟨g, 0, none⟩), .slice Ao22 y277.length co22] rfl mM ?_; (with_reducible refine (jV.calls g s0_0 t272 t273 _ _ y277 t280 t281 t282 w0 _ ?side1 ?side2 ?side3 ?side4 ?side5 A17.out).mono ?_); (case side1 => exact aP0); (case side2 => exact aP2); (case side3 => exact cC ((Kd.R_reads' HO279.out).2.2)); (case side4 => exact (Kd.R_reads' HO279.out).2.1); (case side5 => exact far_slice (IsS83.own_ne HI0.out HO279.out (by decide))); rintro e w23 ⟨rfl, hi, hb, hk⟩; refine ⟨_, rfl, ?_⟩; have n0_ := aM (Kd.R_mono (Kd.R_keep (IsS83.apart (show IsS83 w0 _ g s0_0 t272 t273 from aP0) (rR HO_5.out) (by decide)) hk (fun _ h => h.2)) (fun _ h => h.1)); have n1_ := aM (Kd.R_mono (Kd.R_keep (IsS83.apart (show IsS83 w0 _ g s0_0 t272 t273 from aP0) (rR HO279.out) (by decide)) hk (fun _ h => h.2)) (fun _ h => h.1)); have n2_ := aM (KeepBut.trans aP1 hk (.inl rfl)); have n3_ := aM (hb); have n4_ := aM (hi); clear HO_5; clear HO279; clear HK; clear HB; clear HI0; have HO_5 := n0_; have HO279 := n1_; have HK := n2_; have HB := n3_; have HI0 := n4_; clear n0_ n1_ n2_ n3_ n4_; (try clear hb); (try clear hb2); (try clear hk); (try clear hi)) | ((with_reducible refine gate_builtin (b := .append) (xs := #[.tmp 52, .tmp 57]) rfl ?_); at_builtin; refine Kd.R_append k53 w.heap.size rfl (.tmp 52) (.tmp 57) 22 53 (.agg #[(.int .i64 0), (.string ⟨#[]⟩), (.string ⟨#[]⟩)]) 40 rfl Try.underlying22 info53 rfl (by decide) (by omega) u5 x5_1 (⟨0, t280, (⟨#[]⟩ : ByteArray)⟩ : S53) [.int .i64 0, .string t280, .string (⟨#[]⟩ : ByteArray)] (fun _ => True) (fun _ => False) rfl rfl ?aP (fun _ hk => hk.elim) ?aF ?aO (Below.refl _ _) ?aS ?aL ?_; (case aP => exact k53_mkM _ _ _ (⟨0, t280, (⟨#[]⟩ : ByteArray)⟩ : S53)); (case aF => exact (fun _ _ => trivial)); (case aO => exact (rR HO_5.out)); (case aS => exact (keep_size (w := w) (g := g) (row := none) aP1)); (case aL => have := LMc18.out; omega); intro v284 w24 ho hb hg hat; rw [← Ny283.out] at ho; have n0_ := aM (IsS83.grown aP0 hg (IsS83.own_ne HI0.out HO_5.out (by decide))); have n1_ := aM (Kd.R_over' (rR HO279.out) (Kd.R_typed (rR HO_5.out)) (by decide) hg); have n2_ := aM (below_weaken aP2 HL.out hb); have n3_ := aM (KeepBut.trans aP1 (KeepBut.of_grown hg g) (Kd.R_base2 HO_5.out)); have n4_ := aM (ho); clear HI0; clear HO279; clear HB; clear HK; clear HO_5; have HI0 := n0_; have HO279 := n1_; have HB := n2_; have HK := n3_; have HO285 := n4_; clear n0_ n1_ n2_ n3_ n4_; clear ho hb hg hat))
     go_roundg kj4
     case measure => have := HK1.out; have := HJ4.out; omega
     case rel => exact ⟨(y283), (x6_1), (t281), (t282), aP16, H', ⟨by have := HK1.out; have := HJ4.out; omega⟩, ⟨rR HO285.out⟩, ⟨aP0⟩, ⟨aP1⟩, ⟨aP2⟩⟩
def jP.f (k : Nat) (l0 : List Int) : Option (List S53 × List S53) :=
 (jZ.f k l0 0 0).bind fun s => (jE.f k l0 s.2.1 s.2.2 s.1).bind fun a => (jJ.f k a.1 s.1).bind fun t => (jU.f l0 a.2.1 a.2.2 6).bind fun b => if b.1 = true then ((jC.f k l0 b.2.1 b.2.2 t.1 (⟨#[120, 65]⟩ : ByteArray)).bind fun u => (jO.f k u.1).bind fun g => if g = true then ((jE.f k l0 u.2.1 u.2.2 u.1).bind fun o => some (a.1, o.1)) else ((jE.f k l0 u.2.1 u.2.2 (⟨#[120]⟩ : ByteArray)).bind fun o => some (a.1, o.1))) else ((jO.f k t.1).bind fun g => if g = true then ((jE.f k l0 b.2.1 b.2.2 t.1).bind fun o => some (a.1, o.1)) else ((jE.f k l0 b.2.1 b.2.2 (⟨#[120]⟩ : ByteArray)).bind fun o => some (a.1, o.1)))
theorem jP.mono : ∀ a0 k, LeO (jP.f k a0) (jP.f (k + 1) a0) := by
 intro a0 k
 unfold jP.f
 have ht : ∀ (t : ByteArray) (x y : Int) (q : List S53), LeO ((jO.f k t).bind fun g => if g = true then ((jE.f k a0 x y t).bind fun o => some (q, o.1)) else ((jE.f k a0 x y (⟨#[120]⟩ : ByteArray)).bind fun o => some (q, o.1))) ((jO.f (k + 1) t).bind fun g => if g = true then ((jE.f (k + 1) a0 x y t).bind fun o => some (q, o.1)) else ((jE.f (k + 1) a0 x y (⟨#[120]⟩ : ByteArray)).bind fun o => some (q, o.1))) := fun t x y q => LeO.bind (jO.mono _ _) (fun _ => LeO.ite (LeO.bind (jE.mono _ _ _ _ _) (fun _ => LeO.refl _)) (LeO.bind (jE.mono _ _ _ _ _) (fun _ => LeO.refl _)))
 exact LeO.bind (jZ.mono _ _ _ _) (fun _ => LeO.bind (jE.mono _ _ _ _ _) (fun _ => LeO.bind (jJ.mono _ _ _) (fun _ => LeO.bind (LeO.refl _) (fun _ => LeO.ite (LeO.bind (jC.mono _ _ _ _ _ _) (fun _ => ht _ _ _ _)) (ht _ _ _ _)))))
set_option maxHeartbeats 4000000 in
set_option maxRecDepth 100000 in
theorem jP.calls (k : Nat) (A0 : Option Addr) (c0 : Nat) (l0 : List Int) (r1 : List S53) (r2 : List S53) (w : World) (hr0 : Kd.C (Kd.int .u8) w A0 l0.length l0) (hc0 : l0.length ≤ c0) (h : jP.f k l0 = some (r1, r2)) :
  Calls Try.prog 38 #[.slice A0 l0.length c0] w fun e w' => ∃ v0_ v1_ : Value, e = .returned (.tuple #[v0_, v1_]) ∧ Kd.R k53 53 w' w.heap.size (fun k_ => some k_ ≠ (v1_ : Value).ownBlock) v0_ r1 ∧ Kd.R k53 53 w' w.heap.size (fun k_ => some k_ ≠ (v0_ : Value).ownBlock) v1_ r2 ∧ Below w.heap.size w w' := by
 unfold jP.f at h
 obtain ⟨⟨s, a1, z1⟩, h1, h⟩ := Option.bind_eq_some_iff.mp h
 obtain ⟨⟨a, a2, z2⟩, h2, h⟩ := Option.bind_eq_some_iff.mp h
 obtain ⟨⟨t, tok⟩, h3, h⟩ := Option.bind_eq_some_iff.mp h
 obtain ⟨⟨b, a4, z4⟩, h4, h⟩ := Option.bind_eq_some_iff.mp h
 dsimp only at h1 h2 h3 h4 h
 have H1 := aM h1
 have H2 := aM h2
 have H3 := aM h3
 have H4 := aM h4
 have HR0 := aM hr0
 clear h1 h2 h3 h4 hr0
 cases b with
 | true =>
  rw [if_pos rfl] at h
  obtain ⟨⟨u, a5, z5⟩, h5, h⟩ := Option.bind_eq_some_iff.mp h
  dsimp only at h5 h
  have H5 := aM h5
  clear h5
  obtain ⟨g, h6, h⟩ := Option.bind_eq_some_iff.mp h
  try dsimp only at h6 h
  have H6 := aM h6
  clear h6
  cases g with
  | true =>
   rw [if_pos rfl] at h
   obtain ⟨⟨o, a6, z6⟩, h7, h⟩ := Option.bind_eq_some_iff.mp h
   obtain ⟨rfl, rfl⟩ := Prod.mk.inj (Option.some.inj h)
   try dsimp only at h7
   have H7 := aM h7
   clear h7 h
   go_enter Try.func38, Try.ntmps38
   go_wp2_with (first | ((with_reducible refine gate_dst (N := 11) rfl ?_); refine box_event ?hg (N := 11) ?hd (cs := #[.slice A0 l0.length c0, .int .i64 0, .int .u64 0]) (t := 83) ?hr ?_; (case hd => rfl); (case hg => rfl); (case hr => exact aP21); intro gb hgb w1 hbox hb; have HI1 := aM (show IsS83 w w1 gb l0 0 0 from ⟨A0, c0, hbox, Nat.le_of_eq hgb.symm, HR0.out⟩); have HB1 := aM hb; clear hbox hb hgb) | (go_at_call 70; (with_reducible refine (jZ.calls k gb l0 0 0 s a1 z1 w _ HI1.out HB1.out H1.out).mono ?_); rintro e w2 ⟨rfl, hi, hb, hk⟩; have HI2 := aM hi; have HB2 := aM hb; clear hi hb hk) | (go_at_call 71; (with_reducible refine (jE.calls k gb l0 a1 z1 s a a2 z2 w _ HI2.out HB2.out H2.out).mono ?_); rintro e w3 ⟨v3, rfl, ho, hi, hb, hk⟩; have HO3 := aM (Kd.R_lower ho HB2.out.size); have HI3 := aM hi; have HB3 := aM hb; clear ho hi hb hk; obtain ⟨Ao, co, eo⟩ := Kd.R_slice HO3.out; subst eo) | (go_at_call 54; (with_reducible refine (jJ.calls k Ao co a s t tok _ (Kd.R_reads' HO3.out).2.2 (Kd.R_reads' HO3.out).2.1 H3.out).mono ?_); rintro e w4 ⟨rfl, hb⟩; have HO4 := aM (Kd.R_below HO3.out hb); have HI4 := aM (HI3.out.below hb); have HB4 := aM (below_step HB3.out hb); clear hb) | (go_at_call 72; (with_reducible refine (jU.calls gb l0 a2 z2 6 true a4 z4 w _ HI4.out HB4.out H4.out).mono ?_); rintro e w5 ⟨rfl, hi, hb, hk⟩; have HO5 := aM (Kd.R_mono (Kd.R_keep (IsS83.apart HI4.out HO4.out (by decide)) hk (fun _ h => h.2)) (fun _ h => h.1)); have HI5 := aM hi; have HB5 := aM hb; clear hi hb hk) | (go_at_call 73; (with_reducible refine (jC.calls k gb l0 a4 z4 t (⟨#[120, 65]⟩ : ByteArray) u a5 z5 w _ HI5.out HB5.out H5.out).mono ?_); rintro e w6 ⟨rfl, hi, hb, hk⟩; have HO6 := aM (Kd.R_mono (Kd.R_keep (IsS83.apart HI5.out HO5.out (by decide)) hk (fun _ h => h.2)) (fun _ h => h.1)); have HI6 := aM hi; have HB6 := aM hb; clear hi hb hk) | (go_at_call 75; (with_reducible refine (jO.calls k u true _ H6.out).mono ?_); rintro e w7 ⟨rfl, hnd⟩; have hb7 := hnd.below; have HO7 := aM (Kd.R_below HO6.out hb7); have HI7 := aM (HI6.out.below hb7); have HB7 := aM (below_step HB6.out hb7); clear hb7 hnd) | (go_at_call 71; (with_reducible refine (jE.calls k gb l0 a5 z5 u o a6 z6 w _ HI7.out HB7.out H7.out).mono ?_); rintro e w8 ⟨v8, rfl, ho, hi, hb, hk⟩; have hp := Kd.R_base ho; have HOa := aM (Kd.R_mono (ok' := fun k_ => some k_ ≠ v8.ownBlock) (Kd.R_keep (Kd.R_bound (IsS83.apart HI7.out HO7.out (by decide))) hk (fun _ h => h.1.2)) (fun k_ h e_ => by have h1_ := hp k_ e_.symm; have h2_ := h.2.2.1; omega)); have hl := Kd.R_lt HO7.out; have HOb := aM (Kd.R_lower (Kd.R_mono (Kd.R_new' (u := .slice Ao a.length co) ho hl) (fun _ h => h.2)) HB7.out.size); have HB8 := aM hb; clear ho hi hb hk hp hl))
   go_ret2
   exact ⟨_, _, rfl, HOa.out, HOb.out, HB8.out⟩
  | false =>
   rw [if_neg (by simp)] at h
   obtain ⟨⟨o, a6, z6⟩, h7, h⟩ := Option.bind_eq_some_iff.mp h
   obtain ⟨rfl, rfl⟩ := Prod.mk.inj (Option.some.inj h)
   try dsimp only at h7
   have H7 := aM h7
   clear h7 h
   go_enter Try.func38, Try.ntmps38
   go_wp2_with (first | ((with_reducible refine gate_dst (N := 11) rfl ?_); refine box_event ?hg (N := 11) ?hd (cs := #[.slice A0 l0.length c0, .int .i64 0, .int .u64 0]) (t := 83) ?hr ?_; (case hd => rfl); (case hg => rfl); (case hr => exact aP21); intro gb hgb w1 hbox hb; have HI1 := aM (show IsS83 w w1 gb l0 0 0 from ⟨A0, c0, hbox, Nat.le_of_eq hgb.symm, HR0.out⟩); have HB1 := aM hb; clear hbox hb hgb) | (go_at_call 70; (with_reducible refine (jZ.calls k gb l0 0 0 s a1 z1 w _ HI1.out HB1.out H1.out).mono ?_); rintro e w2 ⟨rfl, hi, hb, hk⟩; have HI2 := aM hi; have HB2 := aM hb; clear hi hb hk) | (go_at_call 71; (with_reducible refine (jE.calls k gb l0 a1 z1 s a a2 z2 w _ HI2.out HB2.out H2.out).mono ?_); rintro e w3 ⟨v3, rfl, ho, hi, hb, hk⟩; have HO3 := aM (Kd.R_lower ho HB2.out.size); have HI3 := aM hi; have HB3 := aM hb; clear ho hi hb hk; obtain ⟨Ao, co, eo⟩ := Kd.R_slice HO3.out; subst eo) | (go_at_call 54; (with_reducible refine (jJ.calls k Ao co a s t tok _ (Kd.R_reads' HO3.out).2.2 (Kd.R_reads' HO3.out).2.1 H3.out).mono ?_); rintro e w4 ⟨rfl, hb⟩; have HO4 := aM (Kd.R_below HO3.out hb); have HI4 := aM (HI3.out.below hb); have HB4 := aM (below_step HB3.out hb); clear hb) | (go_at_call 72; (with_reducible refine (jU.calls gb l0 a2 z2 6 true a4 z4 w _ HI4.out HB4.out H4.out).mono ?_); rintro e w5 ⟨rfl, hi, hb, hk⟩; have HO5 := aM (Kd.R_mono (Kd.R_keep (IsS83.apart HI4.out HO4.out (by decide)) hk (fun _ h => h.2)) (fun _ h => h.1)); have HI5 := aM hi; have HB5 := aM hb; clear hi hb hk) | (go_at_call 73; (with_reducible refine (jC.calls k gb l0 a4 z4 t (⟨#[120, 65]⟩ : ByteArray) u a5 z5 w _ HI5.out HB5.out H5.out).mono ?_); rintro e w6 ⟨rfl, hi, hb, hk⟩; have HO6 := aM (Kd.R_mono (Kd.R_keep (IsS83.apart HI5.out HO5.out (by decide)) hk (fun _ h => h.2)) (fun _ h => h.1)); have HI6 := aM hi; have HB6 := aM hb; clear hi hb hk) | (go_at_call 75; (with_reducible refine (jO.calls k u false _ H6.out).mono ?_); rintro e w7 ⟨rfl, hnd⟩; have hb7 := hnd.below; have HO7 := aM (Kd.R_below HO6.out hb7); have HI7 := aM (HI6.out.below hb7); have HB7 := aM (below_step HB6.out hb7); clear hb7 hnd) | (go_at_call 71; (with_reducible refine (jE.calls k gb l0 a5 z5 (⟨#[120]⟩ : ByteArray) o a6 z6 w _ HI7.out HB7.out H7.out).mono ?_); rintro e w8 ⟨v8, rfl, ho, hi, hb, hk⟩; have hp := Kd.R_base ho; have HOa := aM (Kd.R_mono (ok' := fun k_ => some k_ ≠ v8.ownBlock) (Kd.R_keep (Kd.R_bound (IsS83.apart HI7.out HO7.out (by decide))) hk (fun _ h => h.1.2)) (fun k_ h e_ => by have h1_ := hp k_ e_.symm; have h2_ := h.2.2.1; omega)); have hl := Kd.R_lt HO7.out; have HOb := aM (Kd.R_lower (Kd.R_mono (Kd.R_new' (u := .slice Ao a.length co) ho hl) (fun _ h => h.2)) HB7.out.size); have HB8 := aM hb; clear ho hi hb hk hp hl))
   go_ret2
   exact ⟨_, _, rfl, HOa.out, HOb.out, HB8.out⟩
 | false =>
  rw [if_neg (by simp)] at h
  obtain ⟨g, h6, h⟩ := Option.bind_eq_some_iff.mp h
  try dsimp only at h6 h
  have H6 := aM h6
  clear h6
  cases g with
  | true =>
   rw [if_pos rfl] at h
   obtain ⟨⟨o, a6, z6⟩, h7, h⟩ := Option.bind_eq_some_iff.mp h
   obtain ⟨rfl, rfl⟩ := Prod.mk.inj (Option.some.inj h)
   try dsimp only at h7
   have H7 := aM h7
   clear h7 h
   go_enter Try.func38, Try.ntmps38
   go_wp2_with (first | ((with_reducible refine gate_dst (N := 11) rfl ?_); refine box_event ?hg (N := 11) ?hd (cs := #[.slice A0 l0.length c0, .int .i64 0, .int .u64 0]) (t := 83) ?hr ?_; (case hd => rfl); (case hg => rfl); (case hr => exact aP21); intro gb hgb w1 hbox hb; have HI1 := aM (show IsS83 w w1 gb l0 0 0 from ⟨A0, c0, hbox, Nat.le_of_eq hgb.symm, HR0.out⟩); have HB1 := aM hb; clear hbox hb hgb) | (go_at_call 70; (with_reducible refine (jZ.calls k gb l0 0 0 s a1 z1 w _ HI1.out HB1.out H1.out).mono ?_); rintro e w2 ⟨rfl, hi, hb, hk⟩; have HI2 := aM hi; have HB2 := aM hb; clear hi hb hk) | (go_at_call 71; (with_reducible refine (jE.calls k gb l0 a1 z1 s a a2 z2 w _ HI2.out HB2.out H2.out).mono ?_); rintro e w3 ⟨v3, rfl, ho, hi, hb, hk⟩; have HO3 := aM (Kd.R_lower ho HB2.out.size); have HI3 := aM hi; have HB3 := aM hb; clear ho hi hb hk; obtain ⟨Ao, co, eo⟩ := Kd.R_slice HO3.out; subst eo) | (go_at_call 54; (with_reducible refine (jJ.calls k Ao co a s t tok _ (Kd.R_reads' HO3.out).2.2 (Kd.R_reads' HO3.out).2.1 H3.out).mono ?_); rintro e w4 ⟨rfl, hb⟩; have HO4 := aM (Kd.R_below HO3.out hb); have HI4 := aM (HI3.out.below hb); have HB4 := aM (below_step HB3.out hb); clear hb) | (go_at_call 72; (with_reducible refine (jU.calls gb l0 a2 z2 6 false a4 z4 w _ HI4.out HB4.out H4.out).mono ?_); rintro e w5 ⟨rfl, hi, hb, hk⟩; have HO5 := aM (Kd.R_mono (Kd.R_keep (IsS83.apart HI4.out HO4.out (by decide)) hk (fun _ h => h.2)) (fun _ h => h.1)); have HI5 := aM hi; have HB5 := aM hb; clear hi hb hk) | (go_at_call 75; (with_reducible refine (jO.calls k t true _ H6.out).mono ?_); rintro e w7 ⟨rfl, hnd⟩; have hb7 := hnd.below; have HO7 := aM (Kd.R_below HO5.out hb7); have HI7 := aM (HI5.out.below hb7); have HB7 := aM (below_step HB5.out hb7); clear hb7 hnd) | (go_at_call 71; (with_reducible refine (jE.calls k gb l0 a4 z4 t o a6 z6 w _ HI7.out HB7.out H7.out).mono ?_); rintro e w8 ⟨v8, rfl, ho, hi, hb, hk⟩; have hp := Kd.R_base ho; have HOa := aM (Kd.R_mono (ok' := fun k_ => some k_ ≠ v8.ownBlock) (Kd.R_keep (Kd.R_bound (IsS83.apart HI7.out HO7.out (by decide))) hk (fun _ h => h.1.2)) (fun k_ h e_ => by have h1_ := hp k_ e_.symm; have h2_ := h.2.2.1; omega)); have hl := Kd.R_lt HO7.out; have HOb := aM (Kd.R_lower (Kd.R_mono (Kd.R_new' (u := .slice Ao a.length co) ho hl) (fun _ h => h.2)) HB7.out.size); have HB8 := aM hb; clear ho hi hb hk hp hl))
   go_ret2
   exact ⟨_, _, rfl, HOa.out, HOb.out, HB8.out⟩
  | false =>
   rw [if_neg (by simp)] at h
   obtain ⟨⟨o, a6, z6⟩, h7, h⟩ := Option.bind_eq_some_iff.mp h
   obtain ⟨rfl, rfl⟩ := Prod.mk.inj (Option.some.inj h)
   try dsimp only at h7
   have H7 := aM h7
   clear h7 h
   go_enter Try.func38, Try.ntmps38
   go_wp2_with (first | ((with_reducible refine gate_dst (N := 11) rfl ?_); refine box_event ?hg (N := 11) ?hd (cs := #[.slice A0 l0.length c0, .int .i64 0, .int .u64 0]) (t := 83) ?hr ?_; (case hd => rfl); (case hg => rfl); (case hr => exact aP21); intro gb hgb w1 hbox hb; have HI1 := aM (show IsS83 w w1 gb l0 0 0 from ⟨A0, c0, hbox, Nat.le_of_eq hgb.symm, HR0.out⟩); have HB1 := aM hb; clear hbox hb hgb) | (go_at_call 70; (with_reducible refine (jZ.calls k gb l0 0 0 s a1 z1 w _ HI1.out HB1.out H1.out).mono ?_); rintro e w2 ⟨rfl, hi, hb, hk⟩; have HI2 := aM hi; have HB2 := aM hb; clear hi hb hk) | (go_at_call 71; (with_reducible refine (jE.calls k gb l0 a1 z1 s a a2 z2 w _ HI2.out HB2.out H2.out).mono ?_); rintro e w3 ⟨v3, rfl, ho, hi, hb, hk⟩; have HO3 := aM (Kd.R_lower ho HB2.out.size); have HI3 := aM hi; have HB3 := aM hb; clear ho hi hb hk; obtain ⟨Ao, co, eo⟩ := Kd.R_slice HO3.out; subst eo) | (go_at_call 54; (with_reducible refine (jJ.calls k Ao co a s t tok _ (Kd.R_reads' HO3.out).2.2 (Kd.R_reads' HO3.out).2.1 H3.out).mono ?_); rintro e w4 ⟨rfl, hb⟩; have HO4 := aM (Kd.R_below HO3.out hb); have HI4 := aM (HI3.out.below hb); have HB4 := aM (below_step HB3.out hb); clear hb) | (go_at_call 72; (with_reducible refine (jU.calls gb l0 a2 z2 6 false a4 z4 w _ HI4.out HB4.out H4.out).mono ?_); rintro e w5 ⟨rfl, hi, hb, hk⟩; have HO5 := aM (Kd.R_mono (Kd.R_keep (IsS83.apart HI4.out HO4.out (by decide)) hk (fun _ h => h.2)) (fun _ h => h.1)); have HI5 := aM hi; have HB5 := aM hb; clear hi hb hk) | (go_at_call 75; (with_reducible refine (jO.calls k t false _ H6.out).mono ?_); rintro e w7 ⟨rfl, hnd⟩; have hb7 := hnd.below; have HO7 := aM (Kd.R_below HO5.out hb7); have HI7 := aM (HI5.out.below hb7); have HB7 := aM (below_step HB5.out hb7); clear hb7 hnd) | (go_at_call 71; (with_reducible refine (jE.calls k gb l0 a4 z4 (⟨#[120]⟩ : ByteArray) o a6 z6 w _ HI7.out HB7.out H7.out).mono ?_); rintro e w8 ⟨v8, rfl, ho, hi, hb, hk⟩; have hp := Kd.R_base ho; have HOa := aM (Kd.R_mono (ok' := fun k_ => some k_ ≠ v8.ownBlock) (Kd.R_keep (Kd.R_bound (IsS83.apart HI7.out HO7.out (by decide))) hk (fun _ h => h.1.2)) (fun k_ h e_ => by have h1_ := hp k_ e_.symm; have h2_ := h.2.2.1; omega)); have hl := Kd.R_lt HO7.out; have HOb := aM (Kd.R_lower (Kd.R_mono (Kd.R_new' (u := .slice Ao a.length co) ho hl) (fun _ h => h.2)) HB7.out.size); have HB8 := aM hb; clear ho hi hb hk hp hl))
   go_ret2
   exact ⟨_, _, rfl, HOa.out, HOb.out, HB8.out⟩
def jK.l0 : Nat → Int → List Int → Int → Int → Option (Int)
 | 0, _, _, _, _ => none
 | k + 1, x3, x6, x7, x8 => if x8 < x7 then (if 0 ≤ x8 then (if x8 < (x6.length : Int) then (jK.l0 k (Int.tmod (wrap64 ((wrap64 (31 * x3)) + (wrap64 (rd x6 x8)))) 1000003) x6 x7 (wrap64 (x8 + 1))) else (none)) else (none)) else (some x3)
def jK.f (k : Nat) (l0 : List Int) : Option (Int) := jK.l0 k 0 l0 (l0.length : Int) 0
theorem jK.mono_l : ∀ k, (∀ y0 y1 y2 y3, LeO (jK.l0 k y0 y1 y2 y3) (jK.l0 (k + 1) y0 y1 y2 y3))
 | 0 => fun _ _ _ _ r h => by simp [jK.l0] at h
 | k + 1 => by
  have ih0 := jK.mono_l k
  ·intro y0 y1 y2 y3
   unfold jK.l0
   repeat' first
   | (with_reducible exact ih0 _ _ _ _)
   | (with_reducible exact LeO.refl _)
   | (with_reducible exact LeO.none _)
   | (with_reducible refine LeO.ite ?_ ?_)
   | (with_reducible refine LeO.bind ?_ (fun _ => ?_))
   | exact ih0 _ _ _ _
   | exact LeO.none _
   | refine LeO.ite ?_ ?_
   | refine LeO.bind ?_ (fun _ => ?_)
theorem jK.mono : ∀ a0 k, LeO (jK.f k a0) (jK.f (k + 1) a0) := by
 intro a0 k
 have ih0 := jK.mono_l k
 unfold jK.f
 repeat' first
   | (with_reducible exact ih0 _ _ _ _)
   | (with_reducible exact LeO.refl _)
   | (with_reducible exact LeO.none _)
   | (with_reducible refine LeO.ite ?_ ?_)
   | (with_reducible refine LeO.bind ?_ (fun _ => ?_))
   | exact ih0 _ _ _ _
   | exact LeO.none _
   | refine LeO.ite ?_ ?_
   | refine LeO.bind ?_ (fun _ => ?_)
set_option maxHeartbeats 8000000 in
set_option maxRecDepth 100000 in
theorem jK.calls (k : Nat) (A0 : Option Addr) (c0 : Nat) (l0 : List Int) (r : Int) (w : World) (hr0 : Kd.C (Kd.int .u8) w A0 l0.length l0) (hc0 : l0.length ≤ c0) (h : jK.f k l0 = some r) :
  Calls Try.prog 39 #[.slice A0 l0.length c0] w fun e w' => e = .returned (.int .i64 r) ∧ Drawn0 w w' := by
 have HR0 := aM hr0
 have HC0 := aM hc0
 clear hr0 hc0
 have H : (jK.l0 k 0 l0 (l0.length : Int) 0) = some r := h
 clear h
 have H' := aM H
 clear H
 go_enter Try.func39, Try.ntmps39
 go_wp2
 go_loopg [3, 8] k (fun kq v3 v8 w' => ∃ (x3_1 : Int) (x8_1 : Int), v3 = .int .i64 x3_1 ∧ v8 = .int .i64 x8_1 ∧ Aside0 (jK.l0 kq x3_1 l0 (l0.length : Int) x8_1 = some r) ∧ Aside0 (kq ≤ k) ∧ Drawn0 w w')
 case atStart => exact ⟨(0), (0), aP16, aP16, H', ⟨Nat.le_refl _⟩, by repeat (first | exact Drawn0.refl _ | apply Drawn0.step)⟩
 case round =>
  clear H'
  obtain ⟨x3_1, x8_1, rfl, rfl, HA, HK1, ⟨m1, rfl⟩⟩ := hrel
  cases gk with
  | zero => exact absurd HA.out (by simp [jK.l0])
  | succ k1 =>
   have H := HA.out
   clear HA
   simp only [jK.l0] at H
   by_cases c2 : x8_1 < (l0.length : Int)
   rotate_left
   ·rw [if_neg c2] at H
    have c2b0 : decide (x8_1 < (l0.length : Int)) = false := decide_eq_false c2
    clear c2
    obtain rfl := Option.some.inj H
    go_wp2
    go_ret
    exact ⟨by first | rfl | (simp; done) | (simp [*]; done), by repeat (first | exact Drawn0.refl _ | apply Drawn0.step)⟩
   rw [if_pos c2] at H
   have c2b0 : decide (x8_1 < (l0.length : Int)) = true := decide_eq_true c2
   clear c2
   by_cases c3 : 0 ≤ x8_1
   rotate_left
   ·rw [if_neg c3] at H
    exact absurd H (by simp)
   rw [if_pos c3] at H
   have c3b0 : decide (0 ≤ x8_1) = true := decide_eq_true c3
   clear c3
   by_cases c4 : x8_1 < (l0.length : Int)
   rotate_left
   ·rw [if_neg c4] at H
    exact absurd H (by simp)
   rw [if_pos c4] at H
   have c4b0 : decide (x8_1 < (l0.length : Int)) = true := decide_eq_true c4
   clear c4
   have H' := aM H
   clear H
   have p301 : 0 ≤ (x8_1 : Int) := of_decide_eq_true (by assumption)
   have q301 : x8_1 < (l0.length : Int) := of_decide_eq_true (by assumption)
   obtain ⟨ad301, e301, hx301_0⟩ := Kd.at_int HR0.out x8_1 p301 q301
   cases e301
   replace p301 := eq_true p301
   replace q301 := eq_true q301
   go_wp2
   go_roundg k1
   case measure => have := HK1.out; omega
   case rel => exact ⟨(Int.tmod (wrap64 ((wrap64 (31 * x3_1)) + (wrap64 (rd l0 x8_1)))) 1000003), (wrap64 (x8_1 + 1)), aP16, aP16, H', ⟨by have := HK1.out; omega⟩, by repeat (first | exact Drawn0.refl _ | apply Drawn0.step)⟩
end Go.Proofs.Ytlelpomnblaciaa.PFnComposed
