/- (thin) Written by a program of this session (wip/ovl.py) over the kit's print: plain functions with the answers of the Go functions, and the proofs that they are; no condition. -/
import Derived.Test.YtlelpomnblaciaaPFnNormalx0
import Derived.Test.YtlelpomnblaciaaPFnNormalx1
import Derived.Test.YtlelpomnblaciaaPFnNormalx4
import Derived.Test.YtlelpomnblaciaaPFnNormalx10
import Derived.Test.YtlelpomnblaciaaPFnNormalx11
namespace Go.Proofs.Ytlelpomnblaciaa.PFnNormal
open Go.RowKit Go.Proofs.YtlelpomnblaciaaW.PrintWords Go.Proofs.YtlelpomnblaciaaW.PrintLast Go.Proofs.YtlelpomnblaciaaW.PrintMore
attribute [local go_sem] max2_int min2_int max_two min_two max_three min_three max_four min_four   -- for this text's walks alone
set_option linter.unusedVariables false
set_option linter.unusedSimpArgs false
attribute [local go_sem high] eqA53
/-! ### spec_l1Cur_doc: function 84 -/
def spec_l1Cur_doc.j0 : Nat → ByteArray → List Int → Int → Int → Option (ByteArray × Int × Int)
 | 0, _, _, _, _ => none
 | k + 1, x3, x1000, x1001, x1002 => (spec_l1Cur_one.f x1000 x1001 x1002 12).bind fun bt289 => (if bt289.1 = true then ((spec_l1Cur_spoilt.f k x1000 bt289.2.1 bt289.2.2 x3 (⟨#[65, 47, 97, 90]⟩ : ByteArray)).bind fun bt292 => (some (bt292.1, bt292.2.1, bt292.2.2))) else (some (x3, bt289.2.1, bt289.2.2)))
def spec_l1Cur_doc.f (k : Nat) (s0_0 : List Int) (s0_1 : Int) (s0_2 : Int) : Option (ByteArray × Int × Int) := (spec_l1Cur_pick.f s0_0 s0_1 s0_2 7).bind fun bt271 => ((spec_l1Cur_inner.f k s0_0 bt271.2.1 bt271.2.2 bt271.1 3).bind fun bt274 => ((spec_l1Cur_pick.f s0_0 bt274.2.1 bt274.2.2 30).bind fun bt277 => (if bt277.1 = 0 then ((spec_l1Cur_inner.f k s0_0 bt277.2.1 bt277.2.2 60 3).bind fun bt280 => (spec_l1Cur_doc.j0 k bt280.1 s0_0 bt280.2.1 bt280.2.2)) else (if bt277.1 = 1 then ((spec_l1Cur_of.f s0_0 bt277.2.1 bt277.2.2 (([(⟨#[65, 65, 65, 65, 65, 65, 65, 65, 65, 65, 65, 65, 47, 47, 47, 47, 47, 47, 47, 47, 47, 47, 47, 47]⟩ : ByteArray), (⟨#[65, 65, 65, 65, 65, 65, 65, 65, 65, 65, 65, 65, 65, 47, 47, 47, 47, 47, 47, 47, 47, 47, 47, 47, 47, 47]⟩ : ByteArray)] : List ByteArray))).bind fun bt286 => (spec_l1Cur_doc.j0 k bt286.1 s0_0 bt286.2.1 bt286.2.2)) else (spec_l1Cur_doc.j0 k bt274.1 s0_0 bt277.2.1 bt277.2.2)))))
theorem spec_l1Cur_doc.mono_l : ∀ k, (∀ y0 y1 y2 y3, LeO (spec_l1Cur_doc.j0 k y0 y1 y2 y3) (spec_l1Cur_doc.j0 (k + 1) y0 y1 y2 y3))
 | 0 => fun _ _ _ _ r h => by simp [spec_l1Cur_doc.j0] at h
 | k + 1 => by
  have ih0 := spec_l1Cur_doc.mono_l k
  ·intro y0 y1 y2 y3
   unfold spec_l1Cur_doc.j0
   repeat' first
   | (with_reducible exact ih0 _ _ _ _)
   | (with_reducible exact spec_l1Cur_inner.mono _ _ _ _ _ _)
   | (with_reducible exact spec_l1Cur_spoilt.mono _ _ _ _ _ _)
   | (with_reducible exact LeO.refl _)
   | (with_reducible exact LeO.none _)
   | (with_reducible refine LeO.ite ?_ ?_)
   | (with_reducible refine LeO.bind ?_ (fun _ => ?_))
   | exact ih0 _ _ _ _
   | exact spec_l1Cur_inner.mono _ _ _ _ _ _
   | exact spec_l1Cur_spoilt.mono _ _ _ _ _ _
   | exact LeO.none _
   | refine LeO.ite ?_ ?_
   | refine LeO.bind ?_ (fun _ => ?_)
theorem spec_l1Cur_doc.mono : ∀ a0 a1 a2 k, LeO (spec_l1Cur_doc.f k a0 a1 a2) (spec_l1Cur_doc.f (k + 1) a0 a1 a2) := by
 intro a0 a1 a2 k
 have ih0 := spec_l1Cur_doc.mono_l k
 unfold spec_l1Cur_doc.f
 repeat' first
   | (with_reducible exact ih0 _ _ _ _)
   | (with_reducible exact spec_l1Cur_inner.mono _ _ _ _ _ _)
   | (with_reducible exact spec_l1Cur_spoilt.mono _ _ _ _ _ _)
   | (with_reducible exact LeO.refl _)
   | (with_reducible exact LeO.none _)
   | (with_reducible refine LeO.ite ?_ ?_)
   | (with_reducible refine LeO.bind ?_ (fun _ => ?_))
   | exact ih0 _ _ _ _
   | exact spec_l1Cur_inner.mono _ _ _ _ _ _
   | exact spec_l1Cur_spoilt.mono _ _ _ _ _ _
   | exact LeO.none _
   | refine LeO.ite ?_ ?_
   | refine LeO.bind ?_ (fun _ => ?_)
set_option maxHeartbeats 8000000 in
set_option maxRecDepth 100000 in
theorem spec_l1Cur_doc.calls (k : Nat) (g : Nat) (s0_0 : List Int) (s0_1 : Int) (s0_2 : Int) (r1 : ByteArray) (r2 : Int) (r3 : Int) (w0 w : World) (hI : IsS83 w0 w g s0_0 s0_1 s0_2) (hB : Below w0.heap.size w0 w) (h : spec_l1Cur_doc.f k s0_0 s0_1 s0_2 = some (r1, r2, r3)) :
  Calls Try.prog 84 #[.pointer (some ⟨g, 0, none⟩)] w fun e w' => e = .returned (.string r1) ∧ IsS83 w0 w' g s0_0 r2 r3 ∧ Below w0.heap.size w0 w' ∧ KeepBut w w' g none := by
 have HI0 := aM hI
 have HK := aM (KeepBut.refl w g none)
 have HL := aM hB.size
 clear hI
 have HW0 := aM hB.size
 have HB := aM hB
 clear hB
 have H : ((spec_l1Cur_pick.f s0_0 s0_1 s0_2 7).bind fun bt271 => ((spec_l1Cur_inner.f k s0_0 bt271.2.1 bt271.2.2 bt271.1 3).bind fun bt274 => ((spec_l1Cur_pick.f s0_0 bt274.2.1 bt274.2.2 30).bind fun bt277 => (if bt277.1 = 0 then ((spec_l1Cur_inner.f k s0_0 bt277.2.1 bt277.2.2 60 3).bind fun bt280 => (spec_l1Cur_doc.j0 k bt280.1 s0_0 bt280.2.1 bt280.2.2)) else (if bt277.1 = 1 then ((spec_l1Cur_of.f s0_0 bt277.2.1 bt277.2.2 (([(⟨#[65, 65, 65, 65, 65, 65, 65, 65, 65, 65, 65, 65, 47, 47, 47, 47, 47, 47, 47, 47, 47, 47, 47, 47]⟩ : ByteArray), (⟨#[65, 65, 65, 65, 65, 65, 65, 65, 65, 65, 65, 65, 65, 47, 47, 47, 47, 47, 47, 47, 47, 47, 47, 47, 47, 47]⟩ : ByteArray)] : List ByteArray))).bind fun bt286 => (spec_l1Cur_doc.j0 k bt286.1 s0_0 bt286.2.1 bt286.2.2)) else (spec_l1Cur_doc.j0 k bt274.1 s0_0 bt277.2.1 bt277.2.2)))))) = some (r1, r2, r3) := h
 clear h
 replace H := Option.bind_eq_some_iff.mp H
 obtain ⟨⟨t271, t272, t273⟩, A20, H⟩ := H
 replace H : ((spec_l1Cur_inner.f k s0_0 t272 t273 t271 3).bind fun bt274 => ((spec_l1Cur_pick.f s0_0 bt274.2.1 bt274.2.2 30).bind fun bt277 => (if bt277.1 = 0 then ((spec_l1Cur_inner.f k s0_0 bt277.2.1 bt277.2.2 60 3).bind fun bt280 => (spec_l1Cur_doc.j0 k bt280.1 s0_0 bt280.2.1 bt280.2.2)) else (if bt277.1 = 1 then ((spec_l1Cur_of.f s0_0 bt277.2.1 bt277.2.2 (([(⟨#[65, 65, 65, 65, 65, 65, 65, 65, 65, 65, 65, 65, 47, 47, 47, 47, 47, 47, 47, 47, 47, 47, 47, 47]⟩ : ByteArray), (⟨#[65, 65, 65, 65, 65, 65, 65, 65, 65, 65, 65, 65, 65, 47, 47, 47, 47, 47, 47, 47, 47, 47, 47, 47, 47, 47]⟩ : ByteArray)] : List ByteArray))).bind fun bt286 => (spec_l1Cur_doc.j0 k bt286.1 s0_0 bt286.2.1 bt286.2.2)) else (spec_l1Cur_doc.j0 k bt274.1 s0_0 bt277.2.1 bt277.2.2))))) = some (r1, r2, r3) := H
 have A2 := aM A20
 clear A20
 replace H := Option.bind_eq_some_iff.mp H
 obtain ⟨⟨t274, t275, t276⟩, A30, H⟩ := H
 replace H : ((spec_l1Cur_pick.f s0_0 t275 t276 30).bind fun bt277 => (if bt277.1 = 0 then ((spec_l1Cur_inner.f k s0_0 bt277.2.1 bt277.2.2 60 3).bind fun bt280 => (spec_l1Cur_doc.j0 k bt280.1 s0_0 bt280.2.1 bt280.2.2)) else (if bt277.1 = 1 then ((spec_l1Cur_of.f s0_0 bt277.2.1 bt277.2.2 (([(⟨#[65, 65, 65, 65, 65, 65, 65, 65, 65, 65, 65, 65, 47, 47, 47, 47, 47, 47, 47, 47, 47, 47, 47, 47]⟩ : ByteArray), (⟨#[65, 65, 65, 65, 65, 65, 65, 65, 65, 65, 65, 65, 65, 47, 47, 47, 47, 47, 47, 47, 47, 47, 47, 47, 47, 47]⟩ : ByteArray)] : List ByteArray))).bind fun bt286 => (spec_l1Cur_doc.j0 k bt286.1 s0_0 bt286.2.1 bt286.2.2)) else (spec_l1Cur_doc.j0 k t274 s0_0 bt277.2.1 bt277.2.2)))) = some (r1, r2, r3) := H
 have A3 := aM A30
 clear A30
 replace H := Option.bind_eq_some_iff.mp H
 obtain ⟨⟨t277, t278, t279⟩, A40, H⟩ := H
 replace H : (if t277 = 0 then ((spec_l1Cur_inner.f k s0_0 t278 t279 60 3).bind fun bt280 => (spec_l1Cur_doc.j0 k bt280.1 s0_0 bt280.2.1 bt280.2.2)) else (if t277 = 1 then ((spec_l1Cur_of.f s0_0 t278 t279 (([(⟨#[65, 65, 65, 65, 65, 65, 65, 65, 65, 65, 65, 65, 47, 47, 47, 47, 47, 47, 47, 47, 47, 47, 47, 47]⟩ : ByteArray), (⟨#[65, 65, 65, 65, 65, 65, 65, 65, 65, 65, 65, 65, 65, 47, 47, 47, 47, 47, 47, 47, 47, 47, 47, 47, 47, 47]⟩ : ByteArray)] : List ByteArray))).bind fun bt286 => (spec_l1Cur_doc.j0 k bt286.1 s0_0 bt286.2.1 bt286.2.2)) else (spec_l1Cur_doc.j0 k t274 s0_0 t278 t279))) = some (r1, r2, r3) := H
 have A4 := aM A40
 clear A40
 have HC5 := aM H
 clear H
 go_enter Try.func84, Try.ntmps84
 go_upto_block 0 with (first | ((with_reducible refine gate_callee (f := 74) rfl ?_); refine goesL_ (some 6) rfl rfl Try.func74 (by kernel_rfl) rfl #[.pointer (some ⟨g, 0, none⟩), .int .i64 7] rfl mM ?_; (with_reducible refine (spec_l1Cur_pick.calls g s0_0 s0_1 s0_2 7 t271 t272 t273 w0 _ ?side1 ?side2 A2.out).mono ?_); (case side1 => exact aP0); (case side2 => exact aP2); rintro e w6 ⟨rfl, hi, hb, hk⟩; refine ⟨_, rfl, ?_⟩; have n0_ := aM (KeepBut.trans aP1 hk (.inl rfl)); have n1_ := aM (hb); have n2_ := aM (hi); clear HK; clear HB; clear HI0; have HK := n0_; have HB := n1_; have HI0 := n2_; clear n0_ n1_ n2_; (try clear hb); (try clear hb2); (try clear hk); (try clear hi)) | ((with_reducible refine gate_callee (f := 89) rfl ?_); refine goesL_ (some 7) rfl rfl Try.func89 (by kernel_rfl) rfl #[.pointer (some ⟨g, 0, none⟩), .int .i64 t271, .int .i64 3] rfl mM ?_; (with_reducible refine (spec_l1Cur_inner.calls k g s0_0 t272 t273 t271 3 t274 t275 t276 w0 _ ?side1 ?side2 A3.out).mono ?_); (case side1 => exact aP0); (case side2 => exact aP2); rintro e w7 ⟨rfl, hi, hb, hk⟩; refine ⟨_, rfl, ?_⟩; have n0_ := aM (KeepBut.trans aP1 hk (.inl rfl)); have n1_ := aM (hb); have n2_ := aM (hi); clear HK; clear HB; clear HI0; have HK := n0_; have HB := n1_; have HI0 := n2_; clear n0_ n1_ n2_; (try clear hb); (try clear hb2); (try clear hk); (try clear hi)) | ((with_reducible refine gate_callee (f := 74) rfl ?_); refine goesL_ (some 9) rfl rfl Try.func74 (by kernel_rfl) rfl #[.pointer (some ⟨g, 0, none⟩), .int .i64 30] rfl mM ?_; (with_reducible refine (spec_l1Cur_pick.calls g s0_0 t275 t276 30 t277 t278 t279 w0 _ ?side1 ?side2 A4.out).mono ?_); (case side1 => exact aP0); (case side2 => exact aP2); rintro e w8 ⟨rfl, hi, hb, hk⟩; refine ⟨_, rfl, ?_⟩; have n0_ := aM (KeepBut.trans aP1 hk (.inl rfl)); have n1_ := aM (hb); have n2_ := aM (hi); clear HK; clear HB; clear HI0; have HK := n0_; have HB := n1_; have HI0 := n2_; clear n0_ n1_ n2_; (try clear hb); (try clear hb2); (try clear hk); (try clear hi)))
 (try simp only [Act.put, List.setIfInBounds_toArray, List.set_cons_zero, List.set_cons_succ])
 go_cut [3] (fun v3 wc => ∃ (kq : Nat) (x3_4 : ByteArray) (x1001_4 : Int) (x1002_4 : Int), v3 = .string x3_4 ∧ Aside0 (spec_l1Cur_doc.j0 kq x3_4 s0_0 x1001_4 x1002_4 = some (r1, r2, r3)) ∧ Aside0 (kq ≤ k) ∧ Aside0 (IsS83 w0 wc g s0_0 x1001_4 x1002_4) ∧ Aside0 (KeepBut w wc g none) ∧ Aside0 (Below w0.heap.size w0 wc))
 case first =>
  have H := HC5.out
  clear HC5
  by_cases c9 : t277 = 0
  ·rw [if_pos c9] at H
   have c9b0 : (t277 == 0) = true := beq_iff_eq.mpr c9
   have c9b1 : (t277 != 0) = false := bne_eq_false_iff_eq.mpr c9
   clear c9
   (first | rw [c9b0] | (simp only [i64_w, i32_w]; rw [c9b0]) | rw [c9e] | skip)
   replace H := Option.bind_eq_some_iff.mp H
   obtain ⟨⟨t280, t281, t282⟩, A100, H⟩ := H
   replace H : (spec_l1Cur_doc.j0 k t280 s0_0 t281 t282) = some (r1, r2, r3) := H
   have A10 := aM A100
   clear A100
   have H' := aM H
   clear H
   go_wp2_with (first | ((with_reducible refine gate_callee (f := 89) rfl ?_); refine goesL_ (some 13) rfl rfl Try.func89 (by kernel_rfl) rfl #[.pointer (some ⟨g, 0, none⟩), .int .i64 60, .int .i64 3] rfl mM ?_; (with_reducible refine (spec_l1Cur_inner.calls k g s0_0 t278 t279 60 3 t280 t281 t282 w0 _ ?side1 ?side2 A10.out).mono ?_); (case side1 => exact aP0); (case side2 => exact aP2); rintro e w11 ⟨rfl, hi, hb, hk⟩; refine ⟨_, rfl, ?_⟩; have n0_ := aM (KeepBut.trans aP1 hk (.inl rfl)); have n1_ := aM (hb); have n2_ := aM (hi); clear HK; clear HB; clear HI0; have HK := n0_; have HB := n1_; have HI0 := n2_; clear n0_ n1_ n2_; (try clear hb); (try clear hb2); (try clear hk); (try clear hi)))
   go_meet
   case rel => exact ⟨_, (t280), (t281), (t282), aP14, H', ⟨by first | omega | exact Nat.le_refl _⟩, ⟨aP0⟩, ⟨aP1⟩, ⟨aP2⟩⟩
  ·rw [if_neg c9] at H
   have c9b0 : (t277 == 0) = false := beq_eq_false_iff_ne.mpr c9
   have c9b1 : (t277 != 0) = true := bne_iff_ne.mpr c9
   (first | rw [c9b0] | (simp only [i64_w, i32_w]; rw [c9b0]) | rw [c9e] | skip)
   by_cases c12 : t277 = 1
   ·rw [if_pos c12] at H
    have c12b0 : (t277 == 1) = true := beq_iff_eq.mpr c12
    have c12b1 : (t277 != 1) = false := bne_eq_false_iff_eq.mpr c12
    clear c12
    obtain ⟨y283, hy283⟩ : ∃ y_ : List ByteArray, y_ = (([(⟨#[65, 65, 65, 65, 65, 65, 65, 65, 65, 65, 65, 65, 47, 47, 47, 47, 47, 47, 47, 47, 47, 47, 47, 47]⟩ : ByteArray), (⟨#[65, 65, 65, 65, 65, 65, 65, 65, 65, 65, 65, 65, 65, 47, 47, 47, 47, 47, 47, 47, 47, 47, 47, 47, 47, 47]⟩ : ByteArray)] : List ByteArray)) := ⟨_, rfl⟩
    replace H : ((spec_l1Cur_of.f s0_0 t278 t279 y283).bind fun bt286 => (spec_l1Cur_doc.j0 k bt286.1 s0_0 bt286.2.1 bt286.2.2)) = some (r1, r2, r3) := by first | (rw [hy283]; with_reducible exact H) | (have H2_ := (Option.bind_some _ _).symm.trans H; rw [hy283]; with_reducible exact H2_) | (have H2_ := (Option.bind_some _ _).symm.trans H; with_reducible exact H2_) | with_reducible exact H | (rw [hy283]; exact H) | exact H
    have Ny283 := aM hy283
    clear hy283
    replace H := Option.bind_eq_some_iff.mp H
    obtain ⟨⟨t286, t287, t288⟩, A130, H⟩ := H
    replace H : (spec_l1Cur_doc.j0 k t286 s0_0 t287 t288) = some (r1, r2, r3) := H
    have A13 := aM A130
    clear A130
    have H' := aM H
    clear H
    go_wp2_with (first | ((with_reducible refine gate_dst (N := 17) rfl ?_); refine Kd.R_lit Kd.string _ 9 ?hg (N := 17) ?hd (xs := ([(⟨#[65, 65, 65, 65, 65, 65, 65, 65, 65, 65, 65, 65, 47, 47, 47, 47, 47, 47, 47, 47, 47, 47, 47, 47]⟩ : ByteArray), (⟨#[65, 65, 65, 65, 65, 65, 65, 65, 65, 65, 65, 65, 65, 47, 47, 47, 47, 47, 47, 47, 47, 47, 47, 47, 47, 47]⟩ : ByteArray)] : List ByteArray)) (inner := [.string (⟨#[65, 65, 65, 65, 65, 65, 65, 65, 65, 65, 65, 65, 47, 47, 47, 47, 47, 47, 47, 47, 47, 47, 47, 47]⟩ : ByteArray), .string (⟨#[65, 65, 65, 65, 65, 65, 65, 65, 65, 65, 65, 65, 65, 47, 47, 47, 47, 47, 47, 47, 47, 47, 47, 47, 47, 47]⟩ : ByteArray)]) (ok := fun _ => True) (okp := fun _ => True) ?hr ?hp (fun _ hk => hk) trivial (Below.refl _ _) (Nat.le_refl _) (by simp) ?_; (case hd => rfl); (case hg => rfl); (case hr => exact aP18); (case hp => exact (Reps.one (show Kd.M Kd.string _ _ _ (⟨#[65, 65, 65, 65, 65, 65, 65, 65, 65, 65, 65, 65, 47, 47, 47, 47, 47, 47, 47, 47, 47, 47, 47, 47]⟩ : ByteArray) [.string (⟨#[65, 65, 65, 65, 65, 65, 65, 65, 65, 65, 65, 65, 47, 47, 47, 47, 47, 47, 47, 47, 47, 47, 47, 47]⟩ : ByteArray)] from rfl) (Reps.one (show Kd.M Kd.string _ _ _ (⟨#[65, 65, 65, 65, 65, 65, 65, 65, 65, 65, 65, 65, 65, 47, 47, 47, 47, 47, 47, 47, 47, 47, 47, 47, 47, 47]⟩ : ByteArray) [.string (⟨#[65, 65, 65, 65, 65, 65, 65, 65, 65, 65, 65, 65, 65, 47, 47, 47, 47, 47, 47, 47, 47, 47, 47, 47, 47, 47]⟩ : ByteArray)] from rfl) (Reps.none _ _)))); intro v284 w14 ho15 hb hg_ hnew_; clear hg_ hnew_; (first | rw [← Ny283.out] at ho15 | (simp only [Int.reduceToNat] at ho15; rw [← Ny283.out] at ho15)); have n0_ := aM (Kd.R_lower ho15 (keep_size (w := w) (g := g) (row := none) aP1)); have n1_ := aM (IsS83.below aP0 hb); have n2_ := aM (KeepBut.trans aP1 (KeepBut.of_below hb g none) (.inl rfl)); have n3_ := aM (below_step aP2 hb); clear HI0; clear HK; clear HB; have HO285 := n0_; have HI0 := n1_; have HK := n2_; have HB := n3_; clear n0_ n1_ n2_ n3_; clear hb ho15; obtain ⟨Ao16, co16, eo16⟩ := Kd.R_slice HO285.out; subst eo16) | ((with_reducible refine gate_callee (f := 85) rfl ?_); refine goesL_ (some 18) rfl rfl Try.func85 (by kernel_rfl) rfl #[.pointer (some ⟨g, 0, none⟩), .slice Ao16 y283.length co16] rfl mM ?_; (with_reducible refine (spec_l1Cur_of.calls g s0_0 t278 t279 _ _ y283 t286 t287 t288 w0 _ ?side1 ?side2 ?side3 ?side4 ?side5 A13.out).mono ?_); (case side1 => exact aP0); (case side2 => exact aP2); (case side3 => exact cC ((Kd.R_reads' HO285.out).2.2)); (case side4 => exact (Kd.R_reads' HO285.out).2.1); (case side5 => exact far_slice (IsS83.own_ne HI0.out HO285.out (by decide))); rintro e w17 ⟨rfl, hi, hb, hk⟩; refine ⟨_, rfl, ?_⟩; have n0_ := aM (Kd.R_mono (Kd.R_keep (IsS83.apart (show IsS83 w0 _ g s0_0 t278 t279 from aP0) (rR HO285.out) (by decide)) hk (fun _ h => h.2)) (fun _ h => h.1)); have n1_ := aM (KeepBut.trans aP1 hk (.inl rfl)); have n2_ := aM (hb); have n3_ := aM (hi); clear HO285; clear HK; clear HB; clear HI0; have HO285 := n0_; have HK := n1_; have HB := n2_; have HI0 := n3_; clear n0_ n1_ n2_ n3_; (try clear hb); (try clear hb2); (try clear hk); (try clear hi)))
    go_meet
    case rel => exact ⟨_, (t286), (t287), (t288), aP14, H', ⟨by first | omega | exact Nat.le_refl _⟩, ⟨aP0⟩, ⟨aP1⟩, ⟨aP2⟩⟩
   ·rw [if_neg c12] at H
    have c12b0 : (t277 == 1) = false := beq_eq_false_iff_ne.mpr c12
    have c12b1 : (t277 != 1) = true := bne_iff_ne.mpr c12
    have H' := aM H
    clear H
    go_wp2
    go_meet
    case rel => exact ⟨_, (t274), (t278), (t279), aP14, H', ⟨by first | omega | exact Nat.le_refl _⟩, ⟨aP0⟩, ⟨aP1⟩, ⟨aP2⟩⟩
 case rest =>
  clear HC5
  try clear c1
  try clear p2
  try clear c7
  try clear c8
  try clear c9
  try clear c9b0
  try clear c9b1
  try clear c12
  try clear c12b0
  try clear c12b1
  obtain ⟨kq, x3_4, x1001_4, x1002_4, rfl, HA, HJ4, HI0, HK, HB⟩ := hcut
  cases kq with
  | zero => exact absurd HA.out (by simp [spec_l1Cur_doc.j0])
  | succ kj4 =>
   have H := HA.out
   clear HA
   simp only [spec_l1Cur_doc.j0] at H
   replace H := Option.bind_eq_some_iff.mp H
   obtain ⟨⟨t289, t290, t291⟩, A180, H⟩ := H
   replace H : (if t289 = true then ((spec_l1Cur_spoilt.f kj4 s0_0 t290 t291 x3_4 (⟨#[65, 47, 97, 90]⟩ : ByteArray)).bind fun bt292 => (some (bt292.1, bt292.2.1, bt292.2.2))) else (some (x3_4, t290, t291))) = some (r1, r2, r3) := H
   have A18 := aM A180
   clear A180
   by_cases c19 : t289 = true
   ·subst c19
    have H1 : ((spec_l1Cur_spoilt.f kj4 s0_0 t290 t291 x3_4 (⟨#[65, 47, 97, 90]⟩ : ByteArray)).bind fun bt292 => (some (bt292.1, bt292.2.1, bt292.2.2))) = some (r1, r2, r3) := by rw [if_pos rfl] at H; exact H
    clear H
    have H := H1
    clear H1
    replace H := Option.bind_eq_some_iff.mp H
    obtain ⟨⟨t292, t293, t294⟩, A200, H⟩ := H
    replace H : (some (t292, t293, t294)) = some (r1, r2, r3) := H
    have A20 := aM A200
    clear A200
    simp only [Option.some.injEq, Prod.mk.injEq] at H
    obtain ⟨rfl, rfl, rfl⟩ := H
    go_wp2_with (first | ((with_reducible refine gate_callee (f := 72) rfl ?_); refine goesL_ (some 20) rfl rfl Try.func72 (by kernel_rfl) rfl #[.pointer (some ⟨g, 0, none⟩), .int .i64 12] rfl mM ?_; (with_reducible refine (spec_l1Cur_one.calls g s0_0 x1001_4 x1002_4 12 true t290 t291 w0 _ ?side1 ?side2 A18.out).mono ?_); (case side1 => exact aP0); (case side2 => exact aP2); rintro e w21 ⟨rfl, hi, hb, hk⟩; refine ⟨_, rfl, ?_⟩; have n0_ := aM (KeepBut.trans aP1 hk (.inl rfl)); have n1_ := aM (hb); have n2_ := aM (hi); clear HK; clear HB; clear HI0; have HK := n0_; have HB := n1_; have HI0 := n2_; clear n0_ n1_ n2_; (try clear hb); (try clear hb2); (try clear hk); (try clear hi)) | ((with_reducible refine gate_callee (f := 73) rfl ?_); refine goesL_ (some 23) rfl rfl Try.func73 (by kernel_rfl) rfl #[.pointer (some ⟨g, 0, none⟩), .string x3_4, .string (⟨#[65, 47, 97, 90]⟩ : ByteArray)] rfl mM ?_; (with_reducible refine (spec_l1Cur_spoilt.calls kj4 g s0_0 t290 t291 x3_4 (⟨#[65, 47, 97, 90]⟩ : ByteArray) t292 t293 t294 w0 _ ?side1 ?side2 A20.out).mono ?_); (case side1 => exact aP0); (case side2 => exact aP2); rintro e w22 ⟨rfl, hi, hb, hk⟩; refine ⟨_, rfl, ?_⟩; have n0_ := aM (KeepBut.trans aP1 hk (.inl rfl)); have n1_ := aM (hb); have n2_ := aM (hi); clear HK; clear HB; clear HI0; have HK := n0_; have HB := n1_; have HI0 := n2_; clear n0_ n1_ n2_; (try clear hb); (try clear hb2); (try clear hk); (try clear hi)))
    go_ret
    exact ⟨by first | rfl | (simp [errW_none, errW_some] <;> rfl) | (simp [errW_none, errW_some]; exact isE _) | (simp [*, errW_none, errW_some] <;> rfl), by (try simp only [Int.add_zero]); exact aP0, by exact aP2, aP1⟩
   ·replace c19 := Bool.eq_false_iff.mpr c19
    subst c19
    have H1 : (some (x3_4, t290, t291)) = some (r1, r2, r3) := by rw [if_neg (show ¬ (false = true) by decide)] at H; exact H
    clear H
    have H := H1
    clear H1
    simp only [Option.some.injEq, Prod.mk.injEq] at H
    obtain ⟨rfl, rfl, rfl⟩ := H
    go_wp2_with (first | ((with_reducible refine gate_callee (f := 72) rfl ?_); refine goesL_ (some 20) rfl rfl Try.func72 (by kernel_rfl) rfl #[.pointer (some ⟨g, 0, none⟩), .int .i64 12] rfl mM ?_; (with_reducible refine (spec_l1Cur_one.calls g s0_0 x1001_4 x1002_4 12 false t290 t291 w0 _ ?side1 ?side2 A18.out).mono ?_); (case side1 => exact aP0); (case side2 => exact aP2); rintro e w23 ⟨rfl, hi, hb, hk⟩; refine ⟨_, rfl, ?_⟩; have n0_ := aM (KeepBut.trans aP1 hk (.inl rfl)); have n1_ := aM (hb); have n2_ := aM (hi); clear HK; clear HB; clear HI0; have HK := n0_; have HB := n1_; have HI0 := n2_; clear n0_ n1_ n2_; (try clear hb); (try clear hb2); (try clear hk); (try clear hi)))
    go_ret
    exact ⟨by first | rfl | (simp [errW_none, errW_some] <;> rfl) | (simp [errW_none, errW_some]; exact isE _) | (simp [*, errW_none, errW_some] <;> rfl), by (try simp only [Int.add_zero]); exact aP0, by exact aP2, aP1⟩
/-! ### spec_l1Cur_plainText: function 70 -/
def spec_l1Cur_plainText.f (k : Nat) (s0_0 : List Int) (s0_1 : Int) (s0_2 : Int) : Option (ByteArray × Int × Int) := (spec_l1Cur_doc.f k s0_0 s0_1 s0_2).bind fun bt295 => ((spec_GoodText.f k bt295.1).bind fun t298 => (if t298 = true then (if (bt295.1.size : Int) > 40 then ((spec_l1Cur_one.f s0_0 bt295.2.1 bt295.2.2 20).bind fun bt299 => (if bt299.1 = true then (some (bt295.1, bt299.2.1, bt299.2.2)) else (if 0 ≤ 40 then (if 40 ≤ (bt295.1.size : Int) then (some (bt295.1.extract 0 40, bt299.2.1, bt299.2.2)) else (none)) else (none)))) else (some (bt295.1, bt295.2.1, bt295.2.2))) else (if 4 > 40 then ((spec_l1Cur_one.f s0_0 bt295.2.1 bt295.2.2 20).bind fun bt302 => (if bt302.1 = true then (some ((⟨#[116, 101, 120, 116]⟩ : ByteArray), bt302.2.1, bt302.2.2)) else (if 0 ≤ 40 then (if 40 ≤ 4 then (some ((⟨#[116, 101, 120, 116]⟩ : ByteArray).extract 0 40, bt302.2.1, bt302.2.2)) else (none)) else (none)))) else (some ((⟨#[116, 101, 120, 116]⟩ : ByteArray), bt295.2.1, bt295.2.2)))))
theorem spec_l1Cur_plainText.mono : ∀ a0 a1 a2 k, LeO (spec_l1Cur_plainText.f k a0 a1 a2) (spec_l1Cur_plainText.f (k + 1) a0 a1 a2) := by
 intro a0 a1 a2 k
 unfold spec_l1Cur_plainText.f
 repeat' first
   | (with_reducible exact spec_GoodText.mono _ _)
   | (with_reducible exact spec_l1Cur_doc.mono _ _ _ _)
   | (with_reducible exact LeO.refl _)
   | (with_reducible exact LeO.none _)
   | (with_reducible refine LeO.ite ?_ ?_)
   | (with_reducible refine LeO.bind ?_ (fun _ => ?_))
   | exact spec_GoodText.mono _ _
   | exact spec_l1Cur_doc.mono _ _ _ _
   | exact LeO.none _
   | refine LeO.ite ?_ ?_
   | refine LeO.bind ?_ (fun _ => ?_)
set_option maxHeartbeats 8000000 in
set_option maxRecDepth 100000 in
theorem spec_l1Cur_plainText.calls (k : Nat) (g : Nat) (s0_0 : List Int) (s0_1 : Int) (s0_2 : Int) (r1 : ByteArray) (r2 : Int) (r3 : Int) (w0 w : World) (hI : IsS83 w0 w g s0_0 s0_1 s0_2) (hB : Below w0.heap.size w0 w) (h : spec_l1Cur_plainText.f k s0_0 s0_1 s0_2 = some (r1, r2, r3)) :
  Calls Try.prog 70 #[.pointer (some ⟨g, 0, none⟩)] w fun e w' => e = .returned (.string r1) ∧ IsS83 w0 w' g s0_0 r2 r3 ∧ Below w0.heap.size w0 w' ∧ KeepBut w w' g none := by
 have HI0 := aM hI
 have HK := aM (KeepBut.refl w g none)
 have HL := aM hB.size
 clear hI
 have HW0 := aM hB.size
 have HB := aM hB
 clear hB
 have H : ((spec_l1Cur_doc.f k s0_0 s0_1 s0_2).bind fun bt295 => ((spec_GoodText.f k bt295.1).bind fun t298 => (if t298 = true then (if (bt295.1.size : Int) > 40 then ((spec_l1Cur_one.f s0_0 bt295.2.1 bt295.2.2 20).bind fun bt299 => (if bt299.1 = true then (some (bt295.1, bt299.2.1, bt299.2.2)) else (if 0 ≤ 40 then (if 40 ≤ (bt295.1.size : Int) then (some (bt295.1.extract 0 40, bt299.2.1, bt299.2.2)) else (none)) else (none)))) else (some (bt295.1, bt295.2.1, bt295.2.2))) else (if 4 > 40 then ((spec_l1Cur_one.f s0_0 bt295.2.1 bt295.2.2 20).bind fun bt302 => (if bt302.1 = true then (some ((⟨#[116, 101, 120, 116]⟩ : ByteArray), bt302.2.1, bt302.2.2)) else (if 0 ≤ 40 then (if 40 ≤ 4 then (some ((⟨#[116, 101, 120, 116]⟩ : ByteArray).extract 0 40, bt302.2.1, bt302.2.2)) else (none)) else (none)))) else (some ((⟨#[116, 101, 120, 116]⟩ : ByteArray), bt295.2.1, bt295.2.2)))))) = some (r1, r2, r3) := h
 clear h
 replace H := Option.bind_eq_some_iff.mp H
 obtain ⟨⟨t295, t296, t297⟩, A20, H⟩ := H
 replace H : ((spec_GoodText.f k t295).bind fun t298 => (if t298 = true then (if (t295.size : Int) > 40 then ((spec_l1Cur_one.f s0_0 t296 t297 20).bind fun bt299 => (if bt299.1 = true then (some (t295, bt299.2.1, bt299.2.2)) else (if 0 ≤ 40 then (if 40 ≤ (t295.size : Int) then (some (t295.extract 0 40, bt299.2.1, bt299.2.2)) else (none)) else (none)))) else (some (t295, t296, t297))) else (if 4 > 40 then ((spec_l1Cur_one.f s0_0 t296 t297 20).bind fun bt302 => (if bt302.1 = true then (some ((⟨#[116, 101, 120, 116]⟩ : ByteArray), bt302.2.1, bt302.2.2)) else (if 0 ≤ 40 then (if 40 ≤ 4 then (some ((⟨#[116, 101, 120, 116]⟩ : ByteArray).extract 0 40, bt302.2.1, bt302.2.2)) else (none)) else (none)))) else (some ((⟨#[116, 101, 120, 116]⟩ : ByteArray), t296, t297))))) = some (r1, r2, r3) := H
 have A2 := aM A20
 clear A20
 replace H := Option.bind_eq_some_iff.mp H
 obtain ⟨t298, A30, H⟩ := H
 replace H : (if t298 = true then (if (t295.size : Int) > 40 then ((spec_l1Cur_one.f s0_0 t296 t297 20).bind fun bt299 => (if bt299.1 = true then (some (t295, bt299.2.1, bt299.2.2)) else (if 0 ≤ 40 then (if 40 ≤ (t295.size : Int) then (some (t295.extract 0 40, bt299.2.1, bt299.2.2)) else (none)) else (none)))) else (some (t295, t296, t297))) else (if 4 > 40 then ((spec_l1Cur_one.f s0_0 t296 t297 20).bind fun bt302 => (if bt302.1 = true then (some ((⟨#[116, 101, 120, 116]⟩ : ByteArray), bt302.2.1, bt302.2.2)) else (if 0 ≤ 40 then (if 40 ≤ 4 then (some ((⟨#[116, 101, 120, 116]⟩ : ByteArray).extract 0 40, bt302.2.1, bt302.2.2)) else (none)) else (none)))) else (some ((⟨#[116, 101, 120, 116]⟩ : ByteArray), t296, t297)))) = some (r1, r2, r3) := H
 have A3 := aM A30
 clear A30
 by_cases c4 : t298 = true
 ·subst c4
  have H1 : (if (t295.size : Int) > 40 then ((spec_l1Cur_one.f s0_0 t296 t297 20).bind fun bt299 => (if bt299.1 = true then (some (t295, bt299.2.1, bt299.2.2)) else (if 0 ≤ 40 then (if 40 ≤ (t295.size : Int) then (some (t295.extract 0 40, bt299.2.1, bt299.2.2)) else (none)) else (none)))) else (some (t295, t296, t297))) = some (r1, r2, r3) := by rw [if_pos rfl] at H; exact H
  clear H
  have H := H1
  clear H1
  by_cases c5 : (t295.size : Int) > 40
  ·rw [if_pos c5] at H
   have c5b0 : decide (40 < (t295.size : Int)) = true := decide_eq_true c5
   have c5b1 : decide (40 < t295.size) = true := decide_eq_true (by omega)
   clear c5
   replace H := Option.bind_eq_some_iff.mp H
   obtain ⟨⟨t299, t300, t301⟩, A60, H⟩ := H
   replace H : (if t299 = true then (some (t295, t300, t301)) else (if 0 ≤ 40 then (if 40 ≤ (t295.size : Int) then (some (t295.extract 0 40, t300, t301)) else (none)) else (none))) = some (r1, r2, r3) := H
   have A6 := aM A60
   clear A60
   by_cases c7 : t299 = true
   ·subst c7
    have H1 : (some (t295, t300, t301)) = some (r1, r2, r3) := by rw [if_pos rfl] at H; exact H
    clear H
    have H := H1
    clear H1
    simp only [Option.some.injEq, Prod.mk.injEq] at H
    obtain ⟨rfl, rfl, rfl⟩ := H
    go_enter Try.func70, Try.ntmps70
    go_wp2_with (first | ((with_reducible refine gate_callee (f := 84) rfl ?_); refine goesL_ (some 5) rfl rfl Try.func84 (by kernel_rfl) rfl #[.pointer (some ⟨g, 0, none⟩)] rfl mM ?_; (with_reducible refine (spec_l1Cur_doc.calls k g s0_0 s0_1 s0_2 t295 t296 t297 w0 _ ?side1 ?side2 A2.out).mono ?_); (case side1 => exact aP0); (case side2 => exact aP2); rintro e w8 ⟨rfl, hi, hb, hk⟩; refine ⟨_, rfl, ?_⟩; have n0_ := aM (KeepBut.trans aP1 hk (.inl rfl)); have n1_ := aM (hb); have n2_ := aM (hi); clear HK; clear HB; clear HI0; have HK := n0_; have HB := n1_; have HI0 := n2_; clear n0_ n1_ n2_; (try clear hb); (try clear hb2); (try clear hk); (try clear hi)) | ((with_reducible refine gate_callee (f := 53) rfl ?_); refine goesL_ (some 7) rfl rfl Try.func53 (by kernel_rfl) rfl #[.string t295] rfl mM ?_; (with_reducible refine (spec_GoodText.calls k t295 true _ A3.out).mono ?_); rintro e w' ⟨rfl, ⟨nd, rfl⟩⟩; refine ⟨_, rfl, ?_⟩) | (go_at_call 72; (with_reducible refine (spec_l1Cur_one.calls g s0_0 t296 t297 20 true t300 t301 w0 _ ?side1 ?side2 A6.out).mono ?_); (case side1 => exact aP0); (case side2 => exact aP2); rintro e w9 ⟨rfl, hi, hb, hk⟩; have n0_ := aM (KeepBut.trans aP1 hk (.inl rfl)); have n1_ := aM (hb); have n2_ := aM (hi); clear HK; clear HB; clear HI0; have HK := n0_; have HB := n1_; have HI0 := n2_; clear n0_ n1_ n2_; (try clear hb); (try clear hb2); (try clear hk); (try clear hi)))
    go_ret
    exact ⟨by first | rfl | (simp [errW_none, errW_some] <;> rfl) | (simp [errW_none, errW_some]; exact isE _) | (simp [*, errW_none, errW_some] <;> rfl), by (try simp only [Int.add_zero]); exact aP0, by exact aP2, aP1⟩
   ·replace c7 := Bool.eq_false_iff.mpr c7
    subst c7
    have H1 : (if 0 ≤ 40 then (if 40 ≤ (t295.size : Int) then (some (t295.extract 0 40, t300, t301)) else (none)) else (none)) = some (r1, r2, r3) := by rw [if_neg (show ¬ (false = true) by decide)] at H; exact H
    clear H
    have H := H1
    clear H1
    by_cases c10 : 0 ≤ 40
    ·rw [if_pos c10] at H
     have c10b0 := eq_true c10
     have c10b1 : decide (0 ≤ 40) = true := decide_eq_true c10
     clear c10
     by_cases c11 : 40 ≤ (t295.size : Int)
     ·rw [if_pos c11] at H
      have c11b0 := eq_true c11
      have c11b1 : decide (40 ≤ (t295.size : Int)) = true := decide_eq_true c11
      clear c11
      simp only [Option.some.injEq, Prod.mk.injEq] at H
      obtain ⟨rfl, rfl, rfl⟩ := H
      go_enter Try.func70, Try.ntmps70
      go_wp2_with (first | ((with_reducible refine gate_callee (f := 84) rfl ?_); refine goesL_ (some 5) rfl rfl Try.func84 (by kernel_rfl) rfl #[.pointer (some ⟨g, 0, none⟩)] rfl mM ?_; (with_reducible refine (spec_l1Cur_doc.calls k g s0_0 s0_1 s0_2 t295 t296 t297 w0 _ ?side1 ?side2 A2.out).mono ?_); (case side1 => exact aP0); (case side2 => exact aP2); rintro e w12 ⟨rfl, hi, hb, hk⟩; refine ⟨_, rfl, ?_⟩; have n0_ := aM (KeepBut.trans aP1 hk (.inl rfl)); have n1_ := aM (hb); have n2_ := aM (hi); clear HK; clear HB; clear HI0; have HK := n0_; have HB := n1_; have HI0 := n2_; clear n0_ n1_ n2_; (try clear hb); (try clear hb2); (try clear hk); (try clear hi)) | ((with_reducible refine gate_callee (f := 53) rfl ?_); refine goesL_ (some 7) rfl rfl Try.func53 (by kernel_rfl) rfl #[.string t295] rfl mM ?_; (with_reducible refine (spec_GoodText.calls k t295 true _ A3.out).mono ?_); rintro e w' ⟨rfl, ⟨nd, rfl⟩⟩; refine ⟨_, rfl, ?_⟩) | (go_at_call 72; (with_reducible refine (spec_l1Cur_one.calls g s0_0 t296 t297 20 false t300 t301 w0 _ ?side1 ?side2 A6.out).mono ?_); (case side1 => exact aP0); (case side2 => exact aP2); rintro e w13 ⟨rfl, hi, hb, hk⟩; have n0_ := aM (KeepBut.trans aP1 hk (.inl rfl)); have n1_ := aM (hb); have n2_ := aM (hi); clear HK; clear HB; clear HI0; have HK := n0_; have HB := n1_; have HI0 := n2_; clear n0_ n1_ n2_; (try clear hb); (try clear hb2); (try clear hk); (try clear hi)))
      go_ret
      exact ⟨by first | rfl | (simp [errW_none, errW_some] <;> rfl) | (simp [errW_none, errW_some]; exact isE _) | (simp [*, errW_none, errW_some] <;> rfl), by (try simp only [Int.add_zero]); exact aP0, by exact aP2, aP1⟩
     ·rw [if_neg c11] at H
      exact absurd H (by simp)
    ·rw [if_neg c10] at H
     exact absurd H (by simp)
  ·rw [if_neg c5] at H
   have c5b0 : decide (40 < (t295.size : Int)) = false := decide_eq_false c5
   have c5b1 : decide (40 < t295.size) = false := decide_eq_false (by omega)
   clear c5
   simp only [Option.some.injEq, Prod.mk.injEq] at H
   obtain ⟨rfl, rfl, rfl⟩ := H
   go_enter Try.func70, Try.ntmps70
   go_wp2_with (first | ((with_reducible refine gate_callee (f := 84) rfl ?_); refine goesL_ (some 5) rfl rfl Try.func84 (by kernel_rfl) rfl #[.pointer (some ⟨g, 0, none⟩)] rfl mM ?_; (with_reducible refine (spec_l1Cur_doc.calls k g s0_0 s0_1 s0_2 t295 t296 t297 w0 _ ?side1 ?side2 A2.out).mono ?_); (case side1 => exact aP0); (case side2 => exact aP2); rintro e w14 ⟨rfl, hi, hb, hk⟩; refine ⟨_, rfl, ?_⟩; have n0_ := aM (KeepBut.trans aP1 hk (.inl rfl)); have n1_ := aM (hb); have n2_ := aM (hi); clear HK; clear HB; clear HI0; have HK := n0_; have HB := n1_; have HI0 := n2_; clear n0_ n1_ n2_; (try clear hb); (try clear hb2); (try clear hk); (try clear hi)) | ((with_reducible refine gate_callee (f := 53) rfl ?_); refine goesL_ (some 7) rfl rfl Try.func53 (by kernel_rfl) rfl #[.string t295] rfl mM ?_; (with_reducible refine (spec_GoodText.calls k t295 true _ A3.out).mono ?_); rintro e w' ⟨rfl, ⟨nd, rfl⟩⟩; refine ⟨_, rfl, ?_⟩))
   go_ret
   exact ⟨by first | rfl | (simp [errW_none, errW_some] <;> rfl) | (simp [errW_none, errW_some]; exact isE _) | (simp [*, errW_none, errW_some] <;> rfl), by (try simp only [Int.add_zero]); exact aP0, by exact aP2, aP1⟩
 ·replace c4 := Bool.eq_false_iff.mpr c4
  subst c4
  have H1 : (if 4 > 40 then ((spec_l1Cur_one.f s0_0 t296 t297 20).bind fun bt302 => (if bt302.1 = true then (some ((⟨#[116, 101, 120, 116]⟩ : ByteArray), bt302.2.1, bt302.2.2)) else (if 0 ≤ 40 then (if 40 ≤ 4 then (some ((⟨#[116, 101, 120, 116]⟩ : ByteArray).extract 0 40, bt302.2.1, bt302.2.2)) else (none)) else (none)))) else (some ((⟨#[116, 101, 120, 116]⟩ : ByteArray), t296, t297))) = some (r1, r2, r3) := by rw [if_neg (show ¬ (false = true) by decide)] at H; exact H
  clear H
  have H := H1
  clear H1
  by_cases c15 : 4 > 40
  ·exact absurd c15 (by omega)
  ·rw [if_neg c15] at H
   have c15b0 : decide (40 < 4) = false := decide_eq_false c15
   clear c15
   simp only [Option.some.injEq, Prod.mk.injEq] at H
   obtain ⟨rfl, rfl, rfl⟩ := H
   go_enter Try.func70, Try.ntmps70
   go_wp2_with (first | ((with_reducible refine gate_callee (f := 84) rfl ?_); refine goesL_ (some 5) rfl rfl Try.func84 (by kernel_rfl) rfl #[.pointer (some ⟨g, 0, none⟩)] rfl mM ?_; (with_reducible refine (spec_l1Cur_doc.calls k g s0_0 s0_1 s0_2 t295 t296 t297 w0 _ ?side1 ?side2 A2.out).mono ?_); (case side1 => exact aP0); (case side2 => exact aP2); rintro e w24 ⟨rfl, hi, hb, hk⟩; refine ⟨_, rfl, ?_⟩; have n0_ := aM (KeepBut.trans aP1 hk (.inl rfl)); have n1_ := aM (hb); have n2_ := aM (hi); clear HK; clear HB; clear HI0; have HK := n0_; have HB := n1_; have HI0 := n2_; clear n0_ n1_ n2_; (try clear hb); (try clear hb2); (try clear hk); (try clear hi)) | ((with_reducible refine gate_callee (f := 53) rfl ?_); refine goesL_ (some 7) rfl rfl Try.func53 (by kernel_rfl) rfl #[.string t295] rfl mM ?_; (with_reducible refine (spec_GoodText.calls k t295 false _ A3.out).mono ?_); rintro e w' ⟨rfl, ⟨nd, rfl⟩⟩; refine ⟨_, rfl, ?_⟩))
   go_ret
   exact ⟨by first | rfl | (simp [errW_none, errW_some] <;> rfl) | (simp [errW_none, errW_some]; exact isE _) | (simp [*, errW_none, errW_some] <;> rfl), by (try simp only [Int.add_zero]); exact aP0, by exact aP2, aP1⟩
/-! ### spec_l1Cur_opOn: function 71 -/
mutual
def spec_l1Cur_opOn.l0 : Nat → ByteArray → List (S53) → Int → List Int → Int → Int → Option ((List (S53)) × Int × Int)
 | 0, _, _, _, _, _, _ => none
 | k + 1, x1, x5, x6, x1000, x1001, x1002 => if x6 < (x1.size : Int) then ((spec_l1Cur_pick.f x1000 x1001 x1002 5).bind fun bt305 => (if (wrap64 (1 + bt305.1)) > (wrap64 ((x1.size : Int) - x6)) then (spec_l1Cur_opOn.j1 k x1 x5 x6 (wrap64 ((x1.size : Int) - x6)) x1000 bt305.2.1 bt305.2.2) else (spec_l1Cur_opOn.j1 k x1 x5 x6 (wrap64 (1 + bt305.1)) x1000 bt305.2.1 bt305.2.2))) else ((spec_l1Cur_one.f x1000 x1001 x1002 3).bind fun bt326 => (if bt326.1 = true then ((spec_l1Cur_of.f x1000 bt326.2.1 bt326.2.2 (([(⟨#[101, 110, 100]⟩ : ByteArray), (⟨#[46]⟩ : ByteArray)] : List ByteArray))).bind fun bt332 => (if x5.length < 3518437208883 then (some ((x5 ++ [(⟨0, bt332.1, (⟨#[]⟩ : ByteArray)⟩ : S53)]), bt332.2.1, bt332.2.2)) else (none))) else (some (x5, bt326.2.1, bt326.2.2))))
def spec_l1Cur_opOn.j1 : Nat → ByteArray → List (S53) → Int → Int → List Int → Int → Int → Option ((List (S53)) × Int × Int)
 | 0, _, _, _, _, _, _, _ => none
 | k + 1, x1, x5, x6, x7, x1000, x1001, x1002 => (spec_l1Cur_pick.f x1000 x1001 x1002 4).bind fun bt308 => (if bt308.1 = 0 then (if 0 ≤ x6 then (if x6 ≤ (wrap64 (x6 + x7)) then (if (wrap64 (x6 + x7)) ≤ (x1.size : Int) then (if x5.length < 3518437208883 then (spec_l1Cur_opOn.l0 k x1 (x5 ++ [(⟨0, (⟨#[]⟩ : ByteArray), x1.extract (x6 : Int).toNat ((wrap64 (x6 + x7)) : Int).toNat⟩ : S53)]) (wrap64 (x6 + x7)) x1000 bt308.2.1 bt308.2.2) else (none)) else (none)) else (none)) else (none)) else (if bt308.1 = 1 then ((spec_l1Cur_of.f x1000 bt308.2.1 bt308.2.2 (([(⟨#[120]⟩ : ByteArray), (⟨#[121, 121]⟩ : ByteArray), (⟨#[65, 47]⟩ : ByteArray), (⟨#[110, 101, 119]⟩ : ByteArray), (⟨#[66]⟩ : ByteArray)] : List ByteArray))).bind fun bt317 => (if x5.length < 3518437208883 then (spec_l1Cur_opOn.l0 k x1 (x5 ++ [(⟨0, bt317.1, (⟨#[]⟩ : ByteArray)⟩ : S53)]) x6 x1000 bt317.2.1 bt317.2.2) else (none))) else (if x5.length < 3518437208883 then (spec_l1Cur_opOn.l0 k x1 (x5 ++ [(⟨x7, (⟨#[]⟩ : ByteArray), (⟨#[]⟩ : ByteArray)⟩ : S53)]) (wrap64 (x6 + x7)) x1000 bt308.2.1 bt308.2.2) else (none))))
end
def spec_l1Cur_opOn.f (k : Nat) (s0_0 : List Int) (s0_1 : Int) (s0_2 : Int) (a1 : ByteArray) : Option ((List (S53)) × Int × Int) := spec_l1Cur_opOn.l0 k a1 ([] : List (S53)) 0 s0_0 s0_1 s0_2
theorem spec_l1Cur_opOn.mono_l : ∀ k, (∀ y0 y1 y2 y3 y4 y5, LeO (spec_l1Cur_opOn.l0 k y0 y1 y2 y3 y4 y5) (spec_l1Cur_opOn.l0 (k + 1) y0 y1 y2 y3 y4 y5)) ∧ (∀ y0 y1 y2 y3 y4 y5 y6, LeO (spec_l1Cur_opOn.j1 k y0 y1 y2 y3 y4 y5 y6) (spec_l1Cur_opOn.j1 (k + 1) y0 y1 y2 y3 y4 y5 y6))
 | 0 => ⟨fun _ _ _ _ _ _ r h => by simp [spec_l1Cur_opOn.l0] at h, fun _ _ _ _ _ _ _ r h => by simp [spec_l1Cur_opOn.j1] at h⟩
 | k + 1 => by
  obtain ⟨ih0, ih1⟩ := spec_l1Cur_opOn.mono_l k
  refine ⟨?_, ?_⟩
  ·intro y0 y1 y2 y3 y4 y5
   unfold spec_l1Cur_opOn.l0
   repeat' first
   | (with_reducible exact ih0 _ _ _ _ _ _)
   | (with_reducible exact ih1 _ _ _ _ _ _ _)
   | (with_reducible exact LeO.refl _)
   | (with_reducible exact LeO.none _)
   | (with_reducible refine LeO.ite ?_ ?_)
   | (with_reducible refine LeO.bind ?_ (fun _ => ?_))
   | exact ih0 _ _ _ _ _ _
   | exact ih1 _ _ _ _ _ _ _
   | exact LeO.none _
   | refine LeO.ite ?_ ?_
   | refine LeO.bind ?_ (fun _ => ?_)
  ·intro y0 y1 y2 y3 y4 y5 y6
   unfold spec_l1Cur_opOn.j1
   repeat' first
   | (with_reducible exact ih0 _ _ _ _ _ _)
   | (with_reducible exact ih1 _ _ _ _ _ _ _)
   | (with_reducible exact LeO.refl _)
   | (with_reducible exact LeO.none _)
   | (with_reducible refine LeO.ite ?_ ?_)
   | (with_reducible refine LeO.bind ?_ (fun _ => ?_))
   | exact ih0 _ _ _ _ _ _
   | exact ih1 _ _ _ _ _ _ _
   | exact LeO.none _
   | refine LeO.ite ?_ ?_
   | refine LeO.bind ?_ (fun _ => ?_)
theorem spec_l1Cur_opOn.mono : ∀ a0 a1 a2 a3 k, LeO (spec_l1Cur_opOn.f k a0 a1 a2 a3) (spec_l1Cur_opOn.f (k + 1) a0 a1 a2 a3) := by
 intro a0 a1 a2 a3 k
 obtain ⟨ih0, ih1⟩ := spec_l1Cur_opOn.mono_l k
 unfold spec_l1Cur_opOn.f
 repeat' first
   | (with_reducible exact ih0 _ _ _ _ _ _)
   | (with_reducible exact ih1 _ _ _ _ _ _ _)
   | (with_reducible exact LeO.refl _)
   | (with_reducible exact LeO.none _)
   | (with_reducible refine LeO.ite ?_ ?_)
   | (with_reducible refine LeO.bind ?_ (fun _ => ?_))
   | exact ih0 _ _ _ _ _ _
   | exact ih1 _ _ _ _ _ _ _
   | exact LeO.none _
   | refine LeO.ite ?_ ?_
   | refine LeO.bind ?_ (fun _ => ?_)
set_option maxHeartbeats 8000000 in
set_option maxRecDepth 100000 in
theorem spec_l1Cur_opOn.calls (k : Nat) (g : Nat) (s0_0 : List Int) (s0_1 : Int) (s0_2 : Int) (a1 : ByteArray) (r1 : List (S53)) (r2 : Int) (r3 : Int) (w0 w : World) (hI : IsS83 w0 w g s0_0 s0_1 s0_2) (hB : Below w0.heap.size w0 w) (h : spec_l1Cur_opOn.f k s0_0 s0_1 s0_2 a1 = some (r1, r2, r3)) :
  Calls Try.prog 71 #[.pointer (some ⟨g, 0, none⟩), .string a1] w fun e w' => ∃ v0_ : Value, e = .returned (v0_) ∧ Kd.R k53 53 w' w.heap.size (fun _ => True) v0_ r1 ∧ IsS83 w0 w' g s0_0 r2 r3 ∧ Below w0.heap.size w0 w' ∧ KeepBut w w' g none := by
 have hu53 := Try.underlying53
 have HI0 := aM hI
 have HK := aM (KeepBut.refl w g none)
 have HL := aM hB.size
 clear hI
 have HW0 := aM hB.size
 have HB := aM hB
 clear hB
 have H : (spec_l1Cur_opOn.l0 k a1 ([] : List (S53)) 0 s0_0 s0_1 s0_2) = some (r1, r2, r3) := h
 clear h
 have H' := aM H
 clear H
 go_enter Try.func71, Try.ntmps71
 go_wp2
 go_loopg [5, 6] k (fun kq v5 v6 w' => ∃ (x5_1 : List (S53)) (x6_1 : Int) (x1001_1 : Int) (x1002_1 : Int), v6 = .int .i64 x6_1 ∧ Aside0 (spec_l1Cur_opOn.l0 kq a1 x5_1 x6_1 s0_0 x1001_1 x1002_1 = some (r1, r2, r3)) ∧ Aside0 (kq ≤ k) ∧ Aside0 (Kd.R k53 53 w' w.heap.size (fun _ => True) v5 x5_1) ∧ Aside0 (IsS83 w0 w' g s0_0 x1001_1 x1002_1) ∧ Aside0 (KeepBut w w' g none) ∧ Aside0 (Below w0.heap.size w0 w'))
 case atStart => exact ⟨(([] : List (S53))), (0), (s0_1), (s0_2), aP14, H', ⟨Nat.le_refl _⟩, ⟨by first | exact Kd.R_nil _ _ _ _ _ | exact Kd.N_nil _ _ _ _ _ | exact Kd.V_nil _ _ _ _ _ | exact Kd.Q_nil _ _ _ _ _ | exact Kd.S_nil _ _ _ _ _⟩, ⟨aP0⟩, ⟨aP1⟩, ⟨aP2⟩⟩
 case round =>
  clear H'
  try clear p2
  obtain ⟨x5_1, x6_1, x1001_1, x1002_1, rfl, HA, HK1, HO_5, HI0, HK, HB⟩ := hrel
  cases gk with
  | zero => exact absurd HA.out (by simp [spec_l1Cur_opOn.l0])
  | succ k1 =>
   have H := HA.out
   clear HA
   simp only [spec_l1Cur_opOn.l0] at H
   by_cases c3 : x6_1 < (a1.size : Int)
   ·rw [if_pos c3] at H
    have c3b0 : decide (x6_1 < (a1.size : Int)) = true := decide_eq_true c3
    clear c3
    replace H := Option.bind_eq_some_iff.mp H
    obtain ⟨⟨t305, t306, t307⟩, A40, H⟩ := H
    replace H : (if (wrap64 (1 + t305)) > (wrap64 ((a1.size : Int) - x6_1)) then (spec_l1Cur_opOn.j1 k1 a1 x5_1 x6_1 (wrap64 ((a1.size : Int) - x6_1)) s0_0 t306 t307) else (spec_l1Cur_opOn.j1 k1 a1 x5_1 x6_1 (wrap64 (1 + t305)) s0_0 t306 t307)) = some (r1, r2, r3) := H
    have A4 := aM A40
    clear A40
    have HC5 := aM H
    clear H
    go_upto_if 20 with (first | ((with_reducible refine gate_callee (f := 74) rfl ?_); refine goesL_ (some 13) rfl rfl Try.func74 (by kernel_rfl) rfl #[.pointer (some ⟨g, 0, none⟩), .int .i64 5] rfl mM ?_; (with_reducible refine (spec_l1Cur_pick.calls g s0_0 x1001_1 x1002_1 5 t305 t306 t307 w0 _ ?side1 ?side2 A4.out).mono ?_); (case side1 => exact aP0); (case side2 => exact aP2); rintro e w6 ⟨rfl, hi, hb, hk⟩; refine ⟨_, rfl, ?_⟩; have n0_ := aM (Kd.R_mono (Kd.R_keep (IsS83.apart (show IsS83 w0 _ g s0_0 x1001_1 x1002_1 from aP0) (rR HO_5.out) (by decide)) hk (fun _ h => h.2)) (fun _ h => h.1)); have n1_ := aM (KeepBut.trans aP1 hk (.inl rfl)); have n2_ := aM (hb); have n3_ := aM (hi); clear HO_5; clear HK; clear HB; clear HI0; have HO_5 := n0_; have HK := n1_; have HB := n2_; have HI0 := n3_; clear n0_ n1_ n2_ n3_; (try clear hb); (try clear hb2); (try clear hk); (try clear hi)))
    (try simp only [Act.put, List.setIfInBounds_toArray, List.set_cons_zero, List.set_cons_succ])
    go_cut [7] (fun v7 wc => ∃ (kq : Nat) (x7_4 : Int), v7 = .int .i64 x7_4 ∧ Aside0 (spec_l1Cur_opOn.j1 kq a1 x5_1 x6_1 x7_4 s0_0 t306 t307 = some (r1, r2, r3)) ∧ Aside0 (kq ≤ k1) ∧ Aside0 (Kd.R k53 53 wc w.heap.size (fun _ => True) u5 x5_1) ∧ Aside0 (IsS83 w0 wc g s0_0 t306 t307) ∧ Aside0 (KeepBut w wc g none) ∧ Aside0 (Below w0.heap.size w0 wc))
    case first =>
     have H := HC5.out
     clear HC5
     by_cases c7 : (wrap64 (1 + t305)) > (wrap64 ((a1.size : Int) - x6_1))
     ·rw [if_pos c7] at H
      have c7b0 : decide ((wrap64 ((a1.size : Int) - x6_1)) < (wrap64 (1 + t305))) = true := decide_eq_true c7
      clear c7
      (first | rw [c7b0] | (simp only [i64_w, i32_w]; rw [c7b0]) | rw [c7e] | skip)
      have H' := aM H
      clear H
      go_wp2
      go_meet
      case rel => exact ⟨_, (wrap64 ((a1.size : Int) - x6_1)), aP14, H', ⟨by have := HK1.out; first | omega | exact Nat.le_refl _⟩, ⟨rR HO_5.out⟩, ⟨aP0⟩, ⟨aP1⟩, ⟨aP2⟩⟩
     ·rw [if_neg c7] at H
      have c7b0 : decide ((wrap64 ((a1.size : Int) - x6_1)) < (wrap64 (1 + t305))) = false := decide_eq_false c7
      clear c7
      (first | rw [c7b0] | (simp only [i64_w, i32_w]; rw [c7b0]) | rw [c7e] | skip)
      have H' := aM H
      clear H
      go_wp2
      go_meet
      case rel => exact ⟨_, (wrap64 (1 + t305)), aP14, H', ⟨by have := HK1.out; first | omega | exact Nat.le_refl _⟩, ⟨rR HO_5.out⟩, ⟨aP0⟩, ⟨aP1⟩, ⟨aP2⟩⟩
    case rest =>
     clear HC5
     try clear p2
     try clear c3
     try clear c3b0
     try clear p6
     try clear c7
     try clear c7b0
     try clear p2
     obtain ⟨kq, x7_4, rfl, HA, HJ4, HO_5, HI0, HK, HB⟩ := hcut
     cases kq with
     | zero => exact absurd HA.out (by simp [spec_l1Cur_opOn.j1])
     | succ kj4 =>
      have H := HA.out
      clear HA
      simp only [spec_l1Cur_opOn.j1] at H
      replace H := Option.bind_eq_some_iff.mp H
      obtain ⟨⟨t308, t309, t310⟩, A80, H⟩ := H
      replace H : (if t308 = 0 then (if 0 ≤ x6_1 then (if x6_1 ≤ (wrap64 (x6_1 + x7_4)) then (if (wrap64 (x6_1 + x7_4)) ≤ (a1.size : Int) then (if x5_1.length < 3518437208883 then (spec_l1Cur_opOn.l0 kj4 a1 (x5_1 ++ [(⟨0, (⟨#[]⟩ : ByteArray), a1.extract (x6_1 : Int).toNat ((wrap64 (x6_1 + x7_4)) : Int).toNat⟩ : S53)]) (wrap64 (x6_1 + x7_4)) s0_0 t309 t310) else (none)) else (none)) else (none)) else (none)) else (if t308 = 1 then ((spec_l1Cur_of.f s0_0 t309 t310 (([(⟨#[120]⟩ : ByteArray), (⟨#[121, 121]⟩ : ByteArray), (⟨#[65, 47]⟩ : ByteArray), (⟨#[110, 101, 119]⟩ : ByteArray), (⟨#[66]⟩ : ByteArray)] : List ByteArray))).bind fun bt317 => (if x5_1.length < 3518437208883 then (spec_l1Cur_opOn.l0 kj4 a1 (x5_1 ++ [(⟨0, bt317.1, (⟨#[]⟩ : ByteArray)⟩ : S53)]) x6_1 s0_0 bt317.2.1 bt317.2.2) else (none))) else (if x5_1.length < 3518437208883 then (spec_l1Cur_opOn.l0 kj4 a1 (x5_1 ++ [(⟨x7_4, (⟨#[]⟩ : ByteArray), (⟨#[]⟩ : ByteArray)⟩ : S53)]) (wrap64 (x6_1 + x7_4)) s0_0 t309 t310) else (none)))) = some (r1, r2, r3) := H
      have A8 := aM A80
      clear A80
      by_cases c9 : t308 = 0
      ·rw [if_pos c9] at H
       have c9b0 : (t308 == 0) = true := beq_iff_eq.mpr c9
       have c9b1 : (t308 != 0) = false := bne_eq_false_iff_eq.mpr c9
       clear c9
       by_cases c10 : 0 ≤ x6_1
       ·rw [if_pos c10] at H
        have c10b0 := eq_true c10
        have c10b1 : decide (0 ≤ x6_1) = true := decide_eq_true c10
        clear c10
        by_cases c11 : x6_1 ≤ (wrap64 (x6_1 + x7_4))
        ·rw [if_pos c11] at H
         have c11b0 := eq_true c11
         have c11b1 : decide (x6_1 ≤ (wrap64 (x6_1 + x7_4))) = true := decide_eq_true c11
         by_cases c12 : (wrap64 (x6_1 + x7_4)) ≤ (a1.size : Int)
         ·rw [if_pos c12] at H
          have c12b0 := eq_true c12
          have c12b1 : decide ((wrap64 (x6_1 + x7_4)) ≤ (a1.size : Int)) = true := decide_eq_true c12
          by_cases c13 : x5_1.length < 3518437208883
          ·rw [if_pos c13] at H
           have LMc13 := aM c13
           clear c13
           obtain ⟨y311, hy311⟩ : ∃ y_ : List (S53), y_ = (x5_1 ++ [(⟨0, (⟨#[]⟩ : ByteArray), a1.extract (x6_1 : Int).toNat ((wrap64 (x6_1 + x7_4)) : Int).toNat⟩ : S53)]) := ⟨_, rfl⟩
           replace H : (spec_l1Cur_opOn.l0 kj4 a1 y311 (wrap64 (x6_1 + x7_4)) s0_0 t309 t310) = some (r1, r2, r3) := by first | (rw [hy311]; with_reducible exact H) | (have H2_ := (Option.bind_some _ _).symm.trans H; rw [hy311]; with_reducible exact H2_) | (have H2_ := (Option.bind_some _ _).symm.trans H; with_reducible exact H2_) | with_reducible exact H | (rw [hy311]; exact H) | exact H
           have Ny311 := aM hy311
           clear hy311
           have H' := aM H
           clear H
           go_wp2_with (first | ((with_reducible refine gate_callee (f := 74) rfl ?_); refine goesL_ (some 26) rfl rfl Try.func74 (by kernel_rfl) rfl #[.pointer (some ⟨g, 0, none⟩), .int .i64 4] rfl mM ?_; (with_reducible refine (spec_l1Cur_pick.calls g s0_0 t306 t307 4 t308 t309 t310 w0 _ ?side1 ?side2 A8.out).mono ?_); (case side1 => exact aP0); (case side2 => exact aP2); rintro e w14 ⟨rfl, hi, hb, hk⟩; refine ⟨_, rfl, ?_⟩; have n0_ := aM (Kd.R_mono (Kd.R_keep (IsS83.apart (show IsS83 w0 _ g s0_0 t306 t307 from aP0) (rR HO_5.out) (by decide)) hk (fun _ h => h.2)) (fun _ h => h.1)); have n1_ := aM (KeepBut.trans aP1 hk (.inl rfl)); have n2_ := aM (hb); have n3_ := aM (hi); clear HO_5; clear HK; clear HB; clear HI0; have HO_5 := n0_; have HK := n1_; have HB := n2_; have HI0 := n3_; clear n0_ n1_ n2_ n3_; (try clear hb); (try clear hb2); (try clear hk); (try clear hi)) | ((with_reducible refine gate_builtin (b := .append) (xs := #[.tmp 37, .tmp 45]) rfl ?_); at_builtin; refine Kd.R_append k53 w.heap.size rfl (.tmp 37) (.tmp 45) 22 53 (.agg #[(.int .i64 0), (.string ⟨#[]⟩), (.string ⟨#[]⟩)]) 40 rfl Try.underlying22 info53 rfl (by decide) (by omega) u5 x5_1 (⟨0, (⟨#[]⟩ : ByteArray), a1.extract (x6_1 : Int).toNat ((wrap64 (x6_1 + x7_4)) : Int).toNat⟩ : S53) [.int .i64 0, .string (⟨#[]⟩ : ByteArray), .string (a1.extract (x6_1 : Int).toNat ((wrap64 (x6_1 + x7_4)) : Int).toNat)] (fun _ => True) (fun _ => False) rfl rfl ?aP (fun _ hk => hk.elim) ?aF ?aO (Below.refl _ _) ?aS ?aL ?_; (case aP => exact k53_mkM _ _ _ (⟨0, (⟨#[]⟩ : ByteArray), a1.extract (x6_1 : Int).toNat ((wrap64 (x6_1 + x7_4)) : Int).toNat⟩ : S53)); (case aF => exact (fun _ _ => trivial)); (case aO => exact (rR HO_5.out)); (case aS => exact (keep_size (w := w) (g := g) (row := none) aP1)); (case aL => have := LMc13.out; omega); intro v312 w15 ho hb hg hat; rw [← Ny311.out] at ho; have n0_ := aM (IsS83.grown aP0 hg (IsS83.own_ne HI0.out HO_5.out (by decide))); have n1_ := aM (below_weaken aP2 HL.out hb); have n2_ := aM (KeepBut.trans aP1 (KeepBut.of_grown hg g) (Kd.R_base2 HO_5.out)); have n3_ := aM (ho); clear HI0; clear HB; clear HK; clear HO_5; have HI0 := n0_; have HB := n1_; have HK := n2_; have HO313 := n3_; clear n0_ n1_ n2_ n3_; clear ho hb hg hat))
           go_roundg kj4
           case measure => have := HK1.out; have := HJ4.out; omega
           case rel => exact ⟨(y311), (wrap64 (x6_1 + x7_4)), (t309), (t310), aP14, H', ⟨by have := HK1.out; have := HJ4.out; omega⟩, ⟨rR HO313.out⟩, ⟨aP0⟩, ⟨aP1⟩, ⟨aP2⟩⟩
          ·rw [if_neg c13] at H
           exact absurd H (by simp)
         ·rw [if_neg c12] at H
          exact absurd H (by simp)
        ·rw [if_neg c11] at H
         exact absurd H (by simp)
       ·rw [if_neg c10] at H
        exact absurd H (by simp)
      ·rw [if_neg c9] at H
       have c9b0 : (t308 == 0) = false := beq_eq_false_iff_ne.mpr c9
       have c9b1 : (t308 != 0) = true := bne_iff_ne.mpr c9
       by_cases c16 : t308 = 1
       ·rw [if_pos c16] at H
        have c16b0 : (t308 == 1) = true := beq_iff_eq.mpr c16
        have c16b1 : (t308 != 1) = false := bne_eq_false_iff_eq.mpr c16
        clear c16
        obtain ⟨y314, hy314⟩ : ∃ y_ : List ByteArray, y_ = (([(⟨#[120]⟩ : ByteArray), (⟨#[121, 121]⟩ : ByteArray), (⟨#[65, 47]⟩ : ByteArray), (⟨#[110, 101, 119]⟩ : ByteArray), (⟨#[66]⟩ : ByteArray)] : List ByteArray)) := ⟨_, rfl⟩
        replace H : ((spec_l1Cur_of.f s0_0 t309 t310 y314).bind fun bt317 => (if x5_1.length < 3518437208883 then (spec_l1Cur_opOn.l0 kj4 a1 (x5_1 ++ [(⟨0, bt317.1, (⟨#[]⟩ : ByteArray)⟩ : S53)]) x6_1 s0_0 bt317.2.1 bt317.2.2) else (none))) = some (r1, r2, r3) := by first | (rw [hy314]; with_reducible exact H) | (have H2_ := (Option.bind_some _ _).symm.trans H; rw [hy314]; with_reducible exact H2_) | (have H2_ := (Option.bind_some _ _).symm.trans H; with_reducible exact H2_) | with_reducible exact H | (rw [hy314]; exact H) | exact H
        have Ny314 := aM hy314
        clear hy314
        replace H := Option.bind_eq_some_iff.mp H
        obtain ⟨⟨t317, t318, t319⟩, A170, H⟩ := H
        replace H : (if x5_1.length < 3518437208883 then (spec_l1Cur_opOn.l0 kj4 a1 (x5_1 ++ [(⟨0, t317, (⟨#[]⟩ : ByteArray)⟩ : S53)]) x6_1 s0_0 t318 t319) else (none)) = some (r1, r2, r3) := H
        have A17 := aM A170
        clear A170
        by_cases c18 : x5_1.length < 3518437208883
        ·rw [if_pos c18] at H
         have LMc18 := aM c18
         clear c18
         obtain ⟨y320, hy320⟩ : ∃ y_ : List (S53), y_ = (x5_1 ++ [(⟨0, t317, (⟨#[]⟩ : ByteArray)⟩ : S53)]) := ⟨_, rfl⟩
         replace H : (spec_l1Cur_opOn.l0 kj4 a1 y320 x6_1 s0_0 t318 t319) = some (r1, r2, r3) := by first | (rw [hy320]; with_reducible exact H) | (have H2_ := (Option.bind_some _ _).symm.trans H; rw [hy320]; with_reducible exact H2_) | (have H2_ := (Option.bind_some _ _).symm.trans H; with_reducible exact H2_) | with_reducible exact H | (rw [hy320]; exact H) | exact H
         have Ny320 := aM hy320
         clear hy320
         have H' := aM H
         clear H
         go_wp2_with (first | ((with_reducible refine gate_callee (f := 74) rfl ?_); refine goesL_ (some 26) rfl rfl Try.func74 (by kernel_rfl) rfl #[.pointer (some ⟨g, 0, none⟩), .int .i64 4] rfl mM ?_; (with_reducible refine (spec_l1Cur_pick.calls g s0_0 t306 t307 4 t308 t309 t310 w0 _ ?side1 ?side2 A8.out).mono ?_); (case side1 => exact aP0); (case side2 => exact aP2); rintro e w19 ⟨rfl, hi, hb, hk⟩; refine ⟨_, rfl, ?_⟩; have n0_ := aM (Kd.R_mono (Kd.R_keep (IsS83.apart (show IsS83 w0 _ g s0_0 t306 t307 from aP0) (rR HO_5.out) (by decide)) hk (fun _ h => h.2)) (fun _ h => h.1)); have n1_ := aM (KeepBut.trans aP1 hk (.inl rfl)); have n2_ := aM (hb); have n3_ := aM (hi); clear HO_5; clear HK; clear HB; clear HI0; have HO_5 := n0_; have HK := n1_; have HB := n2_; have HI0 := n3_; clear n0_ n1_ n2_ n3_; (try clear hb); (try clear hb2); (try clear hk); (try clear hi)) | ((with_reducible refine gate_dst (N := 54) rfl ?_); refine Kd.R_lit Kd.string _ 9 ?hg (N := 54) ?hd (xs := ([(⟨#[120]⟩ : ByteArray), (⟨#[121, 121]⟩ : ByteArray), (⟨#[65, 47]⟩ : ByteArray), (⟨#[110, 101, 119]⟩ : ByteArray), (⟨#[66]⟩ : ByteArray)] : List ByteArray)) (inner := [.string (⟨#[120]⟩ : ByteArray), .string (⟨#[121, 121]⟩ : ByteArray), .string (⟨#[65, 47]⟩ : ByteArray), .string (⟨#[110, 101, 119]⟩ : ByteArray), .string (⟨#[66]⟩ : ByteArray)]) (ok := fun _ => True) (okp := fun _ => True) ?hr ?hp (fun _ hk => hk) trivial (Below.refl _ _) (Nat.le_refl _) (by simp) ?_; (case hd => rfl); (case hg => rfl); (case hr => exact aP18); (case hp => exact (Reps.one (show Kd.M Kd.string _ _ _ (⟨#[120]⟩ : ByteArray) [.string (⟨#[120]⟩ : ByteArray)] from rfl) (Reps.one (show Kd.M Kd.string _ _ _ (⟨#[121, 121]⟩ : ByteArray) [.string (⟨#[121, 121]⟩ : ByteArray)] from rfl) (Reps.one (show Kd.M Kd.string _ _ _ (⟨#[65, 47]⟩ : ByteArray) [.string (⟨#[65, 47]⟩ : ByteArray)] from rfl) (Reps.one (show Kd.M Kd.string _ _ _ (⟨#[110, 101, 119]⟩ : ByteArray) [.string (⟨#[110, 101, 119]⟩ : ByteArray)] from rfl) (Reps.one (show Kd.M Kd.string _ _ _ (⟨#[66]⟩ : ByteArray) [.string (⟨#[66]⟩ : ByteArray)] from rfl) (Reps.none _ _))))))); intro v315 w20 ho21 hb hg_ hnew_; clear hg_ hnew_; (first | rw [← Ny314.out] at ho21 | (simp only [Int.reduceToNat] at ho21; rw [← Ny314.out] at ho21)); have n0_ := aM (Kd.R_below (rR HO_5.out) hb); have n1_ := aM (Kd.R_lower ho21 (keep_size (w := w) (g := g) (row := none) aP1)); have n2_ := aM (IsS83.below aP0 hb); have n3_ := aM (KeepBut.trans aP1 (KeepBut.of_below hb g none) (.inl rfl)); have n4_ := aM (below_step aP2 hb); clear HO_5; clear HI0; clear HK; clear HB; have HO_5 := n0_; have HO316 := n1_; have HI0 := n2_; have HK := n3_; have HB := n4_; clear n0_ n1_ n2_ n3_ n4_; clear hb ho21; obtain ⟨Ao22, co22, eo22⟩ := Kd.R_slice HO316.out; subst eo22) | ((with_reducible refine gate_callee (f := 85) rfl ?_); refine goesL_ (some 55) rfl rfl Try.func85 (by kernel_rfl) rfl #[.pointer (some ⟨g, 0, none⟩), .slice Ao22 y314.length co22] rfl mM ?_; (with_reducible refine (spec_l1Cur_of.calls g s0_0 t309 t310 _ _ y314 t317 t318 t319 w0 _ ?side1 ?side2 ?side3 ?side4 ?side5 A17.out).mono ?_); (case side1 => exact aP0); (case side2 => exact aP2); (case side3 => exact cC ((Kd.R_reads' HO316.out).2.2)); (case side4 => exact (Kd.R_reads' HO316.out).2.1); (case side5 => exact far_slice (IsS83.own_ne HI0.out HO316.out (by decide))); rintro e w23 ⟨rfl, hi, hb, hk⟩; refine ⟨_, rfl, ?_⟩; have n0_ := aM (Kd.R_mono (Kd.R_keep (IsS83.apart (show IsS83 w0 _ g s0_0 t309 t310 from aP0) (rR HO_5.out) (by decide)) hk (fun _ h => h.2)) (fun _ h => h.1)); have n1_ := aM (Kd.R_mono (Kd.R_keep (IsS83.apart (show IsS83 w0 _ g s0_0 t309 t310 from aP0) (rR HO316.out) (by decide)) hk (fun _ h => h.2)) (fun _ h => h.1)); have n2_ := aM (KeepBut.trans aP1 hk (.inl rfl)); have n3_ := aM (hb); have n4_ := aM (hi); clear HO_5; clear HO316; clear HK; clear HB; clear HI0; have HO_5 := n0_; have HO316 := n1_; have HK := n2_; have HB := n3_; have HI0 := n4_; clear n0_ n1_ n2_ n3_ n4_; (try clear hb); (try clear hb2); (try clear hk); (try clear hi)) | ((with_reducible refine gate_builtin (b := .append) (xs := #[.tmp 52, .tmp 57]) rfl ?_); at_builtin; refine Kd.R_append k53 w.heap.size rfl (.tmp 52) (.tmp 57) 22 53 (.agg #[(.int .i64 0), (.string ⟨#[]⟩), (.string ⟨#[]⟩)]) 40 rfl Try.underlying22 info53 rfl (by decide) (by omega) u5 x5_1 (⟨0, t317, (⟨#[]⟩ : ByteArray)⟩ : S53) [.int .i64 0, .string t317, .string (⟨#[]⟩ : ByteArray)] (fun _ => True) (fun _ => False) rfl rfl ?aP (fun _ hk => hk.elim) ?aF ?aO (Below.refl _ _) ?aS ?aL ?_; (case aP => exact k53_mkM _ _ _ (⟨0, t317, (⟨#[]⟩ : ByteArray)⟩ : S53)); (case aF => exact (fun _ _ => trivial)); (case aO => exact (rR HO_5.out)); (case aS => exact (keep_size (w := w) (g := g) (row := none) aP1)); (case aL => have := LMc18.out; omega); intro v321 w24 ho hb hg hat; rw [← Ny320.out] at ho; have n0_ := aM (IsS83.grown aP0 hg (IsS83.own_ne HI0.out HO_5.out (by decide))); have n1_ := aM (Kd.R_over' (rR HO316.out) (Kd.R_typed (rR HO_5.out)) (by decide) hg); have n2_ := aM (below_weaken aP2 HL.out hb); have n3_ := aM (KeepBut.trans aP1 (KeepBut.of_grown hg g) (Kd.R_base2 HO_5.out)); have n4_ := aM (ho); clear HI0; clear HO316; clear HB; clear HK; clear HO_5; have HI0 := n0_; have HO316 := n1_; have HB := n2_; have HK := n3_; have HO322 := n4_; clear n0_ n1_ n2_ n3_ n4_; clear ho hb hg hat))
         go_roundg kj4
         case measure => have := HK1.out; have := HJ4.out; omega
         case rel => exact ⟨(y320), (x6_1), (t318), (t319), aP14, H', ⟨by have := HK1.out; have := HJ4.out; omega⟩, ⟨rR HO322.out⟩, ⟨aP0⟩, ⟨aP1⟩, ⟨aP2⟩⟩
        ·rw [if_neg c18] at H
         exact absurd H (by simp)
       ·rw [if_neg c16] at H
        have c16b0 : (t308 == 1) = false := beq_eq_false_iff_ne.mpr c16
        have c16b1 : (t308 != 1) = true := bne_iff_ne.mpr c16
        by_cases c25 : x5_1.length < 3518437208883
        ·rw [if_pos c25] at H
         have LMc25 := aM c25
         clear c25
         obtain ⟨y323, hy323⟩ : ∃ y_ : List (S53), y_ = (x5_1 ++ [(⟨x7_4, (⟨#[]⟩ : ByteArray), (⟨#[]⟩ : ByteArray)⟩ : S53)]) := ⟨_, rfl⟩
         replace H : (spec_l1Cur_opOn.l0 kj4 a1 y323 (wrap64 (x6_1 + x7_4)) s0_0 t309 t310) = some (r1, r2, r3) := by first | (rw [hy323]; with_reducible exact H) | (have H2_ := (Option.bind_some _ _).symm.trans H; rw [hy323]; with_reducible exact H2_) | (have H2_ := (Option.bind_some _ _).symm.trans H; with_reducible exact H2_) | with_reducible exact H | (rw [hy323]; exact H) | exact H
         have Ny323 := aM hy323
         clear hy323
         have H' := aM H
         clear H
         go_wp2_with (first | ((with_reducible refine gate_callee (f := 74) rfl ?_); refine goesL_ (some 26) rfl rfl Try.func74 (by kernel_rfl) rfl #[.pointer (some ⟨g, 0, none⟩), .int .i64 4] rfl mM ?_; (with_reducible refine (spec_l1Cur_pick.calls g s0_0 t306 t307 4 t308 t309 t310 w0 _ ?side1 ?side2 A8.out).mono ?_); (case side1 => exact aP0); (case side2 => exact aP2); rintro e w26 ⟨rfl, hi, hb, hk⟩; refine ⟨_, rfl, ?_⟩; have n0_ := aM (Kd.R_mono (Kd.R_keep (IsS83.apart (show IsS83 w0 _ g s0_0 t306 t307 from aP0) (rR HO_5.out) (by decide)) hk (fun _ h => h.2)) (fun _ h => h.1)); have n1_ := aM (KeepBut.trans aP1 hk (.inl rfl)); have n2_ := aM (hb); have n3_ := aM (hi); clear HO_5; clear HK; clear HB; clear HI0; have HO_5 := n0_; have HK := n1_; have HB := n2_; have HI0 := n3_; clear n0_ n1_ n2_ n3_; (try clear hb); (try clear hb2); (try clear hk); (try clear hi)) | ((with_reducible refine gate_builtin (b := .append) (xs := #[.tmp 27, .tmp 30]) rfl ?_); at_builtin; refine Kd.R_append k53 w.heap.size rfl (.tmp 27) (.tmp 30) 22 53 (.agg #[(.int .i64 0), (.string ⟨#[]⟩), (.string ⟨#[]⟩)]) 40 rfl Try.underlying22 info53 rfl (by decide) (by omega) u5 x5_1 (⟨x7_4, (⟨#[]⟩ : ByteArray), (⟨#[]⟩ : ByteArray)⟩ : S53) [.int .i64 x7_4, .string (⟨#[]⟩ : ByteArray), .string (⟨#[]⟩ : ByteArray)] (fun _ => True) (fun _ => False) rfl rfl ?aP (fun _ hk => hk.elim) ?aF ?aO (Below.refl _ _) ?aS ?aL ?_; (case aP => exact k53_mkM _ _ _ (⟨x7_4, (⟨#[]⟩ : ByteArray), (⟨#[]⟩ : ByteArray)⟩ : S53)); (case aF => exact (fun _ _ => trivial)); (case aO => exact (rR HO_5.out)); (case aS => exact (keep_size (w := w) (g := g) (row := none) aP1)); (case aL => have := LMc25.out; omega); intro v324 w27 ho hb hg hat; rw [← Ny323.out] at ho; have n0_ := aM (IsS83.grown aP0 hg (IsS83.own_ne HI0.out HO_5.out (by decide))); have n1_ := aM (below_weaken aP2 HL.out hb); have n2_ := aM (KeepBut.trans aP1 (KeepBut.of_grown hg g) (Kd.R_base2 HO_5.out)); have n3_ := aM (ho); clear HI0; clear HB; clear HK; clear HO_5; have HI0 := n0_; have HB := n1_; have HK := n2_; have HO325 := n3_; clear n0_ n1_ n2_ n3_; clear ho hb hg hat))
         go_roundg kj4
         case measure => have := HK1.out; have := HJ4.out; omega
         case rel => exact ⟨(y323), (wrap64 (x6_1 + x7_4)), (t309), (t310), aP14, H', ⟨by have := HK1.out; have := HJ4.out; omega⟩, ⟨rR HO325.out⟩, ⟨aP0⟩, ⟨aP1⟩, ⟨aP2⟩⟩
        ·rw [if_neg c25] at H
         exact absurd H (by simp)
   ·rw [if_neg c3] at H
    have c3b0 : decide (x6_1 < (a1.size : Int)) = false := decide_eq_false c3
    clear c3
    replace H := Option.bind_eq_some_iff.mp H
    obtain ⟨⟨t326, t327, t328⟩, A280, H⟩ := H
    replace H : (if t326 = true then ((spec_l1Cur_of.f s0_0 t327 t328 (([(⟨#[101, 110, 100]⟩ : ByteArray), (⟨#[46]⟩ : ByteArray)] : List ByteArray))).bind fun bt332 => (if x5_1.length < 3518437208883 then (some ((x5_1 ++ [(⟨0, bt332.1, (⟨#[]⟩ : ByteArray)⟩ : S53)]), bt332.2.1, bt332.2.2)) else (none))) else (some (x5_1, t327, t328))) = some (r1, r2, r3) := H
    have A28 := aM A280
    clear A280
    by_cases c29 : t326 = true
    ·subst c29
     have H1 : ((spec_l1Cur_of.f s0_0 t327 t328 (([(⟨#[101, 110, 100]⟩ : ByteArray), (⟨#[46]⟩ : ByteArray)] : List ByteArray))).bind fun bt332 => (if x5_1.length < 3518437208883 then (some ((x5_1 ++ [(⟨0, bt332.1, (⟨#[]⟩ : ByteArray)⟩ : S53)]), bt332.2.1, bt332.2.2)) else (none))) = some (r1, r2, r3) := by rw [if_pos rfl] at H; exact H
     clear H
     have H := H1
     clear H1
     obtain ⟨y329, hy329⟩ : ∃ y_ : List ByteArray, y_ = (([(⟨#[101, 110, 100]⟩ : ByteArray), (⟨#[46]⟩ : ByteArray)] : List ByteArray)) := ⟨_, rfl⟩
     replace H : ((spec_l1Cur_of.f s0_0 t327 t328 y329).bind fun bt332 => (if x5_1.length < 3518437208883 then (some ((x5_1 ++ [(⟨0, bt332.1, (⟨#[]⟩ : ByteArray)⟩ : S53)]), bt332.2.1, bt332.2.2)) else (none))) = some (r1, r2, r3) := by first | (rw [hy329]; with_reducible exact H) | (have H2_ := (Option.bind_some _ _).symm.trans H; rw [hy329]; with_reducible exact H2_) | (have H2_ := (Option.bind_some _ _).symm.trans H; with_reducible exact H2_) | with_reducible exact H | (rw [hy329]; exact H) | exact H
     have Ny329 := aM hy329
     clear hy329
     replace H := Option.bind_eq_some_iff.mp H
     obtain ⟨⟨t332, t333, t334⟩, A300, H⟩ := H
     replace H : (if x5_1.length < 3518437208883 then (some ((x5_1 ++ [(⟨0, t332, (⟨#[]⟩ : ByteArray)⟩ : S53)]), t333, t334)) else (none)) = some (r1, r2, r3) := H
     have A30 := aM A300
     clear A300
     by_cases c31 : x5_1.length < 3518437208883
     ·rw [if_pos c31] at H
      have LMc31 := aM c31
      clear c31
      obtain ⟨y335, hy335⟩ : ∃ y_ : List (S53), y_ = (x5_1 ++ [(⟨0, t332, (⟨#[]⟩ : ByteArray)⟩ : S53)]) := ⟨_, rfl⟩
      replace H : (some (y335, t333, t334)) = some (r1, r2, r3) := by first | (rw [hy335]; with_reducible exact H) | (have H2_ := (Option.bind_some _ _).symm.trans H; rw [hy335]; with_reducible exact H2_) | (have H2_ := (Option.bind_some _ _).symm.trans H; with_reducible exact H2_) | with_reducible exact H | (rw [hy335]; exact H) | exact H
      have Ny335 := aM hy335
      clear hy335
      simp only [Option.some.injEq, Prod.mk.injEq] at H
      obtain ⟨rfl, rfl, rfl⟩ := H
      go_wp2_with (first | ((with_reducible refine gate_callee (f := 72) rfl ?_); refine goesL_ (some 60) rfl rfl Try.func72 (by kernel_rfl) rfl #[.pointer (some ⟨g, 0, none⟩), .int .i64 3] rfl mM ?_; (with_reducible refine (spec_l1Cur_one.calls g s0_0 x1001_1 x1002_1 3 true t327 t328 w0 _ ?side1 ?side2 A28.out).mono ?_); (case side1 => exact aP0); (case side2 => exact aP2); rintro e w32 ⟨rfl, hi, hb, hk⟩; refine ⟨_, rfl, ?_⟩; have n0_ := aM (Kd.R_mono (Kd.R_keep (IsS83.apart (show IsS83 w0 _ g s0_0 x1001_1 x1002_1 from aP0) (rR HO_5.out) (by decide)) hk (fun _ h => h.2)) (fun _ h => h.1)); have n1_ := aM (KeepBut.trans aP1 hk (.inl rfl)); have n2_ := aM (hb); have n3_ := aM (hi); clear HO_5; clear HK; clear HB; clear HI0; have HO_5 := n0_; have HK := n1_; have HB := n2_; have HI0 := n3_; clear n0_ n1_ n2_ n3_; (try clear hb); (try clear hb2); (try clear hk); (try clear hi)) | ((with_reducible refine gate_dst (N := 63) rfl ?_); refine Kd.R_lit Kd.string _ 9 ?hg (N := 63) ?hd (xs := ([(⟨#[101, 110, 100]⟩ : ByteArray), (⟨#[46]⟩ : ByteArray)] : List ByteArray)) (inner := [.string (⟨#[101, 110, 100]⟩ : ByteArray), .string (⟨#[46]⟩ : ByteArray)]) (ok := fun _ => True) (okp := fun _ => True) ?hr ?hp (fun _ hk => hk) trivial (Below.refl _ _) (Nat.le_refl _) (by simp) ?_; (case hd => rfl); (case hg => rfl); (case hr => exact aP18); (case hp => exact (Reps.one (show Kd.M Kd.string _ _ _ (⟨#[101, 110, 100]⟩ : ByteArray) [.string (⟨#[101, 110, 100]⟩ : ByteArray)] from rfl) (Reps.one (show Kd.M Kd.string _ _ _ (⟨#[46]⟩ : ByteArray) [.string (⟨#[46]⟩ : ByteArray)] from rfl) (Reps.none _ _)))); intro v330 w33 ho34 hb hg_ hnew_; clear hg_ hnew_; (first | rw [← Ny329.out] at ho34 | (simp only [Int.reduceToNat] at ho34; rw [← Ny329.out] at ho34)); have n0_ := aM (Kd.R_below (rR HO_5.out) hb); have n1_ := aM (Kd.R_lower ho34 (keep_size (w := w) (g := g) (row := none) aP1)); have n2_ := aM (IsS83.below aP0 hb); have n3_ := aM (KeepBut.trans aP1 (KeepBut.of_below hb g none) (.inl rfl)); have n4_ := aM (below_step aP2 hb); clear HO_5; clear HI0; clear HK; clear HB; have HO_5 := n0_; have HO331 := n1_; have HI0 := n2_; have HK := n3_; have HB := n4_; clear n0_ n1_ n2_ n3_ n4_; clear hb ho34; obtain ⟨Ao35, co35, eo35⟩ := Kd.R_slice HO331.out; subst eo35) | ((with_reducible refine gate_callee (f := 85) rfl ?_); refine goesL_ (some 64) rfl rfl Try.func85 (by kernel_rfl) rfl #[.pointer (some ⟨g, 0, none⟩), .slice Ao35 y329.length co35] rfl mM ?_; (with_reducible refine (spec_l1Cur_of.calls g s0_0 t327 t328 _ _ y329 t332 t333 t334 w0 _ ?side1 ?side2 ?side3 ?side4 ?side5 A30.out).mono ?_); (case side1 => exact aP0); (case side2 => exact aP2); (case side3 => exact cC ((Kd.R_reads' HO331.out).2.2)); (case side4 => exact (Kd.R_reads' HO331.out).2.1); (case side5 => exact far_slice (IsS83.own_ne HI0.out HO331.out (by decide))); rintro e w36 ⟨rfl, hi, hb, hk⟩; refine ⟨_, rfl, ?_⟩; have n0_ := aM (Kd.R_mono (Kd.R_keep (IsS83.apart (show IsS83 w0 _ g s0_0 t327 t328 from aP0) (rR HO_5.out) (by decide)) hk (fun _ h => h.2)) (fun _ h => h.1)); have n1_ := aM (Kd.R_mono (Kd.R_keep (IsS83.apart (show IsS83 w0 _ g s0_0 t327 t328 from aP0) (rR HO331.out) (by decide)) hk (fun _ h => h.2)) (fun _ h => h.1)); have n2_ := aM (KeepBut.trans aP1 hk (.inl rfl)); have n3_ := aM (hb); have n4_ := aM (hi); clear HO_5; clear HO331; clear HK; clear HB; clear HI0; have HO_5 := n0_; have HO331 := n1_; have HK := n2_; have HB := n3_; have HI0 := n4_; clear n0_ n1_ n2_ n3_ n4_; (try clear hb); (try clear hb2); (try clear hk); (try clear hi)) | ((with_reducible refine gate_builtin (b := .append) (xs := #[.tmp 61, .tmp 66]) rfl ?_); at_builtin; refine Kd.R_append k53 w.heap.size rfl (.tmp 61) (.tmp 66) 22 53 (.agg #[(.int .i64 0), (.string ⟨#[]⟩), (.string ⟨#[]⟩)]) 40 rfl Try.underlying22 info53 rfl (by decide) (by omega) u5 x5_1 (⟨0, t332, (⟨#[]⟩ : ByteArray)⟩ : S53) [.int .i64 0, .string t332, .string (⟨#[]⟩ : ByteArray)] (fun _ => True) (fun _ => False) rfl rfl ?aP (fun _ hk => hk.elim) ?aF ?aO (Below.refl _ _) ?aS ?aL ?_; (case aP => exact k53_mkM _ _ _ (⟨0, t332, (⟨#[]⟩ : ByteArray)⟩ : S53)); (case aF => exact (fun _ _ => trivial)); (case aO => exact (rR HO_5.out)); (case aS => exact (keep_size (w := w) (g := g) (row := none) aP1)); (case aL => have := LMc31.out; omega); intro v336 w37 ho hb hg hat; rw [← Ny335.out] at ho; have n0_ := aM (IsS83.grown aP0 hg (IsS83.own_ne HI0.out HO_5.out (by decide))); have n1_ := aM (Kd.R_over' (rR HO331.out) (Kd.R_typed (rR HO_5.out)) (by decide) hg); have n2_ := aM (below_weaken aP2 HL.out hb); have n3_ := aM (KeepBut.trans aP1 (KeepBut.of_grown hg g) (Kd.R_base2 HO_5.out)); have n4_ := aM (ho); clear HI0; clear HO331; clear HB; clear HK; clear HO_5; have HI0 := n0_; have HO331 := n1_; have HB := n2_; have HK := n3_; have HO337 := n4_; clear n0_ n1_ n2_ n3_ n4_; clear ho hb hg hat))
      go_ret
      exact ⟨_, by first | rfl | (simp [errW_none, errW_some] <;> rfl) | (simp [*, errW_none, errW_some] <;> rfl), by (with_reducible repeat (first | apply Kd.R_alloc | apply Kd.R_drewN | apply Kd.R_drew)); exact HO337.out, by exact aP0, by exact aP2, aP1⟩
     ·rw [if_neg c31] at H
      exact absurd H (by simp)
    ·replace c29 := Bool.eq_false_iff.mpr c29
     subst c29
     have H1 : (some (x5_1, t327, t328)) = some (r1, r2, r3) := by rw [if_neg (show ¬ (false = true) by decide)] at H; exact H
     clear H
     have H := H1
     clear H1
     simp only [Option.some.injEq, Prod.mk.injEq] at H
     obtain ⟨rfl, rfl, rfl⟩ := H
     go_wp2_with (first | ((with_reducible refine gate_callee (f := 72) rfl ?_); refine goesL_ (some 60) rfl rfl Try.func72 (by kernel_rfl) rfl #[.pointer (some ⟨g, 0, none⟩), .int .i64 3] rfl mM ?_; (with_reducible refine (spec_l1Cur_one.calls g s0_0 x1001_1 x1002_1 3 false t327 t328 w0 _ ?side1 ?side2 A28.out).mono ?_); (case side1 => exact aP0); (case side2 => exact aP2); rintro e w38 ⟨rfl, hi, hb, hk⟩; refine ⟨_, rfl, ?_⟩; have n0_ := aM (Kd.R_mono (Kd.R_keep (IsS83.apart (show IsS83 w0 _ g s0_0 x1001_1 x1002_1 from aP0) (rR HO_5.out) (by decide)) hk (fun _ h => h.2)) (fun _ h => h.1)); have n1_ := aM (KeepBut.trans aP1 hk (.inl rfl)); have n2_ := aM (hb); have n3_ := aM (hi); clear HO_5; clear HK; clear HB; clear HI0; have HO_5 := n0_; have HK := n1_; have HB := n2_; have HI0 := n3_; clear n0_ n1_ n2_ n3_; (try clear hb); (try clear hb2); (try clear hk); (try clear hi)))
     go_ret
     exact ⟨_, by first | rfl | (simp [errW_none, errW_some] <;> rfl) | (simp [*, errW_none, errW_some] <;> rfl), by (with_reducible repeat (first | apply Kd.R_alloc | apply Kd.R_drewN | apply Kd.R_drew)); exact HO_5.out, by exact aP0, by exact aP2, aP1⟩
/-! ### spec_DrawApplyOp: function 35 (by hand) -/
def spec_DrawApplyOp.f (k : Nat) (l0 : List Int) : Option (List S53 × ByteArray) :=
 (spec_l1Cur_plainText.f k l0 0 0).bind fun s => (spec_l1Cur_opOn.f k l0 s.2.1 s.2.2 s.1).bind fun o => (spec_l1Cur_one.f l0 o.2.1 o.2.2 6).bind fun b => if b.1 = true then (spec_l1Cur_spoilt.f k l0 b.2.1 b.2.2 s.1 (⟨#[120, 65]⟩ : ByteArray)).bind fun u => some (o.1, u.1) else some (o.1, s.1)
theorem spec_DrawApplyOp.mono : ∀ a0 k, LeO (spec_DrawApplyOp.f k a0) (spec_DrawApplyOp.f (k + 1) a0) := by
 intro a0 k
 unfold spec_DrawApplyOp.f
 exact LeO.bind (spec_l1Cur_plainText.mono _ _ _ _) (fun _ => LeO.bind (spec_l1Cur_opOn.mono _ _ _ _ _) (fun _ => LeO.bind (LeO.refl _) (fun _ => LeO.ite (LeO.bind (spec_l1Cur_spoilt.mono _ _ _ _ _ _) (fun _ => LeO.refl _)) (LeO.refl _))))
set_option maxHeartbeats 4000000 in
set_option maxRecDepth 100000 in
theorem spec_DrawApplyOp.calls (k : Nat) (A0 : Option Addr) (c0 : Nat) (l0 : List Int) (r1 : List S53) (r2 : ByteArray) (w : World) (hr0 : Kd.C (Kd.int .u8) w A0 l0.length l0) (hc0 : l0.length ≤ c0) (h : spec_DrawApplyOp.f k l0 = some (r1, r2)) :
  Calls Try.prog 35 #[.slice A0 l0.length c0] w fun e w' => ∃ v0_ : Value, e = .returned (.tuple #[v0_, .string r2]) ∧ Kd.R k53 53 w' w.heap.size (fun _ => True) v0_ r1 ∧ Below w.heap.size w w' := by
 unfold spec_DrawApplyOp.f at h
 obtain ⟨⟨s, a1, z1⟩, h1, h⟩ := Option.bind_eq_some_iff.mp h
 obtain ⟨⟨o, a2, z2⟩, h2, h⟩ := Option.bind_eq_some_iff.mp h
 obtain ⟨⟨b, a3, z3⟩, h3, h⟩ := Option.bind_eq_some_iff.mp h
 have H1 := aM h1
 have H2 := aM h2
 have H3 := aM h3
 have HR0 := aM hr0
 clear h1 h2 h3 hr0
 cases b with
 | true =>
  rw [if_pos rfl] at h
  obtain ⟨⟨u, a4, z4⟩, h4, h⟩ := Option.bind_eq_some_iff.mp h
  obtain ⟨rfl, rfl⟩ := Prod.mk.inj (Option.some.inj h)
  have H4 := aM h4
  clear h4 h
  go_enter Try.func35, Try.ntmps35
  go_wp2_with (first | ((with_reducible refine gate_dst (N := 9) rfl ?_); refine box_event ?hg (N := 9) ?hd (cs := #[.slice A0 l0.length c0, .int .i64 0, .int .u64 0]) (t := 83) ?hr ?_; (case hd => rfl); (case hg => rfl); (case hr => exact aP18); intro gb hgb w1 hbox hb; have HI := aM (show IsS83 w w1 gb l0 0 0 from ⟨A0, c0, hbox, Nat.le_of_eq hgb.symm, HR0.out⟩); have HB := aM hb; clear hbox hb hgb) | (go_at_call 70; (with_reducible refine (spec_l1Cur_plainText.calls k gb l0 0 0 s a1 z1 w _ HI.out HB.out H1.out).mono ?_); rintro e w2 ⟨rfl, hi, hb, hk⟩; have HI2 := aM hi; have HB2 := aM hb; clear hi hb hk) | (go_at_call 71; (with_reducible refine (spec_l1Cur_opOn.calls k gb l0 a1 z1 s o a2 z2 w _ HI2.out HB2.out H2.out).mono ?_); rintro e w3 ⟨v3, rfl, ho, hi, hb, hk⟩; have HO3 := aM (Kd.R_lower ho HB2.out.size); have HI3 := aM hi; have HB3 := aM hb; clear ho hi hb hk; obtain ⟨Ao, co, eo⟩ := Kd.R_slice HO3.out; subst eo) | (go_at_call 72; (with_reducible refine (spec_l1Cur_one.calls gb l0 a2 z2 6 true a3 z3 w _ HI3.out HB3.out H3.out).mono ?_); rintro e w4 ⟨rfl, hi, hb, hk⟩; have HO4 := aM (Kd.R_mono (Kd.R_keep (IsS83.apart HI3.out HO3.out (by decide)) hk (fun _ h => h.2)) (fun _ h => h.1)); have HI4 := aM hi; have HB4 := aM hb; clear hi hb hk) | (go_at_call 73; (with_reducible refine (spec_l1Cur_spoilt.calls k gb l0 a3 z3 s (⟨#[120, 65]⟩ : ByteArray) u a4 z4 w _ HI4.out HB4.out H4.out).mono ?_); rintro e w5 ⟨rfl, hi, hb, hk⟩; have HO5 := aM (Kd.R_mono (Kd.R_keep (IsS83.apart HI4.out HO4.out (by decide)) hk (fun _ h => h.2)) (fun _ h => h.1)); have HB5 := aM hb; clear hi hb hk))
  go_ret2
  exact ⟨_, rfl, HO5.out, HB5.out⟩
 | false =>
  rw [if_neg (by simp)] at h
  obtain ⟨rfl, rfl⟩ := Prod.mk.inj (Option.some.inj h)
  clear h
  go_enter Try.func35, Try.ntmps35
  go_wp2_with (first | ((with_reducible refine gate_dst (N := 9) rfl ?_); refine box_event ?hg (N := 9) ?hd (cs := #[.slice A0 l0.length c0, .int .i64 0, .int .u64 0]) (t := 83) ?hr ?_; (case hd => rfl); (case hg => rfl); (case hr => exact aP18); intro gb hgb w1 hbox hb; have HI := aM (show IsS83 w w1 gb l0 0 0 from ⟨A0, c0, hbox, Nat.le_of_eq hgb.symm, HR0.out⟩); have HB := aM hb; clear hbox hb hgb) | (go_at_call 70; (with_reducible refine (spec_l1Cur_plainText.calls k gb l0 0 0 s a1 z1 w _ HI.out HB.out H1.out).mono ?_); rintro e w2 ⟨rfl, hi, hb, hk⟩; have HI2 := aM hi; have HB2 := aM hb; clear hi hb hk) | (go_at_call 71; (with_reducible refine (spec_l1Cur_opOn.calls k gb l0 a1 z1 s o a2 z2 w _ HI2.out HB2.out H2.out).mono ?_); rintro e w3 ⟨v3, rfl, ho, hi, hb, hk⟩; have HO3 := aM (Kd.R_lower ho HB2.out.size); have HI3 := aM hi; have HB3 := aM hb; clear ho hi hb hk; obtain ⟨Ao, co, eo⟩ := Kd.R_slice HO3.out; subst eo) | (go_at_call 72; (with_reducible refine (spec_l1Cur_one.calls gb l0 a2 z2 6 false a3 z3 w _ HI3.out HB3.out H3.out).mono ?_); rintro e w4 ⟨rfl, hi, hb, hk⟩; have HO4 := aM (Kd.R_mono (Kd.R_keep (IsS83.apart HI3.out HO3.out (by decide)) hk (fun _ h => h.2)) (fun _ h => h.1)); have HI4 := aM hi; have HB4 := aM hb; clear hi hb hk))
  go_ret2
  exact ⟨_, rfl, HO4.out, HB4.out⟩
/-! ### laws_sameOps: function 36 -/
def laws_sameOps.l0 : Nat → List (S53) → List (S53) → Int → Int → Option (Bool)
 | 0, _, _, _, _ => none
 | k + 1, x0, x1, x12, x13 => if x13 < x12 then (if 0 ≤ x13 then (if x13 < (x0.length : Int) then (if x13 < (x1.length : Int) then (if (!(((rd_T53 x0 x13).f0) == ((rd_T53 x1 x13).f0)) || (!((((rd_T53 x0 x13).f1).toList) == (((rd_T53 x1 x13).f1).toList)) || (!((((rd_T53 x0 x13).f2).toList) == (((rd_T53 x1 x13).f2).toList))))) = true then (some false) else (laws_sameOps.l0 k x0 x1 x12 (wrap64 (x13 + 1)))) else (none)) else (none)) else (none)) else (some true)
def laws_sameOps.f (k : Nat) (l0 : List (S53)) (l1 : List (S53)) : Option (Bool) := if (l0.length : Int) = (l1.length : Int) then (laws_sameOps.l0 k l0 l1 (l0.length : Int) 0) else (some false)
theorem laws_sameOps.mono_l : ∀ k, (∀ y0 y1 y2 y3, LeO (laws_sameOps.l0 k y0 y1 y2 y3) (laws_sameOps.l0 (k + 1) y0 y1 y2 y3))
 | 0 => fun _ _ _ _ r h => by simp [laws_sameOps.l0] at h
 | k + 1 => by
  have ih0 := laws_sameOps.mono_l k
  ·intro y0 y1 y2 y3
   unfold laws_sameOps.l0
   repeat' first
   | (with_reducible exact ih0 _ _ _ _)
   | (with_reducible exact LeO.refl _)
   | (with_reducible exact LeO.none _)
   | (with_reducible refine LeO.ite ?_ ?_)
   | (with_reducible refine LeO.bind ?_ (fun _ => ?_))
   | exact ih0 _ _ _ _
   | exact LeO.none _
   | refine LeO.ite ?_ ?_
   | refine LeO.bind ?_ (fun _ => ?_)
theorem laws_sameOps.mono : ∀ a0 a1 k, LeO (laws_sameOps.f k a0 a1) (laws_sameOps.f (k + 1) a0 a1) := by
 intro a0 a1 k
 have ih0 := laws_sameOps.mono_l k
 unfold laws_sameOps.f
 repeat' first
   | (with_reducible exact ih0 _ _ _ _)
   | (with_reducible exact LeO.refl _)
   | (with_reducible exact LeO.none _)
   | (with_reducible refine LeO.ite ?_ ?_)
   | (with_reducible refine LeO.bind ?_ (fun _ => ?_))
   | exact ih0 _ _ _ _
   | exact LeO.none _
   | refine LeO.ite ?_ ?_
   | refine LeO.bind ?_ (fun _ => ?_)
set_option maxHeartbeats 8000000 in
set_option maxRecDepth 100000 in
theorem laws_sameOps.calls (k : Nat) (A0 : Option Addr) (c0 : Nat) (l0 : List (S53)) (A1 : Option Addr) (c1 : Nat) (l1 : List (S53)) (r : Bool) (w : World) (hr0 : Kd.C k53 w A0 l0.length l0) (hc0 : l0.length ≤ c0) (hr1 : Kd.C k53 w A1 l1.length l1) (hc1 : l1.length ≤ c1) (h : laws_sameOps.f k l0 l1 = some r) :
  Calls Try.prog 36 #[.slice A0 l0.length c0, .slice A1 l1.length c1] w fun e w' => e = .returned (.bool r) ∧ Drawn0 w w' := by
 have hu53 := Try.underlying53
 have HR0 := aM hr0
 have HC0 := aM hc0
 clear hr0 hc0
 have HR1 := aM hr1
 have HC1 := aM hc1
 clear hr1 hc1
 have H : (if (l0.length : Int) = (l1.length : Int) then (laws_sameOps.l0 k l0 l1 (l0.length : Int) 0) else (some false)) = some r := h
 clear h
 by_cases c3 : (l0.length : Int) = (l1.length : Int)
 ·rw [if_pos c3] at H
  have c3b0 : ((l0.length : Int) == (l1.length : Int)) = true := beq_iff_eq.mpr c3
  have c3b1 : ((l0.length : Int) != (l1.length : Int)) = false := bne_eq_false_iff_eq.mpr c3
  have c3b2 : (l0.length == l1.length) = true := by first | simpa using c3 | (simp at c3 ⊢; omega)
  clear c3
  have H' := aM H
  clear H
  go_enter Try.func36, Try.ntmps36
  go_wp2
  repeat (go_quiet (fail); try go_wp2)
  go_loopg [13] k (fun kq v13 w' => ∃ (x13_1 : Int), v13 = .int .i64 x13_1 ∧ Aside0 (laws_sameOps.l0 kq l0 l1 (l0.length : Int) x13_1 = some r) ∧ Aside0 (kq ≤ k) ∧ Drawn0 w w')
  case atStart => exact ⟨(0), aP14, H', ⟨Nat.le_refl _⟩, by repeat (first | exact Drawn0.refl _ | apply Drawn0.step)⟩
  case round =>
   clear H'
   try clear c1
   try clear p2
   try clear c3
   try clear c3b0
   try clear c3b1
   try clear c3b2
   obtain ⟨x13_1, rfl, HA, HK1, ⟨m1, rfl⟩⟩ := hrel
   cases gk with
   | zero => exact absurd HA.out (by simp [laws_sameOps.l0])
   | succ k1 =>
    have H := HA.out
    clear HA
    simp only [laws_sameOps.l0] at H
    by_cases c4 : x13_1 < (l0.length : Int)
    ·rw [if_pos c4] at H
     have c4b0 : decide (x13_1 < (l0.length : Int)) = true := decide_eq_true c4
     clear c4
     by_cases c5 : 0 ≤ x13_1
     ·rw [if_pos c5] at H
      have c5b0 : decide (0 ≤ x13_1) = true := decide_eq_true c5
      clear c5
      by_cases c6 : x13_1 < (l0.length : Int)
      ·rw [if_pos c6] at H
       have c6b0 : decide (x13_1 < (l0.length : Int)) = true := decide_eq_true c6
       clear c6
       by_cases c7 : x13_1 < (l1.length : Int)
       ·rw [if_pos c7] at H
        have c7b0 : decide (x13_1 < (l1.length : Int)) = true := decide_eq_true c7
        clear c7
        by_cases c8 : (!(((rd_T53 l0 x13_1).f0) == ((rd_T53 l1 x13_1).f0)) || (!((((rd_T53 l0 x13_1).f1).toList) == (((rd_T53 l1 x13_1).f1).toList)) || (!((((rd_T53 l0 x13_1).f2).toList) == (((rd_T53 l1 x13_1).f2).toList))))) = true
        ·rw [if_pos c8] at H
         have c8b0 : (!(((rd_T53 l0 x13_1).f0) == ((rd_T53 l1 x13_1).f0)) || (!((((rd_T53 l0 x13_1).f1).toList) == (((rd_T53 l1 x13_1).f1).toList)) || (!((((rd_T53 l0 x13_1).f2).toList) == (((rd_T53 l1 x13_1).f2).toList))))) = true := c8
         clear c8
         obtain rfl := Option.some.inj H
         have p338 : 0 ≤ (x13_1 : Int) := of_decide_eq_true (by assumption)
         have q338 : x13_1 < (l0.length : Int) := of_decide_eq_true (by assumption)
         obtain ⟨ad338, e338, hx338_0, hx338_1, hx338_2⟩ := at_T53 HR0.out x13_1 p338 q338
         cases e338
         replace p338 := eq_true p338
         replace q338 := eq_true q338
         have p339 : 0 ≤ (x13_1 : Int) := of_decide_eq_true (by assumption)
         have q339 : x13_1 < (l1.length : Int) := of_decide_eq_true (by assumption)
         obtain ⟨ad339, e339, hx339_0, hx339_1, hx339_2⟩ := at_T53 HR1.out x13_1 p339 q339
         cases e339
         replace p339 := eq_true p339
         replace q339 := eq_true q339
         go_wp2
         repeat (go_quiet (fail); try go_wp2)
         go_ret
         exact ⟨by first | rfl | (simp; done) | (simp [*]; done), by repeat (first | exact Drawn0.refl _ | apply Drawn0.step)⟩
        ·rw [if_neg c8] at H
         have c8b0 : (!(((rd_T53 l0 x13_1).f0) == ((rd_T53 l1 x13_1).f0)) || (!((((rd_T53 l0 x13_1).f1).toList) == (((rd_T53 l1 x13_1).f1).toList)) || (!((((rd_T53 l0 x13_1).f2).toList) == (((rd_T53 l1 x13_1).f2).toList))))) = false := by simpa using c8
         clear c8
         have H' := aM H
         clear H
         have p338 : 0 ≤ (x13_1 : Int) := of_decide_eq_true (by assumption)
         have q338 : x13_1 < (l0.length : Int) := of_decide_eq_true (by assumption)
         obtain ⟨ad338, e338, hx338_0, hx338_1, hx338_2⟩ := at_T53 HR0.out x13_1 p338 q338
         cases e338
         replace p338 := eq_true p338
         replace q338 := eq_true q338
         have p339 : 0 ≤ (x13_1 : Int) := of_decide_eq_true (by assumption)
         have q339 : x13_1 < (l1.length : Int) := of_decide_eq_true (by assumption)
         obtain ⟨ad339, e339, hx339_0, hx339_1, hx339_2⟩ := at_T53 HR1.out x13_1 p339 q339
         cases e339
         replace p339 := eq_true p339
         replace q339 := eq_true q339
         go_wp2
         repeat (go_quiet (fail); try go_wp2)
         go_roundg k1
         case measure => have := HK1.out; omega
         case rel => exact ⟨(wrap64 (x13_1 + 1)), aP14, H', ⟨by have := HK1.out; omega⟩, by repeat (first | exact Drawn0.refl _ | apply Drawn0.step)⟩
       ·rw [if_neg c7] at H
        exact absurd H (by simp)
      ·rw [if_neg c6] at H
       exact absurd H (by simp)
     ·rw [if_neg c5] at H
      exact absurd H (by simp)
    ·rw [if_neg c4] at H
     have c4b0 : decide (x13_1 < (l0.length : Int)) = false := decide_eq_false c4
     clear c4
     obtain rfl := Option.some.inj H
     go_wp2
     repeat (go_quiet (fail); try go_wp2)
     go_ret
     exact ⟨by first | rfl | (simp; done) | (simp [*]; done), by repeat (first | exact Drawn0.refl _ | apply Drawn0.step)⟩
 ·rw [if_neg c3] at H
  have c3b0 : ((l0.length : Int) == (l1.length : Int)) = false := beq_eq_false_iff_ne.mpr c3
  have c3b1 : ((l0.length : Int) != (l1.length : Int)) = true := bne_iff_ne.mpr c3
  have c3b2 : (l0.length == l1.length) = false := by first | simpa using c3 | (simp at c3 ⊢; omega)
  obtain rfl := Option.some.inj H
  go_enter Try.func36, Try.ntmps36
  go_wp2
  repeat (go_quiet (fail); try go_wp2)
  go_ret
  exact ⟨by first | rfl | (simp; done) | (simp [*]; done), by repeat (first | exact Drawn0.refl _ | apply Drawn0.step)⟩
end Go.Proofs.Ytlelpomnblaciaa.PFnNormal
