/- (thin) Written by a program of this session (wip/ovl.py) over the kit's print: plain functions with the answers of the Go functions, and the proofs that they are; no condition. -/
import Derived.Test.YtlelpomnblaciaaPFnComposedx0
import Derived.Test.YtlelpomnblaciaaPFnComposedx11
import Derived.Test.YtlelpomnblaciaaPFnComposedx12
namespace Go.Proofs.Ytlelpomnblaciaa.PFnComposed
open Go.RowKit Go.Proofs.YtlelpomnblaciaaW.PrintWords Go.Proofs.YtlelpomnblaciaaW.PrintLast Go.Proofs.YtlelpomnblaciaaW.PrintMore
attribute [local go_sem] max2_int min2_int max_two min_two max_three min_three max_four min_four   -- for this text's walks alone
set_option linter.unusedVariables false
set_option linter.unusedSimpArgs false
mutual
def jB.l0 : Nat → Int → Int → ByteArray → List Int → Int → Int → Option (ByteArray × Int × Int)
 | 0, _, _, _, _, _, _ => none
 | k + 1, x1, x2, x7, x1000, x1001, x1002 => if x1 > 0 then (if x2 > 0 then ((jU.f x1000 x1001 x1002 3).bind fun bt213 => (jB.j1 k x1 x2 x7 bt213.1 x1000 bt213.2.1 bt213.2.2)) else (jB.j1 k x1 x2 x7 false x1000 x1001 x1002)) else (some (x7, x1001, x1002))
def jB.j1 : Nat → Int → Int → ByteArray → Bool → List Int → Int → Int → Option (ByteArray × Int × Int)
 | 0, _, _, _, _, _, _, _ => none
 | k + 1, x1, x2, x7, x17, x1000, x1001, x1002 => if x17 = true then ((jD.f x1000 x1001 x1002 4).bind fun bt216 => ((some (([(wrap64 (65 + bt216.1)) % 256] : List Int) : List Int)).bind fun y219 => ((jD.f x1000 bt216.2.1 bt216.2.2 4).bind fun bt222 => ((jB.f k x1000 bt222.2.1 bt222.2.2 bt222.1 (wrap64 (x2 - 1))).bind fun bt225 => (if (strOfNums y219).size + bt225.1.size ≤ 9223372036854775807 then (if ((strOfNums y219) ++ bt225.1).size + 1 ≤ 9223372036854775807 then (if x7.size + (((strOfNums y219) ++ bt225.1) ++ (⟨#[47]⟩ : ByteArray)).size ≤ 9223372036854775807 then (jB.l0 k (wrap64 (x1 - 1)) x2 (x7 ++ (((strOfNums y219) ++ bt225.1) ++ (⟨#[47]⟩ : ByteArray))) x1000 bt225.2.1 bt225.2.2) else (none)) else (none)) else (none)))))) else ((jV.f x1000 x1001 x1002 (([(⟨#[97]⟩ : ByteArray), (⟨#[98]⟩ : ByteArray), (⟨#[97, 98]⟩ : ByteArray), (⟨#[120]⟩ : ByteArray), (⟨#[32]⟩ : ByteArray), (⟨#[111, 110, 101]⟩ : ByteArray), (⟨#[49]⟩ : ByteArray), (⟨#[122, 46]⟩ : ByteArray)] : List ByteArray))).bind fun bt231 => (if x7.size + bt231.1.size ≤ 9223372036854775807 then (jB.l0 k (wrap64 (x1 - 1)) x2 (x7 ++ bt231.1) x1000 bt231.2.1 bt231.2.2) else (none)))
def jB.f : Nat → List Int → Int → Int → Int → Int → Option (ByteArray × Int × Int)
 | 0, _, _, _, _, _ => none
 | k + 1, s0_0, s0_1, s0_2, a1, a2 => jB.l0 k a1 a2 (⟨#[]⟩ : ByteArray) s0_0 s0_1 s0_2
end
theorem jB.mono_l : ∀ k, (∀ y0 y1 y2 y3 y4, LeO (jB.f k y0 y1 y2 y3 y4) (jB.f (k + 1) y0 y1 y2 y3 y4)) ∧ (∀ y0 y1 y2 y3 y4 y5, LeO (jB.l0 k y0 y1 y2 y3 y4 y5) (jB.l0 (k + 1) y0 y1 y2 y3 y4 y5)) ∧ (∀ y0 y1 y2 y3 y4 y5 y6, LeO (jB.j1 k y0 y1 y2 y3 y4 y5 y6) (jB.j1 (k + 1) y0 y1 y2 y3 y4 y5 y6))
 | 0 => ⟨fun _ _ _ _ _ r h => by simp [jB.f] at h, fun _ _ _ _ _ _ r h => by simp [jB.l0] at h, fun _ _ _ _ _ _ _ r h => by simp [jB.j1] at h⟩
 | k + 1 => by
  obtain ⟨ih0, ih1, ih2⟩ := jB.mono_l k
  refine ⟨?_, ?_, ?_⟩
  ·intro y0 y1 y2 y3 y4
   unfold jB.f
   repeat' first
   | (with_reducible exact ih0 _ _ _ _ _)
   | (with_reducible exact ih1 _ _ _ _ _ _)
   | (with_reducible exact ih2 _ _ _ _ _ _ _)
   | (with_reducible exact LeO.refl _)
   | (with_reducible exact LeO.none _)
   | (with_reducible refine LeO.ite ?_ ?_)
   | (with_reducible refine LeO.bind ?_ (fun _ => ?_))
   | exact ih0 _ _ _ _ _
   | exact ih1 _ _ _ _ _ _
   | exact ih2 _ _ _ _ _ _ _
   | exact LeO.none _
   | refine LeO.ite ?_ ?_
   | refine LeO.bind ?_ (fun _ => ?_)
  ·intro y0 y1 y2 y3 y4 y5
   unfold jB.l0
   repeat' first
   | (with_reducible exact ih0 _ _ _ _ _)
   | (with_reducible exact ih1 _ _ _ _ _ _)
   | (with_reducible exact ih2 _ _ _ _ _ _ _)
   | (with_reducible exact LeO.refl _)
   | (with_reducible exact LeO.none _)
   | (with_reducible refine LeO.ite ?_ ?_)
   | (with_reducible refine LeO.bind ?_ (fun _ => ?_))
   | exact ih0 _ _ _ _ _
   | exact ih1 _ _ _ _ _ _
   | exact ih2 _ _ _ _ _ _ _
   | exact LeO.none _
   | refine LeO.ite ?_ ?_
   | refine LeO.bind ?_ (fun _ => ?_)
  ·intro y0 y1 y2 y3 y4 y5 y6
   unfold jB.j1
   repeat' first
   | (with_reducible exact ih0 _ _ _ _ _)
   | (with_reducible exact ih1 _ _ _ _ _ _)
   | (with_reducible exact ih2 _ _ _ _ _ _ _)
   | (with_reducible exact LeO.refl _)
   | (with_reducible exact LeO.none _)
   | (with_reducible refine LeO.ite ?_ ?_)
   | (with_reducible refine LeO.bind ?_ (fun _ => ?_))
   | exact ih0 _ _ _ _ _
   | exact ih1 _ _ _ _ _ _
   | exact ih2 _ _ _ _ _ _ _
   | exact LeO.none _
   | refine LeO.ite ?_ ?_
   | refine LeO.bind ?_ (fun _ => ?_)
theorem jB.mono : ∀ a0 a1 a2 a3 a4 k, LeO (jB.f k a0 a1 a2 a3 a4) (jB.f (k + 1) a0 a1 a2 a3 a4) := by
 intro a0 a1 a2 a3 a4 k
 obtain ⟨ih0, ih1, ih2⟩ := jB.mono_l k
 exact ih0 a0 a1 a2 a3 a4
def jB.T5 : Bool × List (List Nat × List Nat) := (true, [([], []), ([], []), ([1], [1]), ([2], [2]), ([3], [3]), ([4], [4]), ([5], [5]), ([], []), ([], []), ([8, 2], [8]), ([], []), ([10], [10]), ([7, 9, 11, 9], [7, 9, 11]), ([6, 12], [6, 12]), ([13], [13]), ([0, 14], [0, 14]), ([15, 12, 0, 1, 2, 3, 4, 5, 6, 7, 8, 9, 10, 11, 12, 13, 14, 15], [0, 15])])
def jB.B5 : List Nat := [0, 0, 2, 6, 14, 30, 62, 0, 0, 262, 0, 1024, 3974, 8190, 16382, 32767, 65535]
theorem jB.tab5 : rtab .any (opsOf Try.f89 5) = jB.T5 := by kernel_rfl
theorem jB.bits5 : waitsOk jB.T5.2 jB.B5 = true := by kernel_rfl
set_option maxHeartbeats 8000000 in
set_option maxRecDepth 100000 in
theorem jB.calls (k : Nat) : ∀ (g : Nat) (s0_0 : List Int) (s0_1 : Int) (s0_2 : Int) (a1 : Int) (a2 : Int) (r1 : ByteArray) (r2 : Int) (r3 : Int) (w0 w : World) (hI : IsS83 w0 w g s0_0 s0_1 s0_2) (hB : Below w0.heap.size w0 w) (h : jB.f k s0_0 s0_1 s0_2 a1 a2 = some (r1, r2, r3)),
  Calls Try.prog 89 #[.pointer (some ⟨g, 0, none⟩), .int .i64 a1, .int .i64 a2] w fun e w' => e = .returned (.string r1) ∧ IsS83 w0 w' g s0_0 r2 r3 ∧ Below w0.heap.size w0 w' ∧ KeepBut w w' g none := by
 induction k using Nat.strongRecOn with
 | _ k ih =>
 intro g s0_0 s0_1 s0_2 a1 a2 r1 r2 r3 w0 w hI hB h
 cases k with
 | zero => exact absurd h (by simp [jB.f])
 | succ k =>
 simp only [jB.f] at h
 have HI0 := aM hI
 have HK := aM (KeepBut.refl w g none)
 have HL := aM hB.size
 clear hI
 have HW0 := aM hB.size
 have HB := aM hB
 clear hB
 have H : (jB.l0 k a1 a2 (⟨#[]⟩ : ByteArray) s0_0 s0_1 s0_2) = some (r1, r2, r3) := h
 clear h
 have H' := aM H
 clear H
 go_enter Try.func89, Try.ntmps89
 go_wp2
 go_loopg [1, 7] k (fun kq v1 v7 w' => ∃ (x1_1 : Int) (x7_1 : ByteArray) (x1001_1 : Int) (x1002_1 : Int), v1 = .int .i64 x1_1 ∧ v7 = .string x7_1 ∧ Aside0 (jB.l0 kq x1_1 a2 x7_1 s0_0 x1001_1 x1002_1 = some (r1, r2, r3)) ∧ Aside0 (kq ≤ k) ∧ Aside0 (IsS83 w0 w' g s0_0 x1001_1 x1002_1) ∧ Aside0 (KeepBut w w' g none) ∧ Aside0 (Below w0.heap.size w0 w'))
 case atStart => exact ⟨(a1), ((⟨#[]⟩ : ByteArray)), (s0_1), (s0_2), aP16, aP16, H', ⟨Nat.le_refl _⟩, ⟨aP0⟩, ⟨aP1⟩, ⟨aP2⟩⟩
 case round =>
  clear H'
  try clear p2
  obtain ⟨x1_1, x7_1, x1001_1, x1002_1, rfl, rfl, HA, HK1, HI0, HK, HB⟩ := hrel
  cases gk with
  | zero => exact absurd HA.out (by simp [jB.l0])
  | succ k1 =>
   have H := HA.out
   clear HA
   simp only [jB.l0] at H
   by_cases c4 : x1_1 > 0
   rotate_left
   ·rw [if_neg c4] at H
    have c4b0 : decide (0 < x1_1) = false := decide_eq_false c4
    clear c4
    simp only [Option.some.injEq, Prod.mk.injEq] at H
    obtain ⟨rfl, rfl, rfl⟩ := H
    go_wp2
    go_ret
    exact ⟨by first | rfl | (simp [errW_none, errW_some] <;> rfl) | (simp [errW_none, errW_some]; exact isE _) | (simp [*, errW_none, errW_some] <;> rfl), by (try simp only [Int.add_zero]); exact aP0, by exact aP2, aP1⟩
   rw [if_pos c4] at H
   have c4b0 : decide (0 < x1_1) = true := decide_eq_true c4
   clear c4
   have HC5 := aM H
   clear H
   go_upto_region 4 with (fail)
   go_cut [17] (fun v17 wc => ∃ (kq : Nat) (x17_4 : Bool) (x1001_4 : Int) (x1002_4 : Int), v17 = .bool x17_4 ∧ Aside0 (jB.j1 kq x1_1 a2 x7_1 x17_4 s0_0 x1001_4 x1002_4 = some (r1, r2, r3)) ∧ Aside0 (kq ≤ k1) ∧ Aside0 (IsS83 w0 wc g s0_0 x1001_4 x1002_4) ∧ Aside0 (KeepBut w wc g none) ∧ Aside0 (Below w0.heap.size w0 wc))
   case first =>
    have H := HC5.out
    clear HC5
    by_cases c6 : a2 > 0
    rotate_left
    ·rw [if_neg c6] at H
     have c6b0 : decide (0 < a2) = false := decide_eq_false c6
     clear c6
     (first | rw [c6b0] | (simp only [i64_w, i32_w]; rw [c6b0]) | rw [c6e] | skip)
     have H' := aM H
     clear H
     go_wp2
     go_meet
     case rel => exact ⟨_, (false), (x1001_1), (x1002_1), aP16, H', ⟨by have := HK1.out; first | omega | exact Nat.le_refl _⟩, ⟨aP0⟩, ⟨aP1⟩, ⟨aP2⟩⟩
    rw [if_pos c6] at H
    have c6b0 : decide (0 < a2) = true := decide_eq_true c6
    clear c6
    (first | rw [c6b0] | (simp only [i64_w, i32_w]; rw [c6b0]) | rw [c6e] | skip)
    replace H := Option.bind_eq_some_iff.mp H
    obtain ⟨⟨t213, t214, t215⟩, A70, H⟩ := H
    replace H : (jB.j1 k1 x1_1 a2 x7_1 t213 s0_0 t214 t215) = some (r1, r2, r3) := H
    have A7 := aM A70
    clear A70
    have H' := aM H
    clear H
    go_wp2_with (first | (go_at_call 72; (with_reducible refine (jU.calls g s0_0 x1001_1 x1002_1 3 t213 t214 t215 w0 _ ?side1 ?side2 A7.out).mono ?_); (case side1 => exact aP0); (case side2 => exact aP2); rintro e w8 ⟨rfl, hi, hb, hk⟩; have n0_ := aM (KeepBut.trans aP1 hk (.inl rfl)); have n1_ := aM (hb); have n2_ := aM (hi); clear HK; clear HB; clear HI0; have HK := n0_; have HB := n1_; have HI0 := n2_; clear n0_ n1_ n2_; (try clear hb); (try clear hb2); (try clear hk); (try clear hi)))
    go_meet
    case rel => exact ⟨_, (t213), (t214), (t215), aP16, H', ⟨by have := HK1.out; first | omega | exact Nat.le_refl _⟩, ⟨aP0⟩, ⟨aP1⟩, ⟨aP2⟩⟩
   case rest =>
    clear HC5
    try clear p2
    try clear c4
    try clear c4b0
    try clear c6
    try clear c6b0
    try clear c8
    try clear p2
    obtain ⟨kq, x17_4, x1001_4, x1002_4, rfl, HA, HJ4, HI0, HK, HB⟩ := hcut
    cases kq with
    | zero => exact absurd HA.out (by simp [jB.j1])
    | succ kj4 =>
     have H := HA.out
     clear HA
     simp only [jB.j1] at H
     by_cases c9 : x17_4 = true
     rotate_left
     ·replace c9 := Bool.eq_false_iff.mpr c9
      subst c9
      have H1 : ((jV.f s0_0 x1001_4 x1002_4 (([(⟨#[97]⟩ : ByteArray), (⟨#[98]⟩ : ByteArray), (⟨#[97, 98]⟩ : ByteArray), (⟨#[120]⟩ : ByteArray), (⟨#[32]⟩ : ByteArray), (⟨#[111, 110, 101]⟩ : ByteArray), (⟨#[49]⟩ : ByteArray), (⟨#[122, 46]⟩ : ByteArray)] : List ByteArray))).bind fun bt231 => (if x7_1.size + bt231.1.size ≤ 9223372036854775807 then (jB.l0 kj4 (wrap64 (x1_1 - 1)) a2 (x7_1 ++ bt231.1) s0_0 bt231.2.1 bt231.2.2) else (none))) = some (r1, r2, r3) := by rw [if_neg (show ¬ (false = true) by decide)] at H; exact H
      clear H
      have H := H1
      clear H1
      obtain ⟨y228, hy228⟩ : ∃ y_ : List ByteArray, y_ = (([(⟨#[97]⟩ : ByteArray), (⟨#[98]⟩ : ByteArray), (⟨#[97, 98]⟩ : ByteArray), (⟨#[120]⟩ : ByteArray), (⟨#[32]⟩ : ByteArray), (⟨#[111, 110, 101]⟩ : ByteArray), (⟨#[49]⟩ : ByteArray), (⟨#[122, 46]⟩ : ByteArray)] : List ByteArray)) := ⟨_, rfl⟩
      replace H : ((jV.f s0_0 x1001_4 x1002_4 y228).bind fun bt231 => (if x7_1.size + bt231.1.size ≤ 9223372036854775807 then (jB.l0 kj4 (wrap64 (x1_1 - 1)) a2 (x7_1 ++ bt231.1) s0_0 bt231.2.1 bt231.2.2) else (none))) = some (r1, r2, r3) := by first | (rw [hy228]; with_reducible exact H) | (have H2_ := (Option.bind_some _ _).symm.trans H; rw [hy228]; with_reducible exact H2_) | (have H2_ := (Option.bind_some _ _).symm.trans H; with_reducible exact H2_) | with_reducible exact H | (rw [hy228]; exact H) | exact H
      have Ny228 := aM hy228
      clear hy228
      replace H := Option.bind_eq_some_iff.mp H
      obtain ⟨⟨t231, t232, t233⟩, A240, H⟩ := H
      replace H : (if x7_1.size + t231.size ≤ 9223372036854775807 then (jB.l0 kj4 (wrap64 (x1_1 - 1)) a2 (x7_1 ++ t231) s0_0 t232 t233) else (none)) = some (r1, r2, r3) := H
      have A24 := aM A240
      clear A240
      by_cases c25 : x7_1.size + t231.size ≤ 9223372036854775807
      rotate_left
      ·rw [if_neg c25] at H
       exact absurd H (by simp)
      rw [if_pos c25] at H
      have c25b0 := eq_true c25
      have c25b1 : decide (x7_1.size + t231.size ≤ 9223372036854775807) = true := decide_eq_true c25
      try have c25b2 : (9223372036854775807 < x7_1.size + t231.size) = False := eq_false (Nat.not_lt.2 c25)
      have H' := aM H
      clear H
      go_wp2_with (first | ((with_reducible refine gate_dst (N := 36) rfl ?_); refine Kd.R_lit Kd.string _ 9 ?hg (N := 36) ?hd (xs := ([(⟨#[97]⟩ : ByteArray), (⟨#[98]⟩ : ByteArray), (⟨#[97, 98]⟩ : ByteArray), (⟨#[120]⟩ : ByteArray), (⟨#[32]⟩ : ByteArray), (⟨#[111, 110, 101]⟩ : ByteArray), (⟨#[49]⟩ : ByteArray), (⟨#[122, 46]⟩ : ByteArray)] : List ByteArray)) (inner := [.string (⟨#[97]⟩ : ByteArray), .string (⟨#[98]⟩ : ByteArray), .string (⟨#[97, 98]⟩ : ByteArray), .string (⟨#[120]⟩ : ByteArray), .string (⟨#[32]⟩ : ByteArray), .string (⟨#[111, 110, 101]⟩ : ByteArray), .string (⟨#[49]⟩ : ByteArray), .string (⟨#[122, 46]⟩ : ByteArray)]) (ok := fun _ => True) (okp := fun _ => True) ?hr ?hp (fun _ hk => hk) trivial (Below.refl _ _) (Nat.le_refl _) (by simp) ?_; (case hd => rfl); (case hg => rfl); (case hr => exact aP21); (case hp => exact (Reps.one (show Kd.M Kd.string _ _ _ (⟨#[97]⟩ : ByteArray) [.string (⟨#[97]⟩ : ByteArray)] from rfl) (Reps.one (show Kd.M Kd.string _ _ _ (⟨#[98]⟩ : ByteArray) [.string (⟨#[98]⟩ : ByteArray)] from rfl) (Reps.one (show Kd.M Kd.string _ _ _ (⟨#[97, 98]⟩ : ByteArray) [.string (⟨#[97, 98]⟩ : ByteArray)] from rfl) (Reps.one (show Kd.M Kd.string _ _ _ (⟨#[120]⟩ : ByteArray) [.string (⟨#[120]⟩ : ByteArray)] from rfl) (Reps.one (show Kd.M Kd.string _ _ _ (⟨#[32]⟩ : ByteArray) [.string (⟨#[32]⟩ : ByteArray)] from rfl) (Reps.one (show Kd.M Kd.string _ _ _ (⟨#[111, 110, 101]⟩ : ByteArray) [.string (⟨#[111, 110, 101]⟩ : ByteArray)] from rfl) (Reps.one (show Kd.M Kd.string _ _ _ (⟨#[49]⟩ : ByteArray) [.string (⟨#[49]⟩ : ByteArray)] from rfl) (Reps.one (show Kd.M Kd.string _ _ _ (⟨#[122, 46]⟩ : ByteArray) [.string (⟨#[122, 46]⟩ : ByteArray)] from rfl) (Reps.none _ _)))))))))); intro v229 w26 ho27 hb hg_ hnew_; clear hg_ hnew_; (first | rw [← Ny228.out] at ho27 | (simp only [Int.reduceToNat] at ho27; rw [← Ny228.out] at ho27)); have n0_ := aM (Kd.R_lower ho27 (keep_size (w := w) (g := g) (row := none) aP1)); have n1_ := aM (IsS83.below aP0 hb); have n2_ := aM (KeepBut.trans aP1 (KeepBut.of_below hb g none) (.inl rfl)); have n3_ := aM (below_step aP2 hb); clear HI0; clear HK; clear HB; have HO230 := n0_; have HI0 := n1_; have HK := n2_; have HB := n3_; clear n0_ n1_ n2_ n3_; clear hb ho27; obtain ⟨Ao28, co28, eo28⟩ := Kd.R_slice HO230.out; subst eo28) | ((with_reducible refine gate_callee (f := 85) rfl ?_); refine goesL_ (some 37) rfl rfl Try.func85 (by kernel_rfl) rfl #[.pointer (some ⟨g, 0, none⟩), .slice Ao28 y228.length co28] rfl mM ?_; (with_reducible refine (jV.calls g s0_0 x1001_4 x1002_4 _ _ y228 t231 t232 t233 w0 _ ?side1 ?side2 ?side3 ?side4 ?side5 A24.out).mono ?_); (case side1 => exact aP0); (case side2 => exact aP2); (case side3 => exact cC ((Kd.R_reads' HO230.out).2.2)); (case side4 => exact (Kd.R_reads' HO230.out).2.1); (case side5 => exact far_slice (IsS83.own_ne HI0.out HO230.out (by decide))); rintro e w29 ⟨rfl, hi, hb, hk⟩; refine ⟨_, rfl, ?_⟩; have n0_ := aM (Kd.R_mono (Kd.R_keep (IsS83.apart (show IsS83 w0 _ g s0_0 x1001_4 x1002_4 from aP0) (rR HO230.out) (by decide)) hk (fun _ h => h.2)) (fun _ h => h.1)); have n1_ := aM (KeepBut.trans aP1 hk (.inl rfl)); have n2_ := aM (hb); have n3_ := aM (hi); clear HO230; clear HK; clear HB; clear HI0; have HO230 := n0_; have HK := n1_; have HB := n2_; have HI0 := n3_; clear n0_ n1_ n2_ n3_; (try clear hb); (try clear hb2); (try clear hk); (try clear hi)))
      go_roundg kj4
      case measure => have := HK1.out; have := HJ4.out; omega
      case rel => exact ⟨(wrap64 (x1_1 - 1)), (x7_1 ++ t231), (t232), (t233), aP16, aP16, H', ⟨by have := HK1.out; have := HJ4.out; omega⟩, ⟨aP0⟩, ⟨aP1⟩, ⟨aP2⟩⟩
     subst c9
     have H1 : ((jD.f s0_0 x1001_4 x1002_4 4).bind fun bt216 => ((some (([(wrap64 (65 + bt216.1)) % 256] : List Int) : List Int)).bind fun y219 => ((jD.f s0_0 bt216.2.1 bt216.2.2 4).bind fun bt222 => ((jB.f kj4 s0_0 bt222.2.1 bt222.2.2 bt222.1 (wrap64 (a2 - 1))).bind fun bt225 => (if (strOfNums y219).size + bt225.1.size ≤ 9223372036854775807 then (if ((strOfNums y219) ++ bt225.1).size + 1 ≤ 9223372036854775807 then (if x7_1.size + (((strOfNums y219) ++ bt225.1) ++ (⟨#[47]⟩ : ByteArray)).size ≤ 9223372036854775807 then (jB.l0 kj4 (wrap64 (x1_1 - 1)) a2 (x7_1 ++ (((strOfNums y219) ++ bt225.1) ++ (⟨#[47]⟩ : ByteArray))) s0_0 bt225.2.1 bt225.2.2) else (none)) else (none)) else (none)))))) = some (r1, r2, r3) := by rw [if_pos rfl] at H; exact H
     clear H
     have H := H1
     clear H1
     replace H := Option.bind_eq_some_iff.mp H
     obtain ⟨⟨t216, t217, t218⟩, A100, H⟩ := H
     replace H : ((some (([(wrap64 (65 + t216)) % 256] : List Int) : List Int)).bind fun y219 => ((jD.f s0_0 t217 t218 4).bind fun bt222 => ((jB.f kj4 s0_0 bt222.2.1 bt222.2.2 bt222.1 (wrap64 (a2 - 1))).bind fun bt225 => (if (strOfNums y219).size + bt225.1.size ≤ 9223372036854775807 then (if ((strOfNums y219) ++ bt225.1).size + 1 ≤ 9223372036854775807 then (if x7_1.size + (((strOfNums y219) ++ bt225.1) ++ (⟨#[47]⟩ : ByteArray)).size ≤ 9223372036854775807 then (jB.l0 kj4 (wrap64 (x1_1 - 1)) a2 (x7_1 ++ (((strOfNums y219) ++ bt225.1) ++ (⟨#[47]⟩ : ByteArray))) s0_0 bt225.2.1 bt225.2.2) else (none)) else (none)) else (none))))) = some (r1, r2, r3) := H
     have A10 := aM A100
     clear A100
     obtain ⟨y219, hy219⟩ : ∃ y_ : List Int, y_ = (([(wrap64 (65 + t216)) % 256] : List Int)) := ⟨_, rfl⟩
     replace H : ((jD.f s0_0 t217 t218 4).bind fun bt222 => ((jB.f kj4 s0_0 bt222.2.1 bt222.2.2 bt222.1 (wrap64 (a2 - 1))).bind fun bt225 => (if (strOfNums y219).size + bt225.1.size ≤ 9223372036854775807 then (if ((strOfNums y219) ++ bt225.1).size + 1 ≤ 9223372036854775807 then (if x7_1.size + (((strOfNums y219) ++ bt225.1) ++ (⟨#[47]⟩ : ByteArray)).size ≤ 9223372036854775807 then (jB.l0 kj4 (wrap64 (x1_1 - 1)) a2 (x7_1 ++ (((strOfNums y219) ++ bt225.1) ++ (⟨#[47]⟩ : ByteArray))) s0_0 bt225.2.1 bt225.2.2) else (none)) else (none)) else (none)))) = some (r1, r2, r3) := by first | (rw [hy219]; with_reducible exact H) | (have H2_ := (Option.bind_some _ _).symm.trans H; rw [hy219]; with_reducible exact H2_) | (have H2_ := (Option.bind_some _ _).symm.trans H; with_reducible exact H2_) | with_reducible exact H | (rw [hy219]; exact H) | exact H
     have Ny219 := aM hy219
     clear hy219
     replace H := Option.bind_eq_some_iff.mp H
     obtain ⟨⟨t222, t223, t224⟩, A110, H⟩ := H
     replace H : ((jB.f kj4 s0_0 t223 t224 t222 (wrap64 (a2 - 1))).bind fun bt225 => (if (strOfNums y219).size + bt225.1.size ≤ 9223372036854775807 then (if ((strOfNums y219) ++ bt225.1).size + 1 ≤ 9223372036854775807 then (if x7_1.size + (((strOfNums y219) ++ bt225.1) ++ (⟨#[47]⟩ : ByteArray)).size ≤ 9223372036854775807 then (jB.l0 kj4 (wrap64 (x1_1 - 1)) a2 (x7_1 ++ (((strOfNums y219) ++ bt225.1) ++ (⟨#[47]⟩ : ByteArray))) s0_0 bt225.2.1 bt225.2.2) else (none)) else (none)) else (none))) = some (r1, r2, r3) := H
     have A11 := aM A110
     clear A110
     replace H := Option.bind_eq_some_iff.mp H
     obtain ⟨⟨t225, t226, t227⟩, A120, H⟩ := H
     replace H : (if (strOfNums y219).size + t225.size ≤ 9223372036854775807 then (if ((strOfNums y219) ++ t225).size + 1 ≤ 9223372036854775807 then (if x7_1.size + (((strOfNums y219) ++ t225) ++ (⟨#[47]⟩ : ByteArray)).size ≤ 9223372036854775807 then (jB.l0 kj4 (wrap64 (x1_1 - 1)) a2 (x7_1 ++ (((strOfNums y219) ++ t225) ++ (⟨#[47]⟩ : ByteArray))) s0_0 t226 t227) else (none)) else (none)) else (none)) = some (r1, r2, r3) := H
     have A12 := aM A120
     clear A120
     by_cases c13 : (strOfNums y219).size + t225.size ≤ 9223372036854775807
     rotate_left
     ·rw [if_neg c13] at H
      exact absurd H (by simp)
     rw [if_pos c13] at H
     have c13b0 := eq_true c13
     have c13b1 : decide ((strOfNums y219).size + t225.size ≤ 9223372036854775807) = true := decide_eq_true c13
     try have c13b2 : (9223372036854775807 < (strOfNums y219).size + t225.size) = False := eq_false (Nat.not_lt.2 c13)
     by_cases c14 : ((strOfNums y219) ++ t225).size + 1 ≤ 9223372036854775807
     rotate_left
     ·rw [if_neg c14] at H
      exact absurd H (by simp)
     rw [if_pos c14] at H
     have c14b0 := eq_true c14
     have c14b1 : decide (((strOfNums y219) ++ t225).size + 1 ≤ 9223372036854775807) = true := decide_eq_true c14
     try have c14b2 : (9223372036854775807 < ((strOfNums y219) ++ t225).size + 1) = False := eq_false (Nat.not_lt.2 c14)
     try have c14s := eq_false (Nat.not_lt.2 c14)
     try simp only [ByteArray.size_append] at c14s
     by_cases c15 : x7_1.size + (((strOfNums y219) ++ t225) ++ (⟨#[47]⟩ : ByteArray)).size ≤ 9223372036854775807
     rotate_left
     ·rw [if_neg c15] at H
      exact absurd H (by simp)
     rw [if_pos c15] at H
     have c15b0 := eq_true c15
     have c15b1 : decide (x7_1.size + (((strOfNums y219) ++ t225) ++ (⟨#[47]⟩ : ByteArray)).size ≤ 9223372036854775807) = true := decide_eq_true c15
     try have c15b2 : (9223372036854775807 < x7_1.size + (((strOfNums y219) ++ t225) ++ (⟨#[47]⟩ : ByteArray)).size) = False := eq_false (Nat.not_lt.2 c15)
     try have c15s := eq_false (Nat.not_lt.2 c15)
     try simp only [ByteArray.size_append] at c15s
     try have c15t := eq_false (Nat.not_lt.2 c15)
     try simp only [ByteArray.size_append, show (⟨#[47]⟩ : ByteArray).size = 1 from rfl] at c15t
     have H' := aM H
     clear H
     try go_wp2
     have n0_ := aM (IsS83.drew HI0.out)
     have n1_ := aM (keep_drew HK.out)
     have n2_ := aM (below_drew1 HB.out)
     clear HI0
     clear HK
     clear HB
     have HI0 := n0_
     have HK := n1_
     have HB := n2_
     clear n0_ n1_ n2_
     refine start_ (n := 17) (S := fun w' => True) (ds := []) #[false, false, false, false, false, false, false, false, false, false, false, false, false, false, false, false, false] (by kernel_rfl) rfl rfl trivial (fun hHeld => ?_); refine with_tabW jB.tab5 jB.bits5 (fun HT_ HW_ => ?_)
     generalize wc.drew = w16 at HI0 HK HB hHeld ⊢
     refine pure_ (i := 0) (N := some 18) (v := ?_) (a' := ?_) #[true, false, false, false, false, false, false, false, false, false, false, false, false, false, false, false, false] rfl rfl (any_of HT_.out (by kernel_rfl)) (fun _ _ _ h => h) (Or.inl ⟨by rfl, ?_⟩) ?_ ?_
     rotate_left
     ·intro w'
      go_simp
      with_reducible rfl
     rotate_left
     ·simp only [Act.put, List.setIfInBounds_toArray, List.set_cons_zero, List.set_cons_succ, i64_w, i32_w]
      rfl
     refine pure_ (i := 1) (N := some 19) (v := ?_) (a' := ?_) #[true, true, false, false, false, false, false, false, false, false, false, false, false, false, false, false, false] rfl rfl (any_of HT_.out (by kernel_rfl)) (fun _ _ _ h => h) (Or.inl ⟨by rfl, ?_⟩) ?_ ?_
     rotate_left
     ·intro w'
      go_simp
      with_reducible rfl
     rotate_left
     ·simp only [Act.put, List.setIfInBounds_toArray, List.set_cons_zero, List.set_cons_succ, i64_w, i32_w]
      rfl
     refine pure_ (i := 7) (N := some 25) (v := ?_) (a' := ?_) #[true, true, false, false, false, false, false, true, false, false, false, false, false, false, false, false, false] rfl rfl (any_of HT_.out (by kernel_rfl)) (fun _ _ _ h => h) (Or.inl ⟨by rfl, ?_⟩) ?_ ?_
     rotate_left
     ·intro w'
      go_simp
      with_reducible rfl
     rotate_left
     ·simp only [Act.put, List.setIfInBounds_toArray, List.set_cons_zero, List.set_cons_succ, i64_w, i32_w]
      rfl
     refine pure_ (i := 8) (N := some 26) (v := ?_) (a' := ?_) #[true, true, false, false, false, false, false, true, true, false, false, false, false, false, false, false, false] rfl rfl (any_of HT_.out (by kernel_rfl)) (fun _ _ _ h => h) (Or.inl ⟨by rfl, ?_⟩) ?_ ?_
     rotate_left
     ·intro w'
      go_simp
      with_reducible rfl
     rotate_left
     ·simp only [Act.put, List.setIfInBounds_toArray, List.set_cons_zero, List.set_cons_succ, i64_w, i32_w]
      rfl
     refine pure_ (i := 10) (N := some 28) (v := ?_) (a' := ?_) #[true, true, false, false, false, false, false, true, true, false, true, false, false, false, false, false, false] rfl rfl (any_of HT_.out (by kernel_rfl)) (fun _ _ _ h => h) (Or.inl ⟨by rfl, ?_⟩) ?_ ?_
     rotate_left
     ·intro w'
      go_simp
      with_reducible rfl
     rotate_left
     ·simp only [Act.put, List.setIfInBounds_toArray, List.set_cons_zero, List.set_cons_succ, i64_w, i32_w]
      rfl
     refine pure_ (i := 11) (N := some 29) (v := ?_) (a' := ?_) #[true, true, false, false, false, false, false, true, true, false, true, true, false, false, false, false, false] rfl rfl (any_of HT_.out (by kernel_rfl)) (fun _ _ _ h => h) (Or.inl ⟨by rfl, ?_⟩) ?_ ?_
     rotate_left
     ·intro w'
      go_simp
      with_reducible rfl
     rotate_left
     ·simp only [Act.put, List.setIfInBounds_toArray, List.set_cons_zero, List.set_cons_succ, i64_w, i32_w]
      rfl
     refine one_ (i := 2) (N := some 20) #[true, true, true, false, false, false, false, true, true, false, true, true, false, false, false, false, false] rfl rfl (one_of HT_.out (by kernel_rfl)) (by decide) (fun K hK => ?_)
     refine goes_ Try.func74 (by kernel_rfl) rfl #[.pointer (some ⟨g, 0, none⟩), .int .i64 4] (by rfl) rfl rfl mM ?_
     with_reducible refine (jD.calls g s0_0 x1001_4 x1002_4 4 t216 t217 t218 w0 _ ?side1 ?side2 A10.out).mono ?_
     (case side1 => exact aP0)
     (case side2 => exact aP2)
     rintro e w17 ⟨rfl, hi, hb, hk⟩
     refine ⟨_, rfl, ?_⟩
     have n0_ := aM (KeepBut.trans aP1 hk (.inl rfl))
     have n1_ := aM (hb)
     have n2_ := aM (hi)
     clear HK
     clear HB
     clear HI0
     have HK := n0_
     have HB := n1_
     have HI0 := n2_
     clear n0_ n1_ n2_
     (try clear hb)
     (try clear hb2)
     (try clear hk)
     (try clear hi)
     refine hK.out _ _ trivial (fun hHeld => ?_)
     clear hK K
     refine norm_ (a' := ?_) ?_ ?_
     rotate_left
     ·show Act.put _ (some 20) _ = _
      simp only [Act.put, List.setIfInBounds_toArray, List.set_cons_zero, List.set_cons_succ, i64_w, i32_w]
      rfl
     refine pure_ (i := 3) (N := some 21) (v := ?_) (a' := ?_) #[true, true, true, true, false, false, false, true, true, false, true, true, false, false, false, false, false] rfl rfl (any_of HT_.out (by kernel_rfl)) (fun _ _ _ h => h) (Or.inl ⟨by rfl, ?_⟩) ?_ ?_
     rotate_left
     ·intro w'
      go_simp
      with_reducible rfl
     rotate_left
     ·simp only [Act.put, List.setIfInBounds_toArray, List.set_cons_zero, List.set_cons_succ, i64_w, i32_w]
      rfl
     refine pure_ (i := 4) (N := some 22) (v := ?_) (a' := ?_) #[true, true, true, true, true, false, false, true, true, false, true, true, false, false, false, false, false] rfl rfl (any_of HT_.out (by kernel_rfl)) (fun _ _ _ h => h) (Or.inl ⟨by rfl, ?_⟩) ?_ ?_
     rotate_left
     ·intro w'
      go_simp
      with_reducible rfl
     rotate_left
     ·simp only [Act.put, List.setIfInBounds_toArray, List.set_cons_zero, List.set_cons_succ, i64_w, i32_w]
      rfl
     refine join_ (σ := Value) 4 #[true, true, true, true, true, true, true, true, true, true, true, true, true, false, false, false, false] (fun s_ => [(23, s_), (24, .string (strOfNums y219)), (27, .int .i64 t222), (30, .string t225)]) (fun s_ w' => (Kd.R (Kd.int .u8) 5 w' w.heap.size (fun _ => True) s_ y219) ∧ (IsS83 w0 w' g s0_0 t226 t227) ∧ (KeepBut w w' g none) ∧ (Below w0.heap.size w0 w')) ?_ ?_
     rotate_left
     ·intro hJ5_6_9_12
      refine join_ (σ := Value) 5 #[true, true, true, true, true, true, true, true, true, true, true, true, false, false, false, false, false] (fun s_ => [(23, s_), (24, .string (strOfNums y219)), (27, .int .i64 t222)]) (fun s_ w' => (Kd.R (Kd.int .u8) 5 w' w.heap.size (fun _ => True) s_ y219) ∧ (IsS83 w0 w' g s0_0 t223 t224) ∧ (KeepBut w w' g none) ∧ (Below w0.heap.size w0 w')) ?_ ?_
      rotate_left
      rotate_left
      ·skip
       rintro v220 w22 ⟨h0_, h1_, h2_, h3_⟩
       have n0_ : Aside0 (Kd.R (Kd.int .u8) 5 w22 w.heap.size (fun _ => True) v220 y219) := ⟨h0_⟩
       have n1_ : Aside0 (IsS83 w0 w22 g s0_0 t223 t224) := ⟨h1_⟩
       have n2_ : Aside0 (KeepBut w w22 g none) := ⟨h2_⟩
       have n3_ : Aside0 (Below w0.heap.size w0 w22) := ⟨h3_⟩
       clear HI0
       clear HK
       clear HB
       clear h0_ h1_ h2_ h3_
       have HO221 := n0_
       have HI0 := n1_
       have HK := n2_
       have HB := n3_
       clear n0_ n1_ n2_ n3_
       have hHeld := trivial
       refine norm_ (a' := ?_) ?_ ?_
       rotate_left
       ·simp only [putAll, Act.put, List.setIfInBounds_toArray, List.set_cons_zero, List.set_cons_succ]
        rfl
       refine one_ (i := 12) (N := some 30) #[true, true, true, true, true, true, true, true, true, true, true, true, true, false, false, false, false] rfl rfl (one_of HT_.out (by kernel_rfl)) (by decide) (fun K hK => ?_)
       refine goes_ Try.func89 (by kernel_rfl) rfl #[.pointer (some ⟨g, 0, none⟩), .int .i64 t222, .int .i64 (wrap64 (a2 - 1))] (by rfl) rfl rfl mM ?_
       with_reducible refine (ih kj4 (by have := HK1.out; have := HJ4.out; omega) g s0_0 t223 t224 t222 (wrap64 (a2 - 1)) t225 t226 t227 w0 _ ?side1 ?side2 A12.out).mono ?_
       (case side1 => exact aP0)
       (case side2 => exact aP2)
       rintro e w23 ⟨rfl, hi, hb, hk⟩
       refine ⟨_, rfl, ?_⟩
       have n0_ := aM (Kd.R_mono (Kd.R_keep (IsS83.apart (show IsS83 w0 _ g s0_0 t223 t224 from aP0) (rR HO221.out) (by decide)) hk (fun _ h => h.2)) (fun _ h => h.1))
       have n1_ := aM (KeepBut.trans aP1 hk (.inl rfl))
       have n2_ := aM (hb)
       have n3_ := aM (hi)
       clear HO221
       clear HK
       clear HB
       clear HI0
       have HO221 := n0_
       have HK := n1_
       have HB := n2_
       have HI0 := n3_
       clear n0_ n1_ n2_ n3_
       (try clear hb)
       (try clear hb2)
       (try clear hk)
       (try clear hi)
       refine hK.out _ _ trivial (fun hHeld => ?_)
       clear hK K
       refine norm_ (a' := ?_) ?_ ?_
       rotate_left
       ·show Act.put _ (some 30) _ = _
        simp only [Act.put, List.setIfInBounds_toArray, List.set_cons_zero, List.set_cons_succ, i64_w, i32_w]
        rfl
       exact norm_ aP17 (hJ5_6_9_12 (v220) _ ⟨(rR HO221.out), aP0, aP1, aP2⟩)
      intro hJ5_6_9
      refine join_ (σ := Value) 5 #[true, true, true, true, true, true, false, true, true, true, true, true, true, false, false, false, false] (fun s_ => [(23, s_), (27, .int .i64 t222), (30, .string t225)]) (fun s_ w' => (Kd.R (Kd.int .u8) 5 w' w.heap.size (fun _ => True) s_ y219) ∧ (IsS83 w0 w' g s0_0 t226 t227) ∧ (KeepBut w w' g none) ∧ (Below w0.heap.size w0 w')) ?_ ?_
      rotate_left
      rotate_left
      ·skip
       rintro v220 w22 ⟨h0_, h1_, h2_, h3_⟩
       have n0_ : Aside0 (Kd.R (Kd.int .u8) 5 w22 w.heap.size (fun _ => True) v220 y219) := ⟨h0_⟩
       have n1_ : Aside0 (IsS83 w0 w22 g s0_0 t226 t227) := ⟨h1_⟩
       have n2_ : Aside0 (KeepBut w w22 g none) := ⟨h2_⟩
       have n3_ : Aside0 (Below w0.heap.size w0 w22) := ⟨h3_⟩
       clear HI0
       clear HK
       clear HB
       clear h0_ h1_ h2_ h3_
       have HO221 := n0_
       have HI0 := n1_
       have HK := n2_
       have HB := n3_
       clear n0_ n1_ n2_ n3_
       have hHeld := trivial
       refine norm_ (a' := ?_) ?_ ?_
       rotate_left
       ·simp only [putAll, Act.put, List.setIfInBounds_toArray, List.set_cons_zero, List.set_cons_succ]
        rfl
       refine one_ (i := 6) (N := some 24) #[true, true, true, true, true, true, true, true, true, true, true, true, true, false, false, false, false] rfl rfl (one_of HT_.out (by kernel_rfl)) (by decide) (fun K hK => ?_)
       have hcv23 := own_string (P := Try.prog) Try.underlying43 Try.underlying5 Try.underlying9 (Kd.own_of_R HO221.out)
       refine value_ (w1 := ?_) (v := ?_) (by rfl) rfl ?_ ?_
       rotate_left 2
       ·go_simp
        constructor
        ·rfl
        rfl
       clear hcv23
       refine hK.out _ _ trivial (fun hHeld => ?_)
       clear hK K
       refine norm_ (a' := ?_) ?_ ?_
       rotate_left
       ·show Act.put _ (some 24) _ = _
        simp only [Act.put, List.setIfInBounds_toArray, List.set_cons_zero, List.set_cons_succ, i64_w, i32_w]
        rfl
       exact norm_ aP17 (hJ5_6_9_12 (v220) _ ⟨(rR HO221.out), aP0, aP1, aP2⟩)
      intro hJ5_9_12
      refine join_ (σ := Value) 6 #[true, true, true, true, true, true, true, true, true, false, true, true, false, false, false, false, false] (fun s_ => [(23, s_), (24, .string (strOfNums y219))]) (fun s_ w' => (Kd.R (Kd.int .u8) 5 w' w.heap.size (fun _ => True) s_ y219) ∧ (IsS83 w0 w' g s0_0 t217 t218) ∧ (KeepBut w w' g none) ∧ (Below w0.heap.size w0 w')) ?_ ?_
      rotate_left
      rotate_left
      ·skip
       rintro v220 w21 ⟨h0_, h1_, h2_, h3_⟩
       have n0_ : Aside0 (Kd.R (Kd.int .u8) 5 w21 w.heap.size (fun _ => True) v220 y219) := ⟨h0_⟩
       have n1_ : Aside0 (IsS83 w0 w21 g s0_0 t217 t218) := ⟨h1_⟩
       have n2_ : Aside0 (KeepBut w w21 g none) := ⟨h2_⟩
       have n3_ : Aside0 (Below w0.heap.size w0 w21) := ⟨h3_⟩
       clear HI0
       clear HK
       clear HB
       clear h0_ h1_ h2_ h3_
       have HO221 := n0_
       have HI0 := n1_
       have HK := n2_
       have HB := n3_
       clear n0_ n1_ n2_ n3_
       have hHeld := trivial
       refine norm_ (a' := ?_) ?_ ?_
       rotate_left
       ·simp only [putAll, Act.put, List.setIfInBounds_toArray, List.set_cons_zero, List.set_cons_succ]
        rfl
       refine one_ (i := 9) (N := some 27) #[true, true, true, true, true, true, true, true, true, true, true, true, false, false, false, false, false] rfl rfl (one_of HT_.out (by kernel_rfl)) (by decide) (fun K hK => ?_)
       refine goes_ Try.func74 (by kernel_rfl) rfl #[.pointer (some ⟨g, 0, none⟩), .int .i64 4] (by rfl) rfl rfl mM ?_
       with_reducible refine (jD.calls g s0_0 t217 t218 4 t222 t223 t224 w0 _ ?side1 ?side2 A11.out).mono ?_
       (case side1 => exact aP0)
       (case side2 => exact aP2)
       rintro e w22 ⟨rfl, hi, hb, hk⟩
       refine ⟨_, rfl, ?_⟩
       have n0_ := aM (Kd.R_mono (Kd.R_keep (IsS83.apart (show IsS83 w0 _ g s0_0 t217 t218 from aP0) (rR HO221.out) (by decide)) hk (fun _ h => h.2)) (fun _ h => h.1))
       have n1_ := aM (KeepBut.trans aP1 hk (.inl rfl))
       have n2_ := aM (hb)
       have n3_ := aM (hi)
       clear HO221
       clear HK
       clear HB
       clear HI0
       have HO221 := n0_
       have HK := n1_
       have HB := n2_
       have HI0 := n3_
       clear n0_ n1_ n2_ n3_
       (try clear hb)
       (try clear hb2)
       (try clear hk)
       (try clear hi)
       refine hK.out _ _ trivial (fun hHeld => ?_)
       clear hK K
       refine norm_ (a' := ?_) ?_ ?_
       rotate_left
       ·show Act.put _ (some 27) _ = _
        simp only [Act.put, List.setIfInBounds_toArray, List.set_cons_zero, List.set_cons_succ, i64_w, i32_w]
        rfl
       exact norm_ aP17 (hJ5_6_9 (v220) _ ⟨(rR HO221.out), aP0, aP1, aP2⟩)
      intro hJ5_6
      refine join_ (σ := Value) 6 #[true, true, true, true, true, true, false, true, true, true, true, true, false, false, false, false, false] (fun s_ => [(23, s_), (27, .int .i64 t222)]) (fun s_ w' => (Kd.R (Kd.int .u8) 5 w' w.heap.size (fun _ => True) s_ y219) ∧ (IsS83 w0 w' g s0_0 t223 t224) ∧ (KeepBut w w' g none) ∧ (Below w0.heap.size w0 w')) ?_ ?_
      rotate_left
      rotate_left
      ·skip
       rintro v220 w21 ⟨h0_, h1_, h2_, h3_⟩
       have n0_ : Aside0 (Kd.R (Kd.int .u8) 5 w21 w.heap.size (fun _ => True) v220 y219) := ⟨h0_⟩
       have n1_ : Aside0 (IsS83 w0 w21 g s0_0 t223 t224) := ⟨h1_⟩
       have n2_ : Aside0 (KeepBut w w21 g none) := ⟨h2_⟩
       have n3_ : Aside0 (Below w0.heap.size w0 w21) := ⟨h3_⟩
       clear HI0
       clear HK
       clear HB
       clear h0_ h1_ h2_ h3_
       have HO221 := n0_
       have HI0 := n1_
       have HK := n2_
       have HB := n3_
       clear n0_ n1_ n2_ n3_
       have hHeld := trivial
       refine norm_ (a' := ?_) ?_ ?_
       rotate_left
       ·simp only [putAll, Act.put, List.setIfInBounds_toArray, List.set_cons_zero, List.set_cons_succ]
        rfl
       refine two_ (i := 6) (j := 12) (Ni := some 24) (Nj := some 30) #[true, true, true, true, true, true, true, true, true, true, true, true, false, false, false, false, false] #[true, true, true, true, true, true, false, true, true, true, true, true, true, false, false, false, false] rfl rfl rfl rfl (two_of HT_.out (by kernel_rfl)) (by decide) (by decide) (fun K hK => ?_) (fun K hK => ?_)
       ·skip
        have hcv22 := own_string (P := Try.prog) Try.underlying43 Try.underlying5 Try.underlying9 (Kd.own_of_R HO221.out)
        refine value_ (w1 := ?_) (v := ?_) (by rfl) rfl ?_ ?_
        rotate_left 2
        ·go_simp
         constructor
         ·rfl
         rfl
        clear hcv22
        refine hK.out _ _ trivial (fun hHeld => ?_)
        clear hK K
        refine norm_ (a' := ?_) ?_ ?_
        rotate_left
        ·show Act.put _ (some 24) _ = _
         simp only [Act.put, List.setIfInBounds_toArray, List.set_cons_zero, List.set_cons_succ, i64_w, i32_w]
         rfl
        exact norm_ aP17 (hJ5_6_9 (v220) _ ⟨(rR HO221.out), aP0, aP1, aP2⟩)
       skip
       refine goes_ Try.func89 (by kernel_rfl) rfl #[.pointer (some ⟨g, 0, none⟩), .int .i64 t222, .int .i64 (wrap64 (a2 - 1))] (by rfl) rfl rfl mM ?_
       with_reducible refine (ih kj4 (by have := HK1.out; have := HJ4.out; omega) g s0_0 t223 t224 t222 (wrap64 (a2 - 1)) t225 t226 t227 w0 _ ?side1 ?side2 A12.out).mono ?_
       (case side1 => exact aP0)
       (case side2 => exact aP2)
       rintro e w22 ⟨rfl, hi, hb, hk⟩
       refine ⟨_, rfl, ?_⟩
       have n0_ := aM (Kd.R_mono (Kd.R_keep (IsS83.apart (show IsS83 w0 _ g s0_0 t223 t224 from aP0) (rR HO221.out) (by decide)) hk (fun _ h => h.2)) (fun _ h => h.1))
       have n1_ := aM (KeepBut.trans aP1 hk (.inl rfl))
       have n2_ := aM (hb)
       have n3_ := aM (hi)
       clear HO221
       clear HK
       clear HB
       clear HI0
       have HO221 := n0_
       have HK := n1_
       have HB := n2_
       have HI0 := n3_
       clear n0_ n1_ n2_ n3_
       (try clear hb)
       (try clear hb2)
       (try clear hk)
       (try clear hi)
       refine hK.out _ _ trivial (fun hHeld => ?_)
       clear hK K
       refine norm_ (a' := ?_) ?_ ?_
       rotate_left
       ·show Act.put _ (some 30) _ = _
        simp only [Act.put, List.setIfInBounds_toArray, List.set_cons_zero, List.set_cons_succ, i64_w, i32_w]
        rfl
       exact norm_ aP17 (hJ5_9_12 (v220) _ ⟨(rR HO221.out), aP0, aP1, aP2⟩)
      intro hJ5_9
      refine join_ (σ := Unit) 6 #[true, true, true, true, true, false, false, true, true, true, true, true, true, false, false, false, false] (fun s_ => [(27, .int .i64 t222), (30, .string t225)]) (fun s_ w' => (IsS83 w0 w' g s0_0 t226 t227) ∧ (KeepBut w w' g none) ∧ (Below w0.heap.size w0 w')) ?_ ?_
      rotate_left
      rotate_left
      ·skip
       rintro _ w20 ⟨h0_, h1_, h2_⟩
       have n0_ : Aside0 (IsS83 w0 w20 g s0_0 t226 t227) := ⟨h0_⟩
       have n1_ : Aside0 (KeepBut w w20 g none) := ⟨h1_⟩
       have n2_ : Aside0 (Below w0.heap.size w0 w20) := ⟨h2_⟩
       clear HI0
       clear HK
       clear HB
       clear h0_ h1_ h2_
       have HI0 := n0_
       have HK := n1_
       have HB := n2_
       clear n0_ n1_ n2_
       have hHeld := trivial
       refine norm_ (a' := ?_) ?_ ?_
       rotate_left
       ·simp only [putAll, Act.put, List.setIfInBounds_toArray, List.set_cons_zero, List.set_cons_succ]
        rfl
       refine one_ (i := 5) (N := some 23) #[true, true, true, true, true, true, false, true, true, true, true, true, true, false, false, false, false] rfl rfl (one_of HT_.out (by kernel_rfl)) (by decide) (fun K hK => ?_)
       refine Kd.R_lit_step (Kd.int .u8) _ 5 ?hg (N := 23) ?hd (xs := ([(wrap64 (65 + t216)) % 256] : List Int)) (inner := [.int .u8 ((wrap64 (65 + t216)) % 256)]) (ok := fun _ => True) (okp := fun _ => True) ?hr ?hp (fun _ hk => hk) trivial (Below.refl _ _) (Nat.le_refl _) (by simp) ?_; (case hd => rfl); (case hg => rfl); (case hr => exact aP21); (case hp => exact (Reps.one (show Kd.M (Kd.int .u8) _ _ _ ((wrap64 (65 + t216)) % 256) [.int .u8 ((wrap64 (65 + t216)) % 256)] from rfl) (Reps.none _ _)))
       intro v220 w21 ho22 hb hg_ hnew_
       clear hg_ hnew_
       (first | rw [← Ny219.out] at ho22 | (simp only [Int.reduceToNat] at ho22; rw [← Ny219.out] at ho22))
       have n0_ := aM (Kd.R_lower ho22 (keep_size (w := w) (g := g) (row := none) aP1))
       have n1_ := aM (IsS83.below aP0 hb)
       have n2_ := aM (KeepBut.trans aP1 (KeepBut.of_below hb g none) (.inl rfl))
       have n3_ := aM (below_step aP2 hb)
       clear HI0
       clear HK
       clear HB
       have HO221 := n0_
       have HI0 := n1_
       have HK := n2_
       have HB := n3_
       clear n0_ n1_ n2_ n3_
       clear hb ho22
       refine hK.out _ _ trivial (fun hHeld => ?_)
       clear hK K
       refine norm_ (a' := ?_) ?_ ?_
       rotate_left
       ·show Act.put _ (some 23) _ = _
        simp only [Act.put, List.setIfInBounds_toArray, List.set_cons_zero, List.set_cons_succ, i64_w, i32_w]
        rfl
       exact norm_ aP17 (hJ5_9_12 (v220) _ ⟨(rR HO221.out), aP0, aP1, aP2⟩)
      intro hJ9_12
      refine join_ (σ := Value) 7 #[true, true, true, true, true, true, false, true, true, false, true, true, false, false, false, false, false] (fun s_ => [(23, s_)]) (fun s_ w' => (Kd.R (Kd.int .u8) 5 w' w.heap.size (fun _ => True) s_ y219) ∧ (IsS83 w0 w' g s0_0 t217 t218) ∧ (KeepBut w w' g none) ∧ (Below w0.heap.size w0 w')) ?_ ?_
      rotate_left
      rotate_left
      ·skip
       rintro v220 w20 ⟨h0_, h1_, h2_, h3_⟩
       have n0_ : Aside0 (Kd.R (Kd.int .u8) 5 w20 w.heap.size (fun _ => True) v220 y219) := ⟨h0_⟩
       have n1_ : Aside0 (IsS83 w0 w20 g s0_0 t217 t218) := ⟨h1_⟩
       have n2_ : Aside0 (KeepBut w w20 g none) := ⟨h2_⟩
       have n3_ : Aside0 (Below w0.heap.size w0 w20) := ⟨h3_⟩
       clear HI0
       clear HK
       clear HB
       clear h0_ h1_ h2_ h3_
       have HO221 := n0_
       have HI0 := n1_
       have HK := n2_
       have HB := n3_
       clear n0_ n1_ n2_ n3_
       have hHeld := trivial
       refine norm_ (a' := ?_) ?_ ?_
       rotate_left
       ·simp only [putAll, Act.put, List.setIfInBounds_toArray, List.set_cons_zero, List.set_cons_succ]
        rfl
       refine two_ (i := 6) (j := 9) (Ni := some 24) (Nj := some 27) #[true, true, true, true, true, true, true, true, true, false, true, true, false, false, false, false, false] #[true, true, true, true, true, true, false, true, true, true, true, true, false, false, false, false, false] rfl rfl rfl rfl (two_of HT_.out (by kernel_rfl)) (by decide) (by decide) (fun K hK => ?_) (fun K hK => ?_)
       ·skip
        have hcv21 := own_string (P := Try.prog) Try.underlying43 Try.underlying5 Try.underlying9 (Kd.own_of_R HO221.out)
        refine value_ (w1 := ?_) (v := ?_) (by rfl) rfl ?_ ?_
        rotate_left 2
        ·go_simp
         constructor
         ·rfl
         rfl
        clear hcv21
        refine hK.out _ _ trivial (fun hHeld => ?_)
        clear hK K
        refine norm_ (a' := ?_) ?_ ?_
        rotate_left
        ·show Act.put _ (some 24) _ = _
         simp only [Act.put, List.setIfInBounds_toArray, List.set_cons_zero, List.set_cons_succ, i64_w, i32_w]
         rfl
        exact norm_ aP17 (hJ5_6 (v220) _ ⟨(rR HO221.out), aP0, aP1, aP2⟩)
       skip
       refine goes_ Try.func74 (by kernel_rfl) rfl #[.pointer (some ⟨g, 0, none⟩), .int .i64 4] (by rfl) rfl rfl mM ?_
       with_reducible refine (jD.calls g s0_0 t217 t218 4 t222 t223 t224 w0 _ ?side1 ?side2 A11.out).mono ?_
       (case side1 => exact aP0)
       (case side2 => exact aP2)
       rintro e w21 ⟨rfl, hi, hb, hk⟩
       refine ⟨_, rfl, ?_⟩
       have n0_ := aM (Kd.R_mono (Kd.R_keep (IsS83.apart (show IsS83 w0 _ g s0_0 t217 t218 from aP0) (rR HO221.out) (by decide)) hk (fun _ h => h.2)) (fun _ h => h.1))
       have n1_ := aM (KeepBut.trans aP1 hk (.inl rfl))
       have n2_ := aM (hb)
       have n3_ := aM (hi)
       clear HO221
       clear HK
       clear HB
       clear HI0
       have HO221 := n0_
       have HK := n1_
       have HB := n2_
       have HI0 := n3_
       clear n0_ n1_ n2_ n3_
       (try clear hb)
       (try clear hb2)
       (try clear hk)
       (try clear hi)
       refine hK.out _ _ trivial (fun hHeld => ?_)
       clear hK K
       refine norm_ (a' := ?_) ?_ ?_
       rotate_left
       ·show Act.put _ (some 27) _ = _
        simp only [Act.put, List.setIfInBounds_toArray, List.set_cons_zero, List.set_cons_succ, i64_w, i32_w]
        rfl
       exact norm_ aP17 (hJ5_9 (v220) _ ⟨(rR HO221.out), aP0, aP1, aP2⟩)
      intro hJ5
      refine join_ (σ := Unit) 7 #[true, true, true, true, true, false, false, true, true, true, true, true, false, false, false, false, false] (fun s_ => [(27, .int .i64 t222)]) (fun s_ w' => (IsS83 w0 w' g s0_0 t223 t224) ∧ (KeepBut w w' g none) ∧ (Below w0.heap.size w0 w')) ?_ ?_
      rotate_left
      ·intro hJ9
       refine two_ (i := 5) (j := 9) (Ni := some 23) (Nj := some 27) #[true, true, true, true, true, true, false, true, true, false, true, true, false, false, false, false, false] #[true, true, true, true, true, false, false, true, true, true, true, true, false, false, false, false, false] rfl rfl rfl rfl (two_of HT_.out (by kernel_rfl)) (by decide) (by decide) (fun K hK => ?_) (fun K hK => ?_)
       rotate_left
       ·skip
        refine goes_ Try.func74 (by kernel_rfl) rfl #[.pointer (some ⟨g, 0, none⟩), .int .i64 4] (by rfl) rfl rfl mM ?_
        with_reducible refine (jD.calls g s0_0 t217 t218 4 t222 t223 t224 w0 _ ?side1 ?side2 A11.out).mono ?_
        (case side1 => exact aP0)
        (case side2 => exact aP2)
        rintro e w18 ⟨rfl, hi, hb, hk⟩
        refine ⟨_, rfl, ?_⟩
        have n0_ := aM (KeepBut.trans aP1 hk (.inl rfl))
        have n1_ := aM (hb)
        have n2_ := aM (hi)
        clear HK
        clear HB
        clear HI0
        have HK := n0_
        have HB := n1_
        have HI0 := n2_
        clear n0_ n1_ n2_
        (try clear hb)
        (try clear hb2)
        (try clear hk)
        (try clear hi)
        refine hK.out _ _ trivial (fun hHeld => ?_)
        clear hK K
        refine norm_ (a' := ?_) ?_ ?_
        rotate_left
        ·show Act.put _ (some 27) _ = _
         simp only [Act.put, List.setIfInBounds_toArray, List.set_cons_zero, List.set_cons_succ, i64_w, i32_w]
         rfl
        exact norm_ aP17 (hJ9 () _ ⟨aP0, aP1, aP2⟩)
       skip
       refine Kd.R_lit_step (Kd.int .u8) _ 5 ?hg (N := 23) ?hd (xs := ([(wrap64 (65 + t216)) % 256] : List Int)) (inner := [.int .u8 ((wrap64 (65 + t216)) % 256)]) (ok := fun _ => True) (okp := fun _ => True) ?hr ?hp (fun _ hk => hk) trivial (Below.refl _ _) (Nat.le_refl _) (by simp) ?_; (case hd => rfl); (case hg => rfl); (case hr => exact aP21); (case hp => exact (Reps.one (show Kd.M (Kd.int .u8) _ _ _ ((wrap64 (65 + t216)) % 256) [.int .u8 ((wrap64 (65 + t216)) % 256)] from rfl) (Reps.none _ _)))
       intro v220 w18 ho19 hb hg_ hnew_
       clear hg_ hnew_
       (first | rw [← Ny219.out] at ho19 | (simp only [Int.reduceToNat] at ho19; rw [← Ny219.out] at ho19))
       have n0_ := aM (Kd.R_lower ho19 (keep_size (w := w) (g := g) (row := none) aP1))
       have n1_ := aM (IsS83.below aP0 hb)
       have n2_ := aM (KeepBut.trans aP1 (KeepBut.of_below hb g none) (.inl rfl))
       have n3_ := aM (below_step aP2 hb)
       clear HI0
       clear HK
       clear HB
       have HO221 := n0_
       have HI0 := n1_
       have HK := n2_
       have HB := n3_
       clear n0_ n1_ n2_ n3_
       clear hb ho19
       refine hK.out _ _ trivial (fun hHeld => ?_)
       clear hK K
       refine norm_ (a' := ?_) ?_ ?_
       rotate_left
       ·show Act.put _ (some 23) _ = _
        simp only [Act.put, List.setIfInBounds_toArray, List.set_cons_zero, List.set_cons_succ, i64_w, i32_w]
        rfl
       exact norm_ aP17 (hJ5 (v220) _ ⟨(rR HO221.out), aP0, aP1, aP2⟩)
      skip
      rintro _ w19 ⟨h0_, h1_, h2_⟩
      have n0_ : Aside0 (IsS83 w0 w19 g s0_0 t223 t224) := ⟨h0_⟩
      have n1_ : Aside0 (KeepBut w w19 g none) := ⟨h1_⟩
      have n2_ : Aside0 (Below w0.heap.size w0 w19) := ⟨h2_⟩
      clear HI0
      clear HK
      clear HB
      clear h0_ h1_ h2_
      have HI0 := n0_
      have HK := n1_
      have HB := n2_
      clear n0_ n1_ n2_
      have hHeld := trivial
      refine norm_ (a' := ?_) ?_ ?_
      rotate_left
      ·simp only [putAll, Act.put, List.setIfInBounds_toArray, List.set_cons_zero, List.set_cons_succ]
       rfl
      refine two_ (i := 5) (j := 12) (Ni := some 23) (Nj := some 30) #[true, true, true, true, true, true, false, true, true, true, true, true, false, false, false, false, false] #[true, true, true, true, true, false, false, true, true, true, true, true, true, false, false, false, false] rfl rfl rfl rfl (two_of HT_.out (by kernel_rfl)) (by decide) (by decide) (fun K hK => ?_) (fun K hK => ?_)
      rotate_left
      ·skip
       refine goes_ Try.func89 (by kernel_rfl) rfl #[.pointer (some ⟨g, 0, none⟩), .int .i64 t222, .int .i64 (wrap64 (a2 - 1))] (by rfl) rfl rfl mM ?_
       with_reducible refine (ih kj4 (by have := HK1.out; have := HJ4.out; omega) g s0_0 t223 t224 t222 (wrap64 (a2 - 1)) t225 t226 t227 w0 _ ?side1 ?side2 A12.out).mono ?_
       (case side1 => exact aP0)
       (case side2 => exact aP2)
       rintro e w20 ⟨rfl, hi, hb, hk⟩
       refine ⟨_, rfl, ?_⟩
       have n0_ := aM (KeepBut.trans aP1 hk (.inl rfl))
       have n1_ := aM (hb)
       have n2_ := aM (hi)
       clear HK
       clear HB
       clear HI0
       have HK := n0_
       have HB := n1_
       have HI0 := n2_
       clear n0_ n1_ n2_
       (try clear hb)
       (try clear hb2)
       (try clear hk)
       (try clear hi)
       refine hK.out _ _ trivial (fun hHeld => ?_)
       clear hK K
       refine norm_ (a' := ?_) ?_ ?_
       rotate_left
       ·show Act.put _ (some 30) _ = _
        simp only [Act.put, List.setIfInBounds_toArray, List.set_cons_zero, List.set_cons_succ, i64_w, i32_w]
        rfl
       exact norm_ aP17 (hJ9_12 () _ ⟨aP0, aP1, aP2⟩)
      skip
      refine Kd.R_lit_step (Kd.int .u8) _ 5 ?hg (N := 23) ?hd (xs := ([(wrap64 (65 + t216)) % 256] : List Int)) (inner := [.int .u8 ((wrap64 (65 + t216)) % 256)]) (ok := fun _ => True) (okp := fun _ => True) ?hr ?hp (fun _ hk => hk) trivial (Below.refl _ _) (Nat.le_refl _) (by simp) ?_; (case hd => rfl); (case hg => rfl); (case hr => exact aP21); (case hp => exact (Reps.one (show Kd.M (Kd.int .u8) _ _ _ ((wrap64 (65 + t216)) % 256) [.int .u8 ((wrap64 (65 + t216)) % 256)] from rfl) (Reps.none _ _)))
      intro v220 w20 ho21 hb hg_ hnew_
      clear hg_ hnew_
      (first | rw [← Ny219.out] at ho21 | (simp only [Int.reduceToNat] at ho21; rw [← Ny219.out] at ho21))
      have n0_ := aM (Kd.R_lower ho21 (keep_size (w := w) (g := g) (row := none) aP1))
      have n1_ := aM (IsS83.below aP0 hb)
      have n2_ := aM (KeepBut.trans aP1 (KeepBut.of_below hb g none) (.inl rfl))
      have n3_ := aM (below_step aP2 hb)
      clear HI0
      clear HK
      clear HB
      have HO221 := n0_
      have HI0 := n1_
      have HK := n2_
      have HB := n3_
      clear n0_ n1_ n2_ n3_
      clear hb ho21
      refine hK.out _ _ trivial (fun hHeld => ?_)
      clear hK K
      refine norm_ (a' := ?_) ?_ ?_
      rotate_left
      ·show Act.put _ (some 23) _ = _
       simp only [Act.put, List.setIfInBounds_toArray, List.set_cons_zero, List.set_cons_succ, i64_w, i32_w]
       rfl
      exact norm_ aP17 (hJ5_9 (v220) _ ⟨(rR HO221.out), aP0, aP1, aP2⟩)
     rintro v220 w23 ⟨h0_, h1_, h2_, h3_⟩
     have n0_ : Aside0 (Kd.R (Kd.int .u8) 5 w23 w.heap.size (fun _ => True) v220 y219) := ⟨h0_⟩
     have n1_ : Aside0 (IsS83 w0 w23 g s0_0 t226 t227) := ⟨h1_⟩
     have n2_ : Aside0 (KeepBut w w23 g none) := ⟨h2_⟩
     have n3_ : Aside0 (Below w0.heap.size w0 w23) := ⟨h3_⟩
     clear HI0
     clear HK
     clear HB
     clear h0_ h1_ h2_ h3_
     have HO221 := n0_
     have HI0 := n1_
     have HK := n2_
     have HB := n3_
     clear n0_ n1_ n2_ n3_
     have hHeld := trivial
     refine norm_ (a' := ?_) ?_ ?_
     rotate_left
     ·simp only [putAll, Act.put, List.setIfInBounds_toArray, List.set_cons_zero, List.set_cons_succ]
      rfl
     refine pure_ (i := 13) (N := some 31) (v := ?_) (a' := ?_) #[true, true, true, true, true, true, true, true, true, true, true, true, true, true, false, false, false] rfl rfl (any_of HT_.out (by kernel_rfl)) (fun _ _ _ h => h) (Or.inl ⟨by rfl, ?_⟩) ?_ ?_
     rotate_left
     ·intro w'
      go_simp
      with_reducible rfl
     rotate_left
     ·simp only [Act.put, List.setIfInBounds_toArray, List.set_cons_zero, List.set_cons_succ, i64_w, i32_w]
      rfl
     refine pure_ (i := 14) (N := some 32) (v := ?_) (a' := ?_) #[true, true, true, true, true, true, true, true, true, true, true, true, true, true, true, false, false] rfl rfl (any_of HT_.out (by kernel_rfl)) (fun _ _ _ h => h) (Or.inl ⟨by rfl, ?_⟩) ?_ ?_
     rotate_left
     ·intro w'
      go_simp
      with_reducible rfl
     rotate_left
     ·simp only [Act.put, List.setIfInBounds_toArray, List.set_cons_zero, List.set_cons_succ, i64_w, i32_w]
      rfl
     refine pure_ (i := 15) (N := some 33) (v := ?_) (a' := ?_) #[true, true, true, true, true, true, true, true, true, true, true, true, true, true, true, true, false] rfl rfl (any_of HT_.out (by kernel_rfl)) (fun _ _ _ h => h) (Or.inl ⟨by rfl, ?_⟩) ?_ ?_
     rotate_left
     ·intro w'
      go_simp
      with_reducible rfl
     rotate_left
     ·simp only [Act.put, List.setIfInBounds_toArray, List.set_cons_zero, List.set_cons_succ, i64_w, i32_w]
      rfl
     refine pure_ (i := 16) (N := some 7) (v := ?_) (a' := ?_) #[true, true, true, true, true, true, true, true, true, true, true, true, true, true, true, true, true] rfl rfl (any_of HT_.out (by kernel_rfl)) (fun _ _ _ h => h) (Or.inl ⟨by rfl, ?_⟩) ?_ ?_
     rotate_left
     ·intro w'
      go_simp
      with_reducible rfl
     rotate_left
     ·simp only [Act.put, List.setIfInBounds_toArray, List.set_cons_zero, List.set_cons_succ, i64_w, i32_w]
      rfl
     refine done_ (done_of HT_.out (by kernel_rfl)) ?_
     try go_wp2
     go_roundg kj4
     case measure => have := HK1.out; have := HJ4.out; omega
     case rel => exact ⟨(wrap64 (x1_1 - 1)), (x7_1 ++ (((strOfNums y219) ++ t225) ++ (⟨#[47]⟩ : ByteArray))), (t226), (t227), aP16, aP16, H', ⟨by have := HK1.out; have := HJ4.out; omega⟩, ⟨aP0⟩, ⟨aP1⟩, ⟨aP2⟩⟩
end Go.Proofs.Ytlelpomnblaciaa.PFnComposed
