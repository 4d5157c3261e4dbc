/- (thin) Written by a program of this session (wip/ovl.py) over the kit's print. -/
import Derived.Test.YtoagljlnfakgjaaPFnDiamondx0
import Derived.Test.YtoagljlnfakgjaaPFnDiamondx13
namespace Go.Proofs.Ytoagljlnfakgjaa.PFnDiamond
open Go.RowKit Go.Proofs.YtoagljlnfakgjaaW.PrintWords Go.Proofs.YtoagljlnfakgjaaW.PrintLast Go.Proofs.YtoagljlnfakgjaaW.PrintMore
attribute [local go_sem] max2_int min2_int max_two min_two max_three min_three max_four min_four
set_option linter.unusedVariables false
set_option linter.unusedSimpArgs false
mutual
def jB.l0 : Nat → Int → Int → ByteArray → List Int → Int → Int → Option (ByteArray × Int × Int)
 | 0, _, _, _, _, _, _ => none
 | k + 1, x1, x2, x7, x1000, x1001, x1002 => if x1 > 0 then (if x2 > 0 then ((yB.f x1000 x1001 x1002 3).bind fun bt285 => (jB.j1 k x1 x2 x7 bt285.1 x1000 bt285.2.1 bt285.2.2)) else (jB.j1 k x1 x2 x7 false x1000 x1001 x1002)) else (some (x7, x1001, x1002))
def jB.j1 : Nat → Int → Int → ByteArray → Bool → List Int → Int → Int → Option (ByteArray × Int × Int)
 | 0, _, _, _, _, _, _, _ => none
 | k + 1, x1, x2, x7, x17, x1000, x1001, x1002 => if x17 = true then ((jD.f x1000 x1001 x1002 4).bind fun bt288 => ((some (([(wrap64 (65 + bt288.1)) % 256] : List Int) : List Int)).bind fun y291 => ((jD.f x1000 bt288.2.1 bt288.2.2 4).bind fun bt294 => ((jB.f k x1000 bt294.2.1 bt294.2.2 bt294.1 (wrap64 (x2 - 1))).bind fun bt297 => (if (strOfNums y291).size + bt297.1.size ≤ 9223372036854775807 then (if ((strOfNums y291) ++ bt297.1).size + 1 ≤ 9223372036854775807 then (if x7.size + (((strOfNums y291) ++ bt297.1) ++ (⟨#[47]⟩ : ByteArray)).size ≤ 9223372036854775807 then (jB.l0 k (wrap64 (x1 - 1)) x2 (x7 ++ (((strOfNums y291) ++ bt297.1) ++ (⟨#[47]⟩ : ByteArray))) x1000 bt297.2.1 bt297.2.2) else (none)) else (none)) else (none)))))) else ((yK.f x1000 x1001 x1002 (([(⟨#[97]⟩ : ByteArray), (⟨#[98]⟩ : ByteArray), (⟨#[97, 98]⟩ : ByteArray), (⟨#[120]⟩ : ByteArray), (⟨#[32]⟩ : ByteArray), (⟨#[111, 110, 101]⟩ : ByteArray), (⟨#[49]⟩ : ByteArray), (⟨#[122, 46]⟩ : ByteArray)] : List ByteArray))).bind fun bt303 => (if x7.size + bt303.1.size ≤ 9223372036854775807 then (jB.l0 k (wrap64 (x1 - 1)) x2 (x7 ++ bt303.1) x1000 bt303.2.1 bt303.2.2) else (none)))
def jB.f : Nat → List Int → Int → Int → Int → Int → Option (ByteArray × Int × Int)
 | 0, _, _, _, _, _ => none
 | k + 1, s0_0, s0_1, s0_2, a1, a2 => jB.l0 k a1 a2 (⟨#[]⟩ : ByteArray) s0_0 s0_1 s0_2
end
theorem jB.mono_l : ∀ k, (∀ y0 y1 y2 y3 y4, LeO (jB.f k y0 y1 y2 y3 y4) (jB.f (k + 1) y0 y1 y2 y3 y4)) ∧ (∀ y0 y1 y2 y3 y4 y5, LeO (jB.l0 k y0 y1 y2 y3 y4 y5) (jB.l0 (k + 1) y0 y1 y2 y3 y4 y5)) ∧ (∀ y0 y1 y2 y3 y4 y5 y6, LeO (jB.j1 k y0 y1 y2 y3 y4 y5 y6) (jB.j1 (k + 1) y0 y1 y2 y3 y4 y5 y6))
 | 0 => ⟨fun _ _ _ _ _ r h => by simp [jB.f] at h, fun _ _ _ _ _ _ r h => by simp [jB.l0] at h, fun _ _ _ _ _ _ _ r h => by simp [jB.j1] at h⟩
 | k + 1 => by
  obtain ⟨ih0, ih1, ih2⟩ := jB.mono_l k
  refine ⟨?_, ?_, ?_⟩
  ·intro y0 y1 y2 y3 y4
   unfold jB.f
   repeat' (with_reducible first | apply ih0 | apply ih1 | apply ih2 | apply LeO.refl | apply LeO.none | apply LeO.ite | refine LeO.bind ?_ fun _ => ?_)
  ·intro y0 y1 y2 y3 y4 y5
   unfold jB.l0
   repeat' (with_reducible first | apply ih0 | apply ih1 | apply ih2 | apply LeO.refl | apply LeO.none | apply LeO.ite | refine LeO.bind ?_ fun _ => ?_)
  ·intro y0 y1 y2 y3 y4 y5 y6
   unfold jB.j1
   repeat' (with_reducible first | apply ih0 | apply ih1 | apply ih2 | apply LeO.refl | apply LeO.none | apply LeO.ite | refine LeO.bind ?_ fun _ => ?_)
theorem jB.mono : ∀ a0 a1 a2 a3 a4 k, LeO (jB.f k a0 a1 a2 a3 a4) (jB.f (k + 1) a0 a1 a2 a3 a4) := by
 intro a0 a1 a2 a3 a4 k
 obtain ⟨ih0, ih1, ih2⟩ := jB.mono_l k
 exact ih0 a0 a1 a2 a3 a4
def jB.T5 : Bool × List (List Nat × List Nat) := (true, [([], []), ([], []), ([1], [1]), ([2], [2]), ([3], [3]), ([4], [4]), ([5], [5]), ([], []), ([], []), ([8, 2], [8]), ([], []), ([10], [10]), ([7, 9, 11, 9], [7, 9, 11]), ([6, 12], [6, 12]), ([13], [13]), ([0, 14], [0, 14]), ([15, 12, 0, 1, 2, 3, 4, 5, 6, 7, 8, 9, 10, 11, 12, 13, 14, 15], [0, 15])])
def jB.B5 : List Nat := [0, 0, 2, 6, 14, 30, 62, 0, 0, 262, 0, 1024, 3974, 8190, 16382, 32767, 65535]
theorem jB.tab5 : rtab .any (opsOf Try.f85 5) = jB.T5 := by kernel_rfl
theorem jB.bits5 : waitsOk jB.T5.2 jB.B5 = true := by kernel_rfl
set_option maxHeartbeats 8000000 in
set_option maxRecDepth 100000 in
theorem jB.calls (k : Nat) : ∀ (g : Nat) (s0_0 : List Int) (s0_1 : Int) (s0_2 : Int) (a1 : Int) (a2 : Int) (r1 : ByteArray) (r2 : Int) (r3 : Int) (w0 w : World) (hI : IsS82 w0 w g s0_0 s0_1 s0_2) (hB : Below w0.heap.size w0 w) (h : jB.f k s0_0 s0_1 s0_2 a1 a2 = some (r1, r2, r3)),
  Calls Try.prog 85 #[.pointer (some ⟨g, 0, none⟩), .int .i64 a1, .int .i64 a2] w fun e w' => e = .returned (.string r1) ∧ IsS82 w0 w' g s0_0 r2 r3 ∧ Below w0.heap.size w0 w' ∧ KeepBut w w' g none := by
 induction k using Nat.strongRecOn with
 | _ k ih =>
 intro g s0_0 s0_1 s0_2 a1 a2 r1 r2 r3 w0 w hI hB h
 cases k with
 | zero => exact absurd h (by simp [jB.f])
 | succ k =>
 simp only [jB.f] at h
 have HI0 := aM hI
 have HK := aM (KeepBut.refl w g none)
 have HL := aM hB.size
 clear hI
 have HW0 := aM hB.size
 have HB := aM hB
 clear hB
 have H : (jB.l0 k a1 a2 (⟨#[]⟩ : ByteArray) s0_0 s0_1 s0_2) = some (r1, r2, r3) := h
 clear h
 have H' := aM H
 clear H
 go_enter Try.func85, Try.ntmps85
 go_wp2
 go_loopg [1, 7] k (fun kq v1 v7 w' => ∃ (x1_1 : Int) (x7_1 : ByteArray) (x1001_1 : Int) (x1002_1 : Int), v1 = .int .i64 x1_1 ∧ v7 = .string x7_1 ∧ Aside0 (jB.l0 kq x1_1 a2 x7_1 s0_0 x1001_1 x1002_1 = some (r1, r2, r3)) ∧ Aside0 (kq ≤ k) ∧ Aside0 (IsS82 w0 w' g s0_0 x1001_1 x1002_1) ∧ Aside0 (KeepBut w w' g none) ∧ Aside0 (Below w0.heap.size w0 w'))
 case atStart => exact ⟨(a1), ((⟨#[]⟩ : ByteArray)), (s0_1), (s0_2), aP19, aP19, H', ⟨Nat.le_refl _⟩, ⟨aP0⟩, ⟨aP1⟩, ⟨aP2⟩⟩
 case round =>
  clear H'
  obtain ⟨x1_1, x7_1, x1001_1, x1002_1, rfl, rfl, HA, HK1, HI0, HK, HB⟩ := hrel
  cases gk with
  | zero => exact absurd HA.out (by simp [jB.l0])
  | succ k1 => ?_
  have H := HA.out
  clear HA
  simp only [jB.l0] at H
  by_cases c4 : x1_1 > 0
  rotate_left
  ·rw [if_neg c4] at H
   have c4b0 : decide (0 < x1_1) = false := decide_eq_false c4
   clear c4
   simp only [Option.some.injEq, Prod.mk.injEq] at H
   obtain ⟨rfl, rfl, rfl⟩ := H
   go_wp2
   go_ret
   exact ⟨eR, by (try simp only [Int.add_zero]); exact aP0, by exact aP2, aP1⟩
  rw [if_pos c4] at H
  have c4b0 : decide (0 < x1_1) = true := decide_eq_true c4
  clear c4
  have HC5 := aM H
  clear H
  go_upto_region 4 with (fail)
  go_cut [17] (fun v17 wc => ∃ (kq : Nat) (x17_4 : Bool) (x1001_4 : Int) (x1002_4 : Int), v17 = .bool x17_4 ∧ Aside0 (jB.j1 kq x1_1 a2 x7_1 x17_4 s0_0 x1001_4 x1002_4 = some (r1, r2, r3)) ∧ Aside0 (kq ≤ k1) ∧ Aside0 (IsS82 w0 wc g s0_0 x1001_4 x1002_4) ∧ Aside0 (KeepBut w wc g none) ∧ Aside0 (Below w0.heap.size w0 wc))
  case first =>
   have H := HC5.out
   clear HC5
   by_cases c6 : a2 > 0
   rotate_left
   ·rw [if_neg c6] at H
    have c6b0 : decide (0 < a2) = false := decide_eq_false c6
    clear c6
    (first | rw [c6b0] | (simp only [i64_w, i32_w]; rw [c6b0]) | rw [c6e] | skip)
    have H' := aM H
    clear H
    go_wp2
    go_meet
    case rel => exact ⟨_, (false), (x1001_1), (x1002_1), aP19, H', ⟨by have := HK1.out; first | omega | exact Nat.le_refl _⟩, ⟨aP0⟩, ⟨aP1⟩, ⟨aP2⟩⟩
   rw [if_pos c6] at H
   have c6b0 : decide (0 < a2) = true := decide_eq_true c6
   clear c6
   (first | rw [c6b0] | (simp only [i64_w, i32_w]; rw [c6b0]) | rw [c6e] | skip)
   obtain ⟨⟨t285, t286, t287⟩, A7, H⟩ := bM H
   have H' := aM H
   clear H
   go_wp2_with (go_at_call 62; (with_reducible refine (yB.calls g s0_0 x1001_1 x1002_1 3 t285 t286 t287 w0 _ ?s1 ?s2 A7.out).mono ?_); (case s1 => exact aP0); (case s2 => exact aP2); rintro e w8 ⟨rfl, hi, hb, hk⟩; replace HK := aM (KeepBut.trans aP1 hk (.inl rfl)); replace HB := aM (hb); replace HI0 := aM (hi); clear hb hk hi)
   go_meet
   case rel => exact ⟨_, (t285), (t286), (t287), aP19, H', ⟨by have := HK1.out; first | omega | exact Nat.le_refl _⟩, ⟨aP0⟩, ⟨aP1⟩, ⟨aP2⟩⟩
  clear HC5
  try clear c4
  try clear c4b0
  obtain ⟨kq, x17_4, x1001_4, x1002_4, rfl, HA, HJ4, HI0, HK, HB⟩ := hcut
  cases kq with
  | zero => exact absurd HA.out (by simp [jB.j1])
  | succ kj4 => ?_
  have H := HA.out
  clear HA
  simp only [jB.j1] at H
  by_cases c9 : x17_4 = true
  rotate_left
  ·replace c9 := Bool.eq_false_iff.mpr c9
   subst c9
   replace H := fF H
   (try replace H := bS H)
   generalize Ny300 : (([(⟨#[97]⟩ : ByteArray), (⟨#[98]⟩ : ByteArray), (⟨#[97, 98]⟩ : ByteArray), (⟨#[120]⟩ : ByteArray), (⟨#[32]⟩ : ByteArray), (⟨#[111, 110, 101]⟩ : ByteArray), (⟨#[49]⟩ : ByteArray), (⟨#[122, 46]⟩ : ByteArray)] : List ByteArray)) = y300 at H
   replace Ny300 := aM Ny300.symm
   obtain ⟨⟨t303, t304, t305⟩, A24, H⟩ := bM H
   obtain ⟨c25, H⟩ := gD H
   have c25b0 := eq_true c25
   have c25b1 : decide (x7_1.size + t303.size ≤ 9223372036854775807) = true := decide_eq_true c25
   try have c25b2 : (9223372036854775807 < x7_1.size + t303.size) = False := eq_false (Nat.not_lt.2 c25)
   have H' := aM H
   clear H
   go_wp2_with (first | ((with_reducible refine gate_dst (N := 36) rfl ?_); refine Kd.R_lit Kd.string _ 9 ?hg (N := 36) ?hd (xs := ([(⟨#[97]⟩ : ByteArray), (⟨#[98]⟩ : ByteArray), (⟨#[97, 98]⟩ : ByteArray), (⟨#[120]⟩ : ByteArray), (⟨#[32]⟩ : ByteArray), (⟨#[111, 110, 101]⟩ : ByteArray), (⟨#[49]⟩ : ByteArray), (⟨#[122, 46]⟩ : ByteArray)] : List ByteArray)) (inner := [.string (⟨#[97]⟩ : ByteArray), .string (⟨#[98]⟩ : ByteArray), .string (⟨#[97, 98]⟩ : ByteArray), .string (⟨#[120]⟩ : ByteArray), .string (⟨#[32]⟩ : ByteArray), .string (⟨#[111, 110, 101]⟩ : ByteArray), .string (⟨#[49]⟩ : ByteArray), .string (⟨#[122, 46]⟩ : ByteArray)]) (ok := fun _ => True) (okp := fun _ => True) ?hr ?hp (fun _ hk => hk) trivial (Below.refl _ _) (Nat.le_refl _) (by simp) ?_; (case hd => rfl); (case hg => rfl); (case hr => exact aP38); (case hp => exact (Reps.one (show Kd.M Kd.string _ _ _ (⟨#[97]⟩ : ByteArray) [.string (⟨#[97]⟩ : ByteArray)] from rfl) (Reps.one (show Kd.M Kd.string _ _ _ (⟨#[98]⟩ : ByteArray) [.string (⟨#[98]⟩ : ByteArray)] from rfl) (Reps.one (show Kd.M Kd.string _ _ _ (⟨#[97, 98]⟩ : ByteArray) [.string (⟨#[97, 98]⟩ : ByteArray)] from rfl) (Reps.one (show Kd.M Kd.string _ _ _ (⟨#[120]⟩ : ByteArray) [.string (⟨#[120]⟩ : ByteArray)] from rfl) (Reps.one (show Kd.M Kd.string _ _ _ (⟨#[32]⟩ : ByteArray) [.string (⟨#[32]⟩ : ByteArray)] from rfl) (Reps.one (show Kd.M Kd.string _ _ _ (⟨#[111, 110, 101]⟩ : ByteArray) [.string (⟨#[111, 110, 101]⟩ : ByteArray)] from rfl) (Reps.one (show Kd.M Kd.string _ _ _ (⟨#[49]⟩ : ByteArray) [.string (⟨#[49]⟩ : ByteArray)] from rfl) (Reps.one (show Kd.M Kd.string _ _ _ (⟨#[122, 46]⟩ : ByteArray) [.string (⟨#[122, 46]⟩ : ByteArray)] from rfl) (Reps.none _ _)))))))))); intro v301 w26 ho27 hb hg_ hnew_; clear hg_ hnew_; (first | rw [← Ny300.out] at ho27 | (simp only [Int.reduceToNat] at ho27; rw [← Ny300.out] at ho27)); have HO302 := aM (Kd.R_lower ho27 (keep_size (w := w) (g := g) (row := none) aP1)); replace HI0 := aM (IsS82.below aP0 hb); replace HK := aM (KeepBut.trans aP1 (KeepBut.of_below hb g none) (.inl rfl)); replace HB := aM (below_step aP2 hb); clear hb ho27; obtain ⟨Ao28, co28, eo28⟩ := Kd.R_slice HO302.out; subst eo28) | ((with_reducible refine gate_callee (f := 80) rfl ?_); refine gL 37 Try.func80 #[.pointer (some ⟨g, 0, none⟩), .slice Ao28 y300.length co28] ?_; (with_reducible refine (yK.calls g s0_0 x1001_4 x1002_4 _ _ y300 t303 t304 t305 w0 _ ?s1 ?s2 ?s3 ?s4 ?s5 A24.out).mono ?_); (case s1 => exact aP0); (case s2 => exact aP2); (case s3 => exact cC ((Kd.R_reads' HO302.out).2.2)); (case s4 => exact (Kd.R_reads' HO302.out).2.1); (case s5 => exact far_slice (IsS82.own_ne HI0.out HO302.out (by decide))); rintro e w29 ⟨rfl, hi, hb, hk⟩; refine ⟨_, rfl, ?_⟩; replace HO302 := aM (Kd.R_mono (Kd.R_keep (IsS82.apart (show IsS82 w0 _ g s0_0 x1001_4 x1002_4 from aP0) (rR HO302.out) (by decide)) hk (fun _ h => h.2)) (fun _ h => h.1)); replace HK := aM (KeepBut.trans aP1 hk (.inl rfl)); replace HB := aM (hb); replace HI0 := aM (hi); clear hb hk hi))
   go_roundg kj4
   case measure => have := HK1.out; have := HJ4.out; omega
   case rel => exact ⟨(wrap64 (x1_1 - 1)), (x7_1 ++ t303), (t304), (t305), aP19, aP19, H', ⟨by have := HK1.out; have := HJ4.out; omega⟩, ⟨aP0⟩, ⟨aP1⟩, ⟨aP2⟩⟩
  subst c9
  rw [if_pos rfl] at H
  obtain ⟨⟨t288, t289, t290⟩, A10, H⟩ := bM H
  (try replace H := bS H)
  generalize Ny291 : (([(wrap64 (65 + t288)) % 256] : List Int)) = y291 at H
  replace Ny291 := aM Ny291.symm
  obtain ⟨⟨t294, t295, t296⟩, A11, H⟩ := bM H
  obtain ⟨⟨t297, t298, t299⟩, A12, H⟩ := bM H
  obtain ⟨c13, H⟩ := gD H
  have c13b0 := eq_true c13
  have c13b1 : decide ((strOfNums y291).size + t297.size ≤ 9223372036854775807) = true := decide_eq_true c13
  try have c13b2 : (9223372036854775807 < (strOfNums y291).size + t297.size) = False := eq_false (Nat.not_lt.2 c13)
  obtain ⟨c14, H⟩ := gD H
  have c14b0 := eq_true c14
  have c14b1 : decide (((strOfNums y291) ++ t297).size + 1 ≤ 9223372036854775807) = true := decide_eq_true c14
  try have c14b2 : (9223372036854775807 < ((strOfNums y291) ++ t297).size + 1) = False := eq_false (Nat.not_lt.2 c14)
  try have c14s := eq_false (Nat.not_lt.2 c14)
  try simp only [ByteArray.size_append] at c14s
  obtain ⟨c15, H⟩ := gD H
  have c15b0 := eq_true c15
  have c15b1 : decide (x7_1.size + (((strOfNums y291) ++ t297) ++ (⟨#[47]⟩ : ByteArray)).size ≤ 9223372036854775807) = true := decide_eq_true c15
  try have c15b2 : (9223372036854775807 < x7_1.size + (((strOfNums y291) ++ t297) ++ (⟨#[47]⟩ : ByteArray)).size) = False := eq_false (Nat.not_lt.2 c15)
  try have c15s := eq_false (Nat.not_lt.2 c15)
  try simp only [ByteArray.size_append] at c15s
  try have c15t := eq_false (Nat.not_lt.2 c15)
  try simp only [ByteArray.size_append, show (⟨#[47]⟩ : ByteArray).size = 1 from rfl] at c15t
  have H' := aM H
  clear H
  try go_wp2
  replace HI0 := aM (IsS82.drew HI0.out)
  replace HK := aM (keep_drew HK.out)
  replace HB := aM (below_drew1 HB.out)
  refine start_ (n := 17) (S := fun w' => True) (ds := []) (Array.replicate 17 false) (by kernel_rfl) rfl rfl trivial (fun hHeld => ?_); refine with_tabW jB.tab5 jB.bits5 (fun HT_ HW_ => ?_)
  generalize wc.drew = w16 at HI0 HK HB hHeld ⊢
  refine pV 0 18 (bN 17 1) ?_
  refine pV 1 19 (bN 17 3) ?_
  refine pV 7 25 (bN 17 131) ?_
  refine pV 8 26 (bN 17 387) ?_
  refine pV 10 28 (bN 17 1411) ?_
  refine pV 11 29 (bN 17 3459) ?_
  refine one_ (i := 2) (N := some 20) (bN 17 3463) rfl rfl (one_of HT_.out (by kernel_rfl)) (by decide) (fun K hK => ?_)
  refine goes_ Try.func60 (by kernel_rfl) rfl #[.pointer (some ⟨g, 0, none⟩), .int .i64 4] (by rfl) rfl rfl mM ?_
  with_reducible refine (jD.calls g s0_0 x1001_4 x1002_4 4 t288 t289 t290 w0 _ ?s1 ?s2 A10.out).mono ?_
  (case s1 => exact aP0)
  (case s2 => exact aP2)
  rintro e w17 ⟨rfl, hi, hb, hk⟩
  refine ⟨_, rfl, ?_⟩
  replace HK := aM (KeepBut.trans aP1 hk (.inl rfl))
  replace HB := aM (hb)
  replace HI0 := aM (hi)
  (try clear hb)
  (try clear hb2)
  (try clear hk)
  (try clear hi)
  refine hK.out _ _ trivial (fun hHeld => ?_)
  clear hK K
  refine norm_ (a' := ?_) ?_ ?_
  rotate_left
  ·show Act.put _ (some 20) _ = _
   simp only [Act.put, List.setIfInBounds_toArray, List.set_cons_zero, List.set_cons_succ, i64_w, i32_w]
   rfl
  refine pV 3 21 (bN 17 3471) ?_
  refine pV 4 22 (bN 17 3487) ?_
  refine join_ (σ := Value) 4 (bN 17 8191) (fun s_ => [(23, s_), (24, .string (strOfNums y291)), (27, .int .i64 t294), (30, .string t297)]) (fun s_ w' => (Kd.R (Kd.int .u8) 5 w' w.heap.size (fun _ => True) s_ y291) ∧ (IsS82 w0 w' g s0_0 t298 t299) ∧ (KeepBut w w' g none) ∧ (Below w0.heap.size w0 w')) ?_ ?_
  rotate_left
  ·intro hJ5_6_9_12
   refine join_ (σ := Value) 5 (bN 17 4095) (fun s_ => [(23, s_), (24, .string (strOfNums y291)), (27, .int .i64 t294)]) (fun s_ w' => (Kd.R (Kd.int .u8) 5 w' w.heap.size (fun _ => True) s_ y291) ∧ (IsS82 w0 w' g s0_0 t295 t296) ∧ (KeepBut w w' g none) ∧ (Below w0.heap.size w0 w')) ?_ ?_
   rotate_left
   rotate_left
   ·skip
    rintro v292 w22 ⟨h0_, h1_, h2_, h3_⟩
    have n0_ : Aside0 (Kd.R (Kd.int .u8) 5 w22 w.heap.size (fun _ => True) v292 y291) := ⟨h0_⟩
    have n1_ : Aside0 (IsS82 w0 w22 g s0_0 t295 t296) := ⟨h1_⟩
    have n2_ : Aside0 (KeepBut w w22 g none) := ⟨h2_⟩
    have n3_ : Aside0 (Below w0.heap.size w0 w22) := ⟨h3_⟩
    clear HI0
    clear HK
    clear HB
    clear h0_ h1_ h2_ h3_
    have HO293 := n0_
    have HI0 := n1_
    have HK := n2_
    have HB := n3_
    clear n0_ n1_ n2_ n3_
    have hHeld := trivial
    refine norm_ (a' := ?_) ?_ ?_
    rotate_left
    ·simp only [putAll, Act.put, List.setIfInBounds_toArray, List.set_cons_zero, List.set_cons_succ]
     rfl
    refine one_ (i := 12) (N := some 30) (bN 17 8191) rfl rfl (one_of HT_.out (by kernel_rfl)) (by decide) (fun K hK => ?_)
    refine goes_ Try.func85 (by kernel_rfl) rfl #[.pointer (some ⟨g, 0, none⟩), .int .i64 t294, .int .i64 (wrap64 (a2 - 1))] (by rfl) rfl rfl mM ?_
    with_reducible refine (ih kj4 (by have := HK1.out; have := HJ4.out; omega) g s0_0 t295 t296 t294 (wrap64 (a2 - 1)) t297 t298 t299 w0 _ ?s1 ?s2 A12.out).mono ?_
    (case s1 => exact aP0)
    (case s2 => exact aP2)
    rintro e w23 ⟨rfl, hi, hb, hk⟩
    refine ⟨_, rfl, ?_⟩
    replace HO293 := aM (Kd.R_mono (Kd.R_keep (IsS82.apart (show IsS82 w0 _ g s0_0 t295 t296 from aP0) (rR HO293.out) (by decide)) hk (fun _ h => h.2)) (fun _ h => h.1))
    replace HK := aM (KeepBut.trans aP1 hk (.inl rfl))
    replace HB := aM (hb)
    replace HI0 := aM (hi)
    (try clear hb)
    (try clear hb2)
    (try clear hk)
    (try clear hi)
    refine hK.out _ _ trivial (fun hHeld => ?_)
    clear hK K
    refine norm_ (a' := ?_) ?_ ?_
    rotate_left
    ·show Act.put _ (some 30) _ = _
     simp only [Act.put, List.setIfInBounds_toArray, List.set_cons_zero, List.set_cons_succ, i64_w, i32_w]
     rfl
    exact norm_ aP20 (hJ5_6_9_12 (v292) _ ⟨(rR HO293.out), aP0, aP1, aP2⟩)
   intro hJ5_6_9
   refine join_ (σ := Value) 5 (bN 17 8127) (fun s_ => [(23, s_), (27, .int .i64 t294), (30, .string t297)]) (fun s_ w' => (Kd.R (Kd.int .u8) 5 w' w.heap.size (fun _ => True) s_ y291) ∧ (IsS82 w0 w' g s0_0 t298 t299) ∧ (KeepBut w w' g none) ∧ (Below w0.heap.size w0 w')) ?_ ?_
   rotate_left
   rotate_left
   ·skip
    rintro v292 w22 ⟨h0_, h1_, h2_, h3_⟩
    have n0_ : Aside0 (Kd.R (Kd.int .u8) 5 w22 w.heap.size (fun _ => True) v292 y291) := ⟨h0_⟩
    have n1_ : Aside0 (IsS82 w0 w22 g s0_0 t298 t299) := ⟨h1_⟩
    have n2_ : Aside0 (KeepBut w w22 g none) := ⟨h2_⟩
    have n3_ : Aside0 (Below w0.heap.size w0 w22) := ⟨h3_⟩
    clear HI0
    clear HK
    clear HB
    clear h0_ h1_ h2_ h3_
    have HO293 := n0_
    have HI0 := n1_
    have HK := n2_
    have HB := n3_
    clear n0_ n1_ n2_ n3_
    have hHeld := trivial
    refine norm_ (a' := ?_) ?_ ?_
    rotate_left
    ·simp only [putAll, Act.put, List.setIfInBounds_toArray, List.set_cons_zero, List.set_cons_succ]
     rfl
    refine one_ (i := 6) (N := some 24) (bN 17 8191) rfl rfl (one_of HT_.out (by kernel_rfl)) (by decide) (fun K hK => ?_)
    have hcv23 := own_string (P := Try.prog) Try.underlying44 Try.underlying5 Try.underlying9 (Kd.own_of_R HO293.out)
    refine value_ (w1 := ?_) (v := ?_) (by rfl) rfl ?_ ?_
    rotate_left 2
    ·go_simp
     constructor
     ·rfl
     rfl
    clear hcv23
    refine hK.out _ _ trivial (fun hHeld => ?_)
    clear hK K
    refine norm_ (a' := ?_) ?_ ?_
    rotate_left
    ·show Act.put _ (some 24) _ = _
     simp only [Act.put, List.setIfInBounds_toArray, List.set_cons_zero, List.set_cons_succ, i64_w, i32_w]
     rfl
    exact norm_ aP20 (hJ5_6_9_12 (v292) _ ⟨(rR HO293.out), aP0, aP1, aP2⟩)
   intro hJ5_9_12
   refine join_ (σ := Value) 6 (bN 17 3583) (fun s_ => [(23, s_), (24, .string (strOfNums y291))]) (fun s_ w' => (Kd.R (Kd.int .u8) 5 w' w.heap.size (fun _ => True) s_ y291) ∧ (IsS82 w0 w' g s0_0 t289 t290) ∧ (KeepBut w w' g none) ∧ (Below w0.heap.size w0 w')) ?_ ?_
   rotate_left
   rotate_left
   ·skip
    rintro v292 w21 ⟨h0_, h1_, h2_, h3_⟩
    have n0_ : Aside0 (Kd.R (Kd.int .u8) 5 w21 w.heap.size (fun _ => True) v292 y291) := ⟨h0_⟩
    have n1_ : Aside0 (IsS82 w0 w21 g s0_0 t289 t290) := ⟨h1_⟩
    have n2_ : Aside0 (KeepBut w w21 g none) := ⟨h2_⟩
    have n3_ : Aside0 (Below w0.heap.size w0 w21) := ⟨h3_⟩
    clear HI0
    clear HK
    clear HB
    clear h0_ h1_ h2_ h3_
    have HO293 := n0_
    have HI0 := n1_
    have HK := n2_
    have HB := n3_
    clear n0_ n1_ n2_ n3_
    have hHeld := trivial
    refine norm_ (a' := ?_) ?_ ?_
    rotate_left
    ·simp only [putAll, Act.put, List.setIfInBounds_toArray, List.set_cons_zero, List.set_cons_succ]
     rfl
    refine one_ (i := 9) (N := some 27) (bN 17 4095) rfl rfl (one_of HT_.out (by kernel_rfl)) (by decide) (fun K hK => ?_)
    refine goes_ Try.func60 (by kernel_rfl) rfl #[.pointer (some ⟨g, 0, none⟩), .int .i64 4] (by rfl) rfl rfl mM ?_
    with_reducible refine (jD.calls g s0_0 t289 t290 4 t294 t295 t296 w0 _ ?s1 ?s2 A11.out).mono ?_
    (case s1 => exact aP0)
    (case s2 => exact aP2)
    rintro e w22 ⟨rfl, hi, hb, hk⟩
    refine ⟨_, rfl, ?_⟩
    replace HO293 := aM (Kd.R_mono (Kd.R_keep (IsS82.apart (show IsS82 w0 _ g s0_0 t289 t290 from aP0) (rR HO293.out) (by decide)) hk (fun _ h => h.2)) (fun _ h => h.1))
    replace HK := aM (KeepBut.trans aP1 hk (.inl rfl))
    replace HB := aM (hb)
    replace HI0 := aM (hi)
    (try clear hb)
    (try clear hb2)
    (try clear hk)
    (try clear hi)
    refine hK.out _ _ trivial (fun hHeld => ?_)
    clear hK K
    refine norm_ (a' := ?_) ?_ ?_
    rotate_left
    ·show Act.put _ (some 27) _ = _
     simp only [Act.put, List.setIfInBounds_toArray, List.set_cons_zero, List.set_cons_succ, i64_w, i32_w]
     rfl
    exact norm_ aP20 (hJ5_6_9 (v292) _ ⟨(rR HO293.out), aP0, aP1, aP2⟩)
   intro hJ5_6
   refine join_ (σ := Value) 6 (bN 17 4031) (fun s_ => [(23, s_), (27, .int .i64 t294)]) (fun s_ w' => (Kd.R (Kd.int .u8) 5 w' w.heap.size (fun _ => True) s_ y291) ∧ (IsS82 w0 w' g s0_0 t295 t296) ∧ (KeepBut w w' g none) ∧ (Below w0.heap.size w0 w')) ?_ ?_
   rotate_left
   rotate_left
   ·skip
    rintro v292 w21 ⟨h0_, h1_, h2_, h3_⟩
    have n0_ : Aside0 (Kd.R (Kd.int .u8) 5 w21 w.heap.size (fun _ => True) v292 y291) := ⟨h0_⟩
    have n1_ : Aside0 (IsS82 w0 w21 g s0_0 t295 t296) := ⟨h1_⟩
    have n2_ : Aside0 (KeepBut w w21 g none) := ⟨h2_⟩
    have n3_ : Aside0 (Below w0.heap.size w0 w21) := ⟨h3_⟩
    clear HI0
    clear HK
    clear HB
    clear h0_ h1_ h2_ h3_
    have HO293 := n0_
    have HI0 := n1_
    have HK := n2_
    have HB := n3_
    clear n0_ n1_ n2_ n3_
    have hHeld := trivial
    refine norm_ (a' := ?_) ?_ ?_
    rotate_left
    ·simp only [putAll, Act.put, List.setIfInBounds_toArray, List.set_cons_zero, List.set_cons_succ]
     rfl
    refine two_ (i := 6) (j := 12) (Ni := some 24) (Nj := some 30) (bN 17 4095) (bN 17 8127) rfl rfl rfl rfl (two_of HT_.out (by kernel_rfl)) (by decide) (by decide) (fun K hK => ?_) (fun K hK => ?_)
    ·skip
     have hcv22 := own_string (P := Try.prog) Try.underlying44 Try.underlying5 Try.underlying9 (Kd.own_of_R HO293.out)
     refine value_ (w1 := ?_) (v := ?_) (by rfl) rfl ?_ ?_
     rotate_left 2
     ·go_simp
      constructor
      ·rfl
      rfl
     clear hcv22
     refine hK.out _ _ trivial (fun hHeld => ?_)
     clear hK K
     refine norm_ (a' := ?_) ?_ ?_
     rotate_left
     ·show Act.put _ (some 24) _ = _
      simp only [Act.put, List.setIfInBounds_toArray, List.set_cons_zero, List.set_cons_succ, i64_w, i32_w]
      rfl
     exact norm_ aP20 (hJ5_6_9 (v292) _ ⟨(rR HO293.out), aP0, aP1, aP2⟩)
    skip
    refine goes_ Try.func85 (by kernel_rfl) rfl #[.pointer (some ⟨g, 0, none⟩), .int .i64 t294, .int .i64 (wrap64 (a2 - 1))] (by rfl) rfl rfl mM ?_
    with_reducible refine (ih kj4 (by have := HK1.out; have := HJ4.out; omega) g s0_0 t295 t296 t294 (wrap64 (a2 - 1)) t297 t298 t299 w0 _ ?s1 ?s2 A12.out).mono ?_
    (case s1 => exact aP0)
    (case s2 => exact aP2)
    rintro e w22 ⟨rfl, hi, hb, hk⟩
    refine ⟨_, rfl, ?_⟩
    replace HO293 := aM (Kd.R_mono (Kd.R_keep (IsS82.apart (show IsS82 w0 _ g s0_0 t295 t296 from aP0) (rR HO293.out) (by decide)) hk (fun _ h => h.2)) (fun _ h => h.1))
    replace HK := aM (KeepBut.trans aP1 hk (.inl rfl))
    replace HB := aM (hb)
    replace HI0 := aM (hi)
    (try clear hb)
    (try clear hb2)
    (try clear hk)
    (try clear hi)
    refine hK.out _ _ trivial (fun hHeld => ?_)
    clear hK K
    refine norm_ (a' := ?_) ?_ ?_
    rotate_left
    ·show Act.put _ (some 30) _ = _
     simp only [Act.put, List.setIfInBounds_toArray, List.set_cons_zero, List.set_cons_succ, i64_w, i32_w]
     rfl
    exact norm_ aP20 (hJ5_9_12 (v292) _ ⟨(rR HO293.out), aP0, aP1, aP2⟩)
   intro hJ5_9
   refine join_ (σ := Unit) 6 (bN 17 8095) (fun s_ => [(27, .int .i64 t294), (30, .string t297)]) (fun s_ w' => (IsS82 w0 w' g s0_0 t298 t299) ∧ (KeepBut w w' g none) ∧ (Below w0.heap.size w0 w')) ?_ ?_
   rotate_left
   rotate_left
   ·skip
    rintro _ w20 ⟨h0_, h1_, h2_⟩
    have n0_ : Aside0 (IsS82 w0 w20 g s0_0 t298 t299) := ⟨h0_⟩
    have n1_ : Aside0 (KeepBut w w20 g none) := ⟨h1_⟩
    have n2_ : Aside0 (Below w0.heap.size w0 w20) := ⟨h2_⟩
    clear HI0
    clear HK
    clear HB
    clear h0_ h1_ h2_
    have HI0 := n0_
    have HK := n1_
    have HB := n2_
    clear n0_ n1_ n2_
    have hHeld := trivial
    refine norm_ (a' := ?_) ?_ ?_
    rotate_left
    ·simp only [putAll, Act.put, List.setIfInBounds_toArray, List.set_cons_zero, List.set_cons_succ]
     rfl
    refine one_ (i := 5) (N := some 23) (bN 17 8127) rfl rfl (one_of HT_.out (by kernel_rfl)) (by decide) (fun K hK => ?_)
    refine Kd.R_lit_step (Kd.int .u8) _ 5 ?hg (N := 23) ?hd (xs := ([(wrap64 (65 + t288)) % 256] : List Int)) (inner := [.int .u8 ((wrap64 (65 + t288)) % 256)]) (ok := fun _ => True) (okp := fun _ => True) ?hr ?hp (fun _ hk => hk) trivial (Below.refl _ _) (Nat.le_refl _) (by simp) ?_; (case hd => rfl); (case hg => rfl); (case hr => exact aP38); (case hp => exact (Reps.one (show Kd.M (Kd.int .u8) _ _ _ ((wrap64 (65 + t288)) % 256) [.int .u8 ((wrap64 (65 + t288)) % 256)] from rfl) (Reps.none _ _)))
    intro v292 w21 ho22 hb hg_ hnew_
    clear hg_ hnew_
    (first | rw [← Ny291.out] at ho22 | (simp only [Int.reduceToNat] at ho22; rw [← Ny291.out] at ho22))
    replace HO293 := aM (Kd.R_lower ho22 (keep_size (w := w) (g := g) (row := none) aP1))
    replace HI0 := aM (IsS82.below aP0 hb)
    replace HK := aM (KeepBut.trans aP1 (KeepBut.of_below hb g none) (.inl rfl))
    replace HB := aM (below_step aP2 hb)
    clear hb ho22
    refine hK.out _ _ trivial (fun hHeld => ?_)
    clear hK K
    refine norm_ (a' := ?_) ?_ ?_
    rotate_left
    ·show Act.put _ (some 23) _ = _
     simp only [Act.put, List.setIfInBounds_toArray, List.set_cons_zero, List.set_cons_succ, i64_w, i32_w]
     rfl
    exact norm_ aP20 (hJ5_9_12 (v292) _ ⟨(rR HO293.out), aP0, aP1, aP2⟩)
   intro hJ9_12
   refine join_ (σ := Value) 7 (bN 17 3519) (fun s_ => [(23, s_)]) (fun s_ w' => (Kd.R (Kd.int .u8) 5 w' w.heap.size (fun _ => True) s_ y291) ∧ (IsS82 w0 w' g s0_0 t289 t290) ∧ (KeepBut w w' g none) ∧ (Below w0.heap.size w0 w')) ?_ ?_
   rotate_left
   rotate_left
   ·skip
    rintro v292 w20 ⟨h0_, h1_, h2_, h3_⟩
    have n0_ : Aside0 (Kd.R (Kd.int .u8) 5 w20 w.heap.size (fun _ => True) v292 y291) := ⟨h0_⟩
    have n1_ : Aside0 (IsS82 w0 w20 g s0_0 t289 t290) := ⟨h1_⟩
    have n2_ : Aside0 (KeepBut w w20 g none) := ⟨h2_⟩
    have n3_ : Aside0 (Below w0.heap.size w0 w20) := ⟨h3_⟩
    clear HI0
    clear HK
    clear HB
    clear h0_ h1_ h2_ h3_
    have HO293 := n0_
    have HI0 := n1_
    have HK := n2_
    have HB := n3_
    clear n0_ n1_ n2_ n3_
    have hHeld := trivial
    refine norm_ (a' := ?_) ?_ ?_
    rotate_left
    ·simp only [putAll, Act.put, List.setIfInBounds_toArray, List.set_cons_zero, List.set_cons_succ]
     rfl
    refine two_ (i := 6) (j := 9) (Ni := some 24) (Nj := some 27) (bN 17 3583) (bN 17 4031) rfl rfl rfl rfl (two_of HT_.out (by kernel_rfl)) (by decide) (by decide) (fun K hK => ?_) (fun K hK => ?_)
    ·skip
     have hcv21 := own_string (P := Try.prog) Try.underlying44 Try.underlying5 Try.underlying9 (Kd.own_of_R HO293.out)
     refine value_ (w1 := ?_) (v := ?_) (by rfl) rfl ?_ ?_
     rotate_left 2
     ·go_simp
      constructor
      ·rfl
      rfl
     clear hcv21
     refine hK.out _ _ trivial (fun hHeld => ?_)
     clear hK K
     refine norm_ (a' := ?_) ?_ ?_
     rotate_left
     ·show Act.put _ (some 24) _ = _
      simp only [Act.put, List.setIfInBounds_toArray, List.set_cons_zero, List.set_cons_succ, i64_w, i32_w]
      rfl
     exact norm_ aP20 (hJ5_6 (v292) _ ⟨(rR HO293.out), aP0, aP1, aP2⟩)
    skip
    refine goes_ Try.func60 (by kernel_rfl) rfl #[.pointer (some ⟨g, 0, none⟩), .int .i64 4] (by rfl) rfl rfl mM ?_
    with_reducible refine (jD.calls g s0_0 t289 t290 4 t294 t295 t296 w0 _ ?s1 ?s2 A11.out).mono ?_
    (case s1 => exact aP0)
    (case s2 => exact aP2)
    rintro e w21 ⟨rfl, hi, hb, hk⟩
    refine ⟨_, rfl, ?_⟩
    replace HO293 := aM (Kd.R_mono (Kd.R_keep (IsS82.apart (show IsS82 w0 _ g s0_0 t289 t290 from aP0) (rR HO293.out) (by decide)) hk (fun _ h => h.2)) (fun _ h => h.1))
    replace HK := aM (KeepBut.trans aP1 hk (.inl rfl))
    replace HB := aM (hb)
    replace HI0 := aM (hi)
    (try clear hb)
    (try clear hb2)
    (try clear hk)
    (try clear hi)
    refine hK.out _ _ trivial (fun hHeld => ?_)
    clear hK K
    refine norm_ (a' := ?_) ?_ ?_
    rotate_left
    ·show Act.put _ (some 27) _ = _
     simp only [Act.put, List.setIfInBounds_toArray, List.set_cons_zero, List.set_cons_succ, i64_w, i32_w]
     rfl
    exact norm_ aP20 (hJ5_9 (v292) _ ⟨(rR HO293.out), aP0, aP1, aP2⟩)
   intro hJ5
   refine join_ (σ := Unit) 7 (bN 17 3999) (fun s_ => [(27, .int .i64 t294)]) (fun s_ w' => (IsS82 w0 w' g s0_0 t295 t296) ∧ (KeepBut w w' g none) ∧ (Below w0.heap.size w0 w')) ?_ ?_
   rotate_left
   ·intro hJ9
    refine two_ (i := 5) (j := 9) (Ni := some 23) (Nj := some 27) (bN 17 3519) (bN 17 3999) rfl rfl rfl rfl (two_of HT_.out (by kernel_rfl)) (by decide) (by decide) (fun K hK => ?_) (fun K hK => ?_)
    rotate_left
    ·skip
     refine goes_ Try.func60 (by kernel_rfl) rfl #[.pointer (some ⟨g, 0, none⟩), .int .i64 4] (by rfl) rfl rfl mM ?_
     with_reducible refine (jD.calls g s0_0 t289 t290 4 t294 t295 t296 w0 _ ?s1 ?s2 A11.out).mono ?_
     (case s1 => exact aP0)
     (case s2 => exact aP2)
     rintro e w18 ⟨rfl, hi, hb, hk⟩
     refine ⟨_, rfl, ?_⟩
     replace HK := aM (KeepBut.trans aP1 hk (.inl rfl))
     replace HB := aM (hb)
     replace HI0 := aM (hi)
     (try clear hb)
     (try clear hb2)
     (try clear hk)
     (try clear hi)
     refine hK.out _ _ trivial (fun hHeld => ?_)
     clear hK K
     refine norm_ (a' := ?_) ?_ ?_
     rotate_left
     ·show Act.put _ (some 27) _ = _
      simp only [Act.put, List.setIfInBounds_toArray, List.set_cons_zero, List.set_cons_succ, i64_w, i32_w]
      rfl
     exact norm_ aP20 (hJ9 () _ ⟨aP0, aP1, aP2⟩)
    skip
    refine Kd.R_lit_step (Kd.int .u8) _ 5 ?hg (N := 23) ?hd (xs := ([(wrap64 (65 + t288)) % 256] : List Int)) (inner := [.int .u8 ((wrap64 (65 + t288)) % 256)]) (ok := fun _ => True) (okp := fun _ => True) ?hr ?hp (fun _ hk => hk) trivial (Below.refl _ _) (Nat.le_refl _) (by simp) ?_; (case hd => rfl); (case hg => rfl); (case hr => exact aP38); (case hp => exact (Reps.one (show Kd.M (Kd.int .u8) _ _ _ ((wrap64 (65 + t288)) % 256) [.int .u8 ((wrap64 (65 + t288)) % 256)] from rfl) (Reps.none _ _)))
    intro v292 w18 ho19 hb hg_ hnew_
    clear hg_ hnew_
    (first | rw [← Ny291.out] at ho19 | (simp only [Int.reduceToNat] at ho19; rw [← Ny291.out] at ho19))
    replace HO293 := aM (Kd.R_lower ho19 (keep_size (w := w) (g := g) (row := none) aP1))
    replace HI0 := aM (IsS82.below aP0 hb)
    replace HK := aM (KeepBut.trans aP1 (KeepBut.of_below hb g none) (.inl rfl))
    replace HB := aM (below_step aP2 hb)
    clear hb ho19
    refine hK.out _ _ trivial (fun hHeld => ?_)
    clear hK K
    refine norm_ (a' := ?_) ?_ ?_
    rotate_left
    ·show Act.put _ (some 23) _ = _
     simp only [Act.put, List.setIfInBounds_toArray, List.set_cons_zero, List.set_cons_succ, i64_w, i32_w]
     rfl
    exact norm_ aP20 (hJ5 (v292) _ ⟨(rR HO293.out), aP0, aP1, aP2⟩)
   skip
   rintro _ w19 ⟨h0_, h1_, h2_⟩
   have n0_ : Aside0 (IsS82 w0 w19 g s0_0 t295 t296) := ⟨h0_⟩
   have n1_ : Aside0 (KeepBut w w19 g none) := ⟨h1_⟩
   have n2_ : Aside0 (Below w0.heap.size w0 w19) := ⟨h2_⟩
   clear HI0
   clear HK
   clear HB
   clear h0_ h1_ h2_
   have HI0 := n0_
   have HK := n1_
   have HB := n2_
   clear n0_ n1_ n2_
   have hHeld := trivial
   refine norm_ (a' := ?_) ?_ ?_
   rotate_left
   ·simp only [putAll, Act.put, List.setIfInBounds_toArray, List.set_cons_zero, List.set_cons_succ]
    rfl
   refine two_ (i := 5) (j := 12) (Ni := some 23) (Nj := some 30) (bN 17 4031) (bN 17 8095) rfl rfl rfl rfl (two_of HT_.out (by kernel_rfl)) (by decide) (by decide) (fun K hK => ?_) (fun K hK => ?_)
   rotate_left
   ·skip
    refine goes_ Try.func85 (by kernel_rfl) rfl #[.pointer (some ⟨g, 0, none⟩), .int .i64 t294, .int .i64 (wrap64 (a2 - 1))] (by rfl) rfl rfl mM ?_
    with_reducible refine (ih kj4 (by have := HK1.out; have := HJ4.out; omega) g s0_0 t295 t296 t294 (wrap64 (a2 - 1)) t297 t298 t299 w0 _ ?s1 ?s2 A12.out).mono ?_
    (case s1 => exact aP0)
    (case s2 => exact aP2)
    rintro e w20 ⟨rfl, hi, hb, hk⟩
    refine ⟨_, rfl, ?_⟩
    replace HK := aM (KeepBut.trans aP1 hk (.inl rfl))
    replace HB := aM (hb)
    replace HI0 := aM (hi)
    (try clear hb)
    (try clear hb2)
    (try clear hk)
    (try clear hi)
    refine hK.out _ _ trivial (fun hHeld => ?_)
    clear hK K
    refine norm_ (a' := ?_) ?_ ?_
    rotate_left
    ·show Act.put _ (some 30) _ = _
     simp only [Act.put, List.setIfInBounds_toArray, List.set_cons_zero, List.set_cons_succ, i64_w, i32_w]
     rfl
    exact norm_ aP20 (hJ9_12 () _ ⟨aP0, aP1, aP2⟩)
   skip
   refine Kd.R_lit_step (Kd.int .u8) _ 5 ?hg (N := 23) ?hd (xs := ([(wrap64 (65 + t288)) % 256] : List Int)) (inner := [.int .u8 ((wrap64 (65 + t288)) % 256)]) (ok := fun _ => True) (okp := fun _ => True) ?hr ?hp (fun _ hk => hk) trivial (Below.refl _ _) (Nat.le_refl _) (by simp) ?_; (case hd => rfl); (case hg => rfl); (case hr => exact aP38); (case hp => exact (Reps.one (show Kd.M (Kd.int .u8) _ _ _ ((wrap64 (65 + t288)) % 256) [.int .u8 ((wrap64 (65 + t288)) % 256)] from rfl) (Reps.none _ _)))
   intro v292 w20 ho21 hb hg_ hnew_
   clear hg_ hnew_
   (first | rw [← Ny291.out] at ho21 | (simp only [Int.reduceToNat] at ho21; rw [← Ny291.out] at ho21))
   replace HO293 := aM (Kd.R_lower ho21 (keep_size (w := w) (g := g) (row := none) aP1))
   replace HI0 := aM (IsS82.below aP0 hb)
   replace HK := aM (KeepBut.trans aP1 (KeepBut.of_below hb g none) (.inl rfl))
   replace HB := aM (below_step aP2 hb)
   clear hb ho21
   refine hK.out _ _ trivial (fun hHeld => ?_)
   clear hK K
   refine norm_ (a' := ?_) ?_ ?_
   rotate_left
   ·show Act.put _ (some 23) _ = _
    simp only [Act.put, List.setIfInBounds_toArray, List.set_cons_zero, List.set_cons_succ, i64_w, i32_w]
    rfl
   exact norm_ aP20 (hJ5_9 (v292) _ ⟨(rR HO293.out), aP0, aP1, aP2⟩)
  rintro v292 w23 ⟨h0_, h1_, h2_, h3_⟩
  have n0_ : Aside0 (Kd.R (Kd.int .u8) 5 w23 w.heap.size (fun _ => True) v292 y291) := ⟨h0_⟩
  have n1_ : Aside0 (IsS82 w0 w23 g s0_0 t298 t299) := ⟨h1_⟩
  have n2_ : Aside0 (KeepBut w w23 g none) := ⟨h2_⟩
  have n3_ : Aside0 (Below w0.heap.size w0 w23) := ⟨h3_⟩
  clear HI0
  clear HK
  clear HB
  clear h0_ h1_ h2_ h3_
  have HO293 := n0_
  have HI0 := n1_
  have HK := n2_
  have HB := n3_
  clear n0_ n1_ n2_ n3_
  have hHeld := trivial
  refine norm_ (a' := ?_) ?_ ?_
  rotate_left
  ·simp only [putAll, Act.put, List.setIfInBounds_toArray, List.set_cons_zero, List.set_cons_succ]
   rfl
  refine pV 13 31 (bN 17 16383) ?_
  refine pV 14 32 (bN 17 32767) ?_
  refine pV 15 33 (bN 17 65535) ?_
  refine pV 16 7 (bN 17 131071) ?_
  refine done_ (done_of HT_.out (by kernel_rfl)) ?_
  try go_wp2
  go_roundg kj4
  case measure => have := HK1.out; have := HJ4.out; omega
  case rel => exact ⟨(wrap64 (x1_1 - 1)), (x7_1 ++ (((strOfNums y291) ++ t297) ++ (⟨#[47]⟩ : ByteArray))), (t298), (t299), aP19, aP19, H', ⟨by have := HK1.out; have := HJ4.out; omega⟩, ⟨aP0⟩, ⟨aP1⟩, ⟨aP2⟩⟩
end Go.Proofs.Ytoagljlnfakgjaa.PFnDiamond
