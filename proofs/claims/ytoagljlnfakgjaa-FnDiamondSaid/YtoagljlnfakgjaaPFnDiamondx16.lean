/- (thin) Written by a program of this session (wip/ovl.py) over the kit's print. -/
import Derived.Test.YtoagljlnfakgjaaPFnDiamondx0
import Derived.Test.YtoagljlnfakgjaaPFnDiamondx1
import Derived.Test.YtoagljlnfakgjaaPFnDiamondx13
import Derived.Test.YtoagljlnfakgjaaPFnDiamondx15
namespace Go.Proofs.Ytoagljlnfakgjaa.PFnDiamond
open Go.RowKit Go.Proofs.YtoagljlnfakgjaaW.PrintWords Go.Proofs.YtoagljlnfakgjaaW.PrintLast Go.Proofs.YtoagljlnfakgjaaW.PrintMore
attribute [local go_sem] max2_int min2_int max_two min_two max_three min_three max_four min_four
set_option linter.unusedVariables false
set_option linter.unusedSimpArgs false
set_option maxHeartbeats 8000000
set_option maxRecDepth 100000
attribute [local go_sem high] eqA60
mutual
def jE.l0 : Nat → ByteArray → List S60 → Int → List Int → Int → Int → Option ((List S60) × Int × Int)
 | 0, _, _, _, _, _, _ => none
 | k + 1, x1, x5, x6, x1000, x1001, x1002 => if x6 < (x1.size : Int) then ((jD.f x1000 x1001 x1002 5).bind fun bt355 => (if (wrap64 (1 + bt355.1)) > (wrap64 ((x1.size : Int) - x6)) then (jE.j1 k x1 x5 x6 (wrap64 ((x1.size : Int) - x6)) x1000 bt355.2.1 bt355.2.2) else (jE.j1 k x1 x5 x6 (wrap64 (1 + bt355.1)) x1000 bt355.2.1 bt355.2.2))) else ((yB.f x1000 x1001 x1002 3).bind fun bt376 => (if bt376.1 = true then ((yK.f x1000 bt376.2.1 bt376.2.2 (([(⟨#[101, 110, 100]⟩ : ByteArray), (⟨#[46]⟩ : ByteArray)] : List ByteArray))).bind fun bt382 => (if x5.length < 3518437208883 then (some ((x5 ++ [(⟨0, bt382.1, (⟨#[]⟩ : ByteArray)⟩ : S60)]), bt382.2.1, bt382.2.2)) else (none))) else (some (x5, bt376.2.1, bt376.2.2))))
def jE.j1 : Nat → ByteArray → List S60 → Int → Int → List Int → Int → Int → Option ((List S60) × Int × Int)
 | 0, _, _, _, _, _, _, _ => none
 | k + 1, x1, x5, x6, x7, x1000, x1001, x1002 => (jD.f x1000 x1001 x1002 4).bind fun bt358 => (if bt358.1 = 0 then (if 0 ≤ x6 then (if x6 ≤ (wrap64 (x6 + x7)) then (if (wrap64 (x6 + x7)) ≤ (x1.size : Int) then (if x5.length < 3518437208883 then (jE.l0 k x1 (x5 ++ [(⟨0, (⟨#[]⟩ : ByteArray), x1.extract (x6 : Int).toNat ((wrap64 (x6 + x7)) : Int).toNat⟩ : S60)]) (wrap64 (x6 + x7)) x1000 bt358.2.1 bt358.2.2) else (none)) else (none)) else (none)) else (none)) else (if bt358.1 = 1 then ((yK.f x1000 bt358.2.1 bt358.2.2 (([(⟨#[120]⟩ : ByteArray), (⟨#[121, 121]⟩ : ByteArray), (⟨#[65, 47]⟩ : ByteArray), (⟨#[110, 101, 119]⟩ : ByteArray), (⟨#[66]⟩ : ByteArray)] : List ByteArray))).bind fun bt367 => (if x5.length < 3518437208883 then (jE.l0 k x1 (x5 ++ [(⟨0, bt367.1, (⟨#[]⟩ : ByteArray)⟩ : S60)]) x6 x1000 bt367.2.1 bt367.2.2) else (none))) else (if x5.length < 3518437208883 then (jE.l0 k x1 (x5 ++ [(⟨x7, (⟨#[]⟩ : ByteArray), (⟨#[]⟩ : ByteArray)⟩ : S60)]) (wrap64 (x6 + x7)) x1000 bt358.2.1 bt358.2.2) else (none))))
end
def jE.f (k : Nat) (s0_0 : List Int) (s0_1 : Int) (s0_2 : Int) (a1 : ByteArray) : Option ((List S60) × Int × Int) := jE.l0 k a1 ([] : List S60) 0 s0_0 s0_1 s0_2
theorem jE.mono_l : ∀ k, (∀ y0 y1 y2 y3 y4 y5, LeO (jE.l0 k y0 y1 y2 y3 y4 y5) (jE.l0 (k + 1) y0 y1 y2 y3 y4 y5)) ∧ (∀ y0 y1 y2 y3 y4 y5 y6, LeO (jE.j1 k y0 y1 y2 y3 y4 y5 y6) (jE.j1 (k + 1) y0 y1 y2 y3 y4 y5 y6))
 | 0 => ⟨fun _ _ _ _ _ _ r h => by simp [jE.l0] at h, fun _ _ _ _ _ _ _ r h => by simp [jE.j1] at h⟩
 | k + 1 => by
  obtain ⟨ih0, ih1⟩ := jE.mono_l k
  refine ⟨?_, ?_⟩
  ·intro y0 y1 y2 y3 y4 y5
   unfold jE.l0
   repeat' (with_reducible first | apply ih0 | apply ih1 | apply LeO.refl | apply LeO.none | apply LeO.ite | refine LeO.bind ?_ fun _ => ?_)
  ·intro y0 y1 y2 y3 y4 y5 y6
   unfold jE.j1
   repeat' (with_reducible first | apply ih0 | apply ih1 | apply LeO.refl | apply LeO.none | apply LeO.ite | refine LeO.bind ?_ fun _ => ?_)
theorem jE.mono : ∀ a0 a1 a2 a3 k, LeO (jE.f k a0 a1 a2 a3) (jE.f (k + 1) a0 a1 a2 a3) := by
 intro a0 a1 a2 a3 k
 obtain ⟨ih0, ih1⟩ := jE.mono_l k
 unfold jE.f
 repeat' (with_reducible first | apply ih0 | apply ih1 | apply LeO.refl | apply LeO.none | apply LeO.ite | refine LeO.bind ?_ fun _ => ?_)
theorem jE.calls (k : Nat) (g : Nat) (s0_0 : List Int) (s0_1 : Int) (s0_2 : Int) (a1 : ByteArray) (r1 : List S60) (r2 : Int) (r3 : Int) (w0 w : World) (hI : IsS82 w0 w g s0_0 s0_1 s0_2) (hB : Below w0.heap.size w0 w) (h : jE.f k s0_0 s0_1 s0_2 a1 = some (r1, r2, r3)) :
  Calls Try.prog 59 #[.pointer (some ⟨g, 0, none⟩), .string a1] w fun e w' => ∃ v0_ : Value, e = .returned (v0_) ∧ Kd.R k60 60 w' w.heap.size (fun _ => True) v0_ r1 ∧ IsS82 w0 w' g s0_0 r2 r3 ∧ Below w0.heap.size w0 w' ∧ KeepBut w w' g none := by
 have hu60 := Try.underlying60
 have HI0 := aM hI
 have HK := aM (KeepBut.refl w g none)
 have HL := aM hB.size
 clear hI
 have HW0 := aM hB.size
 have HB := aM hB
 clear hB
 have H : (jE.l0 k a1 ([] : List S60) 0 s0_0 s0_1 s0_2) = some (r1, r2, r3) := h
 clear h
 have H' := aM H
 clear H
 go_enter Try.func59, Try.ntmps59
 go_wp2
 go_loopg [5, 6] k (fun kq v5 v6 w' => ∃ (x5_1 : List S60) (x6_1 : Int) (x1001_1 : Int) (x1002_1 : Int), v6 = .int .i64 x6_1 ∧ Aside0 (jE.l0 kq a1 x5_1 x6_1 s0_0 x1001_1 x1002_1 = some (r1, r2, r3)) ∧ Aside0 (kq ≤ k) ∧ Aside0 (Kd.R k60 60 w' w.heap.size (fun _ => True) v5 x5_1) ∧ Aside0 (IsS82 w0 w' g s0_0 x1001_1 x1002_1) ∧ Aside0 (KeepBut w w' g none) ∧ Aside0 (Below w0.heap.size w0 w'))
 case atStart => exact ⟨(([] : List S60)), (0), (s0_1), (s0_2), aP19, H', ⟨Nat.le_refl _⟩, ⟨by first | exact Kd.R_nil _ _ _ _ _ | exact Kd.N_nil _ _ _ _ _ | exact Kd.V_nil _ _ _ _ _ | exact Kd.Q_nil _ _ _ _ _ | exact Kd.S_nil _ _ _ _ _⟩, ⟨aP0⟩, ⟨aP1⟩, ⟨aP2⟩⟩
 case round =>
  clear H'
  obtain ⟨x5_1, x6_1, x1001_1, x1002_1, rfl, HA, HK1, HO_5, HI0, HK, HB⟩ := hrel
  cases gk with
  | zero => exact absurd HA.out (by simp [jE.l0])
  | succ k1 => ?_
  have H := HA.out
  clear HA
  simp only [jE.l0] at H
  by_cases c3 : x6_1 < (a1.size : Int)
  rotate_left
  ·rw [if_neg c3] at H
   have c3b0 : decide (x6_1 < (a1.size : Int)) = false := decide_eq_false c3
   clear c3
   obtain ⟨⟨t376, t377, t378⟩, A28, H⟩ := bM H
   by_cases c29 : t376 = true
   rotate_left
   ·replace c29 := Bool.eq_false_iff.mpr c29
    subst c29
    replace H := fF H
    simp only [Option.some.injEq, Prod.mk.injEq] at H
    obtain ⟨rfl, rfl, rfl⟩ := H
    go_wp2_with ((with_reducible refine gate_callee (f := 62) rfl ?_); refine gL 60 Try.func62 #[.pointer (some ⟨g, 0, none⟩), .int .i64 3] ?_; (with_reducible refine (yB.calls g s0_0 x1001_1 x1002_1 3 false t377 t378 w0 _ ?s1 ?s2 A28.out).mono ?_); (case s1 => exact aP0); (case s2 => exact aP2); rintro e w38 ⟨rfl, hi, hb, hk⟩; refine ⟨_, rfl, ?_⟩; replace HO_5 := aM (Kd.R_mono (Kd.R_keep (IsS82.apart (show IsS82 w0 _ g s0_0 x1001_1 x1002_1 from aP0) (rR HO_5.out) (by decide)) hk (fun _ h => h.2)) (fun _ h => h.1)); replace HK := aM (KeepBut.trans aP1 hk (.inl rfl)); replace HB := aM (hb); replace HI0 := aM (hi); clear hb hk hi)
    go_ret
    exact ⟨_, by first | rfl | (simp [errW_none, errW_some] <;> rfl) | (simp [*, errW_none, errW_some] <;> rfl), rR HO_5.out, by exact aP0, by exact aP2, aP1⟩
   subst c29
   rw [if_pos rfl] at H
   (try replace H := bS H)
   generalize Ny379 : (([(⟨#[101, 110, 100]⟩ : ByteArray), (⟨#[46]⟩ : ByteArray)] : List ByteArray)) = y379 at H
   replace Ny379 := aM Ny379.symm
   obtain ⟨⟨t382, t383, t384⟩, A30, H⟩ := bM H
   obtain ⟨LMc31, H⟩ := gA H
   (try replace H := bS H)
   generalize Ny385 : (x5_1 ++ [(⟨0, t382, (⟨#[]⟩ : ByteArray)⟩ : S60)]) = y385 at H
   replace Ny385 := aM Ny385.symm
   simp only [Option.some.injEq, Prod.mk.injEq] at H
   obtain ⟨rfl, rfl, rfl⟩ := H
   go_wp2_with (first | ((with_reducible refine gate_callee (f := 62) rfl ?_); refine gL 60 Try.func62 #[.pointer (some ⟨g, 0, none⟩), .int .i64 3] ?_; (with_reducible refine (yB.calls g s0_0 x1001_1 x1002_1 3 true t377 t378 w0 _ ?s1 ?s2 A28.out).mono ?_); (case s1 => exact aP0); (case s2 => exact aP2); rintro e w32 ⟨rfl, hi, hb, hk⟩; refine ⟨_, rfl, ?_⟩; replace HO_5 := aM (Kd.R_mono (Kd.R_keep (IsS82.apart (show IsS82 w0 _ g s0_0 x1001_1 x1002_1 from aP0) (rR HO_5.out) (by decide)) hk (fun _ h => h.2)) (fun _ h => h.1)); replace HK := aM (KeepBut.trans aP1 hk (.inl rfl)); replace HB := aM (hb); replace HI0 := aM (hi); clear hb hk hi) | ((with_reducible refine gate_dst (N := 63) rfl ?_); refine Kd.R_lit Kd.string _ 9 ?hg (N := 63) ?hd (xs := ([(⟨#[101, 110, 100]⟩ : ByteArray), (⟨#[46]⟩ : ByteArray)] : List ByteArray)) (inner := [.string (⟨#[101, 110, 100]⟩ : ByteArray), .string (⟨#[46]⟩ : ByteArray)]) (ok := fun _ => True) (okp := fun _ => True) ?hr ?hp (fun _ hk => hk) trivial (Below.refl _ _) (Nat.le_refl _) (by simp) ?_; (case hd => rfl); (case hg => rfl); (case hr => exact aP38); (case hp => exact (Reps.one (show Kd.M Kd.string _ _ _ (⟨#[101, 110, 100]⟩ : ByteArray) [.string (⟨#[101, 110, 100]⟩ : ByteArray)] from rfl) (Reps.one (show Kd.M Kd.string _ _ _ (⟨#[46]⟩ : ByteArray) [.string (⟨#[46]⟩ : ByteArray)] from rfl) (Reps.none _ _)))); intro v380 w33 ho34 hb hg_ hnew_; clear hg_ hnew_; (first | rw [← Ny379.out] at ho34 | (simp only [Int.reduceToNat] at ho34; rw [← Ny379.out] at ho34)); have HO381 := aM (Kd.R_lower ho34 (keep_size (w := w) (g := g) (row := none) aP1)); replace HO_5 := aM (Kd.R_below (rR HO_5.out) hb); replace HI0 := aM (IsS82.below aP0 hb); replace HK := aM (KeepBut.trans aP1 (KeepBut.of_below hb g none) (.inl rfl)); replace HB := aM (below_step aP2 hb); clear hb ho34; obtain ⟨Ao35, co35, eo35⟩ := Kd.R_slice HO381.out; subst eo35) | ((with_reducible refine gate_callee (f := 80) rfl ?_); refine gL 64 Try.func80 #[.pointer (some ⟨g, 0, none⟩), .slice Ao35 y379.length co35] ?_; (with_reducible refine (yK.calls g s0_0 t377 t378 _ _ y379 t382 t383 t384 w0 _ ?s1 ?s2 ?s3 ?s4 ?s5 A30.out).mono ?_); (case s1 => exact aP0); (case s2 => exact aP2); (case s3 => exact cC ((Kd.R_reads' HO381.out).2.2)); (case s4 => exact (Kd.R_reads' HO381.out).2.1); (case s5 => exact far_slice (IsS82.own_ne HI0.out HO381.out (by decide))); rintro e w36 ⟨rfl, hi, hb, hk⟩; refine ⟨_, rfl, ?_⟩; replace HO_5 := aM (Kd.R_mono (Kd.R_keep (IsS82.apart (show IsS82 w0 _ g s0_0 t377 t378 from aP0) (rR HO_5.out) (by decide)) hk (fun _ h => h.2)) (fun _ h => h.1)); replace HO381 := aM (Kd.R_mono (Kd.R_keep (IsS82.apart (show IsS82 w0 _ g s0_0 t377 t378 from aP0) (rR HO381.out) (by decide)) hk (fun _ h => h.2)) (fun _ h => h.1)); replace HK := aM (KeepBut.trans aP1 hk (.inl rfl)); replace HB := aM (hb); replace HI0 := aM (hi); clear hb hk hi) | ((with_reducible refine gate_builtin (b := .append) (xs := #[.tmp 61, .tmp 66]) rfl ?_); at_builtin; refine Kd.R_append k60 w.heap.size rfl (.tmp 61) (.tmp 66) 26 60 (.agg #[(.int .i64 0), (.string ⟨#[]⟩), (.string ⟨#[]⟩)]) 40 rfl Try.underlying26 info60 rfl (by decide) (by omega) u5 x5_1 (⟨0, t382, (⟨#[]⟩ : ByteArray)⟩ : S60) [.int .i64 0, .string t382, .string ⟨#[]⟩] (fun _ => True) (fun _ => False) rfl rfl ?aP (fun _ hk => hk.elim) ?aF ?aO (Below.refl _ _) ?aS ?aL ?_; (case aP => exact k60_mkM _ _ _ (⟨0, t382, (⟨#[]⟩ : ByteArray)⟩ : S60)); (case aF => exact (fun _ _ => trivial)); (case aO => exact (rR HO_5.out)); (case aS => exact (keep_size (w := w) (g := g) (row := none) aP1)); (case aL => have := LMc31.out; omega); intro v386 w37 ho hb hg hat; rw [← Ny385.out] at ho; have HO387 := aM (ho); replace HI0 := aM (IsS82.grown aP0 hg (IsS82.own_ne HI0.out HO_5.out (by decide))); replace HO381 := aM (Kd.R_over' (rR HO381.out) (Kd.R_typed (rR HO_5.out)) (by decide) hg); replace HB := aM (below_weaken aP2 HL.out hb); replace HK := aM (KeepBut.trans aP1 (KeepBut.of_grown hg g) (Kd.R_base2 HO_5.out)); clear ho hb hg hat))
   go_ret
   exact ⟨_, by first | rfl | (simp [errW_none, errW_some] <;> rfl) | (simp [*, errW_none, errW_some] <;> rfl), rR HO387.out, by exact aP0, by exact aP2, aP1⟩
  rw [if_pos c3] at H
  have c3b0 : decide (x6_1 < (a1.size : Int)) = true := decide_eq_true c3
  clear c3
  obtain ⟨⟨t355, t356, t357⟩, A4, H⟩ := bM H
  have HC5 := aM H
  clear H
  go_upto_if 20 with ((with_reducible refine gate_callee (f := 60) rfl ?_); refine gL 13 Try.func60 #[.pointer (some ⟨g, 0, none⟩), .int .i64 5] ?_; (with_reducible refine (jD.calls g s0_0 x1001_1 x1002_1 5 t355 t356 t357 w0 _ ?s1 ?s2 A4.out).mono ?_); (case s1 => exact aP0); (case s2 => exact aP2); rintro e w6 ⟨rfl, hi, hb, hk⟩; refine ⟨_, rfl, ?_⟩; replace HO_5 := aM (Kd.R_mono (Kd.R_keep (IsS82.apart (show IsS82 w0 _ g s0_0 x1001_1 x1002_1 from aP0) (rR HO_5.out) (by decide)) hk (fun _ h => h.2)) (fun _ h => h.1)); replace HK := aM (KeepBut.trans aP1 hk (.inl rfl)); replace HB := aM (hb); replace HI0 := aM (hi); clear hb hk hi)
  (try simp only [Act.put, List.setIfInBounds_toArray, List.set_cons_zero, List.set_cons_succ])
  go_cut [7] (fun v7 wc => ∃ (kq : Nat) (x7_4 : Int), v7 = .int .i64 x7_4 ∧ Aside0 (jE.j1 kq a1 x5_1 x6_1 x7_4 s0_0 t356 t357 = some (r1, r2, r3)) ∧ Aside0 (kq ≤ k1) ∧ Aside0 (Kd.R k60 60 wc w.heap.size (fun _ => True) u5 x5_1) ∧ Aside0 (IsS82 w0 wc g s0_0 t356 t357) ∧ Aside0 (KeepBut w wc g none) ∧ Aside0 (Below w0.heap.size w0 wc))
  case first =>
   have H := HC5.out
   clear HC5
   by_cases c7 : (wrap64 (1 + t355)) > (wrap64 ((a1.size : Int) - x6_1))
   rotate_left
   ·rw [if_neg c7] at H
    have c7b0 : decide ((wrap64 ((a1.size : Int) - x6_1)) < (wrap64 (1 + t355))) = false := decide_eq_false c7
    clear c7
    (first | rw [c7b0] | (simp only [i64_w, i32_w]; rw [c7b0]) | rw [c7e] | skip)
    have H' := aM H
    clear H
    go_wp2
    go_meet
    case rel => exact ⟨_, (wrap64 (1 + t355)), aP19, H', ⟨by have := HK1.out; first | omega | exact Nat.le_refl _⟩, ⟨rR HO_5.out⟩, ⟨aP0⟩, ⟨aP1⟩, ⟨aP2⟩⟩
   rw [if_pos c7] at H
   have c7b0 : decide ((wrap64 ((a1.size : Int) - x6_1)) < (wrap64 (1 + t355))) = true := decide_eq_true c7
   clear c7
   (first | rw [c7b0] | (simp only [i64_w, i32_w]; rw [c7b0]) | rw [c7e] | skip)
   have H' := aM H
   clear H
   go_wp2
   go_meet
   case rel => exact ⟨_, (wrap64 ((a1.size : Int) - x6_1)), aP19, H', ⟨by have := HK1.out; first | omega | exact Nat.le_refl _⟩, ⟨rR HO_5.out⟩, ⟨aP0⟩, ⟨aP1⟩, ⟨aP2⟩⟩
  clear HC5
  try clear c3
  try clear c3b0
  obtain ⟨kq, x7_4, rfl, HA, HJ4, HO_5, HI0, HK, HB⟩ := hcut
  cases kq with
  | zero => exact absurd HA.out (by simp [jE.j1])
  | succ kj4 => ?_
  have H := HA.out
  clear HA
  simp only [jE.j1] at H
  obtain ⟨⟨t358, t359, t360⟩, A8, H⟩ := bM H
  by_cases c9 : t358 = 0
  ·rw [if_pos c9] at H
   obtain ⟨c9b0, c9b1⟩ := pE c9
   clear c9
   obtain ⟨c10, H⟩ := gD H
   have c10b0 := eq_true c10
   have c10b1 : decide (0 ≤ x6_1) = true := decide_eq_true c10
   clear c10
   obtain ⟨c11, H⟩ := gD H
   have c11b0 := eq_true c11
   have c11b1 : decide (x6_1 ≤ (wrap64 (x6_1 + x7_4))) = true := decide_eq_true c11
   obtain ⟨c12, H⟩ := gD H
   have c12b0 := eq_true c12
   have c12b1 : decide ((wrap64 (x6_1 + x7_4)) ≤ (a1.size : Int)) = true := decide_eq_true c12
   obtain ⟨LMc13, H⟩ := gA H
   (try replace H := bS H)
   generalize Ny361 : (x5_1 ++ [(⟨0, (⟨#[]⟩ : ByteArray), a1.extract (x6_1 : Int).toNat ((wrap64 (x6_1 + x7_4)) : Int).toNat⟩ : S60)]) = y361 at H
   replace Ny361 := aM Ny361.symm
   have H' := aM H
   clear H
   go_wp2_with (first | ((with_reducible refine gate_callee (f := 60) rfl ?_); refine gL 26 Try.func60 #[.pointer (some ⟨g, 0, none⟩), .int .i64 4] ?_; (with_reducible refine (jD.calls g s0_0 t356 t357 4 t358 t359 t360 w0 _ ?s1 ?s2 A8.out).mono ?_); (case s1 => exact aP0); (case s2 => exact aP2); rintro e w14 ⟨rfl, hi, hb, hk⟩; refine ⟨_, rfl, ?_⟩; replace HO_5 := aM (Kd.R_mono (Kd.R_keep (IsS82.apart (show IsS82 w0 _ g s0_0 t356 t357 from aP0) (rR HO_5.out) (by decide)) hk (fun _ h => h.2)) (fun _ h => h.1)); replace HK := aM (KeepBut.trans aP1 hk (.inl rfl)); replace HB := aM (hb); replace HI0 := aM (hi); clear hb hk hi) | ((with_reducible refine gate_builtin (b := .append) (xs := #[.tmp 37, .tmp 45]) rfl ?_); at_builtin; refine Kd.R_append k60 w.heap.size rfl (.tmp 37) (.tmp 45) 26 60 (.agg #[(.int .i64 0), (.string ⟨#[]⟩), (.string ⟨#[]⟩)]) 40 rfl Try.underlying26 info60 rfl (by decide) (by omega) u5 x5_1 (⟨0, (⟨#[]⟩ : ByteArray), a1.extract (x6_1 : Int).toNat ((wrap64 (x6_1 + x7_4)) : Int).toNat⟩ : S60) [.int .i64 0, .string ⟨#[]⟩, .string (a1.extract (x6_1 : Int).toNat ((wrap64 (x6_1 + x7_4)) : Int).toNat)] (fun _ => True) (fun _ => False) rfl rfl ?aP (fun _ hk => hk.elim) ?aF ?aO (Below.refl _ _) ?aS ?aL ?_; (case aP => exact k60_mkM _ _ _ (⟨0, (⟨#[]⟩ : ByteArray), a1.extract (x6_1 : Int).toNat ((wrap64 (x6_1 + x7_4)) : Int).toNat⟩ : S60)); (case aF => exact (fun _ _ => trivial)); (case aO => exact (rR HO_5.out)); (case aS => exact (keep_size (w := w) (g := g) (row := none) aP1)); (case aL => have := LMc13.out; omega); intro v362 w15 ho hb hg hat; rw [← Ny361.out] at ho; have HO363 := aM (ho); replace HI0 := aM (IsS82.grown aP0 hg (IsS82.own_ne HI0.out HO_5.out (by decide))); replace HB := aM (below_weaken aP2 HL.out hb); replace HK := aM (KeepBut.trans aP1 (KeepBut.of_grown hg g) (Kd.R_base2 HO_5.out)); clear ho hb hg hat))
   go_roundg kj4
   case measure => have := HK1.out; have := HJ4.out; omega
   case rel => exact ⟨(y361), (wrap64 (x6_1 + x7_4)), (t359), (t360), aP19, H', ⟨by have := HK1.out; have := HJ4.out; omega⟩, ⟨rR HO363.out⟩, ⟨aP0⟩, ⟨aP1⟩, ⟨aP2⟩⟩
  rw [if_neg c9] at H
  obtain ⟨c9b0, c9b1⟩ := nE c9
  by_cases c16 : t358 = 1
  rotate_left
  ·rw [if_neg c16] at H
   obtain ⟨c16b0, c16b1⟩ := nE c16
   obtain ⟨LMc25, H⟩ := gA H
   (try replace H := bS H)
   generalize Ny373 : (x5_1 ++ [(⟨x7_4, (⟨#[]⟩ : ByteArray), (⟨#[]⟩ : ByteArray)⟩ : S60)]) = y373 at H
   replace Ny373 := aM Ny373.symm
   have H' := aM H
   clear H
   go_wp2_with (first | ((with_reducible refine gate_callee (f := 60) rfl ?_); refine gL 26 Try.func60 #[.pointer (some ⟨g, 0, none⟩), .int .i64 4] ?_; (with_reducible refine (jD.calls g s0_0 t356 t357 4 t358 t359 t360 w0 _ ?s1 ?s2 A8.out).mono ?_); (case s1 => exact aP0); (case s2 => exact aP2); rintro e w26 ⟨rfl, hi, hb, hk⟩; refine ⟨_, rfl, ?_⟩; replace HO_5 := aM (Kd.R_mono (Kd.R_keep (IsS82.apart (show IsS82 w0 _ g s0_0 t356 t357 from aP0) (rR HO_5.out) (by decide)) hk (fun _ h => h.2)) (fun _ h => h.1)); replace HK := aM (KeepBut.trans aP1 hk (.inl rfl)); replace HB := aM (hb); replace HI0 := aM (hi); clear hb hk hi) | ((with_reducible refine gate_builtin (b := .append) (xs := #[.tmp 27, .tmp 30]) rfl ?_); at_builtin; refine Kd.R_append k60 w.heap.size rfl (.tmp 27) (.tmp 30) 26 60 (.agg #[(.int .i64 0), (.string ⟨#[]⟩), (.string ⟨#[]⟩)]) 40 rfl Try.underlying26 info60 rfl (by decide) (by omega) u5 x5_1 (⟨x7_4, (⟨#[]⟩ : ByteArray), (⟨#[]⟩ : ByteArray)⟩ : S60) [.int .i64 x7_4, .string ⟨#[]⟩, .string ⟨#[]⟩] (fun _ => True) (fun _ => False) rfl rfl ?aP (fun _ hk => hk.elim) ?aF ?aO (Below.refl _ _) ?aS ?aL ?_; (case aP => exact k60_mkM _ _ _ (⟨x7_4, (⟨#[]⟩ : ByteArray), (⟨#[]⟩ : ByteArray)⟩ : S60)); (case aF => exact (fun _ _ => trivial)); (case aO => exact (rR HO_5.out)); (case aS => exact (keep_size (w := w) (g := g) (row := none) aP1)); (case aL => have := LMc25.out; omega); intro v374 w27 ho hb hg hat; rw [← Ny373.out] at ho; have HO375 := aM (ho); replace HI0 := aM (IsS82.grown aP0 hg (IsS82.own_ne HI0.out HO_5.out (by decide))); replace HB := aM (below_weaken aP2 HL.out hb); replace HK := aM (KeepBut.trans aP1 (KeepBut.of_grown hg g) (Kd.R_base2 HO_5.out)); clear ho hb hg hat))
   go_roundg kj4
   case measure => have := HK1.out; have := HJ4.out; omega
   case rel => exact ⟨(y373), (wrap64 (x6_1 + x7_4)), (t359), (t360), aP19, H', ⟨by have := HK1.out; have := HJ4.out; omega⟩, ⟨rR HO375.out⟩, ⟨aP0⟩, ⟨aP1⟩, ⟨aP2⟩⟩
  rw [if_pos c16] at H
  obtain ⟨c16b0, c16b1⟩ := pE c16
  clear c16
  (try replace H := bS H)
  generalize Ny364 : (([(⟨#[120]⟩ : ByteArray), (⟨#[121, 121]⟩ : ByteArray), (⟨#[65, 47]⟩ : ByteArray), (⟨#[110, 101, 119]⟩ : ByteArray), (⟨#[66]⟩ : ByteArray)] : List ByteArray)) = y364 at H
  replace Ny364 := aM Ny364.symm
  obtain ⟨⟨t367, t368, t369⟩, A17, H⟩ := bM H
  obtain ⟨LMc18, H⟩ := gA H
  (try replace H := bS H)
  generalize Ny370 : (x5_1 ++ [(⟨0, t367, (⟨#[]⟩ : ByteArray)⟩ : S60)]) = y370 at H
  replace Ny370 := aM Ny370.symm
  have H' := aM H
  clear H
  go_wp2_with (first | ((with_reducible refine gate_callee (f := 60) rfl ?_); refine gL 26 Try.func60 #[.pointer (some ⟨g, 0, none⟩), .int .i64 4] ?_; (with_reducible refine (jD.calls g s0_0 t356 t357 4 t358 t359 t360 w0 _ ?s1 ?s2 A8.out).mono ?_); (case s1 => exact aP0); (case s2 => exact aP2); rintro e w19 ⟨rfl, hi, hb, hk⟩; refine ⟨_, rfl, ?_⟩; replace HO_5 := aM (Kd.R_mono (Kd.R_keep (IsS82.apart (show IsS82 w0 _ g s0_0 t356 t357 from aP0) (rR HO_5.out) (by decide)) hk (fun _ h => h.2)) (fun _ h => h.1)); replace HK := aM (KeepBut.trans aP1 hk (.inl rfl)); replace HB := aM (hb); replace HI0 := aM (hi); clear hb hk hi) | ((with_reducible refine gate_dst (N := 54) rfl ?_); refine Kd.R_lit Kd.string _ 9 ?hg (N := 54) ?hd (xs := ([(⟨#[120]⟩ : ByteArray), (⟨#[121, 121]⟩ : ByteArray), (⟨#[65, 47]⟩ : ByteArray), (⟨#[110, 101, 119]⟩ : ByteArray), (⟨#[66]⟩ : ByteArray)] : List ByteArray)) (inner := [.string (⟨#[120]⟩ : ByteArray), .string (⟨#[121, 121]⟩ : ByteArray), .string (⟨#[65, 47]⟩ : ByteArray), .string (⟨#[110, 101, 119]⟩ : ByteArray), .string (⟨#[66]⟩ : ByteArray)]) (ok := fun _ => True) (okp := fun _ => True) ?hr ?hp (fun _ hk => hk) trivial (Below.refl _ _) (Nat.le_refl _) (by simp) ?_; (case hd => rfl); (case hg => rfl); (case hr => exact aP38); (case hp => exact (Reps.one (show Kd.M Kd.string _ _ _ (⟨#[120]⟩ : ByteArray) [.string (⟨#[120]⟩ : ByteArray)] from rfl) (Reps.one (show Kd.M Kd.string _ _ _ (⟨#[121, 121]⟩ : ByteArray) [.string (⟨#[121, 121]⟩ : ByteArray)] from rfl) (Reps.one (show Kd.M Kd.string _ _ _ (⟨#[65, 47]⟩ : ByteArray) [.string (⟨#[65, 47]⟩ : ByteArray)] from rfl) (Reps.one (show Kd.M Kd.string _ _ _ (⟨#[110, 101, 119]⟩ : ByteArray) [.string (⟨#[110, 101, 119]⟩ : ByteArray)] from rfl) (Reps.one (show Kd.M Kd.string _ _ _ (⟨#[66]⟩ : ByteArray) [.string (⟨#[66]⟩ : ByteArray)] from rfl) (Reps.none _ _))))))); intro v365 w20 ho21 hb hg_ hnew_; clear hg_ hnew_; (first | rw [← Ny364.out] at ho21 | (simp only [Int.reduceToNat] at ho21; rw [← Ny364.out] at ho21)); have HO366 := aM (Kd.R_lower ho21 (keep_size (w := w) (g := g) (row := none) aP1)); replace HO_5 := aM (Kd.R_below (rR HO_5.out) hb); replace HI0 := aM (IsS82.below aP0 hb); replace HK := aM (KeepBut.trans aP1 (KeepBut.of_below hb g none) (.inl rfl)); replace HB := aM (below_step aP2 hb); clear hb ho21; obtain ⟨Ao22, co22, eo22⟩ := Kd.R_slice HO366.out; subst eo22) | ((with_reducible refine gate_callee (f := 80) rfl ?_); refine gL 55 Try.func80 #[.pointer (some ⟨g, 0, none⟩), .slice Ao22 y364.length co22] ?_; (with_reducible refine (yK.calls g s0_0 t359 t360 _ _ y364 t367 t368 t369 w0 _ ?s1 ?s2 ?s3 ?s4 ?s5 A17.out).mono ?_); (case s1 => exact aP0); (case s2 => exact aP2); (case s3 => exact cC ((Kd.R_reads' HO366.out).2.2)); (case s4 => exact (Kd.R_reads' HO366.out).2.1); (case s5 => exact far_slice (IsS82.own_ne HI0.out HO366.out (by decide))); rintro e w23 ⟨rfl, hi, hb, hk⟩; refine ⟨_, rfl, ?_⟩; replace HO_5 := aM (Kd.R_mono (Kd.R_keep (IsS82.apart (show IsS82 w0 _ g s0_0 t359 t360 from aP0) (rR HO_5.out) (by decide)) hk (fun _ h => h.2)) (fun _ h => h.1)); replace HO366 := aM (Kd.R_mono (Kd.R_keep (IsS82.apart (show IsS82 w0 _ g s0_0 t359 t360 from aP0) (rR HO366.out) (by decide)) hk (fun _ h => h.2)) (fun _ h => h.1)); replace HK := aM (KeepBut.trans aP1 hk (.inl rfl)); replace HB := aM (hb); replace HI0 := aM (hi); clear hb hk hi) | ((with_reducible refine gate_builtin (b := .append) (xs := #[.tmp 52, .tmp 57]) rfl ?_); at_builtin; refine Kd.R_append k60 w.heap.size rfl (.tmp 52) (.tmp 57) 26 60 (.agg #[(.int .i64 0), (.string ⟨#[]⟩), (.string ⟨#[]⟩)]) 40 rfl Try.underlying26 info60 rfl (by decide) (by omega) u5 x5_1 (⟨0, t367, (⟨#[]⟩ : ByteArray)⟩ : S60) [.int .i64 0, .string t367, .string ⟨#[]⟩] (fun _ => True) (fun _ => False) rfl rfl ?aP (fun _ hk => hk.elim) ?aF ?aO (Below.refl _ _) ?aS ?aL ?_; (case aP => exact k60_mkM _ _ _ (⟨0, t367, (⟨#[]⟩ : ByteArray)⟩ : S60)); (case aF => exact (fun _ _ => trivial)); (case aO => exact (rR HO_5.out)); (case aS => exact (keep_size (w := w) (g := g) (row := none) aP1)); (case aL => have := LMc18.out; omega); intro v371 w24 ho hb hg hat; rw [← Ny370.out] at ho; have HO372 := aM (ho); replace HI0 := aM (IsS82.grown aP0 hg (IsS82.own_ne HI0.out HO_5.out (by decide))); replace HO366 := aM (Kd.R_over' (rR HO366.out) (Kd.R_typed (rR HO_5.out)) (by decide) hg); replace HB := aM (below_weaken aP2 HL.out hb); replace HK := aM (KeepBut.trans aP1 (KeepBut.of_grown hg g) (Kd.R_base2 HO_5.out)); clear ho hb hg hat))
  go_roundg kj4
  case measure => have := HK1.out; have := HJ4.out; omega
  case rel => exact ⟨(y370), (x6_1), (t368), (t369), aP19, H', ⟨by have := HK1.out; have := HJ4.out; omega⟩, ⟨rR HO372.out⟩, ⟨aP0⟩, ⟨aP1⟩, ⟨aP2⟩⟩
def yR.f (s0_0 : List Int) (s0_1 : Int) (s0_2 : Int) (l1 : List Int) : Option (Int × Int × Int) := (jD.f s0_0 s0_1 s0_2 (l1.length : Int)).bind fun bt388 => (if 0 ≤ bt388.1 then (if bt388.1 < (l1.length : Int) then (some (rd l1 bt388.1, bt388.2.1, bt388.2.2)) else (none)) else (none))
theorem yR.calls (g : Nat) (s0_0 : List Int) (s0_1 : Int) (s0_2 : Int) (A1 : Option Addr) (c1 : Nat) (l1 : List Int) (r1 : Int) (r2 : Int) (r3 : Int) (w0 w : World) (hI : IsS82 w0 w g s0_0 s0_1 s0_2) (hB : Below w0.heap.size w0 w) (hr1 : Kd.C (Kd.int .i64) w A1 l1.length l1) (hc1 : l1.length ≤ c1) (hf1 : ∀ ad, A1 = some ad → 0 < l1.length → ad.block ≠ g) (h : yR.f s0_0 s0_1 s0_2 l1 = some (r1, r2, r3)) :
  Calls Try.prog 82 #[.pointer (some ⟨g, 0, none⟩), .slice A1 l1.length c1] w fun e w' => e = .returned (.int .i64 r1) ∧ IsS82 w0 w' g s0_0 r2 r3 ∧ Below w0.heap.size w0 w' ∧ KeepBut w w' g none := by
 have HR1 := aM hr1
 have HC1 := aM hc1
 clear hr1 hc1
 have HI0 := aM hI
 have HK := aM (KeepBut.refl w g none)
 have HL := aM hB.size
 clear hI
 have HW0 := aM hB.size
 have HB := aM hB
 clear hB
 have H : ((jD.f s0_0 s0_1 s0_2 (l1.length : Int)).bind fun bt388 => (if 0 ≤ bt388.1 then (if bt388.1 < (l1.length : Int) then (some (rd l1 bt388.1, bt388.2.1, bt388.2.2)) else (none)) else (none))) = some (r1, r2, r3) := h
 clear h
 obtain ⟨⟨t388, t389, t390⟩, A3, H⟩ := bM H
 obtain ⟨c4b0, H⟩ := gB H
 obtain ⟨c5b0, H⟩ := gB H
 simp only [Option.some.injEq, Prod.mk.injEq] at H
 obtain ⟨rfl, rfl, rfl⟩ := H
 go_enter Try.func82, Try.ntmps82
 go_wp2_with ((with_reducible refine gate_callee (f := 60) rfl ?_); refine gL 9 Try.func60 #[.pointer (some ⟨g, 0, none⟩), .int .i64 (l1.length : Int)] ?_; (with_reducible refine (jD.calls g s0_0 s0_1 s0_2 (l1.length : Int) t388 t389 t390 w0 _ ?s1 ?s2 A3.out).mono ?_); (case s1 => exact aP0); (case s2 => exact aP2); rintro e w6 ⟨rfl, hi, hb, hk⟩; refine ⟨_, rfl, ?_⟩; replace HK := aM (KeepBut.trans aP1 hk (.inl rfl)); replace HB := aM (hb); replace HI0 := aM (hi); clear hb hk hi; have p391 : 0 ≤ (t388 : Int) := of_decide_eq_true (by assumption); have q391 : t388 < (l1.length : Int) := of_decide_eq_true (by assumption); obtain ⟨ad391, e391, hx391_0⟩ := Kd.at_int HR1.out t388 p391 q391; cases e391; replace hx391_0 := keep_cell HK.out hx391_0 (by first | (rw [add_block]; exact hf1 _ rfl (by omega)) | exact hf1 _ rfl (by omega) | exact hf1 ad391 rfl (by omega)); replace p391 := eq_true p391; replace q391 := eq_true q391)
 go_ret
 exact ⟨eR, by (try simp only [Int.add_zero]); exact aP0, by exact aP2, aP1⟩
def jX.j0 : Nat → List S60 → Bool → List Int → Int → Int → Option ((List S60) × Int × Int)
 | 0, _, _, _, _, _ => none
 | k + 1, x3, x14, x1000, x1001, x1002 => if x14 = true then ((jD.f x1000 x1001 x1002 4).bind fun bt403 => (if bt403.1 = 0 then ((jD.f x1000 bt403.2.1 bt403.2.2 (x3.length : Int)).bind fun bt406 => ((jD.f x1000 bt406.2.1 bt406.2.2 5).bind fun bt409 => (if 0 ≤ bt406.1 then (if bt406.1 < (x3.length : Int) then (some ((x3.set (bt406.1 : Int).toNat (⟨wrap64 (bt409.1 - 1), (rd_T60 x3 bt406.1).f1, (rd_T60 x3 bt406.1).f2⟩ : S60)), bt409.2.1, bt409.2.2)) else (none)) else (none)))) else (if bt403.1 = 1 then ((jD.f x1000 bt403.2.1 bt403.2.2 (x3.length : Int)).bind fun bt413 => (if 0 ≤ bt413.1 then (if bt413.1 < (x3.length : Int) then (some ((x3.set (bt413.1 : Int).toNat (⟨(rd_T60 x3 bt413.1).f0, (⟨#[90]⟩ : ByteArray), (rd_T60 x3 bt413.1).f2⟩ : S60)), bt413.2.1, bt413.2.2)) else (none)) else (none))) else (if bt403.1 = 2 then (if x3.length < 3518437208883 then (some ((x3 ++ [(⟨0, (⟨#[]⟩ : ByteArray), (⟨#[]⟩ : ByteArray)⟩ : S60)]), bt403.2.1, bt403.2.2)) else (none)) else ((yR.f x1000 bt403.2.1 bt403.2.2 (([300, 301] : List Int))).bind fun bt423 => (if x3.length < 3518437208883 then (some ((x3 ++ [(⟨bt423.1, (⟨#[]⟩ : ByteArray), (⟨#[]⟩ : ByteArray)⟩ : S60)]), bt423.2.1, bt423.2.2)) else (none))))))) else (some (x3, x1001, x1002))
def jX.f (k : Nat) (s0_0 : List Int) (s0_1 : Int) (s0_2 : Int) : Option ((List S60) × Int × Int) := (jY.f k s0_0 s0_1 s0_2).bind fun bt392 => ((jE.f k s0_0 bt392.2.1 bt392.2.2 bt392.1).bind fun bt395 => (if (bt395.1.length : Int) > 0 then ((yB.f s0_0 bt395.2.1 bt395.2.2 12).bind fun bt400 => (jX.j0 k bt395.1 bt400.1 s0_0 bt400.2.1 bt400.2.2)) else (jX.j0 k bt395.1 false s0_0 bt395.2.1 bt395.2.2)))
theorem jX.mono_l : ∀ k, (∀ y0 y1 y2 y3 y4, LeO (jX.j0 k y0 y1 y2 y3 y4) (jX.j0 (k + 1) y0 y1 y2 y3 y4))
 | 0 => fun _ _ _ _ _ r h => by simp [jX.j0] at h
 | k + 1 => by
  have ih0 := jX.mono_l k
  ·intro y0 y1 y2 y3 y4
   unfold jX.j0
   repeat' (with_reducible first | apply ih0 | apply jE.mono | apply jY.mono | apply LeO.refl | apply LeO.none | apply LeO.ite | refine LeO.bind ?_ fun _ => ?_)
theorem jX.mono : ∀ a0 a1 a2 k, LeO (jX.f k a0 a1 a2) (jX.f (k + 1) a0 a1 a2) := by
 intro a0 a1 a2 k
 have ih0 := jX.mono_l k
 unfold jX.f
 repeat' (with_reducible first | apply ih0 | apply jE.mono | apply jY.mono | apply LeO.refl | apply LeO.none | apply LeO.ite | refine LeO.bind ?_ fun _ => ?_)
theorem jX.calls (k : Nat) (g : Nat) (s0_0 : List Int) (s0_1 : Int) (s0_2 : Int) (r1 : List S60) (r2 : Int) (r3 : Int) (w0 w : World) (hI : IsS82 w0 w g s0_0 s0_1 s0_2) (hB : Below w0.heap.size w0 w) (h : jX.f k s0_0 s0_1 s0_2 = some (r1, r2, r3)) :
  Calls Try.prog 63 #[.pointer (some ⟨g, 0, none⟩)] w fun e w' => ∃ v0_ : Value, e = .returned (v0_) ∧ Kd.R k60 60 w' w.heap.size (fun _ => True) v0_ r1 ∧ IsS82 w0 w' g s0_0 r2 r3 ∧ Below w0.heap.size w0 w' ∧ KeepBut w w' g none := by
 have hu60 := Try.underlying60
 have HI0 := aM hI
 have HK := aM (KeepBut.refl w g none)
 have HL := aM hB.size
 clear hI
 have HW0 := aM hB.size
 have HB := aM hB
 clear hB
 have H : ((jY.f k s0_0 s0_1 s0_2).bind fun bt392 => ((jE.f k s0_0 bt392.2.1 bt392.2.2 bt392.1).bind fun bt395 => (if (bt395.1.length : Int) > 0 then ((yB.f s0_0 bt395.2.1 bt395.2.2 12).bind fun bt400 => (jX.j0 k bt395.1 bt400.1 s0_0 bt400.2.1 bt400.2.2)) else (jX.j0 k bt395.1 false s0_0 bt395.2.1 bt395.2.2)))) = some (r1, r2, r3) := h
 clear h
 obtain ⟨⟨t392, t393, t394⟩, A2, H⟩ := bM H
 obtain ⟨⟨t395, t398, t399⟩, A3, H⟩ := bM H
 have HC4 := aM H
 clear H
 go_enter Try.func63, Try.ntmps63
 go_upto_region 2 with (first | ((with_reducible refine gate_callee (f := 58) rfl ?_); refine gL 6 Try.func58 #[.pointer (some ⟨g, 0, none⟩)] ?_; (with_reducible refine (jY.calls k g s0_0 s0_1 s0_2 t392 t393 t394 w0 _ ?s1 ?s2 A2.out).mono ?_); (case s1 => exact aP0); (case s2 => exact aP2); rintro e w5 ⟨rfl, hi, hb, hk⟩; refine ⟨_, rfl, ?_⟩; replace HK := aM (KeepBut.trans aP1 hk (.inl rfl)); replace HB := aM (hb); replace HI0 := aM (hi); clear hb hk hi) | ((with_reducible refine gate_callee (f := 59) rfl ?_); refine gL 7 Try.func59 #[.pointer (some ⟨g, 0, none⟩), .string t392] ?_; (with_reducible refine (jE.calls k g s0_0 t393 t394 t392 t395 t398 t399 w0 _ ?s1 ?s2 A3.out).mono ?_); (case s1 => exact aP0); (case s2 => exact aP2); rintro e w6 ⟨v396, rfl, ho0, hi, hb, hk⟩; refine ⟨_, rfl, ?_⟩; have HO397 := aM (Kd.R_lower ho0 (keep_size (w := w) (g := g) (row := none) aP1)); replace HK := aM (KeepBut.trans aP1 hk (.inl rfl)); replace HB := aM (hb); replace HI0 := aM (hi); clear hb hk hi ho0))
 (try simp only [Act.put, List.setIfInBounds_toArray, List.set_cons_zero, List.set_cons_succ])
 go_cut [14] (fun v14 wc => ∃ (kq : Nat) (x14_3 : Bool) (x1001_3 : Int) (x1002_3 : Int), v14 = .bool x14_3 ∧ Aside0 (jX.j0 kq t395 x14_3 s0_0 x1001_3 x1002_3 = some (r1, r2, r3)) ∧ Aside0 (kq ≤ k) ∧ Aside0 (Kd.R k60 60 wc w.heap.size (fun _ => True) v396 t395) ∧ Aside0 (IsS82 w0 wc g s0_0 x1001_3 x1002_3) ∧ Aside0 (KeepBut w wc g none) ∧ Aside0 (Below w0.heap.size w0 wc))
 case first =>
  have H := HC4.out
  clear HC4
  by_cases c7 : (t395.length : Int) > 0
  rotate_left
  ·rw [if_neg c7] at H
   have c7b0 : decide (0 < (t395.length : Int)) = false := decide_eq_false c7
   have c7b1 : decide (0 < t395.length) = false := decide_eq_false (by omega)
   clear c7
   (first | rw [c7b0] | (simp only [i64_w, i32_w]; rw [c7b0]) | rw [c7e] | skip)
   have H' := aM H
   clear H
   obtain ⟨Ao11, co11, eo11⟩ := Kd.R_slice HO397.out
   subst eo11
   go_wp2
   go_meet
   case rel => exact ⟨_, (false), (t398), (t399), aP19, H', ⟨lH⟩, ⟨rR HO397.out⟩, ⟨aP0⟩, ⟨aP1⟩, ⟨aP2⟩⟩
  rw [if_pos c7] at H
  have c7b0 : decide (0 < (t395.length : Int)) = true := decide_eq_true c7
  have c7b1 : decide (0 < t395.length) = true := decide_eq_true (by omega)
  clear c7
  (first | rw [c7b0] | (simp only [i64_w, i32_w]; rw [c7b0]) | rw [c7e] | skip)
  obtain ⟨⟨t400, t401, t402⟩, A8, H⟩ := bM H
  have H' := aM H
  clear H
  obtain ⟨Ao9, co9, eo9⟩ := Kd.R_slice HO397.out
  subst eo9
  go_wp2_with (go_at_call 62; (with_reducible refine (yB.calls g s0_0 t398 t399 12 t400 t401 t402 w0 _ ?s1 ?s2 A8.out).mono ?_); (case s1 => exact aP0); (case s2 => exact aP2); rintro e w10 ⟨rfl, hi, hb, hk⟩; replace HO397 := aM (Kd.R_mono (Kd.R_keep (IsS82.apart (show IsS82 w0 _ g s0_0 t398 t399 from aP0) (rR HO397.out) (by decide)) hk (fun _ h => h.2)) (fun _ h => h.1)); replace HK := aM (KeepBut.trans aP1 hk (.inl rfl)); replace HB := aM (hb); replace HI0 := aM (hi); clear hb hk hi)
  go_meet
  case rel => exact ⟨_, (t400), (t401), (t402), aP19, H', ⟨lH⟩, ⟨rR HO397.out⟩, ⟨aP0⟩, ⟨aP1⟩, ⟨aP2⟩⟩
 clear HC4
 obtain ⟨kq, x14_3, x1001_3, x1002_3, rfl, HA, HJ3, HO_3, HI0, HK, HB⟩ := hcut
 cases kq with
 | zero => exact absurd HA.out (by simp [jX.j0])
 | succ kj3 => ?_
 have H := HA.out
 clear HA
 simp only [jX.j0] at H
 by_cases c12 : x14_3 = true
 rotate_left
 ·replace c12 := Bool.eq_false_iff.mpr c12
  subst c12
  replace H := fF H
  simp only [Option.some.injEq, Prod.mk.injEq] at H
  obtain ⟨rfl, rfl, rfl⟩ := H
  go_wp2
  go_ret
  exact ⟨_, by first | rfl | (simp [errW_none, errW_some] <;> rfl) | (simp [*, errW_none, errW_some] <;> rfl), rR HO_3.out, by exact aP0, by exact aP2, aP1⟩
 subst c12
 rw [if_pos rfl] at H
 obtain ⟨⟨t403, t404, t405⟩, A13, H⟩ := bM H
 by_cases c14 : t403 = 0
 ·rw [if_pos c14] at H
  obtain ⟨c14b0, c14b1⟩ := pE c14
  clear c14
  obtain ⟨⟨t406, t407, t408⟩, A15, H⟩ := bM H
  obtain ⟨⟨t409, t410, t411⟩, A16, H⟩ := bM H
  obtain ⟨c17b0, H⟩ := gB H
  obtain ⟨c18b0, H⟩ := gB H
  (try replace H := bS H)
  generalize Ny412 : (t395.set (t406 : Int).toNat (⟨wrap64 (t409 - 1), (rd_T60 t395 t406).f1, (rd_T60 t395 t406).f2⟩ : S60)) = y412 at H
  replace Ny412 := aM Ny412.symm
  simp only [Option.some.injEq, Prod.mk.injEq] at H
  obtain ⟨rfl, rfl, rfl⟩ := H
  go_wp2_with (first | ((with_reducible refine gate_callee (f := 60) rfl ?_); refine gL 16 Try.func60 #[.pointer (some ⟨g, 0, none⟩), .int .i64 4] ?_; (with_reducible refine (jD.calls g s0_0 x1001_3 x1002_3 4 t403 t404 t405 w0 _ ?s1 ?s2 A13.out).mono ?_); (case s1 => exact aP0); (case s2 => exact aP2); rintro e w20 ⟨rfl, hi, hb, hk⟩; refine ⟨_, rfl, ?_⟩; replace HO_3 := aM (Kd.R_mono (Kd.R_keep (IsS82.apart (show IsS82 w0 _ g s0_0 x1001_3 x1002_3 from aP0) (rR HO_3.out) (by decide)) hk (fun _ h => h.2)) (fun _ h => h.1)); replace HK := aM (KeepBut.trans aP1 hk (.inl rfl)); replace HB := aM (hb); replace HI0 := aM (hi); clear hb hk hi; obtain ⟨Ao21, co21, eo21⟩ := Kd.R_slice HO_3.out; subst eo21) | ((with_reducible refine gate_callee (f := 60) rfl ?_); refine gL 30 Try.func60 #[.pointer (some ⟨g, 0, none⟩), .int .i64 (t395.length : Int)] ?_; (with_reducible refine (jD.calls g s0_0 t404 t405 (t395.length : Int) t406 t407 t408 w0 _ ?s1 ?s2 A15.out).mono ?_); (case s1 => exact aP0); (case s2 => exact aP2); rintro e w22 ⟨rfl, hi, hb, hk⟩; refine ⟨_, rfl, ?_⟩; replace HO_3 := aM (Kd.R_mono (Kd.R_keep (IsS82.apart (show IsS82 w0 _ g s0_0 t404 t405 from aP0) (rR HO_3.out) (by decide)) hk (fun _ h => h.2)) (fun _ h => h.1)); replace HK := aM (KeepBut.trans aP1 hk (.inl rfl)); replace HB := aM (hb); replace HI0 := aM (hi); clear hb hk hi) | ((with_reducible refine gate_callee (f := 60) rfl ?_); refine gL 32 Try.func60 #[.pointer (some ⟨g, 0, none⟩), .int .i64 5] ?_; (with_reducible refine (jD.calls g s0_0 t407 t408 5 t409 t410 t411 w0 _ ?s1 ?s2 A16.out).mono ?_); (case s1 => exact aP0); (case s2 => exact aP2); rintro e w23 ⟨rfl, hi, hb, hk⟩; refine ⟨_, rfl, ?_⟩; replace HO_3 := aM (Kd.R_mono (Kd.R_keep (IsS82.apart (show IsS82 w0 _ g s0_0 t407 t408 from aP0) (rR HO_3.out) (by decide)) hk (fun _ h => h.2)) (fun _ h => h.1)); replace HK := aM (KeepBut.trans aP1 hk (.inl rfl)); replace HB := aM (hb); replace HI0 := aM (hi); clear hb hk hi; have p19 : 0 ≤ (t406 : Int) := of_decide_eq_true (by assumption); have q19 : (t406 : Int) < ((t395.length : Int) : Int) := of_decide_eq_true (by assumption); obtain ⟨go19, co19, eo19, gb19, gl19, cl19, HG19⟩ := Kd.R_form HO_3.out (by omega); (first | cases eo19 | (injection eo19 with ea_ en_ ec_; (first | subst ea_ | (injection ea_ with ea_; subst ea_)); subst ec_; clear en_)); have GB19 := aM gb19; have GG19 := aM HG19; clear gb19 gl19 HG19; obtain ⟨ce19, hcl19, hM19, hcc19, hfr19⟩ := Kd.R_elem HO_3.out z60 (t406 : Int) p19 q19; obtain rfl := k60_openM hM19; have hx19_0 : w23.cell? ⟨go19, (t406 : Int).toNat * 3, none⟩ = some (.int .i64 ((rd_T60 t395 t406).f0)) := hcc19 0 _ rfl; have hx19_1 : w23.cell? ⟨go19, (t406 : Int).toNat * 3 + 1, none⟩ = some (.string ((rd_T60 t395 t406).f1)) := hcc19 1 _ rfl; have hx19_2 : w23.cell? ⟨go19, (t406 : Int).toNat * 3 + 2, none⟩ = some (.string ((rd_T60 t395 t406).f2)) := hcc19 2 _ rfl; have hf19_0 : w23.frozen? ⟨go19, (t406 : Int).toNat * 3, none⟩ = false := hfr19 0; have hf19_1 : w23.frozen? ⟨go19, (t406 : Int).toNat * 3 + 1, none⟩ = false := hfr19 1; have hf19_2 : w23.frozen? ⟨go19, (t406 : Int).toNat * 3 + 2, none⟩ = false := hfr19 2; clear hcl19 hcc19 hfr19 hM19; replace p19 := eq_true p19; replace q19 := eq_true q19; have HX24 := aM (show Kd.R k60 60 w23 w.heap.size (fun _ => True) (.slice (some ⟨go19, 0, none⟩) t395.length co21) t395 from (rR HO_3.out)); obtain ⟨ce24, hcl24, hM24, hcc24, hfr24⟩ := Kd.R_elem HX24.out z60 (t406 : Int) (of_decide_eq_true (by assumption)) (by have h_ : (t406 : Int) < ((t395.length : Int) : Int) := of_decide_eq_true (by assumption); first | exact h_ | (have e_ := (Kd.R_reads' HO_3.out).1; omega) | simpa using h_); obtain rfl := k60_openM hM24; have HP24 := Kd.R_seg HX24.out (t406 : Int) (of_decide_eq_true (by assumption)) (by have h_ : (t406 : Int) < ((t395.length : Int) : Int) := of_decide_eq_true (by assumption); first | exact h_ | (have e_ := (Kd.R_reads' HO_3.out).1; omega) | simpa using h_) (seg := [.int .i64 (wrap64 (t409 - 1))]) (j := 0) hcl24 hcc24 (show 1 ≤ 3 from by decide) (x' := (⟨wrap64 (t409 - 1), (rd_T60 t395 t406).f1, (rd_T60 t395 t406).f2⟩ : S60)) (k60_mkM _ _ _ (⟨wrap64 (t409 - 1), (rd_T60 t395 t406).f1, (rd_T60 t395 t406).f2⟩ : S60) ) (fun _ hk => hk); have hx24_0 := hcc24 0 _ rfl; (try simp only [show (k60).sz = 3 from rfl, Nat.mul_one, Nat.add_zero] at hx24_0); have hf24_0 := hfr24 0; (try simp only [show (k60).sz = 3 from rfl, Nat.mul_one, Nat.add_zero] at hf24_0); clear hcl24 hcc24 hfr24 hM24) | ((with_reducible refine gate_store (t := 3) (p := 35) rfl ?_); refine store_event (t := 3) (p := 35) (v := ?vo_w25) (w1 := (w23.setCell ⟨go19, (t406 : Int).toNat * 3, none⟩ (.int .i64 (wrap64 (t409 - 1))))) ?hg ?ho ?hn ?hr ?_; (case ho => rfl); (case hg => rfl); (case hn => rfl); (case hr => exact aP38); intro w25 hw; have hg : w23.grownBy w25 (some go19) := (by rw [hw]; exact HP24.2); have hp_ : Kd.R k60 60 w25 w.heap.size (fun _ => True) (.slice (some ⟨go19, 0, none⟩) t395.length co21) y412 := (by rw [hw, Ny412.out]; exact HP24.1); clear HP24; have n0_ := aM (hp_); have n1_ := aM (IsS82.grown aP0 hg (IsS82.own_ne HI0.out HO_3.out (by decide))); have n2_ := aM ((by rw [hw]; exact below_set (HB.out) (Nat.le_trans HL.out GB19.out) : Below w0.heap.size w0 w25)); have n3_ := aM (KeepBut.trans aP1 (KeepBut.of_grown hg g) (Kd.R_base2 HO_3.out)); clear HO_3; clear HI0; clear HB; clear HK; have HO_3 := n0_; have HI0 := n1_; have HB := n2_; have HK := n3_; clear n0_ n1_ n2_ n3_; clear hg hw hp_))
  go_ret
  exact ⟨_, by first | rfl | (simp [errW_none, errW_some] <;> rfl) | (simp [*, errW_none, errW_some] <;> rfl), rR HO_3.out, by exact aP0, by exact aP2, aP1⟩
 rw [if_neg c14] at H
 obtain ⟨c14b0, c14b1⟩ := nE c14
 by_cases c26 : t403 = 1
 ·rw [if_pos c26] at H
  obtain ⟨c26b0, c26b1⟩ := pE c26
  clear c26
  obtain ⟨⟨t413, t414, t415⟩, A27, H⟩ := bM H
  obtain ⟨c28b0, H⟩ := gB H
  obtain ⟨c29b0, H⟩ := gB H
  (try replace H := bS H)
  generalize Ny416 : (t395.set (t413 : Int).toNat (⟨(rd_T60 t395 t413).f0, (⟨#[90]⟩ : ByteArray), (rd_T60 t395 t413).f2⟩ : S60)) = y416 at H
  replace Ny416 := aM Ny416.symm
  simp only [Option.some.injEq, Prod.mk.injEq] at H
  obtain ⟨rfl, rfl, rfl⟩ := H
  go_wp2_with (first | ((with_reducible refine gate_callee (f := 60) rfl ?_); refine gL 16 Try.func60 #[.pointer (some ⟨g, 0, none⟩), .int .i64 4] ?_; (with_reducible refine (jD.calls g s0_0 x1001_3 x1002_3 4 t403 t404 t405 w0 _ ?s1 ?s2 A13.out).mono ?_); (case s1 => exact aP0); (case s2 => exact aP2); rintro e w31 ⟨rfl, hi, hb, hk⟩; refine ⟨_, rfl, ?_⟩; replace HO_3 := aM (Kd.R_mono (Kd.R_keep (IsS82.apart (show IsS82 w0 _ g s0_0 x1001_3 x1002_3 from aP0) (rR HO_3.out) (by decide)) hk (fun _ h => h.2)) (fun _ h => h.1)); replace HK := aM (KeepBut.trans aP1 hk (.inl rfl)); replace HB := aM (hb); replace HI0 := aM (hi); clear hb hk hi; obtain ⟨Ao32, co32, eo32⟩ := Kd.R_slice HO_3.out; subst eo32) | ((with_reducible refine gate_callee (f := 60) rfl ?_); refine gL 42 Try.func60 #[.pointer (some ⟨g, 0, none⟩), .int .i64 (t395.length : Int)] ?_; (with_reducible refine (jD.calls g s0_0 t404 t405 (t395.length : Int) t413 t414 t415 w0 _ ?s1 ?s2 A27.out).mono ?_); (case s1 => exact aP0); (case s2 => exact aP2); rintro e w33 ⟨rfl, hi, hb, hk⟩; refine ⟨_, rfl, ?_⟩; replace HO_3 := aM (Kd.R_mono (Kd.R_keep (IsS82.apart (show IsS82 w0 _ g s0_0 t404 t405 from aP0) (rR HO_3.out) (by decide)) hk (fun _ h => h.2)) (fun _ h => h.1)); replace HK := aM (KeepBut.trans aP1 hk (.inl rfl)); replace HB := aM (hb); replace HI0 := aM (hi); clear hb hk hi; have p30 : 0 ≤ (t413 : Int) := of_decide_eq_true (by assumption); have q30 : (t413 : Int) < ((t395.length : Int) : Int) := of_decide_eq_true (by assumption); obtain ⟨go30, co30, eo30, gb30, gl30, cl30, HG30⟩ := Kd.R_form HO_3.out (by omega); (first | cases eo30 | (injection eo30 with ea_ en_ ec_; (first | subst ea_ | (injection ea_ with ea_; subst ea_)); subst ec_; clear en_)); have GB30 := aM gb30; have GG30 := aM HG30; clear gb30 gl30 HG30; obtain ⟨ce30, hcl30, hM30, hcc30, hfr30⟩ := Kd.R_elem HO_3.out z60 (t413 : Int) p30 q30; obtain rfl := k60_openM hM30; have hx30_0 : w33.cell? ⟨go30, (t413 : Int).toNat * 3, none⟩ = some (.int .i64 ((rd_T60 t395 t413).f0)) := hcc30 0 _ rfl; have hx30_1 : w33.cell? ⟨go30, (t413 : Int).toNat * 3 + 1, none⟩ = some (.string ((rd_T60 t395 t413).f1)) := hcc30 1 _ rfl; have hx30_2 : w33.cell? ⟨go30, (t413 : Int).toNat * 3 + 2, none⟩ = some (.string ((rd_T60 t395 t413).f2)) := hcc30 2 _ rfl; have hf30_0 : w33.frozen? ⟨go30, (t413 : Int).toNat * 3, none⟩ = false := hfr30 0; have hf30_1 : w33.frozen? ⟨go30, (t413 : Int).toNat * 3 + 1, none⟩ = false := hfr30 1; have hf30_2 : w33.frozen? ⟨go30, (t413 : Int).toNat * 3 + 2, none⟩ = false := hfr30 2; clear hcl30 hcc30 hfr30 hM30; replace p30 := eq_true p30; replace q30 := eq_true q30; have HX34 := aM (show Kd.R k60 60 w33 w.heap.size (fun _ => True) (.slice (some ⟨go30, 0, none⟩) t395.length co32) t395 from (rR HO_3.out)); obtain ⟨ce34, hcl34, hM34, hcc34, hfr34⟩ := Kd.R_elem HX34.out z60 (t413 : Int) (of_decide_eq_true (by assumption)) (by have h_ : (t413 : Int) < ((t395.length : Int) : Int) := of_decide_eq_true (by assumption); first | exact h_ | (have e_ := (Kd.R_reads' HO_3.out).1; omega) | simpa using h_); obtain rfl := k60_openM hM34; have HP34 := Kd.R_seg HX34.out (t413 : Int) (of_decide_eq_true (by assumption)) (by have h_ : (t413 : Int) < ((t395.length : Int) : Int) := of_decide_eq_true (by assumption); first | exact h_ | (have e_ := (Kd.R_reads' HO_3.out).1; omega) | simpa using h_) (seg := [.string (⟨#[90]⟩ : ByteArray)]) (j := 1) hcl34 hcc34 (show 2 ≤ 3 from by decide) (x' := (⟨(rd_T60 t395 t413).f0, (⟨#[90]⟩ : ByteArray), (rd_T60 t395 t413).f2⟩ : S60)) (k60_mkM _ _ _ (⟨(rd_T60 t395 t413).f0, (⟨#[90]⟩ : ByteArray), (rd_T60 t395 t413).f2⟩ : S60) ) (fun _ hk => hk); have hx34_1 := hcc34 1 _ rfl; (try simp only [show (k60).sz = 3 from rfl, Nat.mul_one, Nat.add_zero] at hx34_1); have hf34_1 := hfr34 1; (try simp only [show (k60).sz = 3 from rfl, Nat.mul_one, Nat.add_zero] at hf34_1); clear hcl34 hcc34 hfr34 hM34) | ((with_reducible refine gate_store (t := 9) (p := 44) rfl ?_); refine store_event (t := 9) (p := 44) (v := ?vo_w35) (w1 := (w33.setCell ⟨go30, (t413 : Int).toNat * 3 + 1, none⟩ (.string (⟨#[90]⟩ : ByteArray)))) ?hg ?ho ?hn ?hr ?_; (case ho => rfl); (case hg => rfl); (case hn => rfl); (case hr => exact aP38); intro w35 hw; have hg : w33.grownBy w35 (some go30) := (by rw [hw]; exact HP34.2); have hp_ : Kd.R k60 60 w35 w.heap.size (fun _ => True) (.slice (some ⟨go30, 0, none⟩) t395.length co32) y416 := (by rw [hw, Ny416.out]; exact HP34.1); clear HP34; have n0_ := aM (hp_); have n1_ := aM (IsS82.grown aP0 hg (IsS82.own_ne HI0.out HO_3.out (by decide))); have n2_ := aM ((by rw [hw]; exact below_set (HB.out) (Nat.le_trans HL.out GB30.out) : Below w0.heap.size w0 w35)); have n3_ := aM (KeepBut.trans aP1 (KeepBut.of_grown hg g) (Kd.R_base2 HO_3.out)); clear HO_3; clear HI0; clear HB; clear HK; have HO_3 := n0_; have HI0 := n1_; have HB := n2_; have HK := n3_; clear n0_ n1_ n2_ n3_; clear hg hw hp_))
  go_ret
  exact ⟨_, by first | rfl | (simp [errW_none, errW_some] <;> rfl) | (simp [*, errW_none, errW_some] <;> rfl), rR HO_3.out, by exact aP0, by exact aP2, aP1⟩
 rw [if_neg c26] at H
 obtain ⟨c26b0, c26b1⟩ := nE c26
 by_cases c36 : t403 = 2
 ·rw [if_pos c36] at H
  obtain ⟨c36b0, c36b1⟩ := pE c36
  clear c36
  obtain ⟨LMc37, H⟩ := gA H
  (try replace H := bS H)
  generalize Ny417 : (t395 ++ [(⟨0, (⟨#[]⟩ : ByteArray), (⟨#[]⟩ : ByteArray)⟩ : S60)]) = y417 at H
  replace Ny417 := aM Ny417.symm
  simp only [Option.some.injEq, Prod.mk.injEq] at H
  obtain ⟨rfl, rfl, rfl⟩ := H
  go_wp2_with (first | ((with_reducible refine gate_callee (f := 60) rfl ?_); refine gL 16 Try.func60 #[.pointer (some ⟨g, 0, none⟩), .int .i64 4] ?_; (with_reducible refine (jD.calls g s0_0 x1001_3 x1002_3 4 t403 t404 t405 w0 _ ?s1 ?s2 A13.out).mono ?_); (case s1 => exact aP0); (case s2 => exact aP2); rintro e w38 ⟨rfl, hi, hb, hk⟩; refine ⟨_, rfl, ?_⟩; replace HO_3 := aM (Kd.R_mono (Kd.R_keep (IsS82.apart (show IsS82 w0 _ g s0_0 x1001_3 x1002_3 from aP0) (rR HO_3.out) (by decide)) hk (fun _ h => h.2)) (fun _ h => h.1)); replace HK := aM (KeepBut.trans aP1 hk (.inl rfl)); replace HB := aM (hb); replace HI0 := aM (hi); clear hb hk hi) | ((with_reducible refine gate_builtin (b := .append) (xs := #[.tmp 47, .tmp 49]) rfl ?_); at_builtin; refine Kd.R_append k60 w.heap.size rfl (.tmp 47) (.tmp 49) 26 60 (.agg #[(.int .i64 0), (.string ⟨#[]⟩), (.string ⟨#[]⟩)]) 40 rfl Try.underlying26 info60 rfl (by decide) (by omega) v396 t395 (⟨0, (⟨#[]⟩ : ByteArray), (⟨#[]⟩ : ByteArray)⟩ : S60) [.int .i64 0, .string ⟨#[]⟩, .string ⟨#[]⟩] (fun _ => True) (fun _ => False) rfl rfl ?aP (fun _ hk => hk.elim) ?aF ?aO (Below.refl _ _) ?aS ?aL ?_; (case aP => exact k60_mkM _ _ _ (⟨0, (⟨#[]⟩ : ByteArray), (⟨#[]⟩ : ByteArray)⟩ : S60)); (case aF => exact (fun _ _ => trivial)); (case aO => exact (rR HO_3.out)); (case aS => exact (keep_size (w := w) (g := g) (row := none) aP1)); (case aL => have := LMc37.out; omega); intro v418 w39 ho hb hg hat; rw [← Ny417.out] at ho; have HO419 := aM (ho); replace HI0 := aM (IsS82.grown aP0 hg (IsS82.own_ne HI0.out HO_3.out (by decide))); replace HB := aM (below_weaken aP2 HL.out hb); replace HK := aM (KeepBut.trans aP1 (KeepBut.of_grown hg g) (Kd.R_base2 HO_3.out)); clear ho hb hg hat))
  go_ret
  exact ⟨_, by first | rfl | (simp [errW_none, errW_some] <;> rfl) | (simp [*, errW_none, errW_some] <;> rfl), rR HO419.out, by exact aP0, by exact aP2, aP1⟩
 rw [if_neg c36] at H
 obtain ⟨c36b0, c36b1⟩ := nE c36
 (try replace H := bS H)
 generalize Ny420 : (([300, 301] : List Int)) = y420 at H
 replace Ny420 := aM Ny420.symm
 obtain ⟨⟨t423, t424, t425⟩, A40, H⟩ := bM H
 obtain ⟨LMc41, H⟩ := gA H
 (try replace H := bS H)
 generalize Ny426 : (t395 ++ [(⟨t423, (⟨#[]⟩ : ByteArray), (⟨#[]⟩ : ByteArray)⟩ : S60)]) = y426 at H
 replace Ny426 := aM Ny426.symm
 simp only [Option.some.injEq, Prod.mk.injEq] at H
 obtain ⟨rfl, rfl, rfl⟩ := H
 go_wp2_with (first | ((with_reducible refine gate_callee (f := 60) rfl ?_); refine gL 16 Try.func60 #[.pointer (some ⟨g, 0, none⟩), .int .i64 4] ?_; (with_reducible refine (jD.calls g s0_0 x1001_3 x1002_3 4 t403 t404 t405 w0 _ ?s1 ?s2 A13.out).mono ?_); (case s1 => exact aP0); (case s2 => exact aP2); rintro e w42 ⟨rfl, hi, hb, hk⟩; refine ⟨_, rfl, ?_⟩; replace HO_3 := aM (Kd.R_mono (Kd.R_keep (IsS82.apart (show IsS82 w0 _ g s0_0 x1001_3 x1002_3 from aP0) (rR HO_3.out) (by decide)) hk (fun _ h => h.2)) (fun _ h => h.1)); replace HK := aM (KeepBut.trans aP1 hk (.inl rfl)); replace HB := aM (hb); replace HI0 := aM (hi); clear hb hk hi) | ((with_reducible refine gate_dst (N := 19) rfl ?_); refine Kd.R_lit (Kd.int .i64) _ 3 ?hg (N := 19) ?hd (xs := ([300, 301] : List Int)) (inner := [.int .i64 300, .int .i64 301]) (ok := fun _ => True) (okp := fun _ => True) ?hr ?hp (fun _ hk => hk) trivial (Below.refl _ _) (Nat.le_refl _) (by simp) ?_; (case hd => rfl); (case hg => rfl); (case hr => exact aP38); (case hp => exact (Reps.one (show Kd.M (Kd.int .i64) _ _ _ 300 [.int .i64 300] from rfl) (Reps.one (show Kd.M (Kd.int .i64) _ _ _ 301 [.int .i64 301] from rfl) (Reps.none _ _)))); intro v421 w43 ho44 hb hg_ hnew_; clear hg_ hnew_; (first | rw [← Ny420.out] at ho44 | (simp only [Int.reduceToNat] at ho44; rw [← Ny420.out] at ho44)); have HO422 := aM (Kd.R_lower ho44 (keep_size (w := w) (g := g) (row := none) aP1)); replace HO_3 := aM (Kd.R_below (rR HO_3.out) hb); replace HI0 := aM (IsS82.below aP0 hb); replace HK := aM (KeepBut.trans aP1 (KeepBut.of_below hb g none) (.inl rfl)); replace HB := aM (below_step aP2 hb); clear hb ho44; obtain ⟨Ao45, co45, eo45⟩ := Kd.R_slice HO422.out; subst eo45) | ((with_reducible refine gate_callee (f := 82) rfl ?_); refine gL 20 Try.func82 #[.pointer (some ⟨g, 0, none⟩), .slice Ao45 y420.length co45] ?_; (with_reducible refine (yR.calls g s0_0 t404 t405 _ _ y420 t423 t424 t425 w0 _ ?s1 ?s2 ?s3 ?s4 ?s5 A40.out).mono ?_); (case s1 => exact aP0); (case s2 => exact aP2); (case s3 => exact cC ((Kd.R_reads' HO422.out).2.2)); (case s4 => exact (Kd.R_reads' HO422.out).2.1); (case s5 => exact far_slice (IsS82.own_ne HI0.out HO422.out (by decide))); rintro e w46 ⟨rfl, hi, hb, hk⟩; refine ⟨_, rfl, ?_⟩; replace HO_3 := aM (Kd.R_mono (Kd.R_keep (IsS82.apart (show IsS82 w0 _ g s0_0 t404 t405 from aP0) (rR HO_3.out) (by decide)) hk (fun _ h => h.2)) (fun _ h => h.1)); replace HO422 := aM (Kd.R_mono (Kd.R_keep (IsS82.apart (show IsS82 w0 _ g s0_0 t404 t405 from aP0) (rR HO422.out) (by decide)) hk (fun _ h => h.2)) (fun _ h => h.1)); replace HK := aM (KeepBut.trans aP1 hk (.inl rfl)); replace HB := aM (hb); replace HI0 := aM (hi); clear hb hk hi) | ((with_reducible refine gate_builtin (b := .append) (xs := #[.tmp 17, .tmp 22]) rfl ?_); at_builtin; refine Kd.R_append k60 w.heap.size rfl (.tmp 17) (.tmp 22) 26 60 (.agg #[(.int .i64 0), (.string ⟨#[]⟩), (.string ⟨#[]⟩)]) 40 rfl Try.underlying26 info60 rfl (by decide) (by omega) v396 t395 (⟨t423, (⟨#[]⟩ : ByteArray), (⟨#[]⟩ : ByteArray)⟩ : S60) [.int .i64 t423, .string ⟨#[]⟩, .string ⟨#[]⟩] (fun _ => True) (fun _ => False) rfl rfl ?aP (fun _ hk => hk.elim) ?aF ?aO (Below.refl _ _) ?aS ?aL ?_; (case aP => exact k60_mkM _ _ _ (⟨t423, (⟨#[]⟩ : ByteArray), (⟨#[]⟩ : ByteArray)⟩ : S60)); (case aF => exact (fun _ _ => trivial)); (case aO => exact (rR HO_3.out)); (case aS => exact (keep_size (w := w) (g := g) (row := none) aP1)); (case aL => have := LMc41.out; omega); intro v427 w47 ho hb hg hat; rw [← Ny426.out] at ho; have HO428 := aM (ho); replace HI0 := aM (IsS82.grown aP0 hg (IsS82.own_ne HI0.out HO_3.out (by decide))); replace HO422 := aM (Kd.R_over' (rR HO422.out) (Kd.R_typed (rR HO_3.out)) (by decide) hg); replace HB := aM (below_weaken aP2 HL.out hb); replace HK := aM (KeepBut.trans aP1 (KeepBut.of_grown hg g) (Kd.R_base2 HO_3.out)); clear ho hb hg hat))
 go_ret
 exact ⟨_, by first | rfl | (simp [errW_none, errW_some] <;> rfl) | (simp [*, errW_none, errW_some] <;> rfl), rR HO428.out, by exact aP0, by exact aP2, aP1⟩
def yM.f (k : Nat) (s0_0 : List Int) (s0_1 : Int) (s0_2 : Int) : Option ((List S60) × (List S60) × ByteArray × Int × Int) := (jY.f k s0_0 s0_1 s0_2).bind fun bt429 => ((jE.f k s0_0 bt429.2.1 bt429.2.2 bt429.1).bind fun bt432 => ((yB.f s0_0 bt432.2.1 bt432.2.2 8).bind fun bt437 => (if bt437.1 = true then ((jX.f k s0_0 bt437.2.1 bt437.2.2).bind fun bt440 => (some (bt432.1, bt440.1, bt429.1, bt440.2.1, bt440.2.2))) else ((jE.f k s0_0 bt437.2.1 bt437.2.2 bt429.1).bind fun bt445 => (some (bt432.1, bt445.1, bt429.1, bt445.2.1, bt445.2.2))))))
theorem yM.mono : ∀ a0 a1 a2 k, LeO (yM.f k a0 a1 a2) (yM.f (k + 1) a0 a1 a2) := by
 intro a0 a1 a2 k
 unfold yM.f
 repeat' (with_reducible first | apply jX.mono | apply jE.mono | apply jY.mono | apply LeO.refl | apply LeO.none | apply LeO.ite | refine LeO.bind ?_ fun _ => ?_)
theorem yM.calls (k : Nat) (g : Nat) (s0_0 : List Int) (s0_1 : Int) (s0_2 : Int) (r1 : List S60) (r2 : List S60) (r3 : ByteArray) (r4 : Int) (r5 : Int) (w0 w : World) (hI : IsS82 w0 w g s0_0 s0_1 s0_2) (hB : Below w0.heap.size w0 w) (h : yM.f k s0_0 s0_1 s0_2 = some (r1, r2, r3, r4, r5)) :
  Calls Try.prog 55 #[.pointer (some ⟨g, 0, none⟩)] w fun e w' => ∃ v0_ v1_ : Value, e = .returned (.tuple #[v0_, v1_, .string r3]) ∧ Kd.R k60 60 w' w.heap.size (fun k_ => some k_ ≠ (v1_ : Value).ownBlock) v0_ r1 ∧ Kd.R k60 60 w' w.heap.size (fun k_ => some k_ ≠ (v0_ : Value).ownBlock) v1_ r2 ∧ IsS82 w0 w' g s0_0 r4 r5 ∧ Below w0.heap.size w0 w' ∧ KeepBut w w' g none := by
 have HI0 := aM hI
 have HK := aM (KeepBut.refl w g none)
 have HL := aM hB.size
 clear hI
 have HW0 := aM hB.size
 have HB := aM hB
 clear hB
 have H : ((jY.f k s0_0 s0_1 s0_2).bind fun bt429 => ((jE.f k s0_0 bt429.2.1 bt429.2.2 bt429.1).bind fun bt432 => ((yB.f s0_0 bt432.2.1 bt432.2.2 8).bind fun bt437 => (if bt437.1 = true then ((jX.f k s0_0 bt437.2.1 bt437.2.2).bind fun bt440 => (some (bt432.1, bt440.1, bt429.1, bt440.2.1, bt440.2.2))) else ((jE.f k s0_0 bt437.2.1 bt437.2.2 bt429.1).bind fun bt445 => (some (bt432.1, bt445.1, bt429.1, bt445.2.1, bt445.2.2))))))) = some (r1, r2, r3, r4, r5) := h
 clear h
 obtain ⟨⟨t429, t430, t431⟩, A2, H⟩ := bM H
 obtain ⟨⟨t432, t435, t436⟩, A3, H⟩ := bM H
 obtain ⟨⟨t437, t438, t439⟩, A4, H⟩ := bM H
 by_cases c5 : t437 = true
 ·subst c5
  rw [if_pos rfl] at H
  obtain ⟨⟨t440, t443, t444⟩, A6, H⟩ := bM H
  simp only [Option.some.injEq, Prod.mk.injEq] at H
  obtain ⟨rfl, rfl, rfl, rfl, rfl⟩ := H
  go_enter Try.func55, Try.ntmps55
  go_wp2_with (first | ((with_reducible refine gate_callee (f := 58) rfl ?_); refine gL 8 Try.func58 #[.pointer (some ⟨g, 0, none⟩)] ?_; (with_reducible refine (jY.calls k g s0_0 s0_1 s0_2 t429 t430 t431 w0 _ ?s1 ?s2 A2.out).mono ?_); (case s1 => exact aP0); (case s2 => exact aP2); rintro e w7 ⟨rfl, hi, hb, hk⟩; refine ⟨_, rfl, ?_⟩; replace HK := aM (KeepBut.trans aP1 hk (.inl rfl)); replace HB := aM (hb); replace HI0 := aM (hi); clear hb hk hi) | ((with_reducible refine gate_callee (f := 59) rfl ?_); refine gL 11 Try.func59 #[.pointer (some ⟨g, 0, none⟩), .string t429] ?_; (with_reducible refine (jE.calls k g s0_0 t430 t431 t429 t432 t435 t436 w0 _ ?s1 ?s2 A3.out).mono ?_); (case s1 => exact aP0); (case s2 => exact aP2); rintro e w8 ⟨v433, rfl, ho0, hi, hb, hk⟩; refine ⟨_, rfl, ?_⟩; have HO434 := aM (Kd.R_lower ho0 (keep_size (w := w) (g := g) (row := none) aP1)); replace HK := aM (KeepBut.trans aP1 hk (.inl rfl)); replace HB := aM (hb); replace HI0 := aM (hi); clear hb hk hi ho0) | ((with_reducible refine gate_callee (f := 62) rfl ?_); refine gL 13 Try.func62 #[.pointer (some ⟨g, 0, none⟩), .int .i64 8] ?_; (with_reducible refine (yB.calls g s0_0 t435 t436 8 true t438 t439 w0 _ ?s1 ?s2 A4.out).mono ?_); (case s1 => exact aP0); (case s2 => exact aP2); rintro e w9 ⟨rfl, hi, hb, hk⟩; refine ⟨_, rfl, ?_⟩; replace HO434 := aM (Kd.R_mono (Kd.R_keep (IsS82.apart (show IsS82 w0 _ g s0_0 t435 t436 from aP0) (rR HO434.out) (by decide)) hk (fun _ h => h.2)) (fun _ h => h.1)); replace HK := aM (KeepBut.trans aP1 hk (.inl rfl)); replace HB := aM (hb); replace HI0 := aM (hi); clear hb hk hi) | ((with_reducible refine gate_callee (f := 63) rfl ?_); refine gL 16 Try.func63 #[.pointer (some ⟨g, 0, none⟩)] ?_; (with_reducible refine (jX.calls k g s0_0 t438 t439 t440 t443 t444 w0 _ ?s1 ?s2 A6.out).mono ?_); (case s1 => exact aP0); (case s2 => exact aP2); rintro e w10 ⟨v441, rfl, ho0, hi, hb, hk⟩; refine ⟨_, rfl, ?_⟩; have HO442 := aM (Kd.R_lower (Kd.R_new' ho0 (Kd.R_lt (rR HO434.out))) (keep_size (w := w) (g := g) (row := none) aP1)); replace HO434 := aM (Kd.R_mono (Kd.R_told (Kd.R_oldK (IsS82.apart (show IsS82 w0 _ g s0_0 t438 t439 from aP0) (rR HO434.out) (by decide)) hk) (Kd.R_base ho0)) (fun _ h_ => h_.1)); replace HK := aM (KeepBut.trans aP1 hk (.inl rfl)); replace HB := aM (hb); replace HI0 := aM (hi); clear hb hk hi ho0))
  go_ret3
  exact ⟨_, _, by first | rfl | (simp [errW_none, errW_some] <;> rfl) | (simp [*, errW_none, errW_some] <;> rfl), wR HO434.out, wR HO442.out, by exact aP0, by exact aP2, aP1⟩
 replace c5 := Bool.eq_false_iff.mpr c5
 subst c5
 replace H := fF H
 obtain ⟨⟨t445, t448, t449⟩, A11, H⟩ := bM H
 simp only [Option.some.injEq, Prod.mk.injEq] at H
 obtain ⟨rfl, rfl, rfl, rfl, rfl⟩ := H
 go_enter Try.func55, Try.ntmps55
 go_wp2_with (first | ((with_reducible refine gate_callee (f := 58) rfl ?_); refine gL 8 Try.func58 #[.pointer (some ⟨g, 0, none⟩)] ?_; (with_reducible refine (jY.calls k g s0_0 s0_1 s0_2 t429 t430 t431 w0 _ ?s1 ?s2 A2.out).mono ?_); (case s1 => exact aP0); (case s2 => exact aP2); rintro e w12 ⟨rfl, hi, hb, hk⟩; refine ⟨_, rfl, ?_⟩; replace HK := aM (KeepBut.trans aP1 hk (.inl rfl)); replace HB := aM (hb); replace HI0 := aM (hi); clear hb hk hi) | ((with_reducible refine gate_callee (f := 59) rfl ?_); refine gL 11 Try.func59 #[.pointer (some ⟨g, 0, none⟩), .string t429] ?_; (with_reducible refine (jE.calls k g s0_0 t430 t431 t429 t432 t435 t436 w0 _ ?s1 ?s2 A3.out).mono ?_); (case s1 => exact aP0); (case s2 => exact aP2); rintro e w13 ⟨v433, rfl, ho0, hi, hb, hk⟩; refine ⟨_, rfl, ?_⟩; have HO434 := aM (Kd.R_lower ho0 (keep_size (w := w) (g := g) (row := none) aP1)); replace HK := aM (KeepBut.trans aP1 hk (.inl rfl)); replace HB := aM (hb); replace HI0 := aM (hi); clear hb hk hi ho0) | ((with_reducible refine gate_callee (f := 62) rfl ?_); refine gL 13 Try.func62 #[.pointer (some ⟨g, 0, none⟩), .int .i64 8] ?_; (with_reducible refine (yB.calls g s0_0 t435 t436 8 false t438 t439 w0 _ ?s1 ?s2 A4.out).mono ?_); (case s1 => exact aP0); (case s2 => exact aP2); rintro e w14 ⟨rfl, hi, hb, hk⟩; refine ⟨_, rfl, ?_⟩; replace HO434 := aM (Kd.R_mono (Kd.R_keep (IsS82.apart (show IsS82 w0 _ g s0_0 t435 t436 from aP0) (rR HO434.out) (by decide)) hk (fun _ h => h.2)) (fun _ h => h.1)); replace HK := aM (KeepBut.trans aP1 hk (.inl rfl)); replace HB := aM (hb); replace HI0 := aM (hi); clear hb hk hi) | ((with_reducible refine gate_callee (f := 59) rfl ?_); refine gL 21 Try.func59 #[.pointer (some ⟨g, 0, none⟩), .string t429] ?_; (with_reducible refine (jE.calls k g s0_0 t438 t439 t429 t445 t448 t449 w0 _ ?s1 ?s2 A11.out).mono ?_); (case s1 => exact aP0); (case s2 => exact aP2); rintro e w15 ⟨v446, rfl, ho0, hi, hb, hk⟩; refine ⟨_, rfl, ?_⟩; have HO447 := aM (Kd.R_lower (Kd.R_new' ho0 (Kd.R_lt (rR HO434.out))) (keep_size (w := w) (g := g) (row := none) aP1)); replace HO434 := aM (Kd.R_mono (Kd.R_told (Kd.R_oldK (IsS82.apart (show IsS82 w0 _ g s0_0 t438 t439 from aP0) (rR HO434.out) (by decide)) hk) (Kd.R_base ho0)) (fun _ h_ => h_.1)); replace HK := aM (KeepBut.trans aP1 hk (.inl rfl)); replace HB := aM (hb); replace HI0 := aM (hi); clear hb hk hi ho0))
 go_ret3
 exact ⟨_, _, by first | rfl | (simp [errW_none, errW_some] <;> rfl) | (simp [*, errW_none, errW_some] <;> rfl), wR HO434.out, wR HO447.out, by exact aP0, by exact aP2, aP1⟩
def jZ.f (k : Nat) (l0 : List Int) : Option (List S60 × List S60) :=
 (yM.f k l0 0 0).bind fun o => some (o.1, o.2.1)
theorem jZ.mono : ∀ a0 k, LeO (jZ.f k a0) (jZ.f (k + 1) a0) := by
 intro a0 k
 unfold jZ.f
 exact LeO.bind (yM.mono _ _ _ _) (fun _ => LeO.refl _)
theorem jZ.calls (k : Nat) (A0 : Option Addr) (c0 : Nat) (l0 : List Int) (r1 : List S60) (r2 : List S60) (w : World) (hr0 : Kd.C (Kd.int .u8) w A0 l0.length l0) (hc0 : l0.length ≤ c0) (h : jZ.f k l0 = some (r1, r2)) :
  Calls Try.prog 26 #[.slice A0 l0.length c0] w fun e w' => ∃ v0_ v1_ : Value, e = .returned (.tuple #[v0_, v1_]) ∧ Kd.R k60 60 w' w.heap.size (fun k_ => some k_ ≠ (v1_ : Value).ownBlock) v0_ r1 ∧ Kd.R k60 60 w' w.heap.size (fun k_ => some k_ ≠ (v0_ : Value).ownBlock) v1_ r2 ∧ Below w.heap.size w w' := by
 unfold jZ.f at h
 obtain ⟨⟨a, b, s, a1, z1⟩, h1, h⟩ := Option.bind_eq_some_iff.mp h
 obtain ⟨rfl, rfl⟩ := Prod.mk.inj (Option.some.inj h)
 (try dsimp only at h1)
 have H1 := aM h1
 have HR0 := aM hr0
 clear h1 hr0 h
 go_enter Try.func26, Try.ntmps26
 go_wp2_with (first | ((with_reducible refine gate_dst (N := 10) rfl ?_); refine box_event rfl (N := 10) rfl (cs := #[.slice A0 l0.length c0, .int .i64 0, .int .u64 0]) (t := 82) aP38 ?_; intro gb hgb w1 hbox hb; have HI := aM (show IsS82 w w1 gb l0 0 0 from ⟨A0, c0, hbox, Nat.le_of_eq hgb.symm, HR0.out⟩); have HB := aM hb; clear hbox hb hgb) | (go_at_call 55; (with_reducible refine (yM.calls k gb l0 0 0 a b s a1 z1 w _ HI.out HB.out H1.out).mono ?_); rintro e w2 ⟨v0, v1, rfl, ho, hp, hi, hb, hk⟩; have HOa := aM (Kd.R_lower ho HB.out.size); have HOb := aM (Kd.R_lower hp HB.out.size); have HB2 := aM hb; clear ho hp hi hb hk))
 go_ret2
 exact ⟨_, _, rfl, HOa.out, HOb.out, HB2.out⟩
def jQ.l0 : Nat → List S60 → List S60 → Int → Int → Option (Bool)
 | 0, _, _, _, _ => none
 | k + 1, x0, x1, x12, x13 => if x13 < x12 then (if 0 ≤ x13 then (if x13 < (x0.length : Int) then (if x13 < (x1.length : Int) then (if (!(((rd_T60 x0 x13).f0) == ((rd_T60 x1 x13).f0)) || (!((((rd_T60 x0 x13).f1).toList) == (((rd_T60 x1 x13).f1).toList)) || (!((((rd_T60 x0 x13).f2).toList) == (((rd_T60 x1 x13).f2).toList))))) = true then (some false) else (jQ.l0 k x0 x1 x12 (wrap64 (x13 + 1)))) else (none)) else (none)) else (none)) else (some true)
def jQ.f (k : Nat) (l0 : List S60) (l1 : List S60) : Option (Bool) := if (l0.length : Int) = (l1.length : Int) then (jQ.l0 k l0 l1 (l0.length : Int) 0) else (some false)
theorem jQ.mono_l : ∀ k, (∀ y0 y1 y2 y3, LeO (jQ.l0 k y0 y1 y2 y3) (jQ.l0 (k + 1) y0 y1 y2 y3))
 | 0 => fun _ _ _ _ r h => by simp [jQ.l0] at h
 | k + 1 => by
  have ih0 := jQ.mono_l k
  ·intro y0 y1 y2 y3
   unfold jQ.l0
   repeat' (with_reducible first | apply ih0 | apply LeO.refl | apply LeO.none | apply LeO.ite | refine LeO.bind ?_ fun _ => ?_)
theorem jQ.mono : ∀ a0 a1 k, LeO (jQ.f k a0 a1) (jQ.f (k + 1) a0 a1) := by
 intro a0 a1 k
 have ih0 := jQ.mono_l k
 unfold jQ.f
 repeat' (with_reducible first | apply ih0 | apply LeO.refl | apply LeO.none | apply LeO.ite | refine LeO.bind ?_ fun _ => ?_)
theorem jQ.calls (k : Nat) (A0 : Option Addr) (c0 : Nat) (l0 : List S60) (A1 : Option Addr) (c1 : Nat) (l1 : List S60) (r : Bool) (w : World) (hr0 : Kd.C k60 w A0 l0.length l0) (hc0 : l0.length ≤ c0) (hr1 : Kd.C k60 w A1 l1.length l1) (hc1 : l1.length ≤ c1) (h : jQ.f k l0 l1 = some r) :
  Calls Try.prog 27 #[.slice A0 l0.length c0, .slice A1 l1.length c1] w fun e w' => e = .returned (.bool r) ∧ Drawn0 w w' := by
 have hu60 := Try.underlying60
 have HR0 := aM hr0
 have HC0 := aM hc0
 clear hr0 hc0
 have HR1 := aM hr1
 have HC1 := aM hc1
 clear hr1 hc1
 have H : (if (l0.length : Int) = (l1.length : Int) then (jQ.l0 k l0 l1 (l0.length : Int) 0) else (some false)) = some r := h
 clear h
 by_cases c3 : (l0.length : Int) = (l1.length : Int)
 rotate_left
 ·rw [if_neg c3] at H
  obtain ⟨c3b0, c3b1⟩ := nE c3
  have c3b2 : (l0.length == l1.length) = false := by first | simpa using c3 | (simp at c3 ⊢; omega)
  obtain rfl := Option.some.inj H
  go_enter Try.func27, Try.ntmps27
  go_wp2
  repeat (go_quiet (fail); try go_wp2)
  go_ret
  exact ⟨eS, by repeat (first | exact Drawn0.refl _ | apply Drawn0.step)⟩
 rw [if_pos c3] at H
 obtain ⟨c3b0, c3b1⟩ := pE c3
 have c3b2 : (l0.length == l1.length) = true := by first | simpa using c3 | (simp at c3 ⊢; omega)
 clear c3
 have H' := aM H
 clear H
 go_enter Try.func27, Try.ntmps27
 go_wp2
 repeat (go_quiet (fail); try go_wp2)
 go_loopg [13] k (fun kq v13 w' => ∃ (x13_1 : Int), v13 = .int .i64 x13_1 ∧ Aside0 (jQ.l0 kq l0 l1 (l0.length : Int) x13_1 = some r) ∧ Aside0 (kq ≤ k) ∧ Drawn0 w w')
 case atStart => exact ⟨(0), aP19, H', ⟨Nat.le_refl _⟩, by repeat (first | exact Drawn0.refl _ | apply Drawn0.step)⟩
 case round =>
  clear H'
  try clear c1
  try clear c3
  try clear c3b0
  try clear c3b1
  try clear c3b2
  obtain ⟨x13_1, rfl, HA, HK1, ⟨m1, rfl⟩⟩ := hrel
  cases gk with
  | zero => exact absurd HA.out (by simp [jQ.l0])
  | succ k1 => ?_
  have H := HA.out
  clear HA
  simp only [jQ.l0] at H
  by_cases c4 : x13_1 < (l0.length : Int)
  rotate_left
  ·rw [if_neg c4] at H
   have c4b0 : decide (x13_1 < (l0.length : Int)) = false := decide_eq_false c4
   clear c4
   obtain rfl := Option.some.inj H
   go_wp2
   repeat (go_quiet (fail); try go_wp2)
   go_ret
   exact ⟨eS, by repeat (first | exact Drawn0.refl _ | apply Drawn0.step)⟩
  rw [if_pos c4] at H
  have c4b0 : decide (x13_1 < (l0.length : Int)) = true := decide_eq_true c4
  clear c4
  obtain ⟨c5b0, H⟩ := gB H
  obtain ⟨c6b0, H⟩ := gB H
  obtain ⟨c7b0, H⟩ := gB H
  by_cases c8 : (!(((rd_T60 l0 x13_1).f0) == ((rd_T60 l1 x13_1).f0)) || (!((((rd_T60 l0 x13_1).f1).toList) == (((rd_T60 l1 x13_1).f1).toList)) || (!((((rd_T60 l0 x13_1).f2).toList) == (((rd_T60 l1 x13_1).f2).toList))))) = true
  ·rw [if_pos c8] at H
   have c8b0 : (!(((rd_T60 l0 x13_1).f0) == ((rd_T60 l1 x13_1).f0)) || (!((((rd_T60 l0 x13_1).f1).toList) == (((rd_T60 l1 x13_1).f1).toList)) || (!((((rd_T60 l0 x13_1).f2).toList) == (((rd_T60 l1 x13_1).f2).toList))))) = true := c8
   clear c8
   obtain rfl := Option.some.inj H
   have p450 : 0 ≤ (x13_1 : Int) := of_decide_eq_true (by assumption)
   have q450 : x13_1 < (l0.length : Int) := of_decide_eq_true (by assumption)
   obtain ⟨ad450, e450, hx450_0, hx450_1, hx450_2⟩ := at_T60 HR0.out x13_1 p450 q450
   cases e450
   replace p450 := eq_true p450
   replace q450 := eq_true q450
   have p451 : 0 ≤ (x13_1 : Int) := of_decide_eq_true (by assumption)
   have q451 : x13_1 < (l1.length : Int) := of_decide_eq_true (by assumption)
   obtain ⟨ad451, e451, hx451_0, hx451_1, hx451_2⟩ := at_T60 HR1.out x13_1 p451 q451
   cases e451
   replace p451 := eq_true p451
   replace q451 := eq_true q451
   go_wp2
   repeat (go_quiet (fail); try go_wp2)
   go_ret
   exact ⟨eS, by repeat (first | exact Drawn0.refl _ | apply Drawn0.step)⟩
  rw [if_neg c8] at H
  have c8b0 : (!(((rd_T60 l0 x13_1).f0) == ((rd_T60 l1 x13_1).f0)) || (!((((rd_T60 l0 x13_1).f1).toList) == (((rd_T60 l1 x13_1).f1).toList)) || (!((((rd_T60 l0 x13_1).f2).toList) == (((rd_T60 l1 x13_1).f2).toList))))) = false := by simpa using c8
  clear c8
  have H' := aM H
  clear H
  have p450 : 0 ≤ (x13_1 : Int) := of_decide_eq_true (by assumption)
  have q450 : x13_1 < (l0.length : Int) := of_decide_eq_true (by assumption)
  obtain ⟨ad450, e450, hx450_0, hx450_1, hx450_2⟩ := at_T60 HR0.out x13_1 p450 q450
  cases e450
  replace p450 := eq_true p450
  replace q450 := eq_true q450
  have p451 : 0 ≤ (x13_1 : Int) := of_decide_eq_true (by assumption)
  have q451 : x13_1 < (l1.length : Int) := of_decide_eq_true (by assumption)
  obtain ⟨ad451, e451, hx451_0, hx451_1, hx451_2⟩ := at_T60 HR1.out x13_1 p451 q451
  cases e451
  replace p451 := eq_true p451
  replace q451 := eq_true q451
  go_wp2
  repeat (go_quiet (fail); try go_wp2)
  go_roundg k1
  case measure => have := HK1.out; omega
  case rel => exact ⟨(wrap64 (x13_1 + 1)), aP19, H', ⟨by have := HK1.out; omega⟩, by repeat (first | exact Drawn0.refl _ | apply Drawn0.step)⟩
end Go.Proofs.Ytoagljlnfakgjaa.PFnDiamond
