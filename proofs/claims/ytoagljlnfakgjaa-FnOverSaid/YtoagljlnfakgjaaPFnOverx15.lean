/- (thin) Written by a program of this session (wip/ovl.py) over the kit's print: plain functions with the answers of the Go functions, and the proofs that they are; no condition. -/
import Derived.Test.YtoagljlnfakgjaaPFnOverx0
import Derived.Test.YtoagljlnfakgjaaPFnOverx11
import Derived.Test.YtoagljlnfakgjaaPFnOverx12
namespace Go.Proofs.Ytoagljlnfakgjaa.PFnOver
open Go.RowKit Go.Proofs.YtoagljlnfakgjaaW.PrintWords Go.Proofs.YtoagljlnfakgjaaW.PrintLast Go.Proofs.YtoagljlnfakgjaaW.PrintMore
attribute [local go_sem] max2_int min2_int max_two min_two max_three min_three max_four min_four   -- for this text's walks alone
set_option linter.unusedVariables false
set_option linter.unusedSimpArgs false
mutual
def spec_l1Cur_opOn.l0 : Nat → ByteArray → List (S60) → Int → List Int → Int → Int → Option ((List (S60)) × Int × Int)
 | 0, _, _, _, _, _, _ => none
 | k + 1, x1, x5, x6, x1000, x1001, x1002 => if x6 < (x1.size : Int) then ((spec_l1Cur_pick.f x1000 x1001 x1002 5).bind fun bt319 => (if (wrap64 (1 + bt319.1)) > (wrap64 ((x1.size : Int) - x6)) then (spec_l1Cur_opOn.j1 k x1 x5 x6 (wrap64 ((x1.size : Int) - x6)) x1000 bt319.2.1 bt319.2.2) else (spec_l1Cur_opOn.j1 k x1 x5 x6 (wrap64 (1 + bt319.1)) x1000 bt319.2.1 bt319.2.2))) else ((spec_l1Cur_one.f x1000 x1001 x1002 3).bind fun bt340 => (if bt340.1 = true then ((spec_l1Cur_of.f x1000 bt340.2.1 bt340.2.2 (([(⟨#[101, 110, 100]⟩ : ByteArray), (⟨#[46]⟩ : ByteArray)] : List ByteArray))).bind fun bt346 => (if x5.length < 3518437208883 then (some ((x5 ++ [(⟨0, bt346.1, (⟨#[]⟩ : ByteArray)⟩ : S60)]), bt346.2.1, bt346.2.2)) else (none))) else (some (x5, bt340.2.1, bt340.2.2))))
def spec_l1Cur_opOn.j1 : Nat → ByteArray → List (S60) → Int → Int → List Int → Int → Int → Option ((List (S60)) × Int × Int)
 | 0, _, _, _, _, _, _, _ => none
 | k + 1, x1, x5, x6, x7, x1000, x1001, x1002 => (spec_l1Cur_pick.f x1000 x1001 x1002 4).bind fun bt322 => (if bt322.1 = 0 then (if 0 ≤ x6 then (if x6 ≤ (wrap64 (x6 + x7)) then (if (wrap64 (x6 + x7)) ≤ (x1.size : Int) then (if x5.length < 3518437208883 then (spec_l1Cur_opOn.l0 k x1 (x5 ++ [(⟨0, (⟨#[]⟩ : ByteArray), x1.extract (x6 : Int).toNat ((wrap64 (x6 + x7)) : Int).toNat⟩ : S60)]) (wrap64 (x6 + x7)) x1000 bt322.2.1 bt322.2.2) else (none)) else (none)) else (none)) else (none)) else (if bt322.1 = 1 then ((spec_l1Cur_of.f x1000 bt322.2.1 bt322.2.2 (([(⟨#[120]⟩ : ByteArray), (⟨#[121, 121]⟩ : ByteArray), (⟨#[65, 47]⟩ : ByteArray), (⟨#[110, 101, 119]⟩ : ByteArray), (⟨#[66]⟩ : ByteArray)] : List ByteArray))).bind fun bt331 => (if x5.length < 3518437208883 then (spec_l1Cur_opOn.l0 k x1 (x5 ++ [(⟨0, bt331.1, (⟨#[]⟩ : ByteArray)⟩ : S60)]) x6 x1000 bt331.2.1 bt331.2.2) else (none))) else (if x5.length < 3518437208883 then (spec_l1Cur_opOn.l0 k x1 (x5 ++ [(⟨x7, (⟨#[]⟩ : ByteArray), (⟨#[]⟩ : ByteArray)⟩ : S60)]) (wrap64 (x6 + x7)) x1000 bt322.2.1 bt322.2.2) else (none))))
end
def spec_l1Cur_opOn.f (k : Nat) (s0_0 : List Int) (s0_1 : Int) (s0_2 : Int) (a1 : ByteArray) : Option ((List (S60)) × Int × Int) := spec_l1Cur_opOn.l0 k a1 ([] : List (S60)) 0 s0_0 s0_1 s0_2
theorem spec_l1Cur_opOn.mono_l : ∀ k, (∀ y0 y1 y2 y3 y4 y5, LeO (spec_l1Cur_opOn.l0 k y0 y1 y2 y3 y4 y5) (spec_l1Cur_opOn.l0 (k + 1) y0 y1 y2 y3 y4 y5)) ∧ (∀ y0 y1 y2 y3 y4 y5 y6, LeO (spec_l1Cur_opOn.j1 k y0 y1 y2 y3 y4 y5 y6) (spec_l1Cur_opOn.j1 (k + 1) y0 y1 y2 y3 y4 y5 y6))
 | 0 => ⟨fun _ _ _ _ _ _ r h => by simp [spec_l1Cur_opOn.l0] at h, fun _ _ _ _ _ _ _ r h => by simp [spec_l1Cur_opOn.j1] at h⟩
 | k + 1 => by
  obtain ⟨ih0, ih1⟩ := spec_l1Cur_opOn.mono_l k
  refine ⟨?_, ?_⟩
  ·intro y0 y1 y2 y3 y4 y5
   unfold spec_l1Cur_opOn.l0
   repeat' (with_reducible first | exact ih0 _ _ _ _ _ _ | exact ih1 _ _ _ _ _ _ _ | exact LeO.refl _ | exact LeO.none _ | refine LeO.ite ?_ ?_ | refine LeO.bind ?_ (fun _ => ?_))
  ·intro y0 y1 y2 y3 y4 y5 y6
   unfold spec_l1Cur_opOn.j1
   repeat' (with_reducible first | exact ih0 _ _ _ _ _ _ | exact ih1 _ _ _ _ _ _ _ | exact LeO.refl _ | exact LeO.none _ | refine LeO.ite ?_ ?_ | refine LeO.bind ?_ (fun _ => ?_))
theorem spec_l1Cur_opOn.mono : ∀ a0 a1 a2 a3 k, LeO (spec_l1Cur_opOn.f k a0 a1 a2 a3) (spec_l1Cur_opOn.f (k + 1) a0 a1 a2 a3) := by
 intro a0 a1 a2 a3 k
 obtain ⟨ih0, ih1⟩ := spec_l1Cur_opOn.mono_l k
 unfold spec_l1Cur_opOn.f
 repeat' (with_reducible first | exact ih0 _ _ _ _ _ _ | exact ih1 _ _ _ _ _ _ _ | exact LeO.refl _ | exact LeO.none _ | refine LeO.ite ?_ ?_ | refine LeO.bind ?_ (fun _ => ?_))
set_option maxHeartbeats 8000000 in
set_option maxRecDepth 100000 in
theorem spec_l1Cur_opOn.calls (k : Nat) (g : Nat) (s0_0 : List Int) (s0_1 : Int) (s0_2 : Int) (a1 : ByteArray) (r1 : List (S60)) (r2 : Int) (r3 : Int) (w0 w : World) (hI : IsS82 w0 w g s0_0 s0_1 s0_2) (hB : Below w0.heap.size w0 w) (h : spec_l1Cur_opOn.f k s0_0 s0_1 s0_2 a1 = some (r1, r2, r3)) :
  Calls Try.prog 59 #[.pointer (some ⟨g, 0, none⟩), .string a1] w fun e w' => ∃ v0_ : Value, e = .returned (v0_) ∧ Kd.R k60 60 w' w.heap.size (fun _ => True) v0_ r1 ∧ IsS82 w0 w' g s0_0 r2 r3 ∧ Below w0.heap.size w0 w' ∧ KeepBut w w' g none := by
 have hu60 := Try.underlying60
 have HI0 := aM hI
 have HK := aM (KeepBut.refl w g none)
 have HL := aM hB.size
 clear hI
 have HW0 := aM hB.size
 have HB := aM hB
 clear hB
 have H : (spec_l1Cur_opOn.l0 k a1 ([] : List (S60)) 0 s0_0 s0_1 s0_2) = some (r1, r2, r3) := h
 clear h
 have H' := aM H
 clear H
 go_enter Try.func59, Try.ntmps59
 go_wp2
 go_loopg [5, 6] k (fun kq v5 v6 w' => ∃ (x5_1 : List (S60)) (x6_1 : Int) (x1001_1 : Int) (x1002_1 : Int), v6 = .int .i64 x6_1 ∧ Aside0 (spec_l1Cur_opOn.l0 kq a1 x5_1 x6_1 s0_0 x1001_1 x1002_1 = some (r1, r2, r3)) ∧ Aside0 (kq ≤ k) ∧ Aside0 (Kd.R k60 60 w' w.heap.size (fun _ => True) v5 x5_1) ∧ Aside0 (IsS82 w0 w' g s0_0 x1001_1 x1002_1) ∧ Aside0 (KeepBut w w' g none) ∧ Aside0 (Below w0.heap.size w0 w'))
 case atStart => exact ⟨(([] : List (S60))), (0), (s0_1), (s0_2), aP16, H', ⟨Nat.le_refl _⟩, ⟨by first | exact Kd.R_nil _ _ _ _ _ | exact Kd.N_nil _ _ _ _ _ | exact Kd.V_nil _ _ _ _ _ | exact Kd.Q_nil _ _ _ _ _ | exact Kd.S_nil _ _ _ _ _⟩, ⟨aP0⟩, ⟨aP1⟩, ⟨aP2⟩⟩
 case round =>
  clear H'
  try clear p2
  obtain ⟨x5_1, x6_1, x1001_1, x1002_1, rfl, HA, HK1, HO_5, HI0, HK, HB⟩ := hrel
  cases gk with
  | zero => exact absurd HA.out (by simp [spec_l1Cur_opOn.l0])
  | succ k1 =>
   have H := HA.out
   clear HA
   simp only [spec_l1Cur_opOn.l0] at H
   by_cases c3 : x6_1 < (a1.size : Int)
   rotate_left
   ·rw [if_neg c3] at H
    have c3b0 : decide (x6_1 < (a1.size : Int)) = false := decide_eq_false c3
    clear c3
    replace H := Option.bind_eq_some_iff.mp H
    obtain ⟨⟨t340, t341, t342⟩, A280, H⟩ := H
    replace H : (if t340 = true then ((spec_l1Cur_of.f s0_0 t341 t342 (([(⟨#[101, 110, 100]⟩ : ByteArray), (⟨#[46]⟩ : ByteArray)] : List ByteArray))).bind fun bt346 => (if x5_1.length < 3518437208883 then (some ((x5_1 ++ [(⟨0, bt346.1, (⟨#[]⟩ : ByteArray)⟩ : S60)]), bt346.2.1, bt346.2.2)) else (none))) else (some (x5_1, t341, t342))) = some (r1, r2, r3) := H
    have A28 := aM A280
    clear A280
    by_cases c29 : t340 = true
    rotate_left
    ·replace c29 := Bool.eq_false_iff.mpr c29
     subst c29
     replace H : (some (x5_1, t341, t342)) = some (r1, r2, r3) := by rw [if_neg (show ¬ (false = true) by decide)] at H; exact H
     simp only [Option.some.injEq, Prod.mk.injEq] at H
     obtain ⟨rfl, rfl, rfl⟩ := H
     go_wp2_with (first | ((with_reducible refine gate_callee (f := 62) rfl ?_); refine goesL_ (some 60) rfl rfl Try.func62 (by kernel_rfl) rfl #[.pointer (some ⟨g, 0, none⟩), .int .i64 3] rfl mM ?_; (with_reducible refine (spec_l1Cur_one.calls g s0_0 x1001_1 x1002_1 3 false t341 t342 w0 _ ?side1 ?side2 A28.out).mono ?_); (case side1 => exact aP0); (case side2 => exact aP2); rintro e w38 ⟨rfl, hi, hb, hk⟩; refine ⟨_, rfl, ?_⟩; replace HO_5 := aM (Kd.R_mono (Kd.R_keep (IsS82.apart (show IsS82 w0 _ g s0_0 x1001_1 x1002_1 from aP0) (rR HO_5.out) (by decide)) hk (fun _ h => h.2)) (fun _ h => h.1)); replace HK := aM (KeepBut.trans aP1 hk (.inl rfl)); replace HB := aM (hb); replace HI0 := aM (hi); (try clear hb); (try clear hb2); (try clear hk); (try clear hi)))
     go_ret
     exact ⟨_, by first | rfl | (simp [errW_none, errW_some] <;> rfl) | (simp [*, errW_none, errW_some] <;> rfl), by (with_reducible repeat (first | apply Kd.R_alloc | apply Kd.R_drewN | apply Kd.R_drew)); exact HO_5.out, by exact aP0, by exact aP2, aP1⟩
    subst c29
    replace H : ((spec_l1Cur_of.f s0_0 t341 t342 (([(⟨#[101, 110, 100]⟩ : ByteArray), (⟨#[46]⟩ : ByteArray)] : List ByteArray))).bind fun bt346 => (if x5_1.length < 3518437208883 then (some ((x5_1 ++ [(⟨0, bt346.1, (⟨#[]⟩ : ByteArray)⟩ : S60)]), bt346.2.1, bt346.2.2)) else (none))) = some (r1, r2, r3) := by rw [if_pos rfl] at H; exact H
    obtain ⟨y343, hy343⟩ : ∃ y_ : List ByteArray, y_ = (([(⟨#[101, 110, 100]⟩ : ByteArray), (⟨#[46]⟩ : ByteArray)] : List ByteArray)) := ⟨_, rfl⟩
    replace H : ((spec_l1Cur_of.f s0_0 t341 t342 y343).bind fun bt346 => (if x5_1.length < 3518437208883 then (some ((x5_1 ++ [(⟨0, bt346.1, (⟨#[]⟩ : ByteArray)⟩ : S60)]), bt346.2.1, bt346.2.2)) else (none))) = some (r1, r2, r3) := by first | (rw [hy343]; with_reducible exact H) | (have H2_ := (Option.bind_some _ _).symm.trans H; rw [hy343]; with_reducible exact H2_) | (have H2_ := (Option.bind_some _ _).symm.trans H; with_reducible exact H2_) | with_reducible exact H | (rw [hy343]; exact H) | exact H
    have Ny343 := aM hy343
    clear hy343
    replace H := Option.bind_eq_some_iff.mp H
    obtain ⟨⟨t346, t347, t348⟩, A300, H⟩ := H
    replace H : (if x5_1.length < 3518437208883 then (some ((x5_1 ++ [(⟨0, t346, (⟨#[]⟩ : ByteArray)⟩ : S60)]), t347, t348)) else (none)) = some (r1, r2, r3) := H
    have A30 := aM A300
    clear A300
    by_cases c31 : x5_1.length < 3518437208883
    rotate_left
    ·rw [if_neg c31] at H
     exact absurd H (by simp)
    rw [if_pos c31] at H
    have LMc31 := aM c31
    clear c31
    obtain ⟨y349, hy349⟩ : ∃ y_ : List (S60), y_ = (x5_1 ++ [(⟨0, t346, (⟨#[]⟩ : ByteArray)⟩ : S60)]) := ⟨_, rfl⟩
    replace H : (some (y349, t347, t348)) = some (r1, r2, r3) := by first | (rw [hy349]; with_reducible exact H) | (have H2_ := (Option.bind_some _ _).symm.trans H; rw [hy349]; with_reducible exact H2_) | (have H2_ := (Option.bind_some _ _).symm.trans H; with_reducible exact H2_) | with_reducible exact H | (rw [hy349]; exact H) | exact H
    have Ny349 := aM hy349
    clear hy349
    simp only [Option.some.injEq, Prod.mk.injEq] at H
    obtain ⟨rfl, rfl, rfl⟩ := H
    go_wp2_with (first | ((with_reducible refine gate_callee (f := 62) rfl ?_); refine goesL_ (some 60) rfl rfl Try.func62 (by kernel_rfl) rfl #[.pointer (some ⟨g, 0, none⟩), .int .i64 3] rfl mM ?_; (with_reducible refine (spec_l1Cur_one.calls g s0_0 x1001_1 x1002_1 3 true t341 t342 w0 _ ?side1 ?side2 A28.out).mono ?_); (case side1 => exact aP0); (case side2 => exact aP2); rintro e w32 ⟨rfl, hi, hb, hk⟩; refine ⟨_, rfl, ?_⟩; replace HO_5 := aM (Kd.R_mono (Kd.R_keep (IsS82.apart (show IsS82 w0 _ g s0_0 x1001_1 x1002_1 from aP0) (rR HO_5.out) (by decide)) hk (fun _ h => h.2)) (fun _ h => h.1)); replace HK := aM (KeepBut.trans aP1 hk (.inl rfl)); replace HB := aM (hb); replace HI0 := aM (hi); (try clear hb); (try clear hb2); (try clear hk); (try clear hi)) | ((with_reducible refine gate_dst (N := 63) rfl ?_); refine Kd.R_lit Kd.string _ 9 ?hg (N := 63) ?hd (xs := ([(⟨#[101, 110, 100]⟩ : ByteArray), (⟨#[46]⟩ : ByteArray)] : List ByteArray)) (inner := [.string (⟨#[101, 110, 100]⟩ : ByteArray), .string (⟨#[46]⟩ : ByteArray)]) (ok := fun _ => True) (okp := fun _ => True) ?hr ?hp (fun _ hk => hk) trivial (Below.refl _ _) (Nat.le_refl _) (by simp) ?_; (case hd => rfl); (case hg => rfl); (case hr => exact aP21); (case hp => exact (Reps.one (show Kd.M Kd.string _ _ _ (⟨#[101, 110, 100]⟩ : ByteArray) [.string (⟨#[101, 110, 100]⟩ : ByteArray)] from rfl) (Reps.one (show Kd.M Kd.string _ _ _ (⟨#[46]⟩ : ByteArray) [.string (⟨#[46]⟩ : ByteArray)] from rfl) (Reps.none _ _)))); intro v344 w33 ho34 hb hg_ hnew_; clear hg_ hnew_; (first | rw [← Ny343.out] at ho34 | (simp only [Int.reduceToNat] at ho34; rw [← Ny343.out] at ho34)); have HO345 := aM (Kd.R_lower ho34 (keep_size (w := w) (g := g) (row := none) aP1)); replace HO_5 := aM (Kd.R_below (rR HO_5.out) hb); replace HI0 := aM (IsS82.below aP0 hb); replace HK := aM (KeepBut.trans aP1 (KeepBut.of_below hb g none) (.inl rfl)); replace HB := aM (below_step aP2 hb); clear hb ho34; obtain ⟨Ao35, co35, eo35⟩ := Kd.R_slice HO345.out; subst eo35) | ((with_reducible refine gate_callee (f := 80) rfl ?_); refine goesL_ (some 64) rfl rfl Try.func80 (by kernel_rfl) rfl #[.pointer (some ⟨g, 0, none⟩), .slice Ao35 y343.length co35] rfl mM ?_; (with_reducible refine (spec_l1Cur_of.calls g s0_0 t341 t342 _ _ y343 t346 t347 t348 w0 _ ?side1 ?side2 ?side3 ?side4 ?side5 A30.out).mono ?_); (case side1 => exact aP0); (case side2 => exact aP2); (case side3 => exact cC ((Kd.R_reads' HO345.out).2.2)); (case side4 => exact (Kd.R_reads' HO345.out).2.1); (case side5 => exact far_slice (IsS82.own_ne HI0.out HO345.out (by decide))); rintro e w36 ⟨rfl, hi, hb, hk⟩; refine ⟨_, rfl, ?_⟩; replace HO_5 := aM (Kd.R_mono (Kd.R_keep (IsS82.apart (show IsS82 w0 _ g s0_0 t341 t342 from aP0) (rR HO_5.out) (by decide)) hk (fun _ h => h.2)) (fun _ h => h.1)); replace HO345 := aM (Kd.R_mono (Kd.R_keep (IsS82.apart (show IsS82 w0 _ g s0_0 t341 t342 from aP0) (rR HO345.out) (by decide)) hk (fun _ h => h.2)) (fun _ h => h.1)); replace HK := aM (KeepBut.trans aP1 hk (.inl rfl)); replace HB := aM (hb); replace HI0 := aM (hi); (try clear hb); (try clear hb2); (try clear hk); (try clear hi)) | ((with_reducible refine gate_builtin (b := .append) (xs := #[.tmp 61, .tmp 66]) rfl ?_); at_builtin; refine Kd.R_append k60 w.heap.size rfl (.tmp 61) (.tmp 66) 26 60 (.agg #[(.int .i64 0), (.string ⟨#[]⟩), (.string ⟨#[]⟩)]) 40 rfl Try.underlying26 info60 rfl (by decide) (by omega) u5 x5_1 (⟨0, t346, (⟨#[]⟩ : ByteArray)⟩ : S60) [.int .i64 0, .string t346, .string (⟨#[]⟩ : ByteArray)] (fun _ => True) (fun _ => False) rfl rfl ?aP (fun _ hk => hk.elim) ?aF ?aO (Below.refl _ _) ?aS ?aL ?_; (case aP => exact k60_mkM _ _ _ (⟨0, t346, (⟨#[]⟩ : ByteArray)⟩ : S60)); (case aF => exact (fun _ _ => trivial)); (case aO => exact (rR HO_5.out)); (case aS => exact (keep_size (w := w) (g := g) (row := none) aP1)); (case aL => have := LMc31.out; omega); intro v350 w37 ho hb hg hat; rw [← Ny349.out] at ho; have HO351 := aM (ho); replace HI0 := aM (IsS82.grown aP0 hg (IsS82.own_ne HI0.out HO_5.out (by decide))); replace HO345 := aM (Kd.R_over' (rR HO345.out) (Kd.R_typed (rR HO_5.out)) (by decide) hg); replace HB := aM (below_weaken aP2 HL.out hb); replace HK := aM (KeepBut.trans aP1 (KeepBut.of_grown hg g) (Kd.R_base2 HO_5.out)); clear ho hb hg hat))
    go_ret
    exact ⟨_, by first | rfl | (simp [errW_none, errW_some] <;> rfl) | (simp [*, errW_none, errW_some] <;> rfl), by (with_reducible repeat (first | apply Kd.R_alloc | apply Kd.R_drewN | apply Kd.R_drew)); exact HO351.out, by exact aP0, by exact aP2, aP1⟩
   rw [if_pos c3] at H
   have c3b0 : decide (x6_1 < (a1.size : Int)) = true := decide_eq_true c3
   clear c3
   replace H := Option.bind_eq_some_iff.mp H
   obtain ⟨⟨t319, t320, t321⟩, A40, H⟩ := H
   replace H : (if (wrap64 (1 + t319)) > (wrap64 ((a1.size : Int) - x6_1)) then (spec_l1Cur_opOn.j1 k1 a1 x5_1 x6_1 (wrap64 ((a1.size : Int) - x6_1)) s0_0 t320 t321) else (spec_l1Cur_opOn.j1 k1 a1 x5_1 x6_1 (wrap64 (1 + t319)) s0_0 t320 t321)) = some (r1, r2, r3) := H
   have A4 := aM A40
   clear A40
   have HC5 := aM H
   clear H
   go_upto_if 20 with (first | ((with_reducible refine gate_callee (f := 60) rfl ?_); refine goesL_ (some 13) rfl rfl Try.func60 (by kernel_rfl) rfl #[.pointer (some ⟨g, 0, none⟩), .int .i64 5] rfl mM ?_; (with_reducible refine (spec_l1Cur_pick.calls g s0_0 x1001_1 x1002_1 5 t319 t320 t321 w0 _ ?side1 ?side2 A4.out).mono ?_); (case side1 => exact aP0); (case side2 => exact aP2); rintro e w6 ⟨rfl, hi, hb, hk⟩; refine ⟨_, rfl, ?_⟩; replace HO_5 := aM (Kd.R_mono (Kd.R_keep (IsS82.apart (show IsS82 w0 _ g s0_0 x1001_1 x1002_1 from aP0) (rR HO_5.out) (by decide)) hk (fun _ h => h.2)) (fun _ h => h.1)); replace HK := aM (KeepBut.trans aP1 hk (.inl rfl)); replace HB := aM (hb); replace HI0 := aM (hi); (try clear hb); (try clear hb2); (try clear hk); (try clear hi)))
   (try simp only [Act.put, List.setIfInBounds_toArray, List.set_cons_zero, List.set_cons_succ])
   go_cut [7] (fun v7 wc => ∃ (kq : Nat) (x7_4 : Int), v7 = .int .i64 x7_4 ∧ Aside0 (spec_l1Cur_opOn.j1 kq a1 x5_1 x6_1 x7_4 s0_0 t320 t321 = some (r1, r2, r3)) ∧ Aside0 (kq ≤ k1) ∧ Aside0 (Kd.R k60 60 wc w.heap.size (fun _ => True) u5 x5_1) ∧ Aside0 (IsS82 w0 wc g s0_0 t320 t321) ∧ Aside0 (KeepBut w wc g none) ∧ Aside0 (Below w0.heap.size w0 wc))
   case first =>
    have H := HC5.out
    clear HC5
    by_cases c7 : (wrap64 (1 + t319)) > (wrap64 ((a1.size : Int) - x6_1))
    rotate_left
    ·rw [if_neg c7] at H
     have c7b0 : decide ((wrap64 ((a1.size : Int) - x6_1)) < (wrap64 (1 + t319))) = false := decide_eq_false c7
     clear c7
     (first | rw [c7b0] | (simp only [i64_w, i32_w]; rw [c7b0]) | rw [c7e] | skip)
     have H' := aM H
     clear H
     go_wp2
     go_meet
     case rel => exact ⟨_, (wrap64 (1 + t319)), aP16, H', ⟨by have := HK1.out; first | omega | exact Nat.le_refl _⟩, ⟨rR HO_5.out⟩, ⟨aP0⟩, ⟨aP1⟩, ⟨aP2⟩⟩
    rw [if_pos c7] at H
    have c7b0 : decide ((wrap64 ((a1.size : Int) - x6_1)) < (wrap64 (1 + t319))) = true := decide_eq_true c7
    clear c7
    (first | rw [c7b0] | (simp only [i64_w, i32_w]; rw [c7b0]) | rw [c7e] | skip)
    have H' := aM H
    clear H
    go_wp2
    go_meet
    case rel => exact ⟨_, (wrap64 ((a1.size : Int) - x6_1)), aP16, H', ⟨by have := HK1.out; first | omega | exact Nat.le_refl _⟩, ⟨rR HO_5.out⟩, ⟨aP0⟩, ⟨aP1⟩, ⟨aP2⟩⟩
   case rest =>
    clear HC5
    try clear p2
    try clear c3
    try clear c3b0
    try clear c5
    try clear c6
    try clear p6
    try clear c7
    try clear c7b0
    try clear p2
    obtain ⟨kq, x7_4, rfl, HA, HJ4, HO_5, HI0, HK, HB⟩ := hcut
    cases kq with
    | zero => exact absurd HA.out (by simp [spec_l1Cur_opOn.j1])
    | succ kj4 =>
     have H := HA.out
     clear HA
     simp only [spec_l1Cur_opOn.j1] at H
     replace H := Option.bind_eq_some_iff.mp H
     obtain ⟨⟨t322, t323, t324⟩, A80, H⟩ := H
     replace H : (if t322 = 0 then (if 0 ≤ x6_1 then (if x6_1 ≤ (wrap64 (x6_1 + x7_4)) then (if (wrap64 (x6_1 + x7_4)) ≤ (a1.size : Int) then (if x5_1.length < 3518437208883 then (spec_l1Cur_opOn.l0 kj4 a1 (x5_1 ++ [(⟨0, (⟨#[]⟩ : ByteArray), a1.extract (x6_1 : Int).toNat ((wrap64 (x6_1 + x7_4)) : Int).toNat⟩ : S60)]) (wrap64 (x6_1 + x7_4)) s0_0 t323 t324) else (none)) else (none)) else (none)) else (none)) else (if t322 = 1 then ((spec_l1Cur_of.f s0_0 t323 t324 (([(⟨#[120]⟩ : ByteArray), (⟨#[121, 121]⟩ : ByteArray), (⟨#[65, 47]⟩ : ByteArray), (⟨#[110, 101, 119]⟩ : ByteArray), (⟨#[66]⟩ : ByteArray)] : List ByteArray))).bind fun bt331 => (if x5_1.length < 3518437208883 then (spec_l1Cur_opOn.l0 kj4 a1 (x5_1 ++ [(⟨0, bt331.1, (⟨#[]⟩ : ByteArray)⟩ : S60)]) x6_1 s0_0 bt331.2.1 bt331.2.2) else (none))) else (if x5_1.length < 3518437208883 then (spec_l1Cur_opOn.l0 kj4 a1 (x5_1 ++ [(⟨x7_4, (⟨#[]⟩ : ByteArray), (⟨#[]⟩ : ByteArray)⟩ : S60)]) (wrap64 (x6_1 + x7_4)) s0_0 t323 t324) else (none)))) = some (r1, r2, r3) := H
     have A8 := aM A80
     clear A80
     by_cases c9 : t322 = 0
     ·rw [if_pos c9] at H
      have c9b0 : (t322 == 0) = true := beq_iff_eq.mpr c9
      have c9b1 : (t322 != 0) = false := bne_eq_false_iff_eq.mpr c9
      clear c9
      by_cases c10 : 0 ≤ x6_1
      rotate_left
      ·rw [if_neg c10] at H
       exact absurd H (by simp)
      rw [if_pos c10] at H
      have c10b0 := eq_true c10
      have c10b1 : decide (0 ≤ x6_1) = true := decide_eq_true c10
      clear c10
      by_cases c11 : x6_1 ≤ (wrap64 (x6_1 + x7_4))
      rotate_left
      ·rw [if_neg c11] at H
       exact absurd H (by simp)
      rw [if_pos c11] at H
      have c11b0 := eq_true c11
      have c11b1 : decide (x6_1 ≤ (wrap64 (x6_1 + x7_4))) = true := decide_eq_true c11
      by_cases c12 : (wrap64 (x6_1 + x7_4)) ≤ (a1.size : Int)
      rotate_left
      ·rw [if_neg c12] at H
       exact absurd H (by simp)
      rw [if_pos c12] at H
      have c12b0 := eq_true c12
      have c12b1 : decide ((wrap64 (x6_1 + x7_4)) ≤ (a1.size : Int)) = true := decide_eq_true c12
      by_cases c13 : x5_1.length < 3518437208883
      rotate_left
      ·rw [if_neg c13] at H
       exact absurd H (by simp)
      rw [if_pos c13] at H
      have LMc13 := aM c13
      clear c13
      obtain ⟨y325, hy325⟩ : ∃ y_ : List (S60), y_ = (x5_1 ++ [(⟨0, (⟨#[]⟩ : ByteArray), a1.extract (x6_1 : Int).toNat ((wrap64 (x6_1 + x7_4)) : Int).toNat⟩ : S60)]) := ⟨_, rfl⟩
      replace H : (spec_l1Cur_opOn.l0 kj4 a1 y325 (wrap64 (x6_1 + x7_4)) s0_0 t323 t324) = some (r1, r2, r3) := by first | (rw [hy325]; with_reducible exact H) | (have H2_ := (Option.bind_some _ _).symm.trans H; rw [hy325]; with_reducible exact H2_) | (have H2_ := (Option.bind_some _ _).symm.trans H; with_reducible exact H2_) | with_reducible exact H | (rw [hy325]; exact H) | exact H
      have Ny325 := aM hy325
      clear hy325
      have H' := aM H
      clear H
      go_wp2_with (first | ((with_reducible refine gate_callee (f := 60) rfl ?_); refine goesL_ (some 26) rfl rfl Try.func60 (by kernel_rfl) rfl #[.pointer (some ⟨g, 0, none⟩), .int .i64 4] rfl mM ?_; (with_reducible refine (spec_l1Cur_pick.calls g s0_0 t320 t321 4 t322 t323 t324 w0 _ ?side1 ?side2 A8.out).mono ?_); (case side1 => exact aP0); (case side2 => exact aP2); rintro e w14 ⟨rfl, hi, hb, hk⟩; refine ⟨_, rfl, ?_⟩; replace HO_5 := aM (Kd.R_mono (Kd.R_keep (IsS82.apart (show IsS82 w0 _ g s0_0 t320 t321 from aP0) (rR HO_5.out) (by decide)) hk (fun _ h => h.2)) (fun _ h => h.1)); replace HK := aM (KeepBut.trans aP1 hk (.inl rfl)); replace HB := aM (hb); replace HI0 := aM (hi); (try clear hb); (try clear hb2); (try clear hk); (try clear hi)) | ((with_reducible refine gate_builtin (b := .append) (xs := #[.tmp 37, .tmp 45]) rfl ?_); at_builtin; refine Kd.R_append k60 w.heap.size rfl (.tmp 37) (.tmp 45) 26 60 (.agg #[(.int .i64 0), (.string ⟨#[]⟩), (.string ⟨#[]⟩)]) 40 rfl Try.underlying26 info60 rfl (by decide) (by omega) u5 x5_1 (⟨0, (⟨#[]⟩ : ByteArray), a1.extract (x6_1 : Int).toNat ((wrap64 (x6_1 + x7_4)) : Int).toNat⟩ : S60) [.int .i64 0, .string (⟨#[]⟩ : ByteArray), .string (a1.extract (x6_1 : Int).toNat ((wrap64 (x6_1 + x7_4)) : Int).toNat)] (fun _ => True) (fun _ => False) rfl rfl ?aP (fun _ hk => hk.elim) ?aF ?aO (Below.refl _ _) ?aS ?aL ?_; (case aP => exact k60_mkM _ _ _ (⟨0, (⟨#[]⟩ : ByteArray), a1.extract (x6_1 : Int).toNat ((wrap64 (x6_1 + x7_4)) : Int).toNat⟩ : S60)); (case aF => exact (fun _ _ => trivial)); (case aO => exact (rR HO_5.out)); (case aS => exact (keep_size (w := w) (g := g) (row := none) aP1)); (case aL => have := LMc13.out; omega); intro v326 w15 ho hb hg hat; rw [← Ny325.out] at ho; have HO327 := aM (ho); replace HI0 := aM (IsS82.grown aP0 hg (IsS82.own_ne HI0.out HO_5.out (by decide))); replace HB := aM (below_weaken aP2 HL.out hb); replace HK := aM (KeepBut.trans aP1 (KeepBut.of_grown hg g) (Kd.R_base2 HO_5.out)); clear ho hb hg hat))
      go_roundg kj4
      case measure => have := HK1.out; have := HJ4.out; omega
      case rel => exact ⟨(y325), (wrap64 (x6_1 + x7_4)), (t323), (t324), aP16, H', ⟨by have := HK1.out; have := HJ4.out; omega⟩, ⟨rR HO327.out⟩, ⟨aP0⟩, ⟨aP1⟩, ⟨aP2⟩⟩
     rw [if_neg c9] at H
     have c9b0 : (t322 == 0) = false := beq_eq_false_iff_ne.mpr c9
     have c9b1 : (t322 != 0) = true := bne_iff_ne.mpr c9
     by_cases c16 : t322 = 1
     rotate_left
     ·rw [if_neg c16] at H
      have c16b0 : (t322 == 1) = false := beq_eq_false_iff_ne.mpr c16
      have c16b1 : (t322 != 1) = true := bne_iff_ne.mpr c16
      by_cases c25 : x5_1.length < 3518437208883
      rotate_left
      ·rw [if_neg c25] at H
       exact absurd H (by simp)
      rw [if_pos c25] at H
      have LMc25 := aM c25
      clear c25
      obtain ⟨y337, hy337⟩ : ∃ y_ : List (S60), y_ = (x5_1 ++ [(⟨x7_4, (⟨#[]⟩ : ByteArray), (⟨#[]⟩ : ByteArray)⟩ : S60)]) := ⟨_, rfl⟩
      replace H : (spec_l1Cur_opOn.l0 kj4 a1 y337 (wrap64 (x6_1 + x7_4)) s0_0 t323 t324) = some (r1, r2, r3) := by first | (rw [hy337]; with_reducible exact H) | (have H2_ := (Option.bind_some _ _).symm.trans H; rw [hy337]; with_reducible exact H2_) | (have H2_ := (Option.bind_some _ _).symm.trans H; with_reducible exact H2_) | with_reducible exact H | (rw [hy337]; exact H) | exact H
      have Ny337 := aM hy337
      clear hy337
      have H' := aM H
      clear H
      go_wp2_with (first | ((with_reducible refine gate_callee (f := 60) rfl ?_); refine goesL_ (some 26) rfl rfl Try.func60 (by kernel_rfl) rfl #[.pointer (some ⟨g, 0, none⟩), .int .i64 4] rfl mM ?_; (with_reducible refine (spec_l1Cur_pick.calls g s0_0 t320 t321 4 t322 t323 t324 w0 _ ?side1 ?side2 A8.out).mono ?_); (case side1 => exact aP0); (case side2 => exact aP2); rintro e w26 ⟨rfl, hi, hb, hk⟩; refine ⟨_, rfl, ?_⟩; replace HO_5 := aM (Kd.R_mono (Kd.R_keep (IsS82.apart (show IsS82 w0 _ g s0_0 t320 t321 from aP0) (rR HO_5.out) (by decide)) hk (fun _ h => h.2)) (fun _ h => h.1)); replace HK := aM (KeepBut.trans aP1 hk (.inl rfl)); replace HB := aM (hb); replace HI0 := aM (hi); (try clear hb); (try clear hb2); (try clear hk); (try clear hi)) | ((with_reducible refine gate_builtin (b := .append) (xs := #[.tmp 27, .tmp 30]) rfl ?_); at_builtin; refine Kd.R_append k60 w.heap.size rfl (.tmp 27) (.tmp 30) 26 60 (.agg #[(.int .i64 0), (.string ⟨#[]⟩), (.string ⟨#[]⟩)]) 40 rfl Try.underlying26 info60 rfl (by decide) (by omega) u5 x5_1 (⟨x7_4, (⟨#[]⟩ : ByteArray), (⟨#[]⟩ : ByteArray)⟩ : S60) [.int .i64 x7_4, .string (⟨#[]⟩ : ByteArray), .string (⟨#[]⟩ : ByteArray)] (fun _ => True) (fun _ => False) rfl rfl ?aP (fun _ hk => hk.elim) ?aF ?aO (Below.refl _ _) ?aS ?aL ?_; (case aP => exact k60_mkM _ _ _ (⟨x7_4, (⟨#[]⟩ : ByteArray), (⟨#[]⟩ : ByteArray)⟩ : S60)); (case aF => exact (fun _ _ => trivial)); (case aO => exact (rR HO_5.out)); (case aS => exact (keep_size (w := w) (g := g) (row := none) aP1)); (case aL => have := LMc25.out; omega); intro v338 w27 ho hb hg hat; rw [← Ny337.out] at ho; have HO339 := aM (ho); replace HI0 := aM (IsS82.grown aP0 hg (IsS82.own_ne HI0.out HO_5.out (by decide))); replace HB := aM (below_weaken aP2 HL.out hb); replace HK := aM (KeepBut.trans aP1 (KeepBut.of_grown hg g) (Kd.R_base2 HO_5.out)); clear ho hb hg hat))
      go_roundg kj4
      case measure => have := HK1.out; have := HJ4.out; omega
      case rel => exact ⟨(y337), (wrap64 (x6_1 + x7_4)), (t323), (t324), aP16, H', ⟨by have := HK1.out; have := HJ4.out; omega⟩, ⟨rR HO339.out⟩, ⟨aP0⟩, ⟨aP1⟩, ⟨aP2⟩⟩
     rw [if_pos c16] at H
     have c16b0 : (t322 == 1) = true := beq_iff_eq.mpr c16
     have c16b1 : (t322 != 1) = false := bne_eq_false_iff_eq.mpr c16
     clear c16
     obtain ⟨y328, hy328⟩ : ∃ y_ : List ByteArray, y_ = (([(⟨#[120]⟩ : ByteArray), (⟨#[121, 121]⟩ : ByteArray), (⟨#[65, 47]⟩ : ByteArray), (⟨#[110, 101, 119]⟩ : ByteArray), (⟨#[66]⟩ : ByteArray)] : List ByteArray)) := ⟨_, rfl⟩
     replace H : ((spec_l1Cur_of.f s0_0 t323 t324 y328).bind fun bt331 => (if x5_1.length < 3518437208883 then (spec_l1Cur_opOn.l0 kj4 a1 (x5_1 ++ [(⟨0, bt331.1, (⟨#[]⟩ : ByteArray)⟩ : S60)]) x6_1 s0_0 bt331.2.1 bt331.2.2) else (none))) = some (r1, r2, r3) := by first | (rw [hy328]; with_reducible exact H) | (have H2_ := (Option.bind_some _ _).symm.trans H; rw [hy328]; with_reducible exact H2_) | (have H2_ := (Option.bind_some _ _).symm.trans H; with_reducible exact H2_) | with_reducible exact H | (rw [hy328]; exact H) | exact H
     have Ny328 := aM hy328
     clear hy328
     replace H := Option.bind_eq_some_iff.mp H
     obtain ⟨⟨t331, t332, t333⟩, A170, H⟩ := H
     replace H : (if x5_1.length < 3518437208883 then (spec_l1Cur_opOn.l0 kj4 a1 (x5_1 ++ [(⟨0, t331, (⟨#[]⟩ : ByteArray)⟩ : S60)]) x6_1 s0_0 t332 t333) else (none)) = some (r1, r2, r3) := H
     have A17 := aM A170
     clear A170
     by_cases c18 : x5_1.length < 3518437208883
     rotate_left
     ·rw [if_neg c18] at H
      exact absurd H (by simp)
     rw [if_pos c18] at H
     have LMc18 := aM c18
     clear c18
     obtain ⟨y334, hy334⟩ : ∃ y_ : List (S60), y_ = (x5_1 ++ [(⟨0, t331, (⟨#[]⟩ : ByteArray)⟩ : S60)]) := ⟨_, rfl⟩
     replace H : (spec_l1Cur_opOn.l0 kj4 a1 y334 x6_1 s0_0 t332 t333) = some (r1, r2, r3) := by first | (rw [hy334]; with_reducible exact H) | (have H2_ := (Option.bind_some _ _).symm.trans H; rw [hy334]; with_reducible exact H2_) | (have H2_ := (Option.bind_some _ _).symm.trans H; with_reducible exact H2_) | with_reducible exact H | (rw [hy334]; exact H) | exact H
     have Ny334 := aM hy334
     clear hy334
     have H' := aM H
     clear H
     go_wp2_with (first | ((with_reducible refine gate_callee (f := 60) rfl ?_); refine goesL_ (some 26) rfl rfl Try.func60 (by kernel_rfl) rfl #[.pointer (some ⟨g, 0, none⟩), .int .i64 4] rfl mM ?_; (with_reducible refine (spec_l1Cur_pick.calls g s0_0 t320 t321 4 t322 t323 t324 w0 _ ?side1 ?side2 A8.out).mono ?_); (case side1 => exact aP0); (case side2 => exact aP2); rintro e w19 ⟨rfl, hi, hb, hk⟩; refine ⟨_, rfl, ?_⟩; replace HO_5 := aM (Kd.R_mono (Kd.R_keep (IsS82.apart (show IsS82 w0 _ g s0_0 t320 t321 from aP0) (rR HO_5.out) (by decide)) hk (fun _ h => h.2)) (fun _ h => h.1)); replace HK := aM (KeepBut.trans aP1 hk (.inl rfl)); replace HB := aM (hb); replace HI0 := aM (hi); (try clear hb); (try clear hb2); (try clear hk); (try clear hi)) | ((with_reducible refine gate_dst (N := 54) rfl ?_); refine Kd.R_lit Kd.string _ 9 ?hg (N := 54) ?hd (xs := ([(⟨#[120]⟩ : ByteArray), (⟨#[121, 121]⟩ : ByteArray), (⟨#[65, 47]⟩ : ByteArray), (⟨#[110, 101, 119]⟩ : ByteArray), (⟨#[66]⟩ : ByteArray)] : List ByteArray)) (inner := [.string (⟨#[120]⟩ : ByteArray), .string (⟨#[121, 121]⟩ : ByteArray), .string (⟨#[65, 47]⟩ : ByteArray), .string (⟨#[110, 101, 119]⟩ : ByteArray), .string (⟨#[66]⟩ : ByteArray)]) (ok := fun _ => True) (okp := fun _ => True) ?hr ?hp (fun _ hk => hk) trivial (Below.refl _ _) (Nat.le_refl _) (by simp) ?_; (case hd => rfl); (case hg => rfl); (case hr => exact aP21); (case hp => exact (Reps.one (show Kd.M Kd.string _ _ _ (⟨#[120]⟩ : ByteArray) [.string (⟨#[120]⟩ : ByteArray)] from rfl) (Reps.one (show Kd.M Kd.string _ _ _ (⟨#[121, 121]⟩ : ByteArray) [.string (⟨#[121, 121]⟩ : ByteArray)] from rfl) (Reps.one (show Kd.M Kd.string _ _ _ (⟨#[65, 47]⟩ : ByteArray) [.string (⟨#[65, 47]⟩ : ByteArray)] from rfl) (Reps.one (show Kd.M Kd.string _ _ _ (⟨#[110, 101, 119]⟩ : ByteArray) [.string (⟨#[110, 101, 119]⟩ : ByteArray)] from rfl) (Reps.one (show Kd.M Kd.string _ _ _ (⟨#[66]⟩ : ByteArray) [.string (⟨#[66]⟩ : ByteArray)] from rfl) (Reps.none _ _))))))); intro v329 w20 ho21 hb hg_ hnew_; clear hg_ hnew_; (first | rw [← Ny328.out] at ho21 | (simp only [Int.reduceToNat] at ho21; rw [← Ny328.out] at ho21)); have HO330 := aM (Kd.R_lower ho21 (keep_size (w := w) (g := g) (row := none) aP1)); replace HO_5 := aM (Kd.R_below (rR HO_5.out) hb); replace HI0 := aM (IsS82.below aP0 hb); replace HK := aM (KeepBut.trans aP1 (KeepBut.of_below hb g none) (.inl rfl)); replace HB := aM (below_step aP2 hb); clear hb ho21; obtain ⟨Ao22, co22, eo22⟩ := Kd.R_slice HO330.out; subst eo22) | ((with_reducible refine gate_callee (f := 80) rfl ?_); refine goesL_ (some 55) rfl rfl Try.func80 (by kernel_rfl) rfl #[.pointer (some ⟨g, 0, none⟩), .slice Ao22 y328.length co22] rfl mM ?_; (with_reducible refine (spec_l1Cur_of.calls g s0_0 t323 t324 _ _ y328 t331 t332 t333 w0 _ ?side1 ?side2 ?side3 ?side4 ?side5 A17.out).mono ?_); (case side1 => exact aP0); (case side2 => exact aP2); (case side3 => exact cC ((Kd.R_reads' HO330.out).2.2)); (case side4 => exact (Kd.R_reads' HO330.out).2.1); (case side5 => exact far_slice (IsS82.own_ne HI0.out HO330.out (by decide))); rintro e w23 ⟨rfl, hi, hb, hk⟩; refine ⟨_, rfl, ?_⟩; replace HO_5 := aM (Kd.R_mono (Kd.R_keep (IsS82.apart (show IsS82 w0 _ g s0_0 t323 t324 from aP0) (rR HO_5.out) (by decide)) hk (fun _ h => h.2)) (fun _ h => h.1)); replace HO330 := aM (Kd.R_mono (Kd.R_keep (IsS82.apart (show IsS82 w0 _ g s0_0 t323 t324 from aP0) (rR HO330.out) (by decide)) hk (fun _ h => h.2)) (fun _ h => h.1)); replace HK := aM (KeepBut.trans aP1 hk (.inl rfl)); replace HB := aM (hb); replace HI0 := aM (hi); (try clear hb); (try clear hb2); (try clear hk); (try clear hi)) | ((with_reducible refine gate_builtin (b := .append) (xs := #[.tmp 52, .tmp 57]) rfl ?_); at_builtin; refine Kd.R_append k60 w.heap.size rfl (.tmp 52) (.tmp 57) 26 60 (.agg #[(.int .i64 0), (.string ⟨#[]⟩), (.string ⟨#[]⟩)]) 40 rfl Try.underlying26 info60 rfl (by decide) (by omega) u5 x5_1 (⟨0, t331, (⟨#[]⟩ : ByteArray)⟩ : S60) [.int .i64 0, .string t331, .string (⟨#[]⟩ : ByteArray)] (fun _ => True) (fun _ => False) rfl rfl ?aP (fun _ hk => hk.elim) ?aF ?aO (Below.refl _ _) ?aS ?aL ?_; (case aP => exact k60_mkM _ _ _ (⟨0, t331, (⟨#[]⟩ : ByteArray)⟩ : S60)); (case aF => exact (fun _ _ => trivial)); (case aO => exact (rR HO_5.out)); (case aS => exact (keep_size (w := w) (g := g) (row := none) aP1)); (case aL => have := LMc18.out; omega); intro v335 w24 ho hb hg hat; rw [← Ny334.out] at ho; have HO336 := aM (ho); replace HI0 := aM (IsS82.grown aP0 hg (IsS82.own_ne HI0.out HO_5.out (by decide))); replace HO330 := aM (Kd.R_over' (rR HO330.out) (Kd.R_typed (rR HO_5.out)) (by decide) hg); replace HB := aM (below_weaken aP2 HL.out hb); replace HK := aM (KeepBut.trans aP1 (KeepBut.of_grown hg g) (Kd.R_base2 HO_5.out)); clear ho hb hg hat))
     go_roundg kj4
     case measure => have := HK1.out; have := HJ4.out; omega
     case rel => exact ⟨(y334), (x6_1), (t332), (t333), aP16, H', ⟨by have := HK1.out; have := HJ4.out; omega⟩, ⟨rR HO336.out⟩, ⟨aP0⟩, ⟨aP1⟩, ⟨aP2⟩⟩
mutual
def spec_l3Apply.l0 : Nat → ByteArray → ByteArray → List (S60) → Int → Int → Option (ByteArray × Bool)
 | 0, _, _, _, _, _ => none
 | k + 1, x1, x6, x10, x11, x12 => if x12 < x11 then (if 0 ≤ x12 then (if x12 < (x10.length : Int) then (if (wrap64 (((rd_T60 x10 x12).f0) + (((rd_T60 x10 x12).f2).size : Int))) > (x1.size : Int) then (spec_l3Apply.j1 k x1 x6 (wrap64 (((rd_T60 x10 x12).f0) + (((rd_T60 x10 x12).f2).size : Int))) x10 x11 x12 true ((rd_T60 x10 x12).f0) ((rd_T60 x10 x12).f1) ((rd_T60 x10 x12).f2)) else (if ((rd_T60 x10 x12).f2).toList = ([] : List UInt8) then (spec_l3Apply.j1 k x1 x6 (wrap64 (((rd_T60 x10 x12).f0) + (((rd_T60 x10 x12).f2).size : Int))) x10 x11 x12 false ((rd_T60 x10 x12).f0) ((rd_T60 x10 x12).f1) ((rd_T60 x10 x12).f2)) else (if 0 ≤ (wrap64 (((rd_T60 x10 x12).f0) + (((rd_T60 x10 x12).f2).size : Int))) then (if (wrap64 (((rd_T60 x10 x12).f0) + (((rd_T60 x10 x12).f2).size : Int))) ≤ (x1.size : Int) then (spec_l3Apply.j1 k x1 x6 (wrap64 (((rd_T60 x10 x12).f0) + (((rd_T60 x10 x12).f2).size : Int))) x10 x11 x12 ((x1.extract 0 ((wrap64 (((rd_T60 x10 x12).f0) + (((rd_T60 x10 x12).f2).size : Int))) : Int).toNat).toList != ((rd_T60 x10 x12).f2).toList) ((rd_T60 x10 x12).f0) ((rd_T60 x10 x12).f1) ((rd_T60 x10 x12).f2)) else (none)) else (none)))) else (none)) else (none)) else (some (x6, (x1.toList == ([] : List UInt8))))
def spec_l3Apply.j1 : Nat → ByteArray → ByteArray → Int → List (S60) → Int → Int → Bool → Int → ByteArray → ByteArray → Option (ByteArray × Bool)
 | 0, _, _, _, _, _, _, _, _, _, _ => none
 | k + 1, x1, x6, x9, x10, x11, x12, x38, x354000, x354001, x354002 => if x38 = true then (some ((⟨#[]⟩ : ByteArray), false)) else (if x354000 > 0 then (if 0 ≤ x9 then (if x9 ≤ (x1.size : Int) then (if x6.size + (x1.extract 0 (x9 : Int).toNat).size ≤ 9223372036854775807 then (if (x6 ++ (x1.extract 0 (x9 : Int).toNat)).size + x354001.size ≤ 9223372036854775807 then (spec_l3Apply.l0 k (x1.extract (x9 : Int).toNat x1.size) ((x6 ++ (x1.extract 0 (x9 : Int).toNat)) ++ x354001) x10 x11 (wrap64 (x12 + 1))) else (none)) else (none)) else (none)) else (none)) else (if x6.size + x354001.size ≤ 9223372036854775807 then (if 0 ≤ x9 then (if x9 ≤ (x1.size : Int) then (spec_l3Apply.l0 k (x1.extract (x9 : Int).toNat x1.size) (x6 ++ x354001) x10 x11 (wrap64 (x12 + 1))) else (none)) else (none)) else (none)))
end
def spec_l3Apply.f (k : Nat) (l0 : List (S60)) (a1 : ByteArray) : Option (ByteArray × Bool) := spec_l3Apply.l0 k a1 (⟨#[]⟩ : ByteArray) l0 (l0.length : Int) 0
theorem spec_l3Apply.mono_l : ∀ k, (∀ y0 y1 y2 y3 y4, LeO (spec_l3Apply.l0 k y0 y1 y2 y3 y4) (spec_l3Apply.l0 (k + 1) y0 y1 y2 y3 y4)) ∧ (∀ y0 y1 y2 y3 y4 y5 y6 y7 y8 y9, LeO (spec_l3Apply.j1 k y0 y1 y2 y3 y4 y5 y6 y7 y8 y9) (spec_l3Apply.j1 (k + 1) y0 y1 y2 y3 y4 y5 y6 y7 y8 y9))
 | 0 => ⟨fun _ _ _ _ _ r h => by simp [spec_l3Apply.l0] at h, fun _ _ _ _ _ _ _ _ _ _ r h => by simp [spec_l3Apply.j1] at h⟩
 | k + 1 => by
  obtain ⟨ih0, ih1⟩ := spec_l3Apply.mono_l k
  refine ⟨?_, ?_⟩
  ·intro y0 y1 y2 y3 y4
   unfold spec_l3Apply.l0
   repeat' (with_reducible first | exact ih0 _ _ _ _ _ | exact ih1 _ _ _ _ _ _ _ _ _ _ | exact LeO.refl _ | exact LeO.none _ | refine LeO.ite ?_ ?_ | refine LeO.bind ?_ (fun _ => ?_))
  ·intro y0 y1 y2 y3 y4 y5 y6 y7 y8 y9
   unfold spec_l3Apply.j1
   repeat' (with_reducible first | exact ih0 _ _ _ _ _ | exact ih1 _ _ _ _ _ _ _ _ _ _ | exact LeO.refl _ | exact LeO.none _ | refine LeO.ite ?_ ?_ | refine LeO.bind ?_ (fun _ => ?_))
theorem spec_l3Apply.mono : ∀ a0 a1 k, LeO (spec_l3Apply.f k a0 a1) (spec_l3Apply.f (k + 1) a0 a1) := by
 intro a0 a1 k
 obtain ⟨ih0, ih1⟩ := spec_l3Apply.mono_l k
 unfold spec_l3Apply.f
 repeat' (with_reducible first | exact ih0 _ _ _ _ _ | exact ih1 _ _ _ _ _ _ _ _ _ _ | exact LeO.refl _ | exact LeO.none _ | refine LeO.ite ?_ ?_ | refine LeO.bind ?_ (fun _ => ?_))
set_option maxHeartbeats 8000000 in
set_option maxRecDepth 100000 in
theorem spec_l3Apply.calls (k : Nat) (A0 : Option Addr) (c0 : Nat) (l0 : List (S60)) (a1 : ByteArray) (r1 : ByteArray) (r2 : Bool) (w : World) (hr0 : Kd.C k60 w A0 l0.length l0) (hc0 : l0.length ≤ c0) (h : spec_l3Apply.f k l0 a1 = some (r1, r2)) :
  Calls Try.prog 61 #[.slice A0 l0.length c0, .string a1] w fun e w' => e = .returned (.tuple #[.string r1, .bool r2]) ∧ Below w.heap.size w w' := by
 have hu60 := Try.underlying60
 have HR0 := aM hr0
 have HC0 := aM hc0
 clear hr0 hc0
 have HB := aM (Below.refl w.heap.size w)
 have H : (spec_l3Apply.l0 k a1 (⟨#[]⟩ : ByteArray) l0 (l0.length : Int) 0) = some (r1, r2) := h
 clear h
 have H' := aM H
 clear H
 go_enter Try.func61, Try.ntmps61
 go_wp2
 repeat (go_quiet (fail); try go_wp2)
 go_loopg [1, 6, 12] k (fun kq v1 v6 v12 w' => ∃ (x1_1 : ByteArray) (x6_1 : ByteArray) (x12_1 : Int), v1 = .string x1_1 ∧ v6 = .string x6_1 ∧ v12 = .int .i64 x12_1 ∧ Aside0 (spec_l3Apply.l0 kq x1_1 x6_1 l0 (l0.length : Int) x12_1 = some (r1, r2)) ∧ Aside0 (kq ≤ k) ∧ Aside0 (Below w.heap.size w w'))
 case atStart => exact ⟨(a1), ((⟨#[]⟩ : ByteArray)), (0), aP16, aP16, aP16, H', ⟨Nat.le_refl _⟩, ⟨bB⟩⟩
 case round =>
  clear H'
  try clear p2
  obtain ⟨x1_1, x6_1, x12_1, rfl, rfl, rfl, HA, HK1, HB⟩ := hrel
  cases gk with
  | zero => exact absurd HA.out (by simp [spec_l3Apply.l0])
  | succ k1 =>
   have H := HA.out
   clear HA
   simp only [spec_l3Apply.l0] at H
   by_cases c3 : x12_1 < (l0.length : Int)
   rotate_left
   ·rw [if_neg c3] at H
    have c3b0 : decide (x12_1 < (l0.length : Int)) = false := decide_eq_false c3
    clear c3
    simp only [Option.some.injEq, Prod.mk.injEq] at H
    obtain ⟨rfl, rfl⟩ := H
    go_wp2
    repeat (go_quiet (fail); try go_wp2)
    go_ret2
    exact ⟨eR, bB⟩
   rw [if_pos c3] at H
   have c3b0 : decide (x12_1 < (l0.length : Int)) = true := decide_eq_true c3
   clear c3
   by_cases c4 : 0 ≤ x12_1
   rotate_left
   ·rw [if_neg c4] at H
    exact absurd H (by simp)
   rw [if_pos c4] at H
   have c4b0 : decide (0 ≤ x12_1) = true := decide_eq_true c4
   clear c4
   by_cases c5 : x12_1 < (l0.length : Int)
   rotate_left
   ·rw [if_neg c5] at H
    exact absurd H (by simp)
   rw [if_pos c5] at H
   have c5b0 : decide (x12_1 < (l0.length : Int)) = true := decide_eq_true c5
   clear c5
   have HC6 := aM H
   clear H
   have p352 : 0 ≤ (x12_1 : Int) := of_decide_eq_true (by assumption)
   have q352 : x12_1 < (l0.length : Int) := of_decide_eq_true (by assumption)
   obtain ⟨ad352, e352, hx352_0, hx352_1, hx352_2⟩ := at_T60 HR0.out x12_1 p352 q352
   cases e352
   replace hx352_0 := hC HB.out hx352_0
   replace hx352_1 := hC HB.out hx352_1
   replace hx352_2 := hC HB.out hx352_2
   replace p352 := eq_true p352
   replace q352 := eq_true q352
   go_upto_region 6 with (first | ((with_reducible refine gate_dst (N := 8) rfl ?_); refine box_event ?hg (N := 8) ?hd (cs := #[.int .i64 0, .string (⟨#[]⟩ : ByteArray), .string (⟨#[]⟩ : ByteArray)]) (t := 60) ?hr ?_; (case hd => rfl); (case hg => rfl); (case hr => exact aP21); intro gb353 hg w7 hbox hb; have BK353 := aM (hbox); have GW353 := aM (bG (w := w) hg); have GE353 := aM (bG (w := w) hg); replace HB := aM (below_step bB hb); clear hb hbox hg; obtain ⟨hcz8_0, hcz8_1, hcz8_2, hfz8_0, hfz8_1, hfz8_2⟩ := bx3 BK353.out))
   repeat (go_quiet (first | ((with_reducible refine gate_dst (N := 8) rfl ?_); refine box_event ?hg (N := 8) ?hd (cs := #[.int .i64 0, .string (⟨#[]⟩ : ByteArray), .string (⟨#[]⟩ : ByteArray)]) (t := 60) ?hr ?_; (case hd => rfl); (case hg => rfl); (case hr => exact aP21); intro gb353 hg w7 hbox hb; have BK353 := aM (hbox); have GW353 := aM (bG (w := w) hg); have GE353 := aM (bG (w := w) hg); replace HB := aM (below_step bB hb); clear hb hbox hg; obtain ⟨hcz8_0, hcz8_1, hcz8_2, hfz8_0, hfz8_1, hfz8_2⟩ := bx3 BK353.out)); go_upto_region 6 with (first | ((with_reducible refine gate_dst (N := 8) rfl ?_); refine box_event ?hg (N := 8) ?hd (cs := #[.int .i64 0, .string (⟨#[]⟩ : ByteArray), .string (⟨#[]⟩ : ByteArray)]) (t := 60) ?hr ?_; (case hd => rfl); (case hg => rfl); (case hr => exact aP21); intro gb353 hg w7 hbox hb; have BK353 := aM (hbox); have GW353 := aM (bG (w := w) hg); have GE353 := aM (bG (w := w) hg); replace HB := aM (below_step bB hb); clear hb hbox hg; obtain ⟨hcz8_0, hcz8_1, hcz8_2, hfz8_0, hfz8_1, hfz8_2⟩ := bx3 BK353.out)))
   (try simp only [Act.put, List.setIfInBounds_toArray, List.set_cons_zero, List.set_cons_succ])
   go_cut [38] (fun v38 wc => ∃ (kq : Nat) (x38_5 : Bool), v38 = .bool x38_5 ∧ Aside0 (spec_l3Apply.j1 kq x1_1 x6_1 (wrap64 (((rd_T60 l0 x12_1).f0) + (((rd_T60 l0 x12_1).f2).size : Int))) l0 (l0.length : Int) x12_1 x38_5 ((rd_T60 l0 x12_1).f0) ((rd_T60 l0 x12_1).f1) ((rd_T60 l0 x12_1).f2) = some (r1, r2)) ∧ Aside0 (kq ≤ k1) ∧ Aside0 (wc.heap[gb353]? = some (.cells #[.int .i64 ((rd_T60 l0 x12_1).f0), .string ((rd_T60 l0 x12_1).f1), .string ((rd_T60 l0 x12_1).f2)] 60 (0, 0))) ∧ Aside0 (Below w.heap.size w wc))
   case first =>
    have H := HC6.out
    clear HC6
    by_cases c9 : (wrap64 (((rd_T60 l0 x12_1).f0) + (((rd_T60 l0 x12_1).f2).size : Int))) > (x1_1.size : Int)
    ·rw [if_pos c9] at H
     have c9b0 : decide ((x1_1.size : Int) < (wrap64 (((rd_T60 l0 x12_1).f0) + (((rd_T60 l0 x12_1).f2).size : Int)))) = true := decide_eq_true c9
     clear c9
     (first | rw [c9b0] | (simp only [i64_w, i32_w]; rw [c9b0]) | rw [c9e] | skip)
     have H' := aM H
     clear H
     go_wp2
     repeat (go_quiet (fail); try go_wp2)
     go_meet
     case rel => exact ⟨_, (true), aP16, H', ⟨by have := HK1.out; first | omega | exact Nat.le_refl _⟩, ⟨by (with_reducible repeat (first | refine blk_drewN ?_ _ | refine blk_drew ?_ | refine blk_alloc ?_ _)); refine blk_put (cs := #[.int .i64 ((rd_T60 l0 x12_1).f0), .string ((rd_T60 l0 x12_1).f1), .string (⟨#[]⟩ : ByteArray)]) ?_ 2 _ rfl; (with_reducible repeat (first | refine blk_drewN ?_ _ | refine blk_drew ?_ | refine blk_alloc ?_ _)); refine blk_put (cs := #[.int .i64 ((rd_T60 l0 x12_1).f0), .string (⟨#[]⟩ : ByteArray), .string (⟨#[]⟩ : ByteArray)]) ?_ 1 _ rfl; (with_reducible repeat (first | refine blk_drewN ?_ _ | refine blk_drew ?_ | refine blk_alloc ?_ _)); refine blk_put (cs := #[.int .i64 0, .string (⟨#[]⟩ : ByteArray), .string (⟨#[]⟩ : ByteArray)]) ?_ 0 _ rfl; (with_reducible repeat (first | refine blk_drewN ?_ _ | refine blk_drew ?_ | refine blk_alloc ?_ _)); exact BK353.out⟩, ⟨aP9⟩⟩
    rw [if_neg c9] at H
    have c9b0 : decide ((x1_1.size : Int) < (wrap64 (((rd_T60 l0 x12_1).f0) + (((rd_T60 l0 x12_1).f2).size : Int)))) = false := decide_eq_false c9
    clear c9
    (first | rw [c9b0] | (simp only [i64_w, i32_w]; rw [c9b0]) | rw [c9e] | skip)
    by_cases c10 : ((rd_T60 l0 x12_1).f2).toList = ([] : List UInt8)
    ·rw [if_pos c10] at H
     have c10b0 : (((rd_T60 l0 x12_1).f2).toList == ([] : List UInt8)) = true := beq_iff_eq.mpr c10
     have c10b1 : (((rd_T60 l0 x12_1).f2).toList != ([] : List UInt8)) = false := bne_eq_false_iff_eq.mpr c10
     try have c10e : ((rd_T60 l0 x12_1).f2).toList.isEmpty = true := List.isEmpty_iff.mpr c10
     clear c10
     have H' := aM H
     clear H
     have hcz11_0 : w7.cell? ⟨gb353, 0, none⟩ = some (.int .i64 0) := (blk_cell BK353.out 0).trans rfl
     have hcz11_1 : w7.cell? ⟨gb353, 1, none⟩ = some (.string (⟨#[]⟩ : ByteArray)) := (blk_cell BK353.out 1).trans rfl
     have hcz11_2 : w7.cell? ⟨gb353, 2, none⟩ = some (.string (⟨#[]⟩ : ByteArray)) := (blk_cell BK353.out 2).trans rfl
     have hfz11_0 := blk_frozen BK353.out 0
     have hfz11_1 := blk_frozen BK353.out 1
     have hfz11_2 := blk_frozen BK353.out 2
     go_wp2
     repeat (go_quiet (fail); try go_wp2)
     go_meet
     case rel => exact ⟨_, (false), aP16, H', ⟨by have := HK1.out; first | omega | exact Nat.le_refl _⟩, ⟨by (with_reducible repeat (first | refine blk_drewN ?_ _ | refine blk_drew ?_ | refine blk_alloc ?_ _)); refine blk_put (cs := #[.int .i64 ((rd_T60 l0 x12_1).f0), .string ((rd_T60 l0 x12_1).f1), .string (⟨#[]⟩ : ByteArray)]) ?_ 2 _ rfl; (with_reducible repeat (first | refine blk_drewN ?_ _ | refine blk_drew ?_ | refine blk_alloc ?_ _)); refine blk_put (cs := #[.int .i64 ((rd_T60 l0 x12_1).f0), .string (⟨#[]⟩ : ByteArray), .string (⟨#[]⟩ : ByteArray)]) ?_ 1 _ rfl; (with_reducible repeat (first | refine blk_drewN ?_ _ | refine blk_drew ?_ | refine blk_alloc ?_ _)); refine blk_put (cs := #[.int .i64 0, .string (⟨#[]⟩ : ByteArray), .string (⟨#[]⟩ : ByteArray)]) ?_ 0 _ rfl; (with_reducible repeat (first | refine blk_drewN ?_ _ | refine blk_drew ?_ | refine blk_alloc ?_ _)); exact BK353.out⟩, ⟨aP9⟩⟩
    rw [if_neg c10] at H
    have c10b0 : (((rd_T60 l0 x12_1).f2).toList == ([] : List UInt8)) = false := beq_eq_false_iff_ne.mpr c10
    have c10b1 : (((rd_T60 l0 x12_1).f2).toList != ([] : List UInt8)) = true := bne_iff_ne.mpr c10
    try have c10e : ((rd_T60 l0 x12_1).f2).toList.isEmpty = false := List.isEmpty_eq_false_iff.mpr c10
    obtain ⟨ji12, hji12⟩ : ∃ j_ : Int, (wrap64 (((rd_T60 l0 x12_1).f0) + (((rd_T60 l0 x12_1).f2).size : Int))) = j_ := ⟨_, rfl⟩
    replace H : (if 0 ≤ (ji12) then (if (ji12) ≤ (x1_1.size : Int) then (spec_l3Apply.j1 k1 x1_1 x6_1 ji12 l0 (l0.length : Int) x12_1 ((x1_1.extract 0 ((ji12) : Int).toNat).toList != ((rd_T60 l0 x12_1).f2).toList) ((rd_T60 l0 x12_1).f0) ((rd_T60 l0 x12_1).f1) ((rd_T60 l0 x12_1).f2)) else (none)) else (none)) = some (r1, r2) := by first | (rw [hji12] at H; exact H) | (simp only [hji12] at H ⊢; exact H)
    (try rw [hji12] at c9b0)
    have hji12w : (IntKind.i64.wrap (((rd_T60 l0 x12_1).f0) + (((rd_T60 l0 x12_1).f2).size : Int))) = ji12 := (i64_w _).trans hji12
    by_cases c13 : 0 ≤ (ji12)
    rotate_left
    ·rw [if_neg c13] at H
     exact absurd H (by simp)
    rw [if_pos c13] at H
    have c13b0 := eq_true c13
    have c13b1 : decide (0 ≤ (ji12)) = true := decide_eq_true c13
    clear c13
    by_cases c14 : (ji12) ≤ (x1_1.size : Int)
    rotate_left
    ·rw [if_neg c14] at H
     exact absurd H (by simp)
    rw [if_pos c14] at H
    have c14b0 := eq_true c14
    have c14b1 : decide ((ji12) ≤ (x1_1.size : Int)) = true := decide_eq_true c14
    clear c14
    have H' := aM H
    clear H
    have hcz15_0 : w7.cell? ⟨gb353, 0, none⟩ = some (.int .i64 0) := (blk_cell BK353.out 0).trans rfl
    have hcz15_1 : w7.cell? ⟨gb353, 1, none⟩ = some (.string (⟨#[]⟩ : ByteArray)) := (blk_cell BK353.out 1).trans rfl
    have hcz15_2 : w7.cell? ⟨gb353, 2, none⟩ = some (.string (⟨#[]⟩ : ByteArray)) := (blk_cell BK353.out 2).trans rfl
    have hfz15_0 := blk_frozen BK353.out 0
    have hfz15_1 := blk_frozen BK353.out 1
    have hfz15_2 := blk_frozen BK353.out 2
    go_wp2
    repeat (go_quiet (fail); try go_wp2)
    go_meet
    case rel => exact ⟨_, (((x1_1.extract 0 ((ji12) : Int).toNat).toList != ((rd_T60 l0 x12_1).f2).toList)), (by first | rfl | (simp; done) | (simp only [← hji12] <;> (first | rfl | (simp; done) | (simp; exact isE _))) | (simp [*]; done)), (by first | exact H' | (rw [hji12]; exact H')), ⟨by have := HK1.out; first | omega | exact Nat.le_refl _⟩, ⟨by (with_reducible repeat (first | refine blk_drewN ?_ _ | refine blk_drew ?_ | refine blk_alloc ?_ _)); refine blk_put (cs := #[.int .i64 ((rd_T60 l0 x12_1).f0), .string ((rd_T60 l0 x12_1).f1), .string (⟨#[]⟩ : ByteArray)]) ?_ 2 _ rfl; (with_reducible repeat (first | refine blk_drewN ?_ _ | refine blk_drew ?_ | refine blk_alloc ?_ _)); refine blk_put (cs := #[.int .i64 ((rd_T60 l0 x12_1).f0), .string (⟨#[]⟩ : ByteArray), .string (⟨#[]⟩ : ByteArray)]) ?_ 1 _ rfl; (with_reducible repeat (first | refine blk_drewN ?_ _ | refine blk_drew ?_ | refine blk_alloc ?_ _)); refine blk_put (cs := #[.int .i64 0, .string (⟨#[]⟩ : ByteArray), .string (⟨#[]⟩ : ByteArray)]) ?_ 0 _ rfl; (with_reducible repeat (first | refine blk_drewN ?_ _ | refine blk_drew ?_ | refine blk_alloc ?_ _)); exact BK353.out⟩, ⟨aP9⟩⟩
   case rest =>
    clear HC6
    try clear c1
    try clear p2
    try clear c3
    try clear c3b0
    try clear p3
    try clear q3
    try clear hx3
    try clear c4
    try clear c4b0
    try clear c5
    try clear c5b0
    try clear c6
    try clear p6
    try clear c9
    try clear c9b0
    try clear c10
    try clear c10b0
    try clear c10b1
    try clear c13
    try clear c13b0
    try clear c13b1
    try clear c14
    try clear c14b0
    try clear c14b1
    try clear hcz11_0
    try clear hcz11_1
    try clear hcz11_2
    try clear hcz15_0
    try clear hcz15_1
    try clear hcz15_2
    try clear hcz8_0
    try clear hcz8_1
    try clear hcz8_2
    try clear hfz11_0
    try clear hfz11_1
    try clear hfz11_2
    try clear hfz15_0
    try clear hfz15_1
    try clear hfz15_2
    try clear hfz8_0
    try clear hfz8_1
    try clear hfz8_2
    try clear hx352_0
    try clear hx352_1
    try clear hx352_2
    try clear p2
    try clear p352
    try clear q352
    obtain ⟨kq, x38_5, rfl, HA, HJ5, BK353, HB⟩ := hcut
    cases kq with
    | zero => exact absurd HA.out (by simp [spec_l3Apply.j1])
    | succ kj5 =>
     have H := HA.out
     clear HA
     simp only [spec_l3Apply.j1] at H
     by_cases c16 : x38_5 = true
     ·subst c16
      replace H : (some ((⟨#[]⟩ : ByteArray), false)) = some (r1, r2) := by rw [if_pos rfl] at H; exact H
      simp only [Option.some.injEq, Prod.mk.injEq] at H
      obtain ⟨rfl, rfl⟩ := H
      go_wp2
      repeat (go_quiet (fail); try go_wp2)
      go_ret2
      exact ⟨eR, aP9⟩
     replace c16 := Bool.eq_false_iff.mpr c16
     subst c16
     replace H : (if ((rd_T60 l0 x12_1).f0) > 0 then (if 0 ≤ (wrap64 (((rd_T60 l0 x12_1).f0) + (((rd_T60 l0 x12_1).f2).size : Int))) then (if (wrap64 (((rd_T60 l0 x12_1).f0) + (((rd_T60 l0 x12_1).f2).size : Int))) ≤ (x1_1.size : Int) then (if x6_1.size + (x1_1.extract 0 ((wrap64 (((rd_T60 l0 x12_1).f0) + (((rd_T60 l0 x12_1).f2).size : Int))) : Int).toNat).size ≤ 9223372036854775807 then (if (x6_1 ++ (x1_1.extract 0 ((wrap64 (((rd_T60 l0 x12_1).f0) + (((rd_T60 l0 x12_1).f2).size : Int))) : Int).toNat)).size + ((rd_T60 l0 x12_1).f1).size ≤ 9223372036854775807 then (spec_l3Apply.l0 kj5 (x1_1.extract ((wrap64 (((rd_T60 l0 x12_1).f0) + (((rd_T60 l0 x12_1).f2).size : Int))) : Int).toNat x1_1.size) ((x6_1 ++ (x1_1.extract 0 ((wrap64 (((rd_T60 l0 x12_1).f0) + (((rd_T60 l0 x12_1).f2).size : Int))) : Int).toNat)) ++ ((rd_T60 l0 x12_1).f1)) l0 (l0.length : Int) (wrap64 (x12_1 + 1))) else (none)) else (none)) else (none)) else (none)) else (if x6_1.size + ((rd_T60 l0 x12_1).f1).size ≤ 9223372036854775807 then (if 0 ≤ (wrap64 (((rd_T60 l0 x12_1).f0) + (((rd_T60 l0 x12_1).f2).size : Int))) then (if (wrap64 (((rd_T60 l0 x12_1).f0) + (((rd_T60 l0 x12_1).f2).size : Int))) ≤ (x1_1.size : Int) then (spec_l3Apply.l0 kj5 (x1_1.extract ((wrap64 (((rd_T60 l0 x12_1).f0) + (((rd_T60 l0 x12_1).f2).size : Int))) : Int).toNat x1_1.size) (x6_1 ++ ((rd_T60 l0 x12_1).f1)) l0 (l0.length : Int) (wrap64 (x12_1 + 1))) else (none)) else (none)) else (none))) = some (r1, r2) := by rw [if_neg (show ¬ (false = true) by decide)] at H; exact H
     by_cases c17 : ((rd_T60 l0 x12_1).f0) > 0
     rotate_left
     ·rw [if_neg c17] at H
      have c17b0 : decide (0 < ((rd_T60 l0 x12_1).f0)) = false := decide_eq_false c17
      clear c17
      by_cases c26 : x6_1.size + ((rd_T60 l0 x12_1).f1).size ≤ 9223372036854775807
      rotate_left
      ·rw [if_neg c26] at H
       exact absurd H (by simp)
      rw [if_pos c26] at H
      have c26b0 := eq_true c26
      have c26b1 : decide (x6_1.size + ((rd_T60 l0 x12_1).f1).size ≤ 9223372036854775807) = true := decide_eq_true c26
      try have c26b2 : (9223372036854775807 < x6_1.size + ((rd_T60 l0 x12_1).f1).size) = False := eq_false (Nat.not_lt.2 c26)
      obtain ⟨ji27, hji27⟩ : ∃ j_ : Int, (wrap64 (((rd_T60 l0 x12_1).f0) + (((rd_T60 l0 x12_1).f2).size : Int))) = j_ := ⟨_, rfl⟩
      replace H : (if 0 ≤ (ji27) then (if (ji27) ≤ (x1_1.size : Int) then (spec_l3Apply.l0 kj5 (x1_1.extract ((ji27) : Int).toNat x1_1.size) (x6_1 ++ ((rd_T60 l0 x12_1).f1)) l0 (l0.length : Int) (wrap64 (x12_1 + 1))) else (none)) else (none)) = some (r1, r2) := by first | (rw [hji27] at H; exact H) | (simp only [hji27] at H ⊢; exact H)
      have hji27w : (IntKind.i64.wrap (((rd_T60 l0 x12_1).f0) + (((rd_T60 l0 x12_1).f2).size : Int))) = ji27 := (i64_w _).trans hji27
      by_cases c28 : 0 ≤ (ji27)
      rotate_left
      ·rw [if_neg c28] at H
       exact absurd H (by simp)
      rw [if_pos c28] at H
      have c28b0 := eq_true c28
      have c28b1 : decide (0 ≤ (ji27)) = true := decide_eq_true c28
      clear c28
      by_cases c29 : (ji27) ≤ (x1_1.size : Int)
      rotate_left
      ·rw [if_neg c29] at H
       exact absurd H (by simp)
      rw [if_pos c29] at H
      have c29b0 := eq_true c29
      have c29b1 : decide ((ji27) ≤ (x1_1.size : Int)) = true := decide_eq_true c29
      clear c29
      have H' := aM H
      clear H
      have hcz30_0 : wc.cell? ⟨gb353, 0, none⟩ = some (.int .i64 ((rd_T60 l0 x12_1).f0)) := (blk_cell BK353.out 0).trans rfl
      have hcz30_1 : wc.cell? ⟨gb353, 1, none⟩ = some (.string ((rd_T60 l0 x12_1).f1)) := (blk_cell BK353.out 1).trans rfl
      have hcz30_2 : wc.cell? ⟨gb353, 2, none⟩ = some (.string ((rd_T60 l0 x12_1).f2)) := (blk_cell BK353.out 2).trans rfl
      have hfz30_0 := blk_frozen BK353.out 0
      have hfz30_1 := blk_frozen BK353.out 1
      have hfz30_2 := blk_frozen BK353.out 2
      go_wp2
      repeat (go_quiet (fail); try go_wp2)
      go_roundg kj5
      case measure => have := HK1.out; have := HJ5.out; omega
      case rel => exact ⟨(x1_1.extract ((ji27) : Int).toNat x1_1.size), (x6_1 ++ ((rd_T60 l0 x12_1).f1)), (wrap64 (x12_1 + 1)), (by first | rfl | (simp; done) | (simp only [← hji27] <;> (first | rfl | (simp; done) | (simp; exact isE _))) | (simp [*]; done)), aP16, aP16, (by first | exact H' | (rw [hji27]; exact H')), ⟨by have := HK1.out; have := HJ5.out; omega⟩, ⟨aP9⟩⟩
     rw [if_pos c17] at H
     have c17b0 : decide (0 < ((rd_T60 l0 x12_1).f0)) = true := decide_eq_true c17
     clear c17
     obtain ⟨ji18, hji18⟩ : ∃ j_ : Int, (wrap64 (((rd_T60 l0 x12_1).f0) + (((rd_T60 l0 x12_1).f2).size : Int))) = j_ := ⟨_, rfl⟩
     replace H : (if 0 ≤ (ji18) then (if (ji18) ≤ (x1_1.size : Int) then (if x6_1.size + (x1_1.extract 0 ((ji18) : Int).toNat).size ≤ 9223372036854775807 then (if (x6_1 ++ (x1_1.extract 0 ((ji18) : Int).toNat)).size + ((rd_T60 l0 x12_1).f1).size ≤ 9223372036854775807 then (spec_l3Apply.l0 kj5 (x1_1.extract ((ji18) : Int).toNat x1_1.size) ((x6_1 ++ (x1_1.extract 0 ((ji18) : Int).toNat)) ++ ((rd_T60 l0 x12_1).f1)) l0 (l0.length : Int) (wrap64 (x12_1 + 1))) else (none)) else (none)) else (none)) else (none)) = some (r1, r2) := by first | (rw [hji18] at H; exact H) | (simp only [hji18] at H ⊢; exact H)
     have hji18w : (IntKind.i64.wrap (((rd_T60 l0 x12_1).f0) + (((rd_T60 l0 x12_1).f2).size : Int))) = ji18 := (i64_w _).trans hji18
     by_cases c19 : 0 ≤ (ji18)
     rotate_left
     ·rw [if_neg c19] at H
      exact absurd H (by simp)
     rw [if_pos c19] at H
     have c19b0 := eq_true c19
     have c19b1 : decide (0 ≤ (ji18)) = true := decide_eq_true c19
     clear c19
     by_cases c20 : (ji18) ≤ (x1_1.size : Int)
     rotate_left
     ·rw [if_neg c20] at H
      exact absurd H (by simp)
     rw [if_pos c20] at H
     have c20b0 := eq_true c20
     have c20b1 : decide ((ji18) ≤ (x1_1.size : Int)) = true := decide_eq_true c20
     clear c20
     by_cases c21 : x6_1.size + (x1_1.extract 0 ((ji18) : Int).toNat).size ≤ 9223372036854775807
     rotate_left
     ·rw [if_neg c21] at H
      exact absurd H (by simp)
     rw [if_pos c21] at H
     have c21b0 := eq_true c21
     have c21b1 : decide (x6_1.size + (x1_1.extract 0 ((ji18) : Int).toNat).size ≤ 9223372036854775807) = true := decide_eq_true c21
     try have c21b2 : (9223372036854775807 < x6_1.size + (x1_1.extract 0 ((ji18) : Int).toNat).size) = False := eq_false (Nat.not_lt.2 c21)
     by_cases c22 : (x6_1 ++ (x1_1.extract 0 ((ji18) : Int).toNat)).size + ((rd_T60 l0 x12_1).f1).size ≤ 9223372036854775807
     rotate_left
     ·rw [if_neg c22] at H
      exact absurd H (by simp)
     rw [if_pos c22] at H
     have c22b0 := eq_true c22
     have c22b1 : decide ((x6_1 ++ (x1_1.extract 0 ((ji18) : Int).toNat)).size + ((rd_T60 l0 x12_1).f1).size ≤ 9223372036854775807) = true := decide_eq_true c22
     try have c22b2 : (9223372036854775807 < (x6_1 ++ (x1_1.extract 0 ((ji18) : Int).toNat)).size + ((rd_T60 l0 x12_1).f1).size) = False := eq_false (Nat.not_lt.2 c22)
     try have c22s := eq_false (Nat.not_lt.2 c22)
     try simp only [ByteArray.size_append] at c22s
     have c23b0 := eq_true (of_decide_eq_true (by assumption) : 0 ≤ (ji18))
     have c24b0 := eq_true (of_decide_eq_true (by assumption) : (ji18) ≤ (x1_1.size : Int))
     have H' := aM H
     clear H
     have hcz25_0 : wc.cell? ⟨gb353, 0, none⟩ = some (.int .i64 ((rd_T60 l0 x12_1).f0)) := (blk_cell BK353.out 0).trans rfl
     have hcz25_1 : wc.cell? ⟨gb353, 1, none⟩ = some (.string ((rd_T60 l0 x12_1).f1)) := (blk_cell BK353.out 1).trans rfl
     have hcz25_2 : wc.cell? ⟨gb353, 2, none⟩ = some (.string ((rd_T60 l0 x12_1).f2)) := (blk_cell BK353.out 2).trans rfl
     have hfz25_0 := blk_frozen BK353.out 0
     have hfz25_1 := blk_frozen BK353.out 1
     have hfz25_2 := blk_frozen BK353.out 2
     go_wp2
     repeat (go_quiet (fail); try go_wp2)
     go_roundg kj5
     case measure => have := HK1.out; have := HJ5.out; omega
     case rel => exact ⟨(x1_1.extract ((ji18) : Int).toNat x1_1.size), ((x6_1 ++ (x1_1.extract 0 ((ji18) : Int).toNat)) ++ ((rd_T60 l0 x12_1).f1)), (wrap64 (x12_1 + 1)), aP19, aP19, aP16, (by first | exact H' | (rw [hji18]; exact H')), ⟨by have := HK1.out; have := HJ5.out; omega⟩, ⟨aP9⟩⟩
def spec_l1Cur_among.f (s0_0 : List Int) (s0_1 : Int) (s0_2 : Int) (l1 : List Int) : Option (Int × Int × Int) := (spec_l1Cur_pick.f s0_0 s0_1 s0_2 (l1.length : Int)).bind fun bt354 => (if 0 ≤ bt354.1 then (if bt354.1 < (l1.length : Int) then (some (rd l1 bt354.1, bt354.2.1, bt354.2.2)) else (none)) else (none))
set_option maxHeartbeats 8000000 in
set_option maxRecDepth 100000 in
theorem spec_l1Cur_among.calls (g : Nat) (s0_0 : List Int) (s0_1 : Int) (s0_2 : Int) (A1 : Option Addr) (c1 : Nat) (l1 : List Int) (r1 : Int) (r2 : Int) (r3 : Int) (w0 w : World) (hI : IsS82 w0 w g s0_0 s0_1 s0_2) (hB : Below w0.heap.size w0 w) (hr1 : Kd.C (Kd.int .i64) w A1 l1.length l1) (hc1 : l1.length ≤ c1) (hf1 : ∀ ad, A1 = some ad → 0 < l1.length → ad.block ≠ g) (h : spec_l1Cur_among.f s0_0 s0_1 s0_2 l1 = some (r1, r2, r3)) :
  Calls Try.prog 82 #[.pointer (some ⟨g, 0, none⟩), .slice A1 l1.length c1] w fun e w' => e = .returned (.int .i64 r1) ∧ IsS82 w0 w' g s0_0 r2 r3 ∧ Below w0.heap.size w0 w' ∧ KeepBut w w' g none := by
 have HR1 := aM hr1
 have HC1 := aM hc1
 clear hr1 hc1
 have HI0 := aM hI
 have HK := aM (KeepBut.refl w g none)
 have HL := aM hB.size
 clear hI
 have HW0 := aM hB.size
 have HB := aM hB
 clear hB
 have H : ((spec_l1Cur_pick.f s0_0 s0_1 s0_2 (l1.length : Int)).bind fun bt354 => (if 0 ≤ bt354.1 then (if bt354.1 < (l1.length : Int) then (some (rd l1 bt354.1, bt354.2.1, bt354.2.2)) else (none)) else (none))) = some (r1, r2, r3) := h
 clear h
 replace H := Option.bind_eq_some_iff.mp H
 obtain ⟨⟨t354, t355, t356⟩, A30, H⟩ := H
 replace H : (if 0 ≤ t354 then (if t354 < (l1.length : Int) then (some (rd l1 t354, t355, t356)) else (none)) else (none)) = some (r1, r2, r3) := H
 have A3 := aM A30
 clear A30
 by_cases c4 : 0 ≤ t354
 rotate_left
 ·rw [if_neg c4] at H
  exact absurd H (by simp)
 rw [if_pos c4] at H
 have c4b0 : decide (0 ≤ t354) = true := decide_eq_true c4
 clear c4
 by_cases c5 : t354 < (l1.length : Int)
 rotate_left
 ·rw [if_neg c5] at H
  exact absurd H (by simp)
 rw [if_pos c5] at H
 have c5b0 : decide (t354 < (l1.length : Int)) = true := decide_eq_true c5
 clear c5
 simp only [Option.some.injEq, Prod.mk.injEq] at H
 obtain ⟨rfl, rfl, rfl⟩ := H
 go_enter Try.func82, Try.ntmps82
 go_wp2_with (first | ((with_reducible refine gate_callee (f := 60) rfl ?_); refine goesL_ (some 9) rfl rfl Try.func60 (by kernel_rfl) rfl #[.pointer (some ⟨g, 0, none⟩), .int .i64 (l1.length : Int)] rfl mM ?_; (with_reducible refine (spec_l1Cur_pick.calls g s0_0 s0_1 s0_2 (l1.length : Int) t354 t355 t356 w0 _ ?side1 ?side2 A3.out).mono ?_); (case side1 => exact aP0); (case side2 => exact aP2); rintro e w6 ⟨rfl, hi, hb, hk⟩; refine ⟨_, rfl, ?_⟩; replace HK := aM (KeepBut.trans aP1 hk (.inl rfl)); replace HB := aM (hb); replace HI0 := aM (hi); (try clear hb); (try clear hb2); (try clear hk); (try clear hi); have p357 : 0 ≤ (t354 : Int) := of_decide_eq_true (by assumption); have q357 : t354 < (l1.length : Int) := of_decide_eq_true (by assumption); obtain ⟨ad357, e357, hx357_0⟩ := Kd.at_int HR1.out t354 p357 q357; cases e357; replace hx357_0 := keep_cell HK.out hx357_0 (by first | (rw [add_block]; exact hf1 _ rfl (by omega)) | exact hf1 _ rfl (by omega) | exact hf1 ad357 rfl (by omega)); replace p357 := eq_true p357; replace q357 := eq_true q357))
 go_ret
 exact ⟨eR, by (try simp only [Int.add_zero]); exact aP0, by exact aP2, aP1⟩
end Go.Proofs.Ytoagljlnfakgjaa.PFnOver
