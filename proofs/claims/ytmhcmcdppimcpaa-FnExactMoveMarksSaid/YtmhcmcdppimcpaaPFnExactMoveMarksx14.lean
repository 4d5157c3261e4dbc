/- (thin) Written by a program of this session (wip/ovl.py) over the kit's print: plain functions with the answers of the Go functions, and the proofs that they are; no condition. -/
import Derived.Test.YtmhcmcdppimcpaaPFnExactMoveMarksx0
import Derived.Test.YtmhcmcdppimcpaaPFnExactMoveMarksx9
import Derived.Test.YtmhcmcdppimcpaaPFnExactMoveMarksx10
import Derived.Test.YtmhcmcdppimcpaaPFnExactMoveMarksx11
import Derived.Test.YtmhcmcdppimcpaaPFnExactMoveMarksx13
namespace Go.Proofs.Ytmhcmcdppimcpaa.PFnExactMoveMarks
open Go.RowKit Go.Proofs.YtmhcmcdppimcpaaW.PrintWords Go.Proofs.YtmhcmcdppimcpaaW.PrintLast Go.Proofs.YtmhcmcdppimcpaaW.PrintMore
attribute [local go_sem] max2_int min2_int max_two min_two max_three min_three max_four min_four   -- for this text's walks alone
set_option linter.unusedVariables false
set_option linter.unusedSimpArgs false
mutual
def impl_MoveMarks.j0 : Nat → List (S61) → List (S67) → Int → Bool → Option ((List (S67)) × Bool)
 | 0, _, _, _, _ => none
 | k + 1, x0, x1, x7, x25 => if x25 = true then (some (([] : List (S67)), false)) else ((impl_normal.f x0).bind fun t297 => (impl_MoveMarks.l0 k t297 x7 ([] : List (S67)) x1 (x1.length : Int) 0))
def impl_MoveMarks.l0 : Nat → List (S61) → Int → List (S67) → List (S67) → Int → Int → Option ((List (S67)) × Bool)
 | 0, _, _, _, _, _, _ => none
 | k + 1, x0, x7, x9, x28, x29, x30 => if x30 < x29 then (if 0 ≤ x30 then (if x30 < (x28.length : Int) then ((impl_movePlace.f k x0 ((rd_T67 x28 x30).f0) true).bind fun t309 => ((impl_movePlace.f k x0 ((rd_T67 x28 x30).f1) false).bind fun t310 => (if t309 < t310 then (if x9.length < 4398046511104 then (impl_MoveMarks.l0 k x0 x7 (x9 ++ [(⟨t309, t310, (rd_T67 x28 x30).f2⟩ : S67)]) x28 x29 (wrap64 (x30 + 1))) else (none)) else (impl_MoveMarks.l0 k x0 x7 x9 x28 x29 (wrap64 (x30 + 1)))))) else (none)) else (none)) else ((impl_joined.f k x9).bind fun t300 => ((impl_goodMarks.f k t300 x7).bind fun bt303 => (some (bt303.1, bt303.2))))
end
def impl_MoveMarks.f (k : Nat) (l0 : List (S61)) (l1 : List (S67)) : Option ((List (S67)) × Bool) := (impl_SizesOf.f k l0).bind fun bt293 => (if bt293.2.2 = true then ((impl_GoodMarks.f k l1 bt293.1).bind fun t296 => (impl_MoveMarks.j0 k l0 l1 bt293.2.1 (!t296))) else (impl_MoveMarks.j0 k l0 l1 bt293.2.1 true))
theorem impl_MoveMarks.mono_l : ∀ k, (∀ y0 y1 y2 y3, LeO (impl_MoveMarks.j0 k y0 y1 y2 y3) (impl_MoveMarks.j0 (k + 1) y0 y1 y2 y3)) ∧ (∀ y0 y1 y2 y3 y4 y5, LeO (impl_MoveMarks.l0 k y0 y1 y2 y3 y4 y5) (impl_MoveMarks.l0 (k + 1) y0 y1 y2 y3 y4 y5))
 | 0 => ⟨fun _ _ _ _ r h => by simp [impl_MoveMarks.j0] at h, fun _ _ _ _ _ _ r h => by simp [impl_MoveMarks.l0] at h⟩
 | k + 1 => by
  obtain ⟨ih0, ih1⟩ := impl_MoveMarks.mono_l k
  refine ⟨?_, ?_⟩
  ·intro y0 y1 y2 y3
   unfold impl_MoveMarks.j0
   repeat' (with_reducible first | exact ih0 _ _ _ _ | exact ih1 _ _ _ _ _ _ | exact impl_GoodMarks.mono _ _ _ | exact impl_SizesOf.mono _ _ | exact impl_goodMarks.mono _ _ _ | exact impl_joined.mono _ _ | exact impl_movePlace.mono _ _ _ _ | exact LeO.refl _ | exact LeO.none _ | refine LeO.ite ?_ ?_ | refine LeO.bind ?_ (fun _ => ?_))
  ·intro y0 y1 y2 y3 y4 y5
   unfold impl_MoveMarks.l0
   repeat' (with_reducible first | exact ih0 _ _ _ _ | exact ih1 _ _ _ _ _ _ | exact impl_GoodMarks.mono _ _ _ | exact impl_SizesOf.mono _ _ | exact impl_goodMarks.mono _ _ _ | exact impl_joined.mono _ _ | exact impl_movePlace.mono _ _ _ _ | exact LeO.refl _ | exact LeO.none _ | refine LeO.ite ?_ ?_ | refine LeO.bind ?_ (fun _ => ?_))
theorem impl_MoveMarks.mono : ∀ a0 a1 k, LeO (impl_MoveMarks.f k a0 a1) (impl_MoveMarks.f (k + 1) a0 a1) := by
 intro a0 a1 k
 obtain ⟨ih0, ih1⟩ := impl_MoveMarks.mono_l k
 unfold impl_MoveMarks.f
 repeat' (with_reducible first | exact ih0 _ _ _ _ | exact ih1 _ _ _ _ _ _ | exact impl_GoodMarks.mono _ _ _ | exact impl_SizesOf.mono _ _ | exact impl_goodMarks.mono _ _ _ | exact impl_joined.mono _ _ | exact impl_movePlace.mono _ _ _ _ | exact LeO.refl _ | exact LeO.none _ | refine LeO.ite ?_ ?_ | refine LeO.bind ?_ (fun _ => ?_))
def impl_MoveMarks.T9 : Bool × List (List Nat × List Nat) := (true, [([], []), ([], []), ([1], [1]), ([0, 2], [0, 2]), ([], []), ([], []), ([5], [5]), ([4, 6, 3], [4, 6]), ([0, 1, 2, 3, 5, 6], []), ([8, 3, 7, 0, 1, 2, 3, 5, 6], [3, 8]), ([0, 1, 2, 3, 4, 5, 6, 7, 8, 9], []), ([10, 7, 9, 0, 1, 2, 3, 4, 5, 6, 7, 8, 9], [7, 10])])
def impl_MoveMarks.B9 : List Nat := [0, 0, 2, 7, 0, 0, 32, 127, 111, 511, 1023, 2047]
theorem impl_MoveMarks.tab9 : rtab .any (opsOf Try.f30 9) = impl_MoveMarks.T9 := by kernel_rfl
theorem impl_MoveMarks.bits9 : waitsOk impl_MoveMarks.T9.2 impl_MoveMarks.B9 = true := by kernel_rfl
set_option maxHeartbeats 8000000 in
set_option maxRecDepth 100000 in
theorem impl_MoveMarks.calls (k : Nat) (A0 : Option Addr) (c0 : Nat) (l0 : List (S61)) (A1 : Option Addr) (c1 : Nat) (l1 : List (S67)) (r1 : List (S67)) (r2 : Bool) (w : World) (hr0 : Kd.C k61 w A0 l0.length l0) (hc0 : l0.length ≤ c0) (hr1 : Kd.C k67 w A1 l1.length l1) (hc1 : l1.length ≤ c1) (h : impl_MoveMarks.f k l0 l1 = some (r1, r2)) :
  Calls Try.prog 30 #[.slice A0 l0.length c0, .slice A1 l1.length c1] w fun e w' => ∃ v0_ : Value, e = .returned (.tuple #[v0_, .bool r2]) ∧ Kd.R k67 67 w' w.heap.size (fun _ => True) v0_ r1 ∧ Below w.heap.size w w' := by
 have hu67 := Try.underlying67
 have HR0 := aM hr0
 have HC0 := aM hc0
 clear hr0 hc0
 have HR1 := aM hr1
 have HC1 := aM hc1
 clear hr1 hc1
 have HB := aM (Below.refl w.heap.size w)
 have H : ((impl_SizesOf.f k l0).bind fun bt293 => (if bt293.2.2 = true then ((impl_GoodMarks.f k l1 bt293.1).bind fun t296 => (impl_MoveMarks.j0 k l0 l1 bt293.2.1 (!t296))) else (impl_MoveMarks.j0 k l0 l1 bt293.2.1 true))) = some (r1, r2) := h
 clear h
 replace H := Option.bind_eq_some_iff.mp H
 obtain ⟨⟨t293, t294, t295⟩, A30, H⟩ := H
 replace H : (if t295 = true then ((impl_GoodMarks.f k l1 t293).bind fun t296 => (impl_MoveMarks.j0 k l0 l1 t294 (!t296))) else (impl_MoveMarks.j0 k l0 l1 t294 true)) = some (r1, r2) := H
 have A3 := aM A30
 clear A30
 have HC4 := aM H
 clear H
 go_enter Try.func30, Try.ntmps30
 go_upto_region 2 with (first | ((with_reducible refine gate_callee (f := 57) rfl ?_); refine goesL_ (some 14) rfl rfl Try.func57 (by kernel_rfl) rfl #[.slice A0 l0.length c0] rfl mM ?_; (with_reducible refine (impl_SizesOf.calls k _ _ l0 t293 t294 t295 _ ?side1 ?side2 A3.out).mono ?_); (case side1 => exact cC HR0.out); (case side2 => exact HC0.out); rintro e w5 ⟨rfl, hb⟩; refine ⟨_, rfl, ?_⟩; replace HB := aM (below_step bB hb); (try clear hb); (try clear hb2); (try clear hk); (try clear hi)))
 (try simp only [Act.put, List.setIfInBounds_toArray, List.set_cons_zero, List.set_cons_succ])
 go_cut [25] (fun v25 wc => ∃ (kq : Nat) (x25_3 : Bool), v25 = .bool x25_3 ∧ Aside0 (impl_MoveMarks.j0 kq l0 l1 t294 x25_3 = some (r1, r2)) ∧ Aside0 (kq ≤ k) ∧ Aside0 (Below w.heap.size w wc))
 case first =>
  have H := HC4.out
  clear HC4
  by_cases c6 : t295 = true
  rotate_left
  ·replace c6 := Bool.eq_false_iff.mpr c6
   subst c6
   replace H : (impl_MoveMarks.j0 k l0 l1 t294 true) = some (r1, r2) := by rw [if_neg (show ¬ (false = true) by decide)] at H; exact H
   have H' := aM H
   clear H
   go_wp2
   go_meet
   case rel => exact ⟨_, (true), aP32, H', ⟨by first | omega | exact Nat.le_refl _⟩, ⟨bB⟩⟩
  subst c6
  replace H : ((impl_GoodMarks.f k l1 t293).bind fun t296 => (impl_MoveMarks.j0 k l0 l1 t294 (!t296))) = some (r1, r2) := by rw [if_pos rfl] at H; exact H
  replace H := Option.bind_eq_some_iff.mp H
  obtain ⟨t296, A70, H⟩ := H
  replace H : (impl_MoveMarks.j0 k l0 l1 t294 (!t296)) = some (r1, r2) := H
  have A7 := aM A70
  clear A70
  have H' := aM H
  clear H
  go_wp2_with (first | (go_at_call 14; (with_reducible refine (impl_GoodMarks.calls k _ _ l1 t293 t296 _ ?side1 ?side2 A7.out).mono ?_); (case side1 => exact cC (Kd.C_below HR1.out HB.out)); (case side2 => exact HC1.out); rintro e w8 ⟨rfl, hb⟩; replace HB := aM (below_step bB hb); (try clear hb); (try clear hb2); (try clear hk); (try clear hi)))
  go_meet
  case rel => exact ⟨_, (!t296), aP32, H', ⟨by first | omega | exact Nat.le_refl _⟩, ⟨bB⟩⟩
 case rest =>
  clear HC4
  try clear c1
  try clear p2
  try clear c3
  try clear c5
  try clear c6
  obtain ⟨kq, x25_3, rfl, HA, HJ3, HB⟩ := hcut
  cases kq with
  | zero => exact absurd HA.out (by simp [impl_MoveMarks.j0])
  | succ kj3 =>
   have H := HA.out
   clear HA
   simp only [impl_MoveMarks.j0] at H
   by_cases c9 : x25_3 = true
   ·subst c9
    replace H : (some (([] : List (S67)), false)) = some (r1, r2) := by rw [if_pos rfl] at H; exact H
    simp only [Option.some.injEq, Prod.mk.injEq] at H
    obtain ⟨rfl, rfl⟩ := H
    go_wp2
    go_ret2
    exact ⟨_, by first | rfl | (simp [errW_none, errW_some] <;> rfl) | (simp [*, errW_none, errW_some] <;> rfl), by first | exact Kd.R_nil _ _ _ _ _ | exact Kd.N_nil _ _ _ _ _ | exact Kd.V_nil _ _ _ _ _ | exact Kd.Q_nil _ _ _ _ _ | exact Kd.S_nil _ _ _ _ _, bB⟩
   replace c9 := Bool.eq_false_iff.mpr c9
   subst c9
   replace H : ((impl_normal.f l0).bind fun t297 => (impl_MoveMarks.l0 kj3 t297 t294 ([] : List (S67)) l1 (l1.length : Int) 0)) = some (r1, r2) := by rw [if_neg (show ¬ (false = true) by decide)] at H; exact H
   replace H := Option.bind_eq_some_iff.mp H
   obtain ⟨t297, A100, H⟩ := H
   replace H : (impl_MoveMarks.l0 kj3 t297 t294 ([] : List (S67)) l1 (l1.length : Int) 0) = some (r1, r2) := H
   have A10 := aM A100
   clear A100
   have H' := aM H
   clear H
   go_wp2_with (first | ((with_reducible refine gate_callee (f := 58) rfl ?_); refine goesL_ (some 27) rfl rfl Try.func58 (by kernel_rfl) rfl #[.slice A0 l0.length c0] rfl mM ?_; (with_reducible refine (impl_normal.calls _ _ l0 t297 _ ?side1 ?side2 A10.out).mono ?_); (case side1 => exact cC (Kd.C_below HR0.out HB.out)); (case side2 => exact HC0.out); rintro e w11 ⟨v298, rfl, ho0, hb⟩; refine ⟨_, rfl, ?_⟩; have HO299 := aM (Kd.R_lower ho0 (below_size bB)); replace HB := aM (below_step bB hb); (try clear hb); (try clear hb2); (try clear hk); (try clear hi); (try clear ho0)))
   go_loopg [9, 30] kj3 (fun kq v9 v30 w' => ∃ (x9_2 : List (S67)) (x30_2 : Int), v30 = .int .i64 x30_2 ∧ Aside0 (impl_MoveMarks.l0 kq t297 t294 x9_2 l1 (l1.length : Int) x30_2 = some (r1, r2)) ∧ Aside0 (kq ≤ kj3) ∧ Aside0 (Kd.R k61 61 w' w.heap.size (fun _ => True) v298 t297) ∧ Aside0 (Kd.R k67 67 w' w.heap.size (fun _ => True) v9 x9_2) ∧ Aside0 (Below w.heap.size w w'))
   case atStart => exact ⟨(([] : List (S67))), (0), aP32, H', ⟨Nat.le_refl _⟩, ⟨rR HO299.out⟩, ⟨by first | exact Kd.R_nil _ _ _ _ _ | exact Kd.N_nil _ _ _ _ _ | exact Kd.V_nil _ _ _ _ _ | exact Kd.Q_nil _ _ _ _ _ | exact Kd.S_nil _ _ _ _ _⟩, ⟨bB⟩⟩
   case round =>
    clear H'
    try clear c1
    try clear p2
    try clear c3
    try clear c5
    try clear c6
    try clear c9
    try clear p2
    obtain ⟨x9_2, x30_2, rfl, HA, HK2, HO_0, HO_9, HB⟩ := hrel
    cases gk with
    | zero => exact absurd HA.out (by simp [impl_MoveMarks.l0])
    | succ k2 =>
     have H := HA.out
     clear HA
     simp only [impl_MoveMarks.l0] at H
     by_cases c12 : x30_2 < (l1.length : Int)
     rotate_left
     ·rw [if_neg c12] at H
      have c12b0 : decide (x30_2 < (l1.length : Int)) = false := decide_eq_false c12
      clear c12
      replace H := Option.bind_eq_some_iff.mp H
      obtain ⟨t300, A400, H⟩ := H
      replace H : ((impl_goodMarks.f k2 t300 t294).bind fun bt303 => (some (bt303.1, bt303.2))) = some (r1, r2) := H
      have A40 := aM A400
      clear A400
      replace H := Option.bind_eq_some_iff.mp H
      obtain ⟨⟨t303, t306⟩, A410, H⟩ := H
      replace H : (some (t303, t306)) = some (r1, r2) := H
      have A41 := aM A410
      clear A410
      simp only [Option.some.injEq, Prod.mk.injEq] at H
      obtain ⟨rfl, rfl⟩ := H
      obtain ⟨Ao42, co42, eo42⟩ := Kd.R_slice HO_9.out
      subst eo42
      go_wp2_with (first | ((with_reducible refine gate_callee (f := 60) rfl ?_); refine goesL_ (some 55) rfl rfl Try.func60 (by kernel_rfl) rfl #[.slice Ao42 x9_2.length co42] rfl mM ?_; (with_reducible refine (impl_joined.calls k2 _ _ x9_2 t300 _ ?side1 ?side2 A40.out).mono ?_); (case side1 => exact cC ((Kd.R_reads' HO_9.out).2.2)); (case side2 => exact (Kd.R_reads' HO_9.out).2.1); rintro e w43 ⟨v301, rfl, ho0, hb⟩; refine ⟨_, rfl, ?_⟩; have HO302 := aM (Kd.R_lower (Kd.R_new' ho0 (Kd.R_lt (rR HO_9.out))) (below_size bB)); replace HO_0 := aM (Kd.R_below (rR HO_0.out) hb); replace HO_9 := aM (Kd.R_elder' (rR HO_9.out) (Kd.R_base ho0) hb); replace HB := aM (below_step bB hb); (try clear hb); (try clear hb2); (try clear hk); (try clear hi); (try clear ho0); obtain ⟨Ao44, co44, eo44⟩ := Kd.R_slice HO302.out; subst eo44) | ((with_reducible refine gate_callee (f := 50) rfl ?_); refine goesL_ (some 57) rfl rfl Try.func50 (by kernel_rfl) rfl #[.slice Ao44 t300.length co44, .int .i64 t294] rfl mM ?_; (with_reducible refine (impl_goodMarks.calls k2 (fun k_ => some k_ = (.slice Ao44 t300.length co44 : Value).ownBlock) (.slice Ao44 t300.length co44) t300 t294 t303 t306 w _ ?side1 ?side2 A41.out).mono ?_); (case side1 => exact bB); (case side2 => exact Kd.R_tight rfl HO302.out); rintro e w45 ⟨v304, rfl, ho0, hb, hkp⟩; refine ⟨_, rfl, ?_⟩; have HO305 := aM (Kd.R_mono (ok' := fun k_ => some k_ ≠ (.slice Ao42 x9_2.length co42 : Value).ownBlock) ho0 (fun k_ hk_ => Or.elim hk_ (fun hs_ => fun e_ => (((HO_9.out).1 k_ e_.symm).2) hs_) (fun hn_ => (Kd.fresh' (Kd.R_lt (rR HO_9.out)) k_ hn_)))); replace HO_0 := aM (Kd.R_mono (ok' := fun k_ => True) (Kd.R_keptB ((Kd.R_apart' HO_0.out (Kd.R_typed HO302.out) (by decide))) hkp (fun k_ hk_ hs_ => (hk_.2) hs_)) (fun k_ hk_ => trivial)); replace HO_9 := aM (Kd.R_mono (ok' := fun k_ => some k_ ≠ (v304 : Value).ownBlock) (Kd.R_keptB (HO_9.out) hkp (fun k_ hk_ hs_ => (hk_.2) hs_)) (fun k_ hk_ => fun e_ => Or.elim (ho0.1 k_ e_.symm) (fun hs_ => hk_.2.1 hs_) (fun hn_ => Nat.not_le.2 hk_.2.2 hn_))); replace HB := aM (hb); (try clear hb); (try clear hkp); (try clear ho0)))
      go_ret2
      exact ⟨_, by first | rfl | (simp [errW_none, errW_some] <;> rfl) | (simp [*, errW_none, errW_some] <;> rfl), by (with_reducible repeat (first | apply Kd.R_alloc | apply Kd.R_drewN | apply Kd.R_drew)); exact Kd.R_mono HO305.out (fun _ hk => trivial), bB⟩
     rw [if_pos c12] at H
     have c12b0 : decide (x30_2 < (l1.length : Int)) = true := decide_eq_true c12
     clear c12
     by_cases c13 : 0 ≤ x30_2
     rotate_left
     ·rw [if_neg c13] at H
      exact absurd H (by simp)
     rw [if_pos c13] at H
     have c13b0 : decide (0 ≤ x30_2) = true := decide_eq_true c13
     clear c13
     by_cases c14 : x30_2 < (l1.length : Int)
     rotate_left
     ·rw [if_neg c14] at H
      exact absurd H (by simp)
     rw [if_pos c14] at H
     have c14b0 : decide (x30_2 < (l1.length : Int)) = true := decide_eq_true c14
     clear c14
     replace H := Option.bind_eq_some_iff.mp H
     obtain ⟨t309, A150, H⟩ := H
     replace H : ((impl_movePlace.f k2 t297 ((rd_T67 l1 x30_2).f1) false).bind fun t310 => (if t309 < t310 then (if x9_2.length < 4398046511104 then (impl_MoveMarks.l0 k2 t297 t294 (x9_2 ++ [(⟨t309, t310, (rd_T67 l1 x30_2).f2⟩ : S67)]) l1 (l1.length : Int) (wrap64 (x30_2 + 1))) else (none)) else (impl_MoveMarks.l0 k2 t297 t294 x9_2 l1 (l1.length : Int) (wrap64 (x30_2 + 1))))) = some (r1, r2) := H
     have A15 := aM A150
     clear A150
     replace H := Option.bind_eq_some_iff.mp H
     obtain ⟨t310, A160, H⟩ := H
     replace H : (if t309 < t310 then (if x9_2.length < 4398046511104 then (impl_MoveMarks.l0 k2 t297 t294 (x9_2 ++ [(⟨t309, t310, (rd_T67 l1 x30_2).f2⟩ : S67)]) l1 (l1.length : Int) (wrap64 (x30_2 + 1))) else (none)) else (impl_MoveMarks.l0 k2 t297 t294 x9_2 l1 (l1.length : Int) (wrap64 (x30_2 + 1)))) = some (r1, r2) := H
     have A16 := aM A160
     clear A160
     by_cases c17 : t309 < t310
     rotate_left
     ·rw [if_neg c17] at H
      have c17b0 : decide (t309 < t310) = false := decide_eq_false c17
      clear c17
      have H' := aM H
      clear H
      have p307 : 0 ≤ (x30_2 : Int) := of_decide_eq_true (by assumption)
      have q307 : x30_2 < (l1.length : Int) := of_decide_eq_true (by assumption)
      obtain ⟨ad307, e307, hx307_0, hx307_1, hx307_2⟩ := at_T67 HR1.out x30_2 p307 q307
      cases e307
      replace hx307_0 := hC HB.out hx307_0
      replace hx307_1 := hC HB.out hx307_1
      replace hx307_2 := hC HB.out hx307_2
      replace p307 := eq_true p307
      replace q307 := eq_true q307
      try go_wp2_with (first | ((with_reducible refine gate_dst (N := 11) rfl ?_); refine box_event ?hg (N := 11) ?hd (cs := #[.int .i64 0, .int .i64 0, .string (⟨#[]⟩ : ByteArray)]) (t := 67) ?hr ?_; (case hd => rfl); (case hg => rfl); (case hr => exact aP40); intro gb308 hg w30 hbox hb; have BK308 := aM (hbox); have GW308 := aM (bG (w := w) hg); have GE308 := aM (bG (w := w) hg); replace HO_0 := aM (Kd.R_below (rR HO_0.out) hb); replace HO_9 := aM (Kd.R_below (Kd.R_elderB (rR HO_9.out) gb308 (Nat.le_of_eq hg.symm)) hb); replace HB := aM (below_step bB hb); clear hb hbox hg; obtain ⟨hcz31_0, hcz31_1, hcz31_2, hfz31_0, hfz31_1, hfz31_2⟩ := bx3 BK308.out))
      have n0_ : Aside0 (Kd.R k61 61 (((w30.setCell ⟨gb308, 0, none⟩ (.int .i64 ((rd_T67 l1 x30_2).f0))).setCell ⟨gb308, 1, none⟩ (.int .i64 ((rd_T67 l1 x30_2).f1))).setCell ⟨gb308, 2, none⟩ (.string ((rd_T67 l1 x30_2).f2))) w.heap.size (fun _ => True) v298 t297) := ⟨by (with_reducible repeat (first | apply Kd.R_alloc | apply Kd.R_drewN | apply Kd.R_drew)); exact Kd.R_mono (Kd.R_far (p := ⟨gb308, 2, none⟩) (Kd.R_far (p := ⟨gb308, 1, none⟩) (Kd.R_far (p := ⟨gb308, 0, none⟩) (Kd.R_types HO_0.out BK308.out (by decide)) (fun _ hk => hk.2) (.int .i64 ((rd_T67 l1 x30_2).f0))) (fun _ hk => hk.2) (.int .i64 ((rd_T67 l1 x30_2).f1))) (fun _ hk => hk.2) (.string ((rd_T67 l1 x30_2).f2))) (fun _ hk => trivial)⟩
      have n1_ : Aside0 (Kd.R k67 67 (((w30.setCell ⟨gb308, 0, none⟩ (.int .i64 ((rd_T67 l1 x30_2).f0))).setCell ⟨gb308, 1, none⟩ (.int .i64 ((rd_T67 l1 x30_2).f1))).setCell ⟨gb308, 2, none⟩ (.string ((rd_T67 l1 x30_2).f2))) w.heap.size (fun k_ => k_ ≠ gb308) u9 x9_2) := ⟨by (with_reducible repeat (first | apply Kd.R_alloc | apply Kd.R_drewN | apply Kd.R_drew)); exact Kd.R_mono (Kd.R_far (p := ⟨gb308, 2, none⟩) (Kd.R_far (p := ⟨gb308, 1, none⟩) (Kd.R_far (p := ⟨gb308, 0, none⟩) (Kd.R_mono HO_9.out (fun k_ hk => (⟨hk, hk.2⟩ : _ ∧ k_ ≠ gb308))) (fun _ hk => hk.2) (.int .i64 ((rd_T67 l1 x30_2).f0))) (fun _ hk => hk.2) (.int .i64 ((rd_T67 l1 x30_2).f1))) (fun _ hk => hk.2) (.string ((rd_T67 l1 x30_2).f2))) (fun _ hk => hk.1.2)⟩
      have n2_ : Aside0 ((((w30.setCell ⟨gb308, 0, none⟩ (.int .i64 ((rd_T67 l1 x30_2).f0))).setCell ⟨gb308, 1, none⟩ (.int .i64 ((rd_T67 l1 x30_2).f1))).setCell ⟨gb308, 2, none⟩ (.string ((rd_T67 l1 x30_2).f2))).heap[gb308]? = some (.cells #[.int .i64 ((rd_T67 l1 x30_2).f0), .int .i64 ((rd_T67 l1 x30_2).f1), .string ((rd_T67 l1 x30_2).f2)] 67 (0, 0))) := ⟨by (with_reducible repeat (first | refine blk_drewN ?_ _ | refine blk_drew ?_ | refine blk_alloc ?_ _)); refine blk_put (cs := #[.int .i64 ((rd_T67 l1 x30_2).f0), .int .i64 ((rd_T67 l1 x30_2).f1), .string (⟨#[]⟩ : ByteArray)]) ?_ 2 _ rfl; (with_reducible repeat (first | refine blk_drewN ?_ _ | refine blk_drew ?_ | refine blk_alloc ?_ _)); refine blk_put (cs := #[.int .i64 ((rd_T67 l1 x30_2).f0), .int .i64 0, .string (⟨#[]⟩ : ByteArray)]) ?_ 1 _ rfl; (with_reducible repeat (first | refine blk_drewN ?_ _ | refine blk_drew ?_ | refine blk_alloc ?_ _)); refine blk_put (cs := #[.int .i64 0, .int .i64 0, .string (⟨#[]⟩ : ByteArray)]) ?_ 0 _ rfl; (with_reducible repeat (first | refine blk_drewN ?_ _ | refine blk_drew ?_ | refine blk_alloc ?_ _)); exact BK308.out⟩
      have n3_ : Aside0 (Below w.heap.size w (((w30.setCell ⟨gb308, 0, none⟩ (.int .i64 ((rd_T67 l1 x30_2).f0))).setCell ⟨gb308, 1, none⟩ (.int .i64 ((rd_T67 l1 x30_2).f1))).setCell ⟨gb308, 2, none⟩ (.string ((rd_T67 l1 x30_2).f2)))) := ⟨aP11⟩
      (try clear HO_0)
      (try clear HO_9)
      (try clear BK308)
      (try clear HB)
      generalize (((w30.setCell ⟨gb308, 0, none⟩ (.int .i64 ((rd_T67 l1 x30_2).f0))).setCell ⟨gb308, 1, none⟩ (.int .i64 ((rd_T67 l1 x30_2).f1))).setCell ⟨gb308, 2, none⟩ (.string ((rd_T67 l1 x30_2).f2))) = w32 at n0_ n1_ n2_ n3_ ⊢
      have HO_0 := n0_
      have HO_9 := n1_
      have BK308 := n2_
      have HB := n3_
      clear n0_ n1_ n2_ n3_
      replace HO_0 := aM (Kd.R_drew HO_0.out)
      replace HO_9 := aM (Kd.R_drew HO_9.out)
      replace BK308 := aM (blk_drew BK308.out)
      replace HB := aM (below_drew1 HB.out)
      obtain ⟨Ao34, co34, eo34⟩ := Kd.R_slice HO_0.out
      (first | subst eo34 | (injection eo34 with f1_ f2_ f3_; have f4_ := f1_.symm; have f5_ := f3_.symm; clear f1_ f2_ f3_; subst f4_; subst f5_))
      refine start_ (n := 12) (S := fun w' => w'.cell? ⟨gb308, 0, none⟩ = some (.int .i64 ((rd_T67 l1 x30_2).f0)) ∧ w'.cell? ⟨gb308, 1, none⟩ = some (.int .i64 ((rd_T67 l1 x30_2).f1)) ∧ w'.cell? ⟨gb308, 2, none⟩ = some (.string ((rd_T67 l1 x30_2).f2))) (ds := [9, 11]) (Array.replicate 12 false) (by kernel_rfl) rfl rfl ⟨(blk_cell BK308.out 0).trans rfl, (blk_cell BK308.out 1).trans rfl, (blk_cell BK308.out 2).trans rfl⟩ (fun hHeld => ?_); refine with_tabW impl_MoveMarks.tab9 impl_MoveMarks.bits9 (fun HT_ HW_ => ?_)
      generalize w32.drew = w33 at HO_0 HO_9 BK308 HB hHeld ⊢
      refine pV 0 34 (bN 12 1) ?_
      refine pV 1 35 (bN 12 3) ?_
      refine pV 4 38 (bN 12 19) ?_
      refine pV 5 39 (bN 12 51) ?_
      refine tV3 2 36 (bN 12 55) ?_
      refine tV3 6 40 (bN 12 119) ?_
      refine one_ (i := 3) (N := some 37) (bN 12 127) rfl rfl (one_of HT_.out (by kernel_rfl)) (by decide) (fun K hK => ?_)
      refine goes_ Try.func59 (by kernel_rfl) rfl #[.slice Ao34 t297.length co34, .int .i64 ((rd_T67 l1 x30_2).f0), .bool true] (by rfl) rfl rfl mM ?_
      with_reducible refine (impl_movePlace.calls k2 _ _ t297 ((rd_T67 l1 x30_2).f0) true t309 _ ?side1 ?side2 A15.out).mono ?_
      (case side1 => exact cC ((Kd.R_reads' HO_0.out).2.2))
      (case side2 => exact (Kd.R_reads' HO_0.out).2.1)
      rintro e w35 ⟨rfl, hb⟩
      refine ⟨_, rfl, ?_⟩
      replace HO_0 := aM (Kd.R_below (rR HO_0.out) hb)
      replace HO_9 := aM (Kd.R_below (rR HO_9.out) hb)
      replace BK308 := aM (blk_below (g := gb308) (o := .cells #[.int .i64 ((rd_T67 l1 x30_2).f0), .int .i64 ((rd_T67 l1 x30_2).f1), .string ((rd_T67 l1 x30_2).f2)] 67 (0, 0)) (kK BK308.out) hb)
      replace HB := aM (below_step aP11 hb)
      (try clear hb)
      (try clear hb2)
      (try clear hk)
      (try clear hi)
      refine hK.out _ _ ⟨(blk_cell BK308.out 0).trans rfl, (blk_cell BK308.out 1).trans rfl, (blk_cell BK308.out 2).trans rfl⟩ (fun hHeld => ?_)
      clear hK K
      refine norm_ (a' := ?_) ?_ ?_
      rotate_left
      ·show Act.put _ (some 37) _ = _
       simp only [Act.put, List.setIfInBounds_toArray, List.set_cons_zero, List.set_cons_succ, i64_w, i32_w]
       rfl
      refine pV 8 42 (bN 12 383) ?_
      refine one_ (i := 7) (N := some 41) (bN 12 511) rfl rfl (one_of HT_.out (by kernel_rfl)) (by decide) (fun K hK => ?_)
      refine goes_ Try.func59 (by kernel_rfl) rfl #[.slice Ao34 t297.length co34, .int .i64 ((rd_T67 l1 x30_2).f1), .bool false] (by rfl) rfl rfl mM ?_
      with_reducible refine (impl_movePlace.calls k2 _ _ t297 ((rd_T67 l1 x30_2).f1) false t310 _ ?side1 ?side2 A16.out).mono ?_
      (case side1 => exact cC ((Kd.R_reads' HO_0.out).2.2))
      (case side2 => exact (Kd.R_reads' HO_0.out).2.1)
      rintro e w36 ⟨rfl, hb⟩
      refine ⟨_, rfl, ?_⟩
      replace HO_0 := aM (Kd.R_below (rR HO_0.out) hb)
      replace HO_9 := aM (Kd.R_below (rR HO_9.out) hb)
      replace BK308 := aM (blk_below (g := gb308) (o := .cells #[.int .i64 ((rd_T67 l1 x30_2).f0), .int .i64 ((rd_T67 l1 x30_2).f1), .string ((rd_T67 l1 x30_2).f2)] 67 (0, 0)) (kK BK308.out) hb)
      replace HB := aM (below_step aP11 hb)
      (try clear hb)
      (try clear hb2)
      (try clear hk)
      (try clear hi)
      refine hK.out _ _ ⟨(blk_cell BK308.out 0).trans rfl, (blk_cell BK308.out 1).trans rfl, (blk_cell BK308.out 2).trans rfl⟩ (fun hHeld => ?_)
      clear hK K
      refine norm_ (a' := ?_) ?_ ?_
      rotate_left
      ·show Act.put _ (some 41) _ = _
       simp only [Act.put, List.setIfInBounds_toArray, List.set_cons_zero, List.set_cons_succ, i64_w, i32_w]
       rfl
      refine last_ (i := 9) (N := none) (bN 12 1023) rfl rfl (one_of HT_.out (by kernel_rfl)) (by decide) (fun K hK => ?_)
      have hs37 : w36.cell? ⟨gb308, 0, none⟩ = some (.int .i64 ((rd_T67 l1 x30_2).f0)) := (blk_cell BK308.out 0).trans rfl
      have hfs37 := blk_frozen BK308.out 0
      refine skip_ (w1 := ?_) (by rfl) rfl ?_ ?_
      rotate_left
      ·go_simp
       rfl
      refine hK.out _ _ ?_
      clear hK K
      refine pV 10 43 (bN 12 2047) ?_
      refine last_ (i := 11) (N := none) (bN 12 4095) rfl rfl (one_of HT_.out (by kernel_rfl)) (by decide) (fun K hK => ?_)
      have hs38 : w36.cell? ⟨gb308, 1, none⟩ = some (.int .i64 ((rd_T67 l1 x30_2).f1)) := (blk_cell BK308.out 1).trans rfl
      have hfs38 := blk_frozen BK308.out 1
      refine skip_ (w1 := ?_) (by rfl) rfl ?_ ?_
      rotate_left
      ·go_simp
       rfl
      refine hK.out _ _ ?_
      clear hK K
      refine done_ (done_of HT_.out (by kernel_rfl)) ?_
      have hcz39_0 : w36.cell? ⟨gb308, 0, none⟩ = some (.int .i64 ((rd_T67 l1 x30_2).f0)) := (blk_cell BK308.out 0).trans rfl
      have hcz39_1 : w36.cell? ⟨gb308, 1, none⟩ = some (.int .i64 ((rd_T67 l1 x30_2).f1)) := (blk_cell BK308.out 1).trans rfl
      have hcz39_2 : w36.cell? ⟨gb308, 2, none⟩ = some (.string ((rd_T67 l1 x30_2).f2)) := (blk_cell BK308.out 2).trans rfl
      have hfz39_0 := blk_frozen BK308.out 0
      have hfz39_1 := blk_frozen BK308.out 1
      have hfz39_2 := blk_frozen BK308.out 2
      try go_wp2
      go_roundg k2
      case measure => have := HJ3.out; have := HK2.out; omega
      case rel => exact ⟨(x9_2), (wrap64 (x30_2 + 1)), aP32, H', ⟨by have := HJ3.out; have := HK2.out; omega⟩, ⟨by (with_reducible repeat (first | apply Kd.R_alloc | apply Kd.R_drewN | apply Kd.R_drew)); exact Kd.R_mono (Kd.R_far (p := ⟨gb308, 1, none⟩) (Kd.R_far (p := ⟨gb308, 0, none⟩) (Kd.R_types HO_0.out BK308.out (by decide)) (fun _ hk => hk.2) (.int .i64 t309)) (fun _ hk => hk.2) (.int .i64 t310)) (fun _ hk => trivial)⟩, ⟨by (with_reducible repeat (first | apply Kd.R_alloc | apply Kd.R_drewN | apply Kd.R_drew)); exact Kd.R_mono (Kd.R_far (p := ⟨gb308, 1, none⟩) (Kd.R_far (p := ⟨gb308, 0, none⟩) (Kd.R_mono HO_9.out (fun k_ hk => (⟨hk, hk⟩ : _ ∧ k_ ≠ gb308))) (fun _ hk => hk.2) (.int .i64 t309)) (fun _ hk => hk.2) (.int .i64 t310)) (fun _ hk => trivial)⟩, ⟨aP11⟩⟩
     rw [if_pos c17] at H
     have c17b0 : decide (t309 < t310) = true := decide_eq_true c17
     clear c17
     by_cases c18 : x9_2.length < 4398046511104
     rotate_left
     ·rw [if_neg c18] at H
      exact absurd H (by simp)
     rw [if_pos c18] at H
     have LMc18 := aM c18
     clear c18
     obtain ⟨y311, hy311⟩ : ∃ y_ : List (S67), y_ = (x9_2 ++ [(⟨t309, t310, (rd_T67 l1 x30_2).f2⟩ : S67)]) := ⟨_, rfl⟩
     replace H : (impl_MoveMarks.l0 k2 t297 t294 y311 l1 (l1.length : Int) (wrap64 (x30_2 + 1))) = some (r1, r2) := by first | (rw [hy311]; with_reducible exact H) | (have H2_ := (Option.bind_some _ _).symm.trans H; rw [hy311]; with_reducible exact H2_) | (have H2_ := (Option.bind_some _ _).symm.trans H; with_reducible exact H2_) | with_reducible exact H | (rw [hy311]; exact H) | exact H
     have Ny311 := aM hy311
     clear hy311
     have H' := aM H
     clear H
     have p307 : 0 ≤ (x30_2 : Int) := of_decide_eq_true (by assumption)
     have q307 : x30_2 < (l1.length : Int) := of_decide_eq_true (by assumption)
     obtain ⟨ad307, e307, hx307_0, hx307_1, hx307_2⟩ := at_T67 HR1.out x30_2 p307 q307
     cases e307
     replace hx307_0 := hC HB.out hx307_0
     replace hx307_1 := hC HB.out hx307_1
     replace hx307_2 := hC HB.out hx307_2
     replace p307 := eq_true p307
     replace q307 := eq_true q307
     try go_wp2_with (first | ((with_reducible refine gate_dst (N := 11) rfl ?_); refine box_event ?hg (N := 11) ?hd (cs := #[.int .i64 0, .int .i64 0, .string (⟨#[]⟩ : ByteArray)]) (t := 67) ?hr ?_; (case hd => rfl); (case hg => rfl); (case hr => exact aP40); intro gb308 hg w19 hbox hb; have BK308 := aM (hbox); have GW308 := aM (bG (w := w) hg); have GE308 := aM (bG (w := w) hg); replace HO_0 := aM (Kd.R_below (rR HO_0.out) hb); replace HO_9 := aM (Kd.R_below (Kd.R_elderB (rR HO_9.out) gb308 (Nat.le_of_eq hg.symm)) hb); replace HB := aM (below_step bB hb); clear hb hbox hg; obtain ⟨hcz20_0, hcz20_1, hcz20_2, hfz20_0, hfz20_1, hfz20_2⟩ := bx3 BK308.out))
     have n0_ : Aside0 (Kd.R k61 61 (((w19.setCell ⟨gb308, 0, none⟩ (.int .i64 ((rd_T67 l1 x30_2).f0))).setCell ⟨gb308, 1, none⟩ (.int .i64 ((rd_T67 l1 x30_2).f1))).setCell ⟨gb308, 2, none⟩ (.string ((rd_T67 l1 x30_2).f2))) w.heap.size (fun _ => True) v298 t297) := ⟨by (with_reducible repeat (first | apply Kd.R_alloc | apply Kd.R_drewN | apply Kd.R_drew)); exact Kd.R_mono (Kd.R_far (p := ⟨gb308, 2, none⟩) (Kd.R_far (p := ⟨gb308, 1, none⟩) (Kd.R_far (p := ⟨gb308, 0, none⟩) (Kd.R_types HO_0.out BK308.out (by decide)) (fun _ hk => hk.2) (.int .i64 ((rd_T67 l1 x30_2).f0))) (fun _ hk => hk.2) (.int .i64 ((rd_T67 l1 x30_2).f1))) (fun _ hk => hk.2) (.string ((rd_T67 l1 x30_2).f2))) (fun _ hk => trivial)⟩
     have n1_ : Aside0 (Kd.R k67 67 (((w19.setCell ⟨gb308, 0, none⟩ (.int .i64 ((rd_T67 l1 x30_2).f0))).setCell ⟨gb308, 1, none⟩ (.int .i64 ((rd_T67 l1 x30_2).f1))).setCell ⟨gb308, 2, none⟩ (.string ((rd_T67 l1 x30_2).f2))) w.heap.size (fun k_ => k_ ≠ gb308) u9 x9_2) := ⟨by (with_reducible repeat (first | apply Kd.R_alloc | apply Kd.R_drewN | apply Kd.R_drew)); exact Kd.R_mono (Kd.R_far (p := ⟨gb308, 2, none⟩) (Kd.R_far (p := ⟨gb308, 1, none⟩) (Kd.R_far (p := ⟨gb308, 0, none⟩) (Kd.R_mono HO_9.out (fun k_ hk => (⟨hk, hk.2⟩ : _ ∧ k_ ≠ gb308))) (fun _ hk => hk.2) (.int .i64 ((rd_T67 l1 x30_2).f0))) (fun _ hk => hk.2) (.int .i64 ((rd_T67 l1 x30_2).f1))) (fun _ hk => hk.2) (.string ((rd_T67 l1 x30_2).f2))) (fun _ hk => hk.1.2)⟩
     have n2_ : Aside0 ((((w19.setCell ⟨gb308, 0, none⟩ (.int .i64 ((rd_T67 l1 x30_2).f0))).setCell ⟨gb308, 1, none⟩ (.int .i64 ((rd_T67 l1 x30_2).f1))).setCell ⟨gb308, 2, none⟩ (.string ((rd_T67 l1 x30_2).f2))).heap[gb308]? = some (.cells #[.int .i64 ((rd_T67 l1 x30_2).f0), .int .i64 ((rd_T67 l1 x30_2).f1), .string ((rd_T67 l1 x30_2).f2)] 67 (0, 0))) := ⟨by (with_reducible repeat (first | refine blk_drewN ?_ _ | refine blk_drew ?_ | refine blk_alloc ?_ _)); refine blk_put (cs := #[.int .i64 ((rd_T67 l1 x30_2).f0), .int .i64 ((rd_T67 l1 x30_2).f1), .string (⟨#[]⟩ : ByteArray)]) ?_ 2 _ rfl; (with_reducible repeat (first | refine blk_drewN ?_ _ | refine blk_drew ?_ | refine blk_alloc ?_ _)); refine blk_put (cs := #[.int .i64 ((rd_T67 l1 x30_2).f0), .int .i64 0, .string (⟨#[]⟩ : ByteArray)]) ?_ 1 _ rfl; (with_reducible repeat (first | refine blk_drewN ?_ _ | refine blk_drew ?_ | refine blk_alloc ?_ _)); refine blk_put (cs := #[.int .i64 0, .int .i64 0, .string (⟨#[]⟩ : ByteArray)]) ?_ 0 _ rfl; (with_reducible repeat (first | refine blk_drewN ?_ _ | refine blk_drew ?_ | refine blk_alloc ?_ _)); exact BK308.out⟩
     have n3_ : Aside0 (Below w.heap.size w (((w19.setCell ⟨gb308, 0, none⟩ (.int .i64 ((rd_T67 l1 x30_2).f0))).setCell ⟨gb308, 1, none⟩ (.int .i64 ((rd_T67 l1 x30_2).f1))).setCell ⟨gb308, 2, none⟩ (.string ((rd_T67 l1 x30_2).f2)))) := ⟨aP11⟩
     (try clear HO_0)
     (try clear HO_9)
     (try clear BK308)
     (try clear HB)
     generalize (((w19.setCell ⟨gb308, 0, none⟩ (.int .i64 ((rd_T67 l1 x30_2).f0))).setCell ⟨gb308, 1, none⟩ (.int .i64 ((rd_T67 l1 x30_2).f1))).setCell ⟨gb308, 2, none⟩ (.string ((rd_T67 l1 x30_2).f2))) = w21 at n0_ n1_ n2_ n3_ ⊢
     have HO_0 := n0_
     have HO_9 := n1_
     have BK308 := n2_
     have HB := n3_
     clear n0_ n1_ n2_ n3_
     replace HO_0 := aM (Kd.R_drew HO_0.out)
     replace HO_9 := aM (Kd.R_drew HO_9.out)
     replace BK308 := aM (blk_drew BK308.out)
     replace HB := aM (below_drew1 HB.out)
     obtain ⟨Ao23, co23, eo23⟩ := Kd.R_slice HO_0.out
     (first | subst eo23 | (injection eo23 with f1_ f2_ f3_; have f4_ := f1_.symm; have f5_ := f3_.symm; clear f1_ f2_ f3_; subst f4_; subst f5_))
     refine start_ (n := 12) (S := fun w' => w'.cell? ⟨gb308, 0, none⟩ = some (.int .i64 ((rd_T67 l1 x30_2).f0)) ∧ w'.cell? ⟨gb308, 1, none⟩ = some (.int .i64 ((rd_T67 l1 x30_2).f1)) ∧ w'.cell? ⟨gb308, 2, none⟩ = some (.string ((rd_T67 l1 x30_2).f2))) (ds := [9, 11]) (Array.replicate 12 false) (by kernel_rfl) rfl rfl ⟨(blk_cell BK308.out 0).trans rfl, (blk_cell BK308.out 1).trans rfl, (blk_cell BK308.out 2).trans rfl⟩ (fun hHeld => ?_); refine with_tabW impl_MoveMarks.tab9 impl_MoveMarks.bits9 (fun HT_ HW_ => ?_)
     generalize w21.drew = w22 at HO_0 HO_9 BK308 HB hHeld ⊢
     refine pV 0 34 (bN 12 1) ?_
     refine pV 1 35 (bN 12 3) ?_
     refine pV 4 38 (bN 12 19) ?_
     refine pV 5 39 (bN 12 51) ?_
     refine tV3 2 36 (bN 12 55) ?_
     refine tV3 6 40 (bN 12 119) ?_
     refine one_ (i := 3) (N := some 37) (bN 12 127) rfl rfl (one_of HT_.out (by kernel_rfl)) (by decide) (fun K hK => ?_)
     refine goes_ Try.func59 (by kernel_rfl) rfl #[.slice Ao23 t297.length co23, .int .i64 ((rd_T67 l1 x30_2).f0), .bool true] (by rfl) rfl rfl mM ?_
     with_reducible refine (impl_movePlace.calls k2 _ _ t297 ((rd_T67 l1 x30_2).f0) true t309 _ ?side1 ?side2 A15.out).mono ?_
     (case side1 => exact cC ((Kd.R_reads' HO_0.out).2.2))
     (case side2 => exact (Kd.R_reads' HO_0.out).2.1)
     rintro e w24 ⟨rfl, hb⟩
     refine ⟨_, rfl, ?_⟩
     replace HO_0 := aM (Kd.R_below (rR HO_0.out) hb)
     replace HO_9 := aM (Kd.R_below (rR HO_9.out) hb)
     replace BK308 := aM (blk_below (g := gb308) (o := .cells #[.int .i64 ((rd_T67 l1 x30_2).f0), .int .i64 ((rd_T67 l1 x30_2).f1), .string ((rd_T67 l1 x30_2).f2)] 67 (0, 0)) (kK BK308.out) hb)
     replace HB := aM (below_step aP11 hb)
     (try clear hb)
     (try clear hb2)
     (try clear hk)
     (try clear hi)
     refine hK.out _ _ ⟨(blk_cell BK308.out 0).trans rfl, (blk_cell BK308.out 1).trans rfl, (blk_cell BK308.out 2).trans rfl⟩ (fun hHeld => ?_)
     clear hK K
     refine norm_ (a' := ?_) ?_ ?_
     rotate_left
     ·show Act.put _ (some 37) _ = _
      simp only [Act.put, List.setIfInBounds_toArray, List.set_cons_zero, List.set_cons_succ, i64_w, i32_w]
      rfl
     refine pV 8 42 (bN 12 383) ?_
     refine one_ (i := 7) (N := some 41) (bN 12 511) rfl rfl (one_of HT_.out (by kernel_rfl)) (by decide) (fun K hK => ?_)
     refine goes_ Try.func59 (by kernel_rfl) rfl #[.slice Ao23 t297.length co23, .int .i64 ((rd_T67 l1 x30_2).f1), .bool false] (by rfl) rfl rfl mM ?_
     with_reducible refine (impl_movePlace.calls k2 _ _ t297 ((rd_T67 l1 x30_2).f1) false t310 _ ?side1 ?side2 A16.out).mono ?_
     (case side1 => exact cC ((Kd.R_reads' HO_0.out).2.2))
     (case side2 => exact (Kd.R_reads' HO_0.out).2.1)
     rintro e w25 ⟨rfl, hb⟩
     refine ⟨_, rfl, ?_⟩
     replace HO_0 := aM (Kd.R_below (rR HO_0.out) hb)
     replace HO_9 := aM (Kd.R_below (rR HO_9.out) hb)
     replace BK308 := aM (blk_below (g := gb308) (o := .cells #[.int .i64 ((rd_T67 l1 x30_2).f0), .int .i64 ((rd_T67 l1 x30_2).f1), .string ((rd_T67 l1 x30_2).f2)] 67 (0, 0)) (kK BK308.out) hb)
     replace HB := aM (below_step aP11 hb)
     (try clear hb)
     (try clear hb2)
     (try clear hk)
     (try clear hi)
     refine hK.out _ _ ⟨(blk_cell BK308.out 0).trans rfl, (blk_cell BK308.out 1).trans rfl, (blk_cell BK308.out 2).trans rfl⟩ (fun hHeld => ?_)
     clear hK K
     refine norm_ (a' := ?_) ?_ ?_
     rotate_left
     ·show Act.put _ (some 41) _ = _
      simp only [Act.put, List.setIfInBounds_toArray, List.set_cons_zero, List.set_cons_succ, i64_w, i32_w]
      rfl
     refine last_ (i := 9) (N := none) (bN 12 1023) rfl rfl (one_of HT_.out (by kernel_rfl)) (by decide) (fun K hK => ?_)
     have hs26 : w25.cell? ⟨gb308, 0, none⟩ = some (.int .i64 ((rd_T67 l1 x30_2).f0)) := (blk_cell BK308.out 0).trans rfl
     have hfs26 := blk_frozen BK308.out 0
     refine skip_ (w1 := ?_) (by rfl) rfl ?_ ?_
     rotate_left
     ·go_simp
      rfl
     refine hK.out _ _ ?_
     clear hK K
     refine pV 10 43 (bN 12 2047) ?_
     refine last_ (i := 11) (N := none) (bN 12 4095) rfl rfl (one_of HT_.out (by kernel_rfl)) (by decide) (fun K hK => ?_)
     have hs27 : w25.cell? ⟨gb308, 1, none⟩ = some (.int .i64 ((rd_T67 l1 x30_2).f1)) := (blk_cell BK308.out 1).trans rfl
     have hfs27 := blk_frozen BK308.out 1
     refine skip_ (w1 := ?_) (by rfl) rfl ?_ ?_
     rotate_left
     ·go_simp
      rfl
     refine hK.out _ _ ?_
     clear hK K
     refine done_ (done_of HT_.out (by kernel_rfl)) ?_
     have hcz28_0 : w25.cell? ⟨gb308, 0, none⟩ = some (.int .i64 ((rd_T67 l1 x30_2).f0)) := (blk_cell BK308.out 0).trans rfl
     have hcz28_1 : w25.cell? ⟨gb308, 1, none⟩ = some (.int .i64 ((rd_T67 l1 x30_2).f1)) := (blk_cell BK308.out 1).trans rfl
     have hcz28_2 : w25.cell? ⟨gb308, 2, none⟩ = some (.string ((rd_T67 l1 x30_2).f2)) := (blk_cell BK308.out 2).trans rfl
     have hfz28_0 := blk_frozen BK308.out 0
     have hfz28_1 := blk_frozen BK308.out 1
     have hfz28_2 := blk_frozen BK308.out 2
     try go_wp2_with (first | ((with_reducible refine gate_builtin (b := .append) (xs := #[.tmp 49, .tmp 51]) rfl ?_); at_builtin; refine Kd.R_append k67 (w0 := w) w.heap.size rfl (.tmp 49) (.tmp 51) 25 67 (.agg #[(.int .i64 0), (.int .i64 0), (.string ⟨#[]⟩)]) 32 rfl Try.underlying25 info67 rfl (by decide) (by omega) u9 x9_2 (⟨t309, t310, (rd_T67 l1 x30_2).f2⟩ : S67) [.int .i64 t309, .int .i64 t310, .string ((rd_T67 l1 x30_2).f2)] (fun k_ => k_ ≠ gb308) (fun _ => False) rfl (by first | (go_simp; done) | (go_simp; rfl)) ?aP (fun _ hk => hk.elim) ?aF ?aO ?aB ?aS ?aL ?_; (case aP => exact k67_mkM _ _ _ (⟨t309, t310, (rd_T67 l1 x30_2).f2⟩ : S67)); (case aB => exact aP11); (case aF => exact (fun k_ hk => Kd.freshB (g := gb308) (o := .cells #[.int .i64 t309, .int .i64 t310, .string ((rd_T67 l1 x30_2).f2)] 67 (0, 0)) (by (with_reducible repeat (first | refine blk_drewN ?_ _ | refine blk_drew ?_ | refine blk_alloc ?_ _)); refine blk_put (cs := #[.int .i64 t309, .int .i64 ((rd_T67 l1 x30_2).f1), .string ((rd_T67 l1 x30_2).f2)]) ?_ 1 _ rfl; (with_reducible repeat (first | refine blk_drewN ?_ _ | refine blk_drew ?_ | refine blk_alloc ?_ _)); refine blk_put (cs := #[.int .i64 ((rd_T67 l1 x30_2).f0), .int .i64 ((rd_T67 l1 x30_2).f1), .string ((rd_T67 l1 x30_2).f2)]) ?_ 0 _ rfl; exact kK BK308.out) k_ hk)); (case aO => exact (by (with_reducible repeat (first | apply Kd.R_alloc | apply Kd.R_drewN | apply Kd.R_drew)); exact Kd.R_mono (Kd.R_far (p := ⟨gb308, 1, none⟩) (Kd.R_far (p := ⟨gb308, 0, none⟩) (Kd.R_mono HO_9.out (fun k_ hk => (⟨hk, hk⟩ : _ ∧ k_ ≠ gb308))) (fun _ hk => hk.2) (.int .i64 t309)) (fun _ hk => hk.2) (.int .i64 t310)) (fun _ hk => hk.1))); (case aS => exact (below_size aP11)); (case aL => have := LMc18.out; omega); intro v312 w29 ho hb hg hat; rw [← Ny311.out] at ho; have n0_ := aM (Kd.R_over' (by (with_reducible repeat (first | apply Kd.R_alloc | apply Kd.R_drewN | apply Kd.R_drew)); exact (Kd.R_mono (Kd.R_far (p := ⟨gb308, 1, none⟩) (Kd.R_far (p := ⟨gb308, 0, none⟩) (Kd.R_types HO_0.out BK308.out (by decide)) (fun _ hk => hk.2) (.int .i64 t309)) (fun _ hk => hk.2) (.int .i64 t310)) (fun _ h_ => h_.1))) (Kd.R_typed (by (with_reducible repeat (first | apply Kd.R_alloc | apply Kd.R_drewN | apply Kd.R_drew)); exact (Kd.R_mono (Kd.R_far (p := ⟨gb308, 1, none⟩) (Kd.R_far (p := ⟨gb308, 0, none⟩) (Kd.R_mono HO_9.out (fun k_ hk => (⟨hk, hk⟩ : _ ∧ k_ ≠ gb308))) (fun _ hk => hk.2) (.int .i64 t309)) (fun _ hk => hk.2) (.int .i64 t310)) (fun _ h_ => h_.1)))) (by decide) hg); have n1_ := aM (blk_grown (g := gb308) (o := .cells #[.int .i64 t309, .int .i64 t310, .string ((rd_T67 l1 x30_2).f2)] 67 (0, 0)) (by (with_reducible repeat (first | refine blk_drewN ?_ _ | refine blk_drew ?_ | refine blk_alloc ?_ _)); refine blk_put (cs := #[.int .i64 t309, .int .i64 ((rd_T67 l1 x30_2).f1), .string ((rd_T67 l1 x30_2).f2)]) ?_ 1 _ rfl; (with_reducible repeat (first | refine blk_drewN ?_ _ | refine blk_drew ?_ | refine blk_alloc ?_ _)); refine blk_put (cs := #[.int .i64 ((rd_T67 l1 x30_2).f0), .int .i64 ((rd_T67 l1 x30_2).f1), .string ((rd_T67 l1 x30_2).f2)]) ?_ 0 _ rfl; exact kK BK308.out) hg (Kd.R_away HO_9.out (fun _ hk => hk))); have n2_ := aM (hb); have n3_ := aM (ho); clear HO_0; clear BK308; clear HB; clear HO_9; have HO_0 := n0_; have BK308 := n1_; have HB := n2_; have HO313 := n3_; clear n0_ n1_ n2_ n3_; clear ho hb hg hat))
     go_roundg k2
     case measure => have := HJ3.out; have := HK2.out; omega
     case rel => exact ⟨(y311), (wrap64 (x30_2 + 1)), aP32, H', ⟨by have := HJ3.out; have := HK2.out; omega⟩, ⟨rR HO_0.out⟩, ⟨by (with_reducible repeat (first | apply Kd.R_alloc | apply Kd.R_drewN | apply Kd.R_drew)); exact Kd.R_mono HO313.out (fun _ hk => trivial)⟩, ⟨aP11⟩⟩
def laws_eqPart.f (a0_0 : Int) (a0_1 : ByteArray) (a0_2 : ByteArray) (a1_0 : Int) (a1_1 : ByteArray) (a1_2 : ByteArray) : Option (Bool) := if a0_0 = a1_0 then (if a0_1.toList = a1_1.toList then (if a0_2.toList = a1_2.toList then (some true) else (some false)) else (some false)) else (some false)
set_option maxHeartbeats 8000000 in
set_option maxRecDepth 100000 in
theorem laws_eqPart.calls (a0_0 : Int) (a0_1 : ByteArray) (a0_2 : ByteArray) (a1_0 : Int) (a1_1 : ByteArray) (a1_2 : ByteArray) (r : Bool) (w : World) (h : laws_eqPart.f a0_0 a0_1 a0_2 a1_0 a1_1 a1_2 = some r) :
  Calls Try.prog 61 #[.agg #[.int .i64 a0_0, .string a0_1, .string a0_2], .agg #[.int .i64 a1_0, .string a1_1, .string a1_2]] w fun e w' => e = .returned (.bool r) ∧ Below w.heap.size w w' := by
 have hu61 := Try.underlying61
 have HB := aM (Below.refl w.heap.size w)
 have H : (if a0_0 = a1_0 then (if a0_1.toList = a1_1.toList then (if a0_2.toList = a1_2.toList then (some true) else (some false)) else (some false)) else (some false)) = some r := h
 clear h
 by_cases c3 : a0_0 = a1_0
 rotate_left
 ·rw [if_neg c3] at H
  have c3b0 : (a0_0 == a1_0) = false := beq_eq_false_iff_ne.mpr c3
  have c3b1 : (a0_0 != a1_0) = true := bne_iff_ne.mpr c3
  obtain rfl := Option.some.inj H
  go_enter Try.func61, Try.ntmps61
  go_wp2_with (first | ((with_reducible refine gate_dst (N := 2) rfl ?_); refine box_event ?hg (N := 2) ?hd (cs := #[.int .i64 a0_0, .string a0_1, .string a0_2]) (t := 61) ?hr ?_; (case hd => rfl); (case hg => rfl); (case hr => exact aP40); intro gb314 hg w21 hbox hb; have BK314 := aM (hbox); have GW314 := aM (bG (w := w) hg); have GE314 := aM (bG (w := w) hg); replace HB := aM (below_step bB hb); clear hb hbox hg) | ((with_reducible refine gate_dst (N := 3) rfl ?_); refine box_event ?hg (N := 3) ?hd (cs := #[.int .i64 a1_0, .string a1_1, .string a1_2]) (t := 61) ?hr ?_; (case hd => rfl); (case hg => rfl); (case hr => exact aP40); intro gb315 hg w22 hbox hb; have n0_ := aM (blk_below (g := gb314) (o := .cells #[.int .i64 a0_0, .string a0_1, .string a0_2] 61 (0, 0)) (kK BK314.out) hb); have n1_ := aM (below_step aP9 hb); have n2_ := aM (hbox); have n3_ := aM ((by rw [hg]; exact (below_size aP9) : w.heap.size ≤ gb315)); have n4_ := aM ((by rw [hg]; exact (below_size aP9) : w.heap.size ≤ gb315)); have n5_ := aM ((by rw [hg]; exact Nat.ne_of_lt (blk_lt (g := gb314) (o := .cells #[.int .i64 a0_0, .string a0_1, .string a0_2] 61 (0, 0)) (kK BK314.out)) : gb314 ≠ gb315)); have n6_ := aM ((by rw [hg]; exact Nat.ne_of_gt (blk_lt (g := gb314) (o := .cells #[.int .i64 a0_0, .string a0_1, .string a0_2] 61 (0, 0)) (kK BK314.out)) : gb315 ≠ gb314)); clear BK314; clear HB; have BK314 := n0_; have HB := n1_; have BK315 := n2_; have GW315 := n3_; have GE315 := n4_; have NB314_315 := n5_; have NB315_314 := n6_; clear n0_ n1_ n2_ n3_ n4_ n5_ n6_; clear hb hbox hg; have hnb23 := NB314_315.out; have hnc23 := NB315_314.out; obtain ⟨hcz24_0, hcz24_1, hcz24_2, hfz24_0, hfz24_1, hfz24_2⟩ := bx3 BK314.out; obtain ⟨hcz25_0, hcz25_1, hcz25_2, hfz25_0, hfz25_1, hfz25_2⟩ := bx3 BK315.out))
  go_ret
  exact ⟨eR, aP21⟩
 rw [if_pos c3] at H
 have c3b0 : (a0_0 == a1_0) = true := beq_iff_eq.mpr c3
 have c3b1 : (a0_0 != a1_0) = false := bne_eq_false_iff_eq.mpr c3
 clear c3
 by_cases c4 : a0_1.toList = a1_1.toList
 rotate_left
 ·rw [if_neg c4] at H
  have c4b0 : (a0_1.toList == a1_1.toList) = false := beq_eq_false_iff_ne.mpr c4
  have c4b1 : (a0_1.toList != a1_1.toList) = true := bne_iff_ne.mpr c4
  obtain rfl := Option.some.inj H
  go_enter Try.func61, Try.ntmps61
  go_wp2_with (first | ((with_reducible refine gate_dst (N := 2) rfl ?_); refine box_event ?hg (N := 2) ?hd (cs := #[.int .i64 a0_0, .string a0_1, .string a0_2]) (t := 61) ?hr ?_; (case hd => rfl); (case hg => rfl); (case hr => exact aP40); intro gb314 hg w16 hbox hb; have BK314 := aM (hbox); have GW314 := aM (bG (w := w) hg); have GE314 := aM (bG (w := w) hg); replace HB := aM (below_step bB hb); clear hb hbox hg) | ((with_reducible refine gate_dst (N := 3) rfl ?_); refine box_event ?hg (N := 3) ?hd (cs := #[.int .i64 a1_0, .string a1_1, .string a1_2]) (t := 61) ?hr ?_; (case hd => rfl); (case hg => rfl); (case hr => exact aP40); intro gb315 hg w17 hbox hb; have n0_ := aM (blk_below (g := gb314) (o := .cells #[.int .i64 a0_0, .string a0_1, .string a0_2] 61 (0, 0)) (kK BK314.out) hb); have n1_ := aM (below_step aP9 hb); have n2_ := aM (hbox); have n3_ := aM ((by rw [hg]; exact (below_size aP9) : w.heap.size ≤ gb315)); have n4_ := aM ((by rw [hg]; exact (below_size aP9) : w.heap.size ≤ gb315)); have n5_ := aM ((by rw [hg]; exact Nat.ne_of_lt (blk_lt (g := gb314) (o := .cells #[.int .i64 a0_0, .string a0_1, .string a0_2] 61 (0, 0)) (kK BK314.out)) : gb314 ≠ gb315)); have n6_ := aM ((by rw [hg]; exact Nat.ne_of_gt (blk_lt (g := gb314) (o := .cells #[.int .i64 a0_0, .string a0_1, .string a0_2] 61 (0, 0)) (kK BK314.out)) : gb315 ≠ gb314)); clear BK314; clear HB; have BK314 := n0_; have HB := n1_; have BK315 := n2_; have GW315 := n3_; have GE315 := n4_; have NB314_315 := n5_; have NB315_314 := n6_; clear n0_ n1_ n2_ n3_ n4_ n5_ n6_; clear hb hbox hg; have hnb18 := NB314_315.out; have hnc18 := NB315_314.out; obtain ⟨hcz19_0, hcz19_1, hcz19_2, hfz19_0, hfz19_1, hfz19_2⟩ := bx3 BK314.out; obtain ⟨hcz20_0, hcz20_1, hcz20_2, hfz20_0, hfz20_1, hfz20_2⟩ := bx3 BK315.out))
  go_ret
  exact ⟨eR, aP21⟩
 rw [if_pos c4] at H
 have c4b0 : (a0_1.toList == a1_1.toList) = true := beq_iff_eq.mpr c4
 have c4b1 : (a0_1.toList != a1_1.toList) = false := bne_eq_false_iff_eq.mpr c4
 clear c4
 by_cases c5 : a0_2.toList = a1_2.toList
 ·rw [if_pos c5] at H
  have c5b0 : (a0_2.toList == a1_2.toList) = true := beq_iff_eq.mpr c5
  have c5b1 : (a0_2.toList != a1_2.toList) = false := bne_eq_false_iff_eq.mpr c5
  clear c5
  obtain rfl := Option.some.inj H
  go_enter Try.func61, Try.ntmps61
  go_wp2_with (first | ((with_reducible refine gate_dst (N := 2) rfl ?_); refine box_event ?hg (N := 2) ?hd (cs := #[.int .i64 a0_0, .string a0_1, .string a0_2]) (t := 61) ?hr ?_; (case hd => rfl); (case hg => rfl); (case hr => exact aP40); intro gb314 hg w6 hbox hb; have BK314 := aM (hbox); have GW314 := aM (bG (w := w) hg); have GE314 := aM (bG (w := w) hg); replace HB := aM (below_step bB hb); clear hb hbox hg) | ((with_reducible refine gate_dst (N := 3) rfl ?_); refine box_event ?hg (N := 3) ?hd (cs := #[.int .i64 a1_0, .string a1_1, .string a1_2]) (t := 61) ?hr ?_; (case hd => rfl); (case hg => rfl); (case hr => exact aP40); intro gb315 hg w7 hbox hb; have n0_ := aM (blk_below (g := gb314) (o := .cells #[.int .i64 a0_0, .string a0_1, .string a0_2] 61 (0, 0)) (kK BK314.out) hb); have n1_ := aM (below_step aP9 hb); have n2_ := aM (hbox); have n3_ := aM ((by rw [hg]; exact (below_size aP9) : w.heap.size ≤ gb315)); have n4_ := aM ((by rw [hg]; exact (below_size aP9) : w.heap.size ≤ gb315)); have n5_ := aM ((by rw [hg]; exact Nat.ne_of_lt (blk_lt (g := gb314) (o := .cells #[.int .i64 a0_0, .string a0_1, .string a0_2] 61 (0, 0)) (kK BK314.out)) : gb314 ≠ gb315)); have n6_ := aM ((by rw [hg]; exact Nat.ne_of_gt (blk_lt (g := gb314) (o := .cells #[.int .i64 a0_0, .string a0_1, .string a0_2] 61 (0, 0)) (kK BK314.out)) : gb315 ≠ gb314)); clear BK314; clear HB; have BK314 := n0_; have HB := n1_; have BK315 := n2_; have GW315 := n3_; have GE315 := n4_; have NB314_315 := n5_; have NB315_314 := n6_; clear n0_ n1_ n2_ n3_ n4_ n5_ n6_; clear hb hbox hg; have hnb8 := NB314_315.out; have hnc8 := NB315_314.out; obtain ⟨hcz9_0, hcz9_1, hcz9_2, hfz9_0, hfz9_1, hfz9_2⟩ := bx3 BK314.out; obtain ⟨hcz10_0, hcz10_1, hcz10_2, hfz10_0, hfz10_1, hfz10_2⟩ := bx3 BK315.out))
  go_ret
  exact ⟨eR, aP21⟩
 rw [if_neg c5] at H
 have c5b0 : (a0_2.toList == a1_2.toList) = false := beq_eq_false_iff_ne.mpr c5
 have c5b1 : (a0_2.toList != a1_2.toList) = true := bne_iff_ne.mpr c5
 obtain rfl := Option.some.inj H
 go_enter Try.func61, Try.ntmps61
 go_wp2_with (first | ((with_reducible refine gate_dst (N := 2) rfl ?_); refine box_event ?hg (N := 2) ?hd (cs := #[.int .i64 a0_0, .string a0_1, .string a0_2]) (t := 61) ?hr ?_; (case hd => rfl); (case hg => rfl); (case hr => exact aP40); intro gb314 hg w11 hbox hb; have BK314 := aM (hbox); have GW314 := aM (bG (w := w) hg); have GE314 := aM (bG (w := w) hg); replace HB := aM (below_step bB hb); clear hb hbox hg) | ((with_reducible refine gate_dst (N := 3) rfl ?_); refine box_event ?hg (N := 3) ?hd (cs := #[.int .i64 a1_0, .string a1_1, .string a1_2]) (t := 61) ?hr ?_; (case hd => rfl); (case hg => rfl); (case hr => exact aP40); intro gb315 hg w12 hbox hb; have n0_ := aM (blk_below (g := gb314) (o := .cells #[.int .i64 a0_0, .string a0_1, .string a0_2] 61 (0, 0)) (kK BK314.out) hb); have n1_ := aM (below_step aP9 hb); have n2_ := aM (hbox); have n3_ := aM ((by rw [hg]; exact (below_size aP9) : w.heap.size ≤ gb315)); have n4_ := aM ((by rw [hg]; exact (below_size aP9) : w.heap.size ≤ gb315)); have n5_ := aM ((by rw [hg]; exact Nat.ne_of_lt (blk_lt (g := gb314) (o := .cells #[.int .i64 a0_0, .string a0_1, .string a0_2] 61 (0, 0)) (kK BK314.out)) : gb314 ≠ gb315)); have n6_ := aM ((by rw [hg]; exact Nat.ne_of_gt (blk_lt (g := gb314) (o := .cells #[.int .i64 a0_0, .string a0_1, .string a0_2] 61 (0, 0)) (kK BK314.out)) : gb315 ≠ gb314)); clear BK314; clear HB; have BK314 := n0_; have HB := n1_; have BK315 := n2_; have GW315 := n3_; have GE315 := n4_; have NB314_315 := n5_; have NB315_314 := n6_; clear n0_ n1_ n2_ n3_ n4_ n5_ n6_; clear hb hbox hg; have hnb13 := NB314_315.out; have hnc13 := NB315_314.out; obtain ⟨hcz14_0, hcz14_1, hcz14_2, hfz14_0, hfz14_1, hfz14_2⟩ := bx3 BK314.out; obtain ⟨hcz15_0, hcz15_1, hcz15_2, hfz15_0, hfz15_1, hfz15_2⟩ := bx3 BK315.out))
 go_ret
 exact ⟨eR, aP21⟩
end Go.Proofs.Ytmhcmcdppimcpaa.PFnExactMoveMarks
