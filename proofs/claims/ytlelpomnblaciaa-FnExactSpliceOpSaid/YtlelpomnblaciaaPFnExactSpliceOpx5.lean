/- Written by a program of this session (wip/ovl.py) over the kit's print: plain functions with the answers of the Go functions, and the proofs that they are; no condition. -/
import Derived.Test.YtlelpomnblaciaaMk
import Derived.Test.YtlelpomnblaciaaPFnExactSpliceOpx0
import Derived.Test.YtlelpomnblaciaaPFnExactSpliceOpx2
import Derived.Test.YtlelpomnblaciaaPFnExactSpliceOpx3
import Derived.Test.YtlelpomnblaciaaPFnExactSpliceOpx4
namespace Go.Proofs.Ytlelpomnblaciaa.PFnExactSpliceOp
open Go.RowKit Go.Proofs.YtlelpomnblaciaaW.PrintWords Go.Proofs.YtlelpomnblaciaaW.PrintLast Go.Proofs.YtlelpomnblaciaaW.PrintMore
attribute [local go_sem] max2_int min2_int max_two min_two max_three min_three max_four min_four   -- for this text's walks alone
set_option linter.unusedVariables false
set_option linter.unusedSimpArgs false

/-! ### spec_l3Splice: function 56 -/
def spec_l3Splice.f (k : Nat) (a0 : ByteArray) (a1 : Int) (a2 : Int) (a3 : ByteArray) : Option ((List (S53))) := if 0 ≤ a1 then (if a1 ≤ a2 then (if a2 ≤ (a0.size : Int) then (if (a0.extract (a1 : Int).toNat (a2 : Int).toNat).toList = a3.toList then ((spec_l3Add.f k ([] : List (S53)) (a0.size : Int) (⟨#[]⟩ : ByteArray) (⟨#[]⟩ : ByteArray)).bind fun t159 => (some t159)) else ((spec_l3Add.f k ([] : List (S53)) a1 (⟨#[]⟩ : ByteArray) (⟨#[]⟩ : ByteArray)).bind fun t162 => ((spec_l3Add.f k t162 0 a3 (⟨#[]⟩ : ByteArray)).bind fun t165 => ((spec_l3Add.f k t165 0 (⟨#[]⟩ : ByteArray) (a0.extract (a1 : Int).toNat (a2 : Int).toNat)).bind fun t168 => ((spec_l3Add.f k t168 (wrap64 ((a0.size : Int) - a2)) (⟨#[]⟩ : ByteArray) (⟨#[]⟩ : ByteArray)).bind fun t171 => (some t171)))))) else (none)) else (none)) else (none)
theorem spec_l3Splice.mono : ∀ a0 a1 a2 a3 k, LeO (spec_l3Splice.f k a0 a1 a2 a3) (spec_l3Splice.f (k + 1) a0 a1 a2 a3) := by
  intro a0 a1 a2 a3 k
  unfold spec_l3Splice.f
  repeat' first
      | (with_reducible exact spec_l3Add.mono _ _ _ _ _)
      | (with_reducible exact LeO.refl _)
      | (with_reducible exact LeO.none _)
      | (with_reducible refine LeO.ite ?_ ?_)
      | (with_reducible refine LeO.bind ?_ (fun _ => ?_))
      | exact spec_l3Add.mono _ _ _ _ _
      | exact LeO.none _
      | refine LeO.ite ?_ ?_
      | refine LeO.bind ?_ (fun _ => ?_)
set_option maxHeartbeats 8000000 in
set_option maxRecDepth 100000 in
theorem spec_l3Splice.calls (k : Nat) (a0 : ByteArray) (a1 : Int) (a2 : Int) (a3 : ByteArray) (r : List (S53)) (w : World) (h : spec_l3Splice.f k a0 a1 a2 a3 = some r) :
    Calls Try.prog 56 #[.string a0, .int .i64 a1, .int .i64 a2, .string a3] w fun e w' => ∃ v0_ : Value, e = .returned (v0_) ∧ Kd.R k53 53 w' w.heap.size (fun _ => True) v0_ r ∧ Below w.heap.size w w' := by
  have hu53 := Try.underlying53
  have HB := Aside0.mk (Below.refl w.heap.size w)
  have H : (if 0 ≤ a1 then (if a1 ≤ a2 then (if a2 ≤ (a0.size : Int) then (if (a0.extract (a1 : Int).toNat (a2 : Int).toNat).toList = a3.toList then ((spec_l3Add.f k ([] : List (S53)) (a0.size : Int) (⟨#[]⟩ : ByteArray) (⟨#[]⟩ : ByteArray)).bind fun t159 => (some t159)) else ((spec_l3Add.f k ([] : List (S53)) a1 (⟨#[]⟩ : ByteArray) (⟨#[]⟩ : ByteArray)).bind fun t162 => ((spec_l3Add.f k t162 0 a3 (⟨#[]⟩ : ByteArray)).bind fun t165 => ((spec_l3Add.f k t165 0 (⟨#[]⟩ : ByteArray) (a0.extract (a1 : Int).toNat (a2 : Int).toNat)).bind fun t168 => ((spec_l3Add.f k t168 (wrap64 ((a0.size : Int) - a2)) (⟨#[]⟩ : ByteArray) (⟨#[]⟩ : ByteArray)).bind fun t171 => (some t171)))))) else (none)) else (none)) else (none)) = some r := h
  clear h
  by_cases c5 : 0 ≤ a1
  · rw [if_pos c5] at H
    have c5b0 := eq_true c5
    have c5b1 : decide (0 ≤ a1) = true := decide_eq_true c5
    clear c5
    by_cases c6 : a1 ≤ a2
    · rw [if_pos c6] at H
      have c6b0 := eq_true c6
      have c6b1 : decide (a1 ≤ a2) = true := decide_eq_true c6
      clear c6
      by_cases c7 : a2 ≤ (a0.size : Int)
      · rw [if_pos c7] at H
        have c7b0 := eq_true c7
        have c7b1 : decide (a2 ≤ (a0.size : Int)) = true := decide_eq_true c7
        clear c7
        by_cases c8 : (a0.extract (a1 : Int).toNat (a2 : Int).toNat).toList = a3.toList
        · rw [if_pos c8] at H
          have c8b0 : ((a0.extract (a1 : Int).toNat (a2 : Int).toNat).toList == a3.toList) = true := beq_iff_eq.mpr c8
          have c8b1 : ((a0.extract (a1 : Int).toNat (a2 : Int).toNat).toList != a3.toList) = false := bne_eq_false_iff_eq.mpr c8
          clear c8
          replace H := Option.bind_eq_some_iff.mp H
          obtain ⟨t159, A90, H⟩ := H
          replace H : (some t159) = some r := H
          have A9 := Aside0.mk A90
          clear A90
          obtain rfl := Option.some.inj H
          go_enter Try.func56, Try.ntmps56
          go_wp2_with (first | ((with_reducible refine gate_callee (f := 41) rfl ?_); refine goesL_ (some 19) rfl rfl Try.func41 (by kernel_rfl) rfl #[.slice none 0 0, .agg #[.int .i64 (a0.size : Int), .string (⟨#[]⟩ : ByteArray), .string (⟨#[]⟩ : ByteArray)]] rfl (by (try simp only [List.map_toArray, List.map_cons, List.map_nil]); first | done | rfl | (simp only [List.length_drop, List.length_take]; rfl)) ?_; (refine (spec_l3Add.calls k (fun k_ => some k_ = (.slice none 0 0 : Value).ownBlock) (.slice none 0 0) ([] : List (S53)) (a0.size : Int) (⟨#[]⟩ : ByteArray) (⟨#[]⟩ : ByteArray) t159 w _ ?side1 ?side2 A9.out).mono ?_); (case side1 => repeat (first | (with_reducible first | exact HB.out | apply below_alloc | apply pw_below_drewN | apply below_drew1) | exact HB.out)); (case side2 => exact Kd.R_nil _ _ _ _ _); rintro e w10 ⟨v160, rfl, ho0, hb, hkp⟩; refine ⟨_, rfl, ?_⟩; have n0_ := Aside0.mk (Kd.R_mono (ok' := fun k_ => True) ho0 (fun k_ hk_ => trivial)); have n1_ := Aside0.mk (hb); clear HB; have HO161 := n0_; have HB := n1_; clear n0_ n1_; (try clear hb); (try clear hkp); (try clear ho0)))
          go_ret
          exact ⟨_, by first | rfl | (simp [errW_none, errW_some] <;> rfl) | (simp [*, errW_none, errW_some] <;> rfl), by (with_reducible repeat (first | apply Kd.R_alloc | apply Kd.R_drewN | apply Kd.R_drew)); exact HO161.out, by repeat (first | (with_reducible first | exact HB.out | apply below_alloc | apply pw_below_drewN | apply below_drew1) | exact HB.out)⟩
        · rw [if_neg c8] at H
          have c8b0 : ((a0.extract (a1 : Int).toNat (a2 : Int).toNat).toList == a3.toList) = false := beq_eq_false_iff_ne.mpr c8
          have c8b1 : ((a0.extract (a1 : Int).toNat (a2 : Int).toNat).toList != a3.toList) = true := bne_iff_ne.mpr c8
          replace H := Option.bind_eq_some_iff.mp H
          obtain ⟨t162, A110, H⟩ := H
          replace H : ((spec_l3Add.f k t162 0 a3 (⟨#[]⟩ : ByteArray)).bind fun t165 => ((spec_l3Add.f k t165 0 (⟨#[]⟩ : ByteArray) (a0.extract (a1 : Int).toNat (a2 : Int).toNat)).bind fun t168 => ((spec_l3Add.f k t168 (wrap64 ((a0.size : Int) - a2)) (⟨#[]⟩ : ByteArray) (⟨#[]⟩ : ByteArray)).bind fun t171 => (some t171)))) = some r := H
          have A11 := Aside0.mk A110
          clear A110
          replace H := Option.bind_eq_some_iff.mp H
          obtain ⟨t165, A120, H⟩ := H
          replace H : ((spec_l3Add.f k t165 0 (⟨#[]⟩ : ByteArray) (a0.extract (a1 : Int).toNat (a2 : Int).toNat)).bind fun t168 => ((spec_l3Add.f k t168 (wrap64 ((a0.size : Int) - a2)) (⟨#[]⟩ : ByteArray) (⟨#[]⟩ : ByteArray)).bind fun t171 => (some t171))) = some r := H
          have A12 := Aside0.mk A120
          clear A120
          have c13b0 := eq_true (of_decide_eq_true (by first | (with_reducible assumption) | assumption) : 0 ≤ a1)
          have c14b0 := eq_true (of_decide_eq_true (by first | (with_reducible assumption) | assumption) : a1 ≤ a2)
          have c15b0 := eq_true (of_decide_eq_true (by first | (with_reducible assumption) | assumption) : a2 ≤ (a0.size : Int))
          replace H := Option.bind_eq_some_iff.mp H
          obtain ⟨t168, A160, H⟩ := H
          replace H : ((spec_l3Add.f k t168 (wrap64 ((a0.size : Int) - a2)) (⟨#[]⟩ : ByteArray) (⟨#[]⟩ : ByteArray)).bind fun t171 => (some t171)) = some r := H
          have A16 := Aside0.mk A160
          clear A160
          replace H := Option.bind_eq_some_iff.mp H
          obtain ⟨t171, A170, H⟩ := H
          replace H : (some t171) = some r := H
          have A17 := Aside0.mk A170
          clear A170
          obtain rfl := Option.some.inj H
          go_enter Try.func56, Try.ntmps56
          go_wp2_with (first | ((with_reducible refine gate_callee (f := 41) rfl ?_); refine goesL_ (some 23) rfl rfl Try.func41 (by kernel_rfl) rfl #[.slice none 0 0, .agg #[.int .i64 a1, .string (⟨#[]⟩ : ByteArray), .string (⟨#[]⟩ : ByteArray)]] rfl (by (try simp only [List.map_toArray, List.map_cons, List.map_nil]); first | done | rfl | (simp only [List.length_drop, List.length_take]; rfl)) ?_; (refine (spec_l3Add.calls k (fun k_ => some k_ = (.slice none 0 0 : Value).ownBlock) (.slice none 0 0) ([] : List (S53)) a1 (⟨#[]⟩ : ByteArray) (⟨#[]⟩ : ByteArray) t162 w _ ?side1 ?side2 A11.out).mono ?_); (case side1 => repeat (first | (with_reducible first | exact HB.out | apply below_alloc | apply pw_below_drewN | apply below_drew1) | exact HB.out)); (case side2 => exact Kd.R_nil _ _ _ _ _); rintro e w18 ⟨v163, rfl, ho0, hb, hkp⟩; refine ⟨_, rfl, ?_⟩; have n0_ := Aside0.mk (Kd.R_mono (ok' := fun k_ => True) ho0 (fun k_ hk_ => trivial)); have n1_ := Aside0.mk (hb); clear HB; have HO164 := n0_; have HB := n1_; clear n0_ n1_; (try clear hb); (try clear hkp); (try clear ho0); obtain ⟨Ao19, co19, eo19⟩ := Kd.R_slice HO164.out; subst eo19) | ((with_reducible refine gate_callee (f := 41) rfl ?_); refine goesL_ (some 27) rfl rfl Try.func41 (by kernel_rfl) rfl #[.slice Ao19 t162.length co19, .agg #[.int .i64 0, .string a3, .string (⟨#[]⟩ : ByteArray)]] rfl (by (try simp only [List.map_toArray, List.map_cons, List.map_nil]); first | done | rfl | (simp only [List.length_drop, List.length_take]; rfl)) ?_; (with_reducible refine (spec_l3Add.calls k (fun k_ => some k_ = (.slice Ao19 t162.length co19 : Value).ownBlock) (.slice Ao19 t162.length co19) t162 0 a3 (⟨#[]⟩ : ByteArray) t165 w _ ?side1 ?side2 A12.out).mono ?_); (case side1 => repeat (first | (with_reducible first | exact HB.out | apply below_alloc | apply pw_below_drewN | apply below_drew1) | exact HB.out)); (case side2 => exact Kd.R_tight rfl HO164.out); rintro e w20 ⟨v166, rfl, ho0, hb, hkp⟩; refine ⟨_, rfl, ?_⟩; have n0_ := Aside0.mk (Kd.R_mono (ok' := fun k_ => True) ho0 (fun k_ hk_ => trivial)); have n1_ := Aside0.mk (hb); clear HB; clear HO164; have HO167 := n0_; have HB := n1_; clear n0_ n1_; (try clear hb); (try clear hkp); (try clear ho0); obtain ⟨Ao21, co21, eo21⟩ := Kd.R_slice HO167.out; subst eo21) | ((with_reducible refine gate_callee (f := 41) rfl ?_); refine goesL_ (some 34) rfl rfl Try.func41 (by kernel_rfl) rfl #[.slice Ao21 t165.length co21, .agg #[.int .i64 0, .string (⟨#[]⟩ : ByteArray), .string (a0.extract (a1 : Int).toNat (a2 : Int).toNat)]] rfl (by (try simp only [List.map_toArray, List.map_cons, List.map_nil]); first | done | rfl | (simp only [List.length_drop, List.length_take]; rfl)) ?_; (with_reducible refine (spec_l3Add.calls k (fun k_ => some k_ = (.slice Ao21 t165.length co21 : Value).ownBlock) (.slice Ao21 t165.length co21) t165 0 (⟨#[]⟩ : ByteArray) (a0.extract (a1 : Int).toNat (a2 : Int).toNat) t168 w _ ?side1 ?side2 A16.out).mono ?_); (case side1 => repeat (first | (with_reducible first | exact HB.out | apply below_alloc | apply pw_below_drewN | apply below_drew1) | exact HB.out)); (case side2 => exact Kd.R_tight rfl HO167.out); rintro e w22 ⟨v169, rfl, ho0, hb, hkp⟩; refine ⟨_, rfl, ?_⟩; have n0_ := Aside0.mk (Kd.R_mono (ok' := fun k_ => True) ho0 (fun k_ hk_ => trivial)); have n1_ := Aside0.mk (hb); clear HB; clear HO167; have HO170 := n0_; have HB := n1_; clear n0_ n1_; (try clear hb); (try clear hkp); (try clear ho0); obtain ⟨Ao23, co23, eo23⟩ := Kd.R_slice HO170.out; subst eo23) | ((with_reducible refine gate_callee (f := 41) rfl ?_); refine goesL_ (some 41) rfl rfl Try.func41 (by kernel_rfl) rfl #[.slice Ao23 t168.length co23, .agg #[.int .i64 (wrap64 ((a0.size : Int) - a2)), .string (⟨#[]⟩ : ByteArray), .string (⟨#[]⟩ : ByteArray)]] rfl (by (try simp only [List.map_toArray, List.map_cons, List.map_nil]); first | done | rfl | (simp only [List.length_drop, List.length_take]; rfl)) ?_; (with_reducible refine (spec_l3Add.calls k (fun k_ => some k_ = (.slice Ao23 t168.length co23 : Value).ownBlock) (.slice Ao23 t168.length co23) t168 (wrap64 ((a0.size : Int) - a2)) (⟨#[]⟩ : ByteArray) (⟨#[]⟩ : ByteArray) t171 w _ ?side1 ?side2 A17.out).mono ?_); (case side1 => repeat (first | (with_reducible first | exact HB.out | apply below_alloc | apply pw_below_drewN | apply below_drew1) | exact HB.out)); (case side2 => exact Kd.R_tight rfl HO170.out); rintro e w24 ⟨v172, rfl, ho0, hb, hkp⟩; refine ⟨_, rfl, ?_⟩; have n0_ := Aside0.mk (Kd.R_mono (ok' := fun k_ => True) ho0 (fun k_ hk_ => trivial)); have n1_ := Aside0.mk (hb); clear HB; clear HO170; have HO173 := n0_; have HB := n1_; clear n0_ n1_; (try clear hb); (try clear hkp); (try clear ho0)))
          go_ret
          exact ⟨_, by first | rfl | (simp [errW_none, errW_some] <;> rfl) | (simp [*, errW_none, errW_some] <;> rfl), by (with_reducible repeat (first | apply Kd.R_alloc | apply Kd.R_drewN | apply Kd.R_drew)); exact HO173.out, by repeat (first | (with_reducible first | exact HB.out | apply below_alloc | apply pw_below_drewN | apply below_drew1) | exact HB.out)⟩
      · rw [if_neg c7] at H
        exact absurd H (by simp)
    · rw [if_neg c6] at H
      exact absurd H (by simp)
  · rw [if_neg c5] at H
    exact absurd H (by simp)

/-! ### spec_SpliceOp: function 27 -/
def spec_SpliceOp.j0 : Nat → ByteArray → Int → Int → ByteArray → Bool → Option ((List (S53)) × Bool)
  | 0, _, _, _, _, _ => none
  | k + 1, x0, x1, x2, x3, x33 => if x33 = true then (some (([] : List (S53)), false)) else ((spec_l3Splice.f k x0 x1 x2 x3).bind fun t178 => ((spec_GoodOp.f k t178).bind fun t181 => (if t181 = true then (some (t178, true)) else (some (([] : List (S53)), false)))))
def spec_SpliceOp.f (k : Nat) (a0 : ByteArray) (a1 : Int) (a2 : Int) (a3 : ByteArray) : Option ((List (S53)) × Bool) := (spec_GoodText.f k a0).bind fun t174 => (if t174 = true then ((spec_GoodText.f k a3).bind fun t175 => (if t175 = true then ((spec_l1In.f a1 0 (a0.size : Int)).bind fun t176 => (if t176 = true then ((spec_l1In.f a2 a1 (a0.size : Int)).bind fun t177 => (spec_SpliceOp.j0 k a0 a1 a2 a3 (!t177))) else (spec_SpliceOp.j0 k a0 a1 a2 a3 true))) else (spec_SpliceOp.j0 k a0 a1 a2 a3 true))) else (spec_SpliceOp.j0 k a0 a1 a2 a3 true))
theorem spec_SpliceOp.mono_l : ∀ k, (∀ y0 y1 y2 y3 y4, LeO (spec_SpliceOp.j0 k y0 y1 y2 y3 y4) (spec_SpliceOp.j0 (k + 1) y0 y1 y2 y3 y4))
  | 0 => fun _ _ _ _ _ r h => by simp [spec_SpliceOp.j0] at h
  | k + 1 => by
    have ih0 := spec_SpliceOp.mono_l k
    · intro y0 y1 y2 y3 y4
      unfold spec_SpliceOp.j0
      repeat' first
      | (with_reducible exact ih0 _ _ _ _ _)
      | (with_reducible exact spec_GoodOp.mono _ _)
      | (with_reducible exact spec_GoodText.mono _ _)
      | (with_reducible exact spec_l3Splice.mono _ _ _ _ _)
      | (with_reducible exact LeO.refl _)
      | (with_reducible exact LeO.none _)
      | (with_reducible refine LeO.ite ?_ ?_)
      | (with_reducible refine LeO.bind ?_ (fun _ => ?_))
      | exact ih0 _ _ _ _ _
      | exact spec_GoodOp.mono _ _
      | exact spec_GoodText.mono _ _
      | exact spec_l3Splice.mono _ _ _ _ _
      | exact LeO.none _
      | refine LeO.ite ?_ ?_
      | refine LeO.bind ?_ (fun _ => ?_)
theorem spec_SpliceOp.mono : ∀ a0 a1 a2 a3 k, LeO (spec_SpliceOp.f k a0 a1 a2 a3) (spec_SpliceOp.f (k + 1) a0 a1 a2 a3) := by
  intro a0 a1 a2 a3 k
  have ih0 := spec_SpliceOp.mono_l k
  unfold spec_SpliceOp.f
  repeat' first
      | (with_reducible exact ih0 _ _ _ _ _)
      | (with_reducible exact spec_GoodOp.mono _ _)
      | (with_reducible exact spec_GoodText.mono _ _)
      | (with_reducible exact spec_l3Splice.mono _ _ _ _ _)
      | (with_reducible exact LeO.refl _)
      | (with_reducible exact LeO.none _)
      | (with_reducible refine LeO.ite ?_ ?_)
      | (with_reducible refine LeO.bind ?_ (fun _ => ?_))
      | exact ih0 _ _ _ _ _
      | exact spec_GoodOp.mono _ _
      | exact spec_GoodText.mono _ _
      | exact spec_l3Splice.mono _ _ _ _ _
      | exact LeO.none _
      | refine LeO.ite ?_ ?_
      | refine LeO.bind ?_ (fun _ => ?_)
set_option maxHeartbeats 8000000 in
set_option maxRecDepth 100000 in
theorem spec_SpliceOp.calls (k : Nat) (a0 : ByteArray) (a1 : Int) (a2 : Int) (a3 : ByteArray) (r1 : List (S53)) (r2 : Bool) (w : World) (h : spec_SpliceOp.f k a0 a1 a2 a3 = some (r1, r2)) :
    Calls Try.prog 27 #[.string a0, .int .i64 a1, .int .i64 a2, .string a3] w fun e w' => ∃ v0_ : Value, e = .returned (.tuple #[v0_, .bool r2]) ∧ Kd.R k53 53 w' w.heap.size (fun _ => True) v0_ r1 ∧ Below w.heap.size w w' := by
  have HB := Aside0.mk (Below.refl w.heap.size w)
  have H : ((spec_GoodText.f k a0).bind fun t174 => (if t174 = true then ((spec_GoodText.f k a3).bind fun t175 => (if t175 = true then ((spec_l1In.f a1 0 (a0.size : Int)).bind fun t176 => (if t176 = true then ((spec_l1In.f a2 a1 (a0.size : Int)).bind fun t177 => (spec_SpliceOp.j0 k a0 a1 a2 a3 (!t177))) else (spec_SpliceOp.j0 k a0 a1 a2 a3 true))) else (spec_SpliceOp.j0 k a0 a1 a2 a3 true))) else (spec_SpliceOp.j0 k a0 a1 a2 a3 true))) = some (r1, r2) := h
  clear h
  have HC5 := Aside0.mk H
  clear H
  go_enter Try.func27, Try.ntmps27
  go_upto_region 1 with (fail)
  go_cut [33] (fun v33 wc => ∃ (kq : Nat) (x33_4 : Bool), v33 = .bool x33_4 ∧ Aside0 (spec_SpliceOp.j0 kq a0 a1 a2 a3 x33_4 = some (r1, r2)) ∧ Aside0 (kq ≤ k) ∧ Aside0 (Below w.heap.size w wc))
  case first =>
    have H := HC5.out
    clear HC5
    replace H := Option.bind_eq_some_iff.mp H
    obtain ⟨t174, A60, H⟩ := H
    replace H : (if t174 = true then ((spec_GoodText.f k a3).bind fun t175 => (if t175 = true then ((spec_l1In.f a1 0 (a0.size : Int)).bind fun t176 => (if t176 = true then ((spec_l1In.f a2 a1 (a0.size : Int)).bind fun t177 => (spec_SpliceOp.j0 k a0 a1 a2 a3 (!t177))) else (spec_SpliceOp.j0 k a0 a1 a2 a3 true))) else (spec_SpliceOp.j0 k a0 a1 a2 a3 true))) else (spec_SpliceOp.j0 k a0 a1 a2 a3 true)) = some (r1, r2) := H
    have A6 := Aside0.mk A60
    clear A60
    by_cases c7 : t174 = true
    · subst c7
      have H1 : ((spec_GoodText.f k a3).bind fun t175 => (if t175 = true then ((spec_l1In.f a1 0 (a0.size : Int)).bind fun t176 => (if t176 = true then ((spec_l1In.f a2 a1 (a0.size : Int)).bind fun t177 => (spec_SpliceOp.j0 k a0 a1 a2 a3 (!t177))) else (spec_SpliceOp.j0 k a0 a1 a2 a3 true))) else (spec_SpliceOp.j0 k a0 a1 a2 a3 true))) = some (r1, r2) := by rw [if_pos rfl] at H; exact H
      clear H
      have H := H1
      clear H1
      replace H := Option.bind_eq_some_iff.mp H
      obtain ⟨t175, A80, H⟩ := H
      replace H : (if t175 = true then ((spec_l1In.f a1 0 (a0.size : Int)).bind fun t176 => (if t176 = true then ((spec_l1In.f a2 a1 (a0.size : Int)).bind fun t177 => (spec_SpliceOp.j0 k a0 a1 a2 a3 (!t177))) else (spec_SpliceOp.j0 k a0 a1 a2 a3 true))) else (spec_SpliceOp.j0 k a0 a1 a2 a3 true)) = some (r1, r2) := H
      have A8 := Aside0.mk A80
      clear A80
      by_cases c9 : t175 = true
      · subst c9
        have H1 : ((spec_l1In.f a1 0 (a0.size : Int)).bind fun t176 => (if t176 = true then ((spec_l1In.f a2 a1 (a0.size : Int)).bind fun t177 => (spec_SpliceOp.j0 k a0 a1 a2 a3 (!t177))) else (spec_SpliceOp.j0 k a0 a1 a2 a3 true))) = some (r1, r2) := by rw [if_pos rfl] at H; exact H
        clear H
        have H := H1
        clear H1
        replace H := Option.bind_eq_some_iff.mp H
        obtain ⟨t176, A100, H⟩ := H
        replace H : (if t176 = true then ((spec_l1In.f a2 a1 (a0.size : Int)).bind fun t177 => (spec_SpliceOp.j0 k a0 a1 a2 a3 (!t177))) else (spec_SpliceOp.j0 k a0 a1 a2 a3 true)) = some (r1, r2) := H
        have A10 := Aside0.mk A100
        clear A100
        by_cases c11 : t176 = true
        · subst c11
          have H1 : ((spec_l1In.f a2 a1 (a0.size : Int)).bind fun t177 => (spec_SpliceOp.j0 k a0 a1 a2 a3 (!t177))) = some (r1, r2) := by rw [if_pos rfl] at H; exact H
          clear H
          have H := H1
          clear H1
          replace H := Option.bind_eq_some_iff.mp H
          obtain ⟨t177, A120, H⟩ := H
          replace H : (spec_SpliceOp.j0 k a0 a1 a2 a3 (!t177)) = some (r1, r2) := H
          have A12 := Aside0.mk A120
          clear A120
          have H' := Aside0.mk H
          clear H
          go_wp2_with (first | ((with_reducible refine gate_callee (f := 53) rfl ?_); refine goesL_ (some 12) rfl rfl Try.func53 (by kernel_rfl) rfl #[.string a0] rfl (by (try simp only [List.map_toArray, List.map_cons, List.map_nil]); first | done | rfl | (simp only [List.length_drop, List.length_take]; rfl)) ?_; (with_reducible refine (spec_GoodText.calls k a0 true _ A6.out).mono ?_); rintro e w' ⟨rfl, ⟨nd, rfl⟩⟩; refine ⟨_, rfl, ?_⟩) | (go_at_call 53; (with_reducible refine (spec_GoodText.calls k a3 true _ A8.out).mono ?_); rintro e w' ⟨rfl, ⟨nd, rfl⟩⟩) | (go_at_call 40; (with_reducible refine (spec_l1In.calls a1 0 (a0.size : Int) true _ A10.out).mono ?_); rintro e w' ⟨rfl, ⟨nd, rfl⟩⟩) | (go_at_call 40; (with_reducible refine (spec_l1In.calls a2 a1 (a0.size : Int) t177 _ A12.out).mono ?_); rintro e w' ⟨rfl, ⟨nd, rfl⟩⟩))
          go_meet
          case rel => exact ⟨_, (!t177), (by first | rfl | (simp; done) | (simp [*]; done)), H', ⟨by first | omega | exact Nat.le_refl _⟩, ⟨by repeat (first | (with_reducible first | exact HB.out | apply below_alloc | apply pw_below_drewN | apply below_drew1) | exact HB.out)⟩⟩
        · replace c11 := Bool.eq_false_iff.mpr c11
          subst c11
          have H1 : (spec_SpliceOp.j0 k a0 a1 a2 a3 true) = some (r1, r2) := by rw [if_neg (show ¬ (false = true) by decide)] at H; exact H
          clear H
          have H := H1
          clear H1
          have H' := Aside0.mk H
          clear H
          go_wp2_with (first | ((with_reducible refine gate_callee (f := 53) rfl ?_); refine goesL_ (some 12) rfl rfl Try.func53 (by kernel_rfl) rfl #[.string a0] rfl (by (try simp only [List.map_toArray, List.map_cons, List.map_nil]); first | done | rfl | (simp only [List.length_drop, List.length_take]; rfl)) ?_; (with_reducible refine (spec_GoodText.calls k a0 true _ A6.out).mono ?_); rintro e w' ⟨rfl, ⟨nd, rfl⟩⟩; refine ⟨_, rfl, ?_⟩) | (go_at_call 53; (with_reducible refine (spec_GoodText.calls k a3 true _ A8.out).mono ?_); rintro e w' ⟨rfl, ⟨nd, rfl⟩⟩) | (go_at_call 40; (with_reducible refine (spec_l1In.calls a1 0 (a0.size : Int) false _ A10.out).mono ?_); rintro e w' ⟨rfl, ⟨nd, rfl⟩⟩))
          go_meet
          case rel => exact ⟨_, (true), (by first | rfl | (simp; done) | (simp [*]; done)), H', ⟨by first | omega | exact Nat.le_refl _⟩, ⟨by repeat (first | (with_reducible first | exact HB.out | apply below_alloc | apply pw_below_drewN | apply below_drew1) | exact HB.out)⟩⟩
      · replace c9 := Bool.eq_false_iff.mpr c9
        subst c9
        have H1 : (spec_SpliceOp.j0 k a0 a1 a2 a3 true) = some (r1, r2) := by rw [if_neg (show ¬ (false = true) by decide)] at H; exact H
        clear H
        have H := H1
        clear H1
        have H' := Aside0.mk H
        clear H
        go_wp2_with (first | ((with_reducible refine gate_callee (f := 53) rfl ?_); refine goesL_ (some 12) rfl rfl Try.func53 (by kernel_rfl) rfl #[.string a0] rfl (by (try simp only [List.map_toArray, List.map_cons, List.map_nil]); first | done | rfl | (simp only [List.length_drop, List.length_take]; rfl)) ?_; (with_reducible refine (spec_GoodText.calls k a0 true _ A6.out).mono ?_); rintro e w' ⟨rfl, ⟨nd, rfl⟩⟩; refine ⟨_, rfl, ?_⟩) | (go_at_call 53; (with_reducible refine (spec_GoodText.calls k a3 false _ A8.out).mono ?_); rintro e w' ⟨rfl, ⟨nd, rfl⟩⟩))
        go_meet
        case rel => exact ⟨_, (true), (by first | rfl | (simp; done) | (simp [*]; done)), H', ⟨by first | omega | exact Nat.le_refl _⟩, ⟨by repeat (first | (with_reducible first | exact HB.out | apply below_alloc | apply pw_below_drewN | apply below_drew1) | exact HB.out)⟩⟩
    · replace c7 := Bool.eq_false_iff.mpr c7
      subst c7
      have H1 : (spec_SpliceOp.j0 k a0 a1 a2 a3 true) = some (r1, r2) := by rw [if_neg (show ¬ (false = true) by decide)] at H; exact H
      clear H
      have H := H1
      clear H1
      have H' := Aside0.mk H
      clear H
      go_wp2_with (first | ((with_reducible refine gate_callee (f := 53) rfl ?_); refine goesL_ (some 12) rfl rfl Try.func53 (by kernel_rfl) rfl #[.string a0] rfl (by (try simp only [List.map_toArray, List.map_cons, List.map_nil]); first | done | rfl | (simp only [List.length_drop, List.length_take]; rfl)) ?_; (with_reducible refine (spec_GoodText.calls k a0 false _ A6.out).mono ?_); rintro e w' ⟨rfl, ⟨nd, rfl⟩⟩; refine ⟨_, rfl, ?_⟩))
      go_meet
      case rel => exact ⟨_, (true), (by first | rfl | (simp; done) | (simp [*]; done)), H', ⟨by first | omega | exact Nat.le_refl _⟩, ⟨by repeat (first | (with_reducible first | exact HB.out | apply below_alloc | apply pw_below_drewN | apply below_drew1) | exact HB.out)⟩⟩
  case rest =>
    clear HC5
    try clear c1
    try clear c2
    try clear p2
    try clear c5
    try clear c7
    try clear c9
    try clear c11
    obtain ⟨kq, x33_4, rfl, HA, HJ4, HB⟩ := hcut
    cases kq with
    | zero => exact absurd HA.out (by simp [spec_SpliceOp.j0])
    | succ kj4 =>
      have H := HA.out
      clear HA
      simp only [spec_SpliceOp.j0] at H
      by_cases c13 : x33_4 = true
      · subst c13
        have H1 : (some (([] : List (S53)), false)) = some (r1, r2) := by rw [if_pos rfl] at H; exact H
        clear H
        have H := H1
        clear H1
        simp only [Option.some.injEq, Prod.mk.injEq] at H
        obtain ⟨rfl, rfl⟩ := H
        go_wp2
        go_ret2
        exact ⟨_, by first | rfl | (simp [errW_none, errW_some] <;> rfl) | (simp [*, errW_none, errW_some] <;> rfl), by first | exact Kd.R_nil _ _ _ _ _ | exact Kd.N_nil _ _ _ _ _ | exact Kd.V_nil _ _ _ _ _ | exact Kd.Q_nil _ _ _ _ _ | exact Kd.S_nil _ _ _ _ _, by repeat (first | (with_reducible first | exact HB.out | apply below_alloc | apply pw_below_drewN | apply below_drew1) | exact HB.out)⟩
      · replace c13 := Bool.eq_false_iff.mpr c13
        subst c13
        have H1 : ((spec_l3Splice.f kj4 a0 a1 a2 a3).bind fun t178 => ((spec_GoodOp.f kj4 t178).bind fun t181 => (if t181 = true then (some (t178, true)) else (some (([] : List (S53)), false))))) = some (r1, r2) := by rw [if_neg (show ¬ (false = true) by decide)] at H; exact H
        clear H
        have H := H1
        clear H1
        replace H := Option.bind_eq_some_iff.mp H
        obtain ⟨t178, A140, H⟩ := H
        replace H : ((spec_GoodOp.f kj4 t178).bind fun t181 => (if t181 = true then (some (t178, true)) else (some (([] : List (S53)), false)))) = some (r1, r2) := H
        have A14 := Aside0.mk A140
        clear A140
        replace H := Option.bind_eq_some_iff.mp H
        obtain ⟨t181, A150, H⟩ := H
        replace H : (if t181 = true then (some (t178, true)) else (some (([] : List (S53)), false))) = some (r1, r2) := H
        have A15 := Aside0.mk A150
        clear A150
        by_cases c16 : t181 = true
        · subst c16
          have H1 : (some (t178, true)) = some (r1, r2) := by rw [if_pos rfl] at H; exact H
          clear H
          have H := H1
          clear H1
          simp only [Option.some.injEq, Prod.mk.injEq] at H
          obtain ⟨rfl, rfl⟩ := H
          go_wp2_with (first | ((with_reducible refine gate_callee (f := 56) rfl ?_); refine goesL_ (some 38) rfl rfl Try.func56 (by kernel_rfl) rfl #[.string a0, .int .i64 a1, .int .i64 a2, .string a3] rfl (by (try simp only [List.map_toArray, List.map_cons, List.map_nil]); first | done | rfl | (simp only [List.length_drop, List.length_take]; rfl)) ?_; (with_reducible refine (spec_l3Splice.calls kj4 a0 a1 a2 a3 t178 _ A14.out).mono ?_); rintro e w17 ⟨v179, rfl, ho0, hb⟩; refine ⟨_, rfl, ?_⟩; have n0_ := Aside0.mk (Kd.R_lower ho0 (below_size (by repeat (first | (with_reducible first | exact HB.out | apply below_alloc | apply pw_below_drewN | apply below_drew1) | exact HB.out)))); have n1_ := Aside0.mk (below_step (by repeat (first | (with_reducible first | exact HB.out | apply below_alloc | apply pw_below_drewN | apply below_drew1) | exact HB.out)) hb); clear HB; have HO180 := n0_; have HB := n1_; clear n0_ n1_; (try clear hb); (try clear hb2); (try clear hk); (try clear hi); (try clear ho0); obtain ⟨Ao18, co18, eo18⟩ := Kd.R_slice HO180.out; subst eo18) | ((with_reducible refine gate_callee (f := 20) rfl ?_); refine goesL_ (some 40) rfl rfl Try.func20 (by kernel_rfl) rfl #[.slice Ao18 t178.length co18] rfl (by (try simp only [List.map_toArray, List.map_cons, List.map_nil]); first | done | rfl | (simp only [List.length_drop, List.length_take]; rfl)) ?_; (with_reducible refine (spec_GoodOp.calls kj4 _ _ t178 true _ ?side1 ?side2 A15.out).mono ?_); (case side1 => repeat (first | exact (Kd.R_reads' HO180.out).2.2 | (with_reducible refine Kd.C_alloc ?_ _) | (with_reducible refine Kd.C_drewN ?_ _) | (with_reducible refine Kd.C_drew ?_))); (case side2 => exact (Kd.R_reads' HO180.out).2.1); rintro e w19 ⟨rfl, hb⟩; refine ⟨_, rfl, ?_⟩; have n0_ := Aside0.mk (Kd.R_below (by (with_reducible repeat (first | apply Kd.R_alloc | apply Kd.R_drewN | apply Kd.R_drew)); exact HO180.out) hb); have n1_ := Aside0.mk (below_step (by repeat (first | (with_reducible first | exact HB.out | apply below_alloc | apply pw_below_drewN | apply below_drew1) | exact HB.out)) hb); clear HO180; clear HB; have HO180 := n0_; have HB := n1_; clear n0_ n1_; (try clear hb); (try clear hb2); (try clear hk); (try clear hi)))
          go_ret2
          exact ⟨_, by first | rfl | (simp [errW_none, errW_some] <;> rfl) | (simp [*, errW_none, errW_some] <;> rfl), by (with_reducible repeat (first | apply Kd.R_alloc | apply Kd.R_drewN | apply Kd.R_drew)); exact HO180.out, by repeat (first | (with_reducible first | exact HB.out | apply below_alloc | apply pw_below_drewN | apply below_drew1) | exact HB.out)⟩
        · replace c16 := Bool.eq_false_iff.mpr c16
          subst c16
          have H1 : (some (([] : List (S53)), false)) = some (r1, r2) := by rw [if_neg (show ¬ (false = true) by decide)] at H; exact H
          clear H
          have H := H1
          clear H1
          simp only [Option.some.injEq, Prod.mk.injEq] at H
          obtain ⟨rfl, rfl⟩ := H
          go_wp2_with (first | ((with_reducible refine gate_callee (f := 56) rfl ?_); refine goesL_ (some 38) rfl rfl Try.func56 (by kernel_rfl) rfl #[.string a0, .int .i64 a1, .int .i64 a2, .string a3] rfl (by (try simp only [List.map_toArray, List.map_cons, List.map_nil]); first | done | rfl | (simp only [List.length_drop, List.length_take]; rfl)) ?_; (with_reducible refine (spec_l3Splice.calls kj4 a0 a1 a2 a3 t178 _ A14.out).mono ?_); rintro e w20 ⟨v179, rfl, ho0, hb⟩; refine ⟨_, rfl, ?_⟩; have n0_ := Aside0.mk (Kd.R_lower ho0 (below_size (by repeat (first | (with_reducible first | exact HB.out | apply below_alloc | apply pw_below_drewN | apply below_drew1) | exact HB.out)))); have n1_ := Aside0.mk (below_step (by repeat (first | (with_reducible first | exact HB.out | apply below_alloc | apply pw_below_drewN | apply below_drew1) | exact HB.out)) hb); clear HB; have HO180 := n0_; have HB := n1_; clear n0_ n1_; (try clear hb); (try clear hb2); (try clear hk); (try clear hi); (try clear ho0); obtain ⟨Ao21, co21, eo21⟩ := Kd.R_slice HO180.out; subst eo21) | ((with_reducible refine gate_callee (f := 20) rfl ?_); refine goesL_ (some 40) rfl rfl Try.func20 (by kernel_rfl) rfl #[.slice Ao21 t178.length co21] rfl (by (try simp only [List.map_toArray, List.map_cons, List.map_nil]); first | done | rfl | (simp only [List.length_drop, List.length_take]; rfl)) ?_; (with_reducible refine (spec_GoodOp.calls kj4 _ _ t178 false _ ?side1 ?side2 A15.out).mono ?_); (case side1 => repeat (first | exact (Kd.R_reads' HO180.out).2.2 | (with_reducible refine Kd.C_alloc ?_ _) | (with_reducible refine Kd.C_drewN ?_ _) | (with_reducible refine Kd.C_drew ?_))); (case side2 => exact (Kd.R_reads' HO180.out).2.1); rintro e w22 ⟨rfl, hb⟩; refine ⟨_, rfl, ?_⟩; have n0_ := Aside0.mk (Kd.R_below (by (with_reducible repeat (first | apply Kd.R_alloc | apply Kd.R_drewN | apply Kd.R_drew)); exact HO180.out) hb); have n1_ := Aside0.mk (below_step (by repeat (first | (with_reducible first | exact HB.out | apply below_alloc | apply pw_below_drewN | apply below_drew1) | exact HB.out)) hb); clear HO180; clear HB; have HO180 := n0_; have HB := n1_; clear n0_ n1_; (try clear hb); (try clear hb2); (try clear hk); (try clear hi)))
          go_ret2
          exact ⟨_, by first | rfl | (simp [errW_none, errW_some] <;> rfl) | (simp [*, errW_none, errW_some] <;> rfl), by first | exact Kd.R_nil _ _ _ _ _ | exact Kd.N_nil _ _ _ _ _ | exact Kd.V_nil _ _ _ _ _ | exact Kd.Q_nil _ _ _ _ _ | exact Kd.S_nil _ _ _ _ _, by repeat (first | (with_reducible first | exact HB.out | apply below_alloc | apply pw_below_drewN | apply below_drew1) | exact HB.out)⟩

/-! ### impl_normal: function 42 (by hand) -/
-- import Mk
section
open Go.Proofs.Ytlelpomnblaciaa.Mk
def toP (x : S53) : Pt := (x.f0, x.f1, x.f2)
def ofP (p : Pt) : S53 := ⟨p.1, p.2.1, p.2.2⟩
def takeP (s : List Pt × ByteArray × ByteArray) (p : Pt) : List Pt × ByteArray × ByteArray := ((keepS s.1 s.2.1 s.2.2 p.1).1, (keepS s.1 s.2.1 s.2.2 p.1).2.1 ++ p.2.1, (keepS s.1 s.2.1 s.2.2 p.1).2.2 ++ p.2.2)
def normP (l : List Pt) : List Pt := (l.foldl takeP ([], ⟨#[]⟩, ⟨#[]⟩)).1 ++ endL (l.foldl takeP ([], ⟨#[]⟩, ⟨#[]⟩)).2.1 (l.foldl takeP ([], ⟨#[]⟩, ⟨#[]⟩)).2.2
/-- Cells one behind the other are a row. -/
theorem R_of_cells {w : World} {base : Nat} {v : Value} {l : List Pt} (h : w.ownsRow base 53 3 v l.length (cellsP l)) :
    Kd.R k53 53 w base (fun _ => True) v (l.map ofP) := by
  refine ⟨fun _ _ => trivial, cellsP l, by rw [List.length_map]; exact h, ?_⟩
  clear h
  induction l with
  | nil => exact Reps.none _ _
  | cons p r ih =>
    have h1 := Reps.snoc (R := k53.M w base fun k => (fun x => True) k ∧ some k ≠ v.ownBlock) (Reps.none _ 3) (k53_mkM w base _ (ofP p)) rfl
    exact Kd.reps_append h1 ih
def impl_normal.f (l0 : List S53) : Option (List S53) :=
  if l0.length ≤ 60 ∧ (l0.all fun x => decide (x.f1.size ≤ 300 ∧ x.f2.size ≤ 300)) = true then some ((normP (l0.map toP)).map ofP) else none
def stN (l : List S53) (i : Nat) : List Pt × ByteArray × ByteArray := ((l.take i).map toP).foldl takeP ([], ⟨#[]⟩, ⟨#[]⟩)
theorem stN_succ (l : List S53) (i : Nat) (h : i < l.length) : stN l (i + 1) = takeP (stN l i) (toP l[i]) := by
  unfold stN; rw [List.take_succ_eq_append_getElem h, List.map_append, List.foldl_append]; rfl
theorem keepS_len (l : List Pt) (a b : ByteArray) (x : Int) : (keepS l a b x).1.length ≤ l.length + 3 := by
  have he : (endL a b).length ≤ 2 := by unfold endL; rw [List.length_append]; split <;> split <;> simp
  unfold keepS; split
  · show l.length ≤ _; omega
  · show (keepA (l ++ endL a b) x).length ≤ _
    unfold keepA
    split
    · split
      · rw [List.length_append, List.length_dropLast, List.length_append]; simp; omega
      · rw [List.length_append, List.length_append]; simp; omega
    · simp
theorem keepS_put (l : List Pt) (a b : ByteArray) (x : Int) : (keepS l a b x).2.1.size ≤ a.size ∧ (keepS l a b x).2.2.size ≤ b.size := by
  unfold keepS; split
  · exact ⟨Nat.le_refl _, Nat.le_refl _⟩
  · exact ⟨Nat.zero_le _, Nat.zero_le _⟩
theorem stN_bound (l : List S53) (hs : ∀ x ∈ l, x.f1.size ≤ 300 ∧ x.f2.size ≤ 300) : ∀ i, i ≤ l.length → (stN l i).1.length ≤ 3 * i ∧ (stN l i).2.1.size ≤ 300 * i ∧ (stN l i).2.2.size ≤ 300 * i
  | 0, _ => ⟨Nat.le_refl _, Nat.le_refl _, Nat.le_refl _⟩
  | i + 1, h => by
    obtain ⟨h1, h2, h3⟩ := stN_bound l hs i (by omega)
    have hx := hs _ (List.getElem_mem (show i < l.length by omega))
    rw [stN_succ l i (by omega)]
    have k1 := keepS_len (stN l i).1 (stN l i).2.1 (stN l i).2.2 (l[i]'(by omega)).f0
    have k2 := keepS_put (stN l i).1 (stN l i).2.1 (stN l i).2.2 (l[i]'(by omega)).f0
    refine ⟨Nat.le_trans k1 (by omega), ?_, ?_⟩
    · show ((keepS (stN l i).1 (stN l i).2.1 (stN l i).2.2 (l[i]'(by omega)).f0).2.1 ++ (l[i]'(by omega)).f1).size ≤ _
      rw [ByteArray.size_append]; have := k2.1; have := hx.1; omega
    · show ((keepS (stN l i).1 (stN l i).2.1 (stN l i).2.2 (l[i]'(by omega)).f0).2.2 ++ (l[i]'(by omega)).f2).size ≤ _
      rw [ByteArray.size_append]; have := k2.2; have := hx.2; omega
theorem far_set {w0 w : World} {base g b i : Nat} {l : List Pt} {put drop : ByteArray} {v : Value} (h : IsMk w0 w base g l put drop v) (hb : base ≤ b) (hne : g ≠ b) (hv : v.ownBlock ≠ some b) (u : Value) : IsMk w0 (w.setCell ⟨b, i, none⟩ u) base g l put drop v :=
  ⟨blk_far h.blk hne u, own_set h.own hv i u, h.far, h.bel.setCell (p := ⟨b, i, none⟩) hb u, Nat.le_trans h.siz (size_set w b i u)⟩
theorem mk_init {w w1 : World} {g : Nat} (hg : g = w.heap.size) (hb : Below w.heap.size w w1) (h : w1.heap[g]? = some (.cells #[.slice none 0 0, .string ⟨#[]⟩, .string ⟨#[]⟩] 74 (0, 0))) : IsMk w w1 w.heap.size g [] ⟨#[]⟩ ⟨#[]⟩ (.slice none 0 0) :=
  ⟨h, own_nil _ _ _ _, by simp [Value.ownBlock], hb, hb.size⟩
set_option maxHeartbeats 4000000 in
set_option maxRecDepth 100000 in
theorem impl_normal.calls (A0 : Option Addr) (c0 : Nat) (l0 : List S53) (r : List S53) (w : World) (hr0 : Kd.C k53 w A0 l0.length l0) (hc0 : l0.length ≤ c0) (h : impl_normal.f l0 = some r) :
    Calls Try.prog 42 #[.slice A0 l0.length c0] w fun e w' => ∃ v0_ : Value, e = .returned v0_ ∧ Kd.R k53 53 w' w.heap.size (fun _ => True) v0_ r ∧ Below w.heap.size w w' := by
  have hu53 := Try.underlying53
  have hu74 := Try.underlying74
  unfold impl_normal.f at h
  split at h
  · rename_i hgd
    obtain rfl := Option.some.inj h
    have HR0 := Aside0.mk hr0
    have HC0 := Aside0.mk hc0
    have HG := Aside0.mk hgd
    clear hr0 hc0 h hgd
    go_enter Try.func42, Try.ntmps42
    go_wp2_with (first | ((with_reducible refine gate_dst (N := 3) rfl ?_); refine box_event ?hg (N := 3) ?hd (cs := #[.slice none 0 0, .string ⟨#[]⟩, .string ⟨#[]⟩]) (t := 74) ?hr ?_; (case hd => rfl); (case hg => rfl); (case hr => first | (go_simp; done) | (go_simp; rfl)); intro gb hgb w4 hbox hb; have HI := Aside0.mk (mk_init hgb hb hbox); have GB := Aside0.mk hgb; clear hbox hb hgb))
    go_loopw [8] (fun v8 wr => ∃ i : Nat, v8 = .int .i64 (i : Int) ∧ Aside0 (i ≤ l0.length) ∧ ∃ v, Aside0 (IsMk w wr w.heap.size gb (stN l0 i).1 (stN l0 i).2.1 (stN l0 i).2.2 v)) (fun i _ => l0.length - (match i with | .int _ n => n.toNat | _ => 0))
    case atStart => exact ⟨0, rfl, ⟨Nat.zero_le _⟩, _, HI⟩
    case round =>
      obtain ⟨i, rfl, Hi, v, HM⟩ := hrel
      clear HI
      by_cases hlt : i < l0.length
      · have c3b0 : decide ((i : Int) < (l0.length : Int)) = true := decide_eq_true (by omega)
        have p3 : (0 : Int) ≤ (i : Int) := by omega
        have q3 : (i : Int) < (l0.length : Int) := by omega
        obtain ⟨ad, e3, hx0, hx1, hx2⟩ := at_T53 HR0.out (i : Int) p3 q3
        cases e3
        have HX0 := (HM.out.bel.cell (World.block_lt_of_cell? w _ hx0)).trans hx0
        have HX1 := (HM.out.bel.cell (World.block_lt_of_cell? w _ hx1)).trans hx1
        have HX2 := (HM.out.bel.cell (World.block_lt_of_cell? w _ hx2)).trans hx2
        clear hx0 hx1 hx2
        simp only [Int.toNat_natCast] at HX0 HX1 HX2
        have HLT := Aside0.mk hlt
        have hss : ∀ x ∈ l0, x.f1.size ≤ 300 ∧ x.f2.size ≤ 300 := fun x hx => of_decide_eq_true (List.all_eq_true.1 HG.out.2 x hx)
        have hl60 := HG.out.1
        obtain ⟨u1, u2, u3⟩ := stN_bound l0 hss i (by omega)
        have hgt : rd_T53 l0 (i : Int) = l0[i] := by
          show l0.getD _ _ = _
          simp [List.getD_eq_getElem?_getD, hlt]
        have hsi := hss _ (List.getElem_mem hlt)
        have hb1 : (stN l0 i).1.length ≤ 900 := by omega
        have hb2 : (stN l0 i).2.1.size + (l0[i]).f1.size ≤ 4611686018427387904 := by omega
        have hb3 : (stN l0 i).2.2.size + (l0[i]).f2.size ≤ 4611686018427387904 := by omega
        clear hss u1 u2 u3 hsi
        go_wp2_with (first | ((with_reducible refine gate_dst (N := 5) rfl ?_); refine box_event ?hg (N := 5) ?hd (cs := #[.int .i64 0, .string ⟨#[]⟩, .string ⟨#[]⟩]) (t := 53) ?hr ?_; (case hd => rfl); (case hg => rfl); (case hr => first | (go_simp; done) | (go_simp; rfl)); intro gp hgp w5 hbox hb; have HM5 := Aside0.mk (HM.out.below hb); have GP := Aside0.mk hgp; have BX := Aside0.mk hbox; have y0 := (blk_cell hbox 0).trans (show _ = some (Value.int .i64 0) from rfl); have y1 := (blk_cell hbox 1).trans (show _ = some (Value.string ⟨#[]⟩) from rfl); have y2 := (blk_cell hbox 2).trans (show _ = some (Value.string ⟨#[]⟩) from rfl); have f0 := blk_frozen hbox 0; have f1 := blk_frozen hbox 1; have f2 := blk_frozen hbox 2; have g1 := Aside0.mk (show w.heap.size ≤ gp by rw [hgp]; exact HM.out.siz); have g2 := Aside0.mk (show gb ≠ gp by rw [hgp]; exact Nat.ne_of_lt (blk_lt HM.out.blk)); have g3 := Aside0.mk (show v.ownBlock ≠ some gp from fun e => absurd (own_lt HM.out.own gp e) (by rw [hgp]; exact Nat.lt_irrefl _)); clear hb hgp hbox))
        have htk := far_set (far_set (far_set HM5.out g1.out g2.out g3.out (i := 0) (.int .i64 (l0[i]).f0)) g1.out g2.out g3.out (i := 1) (.string (l0[i]).f1)) g1.out g2.out g3.out (i := 2) (.string (l0[i]).f2)
        refine (maker_take w.heap.size gb v (stN l0 i).1 (stN l0 i).2.1 (stN l0 i).2.2 (l0[i]).f0 (l0[i]).f1 (l0[i]).f2 w _ htk (Nat.le_of_eq GB.out.symm) hb1 hb2 hb3).mono ?_
        rintro e w6 ⟨rfl, v6, h6⟩
        have HM6 := Aside0.mk h6
        clear h6
        go_wp2_with fail
        have hl' := HLT.out
        have hl6 := HG.out.1
        go_roundw
        case rel =>
          refine ⟨i + 1, ?_, ⟨by omega⟩, v6, ⟨?_⟩⟩
          · first | rfl | (simp; done) | (congr 1; unfold wrap64; omega)
          · rw [stN_succ l0 i hl']; exact HM6.out
        case measure => simp; omega
      · have c3b0 : decide ((i : Int) < (l0.length : Int)) = false := decide_eq_false (by omega)
        have c3b1 : decide (i < l0.length) = false := decide_eq_false hlt
        have hi : i = l0.length := by have := Hi.out; omega
        have hss : ∀ x ∈ l0, x.f1.size ≤ 300 ∧ x.f2.size ≤ 300 := fun x hx => of_decide_eq_true (List.all_eq_true.1 HG.out.2 x hx)
        have hb1 : (stN l0 i).1.length ≤ 1000 := by have := (stN_bound l0 hss i Hi.out).1; have := HG.out.1; omega
        clear hss
        have HH := Aside0.mk hi
        clear hi hlt
        have hmd := maker_made w.heap.size gb v (stN l0 i).1 (stN l0 i).2.1 (stN l0 i).2.2 _ _ HM.out (Nat.le_of_eq GB.out.symm) hb1
        go_wp2_with fail
        refine hmd.mono ?_
        rintro e w6 ⟨v6, rfl, h6⟩
        have HM6 := Aside0.mk h6
        clear h6
        go_wp2_with fail
        go_ret
        refine ⟨_, rfl, ?_, HM6.out.bel⟩
        have hR := R_of_cells HM6.out.own
        have e : stN l0 i = (l0.map toP).foldl takeP ([], ⟨#[]⟩, ⟨#[]⟩) := by unfold stN; rw [HH.out, List.take_of_length_le (Nat.le_refl _)]
        rw [e] at hR
        exact hR
  · cases h
end

/-! ### impl_KeepAll: function 15 -/
def impl_KeepAll.f (a0 : Int) : Option ((List (S53)) × Bool) := if a0 < 0 then (some (([] : List (S53)), false)) else (if a0 > 300 then (some (([] : List (S53)), false)) else ((impl_normal.f (([(⟨a0, (⟨#[]⟩ : ByteArray), (⟨#[]⟩ : ByteArray)⟩ : S53)] : List (S53)))).bind fun t185 => (some (t185, true))))
set_option maxHeartbeats 8000000 in
set_option maxRecDepth 100000 in
theorem impl_KeepAll.calls (a0 : Int) (r1 : List (S53)) (r2 : Bool) (w : World) (h : impl_KeepAll.f a0 = some (r1, r2)) :
    Calls Try.prog 15 #[.int .i64 a0] w fun e w' => ∃ v0_ : Value, e = .returned (.tuple #[v0_, .bool r2]) ∧ Kd.R k53 53 w' w.heap.size (fun _ => True) v0_ r1 ∧ Below w.heap.size w w' := by
  have hu53 := Try.underlying53
  have HB := Aside0.mk (Below.refl w.heap.size w)
  have H : (if a0 < 0 then (some (([] : List (S53)), false)) else (if a0 > 300 then (some (([] : List (S53)), false)) else ((impl_normal.f (([(⟨a0, (⟨#[]⟩ : ByteArray), (⟨#[]⟩ : ByteArray)⟩ : S53)] : List (S53)))).bind fun t185 => (some (t185, true))))) = some (r1, r2) := h
  clear h
  by_cases c2 : a0 < 0
  · rw [if_pos c2] at H
    have c2b0 : decide (a0 < 0) = true := decide_eq_true c2
    clear c2
    simp only [Option.some.injEq, Prod.mk.injEq] at H
    obtain ⟨rfl, rfl⟩ := H
    go_enter Try.func15, Try.ntmps15
    go_wp2
    go_ret2
    exact ⟨_, by first | rfl | (simp [errW_none, errW_some] <;> rfl) | (simp [*, errW_none, errW_some] <;> rfl), by first | exact Kd.R_nil _ _ _ _ _ | exact Kd.N_nil _ _ _ _ _ | exact Kd.V_nil _ _ _ _ _ | exact Kd.Q_nil _ _ _ _ _ | exact Kd.S_nil _ _ _ _ _, by repeat (first | (with_reducible first | exact HB.out | apply below_alloc | apply pw_below_drewN | apply below_drew1) | exact HB.out)⟩
  · rw [if_neg c2] at H
    have c2b0 : decide (a0 < 0) = false := decide_eq_false c2
    clear c2
    by_cases c3 : a0 > 300
    · rw [if_pos c3] at H
      have c3b0 : decide (300 < a0) = true := decide_eq_true c3
      clear c3
      simp only [Option.some.injEq, Prod.mk.injEq] at H
      obtain ⟨rfl, rfl⟩ := H
      go_enter Try.func15, Try.ntmps15
      go_wp2
      go_ret2
      exact ⟨_, by first | rfl | (simp [errW_none, errW_some] <;> rfl) | (simp [*, errW_none, errW_some] <;> rfl), by first | exact Kd.R_nil _ _ _ _ _ | exact Kd.N_nil _ _ _ _ _ | exact Kd.V_nil _ _ _ _ _ | exact Kd.Q_nil _ _ _ _ _ | exact Kd.S_nil _ _ _ _ _, by repeat (first | (with_reducible first | exact HB.out | apply below_alloc | apply pw_below_drewN | apply below_drew1) | exact HB.out)⟩
    · rw [if_neg c3] at H
      have c3b0 : decide (300 < a0) = false := decide_eq_false c3
      clear c3
      obtain ⟨y182, hy182⟩ : ∃ y_ : List (S53), y_ = (([(⟨a0, (⟨#[]⟩ : ByteArray), (⟨#[]⟩ : ByteArray)⟩ : S53)] : List (S53))) := ⟨_, rfl⟩
      replace H : ((impl_normal.f y182).bind fun t185 => (some (t185, true))) = some (r1, r2) := by first | (rw [hy182]; with_reducible exact H) | (have H2_ := (Option.bind_some _ _).symm.trans H; rw [hy182]; with_reducible exact H2_) | (have H2_ := (Option.bind_some _ _).symm.trans H; with_reducible exact H2_) | with_reducible exact H | (rw [hy182]; exact H) | exact H
      have Ny182 := Aside0.mk hy182
      clear hy182
      replace H := Option.bind_eq_some_iff.mp H
      obtain ⟨t185, A40, H⟩ := H
      replace H : (some (t185, true)) = some (r1, r2) := H
      have A4 := Aside0.mk A40
      clear A40
      simp only [Option.some.injEq, Prod.mk.injEq] at H
      obtain ⟨rfl, rfl⟩ := H
      go_enter Try.func15, Try.ntmps15
      go_wp2_with (first | ((with_reducible refine gate_dst (N := 12) rfl ?_); refine Kd.R_lit k53 _ 53 ?hg (N := 12) ?hd (xs := ([(⟨a0, (⟨#[]⟩ : ByteArray), (⟨#[]⟩ : ByteArray)⟩ : S53)] : List (S53))) (inner := [.int .i64 a0, .string (⟨#[]⟩ : ByteArray), .string (⟨#[]⟩ : ByteArray)]) (ok := fun _ => True) (okp := fun _ => True) ?hr ?hp (fun _ hk => hk) trivial (Below.refl _ _) (Nat.le_refl _) (by simp) ?_; (case hd => rfl); (case hg => rfl); (case hr => first | (go_simp; done) | (go_simp; rfl)); (case hp => exact (Reps.c3 (show Kd.M k53 _ _ _ (⟨a0, (⟨#[]⟩ : ByteArray), (⟨#[]⟩ : ByteArray)⟩ : S53) [.int .i64 a0, .string (⟨#[]⟩ : ByteArray), .string (⟨#[]⟩ : ByteArray)] from (k53_mkM _ _ _ (⟨a0, (⟨#[]⟩ : ByteArray), (⟨#[]⟩ : ByteArray)⟩ : S53) )) (Reps.none _ _))); intro v183 w5 ho6 hb hg_ hnew_; clear hg_ hnew_; (first | rw [← Ny182.out] at ho6 | (simp only [Int.reduceToNat] at ho6; rw [← Ny182.out] at ho6)); have n0_ := Aside0.mk (Kd.R_lower ho6 (below_size (by repeat (first | (with_reducible first | exact HB.out | apply below_alloc | apply pw_below_drewN | apply below_drew1) | exact HB.out)))); have n1_ := Aside0.mk (below_step (by repeat (first | (with_reducible first | exact HB.out | apply below_alloc | apply pw_below_drewN | apply below_drew1) | exact HB.out)) hb); clear HB; have HO184 := n0_; have HB := n1_; clear n0_ n1_; clear hb ho6; obtain ⟨Ao7, co7, eo7⟩ := Kd.R_slice HO184.out; subst eo7) | ((with_reducible refine gate_callee (f := 42) rfl ?_); refine goesL_ (some 13) rfl rfl Try.func42 (by kernel_rfl) rfl #[.slice Ao7 y182.length co7] rfl (by (try simp only [List.map_toArray, List.map_cons, List.map_nil]); first | done | rfl | (simp only [List.length_drop, List.length_take]; rfl)) ?_; (with_reducible refine (impl_normal.calls _ _ y182 t185 _ ?side1 ?side2 A4.out).mono ?_); (case side1 => repeat (first | exact (Kd.R_reads' HO184.out).2.2 | (with_reducible refine Kd.C_alloc ?_ _) | (with_reducible refine Kd.C_drewN ?_ _) | (with_reducible refine Kd.C_drew ?_))); (case side2 => exact (Kd.R_reads' HO184.out).2.1); rintro e w8 ⟨v186, rfl, ho0, hb⟩; refine ⟨_, rfl, ?_⟩; have n0_ := Aside0.mk (Kd.R_elder' (by (with_reducible repeat (first | apply Kd.R_alloc | apply Kd.R_drewN | apply Kd.R_drew)); exact HO184.out) (Kd.R_base ho0) hb); have n1_ := Aside0.mk (Kd.R_lower (Kd.R_new' ho0 (Kd.R_lt (by (with_reducible repeat (first | apply Kd.R_alloc | apply Kd.R_drewN | apply Kd.R_drew)); exact HO184.out))) (below_size (by repeat (first | (with_reducible first | exact HB.out | apply below_alloc | apply pw_below_drewN | apply below_drew1) | exact HB.out)))); have n2_ := Aside0.mk (below_step (by repeat (first | (with_reducible first | exact HB.out | apply below_alloc | apply pw_below_drewN | apply below_drew1) | exact HB.out)) hb); clear HO184; clear HB; have HO184 := n0_; have HO187 := n1_; have HB := n2_; clear n0_ n1_ n2_; (try clear hb); (try clear hb2); (try clear hk); (try clear hi); (try clear ho0)))
      go_ret2
      exact ⟨_, by first | rfl | (simp [errW_none, errW_some] <;> rfl) | (simp [*, errW_none, errW_some] <;> rfl), by (with_reducible repeat (first | apply Kd.R_alloc | apply Kd.R_drewN | apply Kd.R_drew)); exact Kd.R_mono HO187.out (fun _ hk => trivial), by repeat (first | (with_reducible first | exact HB.out | apply below_alloc | apply pw_below_drewN | apply below_drew1) | exact HB.out)⟩

/-! ### impl_isName: function 77 -/
def impl_isName.f (a0 : Int) : Option (Bool) := if a0 ≥ 65 then (some (decide (a0 ≤ 70))) else (some false)
set_option maxHeartbeats 8000000 in
set_option maxRecDepth 100000 in
theorem impl_isName.calls (a0 : Int) (r : Bool) (w : World) (h : impl_isName.f a0 = some r) :
    Calls Try.prog 77 #[.int .u8 a0] w fun e w' => e = .returned (.bool r) ∧ Drawn0 w w' := by
  have H : (if a0 ≥ 65 then (some (decide (a0 ≤ 70))) else (some false)) = some r := h
  clear h
  by_cases c2 : a0 ≥ 65
  · rw [if_pos c2] at H
    have c2b0 : decide (65 ≤ a0) = true := decide_eq_true c2
    clear c2
    obtain rfl := Option.some.inj H
    go_enter Try.func77, Try.ntmps77
    go_wp2
    go_ret
    exact ⟨by first | rfl | (simp; done) | (simp [*]; done), by repeat (first | exact Drawn0.refl _ | apply Drawn0.step)⟩
  · rw [if_neg c2] at H
    have c2b0 : decide (65 ≤ a0) = false := decide_eq_false c2
    clear c2
    obtain rfl := Option.some.inj H
    go_enter Try.func77, Try.ntmps77
    go_wp2
    go_ret
    exact ⟨by first | rfl | (simp; done) | (simp [*]; done), by repeat (first | exact Drawn0.refl _ | apply Drawn0.step)⟩

/-! ### impl_isPlain: function 78 -/
def impl_isPlain.f (a0 : Int) : Option (Bool) := if a0 ≥ 97 then (if a0 ≤ 122 then (some true) else (if a0 ≥ 48 then (if a0 ≤ 57 then (some true) else (if a0 = 32 then (some true) else (if a0 = 46 then (some true) else (some (a0 == 44))))) else (if a0 = 32 then (some true) else (if a0 = 46 then (some true) else (some (a0 == 44)))))) else (if a0 ≥ 48 then (if a0 ≤ 57 then (some true) else (if a0 = 32 then (some true) else (if a0 = 46 then (some true) else (some (a0 == 44))))) else (if a0 = 32 then (some true) else (if a0 = 46 then (some true) else (some (a0 == 44)))))
set_option maxHeartbeats 8000000 in
set_option maxRecDepth 100000 in
theorem impl_isPlain.calls (a0 : Int) (r : Bool) (w : World) (h : impl_isPlain.f a0 = some r) :
    Calls Try.prog 78 #[.int .u8 a0] w fun e w' => e = .returned (.bool r) ∧ Drawn0 w w' := by
  have H : (if a0 ≥ 97 then (if a0 ≤ 122 then (some true) else (if a0 ≥ 48 then (if a0 ≤ 57 then (some true) else (if a0 = 32 then (some true) else (if a0 = 46 then (some true) else (some (a0 == 44))))) else (if a0 = 32 then (some true) else (if a0 = 46 then (some true) else (some (a0 == 44)))))) else (if a0 ≥ 48 then (if a0 ≤ 57 then (some true) else (if a0 = 32 then (some true) else (if a0 = 46 then (some true) else (some (a0 == 44))))) else (if a0 = 32 then (some true) else (if a0 = 46 then (some true) else (some (a0 == 44)))))) = some r := h
  clear h
  by_cases c2 : a0 ≥ 97
  · rw [if_pos c2] at H
    have c2b0 : decide (97 ≤ a0) = true := decide_eq_true c2
    clear c2
    by_cases c3 : a0 ≤ 122
    · rw [if_pos c3] at H
      have c3b0 : decide (a0 ≤ 122) = true := decide_eq_true c3
      clear c3
      obtain rfl := Option.some.inj H
      go_enter Try.func78, Try.ntmps78
      go_wp2
      go_ret
      exact ⟨by first | rfl | (simp; done) | (simp [*]; done), by repeat (first | exact Drawn0.refl _ | apply Drawn0.step)⟩
    · rw [if_neg c3] at H
      have c3b0 : decide (a0 ≤ 122) = false := decide_eq_false c3
      clear c3
      by_cases c4 : a0 ≥ 48
      · rw [if_pos c4] at H
        have c4b0 : decide (48 ≤ a0) = true := decide_eq_true c4
        clear c4
        by_cases c5 : a0 ≤ 57
        · rw [if_pos c5] at H
          have c5b0 : decide (a0 ≤ 57) = true := decide_eq_true c5
          clear c5
          obtain rfl := Option.some.inj H
          go_enter Try.func78, Try.ntmps78
          go_wp2
          go_ret
          exact ⟨by first | rfl | (simp; done) | (simp [*]; done), by repeat (first | exact Drawn0.refl _ | apply Drawn0.step)⟩
        · rw [if_neg c5] at H
          have c5b0 : decide (a0 ≤ 57) = false := decide_eq_false c5
          clear c5
          by_cases c6 : a0 = 32
          · rw [if_pos c6] at H
            have c6b0 : (a0 == 32) = true := beq_iff_eq.mpr c6
            have c6b1 : (a0 != 32) = false := bne_eq_false_iff_eq.mpr c6
            clear c6
            obtain rfl := Option.some.inj H
            go_enter Try.func78, Try.ntmps78
            go_wp2
            go_ret
            exact ⟨by first | rfl | (simp; done) | (simp [*]; done), by repeat (first | exact Drawn0.refl _ | apply Drawn0.step)⟩
          · rw [if_neg c6] at H
            have c6b0 : (a0 == 32) = false := beq_eq_false_iff_ne.mpr c6
            have c6b1 : (a0 != 32) = true := bne_iff_ne.mpr c6
            by_cases c7 : a0 = 46
            · rw [if_pos c7] at H
              have c7b0 : (a0 == 46) = true := beq_iff_eq.mpr c7
              have c7b1 : (a0 != 46) = false := bne_eq_false_iff_eq.mpr c7
              clear c7
              obtain rfl := Option.some.inj H
              go_enter Try.func78, Try.ntmps78
              go_wp2
              go_ret
              exact ⟨by first | rfl | (simp; done) | (simp [*]; done), by repeat (first | exact Drawn0.refl _ | apply Drawn0.step)⟩
            · rw [if_neg c7] at H
              have c7b0 : (a0 == 46) = false := beq_eq_false_iff_ne.mpr c7
              have c7b1 : (a0 != 46) = true := bne_iff_ne.mpr c7
              obtain rfl := Option.some.inj H
              go_enter Try.func78, Try.ntmps78
              go_wp2
              go_ret
              exact ⟨by first | rfl | (simp; done) | (simp [*]; done), by repeat (first | exact Drawn0.refl _ | apply Drawn0.step)⟩
      · rw [if_neg c4] at H
        have c4b0 : decide (48 ≤ a0) = false := decide_eq_false c4
        clear c4
        by_cases c8 : a0 = 32
        · rw [if_pos c8] at H
          have c8b0 : (a0 == 32) = true := beq_iff_eq.mpr c8
          have c8b1 : (a0 != 32) = false := bne_eq_false_iff_eq.mpr c8
          clear c8
          obtain rfl := Option.some.inj H
          go_enter Try.func78, Try.ntmps78
          go_wp2
          go_ret
          exact ⟨by first | rfl | (simp; done) | (simp [*]; done), by repeat (first | exact Drawn0.refl _ | apply Drawn0.step)⟩
        · rw [if_neg c8] at H
          have c8b0 : (a0 == 32) = false := beq_eq_false_iff_ne.mpr c8
          have c8b1 : (a0 != 32) = true := bne_iff_ne.mpr c8
          by_cases c9 : a0 = 46
          · rw [if_pos c9] at H
            have c9b0 : (a0 == 46) = true := beq_iff_eq.mpr c9
            have c9b1 : (a0 != 46) = false := bne_eq_false_iff_eq.mpr c9
            clear c9
            obtain rfl := Option.some.inj H
            go_enter Try.func78, Try.ntmps78
            go_wp2
            go_ret
            exact ⟨by first | rfl | (simp; done) | (simp [*]; done), by repeat (first | exact Drawn0.refl _ | apply Drawn0.step)⟩
          · rw [if_neg c9] at H
            have c9b0 : (a0 == 46) = false := beq_eq_false_iff_ne.mpr c9
            have c9b1 : (a0 != 46) = true := bne_iff_ne.mpr c9
            obtain rfl := Option.some.inj H
            go_enter Try.func78, Try.ntmps78
            go_wp2
            go_ret
            exact ⟨by first | rfl | (simp; done) | (simp [*]; done), by repeat (first | exact Drawn0.refl _ | apply Drawn0.step)⟩
  · rw [if_neg c2] at H
    have c2b0 : decide (97 ≤ a0) = false := decide_eq_false c2
    clear c2
    by_cases c10 : a0 ≥ 48
    · rw [if_pos c10] at H
      have c10b0 : decide (48 ≤ a0) = true := decide_eq_true c10
      clear c10
      by_cases c11 : a0 ≤ 57
      · rw [if_pos c11] at H
        have c11b0 : decide (a0 ≤ 57) = true := decide_eq_true c11
        clear c11
        obtain rfl := Option.some.inj H
        go_enter Try.func78, Try.ntmps78
        go_wp2
        go_ret
        exact ⟨by first | rfl | (simp; done) | (simp [*]; done), by repeat (first | exact Drawn0.refl _ | apply Drawn0.step)⟩
      · rw [if_neg c11] at H
        have c11b0 : decide (a0 ≤ 57) = false := decide_eq_false c11
        clear c11
        by_cases c12 : a0 = 32
        · rw [if_pos c12] at H
          have c12b0 : (a0 == 32) = true := beq_iff_eq.mpr c12
          have c12b1 : (a0 != 32) = false := bne_eq_false_iff_eq.mpr c12
          clear c12
          obtain rfl := Option.some.inj H
          go_enter Try.func78, Try.ntmps78
          go_wp2
          go_ret
          exact ⟨by first | rfl | (simp; done) | (simp [*]; done), by repeat (first | exact Drawn0.refl _ | apply Drawn0.step)⟩
        · rw [if_neg c12] at H
          have c12b0 : (a0 == 32) = false := beq_eq_false_iff_ne.mpr c12
          have c12b1 : (a0 != 32) = true := bne_iff_ne.mpr c12
          by_cases c13 : a0 = 46
          · rw [if_pos c13] at H
            have c13b0 : (a0 == 46) = true := beq_iff_eq.mpr c13
            have c13b1 : (a0 != 46) = false := bne_eq_false_iff_eq.mpr c13
            clear c13
            obtain rfl := Option.some.inj H
            go_enter Try.func78, Try.ntmps78
            go_wp2
            go_ret
            exact ⟨by first | rfl | (simp; done) | (simp [*]; done), by repeat (first | exact Drawn0.refl _ | apply Drawn0.step)⟩
          · rw [if_neg c13] at H
            have c13b0 : (a0 == 46) = false := beq_eq_false_iff_ne.mpr c13
            have c13b1 : (a0 != 46) = true := bne_iff_ne.mpr c13
            obtain rfl := Option.some.inj H
            go_enter Try.func78, Try.ntmps78
            go_wp2
            go_ret
            exact ⟨by first | rfl | (simp; done) | (simp [*]; done), by repeat (first | exact Drawn0.refl _ | apply Drawn0.step)⟩
    · rw [if_neg c10] at H
      have c10b0 : decide (48 ≤ a0) = false := decide_eq_false c10
      clear c10
      by_cases c14 : a0 = 32
      · rw [if_pos c14] at H
        have c14b0 : (a0 == 32) = true := beq_iff_eq.mpr c14
        have c14b1 : (a0 != 32) = false := bne_eq_false_iff_eq.mpr c14
        clear c14
        obtain rfl := Option.some.inj H
        go_enter Try.func78, Try.ntmps78
        go_wp2
        go_ret
        exact ⟨by first | rfl | (simp; done) | (simp [*]; done), by repeat (first | exact Drawn0.refl _ | apply Drawn0.step)⟩
      · rw [if_neg c14] at H
        have c14b0 : (a0 == 32) = false := beq_eq_false_iff_ne.mpr c14
        have c14b1 : (a0 != 32) = true := bne_iff_ne.mpr c14
        by_cases c15 : a0 = 46
        · rw [if_pos c15] at H
          have c15b0 : (a0 == 46) = true := beq_iff_eq.mpr c15
          have c15b1 : (a0 != 46) = false := bne_eq_false_iff_eq.mpr c15
          clear c15
          obtain rfl := Option.some.inj H
          go_enter Try.func78, Try.ntmps78
          go_wp2
          go_ret
          exact ⟨by first | rfl | (simp; done) | (simp [*]; done), by repeat (first | exact Drawn0.refl _ | apply Drawn0.step)⟩
        · rw [if_neg c15] at H
          have c15b0 : (a0 == 46) = false := beq_eq_false_iff_ne.mpr c15
          have c15b1 : (a0 != 46) = true := bne_iff_ne.mpr c15
          obtain rfl := Option.some.inj H
          go_enter Try.func78, Try.ntmps78
          go_wp2
          go_ret
          exact ⟨by first | rfl | (simp; done) | (simp [*]; done), by repeat (first | exact Drawn0.refl _ | apply Drawn0.step)⟩

/-! ### impl_GoodText: function 55 -/
def impl_GoodText.l0 : Nat → ByteArray → Int → Int → Option (Bool)
  | 0, _, _, _ => none
  | k + 1, x0, x5, x6 => if x6 < x5 then (if 0 ≤ x6 then (if x6 < (x0.size : Int) then ((impl_isName.f (bt x0 x6)).bind fun t188 => (if t188 = true then (impl_GoodText.l0 k x0 x5 (wrap64 (x6 + 1))) else ((impl_isPlain.f (bt x0 x6)).bind fun t189 => (if t189 = true then (impl_GoodText.l0 k x0 x5 (wrap64 (x6 + 1))) else (if (bt x0 x6) = 47 then (impl_GoodText.l0 k x0 x5 (wrap64 (x6 + 1))) else (some false)))))) else (none)) else (none)) else (some (decide ((x0.size : Int) ≤ 300)))
def impl_GoodText.f (k : Nat) (a0 : ByteArray) : Option (Bool) := impl_GoodText.l0 k a0 (a0.size : Int) 0
theorem impl_GoodText.mono_l : ∀ k, (∀ y0 y1 y2, LeO (impl_GoodText.l0 k y0 y1 y2) (impl_GoodText.l0 (k + 1) y0 y1 y2))
  | 0 => fun _ _ _ r h => by simp [impl_GoodText.l0] at h
  | k + 1 => by
    have ih0 := impl_GoodText.mono_l k
    · intro y0 y1 y2
      unfold impl_GoodText.l0
      repeat' first
      | (with_reducible exact ih0 _ _ _)
      | (with_reducible exact LeO.refl _)
      | (with_reducible exact LeO.none _)
      | (with_reducible refine LeO.ite ?_ ?_)
      | (with_reducible refine LeO.bind ?_ (fun _ => ?_))
      | exact ih0 _ _ _
      | exact LeO.none _
      | refine LeO.ite ?_ ?_
      | refine LeO.bind ?_ (fun _ => ?_)
theorem impl_GoodText.mono : ∀ a0 k, LeO (impl_GoodText.f k a0) (impl_GoodText.f (k + 1) a0) := by
  intro a0 k
  have ih0 := impl_GoodText.mono_l k
  unfold impl_GoodText.f
  repeat' first
      | (with_reducible exact ih0 _ _ _)
      | (with_reducible exact LeO.refl _)
      | (with_reducible exact LeO.none _)
      | (with_reducible refine LeO.ite ?_ ?_)
      | (with_reducible refine LeO.bind ?_ (fun _ => ?_))
      | exact ih0 _ _ _
      | exact LeO.none _
      | refine LeO.ite ?_ ?_
      | refine LeO.bind ?_ (fun _ => ?_)
set_option maxHeartbeats 8000000 in
set_option maxRecDepth 100000 in
theorem impl_GoodText.calls (k : Nat) (a0 : ByteArray) (r : Bool) (w : World) (h : impl_GoodText.f k a0 = some r) :
    Calls Try.prog 55 #[.string a0] w fun e w' => e = .returned (.bool r) ∧ Drawn0 w w' := by
  have H : (impl_GoodText.l0 k a0 (a0.size : Int) 0) = some r := h
  clear h
  have H' := Aside0.mk H
  clear H
  go_enter Try.func55, Try.ntmps55
  go_wp2
  go_loopg [6] k (fun kq v6 w' => ∃ (x6_1 : Int), v6 = .int .i64 x6_1 ∧ Aside0 (impl_GoodText.l0 kq a0 (a0.size : Int) x6_1 = some r) ∧ Aside0 (kq ≤ k) ∧ Drawn0 w w')
  case atStart => exact ⟨(0), (by first | rfl | (simp; done) | (simp [*]; done)), H', ⟨Nat.le_refl _⟩, by repeat (first | exact Drawn0.refl _ | apply Drawn0.step)⟩
  case round =>
    clear H'
    obtain ⟨x6_1, rfl, HA, HK1, ⟨m1, rfl⟩⟩ := hrel
    cases gk with
    | zero => exact absurd HA.out (by simp [impl_GoodText.l0])
    | succ k1 =>
      have H := HA.out
      clear HA
      simp only [impl_GoodText.l0] at H
      by_cases c2 : x6_1 < (a0.size : Int)
      · rw [if_pos c2] at H
        have c2b0 : decide (x6_1 < (a0.size : Int)) = true := decide_eq_true c2
        clear c2
        by_cases c3 : 0 ≤ x6_1
        · rw [if_pos c3] at H
          have c3b0 : decide (0 ≤ x6_1) = true := decide_eq_true c3
          clear c3
          by_cases c4 : x6_1 < (a0.size : Int)
          · rw [if_pos c4] at H
            have c4b0 : decide (x6_1 < (a0.size : Int)) = true := decide_eq_true c4
            clear c4
            replace H := Option.bind_eq_some_iff.mp H
            obtain ⟨t188, A60, H⟩ := H
            replace H : (if t188 = true then (impl_GoodText.l0 k1 a0 (a0.size : Int) (wrap64 (x6_1 + 1))) else ((impl_isPlain.f (bt a0 x6_1)).bind fun t189 => (if t189 = true then (impl_GoodText.l0 k1 a0 (a0.size : Int) (wrap64 (x6_1 + 1))) else (if (bt a0 x6_1) = 47 then (impl_GoodText.l0 k1 a0 (a0.size : Int) (wrap64 (x6_1 + 1))) else (some false))))) = some r := H
            have A6 := Aside0.mk A60
            clear A60
            by_cases c7 : t188 = true
            · subst c7
              have H1 : (impl_GoodText.l0 k1 a0 (a0.size : Int) (wrap64 (x6_1 + 1))) = some r := by rw [if_pos rfl] at H; exact H
              clear H
              have H := H1
              clear H1
              have H' := Aside0.mk H
              clear H
              have p5 : 0 ≤ (x6_1 : Int) := of_decide_eq_true (by first | (with_reducible assumption) | assumption)
              have q5 : x6_1 < (a0.size : Int) := of_decide_eq_true (by first | (with_reducible assumption) | assumption)
              have hx5 := bt_at a0 x6_1
              replace p5 := eq_true p5
              replace q5 := eq_true q5
              go_wp2_with (first | ((with_reducible refine gate_callee (f := 77) rfl ?_); refine goesL_ (some 12) rfl rfl Try.func77 (by kernel_rfl) rfl #[.int .u8 (bt a0 x6_1)] rfl (by (try simp only [List.map_toArray, List.map_cons, List.map_nil]); first | done | rfl | (simp only [List.length_drop, List.length_take]; rfl)) ?_; (with_reducible refine (impl_isName.calls (bt a0 x6_1) true _ A6.out).mono ?_); rintro e w' ⟨rfl, ⟨nd, rfl⟩⟩; refine ⟨_, rfl, ?_⟩))
              go_roundg k1
              case measure => have := HK1.out; omega
              case rel => exact ⟨(wrap64 (x6_1 + 1)), (by first | rfl | (simp; done) | (simp [*]; done)), H', ⟨by have := HK1.out; omega⟩, by repeat (first | exact Drawn0.refl _ | apply Drawn0.step)⟩
            · replace c7 := Bool.eq_false_iff.mpr c7
              subst c7
              have H1 : ((impl_isPlain.f (bt a0 x6_1)).bind fun t189 => (if t189 = true then (impl_GoodText.l0 k1 a0 (a0.size : Int) (wrap64 (x6_1 + 1))) else (if (bt a0 x6_1) = 47 then (impl_GoodText.l0 k1 a0 (a0.size : Int) (wrap64 (x6_1 + 1))) else (some false)))) = some r := by rw [if_neg (show ¬ (false = true) by decide)] at H; exact H
              clear H
              have H := H1
              clear H1
              replace H := Option.bind_eq_some_iff.mp H
              obtain ⟨t189, A90, H⟩ := H
              replace H : (if t189 = true then (impl_GoodText.l0 k1 a0 (a0.size : Int) (wrap64 (x6_1 + 1))) else (if (bt a0 x6_1) = 47 then (impl_GoodText.l0 k1 a0 (a0.size : Int) (wrap64 (x6_1 + 1))) else (some false))) = some r := H
              have A9 := Aside0.mk A90
              clear A90
              by_cases c10 : t189 = true
              · subst c10
                have H1 : (impl_GoodText.l0 k1 a0 (a0.size : Int) (wrap64 (x6_1 + 1))) = some r := by rw [if_pos rfl] at H; exact H
                clear H
                have H := H1
                clear H1
                have H' := Aside0.mk H
                clear H
                have p5 : 0 ≤ (x6_1 : Int) := of_decide_eq_true (by first | (with_reducible assumption) | assumption)
                have q5 : x6_1 < (a0.size : Int) := of_decide_eq_true (by first | (with_reducible assumption) | assumption)
                have hx5 := bt_at a0 x6_1
                replace p5 := eq_true p5
                replace q5 := eq_true q5
                go_wp2_with (first | ((with_reducible refine gate_callee (f := 77) rfl ?_); refine goesL_ (some 12) rfl rfl Try.func77 (by kernel_rfl) rfl #[.int .u8 (bt a0 x6_1)] rfl (by (try simp only [List.map_toArray, List.map_cons, List.map_nil]); first | done | rfl | (simp only [List.length_drop, List.length_take]; rfl)) ?_; (with_reducible refine (impl_isName.calls (bt a0 x6_1) false _ A6.out).mono ?_); rintro e w' ⟨rfl, ⟨nd, rfl⟩⟩; refine ⟨_, rfl, ?_⟩; have p8 : 0 ≤ (x6_1 : Int) := of_decide_eq_true (by first | (with_reducible assumption) | assumption); have q8 : x6_1 < (a0.size : Int) := of_decide_eq_true (by first | (with_reducible assumption) | assumption); have hx8 := bt_at a0 x6_1; replace p8 := eq_true p8; replace q8 := eq_true q8) | (go_at_call 78; (with_reducible refine (impl_isPlain.calls (bt a0 x6_1) true _ A9.out).mono ?_); rintro e w' ⟨rfl, ⟨nd, rfl⟩⟩))
                go_roundg k1
                case measure => have := HK1.out; omega
                case rel => exact ⟨(wrap64 (x6_1 + 1)), (by first | rfl | (simp; done) | (simp [*]; done)), H', ⟨by have := HK1.out; omega⟩, by repeat (first | exact Drawn0.refl _ | apply Drawn0.step)⟩
              · replace c10 := Bool.eq_false_iff.mpr c10
                subst c10
                have H1 : (if (bt a0 x6_1) = 47 then (impl_GoodText.l0 k1 a0 (a0.size : Int) (wrap64 (x6_1 + 1))) else (some false)) = some r := by rw [if_neg (show ¬ (false = true) by decide)] at H; exact H
                clear H
                have H := H1
                clear H1
                by_cases c12 : (bt a0 x6_1) = 47
                · rw [if_pos c12] at H
                  have c12b0 : ((bt a0 x6_1) == 47) = true := beq_iff_eq.mpr c12
                  have c12b1 : ((bt a0 x6_1) != 47) = false := bne_eq_false_iff_eq.mpr c12
                  clear c12
                  have H' := Aside0.mk H
                  clear H
                  have p5 : 0 ≤ (x6_1 : Int) := of_decide_eq_true (by first | (with_reducible assumption) | assumption)
                  have q5 : x6_1 < (a0.size : Int) := of_decide_eq_true (by first | (with_reducible assumption) | assumption)
                  have hx5 := bt_at a0 x6_1
                  replace p5 := eq_true p5
                  replace q5 := eq_true q5
                  go_wp2_with (first | ((with_reducible refine gate_callee (f := 77) rfl ?_); refine goesL_ (some 12) rfl rfl Try.func77 (by kernel_rfl) rfl #[.int .u8 (bt a0 x6_1)] rfl (by (try simp only [List.map_toArray, List.map_cons, List.map_nil]); first | done | rfl | (simp only [List.length_drop, List.length_take]; rfl)) ?_; (with_reducible refine (impl_isName.calls (bt a0 x6_1) false _ A6.out).mono ?_); rintro e w' ⟨rfl, ⟨nd, rfl⟩⟩; refine ⟨_, rfl, ?_⟩; have p8 : 0 ≤ (x6_1 : Int) := of_decide_eq_true (by first | (with_reducible assumption) | assumption); have q8 : x6_1 < (a0.size : Int) := of_decide_eq_true (by first | (with_reducible assumption) | assumption); have hx8 := bt_at a0 x6_1; replace p8 := eq_true p8; replace q8 := eq_true q8) | (go_at_call 78; (with_reducible refine (impl_isPlain.calls (bt a0 x6_1) false _ A9.out).mono ?_); rintro e w' ⟨rfl, ⟨nd, rfl⟩⟩; have p11 : 0 ≤ (x6_1 : Int) := of_decide_eq_true (by first | (with_reducible assumption) | assumption); have q11 : x6_1 < (a0.size : Int) := of_decide_eq_true (by first | (with_reducible assumption) | assumption); have hx11 := bt_at a0 x6_1; replace p11 := eq_true p11; replace q11 := eq_true q11))
                  go_roundg k1
                  case measure => have := HK1.out; omega
                  case rel => exact ⟨(wrap64 (x6_1 + 1)), (by first | rfl | (simp; done) | (simp [*]; done)), H', ⟨by have := HK1.out; omega⟩, by repeat (first | exact Drawn0.refl _ | apply Drawn0.step)⟩
                · rw [if_neg c12] at H
                  have c12b0 : ((bt a0 x6_1) == 47) = false := beq_eq_false_iff_ne.mpr c12
                  have c12b1 : ((bt a0 x6_1) != 47) = true := bne_iff_ne.mpr c12
                  obtain rfl := Option.some.inj H
                  have p5 : 0 ≤ (x6_1 : Int) := of_decide_eq_true (by first | (with_reducible assumption) | assumption)
                  have q5 : x6_1 < (a0.size : Int) := of_decide_eq_true (by first | (with_reducible assumption) | assumption)
                  have hx5 := bt_at a0 x6_1
                  replace p5 := eq_true p5
                  replace q5 := eq_true q5
                  go_wp2_with (first | ((with_reducible refine gate_callee (f := 77) rfl ?_); refine goesL_ (some 12) rfl rfl Try.func77 (by kernel_rfl) rfl #[.int .u8 (bt a0 x6_1)] rfl (by (try simp only [List.map_toArray, List.map_cons, List.map_nil]); first | done | rfl | (simp only [List.length_drop, List.length_take]; rfl)) ?_; (with_reducible refine (impl_isName.calls (bt a0 x6_1) false _ A6.out).mono ?_); rintro e w' ⟨rfl, ⟨nd, rfl⟩⟩; refine ⟨_, rfl, ?_⟩; have p8 : 0 ≤ (x6_1 : Int) := of_decide_eq_true (by first | (with_reducible assumption) | assumption); have q8 : x6_1 < (a0.size : Int) := of_decide_eq_true (by first | (with_reducible assumption) | assumption); have hx8 := bt_at a0 x6_1; replace p8 := eq_true p8; replace q8 := eq_true q8) | (go_at_call 78; (with_reducible refine (impl_isPlain.calls (bt a0 x6_1) false _ A9.out).mono ?_); rintro e w' ⟨rfl, ⟨nd, rfl⟩⟩; have p11 : 0 ≤ (x6_1 : Int) := of_decide_eq_true (by first | (with_reducible assumption) | assumption); have q11 : x6_1 < (a0.size : Int) := of_decide_eq_true (by first | (with_reducible assumption) | assumption); have hx11 := bt_at a0 x6_1; replace p11 := eq_true p11; replace q11 := eq_true q11))
                  go_ret
                  exact ⟨by first | rfl | (simp; done) | (simp [*]; done), by repeat (first | exact Drawn0.refl _ | apply Drawn0.step)⟩
          · rw [if_neg c4] at H
            exact absurd H (by simp)
        · rw [if_neg c3] at H
          exact absurd H (by simp)
      · rw [if_neg c2] at H
        have c2b0 : decide (x6_1 < (a0.size : Int)) = false := decide_eq_false c2
        clear c2
        obtain rfl := Option.some.inj H
        go_wp2
        go_ret
        exact ⟨by first | rfl | (simp; done) | (simp [*]; done), by repeat (first | exact Drawn0.refl _ | apply Drawn0.step)⟩

/-! ### impl_areRange: function 57 -/
def impl_areRange.f (a0 : ByteArray) (a1 : Int) (a2 : Int) : Option (Bool) := if a1 ≥ 0 then (if a1 ≤ a2 then (some (decide (a2 ≤ (a0.size : Int)))) else (some false)) else (some false)
set_option maxHeartbeats 8000000 in
set_option maxRecDepth 100000 in
theorem impl_areRange.calls (a0 : ByteArray) (a1 : Int) (a2 : Int) (r : Bool) (w : World) (h : impl_areRange.f a0 a1 a2 = some r) :
    Calls Try.prog 57 #[.string a0, .int .i64 a1, .int .i64 a2] w fun e w' => e = .returned (.bool r) ∧ Drawn0 w w' := by
  have H : (if a1 ≥ 0 then (if a1 ≤ a2 then (some (decide (a2 ≤ (a0.size : Int)))) else (some false)) else (some false)) = some r := h
  clear h
  by_cases c4 : a1 ≥ 0
  · rw [if_pos c4] at H
    have c4b0 : decide (0 ≤ a1) = true := decide_eq_true c4
    clear c4
    by_cases c5 : a1 ≤ a2
    · rw [if_pos c5] at H
      have c5b0 : decide (a1 ≤ a2) = true := decide_eq_true c5
      clear c5
      obtain rfl := Option.some.inj H
      go_enter Try.func57, Try.ntmps57
      go_wp2
      go_ret
      exact ⟨by first | rfl | (simp; done) | (simp [*]; done), by repeat (first | exact Drawn0.refl _ | apply Drawn0.step)⟩
    · rw [if_neg c5] at H
      have c5b0 : decide (a1 ≤ a2) = false := decide_eq_false c5
      clear c5
      obtain rfl := Option.some.inj H
      go_enter Try.func57, Try.ntmps57
      go_wp2
      go_ret
      exact ⟨by first | rfl | (simp; done) | (simp [*]; done), by repeat (first | exact Drawn0.refl _ | apply Drawn0.step)⟩
  · rw [if_neg c4] at H
    have c4b0 : decide (0 ≤ a1) = false := decide_eq_false c4
    clear c4
    obtain rfl := Option.some.inj H
    go_enter Try.func57, Try.ntmps57
    go_wp2
    go_ret
    exact ⟨by first | rfl | (simp; done) | (simp [*]; done), by repeat (first | exact Drawn0.refl _ | apply Drawn0.step)⟩

end Go.Proofs.Ytlelpomnblaciaa.PFnExactSpliceOp
