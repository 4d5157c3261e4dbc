/- Written by a program of this session (wip/ovl.py) over the kit's print: plain functions with the answers of the Go functions, and the proofs that they are; no condition. -/
import Derived.Test.YtamjfhlbhaaepaaPFnPlainx0
import Derived.Test.YtamjfhlbhaaepaaPFnPlainx1
import Derived.Test.YtamjfhlbhaaepaaPFnPlainx2
import Derived.Test.YtamjfhlbhaaepaaPFnPlainx3
import Derived.Test.YtamjfhlbhaaepaaPFnPlainx6
namespace Go.Proofs.Ytamjfhlbhaaepaa.PFnPlain
open Go.RowKit Go.Proofs.YtamjfhlbhaaepaaW.PrintWords Go.Proofs.YtamjfhlbhaaepaaW.PrintLast Go.Proofs.YtamjfhlbhaaepaaW.PrintMore
attribute [local go_sem] max2_int min2_int max_two min_two max_three min_three max_four min_four   -- for this text's walks alone
set_option linter.unusedVariables false
set_option linter.unusedSimpArgs false

/-! ### laws_FnPlain: function 14 -/
def laws_FnPlain.j0 : Nat → List Int → ByteArray → ByteArray → Bool → ByteArray → Bool → Option (Bool)
  | 0, _, _, _, _, _, _ => none
  | k + 1, x1, x5, x6, x7, x8, x65 => if x65 = true then (some false) else (if x7 = true then ((spec_DrawCountOf.f k x1).bind fun bt218 => ((impl_CountOf.f k bt218.1 bt218.2).bind fun bt220 => ((spec_CountOf.f k bt218.1 bt218.2).bind fun bt222 => (if (wrap64 ((x6.size : Int) + (x8.size : Int))) = (x5.size : Int) then ((impl_GoodDoc.f k x8).bind fun t224 => ((impl_GoodDoc.f k x5).bind fun t225 => (if (t224 == t225) = true then (if (bt220.2 == bt222.2) = true then (some (bt220.1 == bt222.1)) else (some false)) else (some false)))) else (some false))))) else (if x6.toList = ([] : List UInt8) then (some (x8.toList == ([] : List UInt8))) else (some false)))
def laws_FnPlain.f (k : Nat) (l0 : List Int) (l1 : List Int) : Option (Bool) := if (wrap64 ((l0.length : Int) + (l1.length : Int))) > 1048576 then (some true) else ((spec_DrawPlainOf.f k l0).bind fun t209 => ((impl_PlainOf.f k t209).bind fun bt210 => ((impl_OutlineOf.f k t209).bind fun bt212 => ((spec_PlainOf.f k t209).bind fun bt214 => ((spec_OutlineOf.f k t209).bind fun bt216 => (if (bt210.2 != bt214.2) = true then (laws_FnPlain.j0 k l1 t209 bt210.1 bt210.2 bt212.1 true) else (if (bt212.2 != bt216.2) = true then (laws_FnPlain.j0 k l1 t209 bt210.1 bt210.2 bt212.1 true) else (if bt210.1.toList = bt214.1.toList then (laws_FnPlain.j0 k l1 t209 bt210.1 bt210.2 bt212.1 (bt212.1.toList != bt216.1.toList)) else (laws_FnPlain.j0 k l1 t209 bt210.1 bt210.2 bt212.1 true)))))))))
theorem laws_FnPlain.mono_l : ∀ k, (∀ y0 y1 y2 y3 y4 y5, LeO (laws_FnPlain.j0 k y0 y1 y2 y3 y4 y5) (laws_FnPlain.j0 (k + 1) y0 y1 y2 y3 y4 y5))
  | 0 => fun _ _ _ _ _ _ r h => by simp [laws_FnPlain.j0] at h
  | k + 1 => by
    have ih0 := laws_FnPlain.mono_l k
    · intro y0 y1 y2 y3 y4 y5
      unfold laws_FnPlain.j0
      repeat' first
      | (with_reducible exact ih0 _ _ _ _ _ _)
      | (with_reducible exact impl_CountOf.mono _ _ _)
      | (with_reducible exact impl_GoodDoc.mono _ _)
      | (with_reducible exact impl_OutlineOf.mono _ _)
      | (with_reducible exact impl_PlainOf.mono _ _)
      | (with_reducible exact spec_CountOf.mono _ _ _)
      | (with_reducible exact spec_DrawCountOf.mono _ _)
      | (with_reducible exact spec_DrawPlainOf.mono _ _)
      | (with_reducible exact spec_OutlineOf.mono _ _)
      | (with_reducible exact spec_PlainOf.mono _ _)
      | (with_reducible exact LeO.refl _)
      | (with_reducible exact LeO.none _)
      | (with_reducible refine LeO.ite ?_ ?_)
      | (with_reducible refine LeO.bind ?_ (fun _ => ?_))
      | exact ih0 _ _ _ _ _ _
      | exact impl_CountOf.mono _ _ _
      | exact impl_GoodDoc.mono _ _
      | exact impl_OutlineOf.mono _ _
      | exact impl_PlainOf.mono _ _
      | exact spec_CountOf.mono _ _ _
      | exact spec_DrawCountOf.mono _ _
      | exact spec_DrawPlainOf.mono _ _
      | exact spec_OutlineOf.mono _ _
      | exact spec_PlainOf.mono _ _
      | exact LeO.none _
      | refine LeO.ite ?_ ?_
      | refine LeO.bind ?_ (fun _ => ?_)
theorem laws_FnPlain.mono : ∀ a0 a1 k, LeO (laws_FnPlain.f k a0 a1) (laws_FnPlain.f (k + 1) a0 a1) := by
  intro a0 a1 k
  have ih0 := laws_FnPlain.mono_l k
  unfold laws_FnPlain.f
  repeat' first
      | (with_reducible exact ih0 _ _ _ _ _ _)
      | (with_reducible exact impl_CountOf.mono _ _ _)
      | (with_reducible exact impl_GoodDoc.mono _ _)
      | (with_reducible exact impl_OutlineOf.mono _ _)
      | (with_reducible exact impl_PlainOf.mono _ _)
      | (with_reducible exact spec_CountOf.mono _ _ _)
      | (with_reducible exact spec_DrawCountOf.mono _ _)
      | (with_reducible exact spec_DrawPlainOf.mono _ _)
      | (with_reducible exact spec_OutlineOf.mono _ _)
      | (with_reducible exact spec_PlainOf.mono _ _)
      | (with_reducible exact LeO.refl _)
      | (with_reducible exact LeO.none _)
      | (with_reducible refine LeO.ite ?_ ?_)
      | (with_reducible refine LeO.bind ?_ (fun _ => ?_))
      | exact ih0 _ _ _ _ _ _
      | exact impl_CountOf.mono _ _ _
      | exact impl_GoodDoc.mono _ _
      | exact impl_OutlineOf.mono _ _
      | exact impl_PlainOf.mono _ _
      | exact spec_CountOf.mono _ _ _
      | exact spec_DrawCountOf.mono _ _
      | exact spec_DrawPlainOf.mono _ _
      | exact spec_OutlineOf.mono _ _
      | exact spec_PlainOf.mono _ _
      | exact LeO.none _
      | refine LeO.ite ?_ ?_
      | refine LeO.bind ?_ (fun _ => ?_)
set_option maxHeartbeats 8000000 in
set_option maxRecDepth 100000 in
theorem laws_FnPlain.calls (k : Nat) (A0 : Option Addr) (c0 : Nat) (l0 : List Int) (A1 : Option Addr) (c1 : Nat) (l1 : List Int) (r : Bool) (w : World) (hr0 : Kd.C (Kd.int .u8) w A0 l0.length l0) (hc0 : l0.length ≤ c0) (hr1 : Kd.C (Kd.int .u8) w A1 l1.length l1) (hc1 : l1.length ≤ c1) (h : laws_FnPlain.f k l0 l1 = some r) :
    Calls Try.prog 14 #[.slice A0 l0.length c0, .slice A1 l1.length c1] w fun e w' => e = .returned (.bool r) ∧ Below w.heap.size w w' := by
  have HR0 := Aside0.mk hr0
  have HC0 := Aside0.mk hc0
  clear hr0 hc0
  have HR1 := Aside0.mk hr1
  have HC1 := Aside0.mk hc1
  clear hr1 hc1
  have HB := Aside0.mk (Below.refl w.heap.size w)
  have H : (if (wrap64 ((l0.length : Int) + (l1.length : Int))) > 1048576 then (some true) else ((spec_DrawPlainOf.f k l0).bind fun t209 => ((impl_PlainOf.f k t209).bind fun bt210 => ((impl_OutlineOf.f k t209).bind fun bt212 => ((spec_PlainOf.f k t209).bind fun bt214 => ((spec_OutlineOf.f k t209).bind fun bt216 => (if (bt210.2 != bt214.2) = true then (laws_FnPlain.j0 k l1 t209 bt210.1 bt210.2 bt212.1 true) else (if (bt212.2 != bt216.2) = true then (laws_FnPlain.j0 k l1 t209 bt210.1 bt210.2 bt212.1 true) else (if bt210.1.toList = bt214.1.toList then (laws_FnPlain.j0 k l1 t209 bt210.1 bt210.2 bt212.1 (bt212.1.toList != bt216.1.toList)) else (laws_FnPlain.j0 k l1 t209 bt210.1 bt210.2 bt212.1 true)))))))))) = some r := h
  clear h
  by_cases c3 : (wrap64 ((l0.length : Int) + (l1.length : Int))) > 1048576
  · rw [if_pos c3] at H
    have c3b0 : decide (1048576 < (wrap64 ((l0.length : Int) + (l1.length : Int)))) = true := decide_eq_true c3
    clear c3
    obtain rfl := Option.some.inj H
    go_enter Try.func14, Try.ntmps14
    go_wp2
    go_ret
    exact ⟨by first | rfl | (simp [errW_none, errW_some] <;> rfl) | (simp [*, errW_none, errW_some] <;> rfl), by repeat (first | (with_reducible first | exact HB.out | apply below_alloc | apply pw_below_drewN | apply below_drew1) | exact HB.out)⟩
  · rw [if_neg c3] at H
    have c3b0 : decide (1048576 < (wrap64 ((l0.length : Int) + (l1.length : Int)))) = false := decide_eq_false c3
    clear c3
    replace H := Option.bind_eq_some_iff.mp H
    obtain ⟨t209, A40, H⟩ := H
    replace H : ((impl_PlainOf.f k t209).bind fun bt210 => ((impl_OutlineOf.f k t209).bind fun bt212 => ((spec_PlainOf.f k t209).bind fun bt214 => ((spec_OutlineOf.f k t209).bind fun bt216 => (if (bt210.2 != bt214.2) = true then (laws_FnPlain.j0 k l1 t209 bt210.1 bt210.2 bt212.1 true) else (if (bt212.2 != bt216.2) = true then (laws_FnPlain.j0 k l1 t209 bt210.1 bt210.2 bt212.1 true) else (if bt210.1.toList = bt214.1.toList then (laws_FnPlain.j0 k l1 t209 bt210.1 bt210.2 bt212.1 (bt212.1.toList != bt216.1.toList)) else (laws_FnPlain.j0 k l1 t209 bt210.1 bt210.2 bt212.1 true)))))))) = some r := H
    have A4 := Aside0.mk A40
    clear A40
    replace H := Option.bind_eq_some_iff.mp H
    obtain ⟨⟨t210, t211⟩, A50, H⟩ := H
    replace H : ((impl_OutlineOf.f k t209).bind fun bt212 => ((spec_PlainOf.f k t209).bind fun bt214 => ((spec_OutlineOf.f k t209).bind fun bt216 => (if (t211 != bt214.2) = true then (laws_FnPlain.j0 k l1 t209 t210 t211 bt212.1 true) else (if (bt212.2 != bt216.2) = true then (laws_FnPlain.j0 k l1 t209 t210 t211 bt212.1 true) else (if t210.toList = bt214.1.toList then (laws_FnPlain.j0 k l1 t209 t210 t211 bt212.1 (bt212.1.toList != bt216.1.toList)) else (laws_FnPlain.j0 k l1 t209 t210 t211 bt212.1 true))))))) = some r := H
    have A5 := Aside0.mk A50
    clear A50
    replace H := Option.bind_eq_some_iff.mp H
    obtain ⟨⟨t212, t213⟩, A60, H⟩ := H
    replace H : ((spec_PlainOf.f k t209).bind fun bt214 => ((spec_OutlineOf.f k t209).bind fun bt216 => (if (t211 != bt214.2) = true then (laws_FnPlain.j0 k l1 t209 t210 t211 t212 true) else (if (t213 != bt216.2) = true then (laws_FnPlain.j0 k l1 t209 t210 t211 t212 true) else (if t210.toList = bt214.1.toList then (laws_FnPlain.j0 k l1 t209 t210 t211 t212 (t212.toList != bt216.1.toList)) else (laws_FnPlain.j0 k l1 t209 t210 t211 t212 true)))))) = some r := H
    have A6 := Aside0.mk A60
    clear A60
    replace H := Option.bind_eq_some_iff.mp H
    obtain ⟨⟨t214, t215⟩, A70, H⟩ := H
    replace H : ((spec_OutlineOf.f k t209).bind fun bt216 => (if (t211 != t215) = true then (laws_FnPlain.j0 k l1 t209 t210 t211 t212 true) else (if (t213 != bt216.2) = true then (laws_FnPlain.j0 k l1 t209 t210 t211 t212 true) else (if t210.toList = t214.toList then (laws_FnPlain.j0 k l1 t209 t210 t211 t212 (t212.toList != bt216.1.toList)) else (laws_FnPlain.j0 k l1 t209 t210 t211 t212 true))))) = some r := H
    have A7 := Aside0.mk A70
    clear A70
    replace H := Option.bind_eq_some_iff.mp H
    obtain ⟨⟨t216, t217⟩, A80, H⟩ := H
    replace H : (if (t211 != t215) = true then (laws_FnPlain.j0 k l1 t209 t210 t211 t212 true) else (if (t213 != t217) = true then (laws_FnPlain.j0 k l1 t209 t210 t211 t212 true) else (if t210.toList = t214.toList then (laws_FnPlain.j0 k l1 t209 t210 t211 t212 (t212.toList != t216.toList)) else (laws_FnPlain.j0 k l1 t209 t210 t211 t212 true)))) = some r := H
    have A8 := Aside0.mk A80
    clear A80
    have HC9 := Aside0.mk H
    clear H
    go_enter Try.func14, Try.ntmps14
    go_upto_region 8 with (first | ((with_reducible refine gate_callee (f := 34) rfl ?_); refine goesL_ (some 27) rfl rfl Try.func34 (by kernel_rfl) rfl #[.slice A0 l0.length c0] rfl (by (try simp only [List.map_toArray, List.map_cons, List.map_nil]); first | done | rfl | (simp only [List.length_drop, List.length_take]; rfl)) ?_; (with_reducible refine (spec_DrawPlainOf.calls k _ _ l0 t209 _ ?side1 ?side2 A4.out).mono ?_); (case side1 => repeat (first | exact HR0.out | (with_reducible refine Kd.C_alloc ?_ _) | (with_reducible refine Kd.C_drewN ?_ _) | (with_reducible refine Kd.C_drew ?_))); (case side2 => exact HC0.out); rintro e w10 ⟨rfl, hb⟩; refine ⟨_, rfl, ?_⟩; have n0_ := Aside0.mk (below_step (by repeat (first | (with_reducible first | exact HB.out | apply below_alloc | apply pw_below_drewN | apply below_drew1) | exact HB.out)) hb); clear HB; have HB := n0_; clear n0_; (try clear hb); (try clear hb2); (try clear hk); (try clear hi)) | ((with_reducible refine gate_callee (f := 22) rfl ?_); refine goesL_ (some 30) rfl rfl Try.func22 (by kernel_rfl) rfl #[.string t209] rfl (by (try simp only [List.map_toArray, List.map_cons, List.map_nil]); first | done | rfl | (simp only [List.length_drop, List.length_take]; rfl)) ?_; (with_reducible refine (impl_PlainOf.calls k t209 t210 t211 _ A5.out).mono ?_); rintro e w11 ⟨rfl, hb⟩; refine ⟨_, rfl, ?_⟩; have n0_ := Aside0.mk (below_step (by repeat (first | (with_reducible first | exact HB.out | apply below_alloc | apply pw_below_drewN | apply below_drew1) | exact HB.out)) hb); clear HB; have HB := n0_; clear n0_; (try clear hb); (try clear hb2); (try clear hk); (try clear hi)) | ((with_reducible refine gate_callee (f := 20) rfl ?_); refine goesL_ (some 35) rfl rfl Try.func20 (by kernel_rfl) rfl #[.string t209] rfl (by (try simp only [List.map_toArray, List.map_cons, List.map_nil]); first | done | rfl | (simp only [List.length_drop, List.length_take]; rfl)) ?_; (with_reducible refine (impl_OutlineOf.calls k t209 t212 t213 _ A6.out).mono ?_); rintro e w12 ⟨rfl, hb⟩; refine ⟨_, rfl, ?_⟩; have n0_ := Aside0.mk (below_step (by repeat (first | (with_reducible first | exact HB.out | apply below_alloc | apply pw_below_drewN | apply below_drew1) | exact HB.out)) hb); clear HB; have HB := n0_; clear n0_; (try clear hb); (try clear hb2); (try clear hk); (try clear hi)) | ((with_reducible refine gate_callee (f := 21) rfl ?_); refine goesL_ (some 40) rfl rfl Try.func21 (by kernel_rfl) rfl #[.string t209] rfl (by (try simp only [List.map_toArray, List.map_cons, List.map_nil]); first | done | rfl | (simp only [List.length_drop, List.length_take]; rfl)) ?_; (with_reducible refine (spec_PlainOf.calls k t209 t214 t215 _ A7.out).mono ?_); rintro e w13 ⟨rfl, hb⟩; refine ⟨_, rfl, ?_⟩; have n0_ := Aside0.mk (below_step (by repeat (first | (with_reducible first | exact HB.out | apply below_alloc | apply pw_below_drewN | apply below_drew1) | exact HB.out)) hb); clear HB; have HB := n0_; clear n0_; (try clear hb); (try clear hb2); (try clear hk); (try clear hi)) | ((with_reducible refine gate_callee (f := 19) rfl ?_); refine goesL_ (some 45) rfl rfl Try.func19 (by kernel_rfl) rfl #[.string t209] rfl (by (try simp only [List.map_toArray, List.map_cons, List.map_nil]); first | done | rfl | (simp only [List.length_drop, List.length_take]; rfl)) ?_; (with_reducible refine (spec_OutlineOf.calls k t209 t216 t217 _ A8.out).mono ?_); rintro e w14 ⟨rfl, hb⟩; refine ⟨_, rfl, ?_⟩; have n0_ := Aside0.mk (below_step (by repeat (first | (with_reducible first | exact HB.out | apply below_alloc | apply pw_below_drewN | apply below_drew1) | exact HB.out)) hb); clear HB; have HB := n0_; clear n0_; (try clear hb); (try clear hb2); (try clear hk); (try clear hi)))
    (try simp only [Act.put, List.setIfInBounds_toArray, List.set_cons_zero, List.set_cons_succ])
    go_cut [65] (fun v65 wc => ∃ (kq : Nat) (x65_8 : Bool), v65 = .bool x65_8 ∧ Aside0 (laws_FnPlain.j0 kq l1 t209 t210 t211 t212 x65_8 = some r) ∧ Aside0 (kq ≤ k) ∧ Aside0 (Below w.heap.size w wc))
    case first =>
      have H := HC9.out
      clear HC9
      by_cases c15 : (t211 != t215) = true
      · rw [if_pos c15] at H
        have c15b0 : (t211 != t215) = true := c15
        (try (have c15b1 : decide (t211 = t215) = false := by simpa using c15))
        (try (have c15b2 : (t211 == t215) = false := by simpa using c15))
        (try (have c15b3 : ¬ (t211 = t215) := by simpa using c15))
        clear c15
        (first | rw [c15b0] | (simp only [i64_w, i32_w]; rw [c15b0]) | rw [c15e] | skip)
        have H' := Aside0.mk H
        clear H
        go_wp2
        go_meet
        case rel => exact ⟨_, (true), (by first | rfl | (simp; done) | (simp [*]; done)), H', ⟨by first | omega | exact Nat.le_refl _⟩, ⟨by repeat (first | (with_reducible first | exact HB.out | apply below_alloc | apply pw_below_drewN | apply below_drew1) | exact HB.out)⟩⟩
      · rw [if_neg c15] at H
        have c15b0 : (t211 != t215) = false := by simpa using c15
        (try (have c15b1 : decide (t211 = t215) = true := by simpa using c15))
        (try (have c15b2 : (t211 == t215) = true := by simpa using c15))
        clear c15
        (first | rw [c15b0] | (simp only [i64_w, i32_w]; rw [c15b0]) | rw [c15e] | skip)
        by_cases c16 : (t213 != t217) = true
        · rw [if_pos c16] at H
          have c16b0 : (t213 != t217) = true := c16
          (try (have c16b1 : decide (t213 = t217) = false := by simpa using c16))
          (try (have c16b2 : (t213 == t217) = false := by simpa using c16))
          (try (have c16b3 : ¬ (t213 = t217) := by simpa using c16))
          clear c16
          have H' := Aside0.mk H
          clear H
          go_wp2
          go_meet
          case rel => exact ⟨_, (true), (by first | rfl | (simp; done) | (simp [*]; done)), H', ⟨by first | omega | exact Nat.le_refl _⟩, ⟨by repeat (first | (with_reducible first | exact HB.out | apply below_alloc | apply pw_below_drewN | apply below_drew1) | exact HB.out)⟩⟩
        · rw [if_neg c16] at H
          have c16b0 : (t213 != t217) = false := by simpa using c16
          (try (have c16b1 : decide (t213 = t217) = true := by simpa using c16))
          (try (have c16b2 : (t213 == t217) = true := by simpa using c16))
          clear c16
          by_cases c17 : t210.toList = t214.toList
          · rw [if_pos c17] at H
            have c17b0 : (t210.toList == t214.toList) = true := beq_iff_eq.mpr c17
            have c17b1 : (t210.toList != t214.toList) = false := bne_eq_false_iff_eq.mpr c17
            clear c17
            have H' := Aside0.mk H
            clear H
            go_wp2
            go_meet
            case rel => exact ⟨_, ((t212.toList != t216.toList)), (by first | rfl | (simp; done) | (simp [*]; done)), H', ⟨by first | omega | exact Nat.le_refl _⟩, ⟨by repeat (first | (with_reducible first | exact HB.out | apply below_alloc | apply pw_below_drewN | apply below_drew1) | exact HB.out)⟩⟩
          · rw [if_neg c17] at H
            have c17b0 : (t210.toList == t214.toList) = false := beq_eq_false_iff_ne.mpr c17
            have c17b1 : (t210.toList != t214.toList) = true := bne_iff_ne.mpr c17
            have H' := Aside0.mk H
            clear H
            go_wp2
            go_meet
            case rel => exact ⟨_, (true), (by first | rfl | (simp; done) | (simp [*]; done)), H', ⟨by first | omega | exact Nat.le_refl _⟩, ⟨by repeat (first | (with_reducible first | exact HB.out | apply below_alloc | apply pw_below_drewN | apply below_drew1) | exact HB.out)⟩⟩
    case rest =>
      clear HC9
      try clear c1
      try clear c2
      try clear p2
      try clear c3
      try clear c3b0
      try clear p6
      try clear c14
      try clear c15
      try clear c15b0
      try clear c15b1
      try clear c15b2
      try clear c16
      try clear c16b0
      try clear c16b1
      try clear c16b2
      try clear c17
      try clear c17b0
      try clear c17b1
      obtain ⟨kq, x65_8, rfl, HA, HJ8, HB⟩ := hcut
      cases kq with
      | zero => exact absurd HA.out (by simp [laws_FnPlain.j0])
      | succ kj8 =>
        have H := HA.out
        clear HA
        simp only [laws_FnPlain.j0] at H
        by_cases c18 : x65_8 = true
        · subst c18
          have H1 : (some false) = some r := by rw [if_pos rfl] at H; exact H
          clear H
          have H := H1
          clear H1
          obtain rfl := Option.some.inj H
          go_wp2
          go_ret
          exact ⟨by first | rfl | (simp [errW_none, errW_some] <;> rfl) | (simp [*, errW_none, errW_some] <;> rfl), by repeat (first | (with_reducible first | exact HB.out | apply below_alloc | apply pw_below_drewN | apply below_drew1) | exact HB.out)⟩
        · replace c18 := Bool.eq_false_iff.mpr c18
          subst c18
          have H1 : (if t211 = true then ((spec_DrawCountOf.f kj8 l1).bind fun bt218 => ((impl_CountOf.f kj8 bt218.1 bt218.2).bind fun bt220 => ((spec_CountOf.f kj8 bt218.1 bt218.2).bind fun bt222 => (if (wrap64 ((t210.size : Int) + (t212.size : Int))) = (t209.size : Int) then ((impl_GoodDoc.f kj8 t212).bind fun t224 => ((impl_GoodDoc.f kj8 t209).bind fun t225 => (if (t224 == t225) = true then (if (bt220.2 == bt222.2) = true then (some (bt220.1 == bt222.1)) else (some false)) else (some false)))) else (some false))))) else (if t210.toList = ([] : List UInt8) then (some (t212.toList == ([] : List UInt8))) else (some false))) = some r := by rw [if_neg (show ¬ (false = true) by decide)] at H; exact H
          clear H
          have H := H1
          clear H1
          by_cases c19 : t211 = true
          · subst c19
            have H1 : ((spec_DrawCountOf.f kj8 l1).bind fun bt218 => ((impl_CountOf.f kj8 bt218.1 bt218.2).bind fun bt220 => ((spec_CountOf.f kj8 bt218.1 bt218.2).bind fun bt222 => (if (wrap64 ((t210.size : Int) + (t212.size : Int))) = (t209.size : Int) then ((impl_GoodDoc.f kj8 t212).bind fun t224 => ((impl_GoodDoc.f kj8 t209).bind fun t225 => (if (t224 == t225) = true then (if (bt220.2 == bt222.2) = true then (some (bt220.1 == bt222.1)) else (some false)) else (some false)))) else (some false))))) = some r := by rw [if_pos rfl] at H; exact H
            clear H
            have H := H1
            clear H1
            replace H := Option.bind_eq_some_iff.mp H
            obtain ⟨⟨t218, t219⟩, A200, H⟩ := H
            replace H : ((impl_CountOf.f kj8 t218 t219).bind fun bt220 => ((spec_CountOf.f kj8 t218 t219).bind fun bt222 => (if (wrap64 ((t210.size : Int) + (t212.size : Int))) = (t209.size : Int) then ((impl_GoodDoc.f kj8 t212).bind fun t224 => ((impl_GoodDoc.f kj8 t209).bind fun t225 => (if (t224 == t225) = true then (if (bt220.2 == bt222.2) = true then (some (bt220.1 == bt222.1)) else (some false)) else (some false)))) else (some false)))) = some r := H
            have A20 := Aside0.mk A200
            clear A200
            replace H := Option.bind_eq_some_iff.mp H
            obtain ⟨⟨t220, t221⟩, A210, H⟩ := H
            replace H : ((spec_CountOf.f kj8 t218 t219).bind fun bt222 => (if (wrap64 ((t210.size : Int) + (t212.size : Int))) = (t209.size : Int) then ((impl_GoodDoc.f kj8 t212).bind fun t224 => ((impl_GoodDoc.f kj8 t209).bind fun t225 => (if (t224 == t225) = true then (if (t221 == bt222.2) = true then (some (t220 == bt222.1)) else (some false)) else (some false)))) else (some false))) = some r := H
            have A21 := Aside0.mk A210
            clear A210
            replace H := Option.bind_eq_some_iff.mp H
            obtain ⟨⟨t222, t223⟩, A220, H⟩ := H
            replace H : (if (wrap64 ((t210.size : Int) + (t212.size : Int))) = (t209.size : Int) then ((impl_GoodDoc.f kj8 t212).bind fun t224 => ((impl_GoodDoc.f kj8 t209).bind fun t225 => (if (t224 == t225) = true then (if (t221 == t223) = true then (some (t220 == t222)) else (some false)) else (some false)))) else (some false)) = some r := H
            have A22 := Aside0.mk A220
            clear A220
            by_cases c23 : (wrap64 ((t210.size : Int) + (t212.size : Int))) = (t209.size : Int)
            · rw [if_pos c23] at H
              have c23b0 : ((wrap64 ((t210.size : Int) + (t212.size : Int))) == (t209.size : Int)) = true := beq_iff_eq.mpr c23
              have c23b1 : ((wrap64 ((t210.size : Int) + (t212.size : Int))) != (t209.size : Int)) = false := bne_eq_false_iff_eq.mpr c23
              clear c23
              replace H := Option.bind_eq_some_iff.mp H
              obtain ⟨t224, A240, H⟩ := H
              replace H : ((impl_GoodDoc.f kj8 t209).bind fun t225 => (if (t224 == t225) = true then (if (t221 == t223) = true then (some (t220 == t222)) else (some false)) else (some false))) = some r := H
              have A24 := Aside0.mk A240
              clear A240
              replace H := Option.bind_eq_some_iff.mp H
              obtain ⟨t225, A250, H⟩ := H
              replace H : (if (t224 == t225) = true then (if (t221 == t223) = true then (some (t220 == t222)) else (some false)) else (some false)) = some r := H
              have A25 := Aside0.mk A250
              clear A250
              by_cases c26 : (t224 == t225) = true
              · rw [if_pos c26] at H
                have c26b0 : (t224 == t225) = true := c26
                (try (have c26b1 : decide (t224 = t225) = true := by simpa using c26))
                (try (have c26b2 : (t224 == t225) = true := by simpa using c26))
                clear c26
                by_cases c27 : (t221 == t223) = true
                · rw [if_pos c27] at H
                  have c27b0 : (t221 == t223) = true := c27
                  (try (have c27b1 : decide (t221 = t223) = true := by simpa using c27))
                  (try (have c27b2 : (t221 == t223) = true := by simpa using c27))
                  clear c27
                  obtain rfl := Option.some.inj H
                  go_wp2_with (first | ((with_reducible refine gate_callee (f := 35) rfl ?_); refine goesL_ (some 76) rfl rfl Try.func35 (by kernel_rfl) rfl #[.slice A1 l1.length c1] rfl (by (try simp only [List.map_toArray, List.map_cons, List.map_nil]); first | done | rfl | (simp only [List.length_drop, List.length_take]; rfl)) ?_; (with_reducible refine (spec_DrawCountOf.calls kj8 _ _ l1 t218 t219 _ ?side1 ?side2 A20.out).mono ?_); (case side1 => repeat (first | exact (Kd.C_below HR1.out HB.out) | (with_reducible refine Kd.C_alloc ?_ _) | (with_reducible refine Kd.C_drewN ?_ _) | (with_reducible refine Kd.C_drew ?_))); (case side2 => exact HC1.out); rintro e w28 ⟨rfl, hb⟩; refine ⟨_, rfl, ?_⟩; have n0_ := Aside0.mk (below_step (by repeat (first | (with_reducible first | exact HB.out | apply below_alloc | apply pw_below_drewN | apply below_drew1) | exact HB.out)) hb); clear HB; have HB := n0_; clear n0_; (try clear hb); (try clear hb2); (try clear hk); (try clear hi)) | ((with_reducible refine gate_callee (f := 32) rfl ?_); refine goesL_ (some 82) rfl rfl Try.func32 (by kernel_rfl) rfl #[.string t218, .string t219] rfl (by (try simp only [List.map_toArray, List.map_cons, List.map_nil]); first | done | rfl | (simp only [List.length_drop, List.length_take]; rfl)) ?_; (with_reducible refine (impl_CountOf.calls kj8 t218 t219 t220 t221 _ A21.out).mono ?_); rintro e w29 ⟨rfl, hb⟩; refine ⟨_, rfl, ?_⟩; have n0_ := Aside0.mk (below_step (by repeat (first | (with_reducible first | exact HB.out | apply below_alloc | apply pw_below_drewN | apply below_drew1) | exact HB.out)) hb); clear HB; have HB := n0_; clear n0_; (try clear hb); (try clear hb2); (try clear hk); (try clear hi)) | ((with_reducible refine gate_callee (f := 31) rfl ?_); refine goesL_ (some 88) rfl rfl Try.func31 (by kernel_rfl) rfl #[.string t218, .string t219] rfl (by (try simp only [List.map_toArray, List.map_cons, List.map_nil]); first | done | rfl | (simp only [List.length_drop, List.length_take]; rfl)) ?_; (with_reducible refine (spec_CountOf.calls kj8 t218 t219 t222 t223 _ A22.out).mono ?_); rintro e w' ⟨rfl, ⟨nd, rfl⟩⟩; refine ⟨_, rfl, ?_⟩) | (go_at_call 18; (with_reducible refine (impl_GoodDoc.calls kj8 t212 t224 _ A24.out).mono ?_); rintro e w30 ⟨rfl, hb⟩; have n0_ := Aside0.mk (below_step (by repeat (first | (with_reducible first | exact HB.out | apply below_alloc | apply pw_below_drewN | apply below_drew1) | exact HB.out)) hb); clear HB; have HB := n0_; clear n0_; (try clear hb); (try clear hb2); (try clear hk); (try clear hi)) | (go_at_call 18; (with_reducible refine (impl_GoodDoc.calls kj8 t209 t225 _ A25.out).mono ?_); rintro e w31 ⟨rfl, hb⟩; have n0_ := Aside0.mk (below_step (by repeat (first | (with_reducible first | exact HB.out | apply below_alloc | apply pw_below_drewN | apply below_drew1) | exact HB.out)) hb); clear HB; have HB := n0_; clear n0_; (try clear hb); (try clear hb2); (try clear hk); (try clear hi)))
                  go_ret
                  exact ⟨by first | rfl | (simp [errW_none, errW_some] <;> rfl) | (simp [*, errW_none, errW_some] <;> rfl), by repeat (first | (with_reducible first | exact HB.out | apply below_alloc | apply pw_below_drewN | apply below_drew1) | exact HB.out)⟩
                · rw [if_neg c27] at H
                  have c27b0 : (t221 == t223) = false := by simpa using c27
                  (try (have c27b1 : decide (t221 = t223) = false := by simpa using c27))
                  (try (have c27b2 : (t221 == t223) = false := by simpa using c27))
                  (try (have c27b3 : ¬ (t221 = t223) := by simpa using c27))
                  clear c27
                  obtain rfl := Option.some.inj H
                  go_wp2_with (first | ((with_reducible refine gate_callee (f := 35) rfl ?_); refine goesL_ (some 76) rfl rfl Try.func35 (by kernel_rfl) rfl #[.slice A1 l1.length c1] rfl (by (try simp only [List.map_toArray, List.map_cons, List.map_nil]); first | done | rfl | (simp only [List.length_drop, List.length_take]; rfl)) ?_; (with_reducible refine (spec_DrawCountOf.calls kj8 _ _ l1 t218 t219 _ ?side1 ?side2 A20.out).mono ?_); (case side1 => repeat (first | exact (Kd.C_below HR1.out HB.out) | (with_reducible refine Kd.C_alloc ?_ _) | (with_reducible refine Kd.C_drewN ?_ _) | (with_reducible refine Kd.C_drew ?_))); (case side2 => exact HC1.out); rintro e w32 ⟨rfl, hb⟩; refine ⟨_, rfl, ?_⟩; have n0_ := Aside0.mk (below_step (by repeat (first | (with_reducible first | exact HB.out | apply below_alloc | apply pw_below_drewN | apply below_drew1) | exact HB.out)) hb); clear HB; have HB := n0_; clear n0_; (try clear hb); (try clear hb2); (try clear hk); (try clear hi)) | ((with_reducible refine gate_callee (f := 32) rfl ?_); refine goesL_ (some 82) rfl rfl Try.func32 (by kernel_rfl) rfl #[.string t218, .string t219] rfl (by (try simp only [List.map_toArray, List.map_cons, List.map_nil]); first | done | rfl | (simp only [List.length_drop, List.length_take]; rfl)) ?_; (with_reducible refine (impl_CountOf.calls kj8 t218 t219 t220 t221 _ A21.out).mono ?_); rintro e w33 ⟨rfl, hb⟩; refine ⟨_, rfl, ?_⟩; have n0_ := Aside0.mk (below_step (by repeat (first | (with_reducible first | exact HB.out | apply below_alloc | apply pw_below_drewN | apply below_drew1) | exact HB.out)) hb); clear HB; have HB := n0_; clear n0_; (try clear hb); (try clear hb2); (try clear hk); (try clear hi)) | ((with_reducible refine gate_callee (f := 31) rfl ?_); refine goesL_ (some 88) rfl rfl Try.func31 (by kernel_rfl) rfl #[.string t218, .string t219] rfl (by (try simp only [List.map_toArray, List.map_cons, List.map_nil]); first | done | rfl | (simp only [List.length_drop, List.length_take]; rfl)) ?_; (with_reducible refine (spec_CountOf.calls kj8 t218 t219 t222 t223 _ A22.out).mono ?_); rintro e w' ⟨rfl, ⟨nd, rfl⟩⟩; refine ⟨_, rfl, ?_⟩) | (go_at_call 18; (with_reducible refine (impl_GoodDoc.calls kj8 t212 t224 _ A24.out).mono ?_); rintro e w34 ⟨rfl, hb⟩; have n0_ := Aside0.mk (below_step (by repeat (first | (with_reducible first | exact HB.out | apply below_alloc | apply pw_below_drewN | apply below_drew1) | exact HB.out)) hb); clear HB; have HB := n0_; clear n0_; (try clear hb); (try clear hb2); (try clear hk); (try clear hi)) | (go_at_call 18; (with_reducible refine (impl_GoodDoc.calls kj8 t209 t225 _ A25.out).mono ?_); rintro e w35 ⟨rfl, hb⟩; have n0_ := Aside0.mk (below_step (by repeat (first | (with_reducible first | exact HB.out | apply below_alloc | apply pw_below_drewN | apply below_drew1) | exact HB.out)) hb); clear HB; have HB := n0_; clear n0_; (try clear hb); (try clear hb2); (try clear hk); (try clear hi)))
                  go_ret
                  exact ⟨by first | rfl | (simp [errW_none, errW_some] <;> rfl) | (simp [*, errW_none, errW_some] <;> rfl), by repeat (first | (with_reducible first | exact HB.out | apply below_alloc | apply pw_below_drewN | apply below_drew1) | exact HB.out)⟩
              · rw [if_neg c26] at H
                have c26b0 : (t224 == t225) = false := by simpa using c26
                (try (have c26b1 : decide (t224 = t225) = false := by simpa using c26))
                (try (have c26b2 : (t224 == t225) = false := by simpa using c26))
                (try (have c26b3 : ¬ (t224 = t225) := by simpa using c26))
                clear c26
                obtain rfl := Option.some.inj H
                go_wp2_with (first | ((with_reducible refine gate_callee (f := 35) rfl ?_); refine goesL_ (some 76) rfl rfl Try.func35 (by kernel_rfl) rfl #[.slice A1 l1.length c1] rfl (by (try simp only [List.map_toArray, List.map_cons, List.map_nil]); first | done | rfl | (simp only [List.length_drop, List.length_take]; rfl)) ?_; (with_reducible refine (spec_DrawCountOf.calls kj8 _ _ l1 t218 t219 _ ?side1 ?side2 A20.out).mono ?_); (case side1 => repeat (first | exact (Kd.C_below HR1.out HB.out) | (with_reducible refine Kd.C_alloc ?_ _) | (with_reducible refine Kd.C_drewN ?_ _) | (with_reducible refine Kd.C_drew ?_))); (case side2 => exact HC1.out); rintro e w36 ⟨rfl, hb⟩; refine ⟨_, rfl, ?_⟩; have n0_ := Aside0.mk (below_step (by repeat (first | (with_reducible first | exact HB.out | apply below_alloc | apply pw_below_drewN | apply below_drew1) | exact HB.out)) hb); clear HB; have HB := n0_; clear n0_; (try clear hb); (try clear hb2); (try clear hk); (try clear hi)) | ((with_reducible refine gate_callee (f := 32) rfl ?_); refine goesL_ (some 82) rfl rfl Try.func32 (by kernel_rfl) rfl #[.string t218, .string t219] rfl (by (try simp only [List.map_toArray, List.map_cons, List.map_nil]); first | done | rfl | (simp only [List.length_drop, List.length_take]; rfl)) ?_; (with_reducible refine (impl_CountOf.calls kj8 t218 t219 t220 t221 _ A21.out).mono ?_); rintro e w37 ⟨rfl, hb⟩; refine ⟨_, rfl, ?_⟩; have n0_ := Aside0.mk (below_step (by repeat (first | (with_reducible first | exact HB.out | apply below_alloc | apply pw_below_drewN | apply below_drew1) | exact HB.out)) hb); clear HB; have HB := n0_; clear n0_; (try clear hb); (try clear hb2); (try clear hk); (try clear hi)) | ((with_reducible refine gate_callee (f := 31) rfl ?_); refine goesL_ (some 88) rfl rfl Try.func31 (by kernel_rfl) rfl #[.string t218, .string t219] rfl (by (try simp only [List.map_toArray, List.map_cons, List.map_nil]); first | done | rfl | (simp only [List.length_drop, List.length_take]; rfl)) ?_; (with_reducible refine (spec_CountOf.calls kj8 t218 t219 t222 t223 _ A22.out).mono ?_); rintro e w' ⟨rfl, ⟨nd, rfl⟩⟩; refine ⟨_, rfl, ?_⟩) | (go_at_call 18; (with_reducible refine (impl_GoodDoc.calls kj8 t212 t224 _ A24.out).mono ?_); rintro e w38 ⟨rfl, hb⟩; have n0_ := Aside0.mk (below_step (by repeat (first | (with_reducible first | exact HB.out | apply below_alloc | apply pw_below_drewN | apply below_drew1) | exact HB.out)) hb); clear HB; have HB := n0_; clear n0_; (try clear hb); (try clear hb2); (try clear hk); (try clear hi)) | (go_at_call 18; (with_reducible refine (impl_GoodDoc.calls kj8 t209 t225 _ A25.out).mono ?_); rintro e w39 ⟨rfl, hb⟩; have n0_ := Aside0.mk (below_step (by repeat (first | (with_reducible first | exact HB.out | apply below_alloc | apply pw_below_drewN | apply below_drew1) | exact HB.out)) hb); clear HB; have HB := n0_; clear n0_; (try clear hb); (try clear hb2); (try clear hk); (try clear hi)))
                go_ret
                exact ⟨by first | rfl | (simp [errW_none, errW_some] <;> rfl) | (simp [*, errW_none, errW_some] <;> rfl), by repeat (first | (with_reducible first | exact HB.out | apply below_alloc | apply pw_below_drewN | apply below_drew1) | exact HB.out)⟩
            · rw [if_neg c23] at H
              have c23b0 : ((wrap64 ((t210.size : Int) + (t212.size : Int))) == (t209.size : Int)) = false := beq_eq_false_iff_ne.mpr c23
              have c23b1 : ((wrap64 ((t210.size : Int) + (t212.size : Int))) != (t209.size : Int)) = true := bne_iff_ne.mpr c23
              obtain rfl := Option.some.inj H
              go_wp2_with (first | ((with_reducible refine gate_callee (f := 35) rfl ?_); refine goesL_ (some 76) rfl rfl Try.func35 (by kernel_rfl) rfl #[.slice A1 l1.length c1] rfl (by (try simp only [List.map_toArray, List.map_cons, List.map_nil]); first | done | rfl | (simp only [List.length_drop, List.length_take]; rfl)) ?_; (with_reducible refine (spec_DrawCountOf.calls kj8 _ _ l1 t218 t219 _ ?side1 ?side2 A20.out).mono ?_); (case side1 => repeat (first | exact (Kd.C_below HR1.out HB.out) | (with_reducible refine Kd.C_alloc ?_ _) | (with_reducible refine Kd.C_drewN ?_ _) | (with_reducible refine Kd.C_drew ?_))); (case side2 => exact HC1.out); rintro e w40 ⟨rfl, hb⟩; refine ⟨_, rfl, ?_⟩; have n0_ := Aside0.mk (below_step (by repeat (first | (with_reducible first | exact HB.out | apply below_alloc | apply pw_below_drewN | apply below_drew1) | exact HB.out)) hb); clear HB; have HB := n0_; clear n0_; (try clear hb); (try clear hb2); (try clear hk); (try clear hi)) | ((with_reducible refine gate_callee (f := 32) rfl ?_); refine goesL_ (some 82) rfl rfl Try.func32 (by kernel_rfl) rfl #[.string t218, .string t219] rfl (by (try simp only [List.map_toArray, List.map_cons, List.map_nil]); first | done | rfl | (simp only [List.length_drop, List.length_take]; rfl)) ?_; (with_reducible refine (impl_CountOf.calls kj8 t218 t219 t220 t221 _ A21.out).mono ?_); rintro e w41 ⟨rfl, hb⟩; refine ⟨_, rfl, ?_⟩; have n0_ := Aside0.mk (below_step (by repeat (first | (with_reducible first | exact HB.out | apply below_alloc | apply pw_below_drewN | apply below_drew1) | exact HB.out)) hb); clear HB; have HB := n0_; clear n0_; (try clear hb); (try clear hb2); (try clear hk); (try clear hi)) | ((with_reducible refine gate_callee (f := 31) rfl ?_); refine goesL_ (some 88) rfl rfl Try.func31 (by kernel_rfl) rfl #[.string t218, .string t219] rfl (by (try simp only [List.map_toArray, List.map_cons, List.map_nil]); first | done | rfl | (simp only [List.length_drop, List.length_take]; rfl)) ?_; (with_reducible refine (spec_CountOf.calls kj8 t218 t219 t222 t223 _ A22.out).mono ?_); rintro e w' ⟨rfl, ⟨nd, rfl⟩⟩; refine ⟨_, rfl, ?_⟩))
              go_ret
              exact ⟨by first | rfl | (simp [errW_none, errW_some] <;> rfl) | (simp [*, errW_none, errW_some] <;> rfl), by repeat (first | (with_reducible first | exact HB.out | apply below_alloc | apply pw_below_drewN | apply below_drew1) | exact HB.out)⟩
          · replace c19 := Bool.eq_false_iff.mpr c19
            subst c19
            have H1 : (if t210.toList = ([] : List UInt8) then (some (t212.toList == ([] : List UInt8))) else (some false)) = some r := by rw [if_neg (show ¬ (false = true) by decide)] at H; exact H
            clear H
            have H := H1
            clear H1
            by_cases c42 : t210.toList = ([] : List UInt8)
            · rw [if_pos c42] at H
              have c42b0 : (t210.toList == ([] : List UInt8)) = true := beq_iff_eq.mpr c42
              have c42b1 : (t210.toList != ([] : List UInt8)) = false := bne_eq_false_iff_eq.mpr c42
              try have c42e : t210.toList.isEmpty = true := List.isEmpty_iff.mpr c42
              clear c42
              obtain rfl := Option.some.inj H
              go_wp2
              go_ret
              exact ⟨by first | rfl | (simp [errW_none, errW_some] <;> rfl) | (simp [*, errW_none, errW_some] <;> rfl), by repeat (first | (with_reducible first | exact HB.out | apply below_alloc | apply pw_below_drewN | apply below_drew1) | exact HB.out)⟩
            · rw [if_neg c42] at H
              have c42b0 : (t210.toList == ([] : List UInt8)) = false := beq_eq_false_iff_ne.mpr c42
              have c42b1 : (t210.toList != ([] : List UInt8)) = true := bne_iff_ne.mpr c42
              try have c42e : t210.toList.isEmpty = false := List.isEmpty_eq_false_iff.mpr c42
              obtain rfl := Option.some.inj H
              go_wp2
              go_ret
              exact ⟨by first | rfl | (simp [errW_none, errW_some] <;> rfl) | (simp [*, errW_none, errW_some] <;> rfl), by repeat (first | (with_reducible first | exact HB.out | apply below_alloc | apply pw_below_drewN | apply below_drew1) | exact HB.out)⟩

/-- THE ONE PURE STATEMENT of laws_FnPlain: yours. -/
def laws_FnPlain.Pure : Prop := ∀ (l0 : List Int) (l1 : List Int), l0.length ≤ maxLen → l0.length * 1 ≤ 140737488351232 → (∀ x ∈ l0, (Lit.int .u8 x).wf = true) → l1.length ≤ maxLen → l1.length * 1 ≤ 140737488351232 → (∀ x ∈ l1, (Lit.int .u8 x).wf = true) → ∃ k, laws_FnPlain.f k l0 l1 = some true
theorem laws_FnPlain.walk (P : laws_FnPlain.Pure) (a0 : Option Addr) (len0 cap0 : Nat) (z0 : List Int) (a1 : Option Addr) (len1 cap1 : Nat) (z1 : List Int) (w : World) (w0 : (a0 = none ∧ len0 = 0 ∧ cap0 = 0 ∧ z0 = []) ∨ ∃ x, a0 = some x ∧ len0 ≤ cap0 ∧ cap0 ≤ maxLen ∧ z0.length = cap0 ∧ (∀ i, i < z0.length → w.cell? (x.add i) = some (.int .u8 (z0.getD i 0))) ∧ ∀ n ∈ z0, (Lit.int .u8 n).wf = true) (y0 : len0 * 1 ≤ 140737488351232) (w1 : (a1 = none ∧ len1 = 0 ∧ cap1 = 0 ∧ z1 = []) ∨ ∃ x, a1 = some x ∧ len1 ≤ cap1 ∧ cap1 ≤ maxLen ∧ z1.length = cap1 ∧ (∀ i, i < z1.length → w.cell? (x.add i) = some (.int .u8 (z1.getD i 0))) ∧ ∀ n ∈ z1, (Lit.int .u8 n).wf = true) (y1 : len1 * 1 ≤ 140737488351232) :
    Calls Try.prog 14 #[.slice a0 len0 cap0, .slice a1 len1 cap1] w fun e w' => e = .returned (.bool true) ∧ Below w.heap.size w w' := by
  obtain ⟨l0, rfl, hr0, hm0, hw0, hc0⟩ := ReadsInt.ofRowC w0
  obtain ⟨l1, rfl, hr1, hm1, hw1, hc1⟩ := ReadsInt.ofRowC w1
  obtain ⟨k, h⟩ := P l0 l1 hm0 y0 hw0 hm1 y1 hw1
  refine (laws_FnPlain.calls k _ _ l0 _ _ l1 true w (Kd.C_of_reads (d := (0 : Int)) (h1 := fun _ => rfl) hr0) hc0 (Kd.C_of_reads (d := (0 : Int)) (h1 := fun _ => rfl) hr1) hc1 h).mono ?_
  rintro e w' ⟨rfl, hd⟩
  exact ⟨rfl, hd⟩

end Go.Proofs.Ytamjfhlbhaaepaa.PFnPlain
