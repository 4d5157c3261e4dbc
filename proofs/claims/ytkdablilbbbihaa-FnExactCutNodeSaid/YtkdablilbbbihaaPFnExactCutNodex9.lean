/- Written by a program of this session (wip/ovl.py) over the kit's print: plain functions with the answers of the Go functions, and the proofs that they are; no condition. -/
import Derived.Test.YtkdablilbbbihaaShelf
import Derived.Test.YtkdablilbbbihaaPFnExactCutNodex0
import Derived.Test.YtkdablilbbbihaaPFnExactCutNodex8
namespace Go.Proofs.Ytkdablilbbbihaa.PFnExactCutNode
open Go.RowKit Go.Proofs.YtkdablilbbbihaaW.PrintWords Go.Proofs.YtkdablilbbbihaaW.PrintLast Go.Proofs.YtkdablilbbbihaaW.PrintMore
attribute [local go_sem] max2_int min2_int max_two min_two max_three min_three max_four min_four   -- for this text's walks alone
set_option linter.unusedVariables false
set_option linter.unusedSimpArgs false

/-! ### impl_treeOf: function 52 -/
mutual
def impl_treeOf.l0 : Nat → ByteArray → List (S54) → Int → Int → Option ((List (S54)))
  | 0, _, _, _, _ => none
  | k + 1, x0, x3, x4, x5 => if x5 < (x0.size : Int) then (if 0 ≤ x5 then ((impl_isName.f (bt x0 x5)).bind fun t207 => (if t207 = true then (if x5 ≤ (wrap64 (x5 + 1)) then (if (wrap64 (x5 + 1)) ≤ (x0.size : Int) then (if x3.length < 3518437208883 then ((some (x3 ++ [(⟨x0.extract (x5 : Int).toNat ((wrap64 (x5 + 1)) : Int).toNat, (⟨#[]⟩ : ByteArray), x4⟩ : S54)] : List (S54))).bind fun y208 => (impl_treeOf.l0 k x0 y208 (wrap64 ((y208.length : Int) - 1)) (wrap64 (x5 + 1)))) else (none)) else (none)) else (none)) else (if (bt x0 x5) = 47 then (if 0 ≤ x4 then (if x4 < (x3.length : Int) then (impl_treeOf.l0 k x0 x3 ((rd_T54 x3 x4).f2) (wrap64 (x5 + 1))) else (none)) else (none)) else (impl_treeOf.l1 k x0 x3 x4 x5 x5)))) else (none)) else (some x3)
def impl_treeOf.l1 : Nat → ByteArray → List (S54) → Int → Int → Int → Option ((List (S54)))
  | 0, _, _, _, _, _ => none
  | k + 1, x0, x3, x4, x5, x7 => if x5 < (x0.size : Int) then (if 0 ≤ x5 then ((impl_isPlain.f (bt x0 x5)).bind fun t212 => (if t212 = true then (impl_treeOf.l1 k x0 x3 x4 (wrap64 (x5 + 1)) x7) else (if 0 ≤ x7 then (if x7 ≤ x5 then (if x5 ≤ (x0.size : Int) then (if x3.length < 3518437208883 then (impl_treeOf.l0 k x0 (x3 ++ [(⟨(⟨#[]⟩ : ByteArray), x0.extract (x7 : Int).toNat (x5 : Int).toNat, x4⟩ : S54)]) x4 x5) else (none)) else (none)) else (none)) else (none)))) else (none)) else (if 0 ≤ x7 then (if x7 ≤ x5 then (if x5 ≤ (x0.size : Int) then (if x3.length < 3518437208883 then (impl_treeOf.l0 k x0 (x3 ++ [(⟨(⟨#[]⟩ : ByteArray), x0.extract (x7 : Int).toNat (x5 : Int).toNat, x4⟩ : S54)]) x4 x5) else (none)) else (none)) else (none)) else (none))
end
def impl_treeOf.f (k : Nat) (a0 : ByteArray) : Option ((List (S54))) := impl_treeOf.l0 k a0 (([(⟨(⟨#[]⟩ : ByteArray), (⟨#[]⟩ : ByteArray), (-1)⟩ : S54)] : List (S54))) 0 0
theorem impl_treeOf.mono_l : ∀ k, (∀ y0 y1 y2 y3, LeO (impl_treeOf.l0 k y0 y1 y2 y3) (impl_treeOf.l0 (k + 1) y0 y1 y2 y3)) ∧ (∀ y0 y1 y2 y3 y4, LeO (impl_treeOf.l1 k y0 y1 y2 y3 y4) (impl_treeOf.l1 (k + 1) y0 y1 y2 y3 y4))
  | 0 => ⟨fun _ _ _ _ r h => by simp [impl_treeOf.l0] at h, fun _ _ _ _ _ r h => by simp [impl_treeOf.l1] at h⟩
  | k + 1 => by
    obtain ⟨ih0, ih1⟩ := impl_treeOf.mono_l k
    refine ⟨?_, ?_⟩
    · intro y0 y1 y2 y3
      unfold impl_treeOf.l0
      repeat' first
      | (with_reducible exact ih0 _ _ _ _)
      | (with_reducible exact ih1 _ _ _ _ _)
      | (with_reducible exact LeO.refl _)
      | (with_reducible exact LeO.none _)
      | (with_reducible refine LeO.ite ?_ ?_)
      | (with_reducible refine LeO.bind ?_ (fun _ => ?_))
      | exact ih0 _ _ _ _
      | exact ih1 _ _ _ _ _
      | exact LeO.none _
      | refine LeO.ite ?_ ?_
      | refine LeO.bind ?_ (fun _ => ?_)
    · intro y0 y1 y2 y3 y4
      unfold impl_treeOf.l1
      repeat' first
      | (with_reducible exact ih0 _ _ _ _)
      | (with_reducible exact ih1 _ _ _ _ _)
      | (with_reducible exact LeO.refl _)
      | (with_reducible exact LeO.none _)
      | (with_reducible refine LeO.ite ?_ ?_)
      | (with_reducible refine LeO.bind ?_ (fun _ => ?_))
      | exact ih0 _ _ _ _
      | exact ih1 _ _ _ _ _
      | exact LeO.none _
      | refine LeO.ite ?_ ?_
      | refine LeO.bind ?_ (fun _ => ?_)
theorem impl_treeOf.mono : ∀ a0 k, LeO (impl_treeOf.f k a0) (impl_treeOf.f (k + 1) a0) := by
  intro a0 k
  obtain ⟨ih0, ih1⟩ := impl_treeOf.mono_l k
  unfold impl_treeOf.f
  repeat' first
      | (with_reducible exact ih0 _ _ _ _)
      | (with_reducible exact ih1 _ _ _ _ _)
      | (with_reducible exact LeO.refl _)
      | (with_reducible exact LeO.none _)
      | (with_reducible refine LeO.ite ?_ ?_)
      | (with_reducible refine LeO.bind ?_ (fun _ => ?_))
      | exact ih0 _ _ _ _
      | exact ih1 _ _ _ _ _
      | exact LeO.none _
      | refine LeO.ite ?_ ?_
      | refine LeO.bind ?_ (fun _ => ?_)
set_option maxHeartbeats 8000000 in
set_option maxRecDepth 100000 in
theorem impl_treeOf.calls (k : Nat) (a0 : ByteArray) (r : List (S54)) (w : World) (h : impl_treeOf.f k a0 = some r) :
    Calls Try.prog 52 #[.string a0] w fun e w' => ∃ v0_ : Value, e = .returned (v0_) ∧ Kd.R k54 54 w' w.heap.size (fun _ => True) v0_ r ∧ Below w.heap.size w w' := by
  have hu54 := Try.underlying54
  have HB := Aside0.mk (Below.refl w.heap.size w)
  have H : (impl_treeOf.l0 k a0 (([(⟨(⟨#[]⟩ : ByteArray), (⟨#[]⟩ : ByteArray), (-1)⟩ : S54)] : List (S54))) 0 0) = some r := h
  clear h
  obtain ⟨y204, hy204⟩ : ∃ y_ : List (S54), y_ = (([(⟨(⟨#[]⟩ : ByteArray), (⟨#[]⟩ : ByteArray), (-1)⟩ : S54)] : List (S54))) := ⟨_, rfl⟩
  replace H : (impl_treeOf.l0 k a0 y204 0 0) = some r := by first | (rw [hy204]; with_reducible exact H) | (have H2_ := (Option.bind_some _ _).symm.trans H; rw [hy204]; with_reducible exact H2_) | (have H2_ := (Option.bind_some _ _).symm.trans H; with_reducible exact H2_) | with_reducible exact H | (rw [hy204]; exact H) | exact H
  have Ny204 := Aside0.mk hy204
  clear hy204
  have H' := Aside0.mk H
  clear H
  go_enter Try.func52, Try.ntmps52
  go_wp2_with (first | ((with_reducible refine gate_dst (N := 9) rfl ?_); refine Kd.R_lit k54 _ 54 ?hg (N := 9) ?hd (xs := ([(⟨(⟨#[]⟩ : ByteArray), (⟨#[]⟩ : ByteArray), (-1)⟩ : S54)] : List (S54))) (inner := [.string (⟨#[]⟩ : ByteArray), .string (⟨#[]⟩ : ByteArray), .int .i64 (-1)]) (ok := fun _ => True) (okp := fun _ => True) ?hr ?hp (fun _ hk => hk) trivial (Below.refl _ _) (Nat.le_refl _) (by simp) ?_; (case hd => rfl); (case hg => rfl); (case hr => first | (go_simp; done) | (go_simp; rfl)); (case hp => exact (Reps.c3 (show Kd.M k54 _ _ _ (⟨(⟨#[]⟩ : ByteArray), (⟨#[]⟩ : ByteArray), (-1)⟩ : S54) [.string (⟨#[]⟩ : ByteArray), .string (⟨#[]⟩ : ByteArray), .int .i64 (-1)] from (k54_mkM _ _ _ (⟨(⟨#[]⟩ : ByteArray), (⟨#[]⟩ : ByteArray), (-1)⟩ : S54) )) (Reps.none _ _))); intro v205 w2 ho3 hb hg_ hnew_; clear hg_ hnew_; (first | rw [← Ny204.out] at ho3 | (simp only [Int.reduceToNat] at ho3; rw [← Ny204.out] at ho3)); have n0_ := Aside0.mk (Kd.R_lower ho3 (below_size (by repeat (first | (with_reducible first | exact HB.out | apply below_alloc | apply pw_below_drewN | apply below_drew1) | exact HB.out)))); have n1_ := Aside0.mk (below_step (by repeat (first | (with_reducible first | exact HB.out | apply below_alloc | apply pw_below_drewN | apply below_drew1) | exact HB.out)) hb); clear HB; have HO206 := n0_; have HB := n1_; clear n0_ n1_; clear hb ho3))
  go_loopg [3, 4, 5] k (fun kq v3 v4 v5 w' => ∃ (x3_1 : List (S54)) (x4_1 : Int) (x5_1 : Int), v4 = .int .i64 x4_1 ∧ v5 = .int .i64 x5_1 ∧ Aside0 (impl_treeOf.l0 kq a0 x3_1 x4_1 x5_1 = some r) ∧ Aside0 (kq ≤ k) ∧ Aside0 (Kd.R k54 54 w' w.heap.size (fun _ => True) v3 x3_1) ∧ Aside0 (Below w.heap.size w w'))
  case atStart => exact ⟨(y204), (0), (0), (by first | rfl | (simp; done) | (simp [*]; done)), (by first | rfl | (simp; done) | (simp [*]; done)), H', ⟨Nat.le_refl _⟩, ⟨by (with_reducible repeat (first | apply Kd.R_alloc | apply Kd.R_drewN | apply Kd.R_drew)); exact HO206.out⟩, ⟨by repeat (first | (with_reducible first | exact HB.out | apply below_alloc | apply pw_below_drewN | apply below_drew1) | exact HB.out)⟩⟩
  case round =>
    clear H'
    try clear p2
    try clear c3
    obtain ⟨x3_1, x4_1, x5_1, rfl, rfl, HA, HK1, HO_3, HB⟩ := hrel
    cases gk with
    | zero => exact absurd HA.out (by simp [impl_treeOf.l0])
    | succ k1 =>
      have H := HA.out
      clear HA
      simp only [impl_treeOf.l0] at H
      by_cases c4 : x5_1 < (a0.size : Int)
      · rw [if_pos c4] at H
        have c4b0 : decide (x5_1 < (a0.size : Int)) = true := decide_eq_true c4
        clear c4
        by_cases c5 : 0 ≤ x5_1
        · rw [if_pos c5] at H
          have c5b0 : decide (0 ≤ x5_1) = true := decide_eq_true c5
          clear c5
          replace H := Option.bind_eq_some_iff.mp H
          obtain ⟨t207, A70, H⟩ := H
          replace H : (if t207 = true then (if x5_1 ≤ (wrap64 (x5_1 + 1)) then (if (wrap64 (x5_1 + 1)) ≤ (a0.size : Int) then (if x3_1.length < 3518437208883 then ((some (x3_1 ++ [(⟨a0.extract (x5_1 : Int).toNat ((wrap64 (x5_1 + 1)) : Int).toNat, (⟨#[]⟩ : ByteArray), x4_1⟩ : S54)] : List (S54))).bind fun y208 => (impl_treeOf.l0 k1 a0 y208 (wrap64 ((y208.length : Int) - 1)) (wrap64 (x5_1 + 1)))) else (none)) else (none)) else (none)) else (if (bt a0 x5_1) = 47 then (if 0 ≤ x4_1 then (if x4_1 < (x3_1.length : Int) then (impl_treeOf.l0 k1 a0 x3_1 ((rd_T54 x3_1 x4_1).f2) (wrap64 (x5_1 + 1))) else (none)) else (none)) else (impl_treeOf.l1 k1 a0 x3_1 x4_1 x5_1 x5_1))) = some r := H
          have A7 := Aside0.mk A70
          clear A70
          by_cases c8 : t207 = true
          · subst c8
            have H1 : (if x5_1 ≤ (wrap64 (x5_1 + 1)) then (if (wrap64 (x5_1 + 1)) ≤ (a0.size : Int) then (if x3_1.length < 3518437208883 then ((some (x3_1 ++ [(⟨a0.extract (x5_1 : Int).toNat ((wrap64 (x5_1 + 1)) : Int).toNat, (⟨#[]⟩ : ByteArray), x4_1⟩ : S54)] : List (S54))).bind fun y208 => (impl_treeOf.l0 k1 a0 y208 (wrap64 ((y208.length : Int) - 1)) (wrap64 (x5_1 + 1)))) else (none)) else (none)) else (none)) = some r := by rw [if_pos rfl] at H; exact H
            clear H
            have H := H1
            clear H1
            have c9b0 := eq_true (of_decide_eq_true (by first | (with_reducible assumption) | assumption) : 0 ≤ x5_1)
            by_cases c10 : x5_1 ≤ (wrap64 (x5_1 + 1))
            · rw [if_pos c10] at H
              have c10b0 := eq_true c10
              have c10b1 : decide (x5_1 ≤ (wrap64 (x5_1 + 1))) = true := decide_eq_true c10
              by_cases c11 : (wrap64 (x5_1 + 1)) ≤ (a0.size : Int)
              · rw [if_pos c11] at H
                have c11b0 := eq_true c11
                have c11b1 : decide ((wrap64 (x5_1 + 1)) ≤ (a0.size : Int)) = true := decide_eq_true c11
                by_cases c12 : x3_1.length < 3518437208883
                · rw [if_pos c12] at H
                  have LMc12 := Aside0.mk c12
                  clear c12
                  obtain ⟨y208, hy208⟩ : ∃ y_ : List (S54), y_ = (x3_1 ++ [(⟨a0.extract (x5_1 : Int).toNat ((wrap64 (x5_1 + 1)) : Int).toNat, (⟨#[]⟩ : ByteArray), x4_1⟩ : S54)]) := ⟨_, rfl⟩
                  replace H : (impl_treeOf.l0 k1 a0 y208 (wrap64 ((y208.length : Int) - 1)) (wrap64 (x5_1 + 1))) = some r := by first | (rw [hy208]; with_reducible exact H) | (have H2_ := (Option.bind_some _ _).symm.trans H; rw [hy208]; with_reducible exact H2_) | (have H2_ := (Option.bind_some _ _).symm.trans H; with_reducible exact H2_) | with_reducible exact H | (rw [hy208]; exact H) | exact H
                  have Ny208 := Aside0.mk hy208
                  clear hy208
                  have H' := Aside0.mk H
                  clear H
                  have p6 : 0 ≤ (x5_1 : Int) := of_decide_eq_true (by first | (with_reducible assumption) | assumption)
                  have q6 : x5_1 < (a0.size : Int) := of_decide_eq_true (by first | (with_reducible assumption) | assumption)
                  have hx6 := bt_at a0 x5_1
                  replace p6 := eq_true p6
                  replace q6 := eq_true q6
                  go_wp2_with (first | ((with_reducible refine gate_callee (f := 76) rfl ?_); refine goesL_ (some 41) rfl rfl Try.func76 (by kernel_rfl) rfl #[.int .u8 (bt a0 x5_1)] rfl (by (try simp only [List.map_toArray, List.map_cons, List.map_nil]); first | done | rfl | (simp only [List.length_drop, List.length_take]; rfl)) ?_; (with_reducible refine (impl_isName.calls (bt a0 x5_1) true _ A7.out).mono ?_); rintro e w' ⟨rfl, ⟨nd, rfl⟩⟩; refine ⟨_, rfl, ?_⟩) | ((with_reducible refine gate_builtin (b := .append) (xs := #[.tmp 42, .tmp 50]) rfl ?_); at_builtin; refine Kd.R_append k54 (w0 := w) w.heap.size rfl (.tmp 42) (.tmp 50) 28 54 (.agg #[(.string ⟨#[]⟩), (.string ⟨#[]⟩), (.int .i64 0)]) 40 rfl Try.underlying28 info54 rfl (by decide) (by omega) u3 x3_1 (⟨a0.extract (x5_1 : Int).toNat ((wrap64 (x5_1 + 1)) : Int).toNat, (⟨#[]⟩ : ByteArray), x4_1⟩ : S54) [.string (a0.extract (x5_1 : Int).toNat ((wrap64 (x5_1 + 1)) : Int).toNat), .string (⟨#[]⟩ : ByteArray), .int .i64 x4_1] (fun _ => True) (fun _ => False) rfl rfl ?aP (fun _ hk => hk.elim) ?aF ?aO ?aB ?aS ?aL ?_; (case aP => exact k54_mkM _ _ _ (⟨a0.extract (x5_1 : Int).toNat ((wrap64 (x5_1 + 1)) : Int).toNat, (⟨#[]⟩ : ByteArray), x4_1⟩ : S54)); (case aB => exact (by repeat (first | (with_reducible first | exact HB.out | apply below_alloc | apply pw_below_drewN | apply below_drew1) | exact HB.out))); (case aF => exact (fun _ _ => trivial)); (case aO => exact (by (with_reducible repeat (first | apply Kd.R_alloc | apply Kd.R_drewN | apply Kd.R_drew)); exact HO_3.out)); (case aS => exact (below_size (by repeat (first | (with_reducible first | exact HB.out | apply below_alloc | apply pw_below_drewN | apply below_drew1) | exact HB.out)))); (case aL => have := LMc12.out; omega); intro v209 w13 ho hb hg hat; rw [← Ny208.out] at ho; have n0_ := Aside0.mk (hb); have n1_ := Aside0.mk (ho); clear HB; clear HO_3; have HB := n0_; have HO210 := n1_; clear n0_ n1_; clear ho hb hg hat; obtain ⟨Ao14, co14, eo14⟩ := Kd.R_slice HO210.out; subst eo14))
                  go_roundg k1
                  case measure => have := HK1.out; omega
                  case rel => exact ⟨(y208), (wrap64 ((y208.length : Int) - 1)), (wrap64 (x5_1 + 1)), (by first | rfl | (simp; done) | (simp [*]; done)), (by first | rfl | (simp; done) | (simp [*]; done)), H', ⟨by have := HK1.out; omega⟩, ⟨by (with_reducible repeat (first | apply Kd.R_alloc | apply Kd.R_drewN | apply Kd.R_drew)); exact HO210.out⟩, ⟨by repeat (first | (with_reducible first | exact HB.out | apply below_alloc | apply pw_below_drewN | apply below_drew1) | exact HB.out)⟩⟩
                · rw [if_neg c12] at H
                  exact absurd H (by simp)
              · rw [if_neg c11] at H
                exact absurd H (by simp)
            · rw [if_neg c10] at H
              exact absurd H (by simp)
          · replace c8 := Bool.eq_false_iff.mpr c8
            subst c8
            have H1 : (if (bt a0 x5_1) = 47 then (if 0 ≤ x4_1 then (if x4_1 < (x3_1.length : Int) then (impl_treeOf.l0 k1 a0 x3_1 ((rd_T54 x3_1 x4_1).f2) (wrap64 (x5_1 + 1))) else (none)) else (none)) else (impl_treeOf.l1 k1 a0 x3_1 x4_1 x5_1 x5_1)) = some r := by rw [if_neg (show ¬ (false = true) by decide)] at H; exact H
            clear H
            have H := H1
            clear H1
            by_cases c15 : (bt a0 x5_1) = 47
            · rw [if_pos c15] at H
              have c15b0 : ((bt a0 x5_1) == 47) = true := beq_iff_eq.mpr c15
              have c15b1 : ((bt a0 x5_1) != 47) = false := bne_eq_false_iff_eq.mpr c15
              clear c15
              by_cases c16 : 0 ≤ x4_1
              · rw [if_pos c16] at H
                have c16b0 : decide (0 ≤ x4_1) = true := decide_eq_true c16
                clear c16
                by_cases c17 : x4_1 < (x3_1.length : Int)
                · rw [if_pos c17] at H
                  have c17b0 : decide (x4_1 < (x3_1.length : Int)) = true := decide_eq_true c17
                  clear c17
                  have H' := Aside0.mk H
                  clear H
                  have p6 : 0 ≤ (x5_1 : Int) := of_decide_eq_true (by first | (with_reducible assumption) | assumption)
                  have q6 : x5_1 < (a0.size : Int) := of_decide_eq_true (by first | (with_reducible assumption) | assumption)
                  have hx6 := bt_at a0 x5_1
                  replace p6 := eq_true p6
                  replace q6 := eq_true q6
                  go_wp2_with (first | ((with_reducible refine gate_callee (f := 76) rfl ?_); refine goesL_ (some 41) rfl rfl Try.func76 (by kernel_rfl) rfl #[.int .u8 (bt a0 x5_1)] rfl (by (try simp only [List.map_toArray, List.map_cons, List.map_nil]); first | done | rfl | (simp only [List.length_drop, List.length_take]; rfl)) ?_; (with_reducible refine (impl_isName.calls (bt a0 x5_1) false _ A7.out).mono ?_); rintro e w' ⟨rfl, ⟨nd, rfl⟩⟩; refine ⟨_, rfl, ?_⟩; obtain ⟨Ao18, co18, eo18⟩ := Kd.R_slice HO_3.out; subst eo18; have p211 : 0 ≤ (x4_1 : Int) := of_decide_eq_true (by first | (with_reducible assumption) | assumption); have q211 : x4_1 < (x3_1.length : Int) := of_decide_eq_true (by first | (with_reducible assumption) | assumption); obtain ⟨ad211, e211, hx211_0, hx211_1, hx211_2⟩ := at_T54 (Kd.R_reads' HO_3.out).2.2 x4_1 p211 q211; cases e211; replace p211 := eq_true p211; replace q211 := eq_true q211))
                  go_roundg k1
                  case measure => have := HK1.out; omega
                  case rel => exact ⟨(x3_1), ((rd_T54 x3_1 x4_1).f2), (wrap64 (x5_1 + 1)), (by first | rfl | (simp; done) | (simp [*]; done)), (by first | rfl | (simp; done) | (simp [*]; done)), H', ⟨by have := HK1.out; omega⟩, ⟨by (with_reducible repeat (first | apply Kd.R_alloc | apply Kd.R_drewN | apply Kd.R_drew)); exact HO_3.out⟩, ⟨by repeat (first | (with_reducible first | exact HB.out | apply below_alloc | apply pw_below_drewN | apply below_drew1) | exact HB.out)⟩⟩
                · rw [if_neg c17] at H
                  exact absurd H (by simp)
              · rw [if_neg c16] at H
                exact absurd H (by simp)
            · rw [if_neg c15] at H
              have c15b0 : ((bt a0 x5_1) == 47) = false := beq_eq_false_iff_ne.mpr c15
              have c15b1 : ((bt a0 x5_1) != 47) = true := bne_iff_ne.mpr c15
              have H' := Aside0.mk H
              clear H
              have p6 : 0 ≤ (x5_1 : Int) := of_decide_eq_true (by first | (with_reducible assumption) | assumption)
              have q6 : x5_1 < (a0.size : Int) := of_decide_eq_true (by first | (with_reducible assumption) | assumption)
              have hx6 := bt_at a0 x5_1
              replace p6 := eq_true p6
              replace q6 := eq_true q6
              go_wp2_with (first | ((with_reducible refine gate_callee (f := 76) rfl ?_); refine goesL_ (some 41) rfl rfl Try.func76 (by kernel_rfl) rfl #[.int .u8 (bt a0 x5_1)] rfl (by (try simp only [List.map_toArray, List.map_cons, List.map_nil]); first | done | rfl | (simp only [List.length_drop, List.length_take]; rfl)) ?_; (with_reducible refine (impl_isName.calls (bt a0 x5_1) false _ A7.out).mono ?_); rintro e w' ⟨rfl, ⟨nd, rfl⟩⟩; refine ⟨_, rfl, ?_⟩))
              go_loopg [5] k1 (fun kq v5 w' => ∃ (x5_2 : Int), v5 = .int .i64 x5_2 ∧ Aside0 (impl_treeOf.l1 kq a0 x3_1 x4_1 x5_2 x5_1 = some r) ∧ Aside0 (kq ≤ k1) ∧ Aside0 (Kd.R k54 54 w' w.heap.size (fun _ => True) u3 x3_1) ∧ Aside0 (Below w.heap.size w w'))
              case atStart => exact ⟨(x5_1), (by first | rfl | (simp; done) | (simp [*]; done)), H', ⟨Nat.le_refl _⟩, ⟨by (with_reducible repeat (first | apply Kd.R_alloc | apply Kd.R_drewN | apply Kd.R_drew)); exact HO_3.out⟩, ⟨by repeat (first | (with_reducible first | exact HB.out | apply below_alloc | apply pw_below_drewN | apply below_drew1) | exact HB.out)⟩⟩
              case round =>
                clear H'
                try clear c1
                try clear p2
                try clear q2
                try clear hx2
                try clear c3
                try clear c4
                try clear c4b0
                try clear c5
                try clear c5b0
                try clear p6
                try clear q6
                try clear hx6
                try clear c7
                try clear c8
                try clear c9
                try clear c9b0
                try clear c10
                try clear c10b0
                try clear c10b1
                try clear c11
                try clear c11b0
                try clear c11b1
                try clear c12
                try clear c15
                try clear c15b0
                try clear c15b1
                try clear c16
                try clear c16b0
                try clear c17
                try clear c17b0
                try clear hx211_0
                try clear hx211_1
                try clear hx211_2
                try clear p2
                try clear p211
                try clear p6
                try clear q211
                try clear q6
                obtain ⟨x5_2, rfl, HA, HK2, HO_3, HB⟩ := hrel
                cases gk with
                | zero => exact absurd HA.out (by simp [impl_treeOf.l1])
                | succ k2 =>
                  have H := HA.out
                  clear HA
                  simp only [impl_treeOf.l1] at H
                  by_cases c19 : x5_2 < (a0.size : Int)
                  · rw [if_pos c19] at H
                    have c19b0 : decide (x5_2 < (a0.size : Int)) = true := decide_eq_true c19
                    clear c19
                    by_cases c20 : 0 ≤ x5_2
                    · rw [if_pos c20] at H
                      have c20b0 : decide (0 ≤ x5_2) = true := decide_eq_true c20
                      clear c20
                      replace H := Option.bind_eq_some_iff.mp H
                      obtain ⟨t212, A220, H⟩ := H
                      replace H : (if t212 = true then (impl_treeOf.l1 k2 a0 x3_1 x4_1 (wrap64 (x5_2 + 1)) x5_1) else (if 0 ≤ x5_1 then (if x5_1 ≤ x5_2 then (if x5_2 ≤ (a0.size : Int) then (if x3_1.length < 3518437208883 then (impl_treeOf.l0 k2 a0 (x3_1 ++ [(⟨(⟨#[]⟩ : ByteArray), a0.extract (x5_1 : Int).toNat (x5_2 : Int).toNat, x4_1⟩ : S54)]) x4_1 x5_2) else (none)) else (none)) else (none)) else (none))) = some r := H
                      have A22 := Aside0.mk A220
                      clear A220
                      by_cases c23 : t212 = true
                      · subst c23
                        have H1 : (impl_treeOf.l1 k2 a0 x3_1 x4_1 (wrap64 (x5_2 + 1)) x5_1) = some r := by rw [if_pos rfl] at H; exact H
                        clear H
                        have H := H1
                        clear H1
                        have H' := Aside0.mk H
                        clear H
                        have p21 : 0 ≤ (x5_2 : Int) := of_decide_eq_true (by first | (with_reducible assumption) | assumption)
                        have q21 : x5_2 < (a0.size : Int) := of_decide_eq_true (by first | (with_reducible assumption) | assumption)
                        have hx21 := bt_at a0 x5_2
                        replace p21 := eq_true p21
                        replace q21 := eq_true q21
                        go_wp2_with (first | (go_at_call 79; (with_reducible refine (impl_isPlain.calls (bt a0 x5_2) true _ A22.out).mono ?_); rintro e w' ⟨rfl, ⟨nd, rfl⟩⟩))
                        go_roundg k2
                        case measure => have := HK1.out; have := HK2.out; omega
                        case rel => exact ⟨(wrap64 (x5_2 + 1)), (by first | rfl | (simp; done) | (simp [*]; done)), H', ⟨by have := HK1.out; have := HK2.out; omega⟩, ⟨by (with_reducible repeat (first | apply Kd.R_alloc | apply Kd.R_drewN | apply Kd.R_drew)); exact HO_3.out⟩, ⟨by repeat (first | (with_reducible first | exact HB.out | apply below_alloc | apply pw_below_drewN | apply below_drew1) | exact HB.out)⟩⟩
                      · replace c23 := Bool.eq_false_iff.mpr c23
                        subst c23
                        have H1 : (if 0 ≤ x5_1 then (if x5_1 ≤ x5_2 then (if x5_2 ≤ (a0.size : Int) then (if x3_1.length < 3518437208883 then (impl_treeOf.l0 k2 a0 (x3_1 ++ [(⟨(⟨#[]⟩ : ByteArray), a0.extract (x5_1 : Int).toNat (x5_2 : Int).toNat, x4_1⟩ : S54)]) x4_1 x5_2) else (none)) else (none)) else (none)) else (none)) = some r := by rw [if_neg (show ¬ (false = true) by decide)] at H; exact H
                        clear H
                        have H := H1
                        clear H1
                        by_cases c24 : 0 ≤ x5_1
                        · rw [if_pos c24] at H
                          have c24b0 := eq_true c24
                          have c24b1 : decide (0 ≤ x5_1) = true := decide_eq_true c24
                          clear c24
                          by_cases c25 : x5_1 ≤ x5_2
                          · rw [if_pos c25] at H
                            have c25b0 := eq_true c25
                            have c25b1 : decide (x5_1 ≤ x5_2) = true := decide_eq_true c25
                            clear c25
                            by_cases c26 : x5_2 ≤ (a0.size : Int)
                            · rw [if_pos c26] at H
                              have c26b0 := eq_true c26
                              have c26b1 : decide (x5_2 ≤ (a0.size : Int)) = true := decide_eq_true c26
                              clear c26
                              by_cases c27 : x3_1.length < 3518437208883
                              · rw [if_pos c27] at H
                                have LMc27 := Aside0.mk c27
                                clear c27
                                obtain ⟨y213, hy213⟩ : ∃ y_ : List (S54), y_ = (x3_1 ++ [(⟨(⟨#[]⟩ : ByteArray), a0.extract (x5_1 : Int).toNat (x5_2 : Int).toNat, x4_1⟩ : S54)]) := ⟨_, rfl⟩
                                replace H : (impl_treeOf.l0 k2 a0 y213 x4_1 x5_2) = some r := by first | (rw [hy213]; with_reducible exact H) | (have H2_ := (Option.bind_some _ _).symm.trans H; rw [hy213]; with_reducible exact H2_) | (have H2_ := (Option.bind_some _ _).symm.trans H; with_reducible exact H2_) | with_reducible exact H | (rw [hy213]; exact H) | exact H
                                have Ny213 := Aside0.mk hy213
                                clear hy213
                                have H' := Aside0.mk H
                                clear H
                                have p21 : 0 ≤ (x5_2 : Int) := of_decide_eq_true (by first | (with_reducible assumption) | assumption)
                                have q21 : x5_2 < (a0.size : Int) := of_decide_eq_true (by first | (with_reducible assumption) | assumption)
                                have hx21 := bt_at a0 x5_2
                                replace p21 := eq_true p21
                                replace q21 := eq_true q21
                                go_wp2_with (first | (go_at_call 79; (with_reducible refine (impl_isPlain.calls (bt a0 x5_2) false _ A22.out).mono ?_); rintro e w' ⟨rfl, ⟨nd, rfl⟩⟩) | ((with_reducible refine gate_builtin (b := .append) (xs := #[.tmp 30, .tmp 37]) rfl ?_); at_builtin; refine Kd.R_append k54 (w0 := w) w.heap.size rfl (.tmp 30) (.tmp 37) 28 54 (.agg #[(.string ⟨#[]⟩), (.string ⟨#[]⟩), (.int .i64 0)]) 40 rfl Try.underlying28 info54 rfl (by decide) (by omega) u3 x3_1 (⟨(⟨#[]⟩ : ByteArray), a0.extract (x5_1 : Int).toNat (x5_2 : Int).toNat, x4_1⟩ : S54) [.string (⟨#[]⟩ : ByteArray), .string (a0.extract (x5_1 : Int).toNat (x5_2 : Int).toNat), .int .i64 x4_1] (fun _ => True) (fun _ => False) rfl rfl ?aP (fun _ hk => hk.elim) ?aF ?aO ?aB ?aS ?aL ?_; (case aP => exact k54_mkM _ _ _ (⟨(⟨#[]⟩ : ByteArray), a0.extract (x5_1 : Int).toNat (x5_2 : Int).toNat, x4_1⟩ : S54)); (case aB => exact (by repeat (first | (with_reducible first | exact HB.out | apply below_alloc | apply pw_below_drewN | apply below_drew1) | exact HB.out))); (case aF => exact (fun _ _ => trivial)); (case aO => exact (by (with_reducible repeat (first | apply Kd.R_alloc | apply Kd.R_drewN | apply Kd.R_drew)); exact HO_3.out)); (case aS => exact (below_size (by repeat (first | (with_reducible first | exact HB.out | apply below_alloc | apply pw_below_drewN | apply below_drew1) | exact HB.out)))); (case aL => have := LMc27.out; omega); intro v214 w28 ho hb hg hat; rw [← Ny213.out] at ho; have n0_ := Aside0.mk (hb); have n1_ := Aside0.mk (ho); clear HB; clear HO_3; have HB := n0_; have HO215 := n1_; clear n0_ n1_; clear ho hb hg hat))
                                go_roundg k2
                                case measure => have := HK1.out; have := HK2.out; omega
                                case rel => exact ⟨(y213), (x4_1), (x5_2), (by first | rfl | (simp; done) | (simp [*]; done)), (by first | rfl | (simp; done) | (simp [*]; done)), H', ⟨by have := HK1.out; have := HK2.out; omega⟩, ⟨by (with_reducible repeat (first | apply Kd.R_alloc | apply Kd.R_drewN | apply Kd.R_drew)); exact HO215.out⟩, ⟨by repeat (first | (with_reducible first | exact HB.out | apply below_alloc | apply pw_below_drewN | apply below_drew1) | exact HB.out)⟩⟩
                              · rw [if_neg c27] at H
                                exact absurd H (by simp)
                            · rw [if_neg c26] at H
                              exact absurd H (by simp)
                          · rw [if_neg c25] at H
                            exact absurd H (by simp)
                        · rw [if_neg c24] at H
                          exact absurd H (by simp)
                    · rw [if_neg c20] at H
                      exact absurd H (by simp)
                  · rw [if_neg c19] at H
                    have c19b0 : decide (x5_2 < (a0.size : Int)) = false := decide_eq_false c19
                    clear c19
                    by_cases c29 : 0 ≤ x5_1
                    · rw [if_pos c29] at H
                      have c29b0 := eq_true c29
                      have c29b1 : decide (0 ≤ x5_1) = true := decide_eq_true c29
                      clear c29
                      by_cases c30 : x5_1 ≤ x5_2
                      · rw [if_pos c30] at H
                        have c30b0 := eq_true c30
                        have c30b1 : decide (x5_1 ≤ x5_2) = true := decide_eq_true c30
                        clear c30
                        by_cases c31 : x5_2 ≤ (a0.size : Int)
                        · rw [if_pos c31] at H
                          have c31b0 := eq_true c31
                          have c31b1 : decide (x5_2 ≤ (a0.size : Int)) = true := decide_eq_true c31
                          clear c31
                          by_cases c32 : x3_1.length < 3518437208883
                          · rw [if_pos c32] at H
                            have LMc32 := Aside0.mk c32
                            clear c32
                            obtain ⟨y216, hy216⟩ : ∃ y_ : List (S54), y_ = (x3_1 ++ [(⟨(⟨#[]⟩ : ByteArray), a0.extract (x5_1 : Int).toNat (x5_2 : Int).toNat, x4_1⟩ : S54)]) := ⟨_, rfl⟩
                            replace H : (impl_treeOf.l0 k2 a0 y216 x4_1 x5_2) = some r := by first | (rw [hy216]; with_reducible exact H) | (have H2_ := (Option.bind_some _ _).symm.trans H; rw [hy216]; with_reducible exact H2_) | (have H2_ := (Option.bind_some _ _).symm.trans H; with_reducible exact H2_) | with_reducible exact H | (rw [hy216]; exact H) | exact H
                            have Ny216 := Aside0.mk hy216
                            clear hy216
                            have H' := Aside0.mk H
                            clear H
                            go_wp2_with (first | ((with_reducible refine gate_builtin (b := .append) (xs := #[.tmp 30, .tmp 37]) rfl ?_); at_builtin; refine Kd.R_append k54 (w0 := w) w.heap.size rfl (.tmp 30) (.tmp 37) 28 54 (.agg #[(.string ⟨#[]⟩), (.string ⟨#[]⟩), (.int .i64 0)]) 40 rfl Try.underlying28 info54 rfl (by decide) (by omega) u3 x3_1 (⟨(⟨#[]⟩ : ByteArray), a0.extract (x5_1 : Int).toNat (x5_2 : Int).toNat, x4_1⟩ : S54) [.string (⟨#[]⟩ : ByteArray), .string (a0.extract (x5_1 : Int).toNat (x5_2 : Int).toNat), .int .i64 x4_1] (fun _ => True) (fun _ => False) rfl rfl ?aP (fun _ hk => hk.elim) ?aF ?aO ?aB ?aS ?aL ?_; (case aP => exact k54_mkM _ _ _ (⟨(⟨#[]⟩ : ByteArray), a0.extract (x5_1 : Int).toNat (x5_2 : Int).toNat, x4_1⟩ : S54)); (case aB => exact (by repeat (first | (with_reducible first | exact HB.out | apply below_alloc | apply pw_below_drewN | apply below_drew1) | exact HB.out))); (case aF => exact (fun _ _ => trivial)); (case aO => exact (by (with_reducible repeat (first | apply Kd.R_alloc | apply Kd.R_drewN | apply Kd.R_drew)); exact HO_3.out)); (case aS => exact (below_size (by repeat (first | (with_reducible first | exact HB.out | apply below_alloc | apply pw_below_drewN | apply below_drew1) | exact HB.out)))); (case aL => have := LMc32.out; omega); intro v217 w33 ho hb hg hat; rw [← Ny216.out] at ho; have n0_ := Aside0.mk (hb); have n1_ := Aside0.mk (ho); clear HB; clear HO_3; have HB := n0_; have HO218 := n1_; clear n0_ n1_; clear ho hb hg hat))
                            go_roundg k2
                            case measure => have := HK1.out; have := HK2.out; omega
                            case rel => exact ⟨(y216), (x4_1), (x5_2), (by first | rfl | (simp; done) | (simp [*]; done)), (by first | rfl | (simp; done) | (simp [*]; done)), H', ⟨by have := HK1.out; have := HK2.out; omega⟩, ⟨by (with_reducible repeat (first | apply Kd.R_alloc | apply Kd.R_drewN | apply Kd.R_drew)); exact HO218.out⟩, ⟨by repeat (first | (with_reducible first | exact HB.out | apply below_alloc | apply pw_below_drewN | apply below_drew1) | exact HB.out)⟩⟩
                          · rw [if_neg c32] at H
                            exact absurd H (by simp)
                        · rw [if_neg c31] at H
                          exact absurd H (by simp)
                      · rw [if_neg c30] at H
                        exact absurd H (by simp)
                    · rw [if_neg c29] at H
                      exact absurd H (by simp)
        · rw [if_neg c5] at H
          exact absurd H (by simp)
      · rw [if_neg c4] at H
        have c4b0 : decide (x5_1 < (a0.size : Int)) = false := decide_eq_false c4
        clear c4
        obtain rfl := Option.some.inj H
        go_wp2
        go_ret
        exact ⟨_, by first | rfl | (simp [errW_none, errW_some] <;> rfl) | (simp [*, errW_none, errW_some] <;> rfl), by (with_reducible repeat (first | apply Kd.R_alloc | apply Kd.R_drewN | apply Kd.R_drew)); exact HO_3.out, by repeat (first | (with_reducible first | exact HB.out | apply below_alloc | apply pw_below_drewN | apply below_drew1) | exact HB.out)⟩

-- NOT PRINTED: function 98 (abi_NoEscape)

/-! ### strings_Builder_copyCheck: function 97 (by hand) -/
-- import Shelf
theorem builder_size : (Try.prog.info? 87).map (·.size) = some 2 := by kernel_rfl
theorem builder_lies : liesAt Try.prog Try.prog.depth 87 (2 / Try.prog.cellsOf 87) 0 87 1 = true := by kernel_rfl
theorem byte_info : (Try.prog.info? 5).map (fun i => (i.zero, i.size, i.bytes)) = some (some (.int .u8 0), 1, 1) := by kernel_rfl
set_option maxRecDepth 100000 in
theorem builder_used (b : Nat) (w : World) (h0 : w.cell? ⟨b, 0, none⟩ = some (.pointer (some ⟨b, 0, none⟩))) :
    Calls Try.prog 97 #[.pointer (some ⟨b, 0, none⟩)] w fun e w' => e = .returned (.tuple #[]) ∧ w = w' := by
  obtain ⟨j, hj, _⟩ := Option.map_eq_some_iff.1 builder_size
  go_enter Try.func97, Try.ntmps97
  go_wp2
  rw [Lib.run_neq_ptr_same w _ Try.underlying85 hj]
  go_wp2
  go_end0
  exact ⟨rfl, rfl⟩
set_option maxRecDepth 100000 in
theorem builder_fresh (b : Nat) (w : World) (h0 : w.cell? ⟨b, 0, none⟩ = some (.pointer none)) (hsh : w.shape? b = some (87, 2)) (hfz : w.frozen? ⟨b, 0, none⟩ = false) :
    Calls Try.prog 97 #[.pointer (some ⟨b, 0, none⟩)] w fun e w' => e = .returned (.tuple #[]) ∧ w.setCell ⟨b, 0, none⟩ (.pointer (some ⟨b, 0, none⟩)) = w' := by
  obtain ⟨j, hj, hjs⟩ := Option.map_eq_some_iff.1 builder_size
  go_enter Try.func97, Try.ntmps97
  go_wp2
  rw [Lib.run_to_unsafe w ⟨b, 0, none⟩ Try.underlying85 Try.underlying104 hj (by rw [hjs]; decide) hsh (Nat.zero_lt_succ 1)]
  simp only [Result.andThen]
  rw [Oper.upon_value]
  go_wp2
  rw [run_callFunc_extern Try.func98 (by kernel_rfl) (by kernel_rfl) (by kernel_rfl) (e := Extern.AbiNoEscape.same) (by kernel_rfl)]
  rw [Lib.run_noEscape]
  simp only [Result.andThen]
  rw [Oper.upon_value]
  go_wp2
  rw [Lib.run_from_unsafe w ⟨b, 0, none⟩ Try.underlying104 Try.underlying85 hj hsh builder_lies]
  simp only [Result.andThen]
  rw [Oper.upon_value]
  go_wp2
  go_end0
  exact ⟨rfl, rfl⟩
theorem builder_check (B b : Nat) (bs : List Value) (w : World) (h : Lib.IsBuilder 87 5 B b bs w) :
    Calls Try.prog 97 #[.pointer (some ⟨b, 0, none⟩)] w fun e w' => e = .returned (.tuple #[]) ∧ (Lib.BuilderAt 87 5 B b (.pointer (some ⟨b, 0, none⟩)) bs w' ∧ Below B w w') := by
  rcases h with h | h
  · refine (builder_fresh b w h.cell0 h.shape h.frozen0).mono ?_
    rintro e w' ⟨rfl, rfl⟩
    exact ⟨rfl, h.used _, (Below.refl B w).setCell (p := ⟨b, 0, none⟩) h.1 _⟩
  · refine (builder_used b w h.cell0).mono ?_
    rintro e w' ⟨rfl, rfl⟩
    exact ⟨rfl, h, Below.refl B _⟩

/-! ### strings_Builder_WriteByte: function 93 (by hand) -/
-- import Shelf
set_option maxHeartbeats 2000000 in
set_option maxRecDepth 100000 in
theorem builder_byte (B b : Nat) (bs : List Value) (c : Int) (w : World) (h : Lib.IsBuilder 87 5 B b bs w) (hlen : bs.length + 1 ≤ 140737488355328) (hBw : B ≤ w.heap.size) :
    Calls Try.prog 93 #[.pointer (some ⟨b, 0, none⟩), .int .u8 c] w fun e w' => e = .returned .nilIface ∧ (Lib.BuilderAt 87 5 B b (.pointer (some ⟨b, 0, none⟩)) (bs ++ [.int .u8 c]) w' ∧ Below B w w') := by
  obtain ⟨i0, hi, hz0, hz1, hz2⟩ := info_parts byte_info
  go_enter Try.func93, Try.ntmps93
  go_wp2_with (go_at_call 97; refine (builder_check B b bs _ h).mono ?_)
  rintro e w1 ⟨rfl, h1, hb1⟩
  obtain ⟨hB, v, hbk, hown, hne⟩ := h1
  have c0 : w1.cell? ⟨b, 0, none⟩ = some (.pointer (some ⟨b, 0, none⟩)) := by rw [Lib.cell_of_heap hbk]; rfl
  have c1 : w1.cell? ⟨b, 1, none⟩ = some v := by rw [Lib.cell_of_heap hbk]; rfl
  go_wp2_with (at_builtin; refine wpList_append_own _ rfl _ _ 49 rfl B 5 i0 (.int .u8 0) 1 1 Try.underlying49 hi hz0 hz1 hz2 rfl (by decide) _ _ _ rfl (hown.alloc _) ⟨w1.heap.size, 0, none⟩ 1 1 [.int .u8 c] rfl rfl ?c1 ?c2 ?c3 ?c4 ?c5 ?_)
  case c1 =>
    intro j u hj
    match j, hj with
    | 0, hj => simp at hj; subst hj; simp [Addr.add]
  case c2 => intro u hu; simp at hu; subst hu; rfl
  case c3 => unfold Go.maxLen; omega
  case c4 => omega
  case c5 => have := hb1.size; simp; omega
  intro v' w2 hown' hgrow _
  have hlt : b < w1.heap.size := by
    rcases Nat.lt_or_ge b w1.heap.size with h' | h'
    · exact h'
    · simp [Array.getElem?_eq_none h'] at hbk
  have hb2 : w2.heap[b]? = some (.cells #[.pointer (some ⟨b, 0, none⟩), v] 87 (0, 0)) := by
    rw [hgrow.block b (by simp; omega) (fun e => hne e.symm), Lib.alloc_old w1 _ b hlt]
    exact hbk
  have d0 : w2.cell? ⟨b, 0, none⟩ = some (.pointer (some ⟨b, 0, none⟩)) := by rw [Lib.cell_of_heap hb2]; rfl
  have d1 : w2.cell? ⟨b, 1, none⟩ = some v := by rw [Lib.cell_of_heap hb2]; rfl
  have f1 : w2.frozen? ⟨b, 1, none⟩ = false := Lib.frozen_of_heap hb2 1
  obtain ⟨g, cap, rfl⟩ : ∃ g cap, v' = .slice (some ⟨g, 0, none⟩) (bs.length + 1) cap := by
    rcases hown'.2 with ⟨_, h0⟩ | ⟨g, cap, cur, hv, _⟩
    · omega
    · exact ⟨g, cap, hv⟩
  go_wp2
  go_ret
  refine ⟨rfl, ?_, ?_⟩
  · exact Lib.BuilderAt.put (T := 87) (e := 5) hB hb2 (bs' := bs ++ [.int .u8 c]) (by simpa using hown') (by decide)
  · exact ((hb1.alloc (by have := hb1.size; omega) _).grown hgrow (by have := hb1.size; simp; omega) (fun k hk => (hown.lt k hk).1)).setCell (p := ⟨b, 1, none⟩) hB _

/-! ### strings_Builder_WriteString: function 94 (by hand) -/
-- import Shelf
set_option maxHeartbeats 2000000 in
set_option maxRecDepth 100000 in
theorem builder_str (B b : Nat) (bs : List Value) (s : ByteArray) (w : World) (h : Lib.IsBuilder 87 5 B b bs w) (hlen : bs.length + s.size ≤ 140737488355328) (hBw : B ≤ w.heap.size) :
    Calls Try.prog 94 #[.pointer (some ⟨b, 0, none⟩), .string s] w fun e w' => e = .returned (.tuple #[.int .i64 (s.size : Int), .nilIface]) ∧ (Lib.BuilderAt 87 5 B b (.pointer (some ⟨b, 0, none⟩)) (bs ++ Lib.strCells s) w' ∧ Below B w w') := by
  obtain ⟨i0, hi, hz0, hz1, hz2⟩ := info_parts byte_info
  go_enter Try.func94, Try.ntmps94
  go_wp2_with (go_at_call 97; refine (builder_check B b bs _ h).mono ?_)
  rintro e w1 ⟨rfl, h1, hb1⟩
  obtain ⟨hB, v, hbk, hown, hne⟩ := h1
  have c0 : w1.cell? ⟨b, 0, none⟩ = some (.pointer (some ⟨b, 0, none⟩)) := by rw [Lib.cell_of_heap hbk]; rfl
  have c1 : w1.cell? ⟨b, 1, none⟩ = some v := by rw [Lib.cell_of_heap hbk]; rfl
  go_wp2_with (at_builtin; refine Lib.wpList_append_own_string _ rfl _ _ 49 9 rfl B 5 i0 Try.underlying49 Try.underlying9 hi hz0 hz1 hz2 _ _ _ rfl hown s rfl ?c1 ?c2 ?c3 ?_)
  case c1 => simp only [Go.maxLen]; omega
  case c2 => omega
  case c3 => have := hb1.size; omega
  intro v' w2 hown' hgrow _
  have hlt : b < w1.heap.size := by
    rcases Nat.lt_or_ge b w1.heap.size with h' | h'
    · exact h'
    · simp [Array.getElem?_eq_none h'] at hbk
  have hb2 : w2.heap[b]? = some (.cells #[.pointer (some ⟨b, 0, none⟩), v] 87 (0, 0)) := by
    rw [hgrow.block b hlt (fun e => hne e.symm)]
    exact hbk
  have d0 : w2.cell? ⟨b, 0, none⟩ = some (.pointer (some ⟨b, 0, none⟩)) := by rw [Lib.cell_of_heap hb2]; rfl
  have d1 : w2.cell? ⟨b, 1, none⟩ = some v := by rw [Lib.cell_of_heap hb2]; rfl
  have f1 : w2.frozen? ⟨b, 1, none⟩ = false := Lib.frozen_of_heap hb2 1
  obtain ⟨A', c', rfl⟩ := own_slice hown'
  go_wp2
  go_ret2
  refine ⟨rfl, ?_, ?_⟩
  · exact Lib.BuilderAt.put (T := 87) (e := 5) hB hb2 (bs' := bs ++ Lib.strCells s) (by simpa [Lib.strCells] using hown') (by decide)
  · exact (hb1.grown hgrow (by have := hb1.size; omega) (fun k hk => (hown.lt k hk).1)).setCell (p := ⟨b, 1, none⟩) hB _

/-! ### impl_write: function 83 (by hand) -/
-- import Shelf
def wrKids (g : Int → Option (List UInt8)) (l : List S54) (k : Int) : Nat → Nat → Option (List UInt8)
  | 0, _ => some []
  | d + 1, i => if (rd_T54 l (i : Int)).f2 = k then (g (i : Int)).bind fun a => (wrKids g l k d (i + 1)).bind fun b => some (a ++ b) else wrKids g l k d (i + 1)
/-- What is written of a node, by so many rounds. -/
def wrF (l : List S54) (away : Int) : Nat → Int → Option (List UInt8)
  | 0, _ => none
  | f + 1, k => if k = away then some [] else if 0 ≤ k ∧ k < (l.length : Int) then
      (wrKids (wrF l away f) l k (l.length - (k.toNat + 1)) (k.toNat + 1)).bind fun r => some (((rd_T54 l k).f0 ++ (rd_T54 l k).f1).toList ++ (r ++ if (rd_T54 l k).f0.toList = [] then [] else [47])) else none
theorem wrKids_mono {g h : Int → Option (List UInt8)} (l : List S54) (k : Int) (hg : ∀ i, LeO (g i) (h i)) : ∀ d i, LeO (wrKids g l k d i) (wrKids h l k d i)
  | 0, _ => LeO.refl _
  | d + 1, i => by
    unfold wrKids
    exact LeO.ite (LeO.bind (hg _) (fun _ => LeO.bind (wrKids_mono l k hg d (i + 1)) (fun _ => LeO.refl _))) (wrKids_mono l k hg d (i + 1))
theorem wrF_mono (l : List S54) (away : Int) : ∀ f k, LeO (wrF l away f k) (wrF l away (f + 1) k)
  | 0, _ => LeO.none _
  | f + 1, k => by
    rw [wrF, wrF]
    exact LeO.ite (LeO.refl _) (LeO.ite (LeO.bind (wrKids_mono l k (wrF_mono l away f) _ _) (fun _ => LeO.refl _)) (LeO.none _))
def natOfV (v : Value) : Nat := match v with | .int _ n => n.toNat | _ => 0
theorem byteCells_app (a : List UInt8) (s : ByteArray) : Lib.byteCells a ++ Lib.strCells s = Lib.byteCells (a ++ s.toList) := by
  rw [ByteArray.toList_eq]; simp [Lib.byteCells, Lib.strCells]
theorem byteCells_slash (a : List UInt8) : Lib.byteCells a ++ [.int .u8 47] = Lib.byteCells (a ++ [47]) := by simp [Lib.byteCells]
theorem bc_len (l : List UInt8) : (Lib.byteCells l).length = l.length := by simp [Lib.byteCells]
set_option maxHeartbeats 8000000 in
set_option maxRecDepth 100000 in
theorem write_calls (l : List S54) (A0 : Option Addr) (c0 : Nat) (w0 : World) (hr0 : Kd.C k54 w0 A0 l.length l) (hll : l.length ≤ 1000000) (away : Int) (b : Nat) : ∀ (f : Nat) (k : Int) (r bs : List UInt8) (w : World), wrF l away f k = some r → Lib.IsBuilder 87 5 w0.heap.size b (Lib.byteCells bs) w → Below w0.heap.size w0 w → bs.length + r.length ≤ 140737488355328 →
    Calls Try.prog 83 #[.pointer (some ⟨b, 0, none⟩), .slice A0 l.length c0, .int .i64 k, .int .i64 away] w fun e w' => e = .returned (.tuple #[]) ∧ Lib.IsBuilder 87 5 w0.heap.size b (Lib.byteCells (bs ++ r)) w' ∧ Below w0.heap.size w0 w'
  | 0, k, r, bs, w, h, _, _, _ => by cases h
  | f + 1, k, r, bs, w, h, hB, hbw, hlen => by
    have hu54 := Try.underlying54
    have ih := write_calls l A0 c0 w0 hr0 hll away b f
    have HLL := Aside0.mk hll
    rw [wrF] at h
    by_cases hk : k = away
    · rw [if_pos hk] at h
      obtain rfl := Option.some.inj h
      have ck : decide (k = away) = true := decide_eq_true hk
      have ck2 : (k == away) = true := beq_iff_eq.mpr hk
      have HB := Aside0.mk hB
      have HW := Aside0.mk hbw
      clear h hB hbw hlen ih hr0 hll
      go_enter Try.func83, Try.ntmps83
      go_wp2_with fail
      ((try simp only [Exit.inBlock, Exit.then]); refine bodyPost_ret (results_none rfl _ _ _) rfl ?_)
      exact ⟨rfl, by rw [List.append_nil]; exact HB.out, HW.out⟩
    · rw [if_neg hk] at h
      by_cases hin : 0 ≤ k ∧ k < (l.length : Int)
      · rw [if_pos hin] at h
        obtain ⟨rr, hkids, h⟩ := Option.bind_eq_some_iff.mp h
        obtain rfl := Option.some.inj h
        generalize htl : (if (rd_T54 l k).f0.toList = [] then [] else [47] : List UInt8) = tl at hlen ⊢
        have HTL := Aside0.mk htl
        clear htl
        obtain ⟨kn, rfl⟩ := Int.eq_ofNat_of_zero_le hin.1
        simp only [Int.toNat_natCast] at hkids
        have ck : decide ((kn : Int) = away) = false := decide_eq_false hk
        have ck2 : ((kn : Int) == away) = false := beq_eq_false_iff_ne.mpr hk
        have HB := Aside0.mk hB
        have HW := Aside0.mk hbw
        have HR := Aside0.mk hr0
        have HK := Aside0.mk hkids
        have HL := Aside0.mk hlen
        have IH := Aside0.mk ih
        have HIN := Aside0.mk hin
        have p0 : (0 : Int) ≤ (kn : Int) := hin.1
        have q0 : (kn : Int) < (l.length : Int) := hin.2
        obtain ⟨ad, e3, hx0, hx1, hx2⟩ := at_T54 HR.out (kn : Int) p0 q0
        cases e3
        have HX0 := (HW.out.cell (World.block_lt_of_cell? w0 _ hx0)).trans hx0
        have HX1 := (HW.out.cell (World.block_lt_of_cell? w0 _ hx1)).trans hx1
        simp only [Int.toNat_natCast] at HX0 HX1
        have H00 := Aside0.mk hx0
        clear h hB hbw hlen ih hr0 hll hkids hin hx0 hx1 hx2
        have hcat : (rd_T54 l (kn : Int)).f0.size + (rd_T54 l (kn : Int)).f1.size ≤ 9223372036854775807 := by
          have := HL.out
          rw [List.length_append, List.length_append, ByteArray.toList_eq, data_length, ByteArray.size_append] at this; omega
        have hcat2 : (9223372036854775807 < (rd_T54 l (kn : Int)).f0.size + (rd_T54 l (kn : Int)).f1.size) = False := eq_false (Nat.not_lt.2 hcat)
        go_enter Try.func83, Try.ntmps83
        go_wp2_with fail
        -- REGION1
        refine start_ (n := 13) (S := fun w' => w'.cell? (ad.add (kn * 3)) = some (.string (rd_T54 l (kn : Int)).f0) ∧ w'.cell? ⟨(ad.add (kn * 3)).block, (ad.add (kn * 3)).off + 1, none⟩ = some (.string (rd_T54 l (kn : Int)).f1)) (ds := [12]) #[false, false, false, false, false, false, false, false, false, false, false, false, false] (by kernel_rfl) rfl rfl ⟨HX0, HX1⟩ (fun hHeld => ?_)
        have HBA := Aside0.mk (show Lib.IsBuilder 87 5 w0.heap.size b (Lib.byteCells bs) w.drew from HB.out)
        have HWA := Aside0.mk (show Below w0.heap.size w0 w.drew from below_drew1 HW.out)
        clear HB HW HX0 HX1
        generalize hq3 : w.drew = w3 at HBA HWA hHeld ⊢
        clear hq3
        refine pure_ (i := 0) (N := (some 12)) (v := ?_) (a' := ?_) #[true, false, false, false, false, false, false, false, false, false, false, false, false] rfl rfl (by kernel_rfl) (fun _ _ _ h => h) (Or.inl ⟨by rfl, ?_⟩) ?_ ?_
        rotate_left
        · intro w'
          go_simp
          with_reducible rfl
        rotate_left
        · simp only [Act.put, List.setIfInBounds_toArray, List.set_cons_zero, List.set_cons_succ, i64_w, i32_w]
          rfl
        refine pure_ (i := 1) (N := (some 13)) (v := ?_) (a' := ?_) #[true, true, false, false, false, false, false, false, false, false, false, false, false] rfl rfl (by kernel_rfl) (fun _ _ _ h => h) (Or.inl ⟨by rfl, ?_⟩) ?_ ?_
        rotate_left
        · intro w'
          go_simp
          with_reducible rfl
        rotate_left
        · simp only [Act.put, List.setIfInBounds_toArray, List.set_cons_zero, List.set_cons_succ, i64_w, i32_w]
          rfl
        refine pure_ (i := 2) (N := (some 14)) (v := ?_) (a' := ?_) #[true, true, true, false, false, false, false, false, false, false, false, false, false] rfl rfl (by kernel_rfl) (fun _ _ _ h => h) (Or.inl ⟨by rfl, ?_⟩) ?_ ?_
        rotate_left
        · intro w'
          go_simp
          with_reducible rfl
        rotate_left
        · simp only [Act.put, List.setIfInBounds_toArray, List.set_cons_zero, List.set_cons_succ, i64_w, i32_w]
          rfl
        refine pure_ (i := 3) (N := (some 15)) (v := ?_) (a' := ?_) #[true, true, true, true, false, false, false, false, false, false, false, false, false] rfl rfl (by kernel_rfl) (fun _ _ _ h => h) (Or.inl ⟨by rfl, ?_⟩) ?_ ?_
        rotate_left
        · intro w'
          go_simp
          with_reducible rfl
        rotate_left
        · simp only [Act.put, List.setIfInBounds_toArray, List.set_cons_zero, List.set_cons_succ, i64_w, i32_w]
          rfl
        refine pure_ (i := 4) (N := (some 16)) (v := ?_) (a' := ?_) #[true, true, true, true, true, false, false, false, false, false, false, false, false] rfl rfl (by kernel_rfl) (fun _ _ _ h => h) (Or.inl ⟨by rfl, ?_⟩) ?_ ?_
        rotate_left
        · intro w'
          go_simp
          with_reducible rfl
        rotate_left
        · simp only [Act.put, List.setIfInBounds_toArray, List.set_cons_zero, List.set_cons_succ, i64_w, i32_w]
          rfl
        refine take_ (i := 5) (N := (some 17)) (v := ?_) (a' := ?_) #[true, true, true, true, true, true, false, false, false, false, false, false, false] rfl rfl (by kernel_rfl) (fun _ _ _ h => h) (Or.inl ⟨by rfl, ?_⟩) hHeld ?_ ?_
        rotate_left
        · rintro w' ⟨s0, s1⟩
          go_simp
          with_reducible rfl
        rotate_left
        · simp only [Act.put, List.setIfInBounds_toArray, List.set_cons_zero, List.set_cons_succ, i64_w, i32_w]
          rfl
        refine pure_ (i := 6) (N := (some 18)) (v := ?_) (a' := ?_) #[true, true, true, true, true, true, true, false, false, false, false, false, false] rfl rfl (by kernel_rfl) (fun _ _ _ h => h) (Or.inl ⟨by rfl, ?_⟩) ?_ ?_
        rotate_left
        · intro w'
          go_simp
          with_reducible rfl
        rotate_left
        · simp only [Act.put, List.setIfInBounds_toArray, List.set_cons_zero, List.set_cons_succ, i64_w, i32_w]
          rfl
        refine pure_ (i := 7) (N := (some 19)) (v := ?_) (a' := ?_) #[true, true, true, true, true, true, true, true, false, false, false, false, false] rfl rfl (by kernel_rfl) (fun _ _ _ h => h) (Or.inl ⟨by rfl, ?_⟩) ?_ ?_
        rotate_left
        · intro w'
          go_simp
          with_reducible rfl
        rotate_left
        · simp only [Act.put, List.setIfInBounds_toArray, List.set_cons_zero, List.set_cons_succ, i64_w, i32_w]
          rfl
        refine pure_ (i := 8) (N := (some 20)) (v := ?_) (a' := ?_) #[true, true, true, true, true, true, true, true, true, false, false, false, false] rfl rfl (by kernel_rfl) (fun _ _ _ h => h) (Or.inl ⟨by rfl, ?_⟩) ?_ ?_
        rotate_left
        · intro w'
          go_simp
          with_reducible rfl
        rotate_left
        · simp only [Act.put, List.setIfInBounds_toArray, List.set_cons_zero, List.set_cons_succ, i64_w, i32_w]
          rfl
        refine pure_ (i := 9) (N := (some 21)) (v := ?_) (a' := ?_) #[true, true, true, true, true, true, true, true, true, true, false, false, false] rfl rfl (by kernel_rfl) (fun _ _ _ h => h) (Or.inl ⟨by rfl, ?_⟩) ?_ ?_
        rotate_left
        · intro w'
          go_simp
          with_reducible rfl
        rotate_left
        · simp only [Act.put, List.setIfInBounds_toArray, List.set_cons_zero, List.set_cons_succ, i64_w, i32_w]
          rfl
        refine take_ (i := 10) (N := (some 22)) (v := ?_) (a' := ?_) #[true, true, true, true, true, true, true, true, true, true, true, false, false] rfl rfl (by kernel_rfl) (fun _ _ _ h => h) (Or.inl ⟨by rfl, ?_⟩) hHeld ?_ ?_
        rotate_left
        · rintro w' ⟨s0, s1⟩
          go_simp
          with_reducible rfl
        rotate_left
        · simp only [Act.put, List.setIfInBounds_toArray, List.set_cons_zero, List.set_cons_succ, i64_w, i32_w]
          rfl
        refine pure_ (i := 11) (N := (some 23)) (v := ?_) (a' := ?_) #[true, true, true, true, true, true, true, true, true, true, true, true, false] rfl rfl (by kernel_rfl) (fun _ _ _ h => h) (Or.inl ⟨by rfl, ?_⟩) ?_ ?_
        rotate_left
        · intro w'
          go_simp
          with_reducible rfl
        rotate_left
        · simp only [Act.put, List.setIfInBounds_toArray, List.set_cons_zero, List.set_cons_succ, i64_w, i32_w]
          rfl
        refine last_ (i := 12) (N := some 24) #[true, true, true, true, true, true, true, true, true, true, true, true, true] rfl rfl (by kernel_rfl) (by decide) (fun K hK => ?_)
        refine goes_ Try.func94 (by kernel_rfl) rfl #[.pointer (some ⟨b, 0, none⟩), .string ((rd_T54 l (kn : Int)).f0 ++ (rd_T54 l (kn : Int)).f1)] (by rfl) rfl rfl (by (try simp only [List.map_toArray, List.map_cons, List.map_nil]); first | done | rfl) ?_
        refine (builder_str w0.heap.size b (Lib.byteCells bs) ((rd_T54 l (kn : Int)).f0 ++ (rd_T54 l (kn : Int)).f1) _ HBA.out ?s1 ?s2).mono ?_
        case s1 => have := HL.out; rw [bc_len, ByteArray.size_append]; rw [List.length_append, List.length_append, ByteArray.toList_eq, data_length, ByteArray.size_append] at this; omega
        case s2 => exact HWA.out.size
        rintro e w4 ⟨rfl, h1, hb1⟩
        rw [byteCells_app] at h1
        have HB1 := Aside0.mk h1
        have HW1 := Aside0.mk (HWA.out.trans hb1)
        clear h1 hb1 HBA HWA
        refine ⟨_, rfl, ?_⟩
        refine hK.out _ _ ?_
        clear hK K
        refine done_ (by kernel_rfl) ?_
        -- END1
        simp only [Act.put, List.setIfInBounds_toArray, List.set_cons_zero, List.set_cons_succ, i64_w, i32_w]
        generalize (Value.tuple #[Value.int IntKind.i64 ((((rd_T54 l (kn : Int)).f0 ++ (rd_T54 l (kn : Int)).f1).size : Nat) : Int), Value.nilIface]) = tv24
        go_wp2_with fail
        go_loopw [8] (fun v8 wr => ∃ i : Nat, v8 = .int .i64 (i : Int) ∧ Aside0 (kn + 1 ≤ i ∧ i ≤ l.length) ∧ ∃ acc rest : List UInt8, Aside0 (wrKids (wrF l away f) l (kn : Int) (l.length - i) i = some rest) ∧ Aside0 (acc ++ rest = rr) ∧ Aside0 (Lib.IsBuilder 87 5 w0.heap.size b (Lib.byteCells (bs ++ ((rd_T54 l (kn : Int)).f0 ++ (rd_T54 l (kn : Int)).f1).toList ++ acc)) wr) ∧ Aside0 (Below w0.heap.size w0 wr)) (fun i _ => l.length - natOfV i)
        case atStart =>
          have hk1 := HIN.out.2
          have hk0 := HLL.out
          refine ⟨kn + 1, ?_, ⟨by omega⟩, [], rr, HK, ⟨rfl⟩, ⟨by rw [List.append_nil]; exact .inr HB1.out⟩, HW1⟩
          first | rfl | (simp; done) | (congr 1; unfold wrap64; omega)
        case round =>
          obtain ⟨i, rfl, Hi, acc, rest, HKd, HAc, HBr, HWr⟩ := hrel
          clear HB1 HW1 HK
          have HKN := Aside0.mk q0
          by_cases hlt : i < l.length
          · have d0 : decide ((i : Int) < (l.length : Int)) = true := decide_eq_true (by omega)
            have d1 : decide (i < l.length) = true := decide_eq_true hlt
            have p5 : (0 : Int) ≤ (i : Int) := by omega
            have q5 : (i : Int) < (l.length : Int) := by omega
            obtain ⟨ad2, e2, hy0, hy1, hy2⟩ := at_T54 HR.out (i : Int) p5 q5
            cases e2
            have HY2 := (HWr.out.cell (World.block_lt_of_cell? w0 _ hy2)).trans hy2
            simp only [Int.toNat_natCast] at HY2
            clear hy0 hy1 hy2
            have hkd := HKd.out
            rw [show l.length - i = (l.length - (i + 1)) + 1 by omega, wrKids] at hkd
            have HLT := Aside0.mk hlt
            by_cases hup : (rd_T54 l (i : Int)).f2 = (kn : Int)
            · rw [if_pos hup] at hkd
              obtain ⟨ra, hra, hkd⟩ := Option.bind_eq_some_iff.mp hkd
              obtain ⟨rb, hrb, hkd⟩ := Option.bind_eq_some_iff.mp hkd
              obtain rfl := Option.some.inj hkd
              have u0 : decide ((rd_T54 l (i : Int)).f2 = (kn : Int)) = true := decide_eq_true hup
              have u1 : ((rd_T54 l (i : Int)).f2 == (kn : Int)) = true := beq_iff_eq.mpr hup
              have HRA := Aside0.mk hra
              have HRB := Aside0.mk hrb
              clear hra hrb hkd hup hlt
              have hcall := IH.out (i : Int) ra (bs ++ ((rd_T54 l (kn : Int)).f0 ++ (rd_T54 l (kn : Int)).f1).toList ++ acc) _ HRA.out HBr.out HWr.out (by have h9 := HL.out; rw [← HAc.out] at h9; simp only [List.length_append] at h9 ⊢; omega)
              go_wp2_with fail
              refine hcall.mono ?_
              rintro e w5 ⟨rfl, h1, hb1⟩
              have HB5 := Aside0.mk h1
              have HW5 := Aside0.mk hb1
              clear h1 hb1 hcall
              go_wp2_with fail
              have hl' := HLT.out
              have hi' := Hi.out
              have hll := HLL.out
              go_roundw
              case rel =>
                refine ⟨i + 1, ?_, ⟨by omega⟩, acc ++ ra, rb, HRB, ⟨by rw [List.append_assoc]; exact HAc.out⟩, ⟨by rw [← List.append_assoc]; exact HB5.out⟩, HW5⟩
                first | rfl | (simp; done) | (congr 1; unfold wrap64; omega)
              case measure =>
                show l.length - (wrap64 ((i : Int) + 1)).toNat < l.length - ((i : Int)).toNat
                unfold wrap64; omega
            · rw [if_neg hup] at hkd
              have u0 : decide ((rd_T54 l (i : Int)).f2 = (kn : Int)) = false := decide_eq_false hup
              have u1 : ((rd_T54 l (i : Int)).f2 == (kn : Int)) = false := beq_eq_false_iff_ne.mpr hup
              have HRB := Aside0.mk hkd
              clear hkd hup hlt
              go_wp2_with fail
              have hl' := HLT.out
              have hi' := Hi.out
              have hll := HLL.out
              go_roundw
              case rel =>
                refine ⟨i + 1, ?_, ⟨by omega⟩, acc, rest, HRB, HAc, HBr, HWr⟩
                first | rfl | (simp; done) | (congr 1; unfold wrap64; omega)
              case measure =>
                show l.length - (wrap64 ((i : Int) + 1)).toNat < l.length - ((i : Int)).toNat
                unfold wrap64; omega
          · have d0 : decide ((i : Int) < (l.length : Int)) = false := decide_eq_false (by omega)
            have d1 : decide (i < l.length) = false := decide_eq_false hlt
            have hkd := HKd.out
            rw [show l.length - i = 0 by omega, wrKids] at hkd
            obtain rfl := Option.some.inj hkd
            have hac := HAc.out
            rw [List.append_nil] at hac
            subst hac
            have HZ0 := (HWr.out.cell (World.block_lt_of_cell? w0 _ H00.out)).trans H00.out
            simp only [Int.toNat_natCast] at HZ0
            clear hkd hlt
            by_cases hn : (rd_T54 l (kn : Int)).f0.toList = ([] : List UInt8)
            · have n0 : ((rd_T54 l (kn : Int)).f0.toList == ([] : List UInt8)) = true := beq_iff_eq.mpr hn
              have n1 : ((rd_T54 l (kn : Int)).f0.toList != ([] : List UInt8)) = false := bne_eq_false_iff_eq.mpr hn
              have n2 : (rd_T54 l (kn : Int)).f0.toList.isEmpty = true := List.isEmpty_iff.mpr hn
              have HN := Aside0.mk hn
              clear hn
              go_wp2_with fail
              go_end0
              refine ⟨rfl, ?_, HWr.out⟩
              have e9 := HTL.out; rw [if_pos HN.out] at e9; subst e9
              rw [List.append_nil, ← List.append_assoc]; exact HBr.out
            · have n0 : ((rd_T54 l (kn : Int)).f0.toList == ([] : List UInt8)) = false := beq_eq_false_iff_ne.mpr hn
              have n1 : ((rd_T54 l (kn : Int)).f0.toList != ([] : List UInt8)) = true := bne_iff_ne.mpr hn
              have n2 : (rd_T54 l (kn : Int)).f0.toList.isEmpty = false := List.isEmpty_eq_false_iff.mpr hn
              have HN := Aside0.mk hn
              clear hn
              go_wp2_with (first | (go_at_call 93; refine (builder_byte w0.heap.size b (Lib.byteCells (bs ++ ((rd_T54 l (kn : Int)).f0 ++ (rd_T54 l (kn : Int)).f1).toList ++ acc)) 47 _ HBr.out ?t1 ?t2).mono ?_; (case t1 => have h9 := HL.out; have e9 := HTL.out; rw [if_neg HN.out] at e9; subst e9; rw [bc_len]; simp only [List.length_append, List.length_singleton] at h9 ⊢; omega); (case t2 => exact HWr.out.size); rintro e w5 ⟨rfl, h1, hb1⟩; rw [byteCells_slash] at h1; have HB5 := Aside0.mk h1; have HW5 := Aside0.mk (HWr.out.trans hb1); clear h1 hb1))
              go_end0
              refine ⟨rfl, ?_, HW5.out⟩
              have e9 := HTL.out; rw [if_neg HN.out] at e9; subst e9
              rw [← List.append_assoc, ← List.append_assoc]; exact .inr HB5.out
      · rw [if_neg hin] at h; cases h
-- calls 93 97

-- NOT PRINTED: function 84 (strings_Builder_String)

/-! ### impl_flat: function 64 (by hand) -/
-- import Shelf
def impl_flat.f (k : Nat) (l0 : List S54) (a1 a2 : Int) : Option ByteArray := if l0.length ≤ 1000000 then (wrF l0 a2 k a1).bind fun r => if r.length ≤ 140737488355328 then some ⟨r.toArray⟩ else none else none
theorem impl_flat.mono : ∀ a0 a1 a2 k, LeO (impl_flat.f k a0 a1 a2) (impl_flat.f (k + 1) a0 a1 a2) := by
  intro l a1 a2 k
  unfold impl_flat.f
  exact LeO.ite (LeO.bind (wrF_mono l a2 k a1) (fun _ => LeO.refl _)) (LeO.none _)
set_option maxHeartbeats 4000000 in
set_option maxRecDepth 100000 in
theorem impl_flat.calls (k : Nat) (A0 : Option Addr) (c0 : Nat) (l0 : List S54) (a1 a2 : Int) (r : ByteArray) (w : World) (hr0 : Kd.C k54 w A0 l0.length l0) (hc0 : l0.length ≤ c0) (h : impl_flat.f k l0 a1 a2 = some r) :
    Calls Try.prog 64 #[.slice A0 l0.length c0, .int .i64 a1, .int .i64 a2] w fun e w' => e = .returned (.string r) ∧ Below w.heap.size w w' := by
  unfold impl_flat.f at h
  by_cases hl : l0.length ≤ 1000000
  · rw [if_pos hl] at h
    obtain ⟨t, ht, h⟩ := Option.bind_eq_some_iff.mp h
    by_cases hz : t.length ≤ 140737488355328
    · rw [if_pos hz] at h
      obtain rfl := Option.some.inj h
      have HC := Aside0.mk (fun (w1 : World) (hb : Lib.IsBuilder 87 5 w.heap.size w.heap.size (Lib.byteCells []) w1) (hw : Below w.heap.size w w1) => write_calls l0 A0 c0 w hr0 hl a2 w.heap.size k a1 t [] w1 ht hb hw (by simpa using hz))
      clear h hl ht hz hr0 hc0
      go_enter Try.func64, Try.ntmps64
      go_wp2_with (first | (go_at_call 83; refine (HC.out _ ?b0 ?b1).mono ?_; (case b0 => exact .inl ⟨Nat.le_refl _, .slice none 0 0, heap_alloc_new w _, own_nil _ _ _ _, by simp [Value.ownBlock]⟩); (case b1 => repeat (first | exact Below.refl _ _ | apply below_alloc)); rintro e w1 ⟨rfl, h1, hb1⟩; have HB1 := Aside0.mk h1; have HW1 := Aside0.mk hb1; clear h1 hb1) | (go_at_call 84; refine (Try.Builder_String_any w.heap.size w.heap.size ([] ++ t) _ HB1.out HW1.out.size).mono ?_; rintro e w2 ⟨rfl, hb2⟩; have HB2 := Aside0.mk hb2; clear hb2))
      go_ret
      exact ⟨rfl, HW1.out.trans HB2.out⟩
    · rw [if_neg hz] at h; cases h
  · rw [if_neg hl] at h; cases h

end Go.Proofs.Ytkdablilbbbihaa.PFnExactCutNode
