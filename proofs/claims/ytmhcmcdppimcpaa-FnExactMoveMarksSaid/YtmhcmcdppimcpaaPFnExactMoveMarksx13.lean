/- (thin) Written by a program of this session (wip/ovl.py) over the kit's print: plain functions with the answers of the Go functions, and the proofs that they are; no condition. -/
import Derived.Test.YtmhcmcdppimcpaaPFnExactMoveMarksx0
import Derived.Test.YtmhcmcdppimcpaaPFnExactMoveMarksx11
import Derived.Test.YtmhcmcdppimcpaaPFnExactMoveMarksx12
namespace Go.Proofs.Ytmhcmcdppimcpaa.PFnExactMoveMarks
open Go.RowKit Go.Proofs.YtmhcmcdppimcpaaW.PrintWords Go.Proofs.YtmhcmcdppimcpaaW.PrintLast Go.Proofs.YtmhcmcdppimcpaaW.PrintMore
attribute [local go_sem] max2_int min2_int max_two min_two max_three min_three max_four min_four   -- for this text's walks alone
set_option linter.unusedVariables false
set_option linter.unusedSimpArgs false
def impl_joined.l0 : Nat → List (S67) → List (S67) → Int → Int → Option ((List (S67)))
 | 0, _, _, _, _ => none
 | k + 1, x3, x11, x12, x13 => if x13 < x12 then (if 0 ≤ x13 then (if x13 < (x11.length : Int) then (if (wrap64 ((x3.length : Int) - 1)) ≥ 0 then (if 0 ≤ (wrap64 ((x3.length : Int) - 1)) then (if (wrap64 ((x3.length : Int) - 1)) < (x3.length : Int) then (if ((rd_T67 x3 (wrap64 ((x3.length : Int) - 1))).f2).toList = ((rd_T67 x11 x13).f2).toList then (if ((rd_T67 x3 (wrap64 ((x3.length : Int) - 1))).f1) ≥ ((rd_T67 x11 x13).f0) then (impl_joined.l0 k (x3.set ((wrap64 ((x3.length : Int) - 1)) : Int).toNat (⟨(rd_T67 x3 (wrap64 ((x3.length : Int) - 1))).f0, mx ((rd_T67 x3 (wrap64 ((x3.length : Int) - 1))).f1) ((rd_T67 x11 x13).f1), (rd_T67 x3 (wrap64 ((x3.length : Int) - 1))).f2⟩ : S67)) x11 x12 (wrap64 (x13 + 1))) else (if x3.length < 4398046511104 then (impl_joined.l0 k (x3 ++ [(⟨(rd_T67 x11 x13).f0, (rd_T67 x11 x13).f1, (rd_T67 x11 x13).f2⟩ : S67)]) x11 x12 (wrap64 (x13 + 1))) else (none))) else (if x3.length < 4398046511104 then (impl_joined.l0 k (x3 ++ [(⟨(rd_T67 x11 x13).f0, (rd_T67 x11 x13).f1, (rd_T67 x11 x13).f2⟩ : S67)]) x11 x12 (wrap64 (x13 + 1))) else (none))) else (none)) else (none)) else (if x3.length < 4398046511104 then (impl_joined.l0 k (x3 ++ [(⟨(rd_T67 x11 x13).f0, (rd_T67 x11 x13).f1, (rd_T67 x11 x13).f2⟩ : S67)]) x11 x12 (wrap64 (x13 + 1))) else (none))) else (none)) else (none)) else (some x3)
def impl_joined.f (k : Nat) (l0 : List (S67)) : Option ((List (S67))) := (impl_Mark_66.f l0).bind fun t274 => ((impl_Mark_73.f t274).bind fun t277 => (impl_joined.l0 k ([] : List (S67)) t277 (t274.length : Int) 0))
theorem impl_joined.mono_l : ∀ k, (∀ y0 y1 y2 y3, LeO (impl_joined.l0 k y0 y1 y2 y3) (impl_joined.l0 (k + 1) y0 y1 y2 y3))
 | 0 => fun _ _ _ _ r h => by simp [impl_joined.l0] at h
 | k + 1 => by
  have ih0 := impl_joined.mono_l k
  ·intro y0 y1 y2 y3
   unfold impl_joined.l0
   repeat' (with_reducible first | exact ih0 _ _ _ _ | exact LeO.refl _ | exact LeO.none _ | refine LeO.ite ?_ ?_ | refine LeO.bind ?_ (fun _ => ?_))
theorem impl_joined.mono : ∀ a0 k, LeO (impl_joined.f k a0) (impl_joined.f (k + 1) a0) := by
 intro a0 k
 have ih0 := impl_joined.mono_l k
 unfold impl_joined.f
 repeat' (with_reducible first | exact ih0 _ _ _ _ | exact LeO.refl _ | exact LeO.none _ | refine LeO.ite ?_ ?_ | refine LeO.bind ?_ (fun _ => ?_))
def impl_joined.T8 : Bool × List (List Nat × List Nat) := (true, [([], []), ([0], [0]), ([1], [1]), ([2], [2]), ([2], [2]), ([3, 4, 2], [2, 3, 4]), ([5, 2], [2, 5]), ([6, 2], [2, 6]), ([2], [2]), ([8, 2], [2, 8]), ([7, 9, 2], [2, 7, 9]), ([2, 10], [2, 10]), ([11, 2], [11]), ([12], [12]), ([12], [12]), ([13, 14, 12], [12, 13, 14]), ([15, 12], [12, 15]), ([16, 12], [12, 16]), ([12], [12]), ([18, 12], [12, 18]), ([17, 19, 12], [12, 17, 19]), ([12, 20], [12, 20])])
def impl_joined.B8 : List Nat := [0, 1, 3, 7, 7, 31, 63, 127, 7, 263, 1023, 2047, 4095, 8191, 8191, 32767, 65535, 131071, 8191, 270335, 1048575, 2097151]
theorem impl_joined.tab8 : rtab .any (opsOf Try.f60 8) = impl_joined.T8 := by kernel_rfl
theorem impl_joined.bits8 : waitsOk impl_joined.T8.2 impl_joined.B8 = true := by kernel_rfl
def impl_joined.T9 : Bool × List (List Nat × List Nat) := (true, [([], []), ([], []), ([], []), ([], []), ([2, 3], [2, 3]), ([4], [4]), ([5], [5]), ([], []), ([7], [7]), ([6, 8], [6, 8]), ([0, 1, 0, 1, 2, 3, 4, 5, 6, 7, 8, 9], [0, 1]), ([10, 0, 1, 2, 3, 4, 5, 6, 7, 8, 9], [10]), ([11, 9, 0, 1, 2, 3, 4, 5, 6, 7, 8, 9], [9, 11])])
def impl_joined.B9 : List Nat := [0, 0, 0, 0, 12, 28, 60, 0, 128, 508, 1023, 2047, 4095]
theorem impl_joined.tab9 : rtab .any (opsOf Try.f60 9) = impl_joined.T9 := by kernel_rfl
theorem impl_joined.bits9 : waitsOk impl_joined.T9.2 impl_joined.B9 = true := by kernel_rfl
set_option maxHeartbeats 8000000 in
set_option maxRecDepth 100000 in
theorem impl_joined.calls (k : Nat) (A0 : Option Addr) (c0 : Nat) (l0 : List (S67)) (r : List (S67)) (w : World) (hr0 : Kd.C k67 w A0 l0.length l0) (hc0 : l0.length ≤ c0) (h : impl_joined.f k l0 = some r) :
  Calls Try.prog 60 #[.slice A0 l0.length c0] w fun e w' => ∃ v0_ : Value, e = .returned (v0_) ∧ Kd.R k67 67 w' w.heap.size (fun _ => True) v0_ r ∧ Below w.heap.size w w' := by
 have hu67 := Try.underlying67
 have HR0 := aM hr0
 have HC0 := aM hc0
 clear hr0 hc0
 have HB := aM (Below.refl w.heap.size w)
 have H : ((impl_Mark_66.f l0).bind fun t274 => ((impl_Mark_73.f t274).bind fun t277 => (impl_joined.l0 k ([] : List (S67)) t277 (t274.length : Int) 0))) = some r := h
 clear h
 replace H := Option.bind_eq_some_iff.mp H
 obtain ⟨t274, A20, H⟩ := H
 replace H : ((impl_Mark_73.f t274).bind fun t277 => (impl_joined.l0 k ([] : List (S67)) t277 (t274.length : Int) 0)) = some r := H
 have A2 := aM A20
 clear A20
 replace H := Option.bind_eq_some_iff.mp H
 obtain ⟨t277, A30, H⟩ := H
 replace H : (impl_joined.l0 k ([] : List (S67)) t277 (t274.length : Int) 0) = some r := H
 have A3 := aM A30
 clear A30
 have H' := aM H
 clear H
 go_enter Try.func60, Try.ntmps60
 go_wp2_with (first | ((with_reducible refine gate_callee (f := 66) rfl ?_); refine goesL_ (some 8) rfl rfl Try.func66 (by kernel_rfl) rfl #[.slice A0 l0.length c0] rfl mM ?_; (with_reducible refine (impl_Mark_66.calls _ _ l0 t274 _ ?side1 ?side2 A2.out).mono ?_); (case side1 => exact cC HR0.out); (case side2 => exact HC0.out); rintro e w4 ⟨v275, rfl, ho0, hb⟩; refine ⟨_, rfl, ?_⟩; have HO276 := aM (Kd.R_lower ho0 (below_size bB)); replace HB := aM (below_step bB hb); (try clear hb); (try clear hb2); (try clear hk); (try clear hi); (try clear ho0); obtain ⟨Ao5, co5, eo5⟩ := Kd.R_slice HO276.out; subst eo5) | ((with_reducible refine gate_callee (f := 73) rfl ?_); refine goesL_ (some 10) rfl rfl Try.func73 (by kernel_rfl) rfl #[.slice Ao5 t274.length co5, .func (.func 74) #[] #[]] rfl mM ?_; (with_reducible refine (impl_Mark_73.calls (fun k_ => some k_ = (.slice Ao5 t274.length co5 : Value).ownBlock) (.slice Ao5 t274.length co5) t274 t277 w _ ?side1 ?side2 A3.out).mono ?_); (case side1 => exact bB); (case side2 => exact Kd.R_tight rfl HO276.out); rintro e w6 ⟨rfl, hy0, hb, hkp⟩; refine ⟨_, rfl, ?_⟩; replace HO276 := aM (Kd.R_reok rfl hy0 (fun k_ e_ => HO276.out.1 k_ e_)); replace HB := aM (hb); (try clear hb); (try clear hkp); (try clear hy0)))
 go_loopg [3, 13] k (fun kq v3 v13 w' => ∃ (x3_1 : List (S67)) (x11_1 : List (S67)) (x13_1 : Int), v13 = .int .i64 x13_1 ∧ Aside0 (impl_joined.l0 kq x3_1 x11_1 (t274.length : Int) x13_1 = some r) ∧ Aside0 (kq ≤ k) ∧ Aside0 (Kd.R k67 67 w' w.heap.size (fun k_ => some k_ ≠ ((.slice Ao5 t274.length co5) : Value).ownBlock) v3 x3_1) ∧ Aside0 (Kd.R k67 67 w' w.heap.size (fun k_ => some k_ ≠ (v3 : Value).ownBlock) (.slice Ao5 t274.length co5) x11_1) ∧ Aside0 (Below w.heap.size w w'))
 case atStart => exact ⟨(([] : List (S67))), (t277), (0), aP32, H', ⟨Nat.le_refl _⟩, ⟨by first | exact Kd.R_nil _ _ _ _ _ | exact Kd.N_nil _ _ _ _ _ | exact Kd.V_nil _ _ _ _ _ | exact Kd.Q_nil _ _ _ _ _ | exact Kd.S_nil _ _ _ _ _⟩, ⟨by (with_reducible repeat (first | apply Kd.R_alloc | apply Kd.R_drewN | apply Kd.R_drew)); exact Kd.R_mono HO276.out (fun _ hk => (by simp [Value.ownBlock]))⟩, ⟨bB⟩⟩
 case round =>
  clear H'
  try clear p2
  try clear c6
  obtain ⟨x3_1, x11_1, x13_1, rfl, HA, HK1, HO_3, HO_11, HB⟩ := hrel
  have hl11_1 := (Kd.R_reads' HO_11.out).1
  rw [hl11_1] at HO_11
  (try simp only [hl11_1])
  (try simp only [hl11_1] at HO_3)
  cases gk with
  | zero => exact absurd HA.out (by simp [impl_joined.l0])
  | succ k1 =>
   have H := HA.out
   clear HA
   simp only [impl_joined.l0] at H
   by_cases c7 : x13_1 < (t274.length : Int)
   rotate_left
   ·rw [if_neg c7] at H
    have c7b0 : decide (x13_1 < (t274.length : Int)) = false := decide_eq_false c7
    (try simp only [hl11_1] at c7b0)
    clear c7
    obtain rfl := Option.some.inj H
    go_wp2
    go_ret
    exact ⟨_, by first | rfl | (simp [errW_none, errW_some] <;> rfl) | (simp [*, errW_none, errW_some] <;> rfl), by (with_reducible repeat (first | apply Kd.R_alloc | apply Kd.R_drewN | apply Kd.R_drew)); exact Kd.R_mono HO_3.out (fun _ hk => trivial), bB⟩
   rw [if_pos c7] at H
   have c7b0 : decide (x13_1 < (t274.length : Int)) = true := decide_eq_true c7
   clear c7
   by_cases c8 : 0 ≤ x13_1
   rotate_left
   ·rw [if_neg c8] at H
    exact absurd H (by simp)
   rw [if_pos c8] at H
   have c8b0 : decide (0 ≤ x13_1) = true := decide_eq_true c8
   clear c8
   by_cases c9 : x13_1 < (x11_1.length : Int)
   rotate_left
   ·rw [if_neg c9] at H
    exact absurd H (by simp)
   rw [if_pos c9] at H
   have c9b0 : decide (x13_1 < (x11_1.length : Int)) = true := decide_eq_true c9
   clear c9
   by_cases c10 : (wrap64 ((x3_1.length : Int) - 1)) ≥ 0
   rotate_left
   ·rw [if_neg c10] at H
    have c10b0 : decide (0 ≤ (wrap64 ((x3_1.length : Int) - 1))) = false := decide_eq_false c10
    clear c10
    by_cases c41 : x3_1.length < 4398046511104
    rotate_left
    ·rw [if_neg c41] at H
     exact absurd H (by simp)
    rw [if_pos c41] at H
    have LMc41 := aM c41
    clear c41
    obtain ⟨y290, hy290⟩ : ∃ y_ : List (S67), y_ = (x3_1 ++ [(⟨(rd_T67 x11_1 x13_1).f0, (rd_T67 x11_1 x13_1).f1, (rd_T67 x11_1 x13_1).f2⟩ : S67)]) := ⟨_, rfl⟩
    replace H : (impl_joined.l0 k1 y290 x11_1 (t274.length : Int) (wrap64 (x13_1 + 1))) = some r := by first | (rw [hy290]; with_reducible exact H) | (have H2_ := (Option.bind_some _ _).symm.trans H; rw [hy290]; with_reducible exact H2_) | (have H2_ := (Option.bind_some _ _).symm.trans H; with_reducible exact H2_) | with_reducible exact H | (rw [hy290]; exact H) | exact H
    have Ny290 := aM hy290
    clear hy290
    have H' := aM H
    clear H
    have p278 : 0 ≤ (x13_1 : Int) := of_decide_eq_true (by assumption)
    have q278 : x13_1 < (x11_1.length : Int) := of_decide_eq_true (by assumption)
    obtain ⟨ad278, e278, hx278_0, hx278_1, hx278_2⟩ := at_T67 (Kd.R_reads' HO_11.out).2.2 x13_1 p278 q278
    cases e278
    replace p278 := eq_true p278
    replace q278 := eq_true q278
    try go_wp2_with (first | ((with_reducible refine gate_dst (N := 5) rfl ?_); refine box_event ?hg (N := 5) ?hd (cs := #[.int .i64 0, .int .i64 0, .string (⟨#[]⟩ : ByteArray)]) (t := 67) ?hr ?_; (case hd => rfl); (case hg => rfl); (case hr => exact aP40); intro gb279 hg w42 hbox hb; have BK279 := aM (hbox); have GW279 := aM (bG (w := w) hg); have GE279 := aM (bG (w := w) hg); replace HO_3 := aM (Kd.R_below (Kd.R_elderB (rR HO_3.out) gb279 (Nat.le_of_eq hg.symm)) hb); replace HO_11 := aM (Kd.R_below (Kd.R_elderB (rR HO_11.out) gb279 (Nat.le_of_eq hg.symm)) hb); replace HB := aM (below_step bB hb); clear hb hbox hg; obtain ⟨hcz43_0, hcz43_1, hcz43_2, hfz43_0, hfz43_1, hfz43_2⟩ := bx3 BK279.out; obtain ⟨Ao44, co44, eo44⟩ := Kd.R_slice HO_3.out; subst eo44))
    have n0_ : Aside0 (Kd.R k67 67 (((w42.setCell ⟨gb279, 0, none⟩ (.int .i64 ((rd_T67 x11_1 x13_1).f0))).setCell ⟨gb279, 1, none⟩ (.int .i64 ((rd_T67 x11_1 x13_1).f1))).setCell ⟨gb279, 2, none⟩ (.string ((rd_T67 x11_1 x13_1).f2))) w.heap.size (fun k_ => some k_ ≠ (.slice (some ad278) x11_1.length co5 : Value).ownBlock ∧ k_ ≠ gb279) (.slice Ao44 x3_1.length co44) x3_1) := ⟨by (with_reducible repeat (first | apply Kd.R_alloc | apply Kd.R_drewN | apply Kd.R_drew)); exact Kd.R_mono (Kd.R_far (p := ⟨gb279, 2, none⟩) (Kd.R_far (p := ⟨gb279, 1, none⟩) (Kd.R_far (p := ⟨gb279, 0, none⟩) (Kd.R_mono HO_3.out (fun k_ hk => (⟨hk, hk.2⟩ : _ ∧ k_ ≠ gb279))) (fun _ hk => hk.2) (.int .i64 ((rd_T67 x11_1 x13_1).f0))) (fun _ hk => hk.2) (.int .i64 ((rd_T67 x11_1 x13_1).f1))) (fun _ hk => hk.2) (.string ((rd_T67 x11_1 x13_1).f2))) (fun _ hk => ⟨hk.1.1, hk.1.2⟩)⟩
    have n1_ : Aside0 (Kd.R k67 67 (((w42.setCell ⟨gb279, 0, none⟩ (.int .i64 ((rd_T67 x11_1 x13_1).f0))).setCell ⟨gb279, 1, none⟩ (.int .i64 ((rd_T67 x11_1 x13_1).f1))).setCell ⟨gb279, 2, none⟩ (.string ((rd_T67 x11_1 x13_1).f2))) w.heap.size (fun k_ => some k_ ≠ (.slice Ao44 x3_1.length co44 : Value).ownBlock ∧ k_ ≠ gb279) (.slice (some ad278) x11_1.length co5) x11_1) := ⟨by (with_reducible repeat (first | apply Kd.R_alloc | apply Kd.R_drewN | apply Kd.R_drew)); exact Kd.R_mono (Kd.R_far (p := ⟨gb279, 2, none⟩) (Kd.R_far (p := ⟨gb279, 1, none⟩) (Kd.R_far (p := ⟨gb279, 0, none⟩) (Kd.R_mono HO_11.out (fun k_ hk => (⟨hk, hk.2⟩ : _ ∧ k_ ≠ gb279))) (fun _ hk => hk.2) (.int .i64 ((rd_T67 x11_1 x13_1).f0))) (fun _ hk => hk.2) (.int .i64 ((rd_T67 x11_1 x13_1).f1))) (fun _ hk => hk.2) (.string ((rd_T67 x11_1 x13_1).f2))) (fun _ hk => ⟨hk.1.1, hk.1.2⟩)⟩
    have n2_ : Aside0 ((((w42.setCell ⟨gb279, 0, none⟩ (.int .i64 ((rd_T67 x11_1 x13_1).f0))).setCell ⟨gb279, 1, none⟩ (.int .i64 ((rd_T67 x11_1 x13_1).f1))).setCell ⟨gb279, 2, none⟩ (.string ((rd_T67 x11_1 x13_1).f2))).heap[gb279]? = some (.cells #[.int .i64 ((rd_T67 x11_1 x13_1).f0), .int .i64 ((rd_T67 x11_1 x13_1).f1), .string ((rd_T67 x11_1 x13_1).f2)] 67 (0, 0))) := ⟨by (with_reducible repeat (first | refine blk_drewN ?_ _ | refine blk_drew ?_ | refine blk_alloc ?_ _)); refine blk_put (cs := #[.int .i64 ((rd_T67 x11_1 x13_1).f0), .int .i64 ((rd_T67 x11_1 x13_1).f1), .string (⟨#[]⟩ : ByteArray)]) ?_ 2 _ rfl; (with_reducible repeat (first | refine blk_drewN ?_ _ | refine blk_drew ?_ | refine blk_alloc ?_ _)); refine blk_put (cs := #[.int .i64 ((rd_T67 x11_1 x13_1).f0), .int .i64 0, .string (⟨#[]⟩ : ByteArray)]) ?_ 1 _ rfl; (with_reducible repeat (first | refine blk_drewN ?_ _ | refine blk_drew ?_ | refine blk_alloc ?_ _)); refine blk_put (cs := #[.int .i64 0, .int .i64 0, .string (⟨#[]⟩ : ByteArray)]) ?_ 0 _ rfl; (with_reducible repeat (first | refine blk_drewN ?_ _ | refine blk_drew ?_ | refine blk_alloc ?_ _)); exact BK279.out⟩
    have n3_ : Aside0 (Below w.heap.size w (((w42.setCell ⟨gb279, 0, none⟩ (.int .i64 ((rd_T67 x11_1 x13_1).f0))).setCell ⟨gb279, 1, none⟩ (.int .i64 ((rd_T67 x11_1 x13_1).f1))).setCell ⟨gb279, 2, none⟩ (.string ((rd_T67 x11_1 x13_1).f2)))) := ⟨aP7⟩
    (try clear HO_3)
    (try clear HO_11)
    (try clear BK279)
    (try clear HB)
    generalize (((w42.setCell ⟨gb279, 0, none⟩ (.int .i64 ((rd_T67 x11_1 x13_1).f0))).setCell ⟨gb279, 1, none⟩ (.int .i64 ((rd_T67 x11_1 x13_1).f1))).setCell ⟨gb279, 2, none⟩ (.string ((rd_T67 x11_1 x13_1).f2))) = w45 at n0_ n1_ n2_ n3_ ⊢
    have HO_3 := n0_
    have HO_11 := n1_
    have BK279 := n2_
    have HB := n3_
    clear n0_ n1_ n2_ n3_
    replace HO_3 := aM (Kd.R_drew HO_3.out)
    replace HO_11 := aM (Kd.R_drew HO_11.out)
    replace BK279 := aM (blk_drew BK279.out)
    replace HB := aM (below_drew1 HB.out)
    refine start_ (n := 22) (S := fun w' => True) (ds := []) (Array.replicate 22 false) (by kernel_rfl) rfl rfl trivial (fun hHeld => ?_); refine with_tabW impl_joined.tab8 impl_joined.bits8 (fun HT_ HW_ => ?_)
    generalize w45.drew = w46 at HO_3 HO_11 BK279 HB hHeld ⊢
    refine pV 0 20 (bN 22 1) ?_
    refine pV 1 21 (bN 22 3) ?_
    refine pV 2 22 (bN 22 7) ?_
    refine pU 3 23 (bN 22 15) ?_
    refine pU 4 24 (bN 22 31) ?_
    refine pU 5 25 (bN 22 63) ?_
    refine pU 6 26 (bN 22 127) ?_
    refine pU 7 27 (bN 22 255) ?_
    refine pU 8 28 (bN 22 511) ?_
    refine pU 9 29 (bN 22 1023) ?_
    refine pU 10 30 (bN 22 2047) ?_
    refine pV 11 31 (bN 22 4095) ?_
    refine pV 12 32 (bN 22 8191) ?_
    refine pU 13 33 (bN 22 16383) ?_
    refine pU 14 34 (bN 22 32767) ?_
    refine pU 15 35 (bN 22 65535) ?_
    refine pU 16 36 (bN 22 131071) ?_
    refine pU 17 37 (bN 22 262143) ?_
    refine pU 18 38 (bN 22 524287) ?_
    refine pU 19 39 (bN 22 1048575) ?_
    refine pU 20 40 (bN 22 2097151) ?_
    refine pV 21 41 (bN 22 4194303) ?_
    refine done_ (done_of HT_.out (by kernel_rfl)) ?_
    have hcz47_0 : w46.cell? ⟨gb279, 0, none⟩ = some (.int .i64 ((rd_T67 x11_1 x13_1).f0)) := (blk_cell BK279.out 0).trans rfl
    have hcz47_1 : w46.cell? ⟨gb279, 1, none⟩ = some (.int .i64 ((rd_T67 x11_1 x13_1).f1)) := (blk_cell BK279.out 1).trans rfl
    have hcz47_2 : w46.cell? ⟨gb279, 2, none⟩ = some (.string ((rd_T67 x11_1 x13_1).f2)) := (blk_cell BK279.out 2).trans rfl
    have hfz47_0 := blk_frozen BK279.out 0
    have hfz47_1 := blk_frozen BK279.out 1
    have hfz47_2 := blk_frozen BK279.out 2
    try go_wp2_with (first | ((with_reducible refine gate_builtin (b := .append) (xs := #[.tmp 54, .tmp 56]) rfl ?_); at_builtin; refine Kd.R_append k67 (w0 := w) w.heap.size rfl (.tmp 54) (.tmp 56) 25 67 (.agg #[(.int .i64 0), (.int .i64 0), (.string ⟨#[]⟩)]) 32 rfl Try.underlying25 info67 rfl (by decide) (by omega) (.slice Ao44 x3_1.length co44) x3_1 (⟨(rd_T67 x11_1 x13_1).f0, (rd_T67 x11_1 x13_1).f1, (rd_T67 x11_1 x13_1).f2⟩ : S67) [.int .i64 ((rd_T67 x11_1 x13_1).f0), .int .i64 ((rd_T67 x11_1 x13_1).f1), .string ((rd_T67 x11_1 x13_1).f2)] (fun k_ => some k_ ≠ (.slice (some ad278) x11_1.length co5 : Value).ownBlock ∧ k_ ≠ gb279) (fun _ => False) rfl rfl ?aP (fun _ hk => hk.elim) ?aF ?aO ?aB ?aS ?aL ?_; (case aP => exact k67_mkM _ _ _ (⟨(rd_T67 x11_1 x13_1).f0, (rd_T67 x11_1 x13_1).f1, (rd_T67 x11_1 x13_1).f2⟩ : S67)); (case aB => exact aP7); (case aF => exact (fun k_ hk => ⟨Kd.fresh' (Kd.R_lt (rR HO_11.out)) k_ hk, Kd.freshB (g := gb279) (o := .cells #[.int .i64 ((rd_T67 x11_1 x13_1).f0), .int .i64 ((rd_T67 x11_1 x13_1).f1), .string ((rd_T67 x11_1 x13_1).f2)] 67 (0, 0)) (kK BK279.out) k_ hk⟩)); (case aO => exact (rR HO_3.out)); (case aS => exact (below_size aP7)); (case aL => have := LMc41.out; omega); intro v291 w48 ho hb hg hat; rw [← Ny290.out] at ho; have n0_ := aM (Kd.R_after (ok := (fun k_ => k_ ≠ gb279)) (by (with_reducible repeat (first | apply Kd.R_alloc | apply Kd.R_drewN | apply Kd.R_drew)); exact Kd.R_mono HO_11.out (fun _ hk => ⟨hk.2, hk.1⟩)) hg hat); have n1_ := aM (blk_grown (g := gb279) (o := .cells #[.int .i64 ((rd_T67 x11_1 x13_1).f0), .int .i64 ((rd_T67 x11_1 x13_1).f1), .string ((rd_T67 x11_1 x13_1).f2)] 67 (0, 0)) (kK BK279.out) hg (Kd.R_away HO_3.out (fun _ hk => hk.2))); have n2_ := aM (hb); have n3_ := aM (ho); clear HO_11; clear BK279; clear HB; clear HO_3; have HO_11 := n0_; have BK279 := n1_; have HB := n2_; have HO292 := n3_; clear n0_ n1_ n2_ n3_; clear ho hb hg hat))
    (try simp only [← hl11_1])
    go_roundg k1
    case measure => have := HK1.out; omega
    case rel => exact ⟨(y290), (x11_1), (wrap64 (x13_1 + 1)), aP32, H', ⟨by have := HK1.out; omega⟩, ⟨by (try simp only [hl11_1]); (with_reducible repeat (first | apply Kd.R_alloc | apply Kd.R_drewN | apply Kd.R_drew)); exact Kd.R_mono HO292.out (fun _ hk => hk.1)⟩, ⟨by (try simp only [hl11_1]); (with_reducible repeat (first | apply Kd.R_alloc | apply Kd.R_drewN | apply Kd.R_drew)); exact Kd.R_mono HO_11.out (fun _ hk => hk.2)⟩, ⟨aP7⟩⟩
   rw [if_pos c10] at H
   have c10b0 : decide (0 ≤ (wrap64 ((x3_1.length : Int) - 1))) = true := decide_eq_true c10
   clear c10
   obtain ⟨ji11, hji11⟩ : ∃ j_ : Int, (wrap64 ((x3_1.length : Int) - 1)) = j_ := ⟨_, rfl⟩
   replace H : (if 0 ≤ (ji11) then (if (ji11) < (x3_1.length : Int) then (if ((rd_T67 x3_1 (ji11)).f2).toList = ((rd_T67 x11_1 x13_1).f2).toList then (if ((rd_T67 x3_1 (ji11)).f1) ≥ ((rd_T67 x11_1 x13_1).f0) then (impl_joined.l0 k1 (x3_1.set ((ji11) : Int).toNat (⟨(rd_T67 x3_1 (ji11)).f0, mx ((rd_T67 x3_1 (ji11)).f1) ((rd_T67 x11_1 x13_1).f1), (rd_T67 x3_1 (ji11)).f2⟩ : S67)) x11_1 (t274.length : Int) (wrap64 (x13_1 + 1))) else (if x3_1.length < 4398046511104 then (impl_joined.l0 k1 (x3_1 ++ [(⟨(rd_T67 x11_1 x13_1).f0, (rd_T67 x11_1 x13_1).f1, (rd_T67 x11_1 x13_1).f2⟩ : S67)]) x11_1 (t274.length : Int) (wrap64 (x13_1 + 1))) else (none))) else (if x3_1.length < 4398046511104 then (impl_joined.l0 k1 (x3_1 ++ [(⟨(rd_T67 x11_1 x13_1).f0, (rd_T67 x11_1 x13_1).f1, (rd_T67 x11_1 x13_1).f2⟩ : S67)]) x11_1 (t274.length : Int) (wrap64 (x13_1 + 1))) else (none))) else (none)) else (none)) = some r := by first | (rw [hji11] at H; exact H) | (simp only [hji11] at H ⊢; exact H)
   (try rw [hji11] at c10b0)
   have hji11w : (IntKind.i64.wrap ((x3_1.length : Int) - 1)) = ji11 := (i64_w _).trans hji11
   by_cases c12 : 0 ≤ (ji11)
   rotate_left
   ·rw [if_neg c12] at H
    exact absurd H (by simp)
   rw [if_pos c12] at H
   have c12b0 : decide (0 ≤ (ji11)) = true := decide_eq_true c12
   clear c12
   by_cases c13 : (ji11) < (x3_1.length : Int)
   rotate_left
   ·rw [if_neg c13] at H
    exact absurd H (by simp)
   rw [if_pos c13] at H
   have c13b0 : decide ((ji11) < (x3_1.length : Int)) = true := decide_eq_true c13
   clear c13
   by_cases c14 : ((rd_T67 x3_1 (ji11)).f2).toList = ((rd_T67 x11_1 x13_1).f2).toList
   rotate_left
   ·rw [if_neg c14] at H
    have c14b0 : (((rd_T67 x3_1 (ji11)).f2).toList == ((rd_T67 x11_1 x13_1).f2).toList) = false := beq_eq_false_iff_ne.mpr c14
    have c14b1 : (((rd_T67 x3_1 (ji11)).f2).toList != ((rd_T67 x11_1 x13_1).f2).toList) = true := bne_iff_ne.mpr c14
    by_cases c33 : x3_1.length < 4398046511104
    rotate_left
    ·rw [if_neg c33] at H
     exact absurd H (by simp)
    rw [if_pos c33] at H
    have LMc33 := aM c33
    clear c33
    obtain ⟨y287, hy287⟩ : ∃ y_ : List (S67), y_ = (x3_1 ++ [(⟨(rd_T67 x11_1 x13_1).f0, (rd_T67 x11_1 x13_1).f1, (rd_T67 x11_1 x13_1).f2⟩ : S67)]) := ⟨_, rfl⟩
    replace H : (impl_joined.l0 k1 y287 x11_1 (t274.length : Int) (wrap64 (x13_1 + 1))) = some r := by first | (rw [hy287]; with_reducible exact H) | (have H2_ := (Option.bind_some _ _).symm.trans H; rw [hy287]; with_reducible exact H2_) | (have H2_ := (Option.bind_some _ _).symm.trans H; with_reducible exact H2_) | with_reducible exact H | (rw [hy287]; exact H) | exact H
    have Ny287 := aM hy287
    clear hy287
    have H' := aM H
    clear H
    have p278 : 0 ≤ (x13_1 : Int) := of_decide_eq_true (by assumption)
    have q278 : x13_1 < (x11_1.length : Int) := of_decide_eq_true (by assumption)
    obtain ⟨ad278, e278, hx278_0, hx278_1, hx278_2⟩ := at_T67 (Kd.R_reads' HO_11.out).2.2 x13_1 p278 q278
    cases e278
    replace p278 := eq_true p278
    replace q278 := eq_true q278
    try go_wp2_with (first | ((with_reducible refine gate_dst (N := 5) rfl ?_); refine box_event ?hg (N := 5) ?hd (cs := #[.int .i64 0, .int .i64 0, .string (⟨#[]⟩ : ByteArray)]) (t := 67) ?hr ?_; (case hd => rfl); (case hg => rfl); (case hr => exact aP40); intro gb279 hg w34 hbox hb; have BK279 := aM (hbox); have GW279 := aM (bG (w := w) hg); have GE279 := aM (bG (w := w) hg); replace HO_3 := aM (Kd.R_below (Kd.R_elderB (rR HO_3.out) gb279 (Nat.le_of_eq hg.symm)) hb); replace HO_11 := aM (Kd.R_below (Kd.R_elderB (rR HO_11.out) gb279 (Nat.le_of_eq hg.symm)) hb); replace HB := aM (below_step bB hb); clear hb hbox hg; obtain ⟨hcz35_0, hcz35_1, hcz35_2, hfz35_0, hfz35_1, hfz35_2⟩ := bx3 BK279.out; obtain ⟨Ao36, co36, eo36⟩ := Kd.R_slice HO_3.out; subst eo36))
    have n0_ : Aside0 (Kd.R k67 67 (((w34.setCell ⟨gb279, 0, none⟩ (.int .i64 ((rd_T67 x11_1 x13_1).f0))).setCell ⟨gb279, 1, none⟩ (.int .i64 ((rd_T67 x11_1 x13_1).f1))).setCell ⟨gb279, 2, none⟩ (.string ((rd_T67 x11_1 x13_1).f2))) w.heap.size (fun k_ => some k_ ≠ (.slice (some ad278) x11_1.length co5 : Value).ownBlock ∧ k_ ≠ gb279) (.slice Ao36 x3_1.length co36) x3_1) := ⟨by (with_reducible repeat (first | apply Kd.R_alloc | apply Kd.R_drewN | apply Kd.R_drew)); exact Kd.R_mono (Kd.R_far (p := ⟨gb279, 2, none⟩) (Kd.R_far (p := ⟨gb279, 1, none⟩) (Kd.R_far (p := ⟨gb279, 0, none⟩) (Kd.R_mono HO_3.out (fun k_ hk => (⟨hk, hk.2⟩ : _ ∧ k_ ≠ gb279))) (fun _ hk => hk.2) (.int .i64 ((rd_T67 x11_1 x13_1).f0))) (fun _ hk => hk.2) (.int .i64 ((rd_T67 x11_1 x13_1).f1))) (fun _ hk => hk.2) (.string ((rd_T67 x11_1 x13_1).f2))) (fun _ hk => ⟨hk.1.1, hk.1.2⟩)⟩
    have n1_ : Aside0 (Kd.R k67 67 (((w34.setCell ⟨gb279, 0, none⟩ (.int .i64 ((rd_T67 x11_1 x13_1).f0))).setCell ⟨gb279, 1, none⟩ (.int .i64 ((rd_T67 x11_1 x13_1).f1))).setCell ⟨gb279, 2, none⟩ (.string ((rd_T67 x11_1 x13_1).f2))) w.heap.size (fun k_ => some k_ ≠ (.slice Ao36 x3_1.length co36 : Value).ownBlock ∧ k_ ≠ gb279) (.slice (some ad278) x11_1.length co5) x11_1) := ⟨by (with_reducible repeat (first | apply Kd.R_alloc | apply Kd.R_drewN | apply Kd.R_drew)); exact Kd.R_mono (Kd.R_far (p := ⟨gb279, 2, none⟩) (Kd.R_far (p := ⟨gb279, 1, none⟩) (Kd.R_far (p := ⟨gb279, 0, none⟩) (Kd.R_mono HO_11.out (fun k_ hk => (⟨hk, hk.2⟩ : _ ∧ k_ ≠ gb279))) (fun _ hk => hk.2) (.int .i64 ((rd_T67 x11_1 x13_1).f0))) (fun _ hk => hk.2) (.int .i64 ((rd_T67 x11_1 x13_1).f1))) (fun _ hk => hk.2) (.string ((rd_T67 x11_1 x13_1).f2))) (fun _ hk => ⟨hk.1.1, hk.1.2⟩)⟩
    have n2_ : Aside0 ((((w34.setCell ⟨gb279, 0, none⟩ (.int .i64 ((rd_T67 x11_1 x13_1).f0))).setCell ⟨gb279, 1, none⟩ (.int .i64 ((rd_T67 x11_1 x13_1).f1))).setCell ⟨gb279, 2, none⟩ (.string ((rd_T67 x11_1 x13_1).f2))).heap[gb279]? = some (.cells #[.int .i64 ((rd_T67 x11_1 x13_1).f0), .int .i64 ((rd_T67 x11_1 x13_1).f1), .string ((rd_T67 x11_1 x13_1).f2)] 67 (0, 0))) := ⟨by (with_reducible repeat (first | refine blk_drewN ?_ _ | refine blk_drew ?_ | refine blk_alloc ?_ _)); refine blk_put (cs := #[.int .i64 ((rd_T67 x11_1 x13_1).f0), .int .i64 ((rd_T67 x11_1 x13_1).f1), .string (⟨#[]⟩ : ByteArray)]) ?_ 2 _ rfl; (with_reducible repeat (first | refine blk_drewN ?_ _ | refine blk_drew ?_ | refine blk_alloc ?_ _)); refine blk_put (cs := #[.int .i64 ((rd_T67 x11_1 x13_1).f0), .int .i64 0, .string (⟨#[]⟩ : ByteArray)]) ?_ 1 _ rfl; (with_reducible repeat (first | refine blk_drewN ?_ _ | refine blk_drew ?_ | refine blk_alloc ?_ _)); refine blk_put (cs := #[.int .i64 0, .int .i64 0, .string (⟨#[]⟩ : ByteArray)]) ?_ 0 _ rfl; (with_reducible repeat (first | refine blk_drewN ?_ _ | refine blk_drew ?_ | refine blk_alloc ?_ _)); exact BK279.out⟩
    have n3_ : Aside0 (Below w.heap.size w (((w34.setCell ⟨gb279, 0, none⟩ (.int .i64 ((rd_T67 x11_1 x13_1).f0))).setCell ⟨gb279, 1, none⟩ (.int .i64 ((rd_T67 x11_1 x13_1).f1))).setCell ⟨gb279, 2, none⟩ (.string ((rd_T67 x11_1 x13_1).f2)))) := ⟨aP7⟩
    (try clear HO_3)
    (try clear HO_11)
    (try clear BK279)
    (try clear HB)
    generalize (((w34.setCell ⟨gb279, 0, none⟩ (.int .i64 ((rd_T67 x11_1 x13_1).f0))).setCell ⟨gb279, 1, none⟩ (.int .i64 ((rd_T67 x11_1 x13_1).f1))).setCell ⟨gb279, 2, none⟩ (.string ((rd_T67 x11_1 x13_1).f2))) = w37 at n0_ n1_ n2_ n3_ ⊢
    have HO_3 := n0_
    have HO_11 := n1_
    have BK279 := n2_
    have HB := n3_
    clear n0_ n1_ n2_ n3_
    replace HO_3 := aM (Kd.R_drew HO_3.out)
    replace HO_11 := aM (Kd.R_drew HO_11.out)
    replace BK279 := aM (blk_drew BK279.out)
    replace HB := aM (below_drew1 HB.out)
    have p280 : 0 ≤ ((ji11) : Int) := of_decide_eq_true (by assumption)
    have q280 : (ji11) < (x3_1.length : Int) := of_decide_eq_true (by assumption)
    obtain ⟨ad280, e280, hx280_0, hx280_1, hx280_2⟩ := at_T67 (Kd.R_reads' HO_3.out).2.2 (ji11) p280 q280
    cases e280
    replace p280 := eq_true p280
    replace q280 := eq_true q280
    refine start_ (n := 22) (S := fun w' => w'.cell? ⟨gb279, 0, none⟩ = some (.int .i64 ((rd_T67 x11_1 x13_1).f0)) ∧ w'.cell? ⟨gb279, 1, none⟩ = some (.int .i64 ((rd_T67 x11_1 x13_1).f1)) ∧ w'.cell? ⟨gb279, 2, none⟩ = some (.string ((rd_T67 x11_1 x13_1).f2)) ∧ w'.cell? (ad280.add (((ji11)).toNat * 3)) = some (.int .i64 ((rd_T67 x3_1 (ji11)).f0)) ∧ w'.cell? ⟨(ad280.add (((ji11)).toNat * 3)).block, (ad280.add (((ji11)).toNat * 3)).off + 1, none⟩ = some (.int .i64 ((rd_T67 x3_1 (ji11)).f1)) ∧ w'.cell? ⟨(ad280.add (((ji11)).toNat * 3)).block, (ad280.add (((ji11)).toNat * 3)).off + 2, none⟩ = some (.string ((rd_T67 x3_1 (ji11)).f2))) (ds := []) (Array.replicate 22 false) (by kernel_rfl) rfl rfl ⟨(blk_cell BK279.out 0).trans rfl, (blk_cell BK279.out 1).trans rfl, (blk_cell BK279.out 2).trans rfl, hx280_0, hx280_1, hx280_2⟩ (fun hHeld => ?_); refine with_tabW impl_joined.tab8 impl_joined.bits8 (fun HT_ HW_ => ?_)
    generalize w37.drew = w38 at HO_3 HO_11 BK279 HB hx280_0 hx280_1 hx280_2 hHeld ⊢
    refine pV 0 20 (bN 22 1) ?_
    refine pV 1 21 (bN 22 3) ?_
    refine pV 2 22 (bN 22 7) ?_
    refine pV 3 23 (bN 22 15) ?_
    refine pV 4 24 (bN 22 31) ?_
    refine pV 5 25 (bN 22 63) ?_
    refine pV 6 26 (bN 22 127) ?_
    refine pV 8 28 (bN 22 383) ?_
    refine tV6 7 27 (bN 22 511) ?_
    refine tV6 9 29 (bN 22 1023) ?_
    refine pV 10 30 (bN 22 2047) ?_
    refine pV 11 31 (bN 22 4095) ?_
    refine pV 12 32 (bN 22 8191) ?_
    refine pU 13 33 (bN 22 16383) ?_
    refine pU 14 34 (bN 22 32767) ?_
    refine pU 15 35 (bN 22 65535) ?_
    refine pU 16 36 (bN 22 131071) ?_
    refine pU 17 37 (bN 22 262143) ?_
    refine pU 18 38 (bN 22 524287) ?_
    refine pU 19 39 (bN 22 1048575) ?_
    refine pU 20 40 (bN 22 2097151) ?_
    refine pV 21 41 (bN 22 4194303) ?_
    refine done_ (done_of HT_.out (by kernel_rfl)) ?_
    have hcz39_0 : w38.cell? ⟨gb279, 0, none⟩ = some (.int .i64 ((rd_T67 x11_1 x13_1).f0)) := (blk_cell BK279.out 0).trans rfl
    have hcz39_1 : w38.cell? ⟨gb279, 1, none⟩ = some (.int .i64 ((rd_T67 x11_1 x13_1).f1)) := (blk_cell BK279.out 1).trans rfl
    have hcz39_2 : w38.cell? ⟨gb279, 2, none⟩ = some (.string ((rd_T67 x11_1 x13_1).f2)) := (blk_cell BK279.out 2).trans rfl
    have hfz39_0 := blk_frozen BK279.out 0
    have hfz39_1 := blk_frozen BK279.out 1
    have hfz39_2 := blk_frozen BK279.out 2
    try go_wp2_with (first | ((with_reducible refine gate_builtin (b := .append) (xs := #[.tmp 54, .tmp 56]) rfl ?_); at_builtin; refine Kd.R_append k67 (w0 := w) w.heap.size rfl (.tmp 54) (.tmp 56) 25 67 (.agg #[(.int .i64 0), (.int .i64 0), (.string ⟨#[]⟩)]) 32 rfl Try.underlying25 info67 rfl (by decide) (by omega) (.slice (some ad280) x3_1.length co36) x3_1 (⟨(rd_T67 x11_1 x13_1).f0, (rd_T67 x11_1 x13_1).f1, (rd_T67 x11_1 x13_1).f2⟩ : S67) [.int .i64 ((rd_T67 x11_1 x13_1).f0), .int .i64 ((rd_T67 x11_1 x13_1).f1), .string ((rd_T67 x11_1 x13_1).f2)] (fun k_ => some k_ ≠ (.slice (some ad278) x11_1.length co5 : Value).ownBlock ∧ k_ ≠ gb279) (fun _ => False) rfl rfl ?aP (fun _ hk => hk.elim) ?aF ?aO ?aB ?aS ?aL ?_; (case aP => exact k67_mkM _ _ _ (⟨(rd_T67 x11_1 x13_1).f0, (rd_T67 x11_1 x13_1).f1, (rd_T67 x11_1 x13_1).f2⟩ : S67)); (case aB => exact aP7); (case aF => exact (fun k_ hk => ⟨Kd.fresh' (Kd.R_lt (rR HO_11.out)) k_ hk, Kd.freshB (g := gb279) (o := .cells #[.int .i64 ((rd_T67 x11_1 x13_1).f0), .int .i64 ((rd_T67 x11_1 x13_1).f1), .string ((rd_T67 x11_1 x13_1).f2)] 67 (0, 0)) (kK BK279.out) k_ hk⟩)); (case aO => exact (rR HO_3.out)); (case aS => exact (below_size aP7)); (case aL => have := LMc33.out; omega); intro v288 w40 ho hb hg hat; rw [← Ny287.out] at ho; have n0_ := aM (Kd.R_after (ok := (fun k_ => k_ ≠ gb279)) (by (with_reducible repeat (first | apply Kd.R_alloc | apply Kd.R_drewN | apply Kd.R_drew)); exact Kd.R_mono HO_11.out (fun _ hk => ⟨hk.2, hk.1⟩)) hg hat); have n1_ := aM (blk_grown (g := gb279) (o := .cells #[.int .i64 ((rd_T67 x11_1 x13_1).f0), .int .i64 ((rd_T67 x11_1 x13_1).f1), .string ((rd_T67 x11_1 x13_1).f2)] 67 (0, 0)) (kK BK279.out) hg (Kd.R_away HO_3.out (fun _ hk => hk.2))); have n2_ := aM (hb); have n3_ := aM (ho); clear HO_11; clear BK279; clear HB; clear HO_3; have HO_11 := n0_; have BK279 := n1_; have HB := n2_; have HO289 := n3_; clear n0_ n1_ n2_ n3_; clear ho hb hg hat))
    (try simp only [← hl11_1])
    go_roundg k1
    case measure => have := HK1.out; omega
    case rel => exact ⟨(y287), (x11_1), (wrap64 (x13_1 + 1)), aP32, H', ⟨by have := HK1.out; omega⟩, ⟨by (try simp only [hl11_1]); (with_reducible repeat (first | apply Kd.R_alloc | apply Kd.R_drewN | apply Kd.R_drew)); exact Kd.R_mono HO289.out (fun _ hk => hk.1)⟩, ⟨by (try simp only [hl11_1]); (with_reducible repeat (first | apply Kd.R_alloc | apply Kd.R_drewN | apply Kd.R_drew)); exact Kd.R_mono HO_11.out (fun _ hk => hk.2)⟩, ⟨aP7⟩⟩
   rw [if_pos c14] at H
   have c14b0 : (((rd_T67 x3_1 (ji11)).f2).toList == ((rd_T67 x11_1 x13_1).f2).toList) = true := beq_iff_eq.mpr c14
   have c14b1 : (((rd_T67 x3_1 (ji11)).f2).toList != ((rd_T67 x11_1 x13_1).f2).toList) = false := bne_eq_false_iff_eq.mpr c14
   clear c14
   by_cases c15 : ((rd_T67 x3_1 (ji11)).f1) ≥ ((rd_T67 x11_1 x13_1).f0)
   rotate_left
   ·rw [if_neg c15] at H
    have c15b0 : decide (((rd_T67 x11_1 x13_1).f0) ≤ ((rd_T67 x3_1 (ji11)).f1)) = false := decide_eq_false c15
    clear c15
    by_cases c25 : x3_1.length < 4398046511104
    rotate_left
    ·rw [if_neg c25] at H
     exact absurd H (by simp)
    rw [if_pos c25] at H
    have LMc25 := aM c25
    clear c25
    obtain ⟨y284, hy284⟩ : ∃ y_ : List (S67), y_ = (x3_1 ++ [(⟨(rd_T67 x11_1 x13_1).f0, (rd_T67 x11_1 x13_1).f1, (rd_T67 x11_1 x13_1).f2⟩ : S67)]) := ⟨_, rfl⟩
    replace H : (impl_joined.l0 k1 y284 x11_1 (t274.length : Int) (wrap64 (x13_1 + 1))) = some r := by first | (rw [hy284]; with_reducible exact H) | (have H2_ := (Option.bind_some _ _).symm.trans H; rw [hy284]; with_reducible exact H2_) | (have H2_ := (Option.bind_some _ _).symm.trans H; with_reducible exact H2_) | with_reducible exact H | (rw [hy284]; exact H) | exact H
    have Ny284 := aM hy284
    clear hy284
    have H' := aM H
    clear H
    have p278 : 0 ≤ (x13_1 : Int) := of_decide_eq_true (by assumption)
    have q278 : x13_1 < (x11_1.length : Int) := of_decide_eq_true (by assumption)
    obtain ⟨ad278, e278, hx278_0, hx278_1, hx278_2⟩ := at_T67 (Kd.R_reads' HO_11.out).2.2 x13_1 p278 q278
    cases e278
    replace p278 := eq_true p278
    replace q278 := eq_true q278
    try go_wp2_with (first | ((with_reducible refine gate_dst (N := 5) rfl ?_); refine box_event ?hg (N := 5) ?hd (cs := #[.int .i64 0, .int .i64 0, .string (⟨#[]⟩ : ByteArray)]) (t := 67) ?hr ?_; (case hd => rfl); (case hg => rfl); (case hr => exact aP40); intro gb279 hg w26 hbox hb; have BK279 := aM (hbox); have GW279 := aM (bG (w := w) hg); have GE279 := aM (bG (w := w) hg); replace HO_3 := aM (Kd.R_below (Kd.R_elderB (rR HO_3.out) gb279 (Nat.le_of_eq hg.symm)) hb); replace HO_11 := aM (Kd.R_below (Kd.R_elderB (rR HO_11.out) gb279 (Nat.le_of_eq hg.symm)) hb); replace HB := aM (below_step bB hb); clear hb hbox hg; obtain ⟨hcz27_0, hcz27_1, hcz27_2, hfz27_0, hfz27_1, hfz27_2⟩ := bx3 BK279.out; obtain ⟨Ao28, co28, eo28⟩ := Kd.R_slice HO_3.out; subst eo28))
    have n0_ : Aside0 (Kd.R k67 67 (((w26.setCell ⟨gb279, 0, none⟩ (.int .i64 ((rd_T67 x11_1 x13_1).f0))).setCell ⟨gb279, 1, none⟩ (.int .i64 ((rd_T67 x11_1 x13_1).f1))).setCell ⟨gb279, 2, none⟩ (.string ((rd_T67 x11_1 x13_1).f2))) w.heap.size (fun k_ => some k_ ≠ (.slice (some ad278) x11_1.length co5 : Value).ownBlock ∧ k_ ≠ gb279) (.slice Ao28 x3_1.length co28) x3_1) := ⟨by (with_reducible repeat (first | apply Kd.R_alloc | apply Kd.R_drewN | apply Kd.R_drew)); exact Kd.R_mono (Kd.R_far (p := ⟨gb279, 2, none⟩) (Kd.R_far (p := ⟨gb279, 1, none⟩) (Kd.R_far (p := ⟨gb279, 0, none⟩) (Kd.R_mono HO_3.out (fun k_ hk => (⟨hk, hk.2⟩ : _ ∧ k_ ≠ gb279))) (fun _ hk => hk.2) (.int .i64 ((rd_T67 x11_1 x13_1).f0))) (fun _ hk => hk.2) (.int .i64 ((rd_T67 x11_1 x13_1).f1))) (fun _ hk => hk.2) (.string ((rd_T67 x11_1 x13_1).f2))) (fun _ hk => ⟨hk.1.1, hk.1.2⟩)⟩
    have n1_ : Aside0 (Kd.R k67 67 (((w26.setCell ⟨gb279, 0, none⟩ (.int .i64 ((rd_T67 x11_1 x13_1).f0))).setCell ⟨gb279, 1, none⟩ (.int .i64 ((rd_T67 x11_1 x13_1).f1))).setCell ⟨gb279, 2, none⟩ (.string ((rd_T67 x11_1 x13_1).f2))) w.heap.size (fun k_ => some k_ ≠ (.slice Ao28 x3_1.length co28 : Value).ownBlock ∧ k_ ≠ gb279) (.slice (some ad278) x11_1.length co5) x11_1) := ⟨by (with_reducible repeat (first | apply Kd.R_alloc | apply Kd.R_drewN | apply Kd.R_drew)); exact Kd.R_mono (Kd.R_far (p := ⟨gb279, 2, none⟩) (Kd.R_far (p := ⟨gb279, 1, none⟩) (Kd.R_far (p := ⟨gb279, 0, none⟩) (Kd.R_mono HO_11.out (fun k_ hk => (⟨hk, hk.2⟩ : _ ∧ k_ ≠ gb279))) (fun _ hk => hk.2) (.int .i64 ((rd_T67 x11_1 x13_1).f0))) (fun _ hk => hk.2) (.int .i64 ((rd_T67 x11_1 x13_1).f1))) (fun _ hk => hk.2) (.string ((rd_T67 x11_1 x13_1).f2))) (fun _ hk => ⟨hk.1.1, hk.1.2⟩)⟩
    have n2_ : Aside0 ((((w26.setCell ⟨gb279, 0, none⟩ (.int .i64 ((rd_T67 x11_1 x13_1).f0))).setCell ⟨gb279, 1, none⟩ (.int .i64 ((rd_T67 x11_1 x13_1).f1))).setCell ⟨gb279, 2, none⟩ (.string ((rd_T67 x11_1 x13_1).f2))).heap[gb279]? = some (.cells #[.int .i64 ((rd_T67 x11_1 x13_1).f0), .int .i64 ((rd_T67 x11_1 x13_1).f1), .string ((rd_T67 x11_1 x13_1).f2)] 67 (0, 0))) := ⟨by (with_reducible repeat (first | refine blk_drewN ?_ _ | refine blk_drew ?_ | refine blk_alloc ?_ _)); refine blk_put (cs := #[.int .i64 ((rd_T67 x11_1 x13_1).f0), .int .i64 ((rd_T67 x11_1 x13_1).f1), .string (⟨#[]⟩ : ByteArray)]) ?_ 2 _ rfl; (with_reducible repeat (first | refine blk_drewN ?_ _ | refine blk_drew ?_ | refine blk_alloc ?_ _)); refine blk_put (cs := #[.int .i64 ((rd_T67 x11_1 x13_1).f0), .int .i64 0, .string (⟨#[]⟩ : ByteArray)]) ?_ 1 _ rfl; (with_reducible repeat (first | refine blk_drewN ?_ _ | refine blk_drew ?_ | refine blk_alloc ?_ _)); refine blk_put (cs := #[.int .i64 0, .int .i64 0, .string (⟨#[]⟩ : ByteArray)]) ?_ 0 _ rfl; (with_reducible repeat (first | refine blk_drewN ?_ _ | refine blk_drew ?_ | refine blk_alloc ?_ _)); exact BK279.out⟩
    have n3_ : Aside0 (Below w.heap.size w (((w26.setCell ⟨gb279, 0, none⟩ (.int .i64 ((rd_T67 x11_1 x13_1).f0))).setCell ⟨gb279, 1, none⟩ (.int .i64 ((rd_T67 x11_1 x13_1).f1))).setCell ⟨gb279, 2, none⟩ (.string ((rd_T67 x11_1 x13_1).f2)))) := ⟨aP7⟩
    (try clear HO_3)
    (try clear HO_11)
    (try clear BK279)
    (try clear HB)
    generalize (((w26.setCell ⟨gb279, 0, none⟩ (.int .i64 ((rd_T67 x11_1 x13_1).f0))).setCell ⟨gb279, 1, none⟩ (.int .i64 ((rd_T67 x11_1 x13_1).f1))).setCell ⟨gb279, 2, none⟩ (.string ((rd_T67 x11_1 x13_1).f2))) = w29 at n0_ n1_ n2_ n3_ ⊢
    have HO_3 := n0_
    have HO_11 := n1_
    have BK279 := n2_
    have HB := n3_
    clear n0_ n1_ n2_ n3_
    replace HO_3 := aM (Kd.R_drew HO_3.out)
    replace HO_11 := aM (Kd.R_drew HO_11.out)
    replace BK279 := aM (blk_drew BK279.out)
    replace HB := aM (below_drew1 HB.out)
    have p280 : 0 ≤ ((ji11) : Int) := of_decide_eq_true (by assumption)
    have q280 : (ji11) < (x3_1.length : Int) := of_decide_eq_true (by assumption)
    obtain ⟨ad280, e280, hx280_0, hx280_1, hx280_2⟩ := at_T67 (Kd.R_reads' HO_3.out).2.2 (ji11) p280 q280
    cases e280
    replace p280 := eq_true p280
    replace q280 := eq_true q280
    have p281 : 0 ≤ ((ji11) : Int) := of_decide_eq_true (by assumption)
    have q281 : (ji11) < (x3_1.length : Int) := of_decide_eq_true (by assumption)
    obtain ⟨ad281, e281, hx281_0, hx281_1, hx281_2⟩ := at_T67 (Kd.R_reads' HO_3.out).2.2 (ji11) p281 q281
    (first | obtain rfl : ad280 = ad281 := (by injection e281) | cases e281)
    replace p281 := eq_true p281
    replace q281 := eq_true q281
    refine start_ (n := 22) (S := fun w' => w'.cell? ⟨gb279, 0, none⟩ = some (.int .i64 ((rd_T67 x11_1 x13_1).f0)) ∧ w'.cell? ⟨gb279, 1, none⟩ = some (.int .i64 ((rd_T67 x11_1 x13_1).f1)) ∧ w'.cell? ⟨gb279, 2, none⟩ = some (.string ((rd_T67 x11_1 x13_1).f2)) ∧ w'.cell? (ad280.add (((ji11)).toNat * 3)) = some (.int .i64 ((rd_T67 x3_1 (ji11)).f0)) ∧ w'.cell? ⟨(ad280.add (((ji11)).toNat * 3)).block, (ad280.add (((ji11)).toNat * 3)).off + 1, none⟩ = some (.int .i64 ((rd_T67 x3_1 (ji11)).f1)) ∧ w'.cell? ⟨(ad280.add (((ji11)).toNat * 3)).block, (ad280.add (((ji11)).toNat * 3)).off + 2, none⟩ = some (.string ((rd_T67 x3_1 (ji11)).f2)) ∧ w'.cell? (ad280.add (((ji11)).toNat * 3)) = some (.int .i64 ((rd_T67 x3_1 (ji11)).f0)) ∧ w'.cell? ⟨(ad280.add (((ji11)).toNat * 3)).block, (ad280.add (((ji11)).toNat * 3)).off + 1, none⟩ = some (.int .i64 ((rd_T67 x3_1 (ji11)).f1)) ∧ w'.cell? ⟨(ad280.add (((ji11)).toNat * 3)).block, (ad280.add (((ji11)).toNat * 3)).off + 2, none⟩ = some (.string ((rd_T67 x3_1 (ji11)).f2))) (ds := []) (Array.replicate 22 false) (by kernel_rfl) rfl rfl ⟨(blk_cell BK279.out 0).trans rfl, (blk_cell BK279.out 1).trans rfl, (blk_cell BK279.out 2).trans rfl, hx280_0, hx280_1, hx280_2, hx281_0, hx281_1, hx281_2⟩ (fun hHeld => ?_); refine with_tabW impl_joined.tab8 impl_joined.bits8 (fun HT_ HW_ => ?_)
    generalize w29.drew = w30 at HO_3 HO_11 BK279 HB hx280_0 hx280_1 hx280_2 hx281_0 hx281_1 hx281_2 hHeld ⊢
    refine pV 0 20 (bN 22 1) ?_
    refine pV 1 21 (bN 22 3) ?_
    refine pV 2 22 (bN 22 7) ?_
    refine pV 3 23 (bN 22 15) ?_
    refine pV 4 24 (bN 22 31) ?_
    refine pV 5 25 (bN 22 63) ?_
    refine pV 6 26 (bN 22 127) ?_
    refine pV 8 28 (bN 22 383) ?_
    refine tV9 7 27 (bN 22 511) ?_
    refine tV9 9 29 (bN 22 1023) ?_
    refine pV 10 30 (bN 22 2047) ?_
    refine pV 11 31 (bN 22 4095) ?_
    refine pV 12 32 (bN 22 8191) ?_
    refine pV 13 33 (bN 22 16383) ?_
    refine pV 14 34 (bN 22 32767) ?_
    refine pV 15 35 (bN 22 65535) ?_
    refine pV 16 36 (bN 22 131071) ?_
    refine pV 18 38 (bN 22 393215) ?_
    refine tV9 17 37 (bN 22 524287) ?_
    refine tV9 19 39 (bN 22 1048575) ?_
    refine pV 20 40 (bN 22 2097151) ?_
    refine pV 21 41 (bN 22 4194303) ?_
    refine done_ (done_of HT_.out (by kernel_rfl)) ?_
    have hcz31_0 : w30.cell? ⟨gb279, 0, none⟩ = some (.int .i64 ((rd_T67 x11_1 x13_1).f0)) := (blk_cell BK279.out 0).trans rfl
    have hcz31_1 : w30.cell? ⟨gb279, 1, none⟩ = some (.int .i64 ((rd_T67 x11_1 x13_1).f1)) := (blk_cell BK279.out 1).trans rfl
    have hcz31_2 : w30.cell? ⟨gb279, 2, none⟩ = some (.string ((rd_T67 x11_1 x13_1).f2)) := (blk_cell BK279.out 2).trans rfl
    have hfz31_0 := blk_frozen BK279.out 0
    have hfz31_1 := blk_frozen BK279.out 1
    have hfz31_2 := blk_frozen BK279.out 2
    try go_wp2_with (first | ((with_reducible refine gate_builtin (b := .append) (xs := #[.tmp 54, .tmp 56]) rfl ?_); at_builtin; refine Kd.R_append k67 (w0 := w) w.heap.size rfl (.tmp 54) (.tmp 56) 25 67 (.agg #[(.int .i64 0), (.int .i64 0), (.string ⟨#[]⟩)]) 32 rfl Try.underlying25 info67 rfl (by decide) (by omega) (.slice (some ad280) x3_1.length co28) x3_1 (⟨(rd_T67 x11_1 x13_1).f0, (rd_T67 x11_1 x13_1).f1, (rd_T67 x11_1 x13_1).f2⟩ : S67) [.int .i64 ((rd_T67 x11_1 x13_1).f0), .int .i64 ((rd_T67 x11_1 x13_1).f1), .string ((rd_T67 x11_1 x13_1).f2)] (fun k_ => some k_ ≠ (.slice (some ad278) x11_1.length co5 : Value).ownBlock ∧ k_ ≠ gb279) (fun _ => False) rfl rfl ?aP (fun _ hk => hk.elim) ?aF ?aO ?aB ?aS ?aL ?_; (case aP => exact k67_mkM _ _ _ (⟨(rd_T67 x11_1 x13_1).f0, (rd_T67 x11_1 x13_1).f1, (rd_T67 x11_1 x13_1).f2⟩ : S67)); (case aB => exact aP7); (case aF => exact (fun k_ hk => ⟨Kd.fresh' (Kd.R_lt (rR HO_11.out)) k_ hk, Kd.freshB (g := gb279) (o := .cells #[.int .i64 ((rd_T67 x11_1 x13_1).f0), .int .i64 ((rd_T67 x11_1 x13_1).f1), .string ((rd_T67 x11_1 x13_1).f2)] 67 (0, 0)) (kK BK279.out) k_ hk⟩)); (case aO => exact (rR HO_3.out)); (case aS => exact (below_size aP7)); (case aL => have := LMc25.out; omega); intro v285 w32 ho hb hg hat; rw [← Ny284.out] at ho; have n0_ := aM (Kd.R_after (ok := (fun k_ => k_ ≠ gb279)) (by (with_reducible repeat (first | apply Kd.R_alloc | apply Kd.R_drewN | apply Kd.R_drew)); exact Kd.R_mono HO_11.out (fun _ hk => ⟨hk.2, hk.1⟩)) hg hat); have n1_ := aM (blk_grown (g := gb279) (o := .cells #[.int .i64 ((rd_T67 x11_1 x13_1).f0), .int .i64 ((rd_T67 x11_1 x13_1).f1), .string ((rd_T67 x11_1 x13_1).f2)] 67 (0, 0)) (kK BK279.out) hg (Kd.R_away HO_3.out (fun _ hk => hk.2))); have n2_ := aM (hb); have n3_ := aM (ho); clear HO_11; clear BK279; clear HB; clear HO_3; have HO_11 := n0_; have BK279 := n1_; have HB := n2_; have HO286 := n3_; clear n0_ n1_ n2_ n3_; clear ho hb hg hat))
    (try simp only [← hl11_1])
    go_roundg k1
    case measure => have := HK1.out; omega
    case rel => exact ⟨(y284), (x11_1), (wrap64 (x13_1 + 1)), aP32, H', ⟨by have := HK1.out; omega⟩, ⟨by (try simp only [hl11_1]); (with_reducible repeat (first | apply Kd.R_alloc | apply Kd.R_drewN | apply Kd.R_drew)); exact Kd.R_mono HO286.out (fun _ hk => hk.1)⟩, ⟨by (try simp only [hl11_1]); (with_reducible repeat (first | apply Kd.R_alloc | apply Kd.R_drewN | apply Kd.R_drew)); exact Kd.R_mono HO_11.out (fun _ hk => hk.2)⟩, ⟨aP7⟩⟩
   rw [if_pos c15] at H
   have c15b0 : decide (((rd_T67 x11_1 x13_1).f0) ≤ ((rd_T67 x3_1 (ji11)).f1)) = true := decide_eq_true c15
   clear c15
   obtain ⟨ji16, hji16⟩ : ∃ j_ : Int, (mx ((rd_T67 x3_1 (ji11)).f1) ((rd_T67 x11_1 x13_1).f1)) = j_ := ⟨_, rfl⟩
   replace H : (impl_joined.l0 k1 (x3_1.set ((ji11) : Int).toNat (⟨(rd_T67 x3_1 (ji11)).f0, ji16, (rd_T67 x3_1 (ji11)).f2⟩ : S67)) x11_1 (t274.length : Int) (wrap64 (x13_1 + 1))) = some r := by first | (rw [hji16] at H; exact H) | (simp only [hji16] at H ⊢; exact H)
   have hji16_ : (if ((rd_T67 x3_1 (ji11)).f1) < ((rd_T67 x11_1 x13_1).f1) then ((rd_T67 x11_1 x13_1).f1) else ((rd_T67 x3_1 (ji11)).f1)) = ji16 := hji16
   obtain ⟨y283, hy283⟩ : ∃ y_ : List (S67), y_ = (x3_1.set ((ji11) : Int).toNat (⟨(rd_T67 x3_1 (ji11)).f0, ji16, (rd_T67 x3_1 (ji11)).f2⟩ : S67)) := ⟨_, rfl⟩
   replace H : (impl_joined.l0 k1 y283 x11_1 (t274.length : Int) (wrap64 (x13_1 + 1))) = some r := by first | (rw [hy283]; with_reducible exact H) | (have H2_ := (Option.bind_some _ _).symm.trans H; rw [hy283]; with_reducible exact H2_) | (have H2_ := (Option.bind_some _ _).symm.trans H; with_reducible exact H2_) | with_reducible exact H | (rw [hy283]; exact H) | exact H
   have Ny283 := aM hy283
   clear hy283
   have H' := aM H
   clear H
   have p278 : 0 ≤ (x13_1 : Int) := of_decide_eq_true (by assumption)
   have q278 : x13_1 < (x11_1.length : Int) := of_decide_eq_true (by assumption)
   obtain ⟨ad278, e278, hx278_0, hx278_1, hx278_2⟩ := at_T67 (Kd.R_reads' HO_11.out).2.2 x13_1 p278 q278
   cases e278
   replace p278 := eq_true p278
   replace q278 := eq_true q278
   try go_wp2_with (first | ((with_reducible refine gate_dst (N := 5) rfl ?_); refine box_event ?hg (N := 5) ?hd (cs := #[.int .i64 0, .int .i64 0, .string (⟨#[]⟩ : ByteArray)]) (t := 67) ?hr ?_; (case hd => rfl); (case hg => rfl); (case hr => exact aP40); intro gb279 hg w18 hbox hb; have BK279 := aM (hbox); have GW279 := aM (bG (w := w) hg); have GE279 := aM (bG (w := w) hg); replace HO_3 := aM (Kd.R_below (Kd.R_elderB (rR HO_3.out) gb279 (Nat.le_of_eq hg.symm)) hb); replace HO_11 := aM (Kd.R_below (Kd.R_elderB (rR HO_11.out) gb279 (Nat.le_of_eq hg.symm)) hb); replace HB := aM (below_step bB hb); clear hb hbox hg; obtain ⟨hcz19_0, hcz19_1, hcz19_2, hfz19_0, hfz19_1, hfz19_2⟩ := bx3 BK279.out; obtain ⟨Ao20, co20, eo20⟩ := Kd.R_slice HO_3.out; subst eo20))
   have n0_ : Aside0 (Kd.R k67 67 (((w18.setCell ⟨gb279, 0, none⟩ (.int .i64 ((rd_T67 x11_1 x13_1).f0))).setCell ⟨gb279, 1, none⟩ (.int .i64 ((rd_T67 x11_1 x13_1).f1))).setCell ⟨gb279, 2, none⟩ (.string ((rd_T67 x11_1 x13_1).f2))) w.heap.size (fun k_ => some k_ ≠ (.slice (some ad278) x11_1.length co5 : Value).ownBlock ∧ k_ ≠ gb279) (.slice Ao20 x3_1.length co20) x3_1) := ⟨by (with_reducible repeat (first | apply Kd.R_alloc | apply Kd.R_drewN | apply Kd.R_drew)); exact Kd.R_mono (Kd.R_far (p := ⟨gb279, 2, none⟩) (Kd.R_far (p := ⟨gb279, 1, none⟩) (Kd.R_far (p := ⟨gb279, 0, none⟩) (Kd.R_mono HO_3.out (fun k_ hk => (⟨hk, hk.2⟩ : _ ∧ k_ ≠ gb279))) (fun _ hk => hk.2) (.int .i64 ((rd_T67 x11_1 x13_1).f0))) (fun _ hk => hk.2) (.int .i64 ((rd_T67 x11_1 x13_1).f1))) (fun _ hk => hk.2) (.string ((rd_T67 x11_1 x13_1).f2))) (fun _ hk => ⟨hk.1.1, hk.1.2⟩)⟩
   have n1_ : Aside0 (Kd.R k67 67 (((w18.setCell ⟨gb279, 0, none⟩ (.int .i64 ((rd_T67 x11_1 x13_1).f0))).setCell ⟨gb279, 1, none⟩ (.int .i64 ((rd_T67 x11_1 x13_1).f1))).setCell ⟨gb279, 2, none⟩ (.string ((rd_T67 x11_1 x13_1).f2))) w.heap.size (fun k_ => some k_ ≠ (.slice Ao20 x3_1.length co20 : Value).ownBlock ∧ k_ ≠ gb279) (.slice (some ad278) x11_1.length co5) x11_1) := ⟨by (with_reducible repeat (first | apply Kd.R_alloc | apply Kd.R_drewN | apply Kd.R_drew)); exact Kd.R_mono (Kd.R_far (p := ⟨gb279, 2, none⟩) (Kd.R_far (p := ⟨gb279, 1, none⟩) (Kd.R_far (p := ⟨gb279, 0, none⟩) (Kd.R_mono HO_11.out (fun k_ hk => (⟨hk, hk.2⟩ : _ ∧ k_ ≠ gb279))) (fun _ hk => hk.2) (.int .i64 ((rd_T67 x11_1 x13_1).f0))) (fun _ hk => hk.2) (.int .i64 ((rd_T67 x11_1 x13_1).f1))) (fun _ hk => hk.2) (.string ((rd_T67 x11_1 x13_1).f2))) (fun _ hk => ⟨hk.1.1, hk.1.2⟩)⟩
   have n2_ : Aside0 ((((w18.setCell ⟨gb279, 0, none⟩ (.int .i64 ((rd_T67 x11_1 x13_1).f0))).setCell ⟨gb279, 1, none⟩ (.int .i64 ((rd_T67 x11_1 x13_1).f1))).setCell ⟨gb279, 2, none⟩ (.string ((rd_T67 x11_1 x13_1).f2))).heap[gb279]? = some (.cells #[.int .i64 ((rd_T67 x11_1 x13_1).f0), .int .i64 ((rd_T67 x11_1 x13_1).f1), .string ((rd_T67 x11_1 x13_1).f2)] 67 (0, 0))) := ⟨by (with_reducible repeat (first | refine blk_drewN ?_ _ | refine blk_drew ?_ | refine blk_alloc ?_ _)); refine blk_put (cs := #[.int .i64 ((rd_T67 x11_1 x13_1).f0), .int .i64 ((rd_T67 x11_1 x13_1).f1), .string (⟨#[]⟩ : ByteArray)]) ?_ 2 _ rfl; (with_reducible repeat (first | refine blk_drewN ?_ _ | refine blk_drew ?_ | refine blk_alloc ?_ _)); refine blk_put (cs := #[.int .i64 ((rd_T67 x11_1 x13_1).f0), .int .i64 0, .string (⟨#[]⟩ : ByteArray)]) ?_ 1 _ rfl; (with_reducible repeat (first | refine blk_drewN ?_ _ | refine blk_drew ?_ | refine blk_alloc ?_ _)); refine blk_put (cs := #[.int .i64 0, .int .i64 0, .string (⟨#[]⟩ : ByteArray)]) ?_ 0 _ rfl; (with_reducible repeat (first | refine blk_drewN ?_ _ | refine blk_drew ?_ | refine blk_alloc ?_ _)); exact BK279.out⟩
   have n3_ : Aside0 (Below w.heap.size w (((w18.setCell ⟨gb279, 0, none⟩ (.int .i64 ((rd_T67 x11_1 x13_1).f0))).setCell ⟨gb279, 1, none⟩ (.int .i64 ((rd_T67 x11_1 x13_1).f1))).setCell ⟨gb279, 2, none⟩ (.string ((rd_T67 x11_1 x13_1).f2)))) := ⟨aP7⟩
   (try clear HO_3)
   (try clear HO_11)
   (try clear BK279)
   (try clear HB)
   generalize (((w18.setCell ⟨gb279, 0, none⟩ (.int .i64 ((rd_T67 x11_1 x13_1).f0))).setCell ⟨gb279, 1, none⟩ (.int .i64 ((rd_T67 x11_1 x13_1).f1))).setCell ⟨gb279, 2, none⟩ (.string ((rd_T67 x11_1 x13_1).f2))) = w21 at n0_ n1_ n2_ n3_ ⊢
   have HO_3 := n0_
   have HO_11 := n1_
   have BK279 := n2_
   have HB := n3_
   clear n0_ n1_ n2_ n3_
   replace HO_3 := aM (Kd.R_drew HO_3.out)
   replace HO_11 := aM (Kd.R_drew HO_11.out)
   replace BK279 := aM (blk_drew BK279.out)
   replace HB := aM (below_drew1 HB.out)
   have p280 : 0 ≤ ((ji11) : Int) := of_decide_eq_true (by assumption)
   have q280 : (ji11) < (x3_1.length : Int) := of_decide_eq_true (by assumption)
   obtain ⟨ad280, e280, hx280_0, hx280_1, hx280_2⟩ := at_T67 (Kd.R_reads' HO_3.out).2.2 (ji11) p280 q280
   cases e280
   replace p280 := eq_true p280
   replace q280 := eq_true q280
   have p281 : 0 ≤ ((ji11) : Int) := of_decide_eq_true (by assumption)
   have q281 : (ji11) < (x3_1.length : Int) := of_decide_eq_true (by assumption)
   obtain ⟨ad281, e281, hx281_0, hx281_1, hx281_2⟩ := at_T67 (Kd.R_reads' HO_3.out).2.2 (ji11) p281 q281
   (first | obtain rfl : ad280 = ad281 := (by injection e281) | cases e281)
   replace p281 := eq_true p281
   replace q281 := eq_true q281
   refine start_ (n := 22) (S := fun w' => w'.cell? ⟨gb279, 0, none⟩ = some (.int .i64 ((rd_T67 x11_1 x13_1).f0)) ∧ w'.cell? ⟨gb279, 1, none⟩ = some (.int .i64 ((rd_T67 x11_1 x13_1).f1)) ∧ w'.cell? ⟨gb279, 2, none⟩ = some (.string ((rd_T67 x11_1 x13_1).f2)) ∧ w'.cell? (ad280.add (((ji11)).toNat * 3)) = some (.int .i64 ((rd_T67 x3_1 (ji11)).f0)) ∧ w'.cell? ⟨(ad280.add (((ji11)).toNat * 3)).block, (ad280.add (((ji11)).toNat * 3)).off + 1, none⟩ = some (.int .i64 ((rd_T67 x3_1 (ji11)).f1)) ∧ w'.cell? ⟨(ad280.add (((ji11)).toNat * 3)).block, (ad280.add (((ji11)).toNat * 3)).off + 2, none⟩ = some (.string ((rd_T67 x3_1 (ji11)).f2)) ∧ w'.cell? (ad280.add (((ji11)).toNat * 3)) = some (.int .i64 ((rd_T67 x3_1 (ji11)).f0)) ∧ w'.cell? ⟨(ad280.add (((ji11)).toNat * 3)).block, (ad280.add (((ji11)).toNat * 3)).off + 1, none⟩ = some (.int .i64 ((rd_T67 x3_1 (ji11)).f1)) ∧ w'.cell? ⟨(ad280.add (((ji11)).toNat * 3)).block, (ad280.add (((ji11)).toNat * 3)).off + 2, none⟩ = some (.string ((rd_T67 x3_1 (ji11)).f2))) (ds := []) (Array.replicate 22 false) (by kernel_rfl) rfl rfl ⟨(blk_cell BK279.out 0).trans rfl, (blk_cell BK279.out 1).trans rfl, (blk_cell BK279.out 2).trans rfl, hx280_0, hx280_1, hx280_2, hx281_0, hx281_1, hx281_2⟩ (fun hHeld => ?_); refine with_tabW impl_joined.tab8 impl_joined.bits8 (fun HT_ HW_ => ?_)
   generalize w21.drew = w22 at HO_3 HO_11 BK279 HB hx280_0 hx280_1 hx280_2 hx281_0 hx281_1 hx281_2 hHeld ⊢
   refine pV 0 20 (bN 22 1) ?_
   refine pV 1 21 (bN 22 3) ?_
   refine pV 2 22 (bN 22 7) ?_
   refine pV 3 23 (bN 22 15) ?_
   refine pV 4 24 (bN 22 31) ?_
   refine pV 5 25 (bN 22 63) ?_
   refine pV 6 26 (bN 22 127) ?_
   refine pV 8 28 (bN 22 383) ?_
   refine tV9 7 27 (bN 22 511) ?_
   refine tV9 9 29 (bN 22 1023) ?_
   refine pV 10 30 (bN 22 2047) ?_
   refine pV 11 31 (bN 22 4095) ?_
   refine pV 12 32 (bN 22 8191) ?_
   refine pV 13 33 (bN 22 16383) ?_
   refine pV 14 34 (bN 22 32767) ?_
   refine pV 15 35 (bN 22 65535) ?_
   refine pV 16 36 (bN 22 131071) ?_
   refine pV 18 38 (bN 22 393215) ?_
   refine tV9 17 37 (bN 22 524287) ?_
   refine tV9 19 39 (bN 22 1048575) ?_
   refine pV 20 40 (bN 22 2097151) ?_
   refine pV 21 41 (bN 22 4194303) ?_
   refine done_ (done_of HT_.out (by kernel_rfl)) ?_
   try go_wp2
   replace HO_3 := aM (Kd.R_drew HO_3.out)
   replace HO_11 := aM (Kd.R_drew HO_11.out)
   replace BK279 := aM (blk_drew BK279.out)
   replace HB := aM (below_drew1 HB.out)
   have p282 : 0 ≤ ((ji11) : Int) := of_decide_eq_true (by assumption)
   have q282 : (ji11) < (x3_1.length : Int) := of_decide_eq_true (by assumption)
   obtain ⟨ad282, e282, hx282_0, hx282_1, hx282_2⟩ := at_T67 (Kd.R_reads' HO_3.out).2.2 (ji11) p282 q282
   (first | obtain rfl : ad280 = ad282 := (by injection e282) | cases e282)
   replace p282 := eq_true p282
   replace q282 := eq_true q282
   have p17 : 0 ≤ ((ji11) : Int) := of_decide_eq_true (by assumption)
   have q17 : ((ji11) : Int) < ((x3_1.length : Int) : Int) := of_decide_eq_true (by assumption)
   obtain ⟨go17, co17, eo17, gb17, gl17, cl17, HG17⟩ := Kd.R_form HO_3.out (by omega)
   (first | cases eo17 | (injection eo17 with ea_ en_ ec_; (first | subst ea_ | (injection ea_ with ea_; subst ea_)); subst ec_; clear en_))
   have GB17 := aM gb17
   have GG17 := aM HG17
   clear gb17 gl17 HG17
   (first | simp only [add_plain] at hx280_0 | skip)
   (first | simp only [add_plain] at hx280_1 | skip)
   (first | simp only [add_plain] at hx280_2 | skip)
   (first | simp only [add_plain] at hx281_0 | skip)
   (first | simp only [add_plain] at hx281_1 | skip)
   (first | simp only [add_plain] at hx281_2 | skip)
   (first | simp only [add_plain] at hx282_0 | skip)
   (first | simp only [add_plain] at hx282_1 | skip)
   (first | simp only [add_plain] at hx282_2 | skip)
   obtain ⟨ce17, hcl17, hM17, hcc17, hfr17⟩ := Kd.R_elem HO_3.out z67 ((ji11) : Int) p17 q17
   obtain rfl := k67_openM hM17
   have hx17_0 : World.cell? _ ⟨go17, ((ji11) : Int).toNat * 3, none⟩ = some (.int .i64 ((rd_T67 x3_1 (ji11)).f0)) := hcc17 0 _ rfl
   have hx17_1 : World.cell? _ ⟨go17, ((ji11) : Int).toNat * 3 + 1, none⟩ = some (.int .i64 ((rd_T67 x3_1 (ji11)).f1)) := hcc17 1 _ rfl
   have hx17_2 : World.cell? _ ⟨go17, ((ji11) : Int).toNat * 3 + 2, none⟩ = some (.string ((rd_T67 x3_1 (ji11)).f2)) := hcc17 2 _ rfl
   have hf17_0 : World.frozen? _ ⟨go17, ((ji11) : Int).toNat * 3, none⟩ = false := hfr17 0
   have hf17_1 : World.frozen? _ ⟨go17, ((ji11) : Int).toNat * 3 + 1, none⟩ = false := hfr17 1
   have hf17_2 : World.frozen? _ ⟨go17, ((ji11) : Int).toNat * 3 + 2, none⟩ = false := hfr17 2
   clear hcl17 hcc17 hfr17 hM17
   replace p17 := eq_true p17
   replace q17 := eq_true q17
   obtain ⟨ce24, hcl24, hM24, hcc24, hfr24⟩ := Kd.R_elem HO_3.out z67 ((ji11) : Int) (of_decide_eq_true (by assumption)) (by have h_ : ((ji11) : Int) < ((x3_1.length : Int) : Int) := of_decide_eq_true (by assumption); first | exact h_ | (have e_ := (Kd.R_reads' HO_3.out).1; omega) | simpa using h_)
   obtain rfl := k67_openM hM24
   have HP24 := (Kd.R_seg HO_3.out ((ji11) : Int) (of_decide_eq_true (by assumption)) (by have h_ : ((ji11) : Int) < ((x3_1.length : Int) : Int) := of_decide_eq_true (by assumption); first | exact h_ | (have e_ := (Kd.R_reads' HO_3.out).1; omega) | simpa using h_) (seg := [.int .i64 ji16]) (j := 1) hcl24 hcc24 (show 2 ≤ 3 from by decide) (x' := (⟨(rd_T67 x3_1 (ji11)).f0, ji16, (rd_T67 x3_1 (ji11)).f2⟩ : S67)) (k67_mkM _ _ _ (⟨(rd_T67 x3_1 (ji11)).f0, ji16, (rd_T67 x3_1 (ji11)).f2⟩ : S67) ) (fun _ hk => hk)).1
   rw [← Ny283.out] at HP24
   have HQ24 := aM HP24
   clear hcl24 hcc24 hfr24 hM24 HP24
   refine start_ (n := 13) (S := fun w' => w'.cell? ⟨gb279, 0, none⟩ = some (.int .i64 ((rd_T67 x11_1 x13_1).f0)) ∧ w'.cell? ⟨gb279, 1, none⟩ = some (.int .i64 ((rd_T67 x11_1 x13_1).f1)) ∧ w'.cell? ⟨gb279, 2, none⟩ = some (.string ((rd_T67 x11_1 x13_1).f2)) ∧ w'.cell? ⟨go17, ((ji11)).toNat * 3, none⟩ = some (.int .i64 ((rd_T67 x3_1 (ji11)).f0)) ∧ w'.cell? ⟨go17, ((ji11)).toNat * 3 + 1, none⟩ = some (.int .i64 ((rd_T67 x3_1 (ji11)).f1)) ∧ w'.cell? ⟨go17, ((ji11)).toNat * 3 + 2, none⟩ = some (.string ((rd_T67 x3_1 (ji11)).f2))) (ds := [12]) (Array.replicate 13 false) (by kernel_rfl) rfl rfl ⟨(blk_cell BK279.out 0).trans rfl, (blk_cell BK279.out 1).trans rfl, (blk_cell BK279.out 2).trans rfl, hx282_0, hx282_1, hx282_2⟩ (fun hHeld => ?_); refine with_tabW impl_joined.tab9 impl_joined.bits9 (fun HT_ HW_ => ?_)
   (first | generalize w22.drew = w23 at HO_3 HO_11 BK279 HB GG17 HQ24 hf17_0 hf17_1 hf17_2 hx17_0 hx17_1 hx17_2 hx280_0 hx280_1 hx280_2 hx281_0 hx281_1 hx281_2 hx282_0 hx282_1 hx282_2 hHeld ⊢ | generalize w22.drew = w23 at HO_3 HO_11 BK279 HB GG17 HQ24 hf17_0 hf17_1 hf17_2 hx17_0 hx17_1 hx17_2 hx280_0 hx280_1 hx280_2 hx282_0 hx282_1 hx282_2 hHeld ⊢ | generalize w22.drew = w23 at HO_3 HO_11 BK279 HB GG17 HQ24 hf17_0 hf17_1 hf17_2 hx17_0 hx17_1 hx17_2 hx280_0 hx280_1 hx280_2 hx281_0 hx281_1 hx281_2 hHeld ⊢)
   refine pV 0 42 (bN 13 1) ?_
   refine pV 1 43 (bN 13 3) ?_
   refine pV 2 44 (bN 13 7) ?_
   refine pV 3 45 (bN 13 15) ?_
   refine pV 4 46 (bN 13 31) ?_
   refine pV 5 47 (bN 13 63) ?_
   refine pV 7 49 (bN 13 191) ?_
   refine tV6 6 48 (bN 13 255) ?_
   refine tV6 8 50 (bN 13 511) ?_
   refine pV 9 51 (bN 13 1023) ?_
   refine pV 10 52 (bN 13 2047) ?_
   refine pV 11 53 (bN 13 4095) ?_
   refine last_ (i := 12) (N := none) (bN 13 8191) rfl rfl (one_of HT_.out (by kernel_rfl)) (by decide) (fun K hK => ?_)
   refine skip_ (w1 := ?_) (by rfl) rfl ?_ ?_
   rotate_left
   ·go_simp
    rfl
   refine hK.out _ _ ?_
   clear hK K
   refine done_ (done_of HT_.out (by kernel_rfl)) ?_
   try go_wp2
   (try simp only [← hl11_1])
   go_roundg k1
   case measure => have := HK1.out; omega
   case rel => exact ⟨(y283), (x11_1), (wrap64 (x13_1 + 1)), aP32, H', ⟨by have := HK1.out; omega⟩, ⟨by (try simp only [hl11_1]); (with_reducible repeat (first | apply Kd.R_alloc | apply Kd.R_drewN | apply Kd.R_drew)); exact Kd.R_mono HQ24.out (fun _ hk => hk.1)⟩, ⟨by (try simp only [hl11_1]); (with_reducible repeat (first | apply Kd.R_alloc | apply Kd.R_drewN | apply Kd.R_drew)); exact Kd.R_mono (Kd.R_far (p := ⟨go17, ((ji11) : Int).toNat * 3 + 1, none⟩) (Kd.R_mono HO_11.out (fun k_ hk => (⟨hk, fun e_ => hk.1 (by rw [e_]; rfl)⟩ : _ ∧ k_ ≠ go17))) (fun _ hk => hk.2) (.int .i64 ji16)) (fun _ hk => hk.1.1)⟩, ⟨by repeat (first | (with_reducible first | exact HB.out | apply below_alloc | apply pw_below_drewN | apply below_drew1 | refine below_set ?_ GB17.out | refine below_set ?_ GE279.out) | exact HB.out)⟩⟩
end Go.Proofs.Ytmhcmcdppimcpaa.PFnExactMoveMarks
