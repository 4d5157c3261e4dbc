/- (thin) Written by a program of this session (wip/ovl.py) over the kit's print: plain functions with the answers of the Go functions, and the proofs that they are; no condition. -/
import Derived.Test.YtmhcmcdppimcpaaPFnExactMoveMarksx0
namespace Go.Proofs.Ytmhcmcdppimcpaa.PFnExactMoveMarks
open Go.RowKit Go.Proofs.YtmhcmcdppimcpaaW.PrintWords Go.Proofs.YtmhcmcdppimcpaaW.PrintLast Go.Proofs.YtmhcmcdppimcpaaW.PrintMore
attribute [local go_sem] max2_int min2_int max_two min_two max_three min_three max_four min_four   -- for this text's walks alone
set_option linter.unusedVariables false
set_option linter.unusedSimpArgs false
mutual
def spec_l5Add.l0 : Nat → List (S67) → Bool → List (S67) → Int → Int → Int → Int → ByteArray → Option ((List (S67)))
 | 0, _, _, _, _, _, _, _, _ => none
 | k + 1, x5, x6, x9, x10, x11, x208000, x208001, x208002 => if x11 < x10 then (if 0 ≤ x11 then (if x11 < (x9.length : Int) then (if (Op.bytesLess (((rd_T67 x9 x11).f2).toList) x208002.toList) = true then (spec_l5Add.j1 k x5 x6 x9 x10 x11 true x208000 x208001 x208002 ((rd_T67 x9 x11).f0) ((rd_T67 x9 x11).f1) ((rd_T67 x9 x11).f2)) else (if ((rd_T67 x9 x11).f2).toList = x208002.toList then (spec_l5Add.j1 k x5 x6 x9 x10 x11 (decide (((rd_T67 x9 x11).f1) < x208000)) x208000 x208001 x208002 ((rd_T67 x9 x11).f0) ((rd_T67 x9 x11).f1) ((rd_T67 x9 x11).f2)) else (spec_l5Add.j1 k x5 x6 x9 x10 x11 false x208000 x208001 x208002 ((rd_T67 x9 x11).f0) ((rd_T67 x9 x11).f1) ((rd_T67 x9 x11).f2)))) else (none)) else (none)) else (if x6 = true then (some x5) else (if x5.length < 4398046511104 then (some (x5 ++ [(⟨x208000, x208001, x208002⟩ : S67)])) else (none)))
def spec_l5Add.j1 : Nat → List (S67) → Bool → List (S67) → Int → Int → Bool → Int → Int → ByteArray → Int → Int → ByteArray → Option ((List (S67)))
 | 0, _, _, _, _, _, _, _, _, _, _, _, _ => none
 | k + 1, x5, x6, x9, x10, x11, x31, x208000, x208001, x208002, x213000, x213001, x213002 => if x31 = true then (if x5.length < 4398046511104 then (spec_l5Add.l0 k (x5 ++ [(⟨x213000, x213001, x213002⟩ : S67)]) x6 x9 x10 (wrap64 (x11 + 1)) x208000 x208001 x208002) else (none)) else (if (Op.bytesLess x208002.toList x213002.toList) = true then (spec_l5Add.j2 k x5 x6 x9 x10 x11 true x208000 x208001 x208002 x213000 x213001 x213002) else (spec_l5Add.j2 k x5 x6 x9 x10 x11 (decide (x213000 > x208001)) x208000 x208001 x208002 x213000 x213001 x213002))
def spec_l5Add.j2 : Nat → List (S67) → Bool → List (S67) → Int → Int → Bool → Int → Int → ByteArray → Int → Int → ByteArray → Option ((List (S67)))
 | 0, _, _, _, _, _, _, _, _, _, _, _, _ => none
 | k + 1, x5, x6, x9, x10, x11, x55, x208000, x208001, x208002, x213000, x213001, x213002 => if x55 = true then (if x6 = true then (if x5.length < 4398046511104 then (spec_l5Add.l0 k (x5 ++ [(⟨x213000, x213001, x213002⟩ : S67)]) x6 x9 x10 (wrap64 (x11 + 1)) x208000 x208001 x208002) else (none)) else (if x5.length < 4398046511104 then ((some (x5 ++ [(⟨x208000, x208001, x208002⟩ : S67)] : List (S67))).bind fun y219 => (if y219.length < 4398046511104 then (spec_l5Add.l0 k (y219 ++ [(⟨x213000, x213001, x213002⟩ : S67)]) true x9 x10 (wrap64 (x11 + 1)) x208000 x208001 x208002) else (none))) else (none))) else (if x213000 < x208000 then (if x213001 > x208001 then (spec_l5Add.l0 k x5 x6 x9 x10 (wrap64 (x11 + 1)) x213000 x213001 x208002) else (spec_l5Add.l0 k x5 x6 x9 x10 (wrap64 (x11 + 1)) x213000 x208001 x208002)) else (if x213001 > x208001 then (spec_l5Add.l0 k x5 x6 x9 x10 (wrap64 (x11 + 1)) x208000 x213001 x208002) else (spec_l5Add.l0 k x5 x6 x9 x10 (wrap64 (x11 + 1)) x208000 x208001 x208002)))
end
def spec_l5Add.f (k : Nat) (l0 : List (S67)) (a1_0 : Int) (a1_1 : Int) (a1_2 : ByteArray) : Option ((List (S67))) := spec_l5Add.l0 k ([] : List (S67)) false l0 (l0.length : Int) 0 a1_0 a1_1 a1_2
theorem spec_l5Add.mono_l : ∀ k, (∀ y0 y1 y2 y3 y4 y5 y6 y7, LeO (spec_l5Add.l0 k y0 y1 y2 y3 y4 y5 y6 y7) (spec_l5Add.l0 (k + 1) y0 y1 y2 y3 y4 y5 y6 y7)) ∧ (∀ y0 y1 y2 y3 y4 y5 y6 y7 y8 y9 y10 y11, LeO (spec_l5Add.j1 k y0 y1 y2 y3 y4 y5 y6 y7 y8 y9 y10 y11) (spec_l5Add.j1 (k + 1) y0 y1 y2 y3 y4 y5 y6 y7 y8 y9 y10 y11)) ∧ (∀ y0 y1 y2 y3 y4 y5 y6 y7 y8 y9 y10 y11, LeO (spec_l5Add.j2 k y0 y1 y2 y3 y4 y5 y6 y7 y8 y9 y10 y11) (spec_l5Add.j2 (k + 1) y0 y1 y2 y3 y4 y5 y6 y7 y8 y9 y10 y11))
 | 0 => ⟨fun _ _ _ _ _ _ _ _ r h => by simp [spec_l5Add.l0] at h, fun _ _ _ _ _ _ _ _ _ _ _ _ r h => by simp [spec_l5Add.j1] at h, fun _ _ _ _ _ _ _ _ _ _ _ _ r h => by simp [spec_l5Add.j2] at h⟩
 | k + 1 => by
  obtain ⟨ih0, ih1, ih2⟩ := spec_l5Add.mono_l k
  refine ⟨?_, ?_, ?_⟩
  ·intro y0 y1 y2 y3 y4 y5 y6 y7
   unfold spec_l5Add.l0
   repeat' (with_reducible first | exact ih0 _ _ _ _ _ _ _ _ | exact ih1 _ _ _ _ _ _ _ _ _ _ _ _ | exact ih2 _ _ _ _ _ _ _ _ _ _ _ _ | exact LeO.refl _ | exact LeO.none _ | refine LeO.ite ?_ ?_ | refine LeO.bind ?_ (fun _ => ?_))
  ·intro y0 y1 y2 y3 y4 y5 y6 y7 y8 y9 y10 y11
   unfold spec_l5Add.j1
   repeat' (with_reducible first | exact ih0 _ _ _ _ _ _ _ _ | exact ih1 _ _ _ _ _ _ _ _ _ _ _ _ | exact ih2 _ _ _ _ _ _ _ _ _ _ _ _ | exact LeO.refl _ | exact LeO.none _ | refine LeO.ite ?_ ?_ | refine LeO.bind ?_ (fun _ => ?_))
  ·intro y0 y1 y2 y3 y4 y5 y6 y7 y8 y9 y10 y11
   unfold spec_l5Add.j2
   repeat' (with_reducible first | exact ih0 _ _ _ _ _ _ _ _ | exact ih1 _ _ _ _ _ _ _ _ _ _ _ _ | exact ih2 _ _ _ _ _ _ _ _ _ _ _ _ | exact LeO.refl _ | exact LeO.none _ | refine LeO.ite ?_ ?_ | refine LeO.bind ?_ (fun _ => ?_))
theorem spec_l5Add.mono : ∀ a0 a1 a2 a3 k, LeO (spec_l5Add.f k a0 a1 a2 a3) (spec_l5Add.f (k + 1) a0 a1 a2 a3) := by
 intro a0 a1 a2 a3 k
 obtain ⟨ih0, ih1, ih2⟩ := spec_l5Add.mono_l k
 unfold spec_l5Add.f
 repeat' (with_reducible first | exact ih0 _ _ _ _ _ _ _ _ | exact ih1 _ _ _ _ _ _ _ _ _ _ _ _ | exact ih2 _ _ _ _ _ _ _ _ _ _ _ _ | exact LeO.refl _ | exact LeO.none _ | refine LeO.ite ?_ ?_ | refine LeO.bind ?_ (fun _ => ?_))
set_option maxHeartbeats 8000000 in
set_option maxRecDepth 100000 in
theorem spec_l5Add.calls (k : Nat) (A0 : Option Addr) (c0 : Nat) (l0 : List (S67)) (a1_0 : Int) (a1_1 : Int) (a1_2 : ByteArray) (r : List (S67)) (w : World) (hr0 : Kd.C k67 w A0 l0.length l0) (hc0 : l0.length ≤ c0) (h : spec_l5Add.f k l0 a1_0 a1_1 a1_2 = some r) :
  Calls Try.prog 55 #[.slice A0 l0.length c0, .agg #[.int .i64 a1_0, .int .i64 a1_1, .string a1_2]] w fun e w' => ∃ v0_ : Value, e = .returned (v0_) ∧ Kd.R k67 67 w' w.heap.size (fun _ => True) v0_ r ∧ Below w.heap.size w w' := by
 have hu67 := Try.underlying67
 have HR0 := aM hr0
 have HC0 := aM hc0
 clear hr0 hc0
 have HB := aM (Below.refl w.heap.size w)
 have H : (spec_l5Add.l0 k ([] : List (S67)) false l0 (l0.length : Int) 0 a1_0 a1_1 a1_2) = some r := h
 clear h
 have H' := aM H
 clear H
 go_enter Try.func55, Try.ntmps55
 go_wp2_with (first | ((with_reducible refine gate_dst (N := 3) rfl ?_); refine box_event ?hg (N := 3) ?hd (cs := #[.int .i64 a1_0, .int .i64 a1_1, .string a1_2]) (t := 67) ?hr ?_; (case hd => rfl); (case hg => rfl); (case hr => exact aP40); intro gb207 hg w3 hbox hb; have BK207 := aM (hbox); have GW207 := aM (bG (w := w) hg); have GE207 := aM (bG (w := w) hg); replace HB := aM (below_step bB hb); clear hb hbox hg))
 go_loopg [5, 6, 11] k (fun kq v5 v6 v11 w' => ∃ (x5_1 : List (S67)) (x6_1 : Bool) (x11_1 : Int) (x208000_1 : Int) (x208001_1 : Int), v6 = .bool x6_1 ∧ v11 = .int .i64 x11_1 ∧ Aside0 (spec_l5Add.l0 kq x5_1 x6_1 l0 (l0.length : Int) x11_1 x208000_1 x208001_1 a1_2 = some r) ∧ Aside0 (kq ≤ k) ∧ Aside0 (Kd.R k67 67 w' w.heap.size (fun k_ => k_ ≠ gb207) v5 x5_1) ∧ Aside0 (w'.heap[gb207]? = some (.cells #[.int .i64 x208000_1, .int .i64 x208001_1, .string a1_2] 67 (0, 0))) ∧ Aside0 (Below w.heap.size w w'))
 case atStart => exact ⟨(([] : List (S67))), (false), (0), (a1_0), (a1_1), aP32, aP32, H', ⟨Nat.le_refl _⟩, ⟨by first | exact Kd.R_nil _ _ _ _ _ | exact Kd.N_nil _ _ _ _ _ | exact Kd.V_nil _ _ _ _ _ | exact Kd.Q_nil _ _ _ _ _ | exact Kd.S_nil _ _ _ _ _⟩, ⟨kK BK207.out⟩, ⟨aP16⟩⟩
 case round =>
  clear H'
  try clear p2
  obtain ⟨x5_1, x6_1, x11_1, x208000_1, x208001_1, rfl, rfl, HA, HK1, HO_5, BK207, HB⟩ := hrel
  cases gk with
  | zero => exact absurd HA.out (by simp [spec_l5Add.l0])
  | succ k1 =>
   have H := HA.out
   clear HA
   simp only [spec_l5Add.l0] at H
   by_cases c4 : x11_1 < (l0.length : Int)
   rotate_left
   ·rw [if_neg c4] at H
    have c4b0 : decide (x11_1 < (l0.length : Int)) = false := decide_eq_false c4
    clear c4
    by_cases c63 : x6_1 = true
    ·subst c63
     replace H : (some x5_1) = some r := by rw [if_pos rfl] at H; exact H
     obtain rfl := Option.some.inj H
     go_wp2
     go_ret
     exact ⟨_, by first | rfl | (simp [errW_none, errW_some] <;> rfl) | (simp [*, errW_none, errW_some] <;> rfl), by (with_reducible repeat (first | apply Kd.R_alloc | apply Kd.R_drewN | apply Kd.R_drew)); exact Kd.R_mono HO_5.out (fun _ hk => trivial), aP16⟩
    replace c63 := Bool.eq_false_iff.mpr c63
    subst c63
    replace H : (if x5_1.length < 4398046511104 then (some (x5_1 ++ [(⟨x208000_1, x208001_1, a1_2⟩ : S67)])) else (none)) = some r := by rw [if_neg (show ¬ (false = true) by decide)] at H; exact H
    by_cases c64 : x5_1.length < 4398046511104
    rotate_left
    ·rw [if_neg c64] at H
     exact absurd H (by simp)
    rw [if_pos c64] at H
    have LMc64 := aM c64
    clear c64
    obtain ⟨y208, hy208⟩ : ∃ y_ : List (S67), y_ = (x5_1 ++ [(⟨x208000_1, x208001_1, a1_2⟩ : S67)]) := ⟨_, rfl⟩
    replace H : (some y208) = some r := by first | (rw [hy208]; with_reducible exact H) | (have H2_ := (Option.bind_some _ _).symm.trans H; rw [hy208]; with_reducible exact H2_) | (have H2_ := (Option.bind_some _ _).symm.trans H; with_reducible exact H2_) | with_reducible exact H | (rw [hy208]; exact H) | exact H
    have Ny208 := aM hy208
    clear hy208
    obtain rfl := Option.some.inj H
    have hcz65_0 : wr.cell? ⟨gb207, 0, none⟩ = some (.int .i64 x208000_1) := (blk_cell BK207.out 0).trans rfl
    have hcz65_1 : wr.cell? ⟨gb207, 1, none⟩ = some (.int .i64 x208001_1) := (blk_cell BK207.out 1).trans rfl
    have hcz65_2 : wr.cell? ⟨gb207, 2, none⟩ = some (.string a1_2) := (blk_cell BK207.out 2).trans rfl
    have hfz65_0 := blk_frozen BK207.out 0
    have hfz65_1 := blk_frozen BK207.out 1
    have hfz65_2 := blk_frozen BK207.out 2
    go_wp2_with (first | ((with_reducible refine gate_builtin (b := .append) (xs := #[.tmp 81, .tmp 83]) rfl ?_); at_builtin; refine Kd.R_append k67 (w0 := w) w.heap.size rfl (.tmp 81) (.tmp 83) 25 67 (.agg #[(.int .i64 0), (.int .i64 0), (.string ⟨#[]⟩)]) 32 rfl Try.underlying25 info67 rfl (by decide) (by omega) u5 x5_1 (⟨x208000_1, x208001_1, a1_2⟩ : S67) [.int .i64 x208000_1, .int .i64 x208001_1, .string a1_2] (fun k_ => k_ ≠ gb207) (fun _ => False) rfl rfl ?aP (fun _ hk => hk.elim) ?aF ?aO ?aB ?aS ?aL ?_; (case aP => exact k67_mkM _ _ _ (⟨x208000_1, x208001_1, a1_2⟩ : S67)); (case aB => exact aP16); (case aF => exact (fun k_ hk => Kd.freshB (g := gb207) (o := .cells #[.int .i64 x208000_1, .int .i64 x208001_1, .string a1_2] 67 (0, 0)) (kK BK207.out) k_ hk)); (case aO => exact (rR HO_5.out)); (case aS => exact (below_size aP16)); (case aL => have := LMc64.out; omega); intro v209 w66 ho hb hg hat; rw [← Ny208.out] at ho; have HO210 := aM (ho); replace BK207 := aM (blk_grown (g := gb207) (o := .cells #[.int .i64 x208000_1, .int .i64 x208001_1, .string a1_2] 67 (0, 0)) (kK BK207.out) hg (Kd.R_away HO_5.out (fun _ hk => hk))); replace HB := aM (hb); clear ho hb hg hat))
    go_ret
    exact ⟨_, by first | rfl | (simp [errW_none, errW_some] <;> rfl) | (simp [*, errW_none, errW_some] <;> rfl), by (with_reducible repeat (first | apply Kd.R_alloc | apply Kd.R_drewN | apply Kd.R_drew)); exact Kd.R_mono HO210.out (fun _ hk => trivial), aP16⟩
   rw [if_pos c4] at H
   have c4b0 : decide (x11_1 < (l0.length : Int)) = true := decide_eq_true c4
   clear c4
   by_cases c5 : 0 ≤ x11_1
   rotate_left
   ·rw [if_neg c5] at H
    exact absurd H (by simp)
   rw [if_pos c5] at H
   have c5b0 : decide (0 ≤ x11_1) = true := decide_eq_true c5
   clear c5
   by_cases c6 : x11_1 < (l0.length : Int)
   rotate_left
   ·rw [if_neg c6] at H
    exact absurd H (by simp)
   rw [if_pos c6] at H
   have c6b0 : decide (x11_1 < (l0.length : Int)) = true := decide_eq_true c6
   clear c6
   have HC7 := aM H
   clear H
   have p211 : 0 ≤ (x11_1 : Int) := of_decide_eq_true (by assumption)
   have q211 : x11_1 < (l0.length : Int) := of_decide_eq_true (by assumption)
   obtain ⟨ad211, e211, hx211_0, hx211_1, hx211_2⟩ := at_T67 HR0.out x11_1 p211 q211
   cases e211
   replace hx211_0 := hC HB.out hx211_0
   replace hx211_1 := hC HB.out hx211_1
   replace hx211_2 := hC HB.out hx211_2
   replace p211 := eq_true p211
   replace q211 := eq_true q211
   go_upto_region 10 with (first | ((with_reducible refine gate_dst (N := 8) rfl ?_); refine box_event ?hg (N := 8) ?hd (cs := #[.int .i64 0, .int .i64 0, .string (⟨#[]⟩ : ByteArray)]) (t := 67) ?hr ?_; (case hd => rfl); (case hg => rfl); (case hr => exact aP40); intro gb212 hg w8 hbox hb; have n0_ := aM (Kd.R_below (Kd.R_elderB (rR HO_5.out) gb212 (Nat.le_of_eq hg.symm)) hb); have n1_ := aM (blk_below (g := gb207) (o := .cells #[.int .i64 x208000_1, .int .i64 x208001_1, .string a1_2] 67 (0, 0)) (kK BK207.out) hb); have n2_ := aM (below_step aP16 hb); have n3_ := aM (hbox); have n4_ := aM ((by rw [hg]; exact (below_size aP16) : w.heap.size ≤ gb212)); have n5_ := aM ((by rw [hg]; exact (below_size aP16) : w.heap.size ≤ gb212)); have n6_ := aM ((by rw [hg]; exact Nat.ne_of_lt (blk_lt (g := gb207) (o := .cells #[.int .i64 x208000_1, .int .i64 x208001_1, .string a1_2] 67 (0, 0)) (kK BK207.out)) : gb207 ≠ gb212)); have n7_ := aM ((by rw [hg]; exact Nat.ne_of_gt (blk_lt (g := gb207) (o := .cells #[.int .i64 x208000_1, .int .i64 x208001_1, .string a1_2] 67 (0, 0)) (kK BK207.out)) : gb212 ≠ gb207)); clear HO_5; clear BK207; clear HB; have HO_5 := n0_; have BK207 := n1_; have HB := n2_; have BK212 := n3_; have GW212 := n4_; have GE212 := n5_; have NB207_212 := n6_; have NB212_207 := n7_; clear n0_ n1_ n2_ n3_ n4_ n5_ n6_ n7_; clear hb hbox hg; have hnb9 := NB212_207.out; have hnc9 := NB207_212.out; obtain ⟨hcz10_0, hcz10_1, hcz10_2, hfz10_0, hfz10_1, hfz10_2⟩ := bx3 BK212.out))
   (try simp only [Act.put, List.setIfInBounds_toArray, List.set_cons_zero, List.set_cons_succ])
   go_cut [31] (fun v31 wc => ∃ (kq : Nat) (x31_6 : Bool), v31 = .bool x31_6 ∧ Aside0 (spec_l5Add.j1 kq x5_1 x6_1 l0 (l0.length : Int) x11_1 x31_6 x208000_1 x208001_1 a1_2 ((rd_T67 l0 x11_1).f0) ((rd_T67 l0 x11_1).f1) ((rd_T67 l0 x11_1).f2) = some r) ∧ Aside0 (kq ≤ k1) ∧ Aside0 (Kd.R k67 67 wc w.heap.size (fun k_ => k_ ≠ gb207 ∧ k_ ≠ gb212) u5 x5_1) ∧ Aside0 (wc.heap[gb207]? = some (.cells #[.int .i64 x208000_1, .int .i64 x208001_1, .string a1_2] 67 (0, 0))) ∧ Aside0 (wc.heap[gb212]? = some (.cells #[.int .i64 ((rd_T67 l0 x11_1).f0), .int .i64 ((rd_T67 l0 x11_1).f1), .string ((rd_T67 l0 x11_1).f2)] 67 (0, 0))) ∧ Aside0 (Below w.heap.size w wc))
   case first =>
    have H := HC7.out
    clear HC7
    by_cases c11 : (Op.bytesLess (((rd_T67 l0 x11_1).f2).toList) a1_2.toList) = true
    ·rw [if_pos c11] at H
     have c11b0 : (Op.bytesLess (((rd_T67 l0 x11_1).f2).toList) a1_2.toList) = true := c11
     clear c11
     (first | rw [c11b0] | (simp only [i64_w, i32_w]; rw [c11b0]) | rw [c11e] | skip)
     have H' := aM H
     clear H
     have hnb12 := NB212_207.out
     have hnc12 := NB207_212.out
     have hcz13_0 : w8.cell? ⟨gb212, 0, none⟩ = some (.int .i64 0) := (blk_cell BK212.out 0).trans rfl
     have hcz13_1 : w8.cell? ⟨gb212, 1, none⟩ = some (.int .i64 0) := (blk_cell BK212.out 1).trans rfl
     have hcz13_2 : w8.cell? ⟨gb212, 2, none⟩ = some (.string (⟨#[]⟩ : ByteArray)) := (blk_cell BK212.out 2).trans rfl
     have hfz13_0 := blk_frozen BK212.out 0
     have hfz13_1 := blk_frozen BK212.out 1
     have hfz13_2 := blk_frozen BK212.out 2
     have hcz14_0 : w8.cell? ⟨gb207, 0, none⟩ = some (.int .i64 x208000_1) := (blk_cell BK207.out 0).trans rfl
     have hcz14_1 : w8.cell? ⟨gb207, 1, none⟩ = some (.int .i64 x208001_1) := (blk_cell BK207.out 1).trans rfl
     have hcz14_2 : w8.cell? ⟨gb207, 2, none⟩ = some (.string a1_2) := (blk_cell BK207.out 2).trans rfl
     have hfz14_0 := blk_frozen BK207.out 0
     have hfz14_1 := blk_frozen BK207.out 1
     have hfz14_2 := blk_frozen BK207.out 2
     go_wp2
     go_meet
     case rel => exact ⟨_, (true), aP32, H', ⟨by have := HK1.out; first | omega | exact Nat.le_refl _⟩, ⟨by (with_reducible repeat (first | apply Kd.R_alloc | apply Kd.R_drewN | apply Kd.R_drew)); exact Kd.R_mono (Kd.R_far (p := ⟨gb212, 2, none⟩) (Kd.R_far (p := ⟨gb212, 1, none⟩) (Kd.R_far (p := ⟨gb212, 0, none⟩) (Kd.R_mono HO_5.out (fun k_ hk => (⟨hk, hk.2⟩ : _ ∧ k_ ≠ gb212))) (fun _ hk => hk.2) (.int .i64 ((rd_T67 l0 x11_1).f0))) (fun _ hk => hk.2) (.int .i64 ((rd_T67 l0 x11_1).f1))) (fun _ hk => hk.2) (.string ((rd_T67 l0 x11_1).f2))) (fun _ hk => ⟨hk.1.1, hk.1.2⟩)⟩, ⟨by (with_reducible repeat (first | refine blk_drewN ?_ _ | refine blk_drew ?_ | refine blk_alloc ?_ _)); refine blk_far ?_ NB207_212.out _; (with_reducible repeat (first | refine blk_drewN ?_ _ | refine blk_drew ?_ | refine blk_alloc ?_ _)); refine blk_far ?_ NB207_212.out _; (with_reducible repeat (first | refine blk_drewN ?_ _ | refine blk_drew ?_ | refine blk_alloc ?_ _)); refine blk_far ?_ NB207_212.out _; (with_reducible repeat (first | refine blk_drewN ?_ _ | refine blk_drew ?_ | refine blk_alloc ?_ _)); exact BK207.out⟩, ⟨by (with_reducible repeat (first | refine blk_drewN ?_ _ | refine blk_drew ?_ | refine blk_alloc ?_ _)); refine blk_put (cs := #[.int .i64 ((rd_T67 l0 x11_1).f0), .int .i64 ((rd_T67 l0 x11_1).f1), .string (⟨#[]⟩ : ByteArray)]) ?_ 2 _ rfl; (with_reducible repeat (first | refine blk_drewN ?_ _ | refine blk_drew ?_ | refine blk_alloc ?_ _)); refine blk_put (cs := #[.int .i64 ((rd_T67 l0 x11_1).f0), .int .i64 0, .string (⟨#[]⟩ : ByteArray)]) ?_ 1 _ rfl; (with_reducible repeat (first | refine blk_drewN ?_ _ | refine blk_drew ?_ | refine blk_alloc ?_ _)); refine blk_put (cs := #[.int .i64 0, .int .i64 0, .string (⟨#[]⟩ : ByteArray)]) ?_ 0 _ rfl; (with_reducible repeat (first | refine blk_drewN ?_ _ | refine blk_drew ?_ | refine blk_alloc ?_ _)); exact BK212.out⟩, ⟨aP2⟩⟩
    rw [if_neg c11] at H
    have c11b0 : (Op.bytesLess (((rd_T67 l0 x11_1).f2).toList) a1_2.toList) = false := by simpa using c11
    clear c11
    (first | rw [c11b0] | (simp only [i64_w, i32_w]; rw [c11b0]) | rw [c11e] | skip)
    by_cases c15 : ((rd_T67 l0 x11_1).f2).toList = a1_2.toList
    rotate_left
    ·rw [if_neg c15] at H
     have c15b0 : (((rd_T67 l0 x11_1).f2).toList == a1_2.toList) = false := beq_eq_false_iff_ne.mpr c15
     have c15b1 : (((rd_T67 l0 x11_1).f2).toList != a1_2.toList) = true := bne_iff_ne.mpr c15
     have H' := aM H
     clear H
     have hnb19 := NB212_207.out
     have hnc19 := NB207_212.out
     have hcz20_0 : w8.cell? ⟨gb212, 0, none⟩ = some (.int .i64 0) := (blk_cell BK212.out 0).trans rfl
     have hcz20_1 : w8.cell? ⟨gb212, 1, none⟩ = some (.int .i64 0) := (blk_cell BK212.out 1).trans rfl
     have hcz20_2 : w8.cell? ⟨gb212, 2, none⟩ = some (.string (⟨#[]⟩ : ByteArray)) := (blk_cell BK212.out 2).trans rfl
     have hfz20_0 := blk_frozen BK212.out 0
     have hfz20_1 := blk_frozen BK212.out 1
     have hfz20_2 := blk_frozen BK212.out 2
     have hcz21_0 : w8.cell? ⟨gb207, 0, none⟩ = some (.int .i64 x208000_1) := (blk_cell BK207.out 0).trans rfl
     have hcz21_1 : w8.cell? ⟨gb207, 1, none⟩ = some (.int .i64 x208001_1) := (blk_cell BK207.out 1).trans rfl
     have hcz21_2 : w8.cell? ⟨gb207, 2, none⟩ = some (.string a1_2) := (blk_cell BK207.out 2).trans rfl
     have hfz21_0 := blk_frozen BK207.out 0
     have hfz21_1 := blk_frozen BK207.out 1
     have hfz21_2 := blk_frozen BK207.out 2
     go_wp2
     go_meet
     case rel => exact ⟨_, (false), aP32, H', ⟨by have := HK1.out; first | omega | exact Nat.le_refl _⟩, ⟨by (with_reducible repeat (first | apply Kd.R_alloc | apply Kd.R_drewN | apply Kd.R_drew)); exact Kd.R_mono (Kd.R_far (p := ⟨gb212, 2, none⟩) (Kd.R_far (p := ⟨gb212, 1, none⟩) (Kd.R_far (p := ⟨gb212, 0, none⟩) (Kd.R_mono HO_5.out (fun k_ hk => (⟨hk, hk.2⟩ : _ ∧ k_ ≠ gb212))) (fun _ hk => hk.2) (.int .i64 ((rd_T67 l0 x11_1).f0))) (fun _ hk => hk.2) (.int .i64 ((rd_T67 l0 x11_1).f1))) (fun _ hk => hk.2) (.string ((rd_T67 l0 x11_1).f2))) (fun _ hk => ⟨hk.1.1, hk.1.2⟩)⟩, ⟨by (with_reducible repeat (first | refine blk_drewN ?_ _ | refine blk_drew ?_ | refine blk_alloc ?_ _)); refine blk_far ?_ NB207_212.out _; (with_reducible repeat (first | refine blk_drewN ?_ _ | refine blk_drew ?_ | refine blk_alloc ?_ _)); refine blk_far ?_ NB207_212.out _; (with_reducible repeat (first | refine blk_drewN ?_ _ | refine blk_drew ?_ | refine blk_alloc ?_ _)); refine blk_far ?_ NB207_212.out _; (with_reducible repeat (first | refine blk_drewN ?_ _ | refine blk_drew ?_ | refine blk_alloc ?_ _)); exact BK207.out⟩, ⟨by (with_reducible repeat (first | refine blk_drewN ?_ _ | refine blk_drew ?_ | refine blk_alloc ?_ _)); refine blk_put (cs := #[.int .i64 ((rd_T67 l0 x11_1).f0), .int .i64 ((rd_T67 l0 x11_1).f1), .string (⟨#[]⟩ : ByteArray)]) ?_ 2 _ rfl; (with_reducible repeat (first | refine blk_drewN ?_ _ | refine blk_drew ?_ | refine blk_alloc ?_ _)); refine blk_put (cs := #[.int .i64 ((rd_T67 l0 x11_1).f0), .int .i64 0, .string (⟨#[]⟩ : ByteArray)]) ?_ 1 _ rfl; (with_reducible repeat (first | refine blk_drewN ?_ _ | refine blk_drew ?_ | refine blk_alloc ?_ _)); refine blk_put (cs := #[.int .i64 0, .int .i64 0, .string (⟨#[]⟩ : ByteArray)]) ?_ 0 _ rfl; (with_reducible repeat (first | refine blk_drewN ?_ _ | refine blk_drew ?_ | refine blk_alloc ?_ _)); exact BK212.out⟩, ⟨aP2⟩⟩
    rw [if_pos c15] at H
    have c15b0 : (((rd_T67 l0 x11_1).f2).toList == a1_2.toList) = true := beq_iff_eq.mpr c15
    have c15b1 : (((rd_T67 l0 x11_1).f2).toList != a1_2.toList) = false := bne_eq_false_iff_eq.mpr c15
    clear c15
    have H' := aM H
    clear H
    have hnb16 := NB212_207.out
    have hnc16 := NB207_212.out
    have hcz17_0 : w8.cell? ⟨gb212, 0, none⟩ = some (.int .i64 0) := (blk_cell BK212.out 0).trans rfl
    have hcz17_1 : w8.cell? ⟨gb212, 1, none⟩ = some (.int .i64 0) := (blk_cell BK212.out 1).trans rfl
    have hcz17_2 : w8.cell? ⟨gb212, 2, none⟩ = some (.string (⟨#[]⟩ : ByteArray)) := (blk_cell BK212.out 2).trans rfl
    have hfz17_0 := blk_frozen BK212.out 0
    have hfz17_1 := blk_frozen BK212.out 1
    have hfz17_2 := blk_frozen BK212.out 2
    have hcz18_0 : w8.cell? ⟨gb207, 0, none⟩ = some (.int .i64 x208000_1) := (blk_cell BK207.out 0).trans rfl
    have hcz18_1 : w8.cell? ⟨gb207, 1, none⟩ = some (.int .i64 x208001_1) := (blk_cell BK207.out 1).trans rfl
    have hcz18_2 : w8.cell? ⟨gb207, 2, none⟩ = some (.string a1_2) := (blk_cell BK207.out 2).trans rfl
    have hfz18_0 := blk_frozen BK207.out 0
    have hfz18_1 := blk_frozen BK207.out 1
    have hfz18_2 := blk_frozen BK207.out 2
    go_wp2
    go_meet
    case rel => exact ⟨_, (decide (((rd_T67 l0 x11_1).f1) < x208000_1)), aP32, H', ⟨by have := HK1.out; first | omega | exact Nat.le_refl _⟩, ⟨by (with_reducible repeat (first | apply Kd.R_alloc | apply Kd.R_drewN | apply Kd.R_drew)); exact Kd.R_mono (Kd.R_far (p := ⟨gb212, 2, none⟩) (Kd.R_far (p := ⟨gb212, 1, none⟩) (Kd.R_far (p := ⟨gb212, 0, none⟩) (Kd.R_mono HO_5.out (fun k_ hk => (⟨hk, hk.2⟩ : _ ∧ k_ ≠ gb212))) (fun _ hk => hk.2) (.int .i64 ((rd_T67 l0 x11_1).f0))) (fun _ hk => hk.2) (.int .i64 ((rd_T67 l0 x11_1).f1))) (fun _ hk => hk.2) (.string ((rd_T67 l0 x11_1).f2))) (fun _ hk => ⟨hk.1.1, hk.1.2⟩)⟩, ⟨by (with_reducible repeat (first | refine blk_drewN ?_ _ | refine blk_drew ?_ | refine blk_alloc ?_ _)); refine blk_far ?_ NB207_212.out _; (with_reducible repeat (first | refine blk_drewN ?_ _ | refine blk_drew ?_ | refine blk_alloc ?_ _)); refine blk_far ?_ NB207_212.out _; (with_reducible repeat (first | refine blk_drewN ?_ _ | refine blk_drew ?_ | refine blk_alloc ?_ _)); refine blk_far ?_ NB207_212.out _; (with_reducible repeat (first | refine blk_drewN ?_ _ | refine blk_drew ?_ | refine blk_alloc ?_ _)); exact BK207.out⟩, ⟨by (with_reducible repeat (first | refine blk_drewN ?_ _ | refine blk_drew ?_ | refine blk_alloc ?_ _)); refine blk_put (cs := #[.int .i64 ((rd_T67 l0 x11_1).f0), .int .i64 ((rd_T67 l0 x11_1).f1), .string (⟨#[]⟩ : ByteArray)]) ?_ 2 _ rfl; (with_reducible repeat (first | refine blk_drewN ?_ _ | refine blk_drew ?_ | refine blk_alloc ?_ _)); refine blk_put (cs := #[.int .i64 ((rd_T67 l0 x11_1).f0), .int .i64 0, .string (⟨#[]⟩ : ByteArray)]) ?_ 1 _ rfl; (with_reducible repeat (first | refine blk_drewN ?_ _ | refine blk_drew ?_ | refine blk_alloc ?_ _)); refine blk_put (cs := #[.int .i64 0, .int .i64 0, .string (⟨#[]⟩ : ByteArray)]) ?_ 0 _ rfl; (with_reducible repeat (first | refine blk_drewN ?_ _ | refine blk_drew ?_ | refine blk_alloc ?_ _)); exact BK212.out⟩, ⟨aP2⟩⟩
   case rest =>
    clear HC7
    try clear c1
    try clear p2
    try clear q2
    try clear hx2
    try clear c4
    try clear c4b0
    try clear c5
    try clear c5b0
    try clear c6
    try clear c6b0
    try clear c9
    try clear c11
    try clear c11b0
    try clear c12
    try clear c15
    try clear c15b0
    try clear c15b1
    try clear c16
    try clear c19
    try clear p21
    try clear q21
    try clear hx21
    try clear hcz10_0
    try clear hcz10_1
    try clear hcz10_2
    try clear hcz13_0
    try clear hcz13_1
    try clear hcz13_2
    try clear hcz14_0
    try clear hcz14_1
    try clear hcz14_2
    try clear hcz17_0
    try clear hcz17_1
    try clear hcz17_2
    try clear hcz18_0
    try clear hcz18_1
    try clear hcz18_2
    try clear hcz20_0
    try clear hcz20_1
    try clear hcz20_2
    try clear hcz21_0
    try clear hcz21_1
    try clear hcz21_2
    try clear hfz10_0
    try clear hfz10_1
    try clear hfz10_2
    try clear hfz13_0
    try clear hfz13_1
    try clear hfz13_2
    try clear hfz14_0
    try clear hfz14_1
    try clear hfz14_2
    try clear hfz17_0
    try clear hfz17_1
    try clear hfz17_2
    try clear hfz18_0
    try clear hfz18_1
    try clear hfz18_2
    try clear hfz20_0
    try clear hfz20_1
    try clear hfz20_2
    try clear hfz21_0
    try clear hfz21_1
    try clear hfz21_2
    try clear hx211_0
    try clear hx211_1
    try clear hx211_2
    try clear p2
    try clear p211
    try clear q211
    obtain ⟨kq, x31_6, rfl, HA, HJ6, HO_5, BK207, BK212, HB⟩ := hcut
    cases kq with
    | zero => exact absurd HA.out (by simp [spec_l5Add.j1])
    | succ kj6 =>
     have H := HA.out
     clear HA
     simp only [spec_l5Add.j1] at H
     by_cases c22 : x31_6 = true
     ·subst c22
      replace H : (if x5_1.length < 4398046511104 then (spec_l5Add.l0 kj6 (x5_1 ++ [(⟨((rd_T67 l0 x11_1).f0), ((rd_T67 l0 x11_1).f1), ((rd_T67 l0 x11_1).f2)⟩ : S67)]) x6_1 l0 (l0.length : Int) (wrap64 (x11_1 + 1)) x208000_1 x208001_1 a1_2) else (none)) = some r := by rw [if_pos rfl] at H; exact H
      by_cases c23 : x5_1.length < 4398046511104
      rotate_left
      ·rw [if_neg c23] at H
       exact absurd H (by simp)
      rw [if_pos c23] at H
      have LMc23 := aM c23
      clear c23
      obtain ⟨y213, hy213⟩ : ∃ y_ : List (S67), y_ = (x5_1 ++ [(⟨((rd_T67 l0 x11_1).f0), ((rd_T67 l0 x11_1).f1), ((rd_T67 l0 x11_1).f2)⟩ : S67)]) := ⟨_, rfl⟩
      replace H : (spec_l5Add.l0 kj6 y213 x6_1 l0 (l0.length : Int) (wrap64 (x11_1 + 1)) x208000_1 x208001_1 a1_2) = some r := by first | (rw [hy213]; with_reducible exact H) | (have H2_ := (Option.bind_some _ _).symm.trans H; rw [hy213]; with_reducible exact H2_) | (have H2_ := (Option.bind_some _ _).symm.trans H; with_reducible exact H2_) | with_reducible exact H | (rw [hy213]; exact H) | exact H
      have Ny213 := aM hy213
      clear hy213
      have H' := aM H
      clear H
      have hnb24 := NB212_207.out
      have hnc24 := NB207_212.out
      have hcz25_0 : wc.cell? ⟨gb212, 0, none⟩ = some (.int .i64 ((rd_T67 l0 x11_1).f0)) := (blk_cell BK212.out 0).trans rfl
      have hcz25_1 : wc.cell? ⟨gb212, 1, none⟩ = some (.int .i64 ((rd_T67 l0 x11_1).f1)) := (blk_cell BK212.out 1).trans rfl
      have hcz25_2 : wc.cell? ⟨gb212, 2, none⟩ = some (.string ((rd_T67 l0 x11_1).f2)) := (blk_cell BK212.out 2).trans rfl
      have hfz25_0 := blk_frozen BK212.out 0
      have hfz25_1 := blk_frozen BK212.out 1
      have hfz25_2 := blk_frozen BK212.out 2
      go_wp2_with (first | ((with_reducible refine gate_builtin (b := .append) (xs := #[.tmp 51, .tmp 53]) rfl ?_); at_builtin; refine Kd.R_append k67 (w0 := w) w.heap.size rfl (.tmp 51) (.tmp 53) 25 67 (.agg #[(.int .i64 0), (.int .i64 0), (.string ⟨#[]⟩)]) 32 rfl Try.underlying25 info67 rfl (by decide) (by omega) u5 x5_1 (⟨((rd_T67 l0 x11_1).f0), ((rd_T67 l0 x11_1).f1), ((rd_T67 l0 x11_1).f2)⟩ : S67) [.int .i64 ((rd_T67 l0 x11_1).f0), .int .i64 ((rd_T67 l0 x11_1).f1), .string ((rd_T67 l0 x11_1).f2)] (fun k_ => k_ ≠ gb207 ∧ k_ ≠ gb212) (fun _ => False) rfl rfl ?aP (fun _ hk => hk.elim) ?aF ?aO ?aB ?aS ?aL ?_; (case aP => exact k67_mkM _ _ _ (⟨((rd_T67 l0 x11_1).f0), ((rd_T67 l0 x11_1).f1), ((rd_T67 l0 x11_1).f2)⟩ : S67)); (case aB => exact aP2); (case aF => exact (fun k_ hk => ⟨Kd.freshB (g := gb207) (o := .cells #[.int .i64 x208000_1, .int .i64 x208001_1, .string a1_2] 67 (0, 0)) (kK BK207.out) k_ hk, Kd.freshB (g := gb212) (o := .cells #[.int .i64 ((rd_T67 l0 x11_1).f0), .int .i64 ((rd_T67 l0 x11_1).f1), .string ((rd_T67 l0 x11_1).f2)] 67 (0, 0)) (kK BK212.out) k_ hk⟩)); (case aO => exact (rR HO_5.out)); (case aS => exact (below_size aP2)); (case aL => have := LMc23.out; omega); intro v214 w26 ho hb hg hat; rw [← Ny213.out] at ho; have HO215 := aM (ho); replace BK207 := aM (blk_grown (g := gb207) (o := .cells #[.int .i64 x208000_1, .int .i64 x208001_1, .string a1_2] 67 (0, 0)) (kK BK207.out) hg (Kd.R_away HO_5.out (fun _ hk => hk.1))); replace BK212 := aM (blk_grown (g := gb212) (o := .cells #[.int .i64 ((rd_T67 l0 x11_1).f0), .int .i64 ((rd_T67 l0 x11_1).f1), .string ((rd_T67 l0 x11_1).f2)] 67 (0, 0)) (kK BK212.out) hg (Kd.R_away HO_5.out (fun _ hk => hk.2))); replace HB := aM (hb); clear ho hb hg hat))
      go_roundg kj6
      case measure => have := HK1.out; have := HJ6.out; omega
      case rel => exact ⟨(y213), (x6_1), (wrap64 (x11_1 + 1)), (x208000_1), (x208001_1), aP32, aP32, H', ⟨by have := HK1.out; have := HJ6.out; omega⟩, ⟨by (with_reducible repeat (first | apply Kd.R_alloc | apply Kd.R_drewN | apply Kd.R_drew)); exact Kd.R_mono HO215.out (fun _ hk => hk.1)⟩, ⟨kK BK207.out⟩, ⟨aP2⟩⟩
     replace c22 := Bool.eq_false_iff.mpr c22
     subst c22
     replace H : (if (Op.bytesLess a1_2.toList ((rd_T67 l0 x11_1).f2).toList) = true then (spec_l5Add.j2 kj6 x5_1 x6_1 l0 (l0.length : Int) x11_1 true x208000_1 x208001_1 a1_2 ((rd_T67 l0 x11_1).f0) ((rd_T67 l0 x11_1).f1) ((rd_T67 l0 x11_1).f2)) else (spec_l5Add.j2 kj6 x5_1 x6_1 l0 (l0.length : Int) x11_1 (decide (((rd_T67 l0 x11_1).f0) > x208001_1)) x208000_1 x208001_1 a1_2 ((rd_T67 l0 x11_1).f0) ((rd_T67 l0 x11_1).f1) ((rd_T67 l0 x11_1).f2))) = some r := by rw [if_neg (show ¬ (false = true) by decide)] at H; exact H
     have HC27 := aM H
     clear H
     go_upto_region 12 with (fail)
     go_cut [55] (fun v55 wc => ∃ (kq : Nat) (x55_26 : Bool), v55 = .bool x55_26 ∧ Aside0 (spec_l5Add.j2 kq x5_1 x6_1 l0 (l0.length : Int) x11_1 x55_26 x208000_1 x208001_1 a1_2 ((rd_T67 l0 x11_1).f0) ((rd_T67 l0 x11_1).f1) ((rd_T67 l0 x11_1).f2) = some r) ∧ Aside0 (kq ≤ kj6) ∧ Aside0 (Kd.R k67 67 wc w.heap.size (fun k_ => k_ ≠ gb207 ∧ k_ ≠ gb212) u5 x5_1) ∧ Aside0 (wc.heap[gb207]? = some (.cells #[.int .i64 x208000_1, .int .i64 x208001_1, .string a1_2] 67 (0, 0))) ∧ Aside0 (wc.heap[gb212]? = some (.cells #[.int .i64 ((rd_T67 l0 x11_1).f0), .int .i64 ((rd_T67 l0 x11_1).f1), .string ((rd_T67 l0 x11_1).f2)] 67 (0, 0))) ∧ Aside0 (Below w.heap.size w wc))
     case first =>
      have H := HC27.out
      clear HC27
      by_cases c28 : (Op.bytesLess a1_2.toList ((rd_T67 l0 x11_1).f2).toList) = true
      ·rw [if_pos c28] at H
       have c28b0 : (Op.bytesLess a1_2.toList ((rd_T67 l0 x11_1).f2).toList) = true := c28
       clear c28
       (first | rw [c28b0] | (simp only [i64_w, i32_w]; rw [c28b0]) | rw [c28e] | skip)
       have H' := aM H
       clear H
       have hnb29 := NB212_207.out
       have hnc29 := NB207_212.out
       have hcz30_0 : wc.cell? ⟨gb212, 0, none⟩ = some (.int .i64 ((rd_T67 l0 x11_1).f0)) := (blk_cell BK212.out 0).trans rfl
       have hcz30_1 : wc.cell? ⟨gb212, 1, none⟩ = some (.int .i64 ((rd_T67 l0 x11_1).f1)) := (blk_cell BK212.out 1).trans rfl
       have hcz30_2 : wc.cell? ⟨gb212, 2, none⟩ = some (.string ((rd_T67 l0 x11_1).f2)) := (blk_cell BK212.out 2).trans rfl
       have hfz30_0 := blk_frozen BK212.out 0
       have hfz30_1 := blk_frozen BK212.out 1
       have hfz30_2 := blk_frozen BK212.out 2
       have hcz31_0 : wc.cell? ⟨gb207, 0, none⟩ = some (.int .i64 x208000_1) := (blk_cell BK207.out 0).trans rfl
       have hcz31_1 : wc.cell? ⟨gb207, 1, none⟩ = some (.int .i64 x208001_1) := (blk_cell BK207.out 1).trans rfl
       have hcz31_2 : wc.cell? ⟨gb207, 2, none⟩ = some (.string a1_2) := (blk_cell BK207.out 2).trans rfl
       have hfz31_0 := blk_frozen BK207.out 0
       have hfz31_1 := blk_frozen BK207.out 1
       have hfz31_2 := blk_frozen BK207.out 2
       go_wp2
       go_meet
       case rel => exact ⟨_, (true), aP32, H', ⟨by have := HK1.out; have := HJ6.out; first | omega | exact Nat.le_refl _⟩, ⟨rR HO_5.out⟩, ⟨kK BK207.out⟩, ⟨kK BK212.out⟩, ⟨aP2⟩⟩
      rw [if_neg c28] at H
      have c28b0 : (Op.bytesLess a1_2.toList ((rd_T67 l0 x11_1).f2).toList) = false := by simpa using c28
      clear c28
      (first | rw [c28b0] | (simp only [i64_w, i32_w]; rw [c28b0]) | rw [c28e] | skip)
      have H' := aM H
      clear H
      have hnb32 := NB212_207.out
      have hnc32 := NB207_212.out
      have hcz33_0 : wc.cell? ⟨gb212, 0, none⟩ = some (.int .i64 ((rd_T67 l0 x11_1).f0)) := (blk_cell BK212.out 0).trans rfl
      have hcz33_1 : wc.cell? ⟨gb212, 1, none⟩ = some (.int .i64 ((rd_T67 l0 x11_1).f1)) := (blk_cell BK212.out 1).trans rfl
      have hcz33_2 : wc.cell? ⟨gb212, 2, none⟩ = some (.string ((rd_T67 l0 x11_1).f2)) := (blk_cell BK212.out 2).trans rfl
      have hfz33_0 := blk_frozen BK212.out 0
      have hfz33_1 := blk_frozen BK212.out 1
      have hfz33_2 := blk_frozen BK212.out 2
      have hcz34_0 : wc.cell? ⟨gb207, 0, none⟩ = some (.int .i64 x208000_1) := (blk_cell BK207.out 0).trans rfl
      have hcz34_1 : wc.cell? ⟨gb207, 1, none⟩ = some (.int .i64 x208001_1) := (blk_cell BK207.out 1).trans rfl
      have hcz34_2 : wc.cell? ⟨gb207, 2, none⟩ = some (.string a1_2) := (blk_cell BK207.out 2).trans rfl
      have hfz34_0 := blk_frozen BK207.out 0
      have hfz34_1 := blk_frozen BK207.out 1
      have hfz34_2 := blk_frozen BK207.out 2
      go_wp2
      go_meet
      case rel => exact ⟨_, (decide (((rd_T67 l0 x11_1).f0) > x208001_1)), aP32, H', ⟨by have := HK1.out; have := HJ6.out; first | omega | exact Nat.le_refl _⟩, ⟨rR HO_5.out⟩, ⟨kK BK207.out⟩, ⟨kK BK212.out⟩, ⟨aP2⟩⟩
     case rest =>
      clear HC27
      try clear c1
      try clear c2
      try clear p2
      try clear q2
      try clear hx2
      try clear c3
      try clear c4
      try clear c4b0
      try clear c5
      try clear c5b0
      try clear c6
      try clear c6b0
      try clear p6
      try clear c9
      try clear c11
      try clear c11b0
      try clear c12
      try clear c15
      try clear c15b0
      try clear c15b1
      try clear c16
      try clear c19
      try clear p21
      try clear q21
      try clear hx21
      try clear c22
      try clear c23
      try clear c24
      try clear c28
      try clear c28b0
      try clear c29
      try clear c32
      try clear hcz10_0
      try clear hcz10_1
      try clear hcz10_2
      try clear hcz13_0
      try clear hcz13_1
      try clear hcz13_2
      try clear hcz14_0
      try clear hcz14_1
      try clear hcz14_2
      try clear hcz17_0
      try clear hcz17_1
      try clear hcz17_2
      try clear hcz18_0
      try clear hcz18_1
      try clear hcz18_2
      try clear hcz20_0
      try clear hcz20_1
      try clear hcz20_2
      try clear hcz21_0
      try clear hcz21_1
      try clear hcz21_2
      try clear hcz25_0
      try clear hcz25_1
      try clear hcz25_2
      try clear hcz30_0
      try clear hcz30_1
      try clear hcz30_2
      try clear hcz31_0
      try clear hcz31_1
      try clear hcz31_2
      try clear hcz33_0
      try clear hcz33_1
      try clear hcz33_2
      try clear hcz34_0
      try clear hcz34_1
      try clear hcz34_2
      try clear hfz10_0
      try clear hfz10_1
      try clear hfz10_2
      try clear hfz13_0
      try clear hfz13_1
      try clear hfz13_2
      try clear hfz14_0
      try clear hfz14_1
      try clear hfz14_2
      try clear hfz17_0
      try clear hfz17_1
      try clear hfz17_2
      try clear hfz18_0
      try clear hfz18_1
      try clear hfz18_2
      try clear hfz20_0
      try clear hfz20_1
      try clear hfz20_2
      try clear hfz21_0
      try clear hfz21_1
      try clear hfz21_2
      try clear hfz25_0
      try clear hfz25_1
      try clear hfz25_2
      try clear hfz30_0
      try clear hfz30_1
      try clear hfz30_2
      try clear hfz31_0
      try clear hfz31_1
      try clear hfz31_2
      try clear hfz33_0
      try clear hfz33_1
      try clear hfz33_2
      try clear hfz34_0
      try clear hfz34_1
      try clear hfz34_2
      try clear hx211_0
      try clear hx211_1
      try clear hx211_2
      try clear p2
      try clear p21
      try clear p211
      try clear q2
      try clear q21
      try clear q211
      obtain ⟨kq, x55_26, rfl, HA, HJ26, HO_5, BK207, BK212, HB⟩ := hcut
      cases kq with
      | zero => exact absurd HA.out (by simp [spec_l5Add.j2])
      | succ kj26 =>
       have H := HA.out
       clear HA
       simp only [spec_l5Add.j2] at H
       by_cases c35 : x55_26 = true
       rotate_left
       ·replace c35 := Bool.eq_false_iff.mpr c35
        subst c35
        replace H : (if ((rd_T67 l0 x11_1).f0) < x208000_1 then (if ((rd_T67 l0 x11_1).f1) > x208001_1 then (spec_l5Add.l0 kj26 x5_1 x6_1 l0 (l0.length : Int) (wrap64 (x11_1 + 1)) ((rd_T67 l0 x11_1).f0) ((rd_T67 l0 x11_1).f1) a1_2) else (spec_l5Add.l0 kj26 x5_1 x6_1 l0 (l0.length : Int) (wrap64 (x11_1 + 1)) ((rd_T67 l0 x11_1).f0) x208001_1 a1_2)) else (if ((rd_T67 l0 x11_1).f1) > x208001_1 then (spec_l5Add.l0 kj26 x5_1 x6_1 l0 (l0.length : Int) (wrap64 (x11_1 + 1)) x208000_1 ((rd_T67 l0 x11_1).f1) a1_2) else (spec_l5Add.l0 kj26 x5_1 x6_1 l0 (l0.length : Int) (wrap64 (x11_1 + 1)) x208000_1 x208001_1 a1_2))) = some r := by rw [if_neg (show ¬ (false = true) by decide)] at H; exact H
        by_cases c48 : ((rd_T67 l0 x11_1).f0) < x208000_1
        rotate_left
        ·rw [if_neg c48] at H
         have c48b0 : decide (((rd_T67 l0 x11_1).f0) < x208000_1) = false := decide_eq_false c48
         clear c48
         by_cases c56 : ((rd_T67 l0 x11_1).f1) > x208001_1
         rotate_left
         ·rw [if_neg c56] at H
          have c56b0 : decide (x208001_1 < ((rd_T67 l0 x11_1).f1)) = false := decide_eq_false c56
          clear c56
          have H' := aM H
          clear H
          have hnb60 := NB212_207.out
          have hnc60 := NB207_212.out
          have hcz61_0 : wc.cell? ⟨gb212, 0, none⟩ = some (.int .i64 ((rd_T67 l0 x11_1).f0)) := (blk_cell BK212.out 0).trans rfl
          have hcz61_1 : wc.cell? ⟨gb212, 1, none⟩ = some (.int .i64 ((rd_T67 l0 x11_1).f1)) := (blk_cell BK212.out 1).trans rfl
          have hcz61_2 : wc.cell? ⟨gb212, 2, none⟩ = some (.string ((rd_T67 l0 x11_1).f2)) := (blk_cell BK212.out 2).trans rfl
          have hfz61_0 := blk_frozen BK212.out 0
          have hfz61_1 := blk_frozen BK212.out 1
          have hfz61_2 := blk_frozen BK212.out 2
          have hcz62_0 : wc.cell? ⟨gb207, 0, none⟩ = some (.int .i64 x208000_1) := (blk_cell BK207.out 0).trans rfl
          have hcz62_1 : wc.cell? ⟨gb207, 1, none⟩ = some (.int .i64 x208001_1) := (blk_cell BK207.out 1).trans rfl
          have hcz62_2 : wc.cell? ⟨gb207, 2, none⟩ = some (.string a1_2) := (blk_cell BK207.out 2).trans rfl
          have hfz62_0 := blk_frozen BK207.out 0
          have hfz62_1 := blk_frozen BK207.out 1
          have hfz62_2 := blk_frozen BK207.out 2
          go_wp2
          go_roundg kj26
          case measure => have := HK1.out; have := HJ6.out; have := HJ26.out; omega
          case rel => exact ⟨(x5_1), (x6_1), (wrap64 (x11_1 + 1)), (x208000_1), (x208001_1), aP32, aP32, H', ⟨by have := HK1.out; have := HJ6.out; have := HJ26.out; omega⟩, ⟨by (with_reducible repeat (first | apply Kd.R_alloc | apply Kd.R_drewN | apply Kd.R_drew)); exact Kd.R_mono HO_5.out (fun _ hk => hk.1)⟩, ⟨kK BK207.out⟩, ⟨aP2⟩⟩
         rw [if_pos c56] at H
         have c56b0 : decide (x208001_1 < ((rd_T67 l0 x11_1).f1)) = true := decide_eq_true c56
         clear c56
         have H' := aM H
         clear H
         have hnb57 := NB212_207.out
         have hnc57 := NB207_212.out
         have hcz58_0 : wc.cell? ⟨gb212, 0, none⟩ = some (.int .i64 ((rd_T67 l0 x11_1).f0)) := (blk_cell BK212.out 0).trans rfl
         have hcz58_1 : wc.cell? ⟨gb212, 1, none⟩ = some (.int .i64 ((rd_T67 l0 x11_1).f1)) := (blk_cell BK212.out 1).trans rfl
         have hcz58_2 : wc.cell? ⟨gb212, 2, none⟩ = some (.string ((rd_T67 l0 x11_1).f2)) := (blk_cell BK212.out 2).trans rfl
         have hfz58_0 := blk_frozen BK212.out 0
         have hfz58_1 := blk_frozen BK212.out 1
         have hfz58_2 := blk_frozen BK212.out 2
         have hcz59_0 : wc.cell? ⟨gb207, 0, none⟩ = some (.int .i64 x208000_1) := (blk_cell BK207.out 0).trans rfl
         have hcz59_1 : wc.cell? ⟨gb207, 1, none⟩ = some (.int .i64 x208001_1) := (blk_cell BK207.out 1).trans rfl
         have hcz59_2 : wc.cell? ⟨gb207, 2, none⟩ = some (.string a1_2) := (blk_cell BK207.out 2).trans rfl
         have hfz59_0 := blk_frozen BK207.out 0
         have hfz59_1 := blk_frozen BK207.out 1
         have hfz59_2 := blk_frozen BK207.out 2
         go_wp2
         go_roundg kj26
         case measure => have := HK1.out; have := HJ6.out; have := HJ26.out; omega
         case rel => exact ⟨(x5_1), (x6_1), (wrap64 (x11_1 + 1)), (x208000_1), (((rd_T67 l0 x11_1).f1)), aP32, aP32, H', ⟨by have := HK1.out; have := HJ6.out; have := HJ26.out; omega⟩, ⟨by (with_reducible repeat (first | apply Kd.R_alloc | apply Kd.R_drewN | apply Kd.R_drew)); exact Kd.R_mono (Kd.R_far (p := ⟨gb207, 1, none⟩) (Kd.R_mono HO_5.out (fun k_ hk => (⟨hk, hk.1⟩ : _ ∧ k_ ≠ gb207))) (fun _ hk => hk.2) (.int .i64 ((rd_T67 l0 x11_1).f1))) (fun _ hk => hk.1.1)⟩, ⟨by (with_reducible repeat (first | refine blk_drewN ?_ _ | refine blk_drew ?_ | refine blk_alloc ?_ _)); refine blk_put (cs := #[.int .i64 x208000_1, .int .i64 x208001_1, .string a1_2]) ?_ 1 _ rfl; (with_reducible repeat (first | refine blk_drewN ?_ _ | refine blk_drew ?_ | refine blk_alloc ?_ _)); exact BK207.out⟩, ⟨aP2⟩⟩
        rw [if_pos c48] at H
        have c48b0 : decide (((rd_T67 l0 x11_1).f0) < x208000_1) = true := decide_eq_true c48
        clear c48
        by_cases c49 : ((rd_T67 l0 x11_1).f1) > x208001_1
        rotate_left
        ·rw [if_neg c49] at H
         have c49b0 : decide (x208001_1 < ((rd_T67 l0 x11_1).f1)) = false := decide_eq_false c49
         clear c49
         have H' := aM H
         clear H
         have hnb53 := NB212_207.out
         have hnc53 := NB207_212.out
         have hcz54_0 : wc.cell? ⟨gb212, 0, none⟩ = some (.int .i64 ((rd_T67 l0 x11_1).f0)) := (blk_cell BK212.out 0).trans rfl
         have hcz54_1 : wc.cell? ⟨gb212, 1, none⟩ = some (.int .i64 ((rd_T67 l0 x11_1).f1)) := (blk_cell BK212.out 1).trans rfl
         have hcz54_2 : wc.cell? ⟨gb212, 2, none⟩ = some (.string ((rd_T67 l0 x11_1).f2)) := (blk_cell BK212.out 2).trans rfl
         have hfz54_0 := blk_frozen BK212.out 0
         have hfz54_1 := blk_frozen BK212.out 1
         have hfz54_2 := blk_frozen BK212.out 2
         have hcz55_0 : wc.cell? ⟨gb207, 0, none⟩ = some (.int .i64 x208000_1) := (blk_cell BK207.out 0).trans rfl
         have hcz55_1 : wc.cell? ⟨gb207, 1, none⟩ = some (.int .i64 x208001_1) := (blk_cell BK207.out 1).trans rfl
         have hcz55_2 : wc.cell? ⟨gb207, 2, none⟩ = some (.string a1_2) := (blk_cell BK207.out 2).trans rfl
         have hfz55_0 := blk_frozen BK207.out 0
         have hfz55_1 := blk_frozen BK207.out 1
         have hfz55_2 := blk_frozen BK207.out 2
         go_wp2
         go_roundg kj26
         case measure => have := HK1.out; have := HJ6.out; have := HJ26.out; omega
         case rel => exact ⟨(x5_1), (x6_1), (wrap64 (x11_1 + 1)), (((rd_T67 l0 x11_1).f0)), (x208001_1), aP32, aP32, H', ⟨by have := HK1.out; have := HJ6.out; have := HJ26.out; omega⟩, ⟨by (with_reducible repeat (first | apply Kd.R_alloc | apply Kd.R_drewN | apply Kd.R_drew)); exact Kd.R_mono (Kd.R_far (p := ⟨gb207, 0, none⟩) (Kd.R_mono HO_5.out (fun k_ hk => (⟨hk, hk.1⟩ : _ ∧ k_ ≠ gb207))) (fun _ hk => hk.2) (.int .i64 ((rd_T67 l0 x11_1).f0))) (fun _ hk => hk.1.1)⟩, ⟨by (with_reducible repeat (first | refine blk_drewN ?_ _ | refine blk_drew ?_ | refine blk_alloc ?_ _)); refine blk_put (cs := #[.int .i64 x208000_1, .int .i64 x208001_1, .string a1_2]) ?_ 0 _ rfl; (with_reducible repeat (first | refine blk_drewN ?_ _ | refine blk_drew ?_ | refine blk_alloc ?_ _)); exact BK207.out⟩, ⟨aP2⟩⟩
        rw [if_pos c49] at H
        have c49b0 : decide (x208001_1 < ((rd_T67 l0 x11_1).f1)) = true := decide_eq_true c49
        clear c49
        have H' := aM H
        clear H
        have hnb50 := NB212_207.out
        have hnc50 := NB207_212.out
        have hcz51_0 : wc.cell? ⟨gb212, 0, none⟩ = some (.int .i64 ((rd_T67 l0 x11_1).f0)) := (blk_cell BK212.out 0).trans rfl
        have hcz51_1 : wc.cell? ⟨gb212, 1, none⟩ = some (.int .i64 ((rd_T67 l0 x11_1).f1)) := (blk_cell BK212.out 1).trans rfl
        have hcz51_2 : wc.cell? ⟨gb212, 2, none⟩ = some (.string ((rd_T67 l0 x11_1).f2)) := (blk_cell BK212.out 2).trans rfl
        have hfz51_0 := blk_frozen BK212.out 0
        have hfz51_1 := blk_frozen BK212.out 1
        have hfz51_2 := blk_frozen BK212.out 2
        have hcz52_0 : wc.cell? ⟨gb207, 0, none⟩ = some (.int .i64 x208000_1) := (blk_cell BK207.out 0).trans rfl
        have hcz52_1 : wc.cell? ⟨gb207, 1, none⟩ = some (.int .i64 x208001_1) := (blk_cell BK207.out 1).trans rfl
        have hcz52_2 : wc.cell? ⟨gb207, 2, none⟩ = some (.string a1_2) := (blk_cell BK207.out 2).trans rfl
        have hfz52_0 := blk_frozen BK207.out 0
        have hfz52_1 := blk_frozen BK207.out 1
        have hfz52_2 := blk_frozen BK207.out 2
        go_wp2
        go_roundg kj26
        case measure => have := HK1.out; have := HJ6.out; have := HJ26.out; omega
        case rel => exact ⟨(x5_1), (x6_1), (wrap64 (x11_1 + 1)), (((rd_T67 l0 x11_1).f0)), (((rd_T67 l0 x11_1).f1)), aP32, aP32, H', ⟨by have := HK1.out; have := HJ6.out; have := HJ26.out; omega⟩, ⟨by (with_reducible repeat (first | apply Kd.R_alloc | apply Kd.R_drewN | apply Kd.R_drew)); exact Kd.R_mono (Kd.R_far (p := ⟨gb207, 1, none⟩) (Kd.R_far (p := ⟨gb207, 0, none⟩) (Kd.R_mono HO_5.out (fun k_ hk => (⟨hk, hk.1⟩ : _ ∧ k_ ≠ gb207))) (fun _ hk => hk.2) (.int .i64 ((rd_T67 l0 x11_1).f0))) (fun _ hk => hk.2) (.int .i64 ((rd_T67 l0 x11_1).f1))) (fun _ hk => hk.1.1)⟩, ⟨by (with_reducible repeat (first | refine blk_drewN ?_ _ | refine blk_drew ?_ | refine blk_alloc ?_ _)); refine blk_put (cs := #[.int .i64 ((rd_T67 l0 x11_1).f0), .int .i64 x208001_1, .string a1_2]) ?_ 1 _ rfl; (with_reducible repeat (first | refine blk_drewN ?_ _ | refine blk_drew ?_ | refine blk_alloc ?_ _)); refine blk_put (cs := #[.int .i64 x208000_1, .int .i64 x208001_1, .string a1_2]) ?_ 0 _ rfl; (with_reducible repeat (first | refine blk_drewN ?_ _ | refine blk_drew ?_ | refine blk_alloc ?_ _)); exact BK207.out⟩, ⟨aP2⟩⟩
       subst c35
       replace H : (if x6_1 = true then (if x5_1.length < 4398046511104 then (spec_l5Add.l0 kj26 (x5_1 ++ [(⟨((rd_T67 l0 x11_1).f0), ((rd_T67 l0 x11_1).f1), ((rd_T67 l0 x11_1).f2)⟩ : S67)]) x6_1 l0 (l0.length : Int) (wrap64 (x11_1 + 1)) x208000_1 x208001_1 a1_2) else (none)) else (if x5_1.length < 4398046511104 then ((some (x5_1 ++ [(⟨x208000_1, x208001_1, a1_2⟩ : S67)] : List (S67))).bind fun y219 => (if y219.length < 4398046511104 then (spec_l5Add.l0 kj26 (y219 ++ [(⟨((rd_T67 l0 x11_1).f0), ((rd_T67 l0 x11_1).f1), ((rd_T67 l0 x11_1).f2)⟩ : S67)]) true l0 (l0.length : Int) (wrap64 (x11_1 + 1)) x208000_1 x208001_1 a1_2) else (none))) else (none))) = some r := by rw [if_pos rfl] at H; exact H
       by_cases c36 : x6_1 = true
       ·subst c36
        replace H : (if x5_1.length < 4398046511104 then (spec_l5Add.l0 kj26 (x5_1 ++ [(⟨((rd_T67 l0 x11_1).f0), ((rd_T67 l0 x11_1).f1), ((rd_T67 l0 x11_1).f2)⟩ : S67)]) true l0 (l0.length : Int) (wrap64 (x11_1 + 1)) x208000_1 x208001_1 a1_2) else (none)) = some r := by rw [if_pos rfl] at H; exact H
        by_cases c37 : x5_1.length < 4398046511104
        rotate_left
        ·rw [if_neg c37] at H
         exact absurd H (by simp)
        rw [if_pos c37] at H
        have LMc37 := aM c37
        clear c37
        obtain ⟨y216, hy216⟩ : ∃ y_ : List (S67), y_ = (x5_1 ++ [(⟨((rd_T67 l0 x11_1).f0), ((rd_T67 l0 x11_1).f1), ((rd_T67 l0 x11_1).f2)⟩ : S67)]) := ⟨_, rfl⟩
        replace H : (spec_l5Add.l0 kj26 y216 true l0 (l0.length : Int) (wrap64 (x11_1 + 1)) x208000_1 x208001_1 a1_2) = some r := by first | (rw [hy216]; with_reducible exact H) | (have H2_ := (Option.bind_some _ _).symm.trans H; rw [hy216]; with_reducible exact H2_) | (have H2_ := (Option.bind_some _ _).symm.trans H; with_reducible exact H2_) | with_reducible exact H | (rw [hy216]; exact H) | exact H
        have Ny216 := aM hy216
        clear hy216
        have H' := aM H
        clear H
        have hnb38 := NB212_207.out
        have hnc38 := NB207_212.out
        have hcz39_0 : wc.cell? ⟨gb212, 0, none⟩ = some (.int .i64 ((rd_T67 l0 x11_1).f0)) := (blk_cell BK212.out 0).trans rfl
        have hcz39_1 : wc.cell? ⟨gb212, 1, none⟩ = some (.int .i64 ((rd_T67 l0 x11_1).f1)) := (blk_cell BK212.out 1).trans rfl
        have hcz39_2 : wc.cell? ⟨gb212, 2, none⟩ = some (.string ((rd_T67 l0 x11_1).f2)) := (blk_cell BK212.out 2).trans rfl
        have hfz39_0 := blk_frozen BK212.out 0
        have hfz39_1 := blk_frozen BK212.out 1
        have hfz39_2 := blk_frozen BK212.out 2
        go_wp2_with (first | ((with_reducible refine gate_builtin (b := .append) (xs := #[.tmp 74, .tmp 76]) rfl ?_); at_builtin; refine Kd.R_append k67 (w0 := w) w.heap.size rfl (.tmp 74) (.tmp 76) 25 67 (.agg #[(.int .i64 0), (.int .i64 0), (.string ⟨#[]⟩)]) 32 rfl Try.underlying25 info67 rfl (by decide) (by omega) u5 x5_1 (⟨((rd_T67 l0 x11_1).f0), ((rd_T67 l0 x11_1).f1), ((rd_T67 l0 x11_1).f2)⟩ : S67) [.int .i64 ((rd_T67 l0 x11_1).f0), .int .i64 ((rd_T67 l0 x11_1).f1), .string ((rd_T67 l0 x11_1).f2)] (fun k_ => k_ ≠ gb207 ∧ k_ ≠ gb212) (fun _ => False) rfl rfl ?aP (fun _ hk => hk.elim) ?aF ?aO ?aB ?aS ?aL ?_; (case aP => exact k67_mkM _ _ _ (⟨((rd_T67 l0 x11_1).f0), ((rd_T67 l0 x11_1).f1), ((rd_T67 l0 x11_1).f2)⟩ : S67)); (case aB => exact aP2); (case aF => exact (fun k_ hk => ⟨Kd.freshB (g := gb207) (o := .cells #[.int .i64 x208000_1, .int .i64 x208001_1, .string a1_2] 67 (0, 0)) (kK BK207.out) k_ hk, Kd.freshB (g := gb212) (o := .cells #[.int .i64 ((rd_T67 l0 x11_1).f0), .int .i64 ((rd_T67 l0 x11_1).f1), .string ((rd_T67 l0 x11_1).f2)] 67 (0, 0)) (kK BK212.out) k_ hk⟩)); (case aO => exact (rR HO_5.out)); (case aS => exact (below_size aP2)); (case aL => have := LMc37.out; omega); intro v217 w40 ho hb hg hat; rw [← Ny216.out] at ho; have HO218 := aM (ho); replace BK207 := aM (blk_grown (g := gb207) (o := .cells #[.int .i64 x208000_1, .int .i64 x208001_1, .string a1_2] 67 (0, 0)) (kK BK207.out) hg (Kd.R_away HO_5.out (fun _ hk => hk.1))); replace BK212 := aM (blk_grown (g := gb212) (o := .cells #[.int .i64 ((rd_T67 l0 x11_1).f0), .int .i64 ((rd_T67 l0 x11_1).f1), .string ((rd_T67 l0 x11_1).f2)] 67 (0, 0)) (kK BK212.out) hg (Kd.R_away HO_5.out (fun _ hk => hk.2))); replace HB := aM (hb); clear ho hb hg hat))
        go_roundg kj26
        case measure => have := HK1.out; have := HJ6.out; have := HJ26.out; omega
        case rel => exact ⟨(y216), (true), (wrap64 (x11_1 + 1)), (x208000_1), (x208001_1), aP32, aP32, H', ⟨by have := HK1.out; have := HJ6.out; have := HJ26.out; omega⟩, ⟨by (with_reducible repeat (first | apply Kd.R_alloc | apply Kd.R_drewN | apply Kd.R_drew)); exact Kd.R_mono HO218.out (fun _ hk => hk.1)⟩, ⟨kK BK207.out⟩, ⟨aP2⟩⟩
       replace c36 := Bool.eq_false_iff.mpr c36
       subst c36
       replace H : (if x5_1.length < 4398046511104 then ((some (x5_1 ++ [(⟨x208000_1, x208001_1, a1_2⟩ : S67)] : List (S67))).bind fun y219 => (if y219.length < 4398046511104 then (spec_l5Add.l0 kj26 (y219 ++ [(⟨((rd_T67 l0 x11_1).f0), ((rd_T67 l0 x11_1).f1), ((rd_T67 l0 x11_1).f2)⟩ : S67)]) true l0 (l0.length : Int) (wrap64 (x11_1 + 1)) x208000_1 x208001_1 a1_2) else (none))) else (none)) = some r := by rw [if_neg (show ¬ (false = true) by decide)] at H; exact H
       by_cases c41 : x5_1.length < 4398046511104
       rotate_left
       ·rw [if_neg c41] at H
        exact absurd H (by simp)
       rw [if_pos c41] at H
       have LMc41 := aM c41
       clear c41
       obtain ⟨y219, hy219⟩ : ∃ y_ : List (S67), y_ = (x5_1 ++ [(⟨x208000_1, x208001_1, a1_2⟩ : S67)]) := ⟨_, rfl⟩
       replace H : (if y219.length < 4398046511104 then (spec_l5Add.l0 kj26 (y219 ++ [(⟨((rd_T67 l0 x11_1).f0), ((rd_T67 l0 x11_1).f1), ((rd_T67 l0 x11_1).f2)⟩ : S67)]) true l0 (l0.length : Int) (wrap64 (x11_1 + 1)) x208000_1 x208001_1 a1_2) else (none)) = some r := by first | (rw [hy219]; with_reducible exact H) | (have H2_ := (Option.bind_some _ _).symm.trans H; rw [hy219]; with_reducible exact H2_) | (have H2_ := (Option.bind_some _ _).symm.trans H; with_reducible exact H2_) | with_reducible exact H | (rw [hy219]; exact H) | exact H
       have Ny219 := aM hy219
       clear hy219
       by_cases c42 : y219.length < 4398046511104
       rotate_left
       ·rw [if_neg c42] at H
        exact absurd H (by simp)
       rw [if_pos c42] at H
       have LMc42 := aM c42
       clear c42
       obtain ⟨y222, hy222⟩ : ∃ y_ : List (S67), y_ = (y219 ++ [(⟨((rd_T67 l0 x11_1).f0), ((rd_T67 l0 x11_1).f1), ((rd_T67 l0 x11_1).f2)⟩ : S67)]) := ⟨_, rfl⟩
       replace H : (spec_l5Add.l0 kj26 y222 true l0 (l0.length : Int) (wrap64 (x11_1 + 1)) x208000_1 x208001_1 a1_2) = some r := by first | (rw [hy222]; with_reducible exact H) | (have H2_ := (Option.bind_some _ _).symm.trans H; rw [hy222]; with_reducible exact H2_) | (have H2_ := (Option.bind_some _ _).symm.trans H; with_reducible exact H2_) | with_reducible exact H | (rw [hy222]; exact H) | exact H
       have Ny222 := aM hy222
       clear hy222
       have H' := aM H
       clear H
       have hnb43 := NB207_212.out
       have hnc43 := NB212_207.out
       have hcz44_0 : wc.cell? ⟨gb207, 0, none⟩ = some (.int .i64 x208000_1) := (blk_cell BK207.out 0).trans rfl
       have hcz44_1 : wc.cell? ⟨gb207, 1, none⟩ = some (.int .i64 x208001_1) := (blk_cell BK207.out 1).trans rfl
       have hcz44_2 : wc.cell? ⟨gb207, 2, none⟩ = some (.string a1_2) := (blk_cell BK207.out 2).trans rfl
       have hfz44_0 := blk_frozen BK207.out 0
       have hfz44_1 := blk_frozen BK207.out 1
       have hfz44_2 := blk_frozen BK207.out 2
       go_wp2_with (first | ((with_reducible refine gate_builtin (b := .append) (xs := #[.tmp 70, .tmp 72]) rfl ?_); at_builtin; refine Kd.R_append k67 (w0 := w) w.heap.size rfl (.tmp 70) (.tmp 72) 25 67 (.agg #[(.int .i64 0), (.int .i64 0), (.string ⟨#[]⟩)]) 32 rfl Try.underlying25 info67 rfl (by decide) (by omega) u5 x5_1 (⟨x208000_1, x208001_1, a1_2⟩ : S67) [.int .i64 x208000_1, .int .i64 x208001_1, .string a1_2] (fun k_ => k_ ≠ gb207 ∧ k_ ≠ gb212) (fun _ => False) rfl rfl ?aP (fun _ hk => hk.elim) ?aF ?aO ?aB ?aS ?aL ?_; (case aP => exact k67_mkM _ _ _ (⟨x208000_1, x208001_1, a1_2⟩ : S67)); (case aB => exact aP2); (case aF => exact (fun k_ hk => ⟨Kd.freshB (g := gb207) (o := .cells #[.int .i64 x208000_1, .int .i64 x208001_1, .string a1_2] 67 (0, 0)) (kK BK207.out) k_ hk, Kd.freshB (g := gb212) (o := .cells #[.int .i64 ((rd_T67 l0 x11_1).f0), .int .i64 ((rd_T67 l0 x11_1).f1), .string ((rd_T67 l0 x11_1).f2)] 67 (0, 0)) (kK BK212.out) k_ hk⟩)); (case aO => exact (rR HO_5.out)); (case aS => exact (below_size aP2)); (case aL => have := LMc41.out; omega); intro v220 w45 ho hb hg hat; rw [← Ny219.out] at ho; have HO221 := aM (ho); replace BK207 := aM (blk_grown (g := gb207) (o := .cells #[.int .i64 x208000_1, .int .i64 x208001_1, .string a1_2] 67 (0, 0)) (kK BK207.out) hg (Kd.R_away HO_5.out (fun _ hk => hk.1))); replace BK212 := aM (blk_grown (g := gb212) (o := .cells #[.int .i64 ((rd_T67 l0 x11_1).f0), .int .i64 ((rd_T67 l0 x11_1).f1), .string ((rd_T67 l0 x11_1).f2)] 67 (0, 0)) (kK BK212.out) hg (Kd.R_away HO_5.out (fun _ hk => hk.2))); replace HB := aM (hb); clear ho hb hg hat; obtain ⟨hcz46_0, hcz46_1, hcz46_2, hfz46_0, hfz46_1, hfz46_2⟩ := bx3 BK212.out) | ((with_reducible refine gate_builtin (b := .append) (xs := #[.tmp 74, .tmp 76]) rfl ?_); at_builtin; refine Kd.R_append k67 (w0 := w) w.heap.size rfl (.tmp 74) (.tmp 76) 25 67 (.agg #[(.int .i64 0), (.int .i64 0), (.string ⟨#[]⟩)]) 32 rfl Try.underlying25 info67 rfl (by decide) (by omega) v220 y219 (⟨((rd_T67 l0 x11_1).f0), ((rd_T67 l0 x11_1).f1), ((rd_T67 l0 x11_1).f2)⟩ : S67) [.int .i64 ((rd_T67 l0 x11_1).f0), .int .i64 ((rd_T67 l0 x11_1).f1), .string ((rd_T67 l0 x11_1).f2)] (fun k_ => k_ ≠ gb207 ∧ k_ ≠ gb212) (fun _ => False) rfl rfl ?aP (fun _ hk => hk.elim) ?aF ?aO ?aB ?aS ?aL ?_; (case aP => exact k67_mkM _ _ _ (⟨((rd_T67 l0 x11_1).f0), ((rd_T67 l0 x11_1).f1), ((rd_T67 l0 x11_1).f2)⟩ : S67)); (case aB => exact aP2); (case aF => exact (fun k_ hk => ⟨Kd.freshB (g := gb207) (o := .cells #[.int .i64 x208000_1, .int .i64 x208001_1, .string a1_2] 67 (0, 0)) (kK BK207.out) k_ hk, Kd.freshB (g := gb212) (o := .cells #[.int .i64 ((rd_T67 l0 x11_1).f0), .int .i64 ((rd_T67 l0 x11_1).f1), .string ((rd_T67 l0 x11_1).f2)] 67 (0, 0)) (kK BK212.out) k_ hk⟩)); (case aO => exact (rR HO221.out)); (case aS => exact (below_size aP2)); (case aL => have := LMc42.out; omega); intro v223 w47 ho hb hg hat; rw [← Ny222.out] at ho; have HO224 := aM (ho); replace BK207 := aM (blk_grown (g := gb207) (o := .cells #[.int .i64 x208000_1, .int .i64 x208001_1, .string a1_2] 67 (0, 0)) (kK BK207.out) hg (Kd.R_away HO221.out (fun _ hk => hk.1))); replace BK212 := aM (blk_grown (g := gb212) (o := .cells #[.int .i64 ((rd_T67 l0 x11_1).f0), .int .i64 ((rd_T67 l0 x11_1).f1), .string ((rd_T67 l0 x11_1).f2)] 67 (0, 0)) (kK BK212.out) hg (Kd.R_away HO221.out (fun _ hk => hk.2))); replace HB := aM (hb); clear ho hb hg hat))
       go_roundg kj26
       case measure => have := HK1.out; have := HJ6.out; have := HJ26.out; omega
       case rel => exact ⟨(y222), (true), (wrap64 (x11_1 + 1)), (x208000_1), (x208001_1), aP32, aP32, H', ⟨by have := HK1.out; have := HJ6.out; have := HJ26.out; omega⟩, ⟨by (with_reducible repeat (first | apply Kd.R_alloc | apply Kd.R_drewN | apply Kd.R_drew)); exact Kd.R_mono HO224.out (fun _ hk => hk.1)⟩, ⟨kK BK207.out⟩, ⟨aP2⟩⟩
end Go.Proofs.Ytmhcmcdppimcpaa.PFnExactMoveMarks
