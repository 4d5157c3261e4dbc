/- (thin) Written by a program of this session (wip/ovl.py) over the kit's print. -/
import Derived.Test.YtoagljlnfakgjaaPFnDiamondx0
import Derived.Test.YtoagljlnfakgjaaPFnDiamondx2
namespace Go.Proofs.Ytoagljlnfakgjaa.PFnDiamond
open Go.RowKit Go.Proofs.YtoagljlnfakgjaaW.PrintWords Go.Proofs.YtoagljlnfakgjaaW.PrintLast Go.Proofs.YtoagljlnfakgjaaW.PrintMore
attribute [local go_sem] max2_int min2_int max_two min_two max_three min_three max_four min_four
set_option linter.unusedVariables false
set_option linter.unusedSimpArgs false
set_option maxHeartbeats 8000000
set_option maxRecDepth 100000
def jO.l0 : Nat → List Int → List S60 → Int → Int → Option (List Int)
 | 0, _, _, _, _ => none
 | k + 1, x3, x6, x7, x8 => if x8 < x7 then (if 0 ≤ x8 then (if x8 < (x6.length : Int) then (if 0 ≤ ((rd_T60 x6 x8).f0) then (if x3.length + ((rd_T60 x6 x8).f0 : Int).toNat < 140737488355328 then ((some (x3 ++ List.replicate ((rd_T60 x6 x8).f0 : Int).toNat 0 : List Int)).bind fun y117 => (if y117.length + ((rd_T60 x6 x8).f2).size < 140737488355328 then (jO.l0 k (y117 ++ bytesOf ((rd_T60 x6 x8).f2)) x6 x7 (wrap64 (x8 + 1))) else (none))) else (none)) else (none)) else (none)) else (none)) else (some x3)
def jO.f (k : Nat) (l0 : List S60) : Option (List Int) := jO.l0 k ([] : List Int) l0 (l0.length : Int) 0
theorem jO.mono_l : ∀ k, (∀ y0 y1 y2 y3, LeO (jO.l0 k y0 y1 y2 y3) (jO.l0 (k + 1) y0 y1 y2 y3))
 | 0 => fun _ _ _ _ r h => by simp [jO.l0] at h
 | k + 1 => by
  have ih0 := jO.mono_l k
  ·intro y0 y1 y2 y3
   unfold jO.l0
   repeat' (with_reducible first | apply ih0 | apply LeO.refl | apply LeO.none | apply LeO.ite | refine LeO.bind ?_ fun _ => ?_)
theorem jO.mono : ∀ a0 k, LeO (jO.f k a0) (jO.f (k + 1) a0) := by
 intro a0 k
 have ih0 := jO.mono_l k
 unfold jO.f
 repeat' (with_reducible first | apply ih0 | apply LeO.refl | apply LeO.none | apply LeO.ite | refine LeO.bind ?_ fun _ => ?_)
theorem jO.calls (k : Nat) (A0 : Option Addr) (c0 : Nat) (l0 : List S60) (r : List Int) (w : World) (hr0 : Kd.C k60 w A0 l0.length l0) (hc0 : l0.length ≤ c0) (h : jO.f k l0 = some r) :
  Calls Try.prog 41 #[.slice A0 l0.length c0] w fun e w' => ∃ v0_ : Value, e = .returned (v0_) ∧ Kd.R (Kd.int .u8) 5 w' w.heap.size (fun _ => True) v0_ r ∧ Below w.heap.size w w' := by
 have hu60 := Try.underlying60
 have HR0 := aM hr0
 have HC0 := aM hc0
 clear hr0 hc0
 have HB := aM (Below.refl w.heap.size w)
 have H : (jO.l0 k ([] : List Int) l0 (l0.length : Int) 0) = some r := h
 clear h
 have H' := aM H
 clear H
 go_enter Try.func41, Try.ntmps41
 go_wp2
 go_loopg [3, 8] k (fun kq v3 v8 w' => ∃ (x3_1 : List Int) (x8_1 : Int), v8 = .int .i64 x8_1 ∧ Aside0 (jO.l0 kq x3_1 l0 (l0.length : Int) x8_1 = some r) ∧ Aside0 (kq ≤ k) ∧ Aside0 (Kd.R (Kd.int .u8) 5 w' w.heap.size (fun _ => True) v3 x3_1) ∧ Aside0 (Below w.heap.size w w'))
 case atStart => exact ⟨(([] : List Int)), (0), aP19, H', ⟨Nat.le_refl _⟩, ⟨by first | exact Kd.R_nil _ _ _ _ _ | exact Kd.N_nil _ _ _ _ _ | exact Kd.V_nil _ _ _ _ _ | exact Kd.Q_nil _ _ _ _ _ | exact Kd.S_nil _ _ _ _ _⟩, ⟨bB⟩⟩
 case round =>
  clear H'
  obtain ⟨x3_1, x8_1, rfl, HA, HK1, HO_3, HB⟩ := hrel
  cases gk with
  | zero => exact absurd HA.out (by simp [jO.l0])
  | succ k1 => ?_
  have H := HA.out
  clear HA
  simp only [jO.l0] at H
  by_cases c2 : x8_1 < (l0.length : Int)
  rotate_left
  ·rw [if_neg c2] at H
   have c2b0 : decide (x8_1 < (l0.length : Int)) = false := decide_eq_false c2
   clear c2
   obtain rfl := Option.some.inj H
   go_wp2
   go_ret
   exact ⟨_, by first | rfl | (simp [errW_none, errW_some] <;> rfl) | (simp [*, errW_none, errW_some] <;> rfl), rR HO_3.out, bB⟩
  rw [if_pos c2] at H
  have c2b0 : decide (x8_1 < (l0.length : Int)) = true := decide_eq_true c2
  clear c2
  obtain ⟨c3b0, H⟩ := gB H
  obtain ⟨c4b0, H⟩ := gB H
  obtain ⟨c5, H⟩ := gD H
  have c5b0 := eq_true c5
  have c5b1 : decide (0 ≤ ((rd_T60 l0 x8_1).f0)) = true := decide_eq_true c5
  clear c5
  obtain ⟨LMc6, H⟩ := gA H
  (try replace H := bS H)
  generalize Ny117 : (x3_1 ++ List.replicate ((rd_T60 l0 x8_1).f0 : Int).toNat 0) = y117 at H
  replace Ny117 := aM Ny117.symm
  obtain ⟨LMc7, H⟩ := gA H
  (try replace H := bS H)
  generalize Ny120 : (y117 ++ bytesOf ((rd_T60 l0 x8_1).f2)) = y120 at H
  replace Ny120 := aM Ny120.symm
  have H' := aM H
  clear H
  have p115 : 0 ≤ (x8_1 : Int) := of_decide_eq_true (by assumption)
  have q115 : x8_1 < (l0.length : Int) := of_decide_eq_true (by assumption)
  obtain ⟨ad115, e115, hx115_0, hx115_1, hx115_2⟩ := at_T60 HR0.out x8_1 p115 q115
  cases e115
  replace hx115_0 := hC HB.out hx115_0
  replace hx115_1 := hC HB.out hx115_1
  replace hx115_2 := hC HB.out hx115_2
  replace p115 := eq_true p115
  replace q115 := eq_true q115
  go_wp2_with (first | ((with_reducible refine gate_dst (N := 5) rfl ?_); refine box_event rfl (N := 5) rfl (cs := #[.int .i64 0, .string ⟨#[]⟩, .string ⟨#[]⟩]) (t := 60) aP38 ?_; intro gb116 hg w8 hbox hb; have BK116 := aM (hbox); have GW116 := aM (bG (w := w) hg); have GE116 := aM (bG (w := w) hg); replace HO_3 := aM (Kd.R_below (rR HO_3.out) hb); replace HB := aM (below_step bB hb); clear hb hbox hg; obtain ⟨hcz9_0, hcz9_1, hcz9_2, hfz9_0, hfz9_1, hfz9_2⟩ := bx3 BK116.out) | (at_builtin; refine Kd.R_append_zeros (Kd.int .u8) (w0 := w) w.heap.size rfl (.tmp 12) (.tmp 14) 44 3 5 (.int .u8 0) 1 rfl Try.underlying44 Try.underlying3 info5 rfl (by decide) (by omega) u3 x3_1 0 ((rd_T60 l0 x8_1).f0 : Int) (fun _ => True) rfl rfl rfl ?aF ?aO (of_decide_eq_true (by assumption)) ?aB ?aS ?aL ?_; (case aB => exact aP13); (case aF => exact (fun _ _ => trivial)); (case aO => exact (by (with_reducible repeat (first | apply Kd.R_alloc | apply Kd.R_drewN | apply Kd.R_drew)); exact Kd.R_mono (Kd.R_far (p := ⟨gb116, 2, none⟩) (Kd.R_far (p := ⟨gb116, 1, none⟩) (Kd.R_far (p := ⟨gb116, 0, none⟩) (Kd.R_types HO_3.out BK116.out (by decide)) (fun _ hk => hk.2) (.int .i64 ((rd_T60 l0 x8_1).f0))) (fun _ hk => hk.2) (.string ((rd_T60 l0 x8_1).f1))) (fun _ hk => hk.2) (.string ((rd_T60 l0 x8_1).f2))) (fun _ hk => trivial))); (case aS => exact (below_size aP13)); (case aL => have := LMc6.out; omega); intro v118 w10 ho hb hg hat; rw [← Ny117.out] at ho; have n0_ := aM (blk_grown (g := gb116) (o := .cells #[.int .i64 ((rd_T60 l0 x8_1).f0), .string ((rd_T60 l0 x8_1).f1), .string ((rd_T60 l0 x8_1).f2)] 60 (0, 0)) (by (with_reducible repeat (first | refine blk_drewN ?_ _ | refine blk_drew ?_ | refine blk_alloc ?_ _)); refine blk_put (cs := #[.int .i64 ((rd_T60 l0 x8_1).f0), .string ((rd_T60 l0 x8_1).f1), .string ⟨#[]⟩]) ?_ 2 _ rfl; (with_reducible repeat (first | refine blk_drewN ?_ _ | refine blk_drew ?_ | refine blk_alloc ?_ _)); refine blk_put (cs := #[.int .i64 ((rd_T60 l0 x8_1).f0), .string ⟨#[]⟩, .string ⟨#[]⟩]) ?_ 1 _ rfl; (with_reducible repeat (first | refine blk_drewN ?_ _ | refine blk_drew ?_ | refine blk_alloc ?_ _)); refine blk_put (cs := #[.int .i64 0, .string ⟨#[]⟩, .string ⟨#[]⟩]) ?_ 0 _ rfl; exact kK BK116.out) hg (Kd.R_ne HO_3.out BK116.out (by decide))); have n1_ := aM (hb); have n2_ := aM (ho); clear BK116; clear HB; clear HO_3; have BK116 := n0_; have HB := n1_; have HO119 := n2_; clear n0_ n1_ n2_; clear ho hb hg hat; obtain ⟨hcz11_0, hcz11_1, hcz11_2, hfz11_0, hfz11_1, hfz11_2⟩ := bx3 BK116.out) | (at_builtin; refine print_append_str (w0 := w) w.heap.size rfl (.tmp 16) _ 44 9 5 rfl Try.underlying44 Try.underlying9 info5 v118 y117 ((rd_T60 l0 x8_1).f2) rfl rfl ?aO ?aB ?aS ?aL ?_; (case aB => exact aP13); (case aO => exact (Kd.own_of_R (rR HO119.out))); (case aS => exact (below_size aP13)); (case aL => have := LMc7.out; omega); intro v121 w12 ho0 hb hg; have ho := Kd.R_of_own (h1 := fun _ => rfl) (ok := fun _ => True) ho0 (fun _ _ => trivial); clear ho0; have hat := True.intro; rw [← Ny120.out] at ho; change Kd.R (Kd.int .u8) 5 w12 w.heap.size (fun _ => True) v121 y120 at ho; have HO122 := aM (ho); replace BK116 := aM (blk_grown (g := gb116) (o := .cells #[.int .i64 ((rd_T60 l0 x8_1).f0), .string ((rd_T60 l0 x8_1).f1), .string ((rd_T60 l0 x8_1).f2)] 60 (0, 0)) (kK BK116.out) hg (Kd.R_ne HO119.out BK116.out (by decide))); replace HB := aM (hb); clear ho hb hg hat))
  go_roundg k1
  case measure => have := HK1.out; omega
  case rel => exact ⟨(y120), (wrap64 (x8_1 + 1)), aP19, H', ⟨by have := HK1.out; omega⟩, ⟨rR HO122.out⟩, ⟨aP13⟩⟩
def jV.l0 : Nat → List Int → List Int → Int → Int → Option (Bool × Bool)
 | 0, _, _, _, _ => none
 | k + 1, x6, x7, x19, x20 => if x20 < x19 then (if 0 ≤ x20 then (if x20 < (x6.length : Int) then (if (rd x6 x20) = 0 then (jV.l0 k x6 x7 x19 (wrap64 (x20 + 1))) else (if x20 < (x7.length : Int) then (if (rd x7 x20) = 0 then (jV.l0 k x6 x7 x19 (wrap64 (x20 + 1))) else (if (rd x6 x20) = (rd x7 x20) then (jV.l0 k x6 x7 x19 (wrap64 (x20 + 1))) else (some (false, true)))) else (none))) else (none)) else (none)) else (some (true, true))
def jV.f (k : Nat) (l0 : List S60) (l1 : List S60) : Option (Bool × Bool) := (jO.f k l0).bind fun t123 => ((jO.f k l1).bind fun t126 => (if (t123.length : Int) = (t126.length : Int) then (jV.l0 k t123 t126 (t123.length : Int) 0) else (some (false, false))))
theorem jV.mono_l : ∀ k, (∀ y0 y1 y2 y3, LeO (jV.l0 k y0 y1 y2 y3) (jV.l0 (k + 1) y0 y1 y2 y3))
 | 0 => fun _ _ _ _ r h => by simp [jV.l0] at h
 | k + 1 => by
  have ih0 := jV.mono_l k
  ·intro y0 y1 y2 y3
   unfold jV.l0
   repeat' (with_reducible first | apply ih0 | apply jO.mono | apply LeO.refl | apply LeO.none | apply LeO.ite | refine LeO.bind ?_ fun _ => ?_)
theorem jV.mono : ∀ a0 a1 k, LeO (jV.f k a0 a1) (jV.f (k + 1) a0 a1) := by
 intro a0 a1 k
 have ih0 := jV.mono_l k
 unfold jV.f
 repeat' (with_reducible first | apply ih0 | apply jO.mono | apply LeO.refl | apply LeO.none | apply LeO.ite | refine LeO.bind ?_ fun _ => ?_)
theorem jV.calls (k : Nat) (A0 : Option Addr) (c0 : Nat) (l0 : List S60) (A1 : Option Addr) (c1 : Nat) (l1 : List S60) (r1 : Bool) (r2 : Bool) (w : World) (hr0 : Kd.C k60 w A0 l0.length l0) (hc0 : l0.length ≤ c0) (hr1 : Kd.C k60 w A1 l1.length l1) (hc1 : l1.length ≤ c1) (h : jV.f k l0 l1 = some (r1, r2)) :
  Calls Try.prog 35 #[.slice A0 l0.length c0, .slice A1 l1.length c1] w fun e w' => e = .returned (.tuple #[.bool r1, .bool r2]) ∧ Below w.heap.size w w' := by
 have HR0 := aM hr0
 have HC0 := aM hc0
 clear hr0 hc0
 have HR1 := aM hr1
 have HC1 := aM hc1
 clear hr1 hc1
 have HB := aM (Below.refl w.heap.size w)
 have H : ((jO.f k l0).bind fun t123 => ((jO.f k l1).bind fun t126 => (if (t123.length : Int) = (t126.length : Int) then (jV.l0 k t123 t126 (t123.length : Int) 0) else (some (false, false))))) = some (r1, r2) := h
 clear h
 obtain ⟨t123, A3, H⟩ := bM H
 obtain ⟨t126, A4, H⟩ := bM H
 by_cases c5 : (t123.length : Int) = (t126.length : Int)
 rotate_left
 ·rw [if_neg c5] at H
  obtain ⟨c5b0, c5b1⟩ := nE c5
  have c5b2 : (t123.length == t126.length) = false := by first | simpa using c5 | (simp at c5 ⊢; omega)
  simp only [Option.some.injEq, Prod.mk.injEq] at H
  obtain ⟨rfl, rfl⟩ := H
  go_enter Try.func35, Try.ntmps35
  go_wp2_with (first | (go_at_call 41; (with_reducible refine (jO.calls k _ _ l0 t123 _ ?s1 ?s2 A3.out).mono ?_); (case s1 => exact cC HR0.out); (case s2 => exact HC0.out); rintro e w17 ⟨v124, rfl, ho0, hb⟩; have HO125 := aM (Kd.R_lower ho0 (below_size bB)); replace HB := aM (below_step bB hb); clear hb ho0) | (go_at_call 41; (with_reducible refine (jO.calls k _ _ l1 t126 _ ?s1 ?s2 A4.out).mono ?_); (case s1 => exact cC (Kd.C_below HR1.out HB.out)); (case s2 => exact HC1.out); rintro e w18 ⟨v127, rfl, ho0, hb⟩; have HO128 := aM (Kd.R_lower (Kd.R_new' ho0 (Kd.R_lt (rR HO125.out))) (below_size bB)); replace HO125 := aM (Kd.R_elder' (rR HO125.out) (Kd.R_base ho0) hb); replace HB := aM (below_step bB hb); clear hb ho0; obtain ⟨Ao19, co19, eo19⟩ := Kd.R_slice HO125.out; subst eo19; obtain ⟨Ao20, co20, eo20⟩ := Kd.R_slice HO128.out; subst eo20))
  repeat (go_quiet (fail); try go_wp2_with (fail))
  go_ret2
  exact ⟨eR, bB⟩
 rw [if_pos c5] at H
 obtain ⟨c5b0, c5b1⟩ := pE c5
 have c5b2 : (t123.length == t126.length) = true := by first | simpa using c5 | (simp at c5 ⊢; omega)
 clear c5
 have H' := aM H
 clear H
 go_enter Try.func35, Try.ntmps35
 go_wp2_with (first | (go_at_call 41; (with_reducible refine (jO.calls k _ _ l0 t123 _ ?s1 ?s2 A3.out).mono ?_); (case s1 => exact cC HR0.out); (case s2 => exact HC0.out); rintro e w6 ⟨v124, rfl, ho0, hb⟩; have HO125 := aM (Kd.R_lower ho0 (below_size bB)); replace HB := aM (below_step bB hb); clear hb ho0) | (go_at_call 41; (with_reducible refine (jO.calls k _ _ l1 t126 _ ?s1 ?s2 A4.out).mono ?_); (case s1 => exact cC (Kd.C_below HR1.out HB.out)); (case s2 => exact HC1.out); rintro e w7 ⟨v127, rfl, ho0, hb⟩; have HO128 := aM (Kd.R_lower (Kd.R_new' ho0 (Kd.R_lt (rR HO125.out))) (below_size bB)); replace HO125 := aM (Kd.R_elder' (rR HO125.out) (Kd.R_base ho0) hb); replace HB := aM (below_step bB hb); clear hb ho0; obtain ⟨Ao8, co8, eo8⟩ := Kd.R_slice HO125.out; subst eo8; obtain ⟨Ao9, co9, eo9⟩ := Kd.R_slice HO128.out; subst eo9))
 repeat (go_quiet (fail); try go_wp2_with (fail))
 go_loopg [20] k (fun kq v20 w' => ∃ (x20_1 : Int), v20 = .int .i64 x20_1 ∧ Aside0 (jV.l0 kq t123 t126 (t123.length : Int) x20_1 = some (r1, r2)) ∧ Aside0 (kq ≤ k) ∧ Aside0 (Kd.R (Kd.int .u8) 5 w' w.heap.size (fun k_ => some k_ ≠ ((.slice Ao9 t126.length co9) : Value).ownBlock) (.slice Ao8 t123.length co8) t123) ∧ Aside0 (Kd.R (Kd.int .u8) 5 w' w.heap.size (fun k_ => some k_ ≠ ((.slice Ao8 t123.length co8) : Value).ownBlock) (.slice Ao9 t126.length co9) t126) ∧ Aside0 (Below w.heap.size w w'))
 case atStart => exact ⟨(0), aP19, H', ⟨Nat.le_refl _⟩, ⟨wR HO125.out⟩, ⟨wR HO128.out⟩, ⟨bB⟩⟩
 case round =>
  clear H'
  try clear c1
  try clear c5
  try clear c5b0
  try clear c5b1
  try clear c5b2
  obtain ⟨x20_1, rfl, HA, HK1, HO_6, HO_7, HB⟩ := hrel
  cases gk with
  | zero => exact absurd HA.out (by simp [jV.l0])
  | succ k1 => ?_
  have H := HA.out
  clear HA
  simp only [jV.l0] at H
  by_cases c10 : x20_1 < (t123.length : Int)
  rotate_left
  ·rw [if_neg c10] at H
   have c10b0 : decide (x20_1 < (t123.length : Int)) = false := decide_eq_false c10
   clear c10
   simp only [Option.some.injEq, Prod.mk.injEq] at H
   obtain ⟨rfl, rfl⟩ := H
   go_wp2
   repeat (go_quiet (fail); try go_wp2)
   go_ret2
   exact ⟨eR, bB⟩
  rw [if_pos c10] at H
  have c10b0 : decide (x20_1 < (t123.length : Int)) = true := decide_eq_true c10
  clear c10
  obtain ⟨c11b0, H⟩ := gB H
  obtain ⟨c12b0, H⟩ := gB H
  by_cases c13 : (rd t123 x20_1) = 0
  ·rw [if_pos c13] at H
   obtain ⟨c13b0, c13b1⟩ := pE c13
   clear c13
   have H' := aM H
   clear H
   obtain ⟨ad129, rfl, p129, q129, hx129_0⟩ := xI HO_6.out x20_1
   go_wp2
   repeat (go_quiet (fail); try go_wp2)
   go_roundg k1
   case measure => have := HK1.out; omega
   case rel => exact ⟨(wrap64 (x20_1 + 1)), aP19, H', ⟨by have := HK1.out; omega⟩, ⟨rR HO_6.out⟩, ⟨rR HO_7.out⟩, ⟨bB⟩⟩
  rw [if_neg c13] at H
  obtain ⟨c13b0, c13b1⟩ := nE c13
  obtain ⟨c14b0, H⟩ := gB H
  by_cases c15 : (rd t126 x20_1) = 0
  ·rw [if_pos c15] at H
   obtain ⟨c15b0, c15b1⟩ := pE c15
   clear c15
   have H' := aM H
   clear H
   obtain ⟨ad129, rfl, p129, q129, hx129_0⟩ := xI HO_6.out x20_1
   obtain ⟨ad130, rfl, p130, q130, hx130_0⟩ := xI HO_7.out x20_1
   go_wp2
   repeat (go_quiet (fail); try go_wp2)
   go_roundg k1
   case measure => have := HK1.out; omega
   case rel => exact ⟨(wrap64 (x20_1 + 1)), aP19, H', ⟨by have := HK1.out; omega⟩, ⟨rR HO_6.out⟩, ⟨rR HO_7.out⟩, ⟨bB⟩⟩
  rw [if_neg c15] at H
  obtain ⟨c15b0, c15b1⟩ := nE c15
  by_cases c16 : (rd t123 x20_1) = (rd t126 x20_1)
  ·rw [if_pos c16] at H
   obtain ⟨c16b0, c16b1⟩ := pE c16
   clear c16
   have H' := aM H
   clear H
   obtain ⟨ad129, rfl, p129, q129, hx129_0⟩ := xI HO_6.out x20_1
   obtain ⟨ad130, rfl, p130, q130, hx130_0⟩ := xI HO_7.out x20_1
   obtain ⟨ad131, e131, p131, q131, hx131_0⟩ := xI HO_6.out x20_1
   (first | obtain rfl : ad129 = ad131 := (by injection e131) | cases e131)
   obtain ⟨ad132, e132, p132, q132, hx132_0⟩ := xI HO_7.out x20_1
   (first | obtain rfl : ad130 = ad132 := (by injection e132) | cases e132)
   go_wp2
   repeat (go_quiet (fail); try go_wp2)
   go_roundg k1
   case measure => have := HK1.out; omega
   case rel => exact ⟨(wrap64 (x20_1 + 1)), aP19, H', ⟨by have := HK1.out; omega⟩, ⟨rR HO_6.out⟩, ⟨rR HO_7.out⟩, ⟨bB⟩⟩
  rw [if_neg c16] at H
  obtain ⟨c16b0, c16b1⟩ := nE c16
  simp only [Option.some.injEq, Prod.mk.injEq] at H
  obtain ⟨rfl, rfl⟩ := H
  obtain ⟨ad129, rfl, p129, q129, hx129_0⟩ := xI HO_6.out x20_1
  obtain ⟨ad130, rfl, p130, q130, hx130_0⟩ := xI HO_7.out x20_1
  obtain ⟨ad131, e131, p131, q131, hx131_0⟩ := xI HO_6.out x20_1
  (first | obtain rfl : ad129 = ad131 := (by injection e131) | cases e131)
  obtain ⟨ad132, e132, p132, q132, hx132_0⟩ := xI HO_7.out x20_1
  (first | obtain rfl : ad130 = ad132 := (by injection e132) | cases e132)
  go_wp2
  repeat (go_quiet (fail); try go_wp2)
  go_ret2
  exact ⟨eR, bB⟩
def yI.f (k : Nat) (l0 : List S60) (l1 : List S60) : Option (Bool × Bool) := (jI.f k l0).bind fun t133 => (if t133 = true then ((jI.f k l1).bind fun t134 => (if t134 = true then ((jV.f k l0 l1).bind fun bt135 => (some (bt135.1, bt135.2))) else (some (false, false)))) else (some (false, false)))
theorem yI.mono : ∀ a0 a1 k, LeO (yI.f k a0 a1) (yI.f (k + 1) a0 a1) := by
 intro a0 a1 k
 unfold yI.f
 repeat' (with_reducible first | apply jI.mono | apply jV.mono | apply LeO.refl | apply LeO.none | apply LeO.ite | refine LeO.bind ?_ fun _ => ?_)
theorem yI.calls (k : Nat) (A0 : Option Addr) (c0 : Nat) (l0 : List S60) (A1 : Option Addr) (c1 : Nat) (l1 : List S60) (r1 : Bool) (r2 : Bool) (w : World) (hr0 : Kd.C k60 w A0 l0.length l0) (hc0 : l0.length ≤ c0) (hr1 : Kd.C k60 w A1 l1.length l1) (hc1 : l1.length ≤ c1) (h : yI.f k l0 l1 = some (r1, r2)) :
  Calls Try.prog 10 #[.slice A0 l0.length c0, .slice A1 l1.length c1] w fun e w' => e = .returned (.tuple #[.bool r1, .bool r2]) ∧ Below w.heap.size w w' := by
 have HR0 := aM hr0
 have HC0 := aM hc0
 clear hr0 hc0
 have HR1 := aM hr1
 have HC1 := aM hc1
 clear hr1 hc1
 have HB := aM (Below.refl w.heap.size w)
 have H : ((jI.f k l0).bind fun t133 => (if t133 = true then ((jI.f k l1).bind fun t134 => (if t134 = true then ((jV.f k l0 l1).bind fun bt135 => (some (bt135.1, bt135.2))) else (some (false, false)))) else (some (false, false)))) = some (r1, r2) := h
 clear h
 obtain ⟨t133, A3, H⟩ := bM H
 by_cases c4 : t133 = true
 rotate_left
 ·replace c4 := Bool.eq_false_iff.mpr c4
  subst c4
  replace H := fF H
  simp only [Option.some.injEq, Prod.mk.injEq] at H
  obtain ⟨rfl, rfl⟩ := H
  go_enter Try.func10, Try.ntmps10
  go_wp2_with ((with_reducible refine gate_callee (f := 34) rfl ?_); refine gL 7 Try.func34 #[.slice A0 l0.length c0] ?_; (with_reducible refine (jI.calls k _ _ l0 false _ ?s1 ?s2 A3.out).mono ?_); (case s1 => exact cC HR0.out); (case s2 => exact HC0.out); rintro e w13 ⟨rfl, hb⟩; refine ⟨_, rfl, ?_⟩; replace HB := aM (below_step bB hb); clear hb)
  go_ret2
  exact ⟨eR, bB⟩
 subst c4
 rw [if_pos rfl] at H
 obtain ⟨t134, A5, H⟩ := bM H
 by_cases c6 : t134 = true
 rotate_left
 ·replace c6 := Bool.eq_false_iff.mpr c6
  subst c6
  replace H := fF H
  simp only [Option.some.injEq, Prod.mk.injEq] at H
  obtain ⟨rfl, rfl⟩ := H
  go_enter Try.func10, Try.ntmps10
  go_wp2_with (first | ((with_reducible refine gate_callee (f := 34) rfl ?_); refine gL 7 Try.func34 #[.slice A0 l0.length c0] ?_; (with_reducible refine (jI.calls k _ _ l0 true _ ?s1 ?s2 A3.out).mono ?_); (case s1 => exact cC HR0.out); (case s2 => exact HC0.out); rintro e w11 ⟨rfl, hb⟩; refine ⟨_, rfl, ?_⟩; replace HB := aM (below_step bB hb); clear hb) | (go_at_call 34; (with_reducible refine (jI.calls k _ _ l1 false _ ?s1 ?s2 A5.out).mono ?_); (case s1 => exact cC (Kd.C_below HR1.out HB.out)); (case s2 => exact HC1.out); rintro e w12 ⟨rfl, hb⟩; replace HB := aM (below_step bB hb); clear hb))
  go_ret2
  exact ⟨eR, bB⟩
 subst c6
 rw [if_pos rfl] at H
 obtain ⟨⟨t135, t136⟩, A7, H⟩ := bM H
 simp only [Option.some.injEq, Prod.mk.injEq] at H
 obtain ⟨rfl, rfl⟩ := H
 go_enter Try.func10, Try.ntmps10
 go_wp2_with (first | ((with_reducible refine gate_callee (f := 34) rfl ?_); refine gL 7 Try.func34 #[.slice A0 l0.length c0] ?_; (with_reducible refine (jI.calls k _ _ l0 true _ ?s1 ?s2 A3.out).mono ?_); (case s1 => exact cC HR0.out); (case s2 => exact HC0.out); rintro e w8 ⟨rfl, hb⟩; refine ⟨_, rfl, ?_⟩; replace HB := aM (below_step bB hb); clear hb) | (go_at_call 34; (with_reducible refine (jI.calls k _ _ l1 true _ ?s1 ?s2 A5.out).mono ?_); (case s1 => exact cC (Kd.C_below HR1.out HB.out)); (case s2 => exact HC1.out); rintro e w9 ⟨rfl, hb⟩; replace HB := aM (below_step bB hb); clear hb) | ((with_reducible refine gate_callee (f := 35) rfl ?_); refine gL 16 Try.func35 #[.slice A0 l0.length c0, .slice A1 l1.length c1] ?_; (with_reducible refine (jV.calls k _ _ l0 _ _ l1 t135 t136 _ ?s1 ?s2 ?s3 ?s4 A7.out).mono ?_); (case s1 => exact cC (Kd.C_below HR0.out HB.out)); (case s2 => exact HC0.out); (case s3 => exact cC (Kd.C_below HR1.out HB.out)); (case s4 => exact HC1.out); rintro e w10 ⟨rfl, hb⟩; refine ⟨_, rfl, ?_⟩; replace HB := aM (below_step bB hb); clear hb))
 go_ret2
 exact ⟨eR, bB⟩
def jW.l0 : Nat → Int → Int → List S60 → Int → Int → Option (Int × Int)
 | 0, _, _, _, _, _ => none
 | k + 1, x4, x5, x8, x9, x10 => if x10 < x9 then (if 0 ≤ x10 then (if x10 < (x8.length : Int) then (jW.l0 k (wrap64 (x4 + (wrap64 (((rd_T60 x8 x10).f0) + (((rd_T60 x8 x10).f2).size : Int))))) (wrap64 (x5 + (wrap64 (((rd_T60 x8 x10).f0) + (((rd_T60 x8 x10).f1).size : Int))))) x8 x9 (wrap64 (x10 + 1))) else (none)) else (none)) else (some (x4, x5))
def jW.f (k : Nat) (l0 : List S60) : Option (Int × Int) := jW.l0 k 0 0 l0 (l0.length : Int) 0
theorem jW.mono_l : ∀ k, (∀ y0 y1 y2 y3 y4, LeO (jW.l0 k y0 y1 y2 y3 y4) (jW.l0 (k + 1) y0 y1 y2 y3 y4))
 | 0 => fun _ _ _ _ _ r h => by simp [jW.l0] at h
 | k + 1 => by
  have ih0 := jW.mono_l k
  ·intro y0 y1 y2 y3 y4
   unfold jW.l0
   repeat' (with_reducible first | apply ih0 | apply LeO.refl | apply LeO.none | apply LeO.ite | refine LeO.bind ?_ fun _ => ?_)
theorem jW.mono : ∀ a0 k, LeO (jW.f k a0) (jW.f (k + 1) a0) := by
 intro a0 k
 have ih0 := jW.mono_l k
 unfold jW.f
 repeat' (with_reducible first | apply ih0 | apply LeO.refl | apply LeO.none | apply LeO.ite | refine LeO.bind ?_ fun _ => ?_)
theorem jW.calls (k : Nat) (A0 : Option Addr) (c0 : Nat) (l0 : List S60) (r1 : Int) (r2 : Int) (w : World) (hr0 : Kd.C k60 w A0 l0.length l0) (hc0 : l0.length ≤ c0) (h : jW.f k l0 = some (r1, r2)) :
  Calls Try.prog 56 #[.slice A0 l0.length c0] w fun e w' => e = .returned (.tuple #[.int .i64 r1, .int .i64 r2]) ∧ Below w.heap.size w w' := by
 have hu60 := Try.underlying60
 have HR0 := aM hr0
 have HC0 := aM hc0
 clear hr0 hc0
 have HB := aM (Below.refl w.heap.size w)
 have H : (jW.l0 k 0 0 l0 (l0.length : Int) 0) = some (r1, r2) := h
 clear h
 have H' := aM H
 clear H
 go_enter Try.func56, Try.ntmps56
 go_wp2
 go_loopg [4, 5, 10] k (fun kq v4 v5 v10 w' => ∃ (x4_1 : Int) (x5_1 : Int) (x10_1 : Int), v4 = .int .i64 x4_1 ∧ v5 = .int .i64 x5_1 ∧ v10 = .int .i64 x10_1 ∧ Aside0 (jW.l0 kq x4_1 x5_1 l0 (l0.length : Int) x10_1 = some (r1, r2)) ∧ Aside0 (kq ≤ k) ∧ Aside0 (Below w.heap.size w w'))
 case atStart => exact ⟨(0), (0), (0), aP19, aP19, aP19, H', ⟨Nat.le_refl _⟩, ⟨bB⟩⟩
 case round =>
  clear H'
  obtain ⟨x4_1, x5_1, x10_1, rfl, rfl, rfl, HA, HK1, HB⟩ := hrel
  cases gk with
  | zero => exact absurd HA.out (by simp [jW.l0])
  | succ k1 => ?_
  have H := HA.out
  clear HA
  simp only [jW.l0] at H
  by_cases c2 : x10_1 < (l0.length : Int)
  rotate_left
  ·rw [if_neg c2] at H
   have c2b0 : decide (x10_1 < (l0.length : Int)) = false := decide_eq_false c2
   clear c2
   simp only [Option.some.injEq, Prod.mk.injEq] at H
   obtain ⟨rfl, rfl⟩ := H
   go_wp2
   go_ret2
   exact ⟨eR, bB⟩
  rw [if_pos c2] at H
  have c2b0 : decide (x10_1 < (l0.length : Int)) = true := decide_eq_true c2
  clear c2
  obtain ⟨c3b0, H⟩ := gB H
  obtain ⟨c4b0, H⟩ := gB H
  have H' := aM H
  clear H
  have p137 : 0 ≤ (x10_1 : Int) := of_decide_eq_true (by assumption)
  have q137 : x10_1 < (l0.length : Int) := of_decide_eq_true (by assumption)
  obtain ⟨ad137, e137, hx137_0, hx137_1, hx137_2⟩ := at_T60 HR0.out x10_1 p137 q137
  cases e137
  replace hx137_0 := hC HB.out hx137_0
  replace hx137_1 := hC HB.out hx137_1
  replace hx137_2 := hC HB.out hx137_2
  replace p137 := eq_true p137
  replace q137 := eq_true q137
  go_wp2_with ((with_reducible refine gate_dst (N := 7) rfl ?_); refine box_event rfl (N := 7) rfl (cs := #[.int .i64 0, .string ⟨#[]⟩, .string ⟨#[]⟩]) (t := 60) aP38 ?_; intro gb138 hg w5 hbox hb; have BK138 := aM (hbox); have GW138 := aM (bG (w := w) hg); have GE138 := aM (bG (w := w) hg); replace HB := aM (below_step bB hb); clear hb hbox hg; obtain ⟨hcz6_0, hcz6_1, hcz6_2, hfz6_0, hfz6_1, hfz6_2⟩ := bx3 BK138.out)
  go_roundg k1
  case measure => have := HK1.out; omega
  case rel => exact ⟨(wrap64 (x4_1 + (wrap64 (((rd_T60 l0 x10_1).f0) + (((rd_T60 l0 x10_1).f2).size : Int))))), (wrap64 (x5_1 + (wrap64 (((rd_T60 l0 x10_1).f0) + (((rd_T60 l0 x10_1).f1).size : Int))))), (wrap64 (x10_1 + 1)), aP19, aP19, aP19, H', ⟨by have := HK1.out; omega⟩, ⟨by repeat (first | (with_reducible first | exact HB.out | apply below_alloc | apply pw_below_drewN | apply below_drew1 | refine below_set ?_ GE138.out) | exact HB.out)⟩⟩
def yT.f (a0 : Int) : Option (Bool) := if a0 ≥ 65 then (some (decide (a0 ≤ 70))) else (some false)
theorem yT.calls (a0 : Int) (r : Bool) (w : World) (h : yT.f a0 = some r) :
  Calls Try.prog 76 #[.int .u8 a0] w fun e w' => e = .returned (.bool r) ∧ Drawn0 w w' := by
 have H : (if a0 ≥ 65 then (some (decide (a0 ≤ 70))) else (some false)) = some r := h
 clear h
 by_cases c2 : a0 ≥ 65
 ·rw [if_pos c2] at H
  have c2b0 : decide (65 ≤ a0) = true := decide_eq_true c2
  clear c2
  obtain rfl := Option.some.inj H
  go_enter Try.func76, Try.ntmps76
  go_wp2
  go_ret
  exact ⟨eS, by repeat (first | exact Drawn0.refl _ | apply Drawn0.step)⟩
 rw [if_neg c2] at H
 have c2b0 : decide (65 ≤ a0) = false := decide_eq_false c2
 clear c2
 obtain rfl := Option.some.inj H
 go_enter Try.func76, Try.ntmps76
 go_wp2
 go_ret
 exact ⟨eS, by repeat (first | exact Drawn0.refl _ | apply Drawn0.step)⟩
def yV.f (a0 : Int) : Option (Bool) := if a0 ≥ 97 then (if a0 ≤ 122 then (some true) else (if a0 ≥ 48 then (if a0 ≤ 57 then (some true) else (if a0 = 32 then (some true) else (if a0 = 46 then (some true) else (some (a0 == 44))))) else (if a0 = 32 then (some true) else (if a0 = 46 then (some true) else (some (a0 == 44)))))) else (if a0 ≥ 48 then (if a0 ≤ 57 then (some true) else (if a0 = 32 then (some true) else (if a0 = 46 then (some true) else (some (a0 == 44))))) else (if a0 = 32 then (some true) else (if a0 = 46 then (some true) else (some (a0 == 44)))))
theorem yV.calls (a0 : Int) (r : Bool) (w : World) (h : yV.f a0 = some r) :
  Calls Try.prog 77 #[.int .u8 a0] w fun e w' => e = .returned (.bool r) ∧ Drawn0 w w' := by
 have H : (if a0 ≥ 97 then (if a0 ≤ 122 then (some true) else (if a0 ≥ 48 then (if a0 ≤ 57 then (some true) else (if a0 = 32 then (some true) else (if a0 = 46 then (some true) else (some (a0 == 44))))) else (if a0 = 32 then (some true) else (if a0 = 46 then (some true) else (some (a0 == 44)))))) else (if a0 ≥ 48 then (if a0 ≤ 57 then (some true) else (if a0 = 32 then (some true) else (if a0 = 46 then (some true) else (some (a0 == 44))))) else (if a0 = 32 then (some true) else (if a0 = 46 then (some true) else (some (a0 == 44)))))) = some r := h
 clear h
 by_cases c2 : a0 ≥ 97
 rotate_left
 ·rw [if_neg c2] at H
  have c2b0 : decide (97 ≤ a0) = false := decide_eq_false c2
  clear c2
  by_cases c10 : a0 ≥ 48
  rotate_left
  ·rw [if_neg c10] at H
   have c10b0 : decide (48 ≤ a0) = false := decide_eq_false c10
   clear c10
   by_cases c14 : a0 = 32
   ·rw [if_pos c14] at H
    obtain ⟨c14b0, c14b1⟩ := pE c14
    clear c14
    obtain rfl := Option.some.inj H
    go_enter Try.func77, Try.ntmps77
    go_wp2
    go_ret
    exact ⟨eS, by repeat (first | exact Drawn0.refl _ | apply Drawn0.step)⟩
   rw [if_neg c14] at H
   obtain ⟨c14b0, c14b1⟩ := nE c14
   by_cases c15 : a0 = 46
   rotate_left
   ·rw [if_neg c15] at H
    obtain ⟨c15b0, c15b1⟩ := nE c15
    obtain rfl := Option.some.inj H
    go_enter Try.func77, Try.ntmps77
    go_wp2
    go_ret
    exact ⟨eS, by repeat (first | exact Drawn0.refl _ | apply Drawn0.step)⟩
   rw [if_pos c15] at H
   obtain ⟨c15b0, c15b1⟩ := pE c15
   clear c15
   obtain rfl := Option.some.inj H
   go_enter Try.func77, Try.ntmps77
   go_wp2
   go_ret
   exact ⟨eS, by repeat (first | exact Drawn0.refl _ | apply Drawn0.step)⟩
  rw [if_pos c10] at H
  have c10b0 : decide (48 ≤ a0) = true := decide_eq_true c10
  clear c10
  by_cases c11 : a0 ≤ 57
  ·rw [if_pos c11] at H
   have c11b0 : decide (a0 ≤ 57) = true := decide_eq_true c11
   clear c11
   obtain rfl := Option.some.inj H
   go_enter Try.func77, Try.ntmps77
   go_wp2
   go_ret
   exact ⟨eS, by repeat (first | exact Drawn0.refl _ | apply Drawn0.step)⟩
  rw [if_neg c11] at H
  have c11b0 : decide (a0 ≤ 57) = false := decide_eq_false c11
  clear c11
  by_cases c12 : a0 = 32
  ·rw [if_pos c12] at H
   obtain ⟨c12b0, c12b1⟩ := pE c12
   clear c12
   obtain rfl := Option.some.inj H
   go_enter Try.func77, Try.ntmps77
   go_wp2
   go_ret
   exact ⟨eS, by repeat (first | exact Drawn0.refl _ | apply Drawn0.step)⟩
  rw [if_neg c12] at H
  obtain ⟨c12b0, c12b1⟩ := nE c12
  by_cases c13 : a0 = 46
  rotate_left
  ·rw [if_neg c13] at H
   obtain ⟨c13b0, c13b1⟩ := nE c13
   obtain rfl := Option.some.inj H
   go_enter Try.func77, Try.ntmps77
   go_wp2
   go_ret
   exact ⟨eS, by repeat (first | exact Drawn0.refl _ | apply Drawn0.step)⟩
  rw [if_pos c13] at H
  obtain ⟨c13b0, c13b1⟩ := pE c13
  clear c13
  obtain rfl := Option.some.inj H
  go_enter Try.func77, Try.ntmps77
  go_wp2
  go_ret
  exact ⟨eS, by repeat (first | exact Drawn0.refl _ | apply Drawn0.step)⟩
 rw [if_pos c2] at H
 have c2b0 : decide (97 ≤ a0) = true := decide_eq_true c2
 clear c2
 by_cases c3 : a0 ≤ 122
 ·rw [if_pos c3] at H
  have c3b0 : decide (a0 ≤ 122) = true := decide_eq_true c3
  clear c3
  obtain rfl := Option.some.inj H
  go_enter Try.func77, Try.ntmps77
  go_wp2
  go_ret
  exact ⟨eS, by repeat (first | exact Drawn0.refl _ | apply Drawn0.step)⟩
 rw [if_neg c3] at H
 have c3b0 : decide (a0 ≤ 122) = false := decide_eq_false c3
 clear c3
 by_cases c4 : a0 ≥ 48
 rotate_left
 ·rw [if_neg c4] at H
  have c4b0 : decide (48 ≤ a0) = false := decide_eq_false c4
  clear c4
  by_cases c8 : a0 = 32
  ·rw [if_pos c8] at H
   obtain ⟨c8b0, c8b1⟩ := pE c8
   clear c8
   obtain rfl := Option.some.inj H
   go_enter Try.func77, Try.ntmps77
   go_wp2
   go_ret
   exact ⟨eS, by repeat (first | exact Drawn0.refl _ | apply Drawn0.step)⟩
  rw [if_neg c8] at H
  obtain ⟨c8b0, c8b1⟩ := nE c8
  by_cases c9 : a0 = 46
  rotate_left
  ·rw [if_neg c9] at H
   obtain ⟨c9b0, c9b1⟩ := nE c9
   obtain rfl := Option.some.inj H
   go_enter Try.func77, Try.ntmps77
   go_wp2
   go_ret
   exact ⟨eS, by repeat (first | exact Drawn0.refl _ | apply Drawn0.step)⟩
  rw [if_pos c9] at H
  obtain ⟨c9b0, c9b1⟩ := pE c9
  clear c9
  obtain rfl := Option.some.inj H
  go_enter Try.func77, Try.ntmps77
  go_wp2
  go_ret
  exact ⟨eS, by repeat (first | exact Drawn0.refl _ | apply Drawn0.step)⟩
 rw [if_pos c4] at H
 have c4b0 : decide (48 ≤ a0) = true := decide_eq_true c4
 clear c4
 by_cases c5 : a0 ≤ 57
 ·rw [if_pos c5] at H
  have c5b0 : decide (a0 ≤ 57) = true := decide_eq_true c5
  clear c5
  obtain rfl := Option.some.inj H
  go_enter Try.func77, Try.ntmps77
  go_wp2
  go_ret
  exact ⟨eS, by repeat (first | exact Drawn0.refl _ | apply Drawn0.step)⟩
 rw [if_neg c5] at H
 have c5b0 : decide (a0 ≤ 57) = false := decide_eq_false c5
 clear c5
 by_cases c6 : a0 = 32
 ·rw [if_pos c6] at H
  obtain ⟨c6b0, c6b1⟩ := pE c6
  clear c6
  obtain rfl := Option.some.inj H
  go_enter Try.func77, Try.ntmps77
  go_wp2
  go_ret
  exact ⟨eS, by repeat (first | exact Drawn0.refl _ | apply Drawn0.step)⟩
 rw [if_neg c6] at H
 obtain ⟨c6b0, c6b1⟩ := nE c6
 by_cases c7 : a0 = 46
 rotate_left
 ·rw [if_neg c7] at H
  obtain ⟨c7b0, c7b1⟩ := nE c7
  obtain rfl := Option.some.inj H
  go_enter Try.func77, Try.ntmps77
  go_wp2
  go_ret
  exact ⟨eS, by repeat (first | exact Drawn0.refl _ | apply Drawn0.step)⟩
 rw [if_pos c7] at H
 obtain ⟨c7b0, c7b1⟩ := pE c7
 clear c7
 obtain rfl := Option.some.inj H
 go_enter Try.func77, Try.ntmps77
 go_wp2
 go_ret
 exact ⟨eS, by repeat (first | exact Drawn0.refl _ | apply Drawn0.step)⟩
end Go.Proofs.Ytoagljlnfakgjaa.PFnDiamond
