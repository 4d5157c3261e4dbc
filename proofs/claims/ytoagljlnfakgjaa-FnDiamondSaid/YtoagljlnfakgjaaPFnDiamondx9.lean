/- (thin) Written by a program of this session (wip/ovl.py) over the kit's print. -/
import Derived.Test.YtoagljlnfakgjaaMk
import Derived.Test.YtoagljlnfakgjaaWFootNe
import Derived.Test.YtoagljlnfakgjaaWKept
import Derived.Test.YtoagljlnfakgjaaPFnDiamondx0
import Derived.Test.YtoagljlnfakgjaaPFnDiamondx4
import Derived.Test.YtoagljlnfakgjaaPFnDiamondx5
import Derived.Test.YtoagljlnfakgjaaPFnDiamondx8
namespace Go.Proofs.Ytoagljlnfakgjaa.PFnDiamond
open Go.RowKit Go.Proofs.YtoagljlnfakgjaaW.PrintWords Go.Proofs.YtoagljlnfakgjaaW.PrintLast Go.Proofs.YtoagljlnfakgjaaW.PrintMore
attribute [local go_sem] max2_int min2_int max_two min_two max_three min_three max_four min_four
set_option linter.unusedVariables false
set_option linter.unusedSimpArgs false
set_option maxHeartbeats 8000000
set_option maxRecDepth 100000
mutual
def jG.j0 : Nat → List S60 → List S60 → Bool → Option (Int × Bool)
 | 0, _, _, _ => none
 | k + 1, x0, x1, x24 => if x24 = true then (some (0, false)) else ((jT.f k x0).bind fun t241 => ((jT.f k x1).bind fun t244 => ((yN.f x0).bind fun t247 => ((jJ.f k t247 t244).bind fun t250 => ((yN.f x1).bind fun t251 => ((jJ.f k t251 t241).bind fun t254 => (jG.l0 k t244 (wrap64 (t250 + t254)) t241 (t241.length : Int) 0)))))))
def jG.l0 : Nat → List Int → Int → List Int → Int → Int → Option (Int × Bool)
 | 0, _, _, _, _, _ => none
 | k + 1, x9, x10, x38, x39, x40 => if x40 < x39 then (if 0 ≤ x40 then (if x40 < (x38.length : Int) then (if (rd x38 x40) = 0 then (jG.l0 k x9 x10 x38 x39 (wrap64 (x40 + 1))) else (if x40 < (x9.length : Int) then (if (rd x9 x40) = 0 then (jG.l0 k x9 x10 x38 x39 (wrap64 (x40 + 1))) else (jG.l0 k x9 (wrap64 (x10 + 1)) x38 x39 (wrap64 (x40 + 1)))) else (none))) else (none)) else (none)) else (some (x10, true))
end
def jG.f (k : Nat) (l0 : List S60) (l1 : List S60) : Option (Int × Bool) := (jF.f k l0 l1).bind fun bt239 => (if bt239.2 = true then (jG.j0 k l0 l1 (!bt239.1)) else (jG.j0 k l0 l1 true))
theorem jG.mono_l : ∀ k, (∀ y0 y1 y2, LeO (jG.j0 k y0 y1 y2) (jG.j0 (k + 1) y0 y1 y2)) ∧ (∀ y0 y1 y2 y3 y4, LeO (jG.l0 k y0 y1 y2 y3 y4) (jG.l0 (k + 1) y0 y1 y2 y3 y4))
 | 0 => ⟨fun _ _ _ r h => by simp [jG.j0] at h, fun _ _ _ _ _ r h => by simp [jG.l0] at h⟩
 | k + 1 => by
  obtain ⟨ih0, ih1⟩ := jG.mono_l k
  refine ⟨?_, ?_⟩
  ·intro y0 y1 y2
   unfold jG.j0
   repeat' (with_reducible first | apply ih0 | apply ih1 | apply jF.mono | apply jT.mono | apply jJ.mono | apply LeO.refl | apply LeO.none | apply LeO.ite | refine LeO.bind ?_ fun _ => ?_)
  ·intro y0 y1 y2 y3 y4
   unfold jG.l0
   repeat' (with_reducible first | apply ih0 | apply ih1 | apply jF.mono | apply jT.mono | apply jJ.mono | apply LeO.refl | apply LeO.none | apply LeO.ite | refine LeO.bind ?_ fun _ => ?_)
theorem jG.mono : ∀ a0 a1 k, LeO (jG.f k a0 a1) (jG.f (k + 1) a0 a1) := by
 intro a0 a1 k
 obtain ⟨ih0, ih1⟩ := jG.mono_l k
 unfold jG.f
 repeat' (with_reducible first | apply ih0 | apply ih1 | apply jF.mono | apply jT.mono | apply jJ.mono | apply LeO.refl | apply LeO.none | apply LeO.ite | refine LeO.bind ?_ fun _ => ?_)
theorem jG.calls (k : Nat) (A0 : Option Addr) (c0 : Nat) (l0 : List S60) (A1 : Option Addr) (c1 : Nat) (l1 : List S60) (r1 : Int) (r2 : Bool) (w : World) (hr0 : Kd.C k60 w A0 l0.length l0) (hc0 : l0.length ≤ c0) (hr1 : Kd.C k60 w A1 l1.length l1) (hc1 : l1.length ≤ c1) (h : jG.f k l0 l1 = some (r1, r2)) :
  Calls Try.prog 15 #[.slice A0 l0.length c0, .slice A1 l1.length c1] w fun e w' => e = .returned (.tuple #[.int .i64 r1, .bool r2]) ∧ Below w.heap.size w w' := by
 have HR0 := aM hr0
 have HC0 := aM hc0
 clear hr0 hc0
 have HR1 := aM hr1
 have HC1 := aM hc1
 clear hr1 hc1
 have HB := aM (Below.refl w.heap.size w)
 have H : ((jF.f k l0 l1).bind fun bt239 => (if bt239.2 = true then (jG.j0 k l0 l1 (!bt239.1)) else (jG.j0 k l0 l1 true))) = some (r1, r2) := h
 clear h
 obtain ⟨⟨t239, t240⟩, A3, H⟩ := bM H
 have HC4 := aM H
 clear H
 go_enter Try.func15, Try.ntmps15
 go_upto_region 2 with ((with_reducible refine gate_callee (f := 12) rfl ?_); refine gL 16 Try.func12 #[.slice A0 l0.length c0, .slice A1 l1.length c1] ?_; (with_reducible refine (jF.calls k _ _ l0 _ _ l1 t239 t240 _ ?s1 ?s2 ?s3 ?s4 A3.out).mono ?_); (case s1 => exact cC HR0.out); (case s2 => exact HC0.out); (case s3 => exact cC HR1.out); (case s4 => exact HC1.out); rintro e w5 ⟨rfl, hb⟩; refine ⟨_, rfl, ?_⟩; replace HB := aM (below_step bB hb); clear hb)
 (try simp only [Act.put, List.setIfInBounds_toArray, List.set_cons_zero, List.set_cons_succ])
 go_cut [24] (fun v24 wc => ∃ (kq : Nat) (x24_3 : Bool), v24 = .bool x24_3 ∧ Aside0 (jG.j0 kq l0 l1 x24_3 = some (r1, r2)) ∧ Aside0 (kq ≤ k) ∧ Aside0 (Below w.heap.size w wc))
 case first =>
  have H := HC4.out
  clear HC4
  by_cases c6 : t240 = true
  ·subst c6
   rw [if_pos rfl] at H
   have H' := aM H
   clear H
   go_wp2
   go_meet
   case rel => exact ⟨_, (!t239), aP19, H', ⟨lH⟩, ⟨bB⟩⟩
  replace c6 := Bool.eq_false_iff.mpr c6
  subst c6
  replace H := fF H
  have H' := aM H
  clear H
  go_wp2
  go_meet
  case rel => exact ⟨_, (true), aP19, H', ⟨lH⟩, ⟨bB⟩⟩
 clear HC4
 try clear c1
 obtain ⟨kq, x24_3, rfl, HA, HJ3, HB⟩ := hcut
 cases kq with
 | zero => exact absurd HA.out (by simp [jG.j0])
 | succ kj3 => ?_
 have H := HA.out
 clear HA
 simp only [jG.j0] at H
 by_cases c7 : x24_3 = true
 ·subst c7
  rw [if_pos rfl] at H
  simp only [Option.some.injEq, Prod.mk.injEq] at H
  obtain ⟨rfl, rfl⟩ := H
  go_wp2
  go_ret2
  exact ⟨eR, bB⟩
 replace c7 := Bool.eq_false_iff.mpr c7
 subst c7
 replace H := fF H
 obtain ⟨t241, A8, H⟩ := bM H
 obtain ⟨t244, A9, H⟩ := bM H
 obtain ⟨t247, A10, H⟩ := bM H
 obtain ⟨t250, A11, H⟩ := bM H
 obtain ⟨t251, A12, H⟩ := bM H
 obtain ⟨t254, A13, H⟩ := bM H
 have H' := aM H
 clear H
 go_wp2_with (first | ((with_reducible refine gate_callee (f := 38) rfl ?_); refine gL 26 Try.func38 #[.slice A0 l0.length c0] ?_; (with_reducible refine (jT.calls kj3 _ _ l0 t241 _ ?s1 ?s2 A8.out).mono ?_); (case s1 => exact cC (Kd.C_below HR0.out HB.out)); (case s2 => exact HC0.out); rintro e w14 ⟨v242, rfl, ho0, hb⟩; refine ⟨_, rfl, ?_⟩; have HO243 := aM (Kd.R_lower ho0 (below_size bB)); replace HB := aM (below_step bB hb); clear hb ho0) | ((with_reducible refine gate_callee (f := 38) rfl ?_); refine gL 28 Try.func38 #[.slice A1 l1.length c1] ?_; (with_reducible refine (jT.calls kj3 _ _ l1 t244 _ ?s1 ?s2 A9.out).mono ?_); (case s1 => exact cC (Kd.C_below HR1.out HB.out)); (case s2 => exact HC1.out); rintro e w15 ⟨v245, rfl, ho0, hb⟩; refine ⟨_, rfl, ?_⟩; have HO246 := aM (Kd.R_lower (Kd.R_new' ho0 (Kd.R_lt (rR HO243.out))) (below_size bB)); replace HO243 := aM (Kd.R_elder' (rR HO243.out) (Kd.R_base ho0) hb); replace HB := aM (below_step bB hb); clear hb ho0) | ((with_reducible refine gate_callee (f := 43) rfl ?_); refine gL 30 Try.func43 #[.slice A0 l0.length c0] ?_; (with_reducible refine (yN.calls _ _ l0 t247 _ ?s1 ?s2 A10.out).mono ?_); (case s1 => exact cC (Kd.C_below HR0.out HB.out)); (case s2 => exact HC0.out); rintro e w16 ⟨v248, rfl, ho0, hb⟩; refine ⟨_, rfl, ?_⟩; have HO249 := aM (Kd.R_lower ho0 (below_size bB)); replace HO243 := aM (Kd.R_below (rR HO243.out) hb); replace HO246 := aM (Kd.R_below (rR HO246.out) hb); replace HB := aM (below_step bB hb); clear hb ho0; obtain ⟨Ao17, co17, eo17⟩ := Kd.R_slice HO249.out; subst eo17; obtain ⟨Ao18, co18, eo18⟩ := Kd.R_slice HO246.out; subst eo18) | ((with_reducible refine gate_callee (f := 42) rfl ?_); refine gL 32 Try.func42 #[.slice Ao17 t247.length co17, .slice Ao18 t244.length co18] ?_; (with_reducible refine (jJ.calls kj3 _ _ t247 _ _ t244 t250 _ ?s1 ?s2 ?s3 ?s4 A11.out).mono ?_); (case s1 => exact cC ((Kd.R_reads' HO249.out).2.2)); (case s2 => exact (Kd.R_reads' HO249.out).2.1); (case s3 => exact cC ((Kd.R_reads' HO246.out).2.2)); (case s4 => exact (Kd.R_reads' HO246.out).2.1); rintro e w19 ⟨rfl, hb⟩; refine ⟨_, rfl, ?_⟩; replace HO243 := aM (Kd.R_below (rR HO243.out) hb); replace HO246 := aM (Kd.R_below (rR HO246.out) hb); replace HO249 := aM (Kd.R_below (rR HO249.out) hb); replace HB := aM (below_step bB hb); clear hb) | ((with_reducible refine gate_callee (f := 43) rfl ?_); refine gL 34 Try.func43 #[.slice A1 l1.length c1] ?_; (with_reducible refine (yN.calls _ _ l1 t251 _ ?s1 ?s2 A12.out).mono ?_); (case s1 => exact cC (Kd.C_below HR1.out HB.out)); (case s2 => exact HC1.out); rintro e w20 ⟨v252, rfl, ho0, hb⟩; refine ⟨_, rfl, ?_⟩; have HO253 := aM (Kd.R_lower (Kd.R_new' ho0 (Kd.R_lt (rR HO249.out))) (below_size bB)); replace HO243 := aM (Kd.R_below (rR HO243.out) hb); replace HO246 := aM (Kd.R_below (rR HO246.out) hb); replace HO249 := aM (Kd.R_elder' (rR HO249.out) (Kd.R_base ho0) hb); replace HB := aM (below_step bB hb); clear hb ho0; obtain ⟨Ao21, co21, eo21⟩ := Kd.R_slice HO253.out; subst eo21; obtain ⟨Ao22, co22, eo22⟩ := Kd.R_slice HO243.out; subst eo22) | ((with_reducible refine gate_callee (f := 42) rfl ?_); refine gL 36 Try.func42 #[.slice Ao21 t251.length co21, .slice Ao22 t241.length co22] ?_; (with_reducible refine (jJ.calls kj3 _ _ t251 _ _ t241 t254 _ ?s1 ?s2 ?s3 ?s4 A13.out).mono ?_); (case s1 => exact cC ((Kd.R_reads' HO253.out).2.2)); (case s2 => exact (Kd.R_reads' HO253.out).2.1); (case s3 => exact cC ((Kd.R_reads' HO243.out).2.2)); (case s4 => exact (Kd.R_reads' HO243.out).2.1); rintro e w23 ⟨rfl, hb⟩; refine ⟨_, rfl, ?_⟩; replace HO243 := aM (Kd.R_below (rR HO243.out) hb); replace HO246 := aM (Kd.R_below (rR HO246.out) hb); replace HO249 := aM (Kd.R_below (rR HO249.out) hb); replace HO253 := aM (Kd.R_below (rR HO253.out) hb); replace HB := aM (below_step bB hb); clear hb))
 go_loopg [10, 40] kj3 (fun kq v10 v40 w' => ∃ (x10_2 : Int) (x40_2 : Int), v10 = .int .i64 x10_2 ∧ v40 = .int .i64 x40_2 ∧ Aside0 (jG.l0 kq t244 x10_2 t241 (t241.length : Int) x40_2 = some (r1, r2)) ∧ Aside0 (kq ≤ kj3) ∧ Aside0 (Kd.R (Kd.int .u8) 5 w' w.heap.size (fun k_ => some k_ ≠ ((.slice Ao22 t241.length co22) : Value).ownBlock) (.slice Ao18 t244.length co18) t244) ∧ Aside0 (Kd.R (Kd.int .u8) 5 w' w.heap.size (fun k_ => some k_ ≠ ((.slice Ao18 t244.length co18) : Value).ownBlock) (.slice Ao22 t241.length co22) t241) ∧ Aside0 (Below w.heap.size w w'))
 case atStart => exact ⟨(wrap64 (t250 + t254)), (0), aP19, aP19, H', ⟨Nat.le_refl _⟩, ⟨wR HO246.out⟩, ⟨wR HO243.out⟩, ⟨bB⟩⟩
 case round =>
  clear H'
  try clear c1
  try clear c7
  obtain ⟨x10_2, x40_2, rfl, rfl, HA, HK2, HO_9, HO_38, HB⟩ := hrel
  cases gk with
  | zero => exact absurd HA.out (by simp [jG.l0])
  | succ k2 => ?_
  have H := HA.out
  clear HA
  simp only [jG.l0] at H
  by_cases c24 : x40_2 < (t241.length : Int)
  rotate_left
  ·rw [if_neg c24] at H
   have c24b0 : decide (x40_2 < (t241.length : Int)) = false := decide_eq_false c24
   clear c24
   simp only [Option.some.injEq, Prod.mk.injEq] at H
   obtain ⟨rfl, rfl⟩ := H
   go_wp2
   go_ret2
   exact ⟨eR, bB⟩
  rw [if_pos c24] at H
  have c24b0 : decide (x40_2 < (t241.length : Int)) = true := decide_eq_true c24
  clear c24
  obtain ⟨c25b0, H⟩ := gB H
  obtain ⟨c26b0, H⟩ := gB H
  by_cases c27 : (rd t241 x40_2) = 0
  ·rw [if_pos c27] at H
   obtain ⟨c27b0, c27b1⟩ := pE c27
   clear c27
   have H' := aM H
   clear H
   obtain ⟨ad255, rfl, p255, q255, hx255_0⟩ := xI HO_38.out x40_2
   go_wp2
   go_roundg k2
   case measure => have := HJ3.out; have := HK2.out; omega
   case rel => exact ⟨(x10_2), (wrap64 (x40_2 + 1)), aP19, aP19, H', ⟨by have := HJ3.out; have := HK2.out; omega⟩, ⟨rR HO_9.out⟩, ⟨rR HO_38.out⟩, ⟨bB⟩⟩
  rw [if_neg c27] at H
  obtain ⟨c27b0, c27b1⟩ := nE c27
  obtain ⟨c28b0, H⟩ := gB H
  by_cases c29 : (rd t244 x40_2) = 0
  rotate_left
  ·rw [if_neg c29] at H
   obtain ⟨c29b0, c29b1⟩ := nE c29
   have H' := aM H
   clear H
   obtain ⟨ad255, rfl, p255, q255, hx255_0⟩ := xI HO_38.out x40_2
   obtain ⟨ad256, rfl, p256, q256, hx256_0⟩ := xI HO_9.out x40_2
   go_wp2
   go_roundg k2
   case measure => have := HJ3.out; have := HK2.out; omega
   case rel => exact ⟨(wrap64 (x10_2 + 1)), (wrap64 (x40_2 + 1)), aP19, aP19, H', ⟨by have := HJ3.out; have := HK2.out; omega⟩, ⟨rR HO_9.out⟩, ⟨rR HO_38.out⟩, ⟨bB⟩⟩
  rw [if_pos c29] at H
  obtain ⟨c29b0, c29b1⟩ := pE c29
  clear c29
  have H' := aM H
  clear H
  obtain ⟨ad255, rfl, p255, q255, hx255_0⟩ := xI HO_38.out x40_2
  obtain ⟨ad256, rfl, p256, q256, hx256_0⟩ := xI HO_9.out x40_2
  go_wp2
  go_roundg k2
  case measure => have := HJ3.out; have := HK2.out; omega
  case rel => exact ⟨(x10_2), (wrap64 (x40_2 + 1)), aP19, aP19, H', ⟨by have := HJ3.out; have := HK2.out; omega⟩, ⟨rR HO_9.out⟩, ⟨rR HO_38.out⟩, ⟨bB⟩⟩
-- import WFootNe
-- import WKept
def IsL3 (w : World) (g : Nat) (l : List S60) (S : Nat → Prop) : Prop :=
 ∃ (A : Option Addr) (c : Nat), w.heap[g]? = some (.cells #[.slice A l.length c] 99 (0, 0)) ∧ l.length ≤ c ∧ Kd.C k60 w A l.length l ∧ (∀ ad, A = some ad → 0 < l.length → ¬ S ad.block)
theorem IsL3.kept {w w' : World} {g : Nat} {l : List S60} {S S' : Nat → Prop} (h : IsL3 w g l S) (hk : Kept w w' S') (hg : ¬ S' g) (hs : ∀ k, S' k → S k) : IsL3 w' g l S := by
 obtain ⟨A, c, h1, h2, h3, h4⟩ := h
 refine ⟨A, c, blk_kept h1 hk hg, h2, ?_, h4⟩
 exact Kd.C_foot_neS (S := S') (fun h => h) h3 (fun ad e hn hq => h4 ad e hn (hs _ hq)) w' hk
theorem IsL3.below {w w' : World} {g : Nat} {l : List S60} {S : Nat → Prop} (h : IsL3 w g l S) (hb : Below w.heap.size w w') : IsL3 w' g l S :=
 h.kept (Kept.of_below hb (fun _ => False)) (fun q => q) (fun _ q => q.elim)
theorem l3_done (w : World) (g : Nat) (l : List S60) (S : Nat → Prop) (h : IsL3 w g l S) :
  Calls Try.prog 71 #[.pointer (some ⟨g, 0, none⟩)] w fun e w' => e = .returned (.bool ((l.length : Int) == 0)) ∧ w = w' := by
 have hu92 := Try.underlying99
 obtain ⟨A, c, hk, hc, hr, _⟩ := h
 have c0 : w.cell? ⟨g, 0, none⟩ = some (.slice A l.length c) := (blk_cell hk 0).trans rfl
 clear hk hr hc
 go_enter Try.func71, Try.ntmps71
 go_wp2_with fail
 go_ret
 exact ⟨rfl, rfl⟩
def szQ (p : S60) : Int := wrap64 (wrap64 (p.f0 + (p.f1.size : Int)) + (p.f2.size : Int))
theorem l3_size (w : World) (g : Nat) (p : S60) (r : List S60) (S : Nat → Prop) (h : IsL3 w g (p :: r) S) :
  Calls Try.prog 73 #[.pointer (some ⟨g, 0, none⟩)] w fun e w' => e = .returned (.int .i64 (szQ p)) ∧ ∃ n, w.drewN n = w' := by
 have hu92 := Try.underlying99
 have hu53 := Try.underlying60
 obtain ⟨A, c, hk, hc, hr, _⟩ := h
 have c0 : w.cell? ⟨g, 0, none⟩ = some (.slice A (p :: r).length c) := (blk_cell hk 0).trans rfl
 have p0 : (0 : Int) < ((p :: r).length : Int) := by rw [List.length_cons]; omega
 obtain ⟨ad, e3, hx0, hx1, hx2⟩ := at_T60 hr 0 (Int.le_refl _) p0
 cases e3
 rw [show ((0 : Int)).toNat = 0 from rfl, show 0 * 3 = 0 from rfl, Addr.add_zero'] at hx0 hx1 hx2
 have e9 : rd_T60 (p :: r) 0 = p := rfl
 rw [e9] at hx0 hx1 hx2
 rw [List.length_cons] at c0
 have q0 : ((0 : Int) < (r.length : Int) + 1) = True := eq_true (by omega)
 have q1 : (0 < r.length + 1) = True := eq_true (by omega)
 clear hk hr hc p0 e9
 go_enter Try.func73, Try.ntmps73
 go_wp2_with fail
 go_quiet (fail)
 go_wp2_with fail
 go_ret
 exact ⟨rfl, _, rfl⟩
-- import Mk
def takQ (l : List S60) (n : Int) : Option (S60 × List S60) :=
 match l with
 | [] => none
 | p :: r => if n = szQ p then some (p, r) else
  if 0 < p.f0 then some (⟨n, p.f1, p.f2⟩, ⟨wrap64 (p.f0 - n), p.f1, p.f2⟩ :: r)
  else if p.f1.toList = ([] : List UInt8) then (if 0 ≤ n ∧ n ≤ (p.f2.size : Int) then some (⟨p.f0, p.f1, p.f2.extract 0 n.toNat⟩, ⟨p.f0, p.f1, p.f2.extract n.toNat p.f2.size⟩ :: r) else none)
  else (if 0 ≤ n ∧ n ≤ (p.f1.size : Int) then some (⟨p.f0, p.f1.extract 0 n.toNat, p.f2⟩, ⟨p.f0, p.f1.extract n.toNat p.f1.size, p.f2⟩ :: r) else none)
theorem takQ_cases {p x : S60} {r l' : List S60} {n : Int} (hn : ¬ n = szQ p) (h : takQ (p :: r) n = some (x, l')) : (0 < p.f0 ∧ x = ⟨n, p.f1, p.f2⟩ ∧ l' = ⟨wrap64 (p.f0 - n), p.f1, p.f2⟩ :: r) ∨ ((¬ 0 < p.f0 ∧ p.f1.toList = ([] : List UInt8) ∧ (0 ≤ n ∧ n ≤ (p.f2.size : Int)) ∧ x = ⟨p.f0, p.f1, p.f2.extract 0 n.toNat⟩ ∧ l' = ⟨p.f0, p.f1, p.f2.extract n.toNat p.f2.size⟩ :: r) ∨ (¬ 0 < p.f0 ∧ ¬ p.f1.toList = ([] : List UInt8) ∧ (0 ≤ n ∧ n ≤ (p.f1.size : Int)) ∧ x = ⟨p.f0, p.f1.extract 0 n.toNat, p.f2⟩ ∧ l' = ⟨p.f0, p.f1.extract n.toNat p.f1.size, p.f2⟩ :: r)) := by
 unfold takQ at h
 dsimp only at h
 rw [if_neg hn] at h
 by_cases hA : 0 < p.f0
 ·rw [if_pos hA] at h; simp only [Option.some.injEq, Prod.mk.injEq] at h; exact .inl ⟨hA, h.1.symm, h.2.symm⟩
 rw [if_neg hA] at h
 by_cases hB : p.f1.toList = ([] : List UInt8)
 ·rw [if_pos hB] at h
  by_cases hn : 0 ≤ n ∧ n ≤ (p.f2.size : Int)
  rotate_left
  ·rw [if_neg hn] at h; cases h
  rw [if_pos hn] at h; simp only [Option.some.injEq, Prod.mk.injEq] at h; exact .inr (.inl ⟨hA, hB, hn, h.1.symm, h.2.symm⟩)
 rw [if_neg hB] at h
 by_cases hn : 0 ≤ n ∧ n ≤ (p.f1.size : Int)
 rotate_left
 ·rw [if_neg hn] at h; cases h
 rw [if_pos hn] at h; simp only [Option.some.injEq, Prod.mk.injEq] at h; exact .inr (.inr ⟨hA, hB, hn, h.1.symm, h.2.symm⟩)
def cellsQ (l : List S60) : List Value := l.flatMap (fun x => [.int .i64 x.f0, .string x.f1, .string x.f2])
theorem reps_cells {W : World} {base : Nat} {ok : Nat → Prop} : ∀ (l : List S60) (cs : List Value), Reps (k60.M W base ok) 3 l cs → cs = cellsQ l
 | [], cs, h => by
  have := h.1
  rw [List.length_nil, Nat.zero_mul] at this
  exact List.length_eq_zero_iff.1 this
 | x :: r, cs, h => by
  have h0 := k60_openM (h.2 0 x rfl)
  rw [Nat.zero_mul, List.drop_zero] at h0
  have ht : Reps (k60.M W base ok) 3 r (cs.drop 3) := by
   refine ⟨by rw [List.length_drop, h.1, List.length_cons]; omega, fun j q hj => ?_⟩
   have := h.2 (j + 1) q hj
   rw [List.drop_drop]
   rw [show (j + 1) * 3 = 3 + j * 3 by omega] at this
   exact this
  have := reps_cells r _ ht
  rw [← List.take_append_drop 3 cs, h0, this]
  rfl
theorem cells_reps (W : World) (base : Nat) (ok : Nat → Prop) : ∀ l : List S60, Reps (k60.M W base ok) 3 l (cellsQ l)
 | [] => Reps.none _ _
 | x :: r => Reps.c3 (k60_mkM _ _ _ x) (cells_reps W base ok r)
theorem cellsQ_set0 (p : S60) (r : List S60) (m : Int) : (cellsQ (p :: r)).set 0 (.int .i64 m) = cellsQ (⟨m, p.f1, p.f2⟩ :: r) := rfl
theorem cellsQ_set1 (p : S60) (r : List S60) (m : ByteArray) : (cellsQ (p :: r)).set 1 (.string m) = cellsQ (⟨p.f0, m, p.f2⟩ :: r) := rfl
theorem cellsQ_set2 (p : S60) (r : List S60) (m : ByteArray) : (cellsQ (p :: r)).set 2 (.string m) = cellsQ (⟨p.f0, p.f1, m⟩ :: r) := rfl
theorem ne_own {h n c k : Nat} (hk : k ≠ h) : (Value.slice (some ⟨h, 0, none⟩) n c).ownBlock ≠ some k := fun q => hk (Option.some.inj (show some h = some k from q)).symm
theorem far_block {h z : Nat} {ad : Addr} (e : some (⟨h, 0, none⟩ : Addr) = some ad) (h1 : z ≤ h) (h2 : ad.block < z) : False := by
 obtain rfl := Option.some.inj e
 exact absurd h2 (Nat.not_lt.mpr h1)
theorem R_cells {w : World} {base : Nat} {ok : Nat → Prop} {v : Value} {l : List S60} (h : Kd.R k60 60 w base ok v l) : (∀ k, v.ownBlock = some k → ok k) ∧ w.ownsRow base 60 3 v l.length (cellsQ l) := by
 obtain ⟨h1, inner, h2, h3⟩ := h
 obtain rfl := reps_cells l inner h3
 exact ⟨h1, h2⟩
theorem R_cells' {w : World} {base : Nat} {ok : Nat → Prop} {v : Value} {l : List S60} (h1 : ∀ k, v.ownBlock = some k → ok k) (h2 : w.ownsRow base 60 3 v l.length (cellsQ l)) : Kd.R k60 60 w base ok v l :=
 ⟨h1, cellsQ l, h2, cells_reps _ _ _ l⟩
theorem l3_take (w : World) (g : Nat) (p : S60) (r : List S60) (S : Nat → Prop) (n : Int) (x : S60) (l' : List S60) (h : IsL3 w g (p :: r) S) (hS : S g) (hSb : ∀ k, S k → k < w.heap.size) (hlen : r.length ≤ 1000) (htk : takQ (p :: r) n = some (x, l')) :
  Calls Try.prog 72 #[.pointer (some ⟨g, 0, none⟩), .int .i64 n] w fun e w' => e = .returned (.agg #[.int .i64 x.f0, .string x.f1, .string x.f2]) ∧ IsL3 w' g l' S ∧ KeptB w w' (fun k => k = g) := by
 have hu53 := Try.underlying60
 have hu92 := Try.underlying99
 have RD := aM h
 obtain ⟨A, c, hk, hc, hr, hf⟩ := h
 have gw := blk_lt hk
 have KB := aM hk
 have HR := aM hr
 have HC := aM hc
 have HF := aM hf
 have HSB := aM hSb
 have HLN := aM hlen
 have HT := aM htk
 have hln : (p :: r).length = r.length + 1 := rfl
 rw [hln] at KB
 have HN := aM (show r.length + 1 ≤ c from hc)
 have p0 : (0 : Int) < ((p :: r).length : Int) := by rw [List.length_cons]; omega
 obtain ⟨ad, e3, hx0, hx1, hx2⟩ := at_T60 hr 0 (Int.le_refl _) p0
 cases e3
 rw [show ((0 : Int)).toNat = 0 from rfl, show 0 * 3 = 0 from rfl, Addr.add_zero'] at hx0 hx1 hx2
 have e9 : rd_T60 (p :: r) 0 = p := rfl
 rw [e9] at hx0 hx1 hx2
 have X0 := aM hx0
 have X1 := aM hx1
 have X2 := aM hx2
 have q0 : ((0 : Int) < (r.length : Int) + 1) = True := eq_true (by omega)
 have q1 : (0 < r.length + 1) = True := eq_true (by omega)
 have lb : ((1 : Int) ≤ (r.length : Int) + 1) = True := eq_true (by omega)
 clear hk hr hc hf hln hSb hlen htk p0 e9 hx0 hx1 hx2
 go_enter Try.func72, Try.ntmps72
 go_upto_region 2 with (first | ((with_reducible refine gate_dst (N := 4) rfl ?_); refine box_event rfl (N := 4) rfl (cs := #[.int .i64 0, .string ⟨#[]⟩, .string ⟨#[]⟩]) (t := 60) aP38 ?_; intro gr hg_ w1 hbox hb; have KB1 := aM (blk_below KB.out hb); have HB1 := aM hb; have BR1 := aM hbox; have GR := aM hg_; have z0 := pw_cell_below hb X0.out; have z1 := pw_cell_below hb X1.out; have z2 := pw_cell_below hb X2.out; have gg := (blk_cell KB1.out 0).trans (show _ = some (Value.slice (some ad) (r.length + 1) c) from rfl); clear hb hbox hg_) | ((with_reducible refine gate_dst (N := 5) rfl ?_); refine box_event rfl (N := 5) rfl (cs := #[.int .i64 0, .string ⟨#[]⟩, .string ⟨#[]⟩]) (t := 60) aP38 ?_; intro gp hg_ w3 hbox hb; have KB3 := aM (blk_below KB1.out hb); have BR3 := aM (blk_below BR1.out hb); have HB3 := aM hb; have BP := aM hbox; have GP := aM hg_; obtain ⟨y0, y1, y2, f0, f1, f2⟩ := bx3 hbox; clear z0 z1 z2 gg; clear hb hbox hg_))
 have hgr : w.heap.size ≤ gr := Nat.le_of_eq GR.out.symm
 have z1 := HB1.out.size
 have hgp : w.heap.size ≤ gp := by rw [GP.out]; omega
 have n1 : gr ≠ g := by rw [GR.out]; exact Nat.ne_of_gt gw
 have n2 : g ≠ gr := by rw [GR.out]; exact Nat.ne_of_lt gw
 have n3 : gp ≠ g := by rw [GP.out]; exact Nat.ne_of_gt (blk_lt KB1.out)
 have n4 : g ≠ gp := by rw [GP.out]; exact Nat.ne_of_lt (blk_lt KB1.out)
 have n5 : gp ≠ gr := by rw [GP.out]; exact Nat.ne_of_gt (blk_lt BR1.out)
 have n6 : gr ≠ gp := by rw [GP.out]; exact Nat.ne_of_lt (blk_lt BR1.out)
 have k3 : KeptB w w3 (fun _ => False) := (KeptB.of_below HB1.out (fun _ => False)).then_ (KeptB.of_below HB3.out (fun _ => False)) (fun _ q => q.elim)
 have K0 := aM ((((k3).setCell (p := ⟨gp, 0, none⟩) (.inr hgp) (.int .i64 p.f0)).setCell (p := ⟨gp, 1, none⟩) (.inr hgp) (.string p.f1)).setCell (p := ⟨gp, 2, none⟩) (.inr hgp) (.string p.f2))
 have KG := aM (blk_far (blk_far (blk_far (KB3.out) (p := ⟨gp, 0, none⟩) n4 (.int .i64 p.f0)) (p := ⟨gp, 1, none⟩) n4 (.string p.f1)) (p := ⟨gp, 2, none⟩) n4 (.string p.f2))
 have BR := aM (blk_far (blk_far (blk_far (BR3.out) (p := ⟨gp, 0, none⟩) n6 (.int .i64 p.f0)) (p := ⟨gp, 1, none⟩) n6 (.string p.f1)) (p := ⟨gp, 2, none⟩) n6 (.string p.f2))
 have BQ := aM (blk_put (cs' := #[.int .i64 p.f0, .string p.f1, .string p.f2]) (blk_put (cs' := #[.int .i64 p.f0, .string p.f1, .string ⟨#[]⟩]) (blk_put (cs' := #[.int .i64 p.f0, .string ⟨#[]⟩, .string ⟨#[]⟩]) (BP.out) 0 (.int .i64 p.f0) rfl) 1 (.string p.f1) rfl) 2 (.string p.f2) rfl)
 clear KB1 HB1 BR1 KB3 BR3 HB3 BP k3 z1 y0 y1 y2 f0 f1 f2
 generalize (((w3).setCell ⟨gp, 0, none⟩ (.int .i64 p.f0)).setCell ⟨gp, 1, none⟩ (.string p.f1)).setCell ⟨gp, 2, none⟩ (.string p.f2) = v1 at K0 KG BR BQ ⊢
 have RS := aM (RD.out.kept K0.out.kept (fun q => q) (fun _ q => q.elim))
 by_cases hn : n = szQ p
 ·have HE : Aside0 (p = x ∧ r = l') := ⟨by have h := HT.out; unfold takQ at h; dsimp only at h; rw [if_pos hn] at h; simp only [Option.some.injEq, Prod.mk.injEq] at h; exact h⟩
  have dn : (n == szQ p) = true := beq_iff_eq.mpr hn
  clear hn
  go_upto_region 3 with ((go_at_call 73; refine (l3_size _ g p r S RS.out).mono ?_; rintro e w2 ⟨rfl, ⟨nd, rfl⟩⟩))
  have K1 := aM (K0.out.then_ (KeptB.of_below (pw_below_drewN (Below.refl _ _) nd) (fun _ => False)) (fun _ q => q.elim))
  have KG1 := aM (blk_drewN KG.out nd)
  have BR1 := aM (blk_drewN BR.out nd)
  have BQ1 := aM (blk_drewN BQ.out nd)
  clear K0 KG BR BQ RS
  generalize v1.drewN nd = v2 at K1 KG1 BR1 BQ1 ⊢
  have gg := (blk_cell KG1.out 0).trans (show _ = some (Value.slice (some ad) (r.length + 1) c) from rfl)
  have gf := blk_frozen KG1.out 0
  obtain ⟨j0, j1, j2, -⟩ := bx3 BQ1.out
  obtain ⟨s0, s1, s2, r0, r1, r2⟩ := bx3 BR1.out
  by_cases hc1 : c = 1
  ·have d1 : (c == 1) = true := beq_iff_eq.mpr hc1
   have d2 : (c = 1) = True := eq_true hc1
   have HC1 := aM hc1
   clear hc1
   go_wp2_with fail
   have BG := blk_far (blk_far (blk_far (blk_put (cs' := #[.slice (some ad) r.length (c - 1)]) KG1.out 0 (.slice (some ad) r.length (c - 1)) rfl) (p := ⟨gr, 0, none⟩) n2 (.int .i64 p.f0)) (p := ⟨gr, 1, none⟩) n2 (.string p.f1)) (p := ⟨gr, 2, none⟩) n2 (.string p.f2)
   have BB := blk_put (cs' := #[.int .i64 p.f0, .string p.f1, .string p.f2]) (blk_put (cs' := #[.int .i64 p.f0, .string p.f1, .string ⟨#[]⟩]) (blk_put (cs' := #[.int .i64 p.f0, .string ⟨#[]⟩, .string ⟨#[]⟩]) (blk_far BR1.out (p := ⟨g, 0, none⟩) n1 (.slice (some ad) r.length (c - 1))) 0 (.int .i64 p.f0) rfl) 1 (.string p.f1) rfl) 2 (.string p.f2) rfl
   have KW := ((((K1.out.mono (S' := fun k => k = g) (fun _ q => q.elim)).setCell (p := ⟨g, 0, none⟩) (.inl rfl) (.slice (some ad) r.length (c - 1))).setCell (p := ⟨gr, 0, none⟩) (.inr hgr) (.int .i64 p.f0)).setCell (p := ⟨gr, 1, none⟩) (.inr hgr) (.string p.f1)).setCell (p := ⟨gr, 2, none⟩) (.inr hgr) (.string p.f2)
   refine bodyPost_ret (results_cell_row rfl _ _ gr 60 #[.int .i64 p.f0, .string p.f1, .string p.f2] (0, 0) _ rfl BB Try.underlying60 rfl (by kernel_rfl)) rfl ?_
   obtain ⟨rfl, rfl⟩ := HE.out
   refine ⟨rfl, ⟨_, _, BG, ?_, ?_, ?_⟩, KW⟩
   ·have := HN.out; omega
   ·have hd := Kd.C_drop (m := 1) (c := c) HR.out (by rw [List.length_cons]; omega) HC.out
    rw [if_pos HC1.out] at hd
    exact Kd.C_foot_neS (S := fun k => k = g) (fun h => h) hd (fun ad e hn hq => HF.out ad e (by rw [List.length_cons]; omega) (hq ▸ hS)) _ KW.kept
   exact fun ad e hn => HF.out ad e (by rw [List.length_cons]; omega)
  have d1 : (c == 1) = false := beq_eq_false_iff_ne.mpr hc1
  have d2 : (c = 1) = False := eq_false hc1
  have HC1 := aM hc1
  clear hc1
  go_wp2_with fail
  have BG := blk_far (blk_far (blk_far (blk_put (cs' := #[.slice (some ⟨ad.block, ad.off + 3, none⟩) r.length (c - 1)]) KG1.out 0 (.slice (some ⟨ad.block, ad.off + 3, none⟩) r.length (c - 1)) rfl) (p := ⟨gr, 0, none⟩) n2 (.int .i64 p.f0)) (p := ⟨gr, 1, none⟩) n2 (.string p.f1)) (p := ⟨gr, 2, none⟩) n2 (.string p.f2)
  have BB := blk_put (cs' := #[.int .i64 p.f0, .string p.f1, .string p.f2]) (blk_put (cs' := #[.int .i64 p.f0, .string p.f1, .string ⟨#[]⟩]) (blk_put (cs' := #[.int .i64 p.f0, .string ⟨#[]⟩, .string ⟨#[]⟩]) (blk_far BR1.out (p := ⟨g, 0, none⟩) n1 (.slice (some ⟨ad.block, ad.off + 3, none⟩) r.length (c - 1))) 0 (.int .i64 p.f0) rfl) 1 (.string p.f1) rfl) 2 (.string p.f2) rfl
  have KW := ((((K1.out.mono (S' := fun k => k = g) (fun _ q => q.elim)).setCell (p := ⟨g, 0, none⟩) (.inl rfl) (.slice (some ⟨ad.block, ad.off + 3, none⟩) r.length (c - 1))).setCell (p := ⟨gr, 0, none⟩) (.inr hgr) (.int .i64 p.f0)).setCell (p := ⟨gr, 1, none⟩) (.inr hgr) (.string p.f1)).setCell (p := ⟨gr, 2, none⟩) (.inr hgr) (.string p.f2)
  refine bodyPost_ret (results_cell_row rfl _ _ gr 60 #[.int .i64 p.f0, .string p.f1, .string p.f2] (0, 0) _ rfl BB Try.underlying60 rfl (by kernel_rfl)) rfl ?_
  obtain ⟨rfl, rfl⟩ := HE.out
  refine ⟨rfl, ⟨_, _, BG, ?_, ?_, ?_⟩, KW⟩
  ·have := HN.out; omega
  ·have hd := Kd.C_drop (m := 1) (c := c) HR.out (by rw [List.length_cons]; omega) HC.out
   rw [if_neg HC1.out] at hd
   exact Kd.C_foot_neS (S := fun k => k = g) (fun h => h) hd (fun ad' e hn hq => by
    injection e with e
    have hb0 : ad.block = ad'.block := by subst e; rfl
    exact HF.out ad rfl (by rw [List.length_cons]; omega) (by rw [hb0, hq]; exact hS)) _ KW.kept
  intro ad' e hn
  injection e with e
  have hb0 : ad.block = ad'.block := by subst e; rfl
  rw [← hb0]
  exact HF.out ad rfl (by rw [List.length_cons]; omega)
 have dn : (n == szQ p) = false := beq_eq_false_iff_ne.mpr hn
 have HE := aM (takQ_cases hn HT.out)
 clear hn
 go_upto_region 5 with ((go_at_call 73; refine (l3_size _ g p r S RS.out).mono ?_; rintro e w2 ⟨rfl, ⟨nd, rfl⟩⟩))
 have K1 := aM (K0.out.then_ (KeptB.of_below (pw_below_drewN (Below.refl _ _) nd) (fun _ => False)) (fun _ q => q.elim))
 have KG1 := aM (blk_drewN KG.out nd)
 have BR1 := aM (blk_drewN BR.out nd)
 have BQ1 := aM (blk_drewN BQ.out nd)
 clear K0 KG BR BQ RS
 generalize v1.drewN nd = v2 at K1 KG1 BR1 BQ1 ⊢
 have gg := (blk_cell KG1.out 0).trans (show _ = some (Value.slice (some ad) (r.length + 1) c) from rfl)
 go_upto_region 8 with (first | ((with_reducible refine gate_dst (N := 26) rfl ?_); refine Kd.R_lit k60 (w0 := v2) v2.heap.size 60 ?hg (N := 26) ?hd (xs := ([] : List S60)) (inner := []) (ok := fun k => v2.heap.size ≤ k) (okp := fun _ => False) ?hr ?hp (fun _ q => q.elim) (Nat.le_refl _) (Below.refl _ _) (Nat.le_refl _) (by simp) ?_; (case hd => rfl); (case hg => rfl); (case hr => exact aP38); (case hp => exact Reps.none _ _); intro vl u4 ho4 hb4 hg4_ hnew4_; clear hg4_ hnew4_; have HO4 := aM ho4; have HB4 := aM hb4; have g4 := (blk_cell (blk_below KG1.out hb4) 0).trans (show _ = some (Value.slice (some ad) (r.length + 1) c) from rfl); clear ho4 hb4) | ((with_reducible refine gate_dst (N := 31) rfl ?_); refine Kd.R_append_rows k60 (Rr := k60.K u4) (w0 := v2) v2.heap.size ?hg (.tmp 26) (.tmp 30) 26 60 (.agg #[.int .i64 0, .string ⟨#[]⟩, .string ⟨#[]⟩]) 40 ?ho Try.underlying26 Mk.info53 rfl (show 0 < 3 by decide) (by decide) vl ([] : List S60) (p :: r) (some ad) (r.length + 1) c (fun k => v2.heap.size ≤ k) (fun _ => False) ?e1 ?e2 HO4.out ?hrow (fun x cs hx => by obtain rfl := k60_open hx; exact k60_mkM _ _ _ x) (fun _ q => q.elim) (fun k hk => Nat.le_trans HB4.out.size hk) HB4.out HB4.out.size ?hl ?_; (case hg => rfl); (case ho => rfl); (case e1 => rfl); (case e2 => rfl); (case hrow => exact Kd.C_foot_neS (S := fun _ => False) (fun h => h) HR.out (fun _ _ _ q => q) u4 (K1.out.kept.then_ (Kept.of_below HB4.out (fun _ => False)) (fun _ q => q.elim))); (case hl => have := HLN.out; simp only [List.length_nil]; omega); intro v5 u5 ho5 hb5 hg5_ hat5_; clear hg5_ hat5_ g4; have HO5 := aM ho5; have HB5 := aM hb5; clear ho5 hb5))
 have hR5 := R_cells HO5.out
 obtain ⟨h9, cap, e9⟩ := Mk.own_some (show u5.ownsRow v2.heap.size 60 3 v5 (r.length + 1) (cellsQ (p :: r)) from hR5.2)
 subst e9
 have OW := aM (show u5.ownsRow v2.heap.size 60 3 (.slice (some ⟨h9, 0, none⟩) (r.length + 1) cap) (r.length + 1) (cellsQ (p :: r)) from hR5.2)
 have h9g : v2.heap.size ≤ h9 := hR5.1 h9 rfl
 have KG5 := aM (blk_below KG1.out HB5.out)
 have BR5 := aM (blk_below BR1.out HB5.out)
 have BQ5 := aM (blk_below BQ1.out HB5.out)
 have K5 := aM (K1.out.then_ (KeptB.of_below HB5.out (fun _ => False)) (fun _ q => q.elim))
 have z5 := K1.out.kept.1
 have h9w : w.heap.size ≤ h9 := Nat.le_trans z5 h9g
 have m1 : h9 ≠ gp := Nat.ne_of_gt (Nat.lt_of_lt_of_le (blk_lt BQ1.out) h9g)
 have m2 : gp ≠ h9 := m1.symm
 have m3 : h9 ≠ g := Nat.ne_of_gt (Nat.lt_of_lt_of_le (blk_lt KG1.out) h9g)
 have m4 : g ≠ h9 := m3.symm
 have m5 : h9 ≠ gr := Nat.ne_of_gt (Nat.lt_of_lt_of_le (blk_lt BR1.out) h9g)
 have m6 : gr ≠ h9 := m5.symm
 clear hR5 gg HO4 HB4 z5 K1 KG1 BR1 BQ1 HO5
 have hcase := HE.out
 refine Or.elim hcase ?A ?D
 case' D => intro hd; refine Or.elim hd ?C ?B
 case' A =>
  rintro ⟨hA, ex0, ey0⟩
  have cA : decide (0 < p.f0) = true := decide_eq_true hA
  have ex := aM ex0
  have ey := aM ey0
  clear hA ex0 ey0 hcase
  obtain ⟨j0, j1, j2, jf0, jf1, jf2⟩ := bx3 BQ5.out
  obtain ⟨s0, s1, s2, r0, r1, r2⟩ := bx3 BR5.out
  have gg := (blk_cell KG5.out 0).trans (show _ = some (Value.slice (some ad) (r.length + 1) c) from rfl)
  have gf := blk_frozen KG5.out 0
  obtain ⟨ow, of⟩ := Mk.own_cell OW.out (show (cellsQ (p :: r))[0]? = some (Value.int .i64 p.f0) from rfl)
  go_wp2_with fail
  have B1 : (((u5.setCell ⟨h9, 0, none⟩ (.int .i64 (wrap64 (p.f0 - n)))).setCell ⟨gp, 0, none⟩ (.int .i64 n)).setCell ⟨g, 0, none⟩ (.slice (some ⟨h9, 0, none⟩) (r.length + 1) cap)).heap[g]? = some (.cells #[.slice (some ⟨h9, 0, none⟩) (r.length + 1) cap] 99 (0, 0)) := blk_put (cs' := #[.slice (some ⟨h9, 0, none⟩) (r.length + 1) cap]) (blk_far (blk_far KG5.out (p := ⟨h9, 0, none⟩) m4 (.int .i64 (wrap64 (p.f0 - n)))) (p := ⟨gp, 0, none⟩) n4 (.int .i64 n)) 0 (.slice (some ⟨h9, 0, none⟩) (r.length + 1) cap) rfl
  have BG := blk_far (blk_far (blk_far (B1) (p := ⟨gr, 0, none⟩) n2 (.int .i64 n)) (p := ⟨gr, 1, none⟩) n2 (.string p.f1)) (p := ⟨gr, 2, none⟩) n2 (.string p.f2)
  have BB := blk_put (cs' := #[.int .i64 n, .string p.f1, .string p.f2]) (blk_put (cs' := #[.int .i64 n, .string p.f1, .string ⟨#[]⟩]) (blk_put (cs' := #[.int .i64 n, .string ⟨#[]⟩, .string ⟨#[]⟩]) (blk_far (blk_far (blk_far BR5.out (p := ⟨h9, 0, none⟩) m6 (.int .i64 (wrap64 (p.f0 - n)))) (p := ⟨gp, 0, none⟩) n6 (.int .i64 n)) (p := ⟨g, 0, none⟩) n1 (.slice (some ⟨h9, 0, none⟩) (r.length + 1) cap)) 0 (.int .i64 n) rfl) 1 (.string p.f1) rfl) 2 (.string p.f2) rfl
  have KW := (((((((K5.out.mono (S' := fun k => k = g) (fun _ q => q.elim)).setCell (p := ⟨h9, 0, none⟩) (.inr h9w) (.int .i64 (wrap64 (p.f0 - n)))).setCell (p := ⟨gp, 0, none⟩) (.inr hgp) (.int .i64 n)).setCell (p := ⟨g, 0, none⟩) (.inl rfl) (.slice (some ⟨h9, 0, none⟩) (r.length + 1) cap))).setCell (p := ⟨gr, 0, none⟩) (.inr hgr) (.int .i64 n)).setCell (p := ⟨gr, 1, none⟩) (.inr hgr) (.string p.f1)).setCell (p := ⟨gr, 2, none⟩) (.inr hgr) (.string p.f2)
  have ne : ∀ k, k ≠ h9 → (Value.slice (some ⟨h9, 0, none⟩) (r.length + 1) cap).ownBlock ≠ some k := fun k hk => ne_own hk
  have OWf := Mk.own_set (Mk.own_set (Mk.own_set (Mk.own_set (Mk.own_set (Mk.own_setAt OW.out (j := 0) (by omega) (.int .i64 (wrap64 (p.f0 - n)))) (ne gp m2) 0 (.int .i64 n)) (ne g m4) 0 (.slice (some ⟨h9, 0, none⟩) (r.length + 1) cap)) (ne gr m6) 0 (.int .i64 n)) (ne gr m6) 1 (.string p.f1)) (ne gr m6) 2 (.string p.f2)
  rw [cellsQ_set0] at OWf
  refine bodyPost_ret (results_cell_row rfl _ _ gr 60 #[.int .i64 n, .string p.f1, .string p.f2] (0, 0) _ rfl BB Try.underlying60 rfl (by kernel_rfl)) rfl ?_
  obtain rfl := ex.out
  obtain rfl := ey.out
  obtain ⟨_, hcap, hreads⟩ := Kd.R_reads' (R_cells' (l := ⟨wrap64 (p.f0 - n), p.f1, p.f2⟩ :: r) (ok := fun _ => True) (fun _ _ => trivial) OWf)
  refine ⟨rfl, ⟨some ⟨h9, 0, none⟩, cap, BG, hcap, hreads, ?_⟩, KW⟩
  exact fun ad' e _ hs9 => far_block e h9w (HSB.out _ hs9)
 case' C =>
  rintro ⟨hA, hB, ⟨hn0, hn1⟩, ex0, ey0⟩
  have cA : decide (0 < p.f0) = false := decide_eq_false (by omega)
  have ex := aM ex0
  have ey := aM ey0
  have g0 := eq_true hn0
  have g1 := eq_true hn1
  have cB0 : (p.f1.toList == ([] : List UInt8)) = true := beq_iff_eq.mpr hB
  have cB1 : (p.f1.toList != ([] : List UInt8)) = false := bne_eq_false_iff_eq.mpr hB
  have cB2 : p.f1.toList.isEmpty = true := List.isEmpty_iff.mpr hB
  clear hA hB hn0 hn1 ex0 ey0 hcase hd
  obtain ⟨j0, j1, j2, jf0, jf1, jf2⟩ := bx3 BQ5.out
  obtain ⟨s0, s1, s2, r0, r1, r2⟩ := bx3 BR5.out
  have gg := (blk_cell KG5.out 0).trans (show _ = some (Value.slice (some ad) (r.length + 1) c) from rfl)
  have gf := blk_frozen KG5.out 0
  obtain ⟨ow, of⟩ := Mk.own_cell OW.out (show (cellsQ (p :: r))[2]? = some (Value.string p.f2) from rfl)
  go_wp2_with fail
  have B1 : (((u5.setCell ⟨h9, 2, none⟩ (.string (p.f2.extract n.toNat p.f2.size))).setCell ⟨gp, 2, none⟩ (.string (p.f2.extract 0 n.toNat))).setCell ⟨g, 0, none⟩ (.slice (some ⟨h9, 0, none⟩) (r.length + 1) cap)).heap[g]? = some (.cells #[.slice (some ⟨h9, 0, none⟩) (r.length + 1) cap] 99 (0, 0)) := blk_put (cs' := #[.slice (some ⟨h9, 0, none⟩) (r.length + 1) cap]) (blk_far (blk_far KG5.out (p := ⟨h9, 2, none⟩) m4 (.string (p.f2.extract n.toNat p.f2.size))) (p := ⟨gp, 2, none⟩) n4 (.string (p.f2.extract 0 n.toNat))) 0 (.slice (some ⟨h9, 0, none⟩) (r.length + 1) cap) rfl
  have BG := blk_far (blk_far (blk_far (B1) (p := ⟨gr, 0, none⟩) n2 (.int .i64 p.f0)) (p := ⟨gr, 1, none⟩) n2 (.string p.f1)) (p := ⟨gr, 2, none⟩) n2 (.string (p.f2.extract 0 n.toNat))
  have BB := blk_put (cs' := #[.int .i64 p.f0, .string p.f1, .string (p.f2.extract 0 n.toNat)]) (blk_put (cs' := #[.int .i64 p.f0, .string p.f1, .string ⟨#[]⟩]) (blk_put (cs' := #[.int .i64 p.f0, .string ⟨#[]⟩, .string ⟨#[]⟩]) (blk_far (blk_far (blk_far BR5.out (p := ⟨h9, 2, none⟩) m6 (.string (p.f2.extract n.toNat p.f2.size))) (p := ⟨gp, 2, none⟩) n6 (.string (p.f2.extract 0 n.toNat))) (p := ⟨g, 0, none⟩) n1 (.slice (some ⟨h9, 0, none⟩) (r.length + 1) cap)) 0 (.int .i64 p.f0) rfl) 1 (.string p.f1) rfl) 2 (.string (p.f2.extract 0 n.toNat)) rfl
  have KW := (((((((K5.out.mono (S' := fun k => k = g) (fun _ q => q.elim)).setCell (p := ⟨h9, 2, none⟩) (.inr h9w) (.string (p.f2.extract n.toNat p.f2.size))).setCell (p := ⟨gp, 2, none⟩) (.inr hgp) (.string (p.f2.extract 0 n.toNat))).setCell (p := ⟨g, 0, none⟩) (.inl rfl) (.slice (some ⟨h9, 0, none⟩) (r.length + 1) cap))).setCell (p := ⟨gr, 0, none⟩) (.inr hgr) (.int .i64 p.f0)).setCell (p := ⟨gr, 1, none⟩) (.inr hgr) (.string p.f1)).setCell (p := ⟨gr, 2, none⟩) (.inr hgr) (.string (p.f2.extract 0 n.toNat))
  have ne : ∀ k, k ≠ h9 → (Value.slice (some ⟨h9, 0, none⟩) (r.length + 1) cap).ownBlock ≠ some k := fun k hk => ne_own hk
  have OWf := Mk.own_set (Mk.own_set (Mk.own_set (Mk.own_set (Mk.own_set (Mk.own_setAt OW.out (j := 2) (by omega) (.string (p.f2.extract n.toNat p.f2.size))) (ne gp m2) 2 (.string (p.f2.extract 0 n.toNat))) (ne g m4) 0 (.slice (some ⟨h9, 0, none⟩) (r.length + 1) cap)) (ne gr m6) 0 (.int .i64 p.f0)) (ne gr m6) 1 (.string p.f1)) (ne gr m6) 2 (.string (p.f2.extract 0 n.toNat))
  rw [cellsQ_set2] at OWf
  refine bodyPost_ret (results_cell_row rfl _ _ gr 60 #[.int .i64 p.f0, .string p.f1, .string (p.f2.extract 0 n.toNat)] (0, 0) _ rfl BB Try.underlying60 rfl (by kernel_rfl)) rfl ?_
  obtain rfl := ex.out
  obtain rfl := ey.out
  obtain ⟨_, hcap, hreads⟩ := Kd.R_reads' (R_cells' (l := ⟨p.f0, p.f1, p.f2.extract n.toNat p.f2.size⟩ :: r) (ok := fun _ => True) (fun _ _ => trivial) OWf)
  refine ⟨rfl, ⟨some ⟨h9, 0, none⟩, cap, BG, hcap, hreads, ?_⟩, KW⟩
  exact fun ad' e _ hs9 => far_block e h9w (HSB.out _ hs9)
 case' B =>
  rintro ⟨hA, hB, ⟨hn0, hn1⟩, ex0, ey0⟩
  have cA : decide (0 < p.f0) = false := decide_eq_false (by omega)
  have ex := aM ex0
  have ey := aM ey0
  have g0 := eq_true hn0
  have g1 := eq_true hn1
  have cB0 : (p.f1.toList == ([] : List UInt8)) = false := beq_eq_false_iff_ne.mpr hB
  have cB1 : (p.f1.toList != ([] : List UInt8)) = true := bne_iff_ne.mpr hB
  have cB2 : p.f1.toList.isEmpty = false := List.isEmpty_eq_false_iff.mpr hB
  clear hA hB hn0 hn1 ex0 ey0 hcase hd
  obtain ⟨j0, j1, j2, jf0, jf1, jf2⟩ := bx3 BQ5.out
  obtain ⟨s0, s1, s2, r0, r1, r2⟩ := bx3 BR5.out
  have gg := (blk_cell KG5.out 0).trans (show _ = some (Value.slice (some ad) (r.length + 1) c) from rfl)
  have gf := blk_frozen KG5.out 0
  obtain ⟨ow, of⟩ := Mk.own_cell OW.out (show (cellsQ (p :: r))[1]? = some (Value.string p.f1) from rfl)
  go_wp2_with fail
  have B1 : (((u5.setCell ⟨h9, 1, none⟩ (.string (p.f1.extract n.toNat p.f1.size))).setCell ⟨gp, 1, none⟩ (.string (p.f1.extract 0 n.toNat))).setCell ⟨g, 0, none⟩ (.slice (some ⟨h9, 0, none⟩) (r.length + 1) cap)).heap[g]? = some (.cells #[.slice (some ⟨h9, 0, none⟩) (r.length + 1) cap] 99 (0, 0)) := blk_put (cs' := #[.slice (some ⟨h9, 0, none⟩) (r.length + 1) cap]) (blk_far (blk_far KG5.out (p := ⟨h9, 1, none⟩) m4 (.string (p.f1.extract n.toNat p.f1.size))) (p := ⟨gp, 1, none⟩) n4 (.string (p.f1.extract 0 n.toNat))) 0 (.slice (some ⟨h9, 0, none⟩) (r.length + 1) cap) rfl
  have BG := blk_far (blk_far (blk_far (B1) (p := ⟨gr, 0, none⟩) n2 (.int .i64 p.f0)) (p := ⟨gr, 1, none⟩) n2 (.string (p.f1.extract 0 n.toNat))) (p := ⟨gr, 2, none⟩) n2 (.string p.f2)
  have BB := blk_put (cs' := #[.int .i64 p.f0, .string (p.f1.extract 0 n.toNat), .string p.f2]) (blk_put (cs' := #[.int .i64 p.f0, .string (p.f1.extract 0 n.toNat), .string ⟨#[]⟩]) (blk_put (cs' := #[.int .i64 p.f0, .string ⟨#[]⟩, .string ⟨#[]⟩]) (blk_far (blk_far (blk_far BR5.out (p := ⟨h9, 1, none⟩) m6 (.string (p.f1.extract n.toNat p.f1.size))) (p := ⟨gp, 1, none⟩) n6 (.string (p.f1.extract 0 n.toNat))) (p := ⟨g, 0, none⟩) n1 (.slice (some ⟨h9, 0, none⟩) (r.length + 1) cap)) 0 (.int .i64 p.f0) rfl) 1 (.string (p.f1.extract 0 n.toNat)) rfl) 2 (.string p.f2) rfl
  have KW := (((((((K5.out.mono (S' := fun k => k = g) (fun _ q => q.elim)).setCell (p := ⟨h9, 1, none⟩) (.inr h9w) (.string (p.f1.extract n.toNat p.f1.size))).setCell (p := ⟨gp, 1, none⟩) (.inr hgp) (.string (p.f1.extract 0 n.toNat))).setCell (p := ⟨g, 0, none⟩) (.inl rfl) (.slice (some ⟨h9, 0, none⟩) (r.length + 1) cap))).setCell (p := ⟨gr, 0, none⟩) (.inr hgr) (.int .i64 p.f0)).setCell (p := ⟨gr, 1, none⟩) (.inr hgr) (.string (p.f1.extract 0 n.toNat))).setCell (p := ⟨gr, 2, none⟩) (.inr hgr) (.string p.f2)
  have ne : ∀ k, k ≠ h9 → (Value.slice (some ⟨h9, 0, none⟩) (r.length + 1) cap).ownBlock ≠ some k := fun k hk => ne_own hk
  have OWf := Mk.own_set (Mk.own_set (Mk.own_set (Mk.own_set (Mk.own_set (Mk.own_setAt OW.out (j := 1) (by omega) (.string (p.f1.extract n.toNat p.f1.size))) (ne gp m2) 1 (.string (p.f1.extract 0 n.toNat))) (ne g m4) 0 (.slice (some ⟨h9, 0, none⟩) (r.length + 1) cap)) (ne gr m6) 0 (.int .i64 p.f0)) (ne gr m6) 1 (.string (p.f1.extract 0 n.toNat))) (ne gr m6) 2 (.string p.f2)
  rw [cellsQ_set1] at OWf
  refine bodyPost_ret (results_cell_row rfl _ _ gr 60 #[.int .i64 p.f0, .string (p.f1.extract 0 n.toNat), .string p.f2] (0, 0) _ rfl BB Try.underlying60 rfl (by kernel_rfl)) rfl ?_
  obtain rfl := ex.out
  obtain rfl := ey.out
  obtain ⟨_, hcap, hreads⟩ := Kd.R_reads' (R_cells' (l := ⟨p.f0, p.f1.extract n.toNat p.f1.size, p.f2⟩ :: r) (ok := fun _ => True) (fun _ _ => trivial) OWf)
  refine ⟨rfl, ⟨some ⟨h9, 0, none⟩, cap, BG, hcap, hreads, ?_⟩, KW⟩
  exact fun ad' e _ hs9 => far_block e h9w (HSB.out _ hs9)
theorem takQ_all (p : S60) (r : List S60) : takQ (p :: r) (szQ p) = some (p, r) := by
 unfold takQ
 dsimp only
 rw [if_pos rfl]
theorem IsL3.low {w : World} {g : Nat} {l : List S60} {S : Nat → Prop} (h : IsL3 w g l S) : ∃ (A : Option Addr) (c : Nat), w.heap[g]? = some (.cells #[.slice A l.length c] 99 (0, 0)) ∧ l.length ≤ c ∧ Kd.C k60 w A l.length l ∧ (∀ ad, A = some ad → 0 < l.length → ¬ S ad.block ∧ ad.block < w.heap.size) := by
 obtain ⟨A, c, h1, h2, h3, h4⟩ := h
 refine ⟨A, c, h1, h2, h3, fun ad e hn => ⟨h4 ad e hn, ?_⟩⟩
 obtain ⟨ad', e3, hx0, _, _⟩ := at_T60 h3 0 (Int.le_refl _) (by omega)
 rw [e] at e3
 obtain rfl := Option.some.inj e3
 rw [show ((0 : Int)).toNat = 0 from rfl, show 0 * 3 = 0 from rfl, Addr.add_zero'] at hx0
 exact World.block_lt_of_cell? w _ hx0
theorem IsL3.next {w w' : World} {g : Nat} {l : List S60} {S P S' : Nat → Prop} (h : IsL3 w g l S) (hk : Kept w w' P) (hP : ∀ k, P k → S k) (hg : ¬ P g) (hs : ∀ k, S' k → S k ∨ w.heap.size ≤ k) : IsL3 w' g l S' := by
 obtain ⟨A, c, h1, h2, h3, h4⟩ := h.low
 refine ⟨A, c, blk_kept h1 hk hg, h2, ?_, fun ad e hn q => ?_⟩
 rotate_left
 ·obtain ⟨a1, a2⟩ := h4 ad e hn
  rcases hs _ q with q | q
  rotate_left
  ·omega
  exact a1 q
 exact Kd.C_foot_neS (S := P) (fun h => h) h3 (fun ad e hn hq => (h4 ad e hn).1 (hP _ hq)) w' hk
theorem l3_done_nil (w : World) (g : Nat) (S : Nat → Prop) (h : IsL3 w g [] S) : Calls Try.prog 71 #[.pointer (some ⟨g, 0, none⟩)] w fun e w' => e = .returned (.bool true) ∧ w = w' := l3_done w g [] S h
theorem l3_done_cons (w : World) (g : Nat) (p : S60) (l : List S60) (S : Nat → Prop) (h : IsL3 w g (p :: l) S) : Calls Try.prog 71 #[.pointer (some ⟨g, 0, none⟩)] w fun e w' => e = .returned (.bool false) ∧ w = w' := by
 refine (l3_done w g (p :: l) S h).mono ?_
 rintro e w' ⟨rfl, rfl⟩
 refine ⟨?_, rfl⟩
 rw [show (((p :: l).length : Int) == 0) = false from beq_eq_false_iff_ne.mpr (by rw [List.length_cons]; omega)]
theorem blk3 {w : World} {g : Nat} (h : w.heap[g]? = some (.cells #[.int .i64 0, .string ⟨#[]⟩, .string ⟨#[]⟩] 60 (0, 0))) (a : Int) (b c : ByteArray) : (((w.setCell ⟨g, 0, none⟩ (.int .i64 a)).setCell ⟨g, 1, none⟩ (.string b)).setCell ⟨g, 2, none⟩ (.string c)).heap[g]? = some (.cells #[.int .i64 a, .string b, .string c] 60 (0, 0)) :=
 blk_put (cs' := #[.int .i64 a, .string b, .string c]) (blk_put (cs' := #[.int .i64 a, .string b, .string ⟨#[]⟩]) (blk_put (cs' := #[.int .i64 a, .string ⟨#[]⟩, .string ⟨#[]⟩]) h 0 (.int .i64 a) rfl) 1 (.string b) rfl) 2 (.string c) rfl
theorem takQ_len {p x : S60} {r l' : List S60} {n : Int} (h : takQ (p :: r) n = some (x, l')) : l'.length ≤ (p :: r).length := by
 by_cases hn : n = szQ p
 rotate_left
 ·rcases takQ_cases hn h with h | h | h
  ·rw [h.2.2]; simp
  ·rw [h.2.2.2.2]; simp
  rw [h.2.2.2.2]; simp
 unfold takQ at h
 dsimp only at h
 rw [if_pos hn] at h
 simp only [Option.some.injEq, Prod.mk.injEq] at h
 rw [← h.2, List.length_cons]; omega
theorem ba_inj {a b : ByteArray} (h : a.toList = b.toList) : a = b := by
 rw [ByteArray.toList_eq, ByteArray.toList_eq] at h
 exact ByteArray.ext (Array.toList_inj.1 h)
end Go.Proofs.Ytoagljlnfakgjaa.PFnDiamond
