/- (thin) Written by a program of this session (wip/ovl.py) over the kit's print: plain functions with the answers of the Go functions, and the proofs that they are; no condition. -/
import Derived.Test.YtlelpomnblaciaaPFnNormalx0
import Derived.Test.YtlelpomnblaciaaPFnNormalx2
import Derived.Test.YtlelpomnblaciaaPFnNormalx3
import Derived.Test.YtlelpomnblaciaaPFnNormalx6
import Derived.Test.YtlelpomnblaciaaPFnNormalx9
import Derived.Test.YtlelpomnblaciaaPFnNormalx10
import Derived.Test.YtlelpomnblaciaaPFnNormalx12
namespace Go.Proofs.Ytlelpomnblaciaa.PFnNormal
open Go.RowKit Go.Proofs.YtlelpomnblaciaaW.PrintWords Go.Proofs.YtlelpomnblaciaaW.PrintLast Go.Proofs.YtlelpomnblaciaaW.PrintMore
attribute [local go_sem] max2_int min2_int max_two min_two max_three min_three max_four min_four   -- for this text's walks alone
set_option linter.unusedVariables false
set_option linter.unusedSimpArgs false
/-! ### spec_DrawSpliceOp: function 37 (by hand) -/
def spec_DrawSpliceOp.f (k : Nat) (l0 : List Int) : Option (ByteArray × Int × Int × ByteArray) :=
 (spec_l1Cur_plainText.f k l0 0 0).bind fun s => (spec_l1Cur_pick.f l0 s.2.1 s.2.2 (wrap64 ((s.1.size : Int) + 1))).bind fun a => (spec_l1Cur_pick.f l0 a.2.1 a.2.2 (wrap64 ((wrap64 ((s.1.size : Int) - a.1)) + 2))).bind fun b => (spec_l1Cur_plainText.f k l0 b.2.1 b.2.2).bind fun p => (spec_l1Cur_one.f l0 p.2.1 p.2.2 4).bind fun c => if c.1 = true then (if wrap64 (a.1 + b.1) ≤ (s.1.size : Int) then (if 0 ≤ a.1 then (if a.1 ≤ wrap64 (a.1 + b.1) then some (s.1, a.1, wrap64 (a.1 + b.1), s.1.extract (a.1 : Int).toNat ((wrap64 (a.1 + b.1)) : Int).toNat) else none) else none) else some (s.1, a.1, wrap64 (a.1 + b.1), p.1)) else some (s.1, a.1, wrap64 (a.1 + b.1), p.1)
theorem spec_DrawSpliceOp.mono : ∀ a0 k, LeO (spec_DrawSpliceOp.f k a0) (spec_DrawSpliceOp.f (k + 1) a0) := by
 intro a0 k
 unfold spec_DrawSpliceOp.f
 exact LeO.bind (spec_l1Cur_plainText.mono _ _ _ _) (fun _ => LeO.bind (LeO.refl _) (fun _ => LeO.bind (LeO.refl _) (fun _ => LeO.bind (spec_l1Cur_plainText.mono _ _ _ _) (fun _ => LeO.refl _))))
theorem results_tmp4_ {fn : Func} {t u v x : Tmp} (h : fn.results = #[.tmp t, .tmp u, .tmp v, .tmp x]) (tmps : Array Value) (P : Program) (w : World) :
  (results fn tmps).run P w = .ok (.tuple #[tmps.getD t undef, tmps.getD u undef, tmps.getD v undef, tmps.getD x undef]) w := by
 simp [results, h]
set_option maxHeartbeats 4000000 in
set_option maxRecDepth 100000 in
theorem spec_DrawSpliceOp.calls (k : Nat) (A0 : Option Addr) (c0 : Nat) (l0 : List Int) (r1 : ByteArray) (r2 : Int) (r3 : Int) (r4 : ByteArray) (w : World) (hr0 : Kd.C (Kd.int .u8) w A0 l0.length l0) (hc0 : l0.length ≤ c0) (h : spec_DrawSpliceOp.f k l0 = some (r1, r2, r3, r4)) :
  Calls Try.prog 37 #[.slice A0 l0.length c0] w fun e w' => e = .returned (.tuple #[.string r1, .int .i64 r2, .int .i64 r3, .string r4]) ∧ Below w.heap.size w w' := by
 unfold spec_DrawSpliceOp.f at h
 obtain ⟨⟨s, a1, z1⟩, h1, h⟩ := Option.bind_eq_some_iff.mp h
 obtain ⟨⟨a, a2, z2⟩, h2, h⟩ := Option.bind_eq_some_iff.mp h
 obtain ⟨⟨b, a3, z3⟩, h3, h⟩ := Option.bind_eq_some_iff.mp h
 obtain ⟨⟨p, a4, z4⟩, h4, h⟩ := Option.bind_eq_some_iff.mp h
 obtain ⟨⟨c, a5, z5⟩, h5, h⟩ := Option.bind_eq_some_iff.mp h
 dsimp only at h1 h2 h3 h4 h5 h
 have H1 := aM h1
 have H2 := aM h2
 have H3 := aM h3
 have H4 := aM h4
 have H5 := aM h5
 have HR0 := aM hr0
 clear h1 h2 h3 h4 h5 hr0
 by_cases p2 : wrap64 (a + b) ≤ (s.size : Int)
 ·have p2b : decide (wrap64 (a + b) ≤ (s.size : Int)) = true := decide_eq_true p2
  have p2e := eq_true p2
  cases c with
  | true =>
   rw [if_pos rfl, if_pos p2] at h
   by_cases p3 : 0 ≤ a
   ·rw [if_pos p3] at h
    have p3e := eq_true p3
    have p3b : decide (0 ≤ a) = true := decide_eq_true p3
    by_cases p4 : a ≤ wrap64 (a + b)
    ·rw [if_pos p4] at h
     have p4e := eq_true p4
     have p4b : decide (a ≤ wrap64 (a + b)) = true := decide_eq_true p4
     simp only [Option.some.injEq, Prod.mk.injEq] at h
     obtain ⟨rfl, rfl, rfl, rfl⟩ := h
     go_enter Try.func37, Try.ntmps37
     go_wp2_with (first | ((with_reducible refine gate_dst (N := 13) rfl ?_); refine box_event ?hg (N := 13) ?hd (cs := #[.slice A0 l0.length c0, .int .i64 0, .int .u64 0]) (t := 83) ?hr ?_; (case hd => rfl); (case hg => rfl); (case hr => exact aP18); intro gb hgb w1 hbox hb; have HI1 := aM (show IsS83 w w1 gb l0 0 0 from ⟨A0, c0, hbox, Nat.le_of_eq hgb.symm, HR0.out⟩); have HB1 := aM hb; clear hbox hb hgb) | (go_at_call 70; (with_reducible refine (spec_l1Cur_plainText.calls k gb l0 0 0 s a1 z1 w _ HI1.out HB1.out H1.out).mono ?_); rintro e w2 ⟨rfl, hi, hb, hk⟩; have HI2 := aM hi; have HB2 := aM hb; clear hi hb hk) | (go_at_call 74; (with_reducible refine (spec_l1Cur_pick.calls gb l0 a1 z1 (wrap64 ((s.size : Int) + 1)) a a2 z2 w _ HI2.out HB2.out H2.out).mono ?_); rintro e w3 ⟨rfl, hi, hb, hk⟩; have HI3 := aM hi; have HB3 := aM hb; clear hi hb hk) | (go_at_call 74; (with_reducible refine (spec_l1Cur_pick.calls gb l0 a2 z2 (wrap64 ((wrap64 ((s.size : Int) - a)) + 2)) b a3 z3 w _ HI3.out HB3.out H3.out).mono ?_); rintro e w4 ⟨rfl, hi, hb, hk⟩; have HI4 := aM hi; have HB4 := aM hb; clear hi hb hk) | (go_at_call 70; (with_reducible refine (spec_l1Cur_plainText.calls k gb l0 a3 z3 p a4 z4 w _ HI4.out HB4.out H4.out).mono ?_); rintro e w5 ⟨rfl, hi, hb, hk⟩; have HI5 := aM hi; have HB5 := aM hb; clear hi hb hk) | (go_at_call 72; (with_reducible refine (spec_l1Cur_one.calls gb l0 a4 z4 4 true a5 z5 w _ HI5.out HB5.out H5.out).mono ?_); rintro e w6 ⟨rfl, hi, hb, hk⟩; have HI6 := aM hi; have HB6 := aM hb; clear hi hb hk))
     (try simp only [Exit.inBlock, Exit.then])
     refine bodyPost_ret (results_tmp4_ rfl _ _ _) rfl ?_
     exact ⟨by first | rfl | (simp; done) | (simp [*]; done), HB6.out⟩
    ·rw [if_neg p4] at h; exact absurd h (by simp)
   ·rw [if_neg p3] at h; exact absurd h (by simp)
  | false =>
   rw [if_neg (by simp)] at h
   simp only [Option.some.injEq, Prod.mk.injEq] at h
   obtain ⟨rfl, rfl, rfl, rfl⟩ := h
   go_enter Try.func37, Try.ntmps37
   go_wp2_with (first | ((with_reducible refine gate_dst (N := 13) rfl ?_); refine box_event ?hg (N := 13) ?hd (cs := #[.slice A0 l0.length c0, .int .i64 0, .int .u64 0]) (t := 83) ?hr ?_; (case hd => rfl); (case hg => rfl); (case hr => exact aP18); intro gb hgb w1 hbox hb; have HI1 := aM (show IsS83 w w1 gb l0 0 0 from ⟨A0, c0, hbox, Nat.le_of_eq hgb.symm, HR0.out⟩); have HB1 := aM hb; clear hbox hb hgb) | (go_at_call 70; (with_reducible refine (spec_l1Cur_plainText.calls k gb l0 0 0 s a1 z1 w _ HI1.out HB1.out H1.out).mono ?_); rintro e w2 ⟨rfl, hi, hb, hk⟩; have HI2 := aM hi; have HB2 := aM hb; clear hi hb hk) | (go_at_call 74; (with_reducible refine (spec_l1Cur_pick.calls gb l0 a1 z1 (wrap64 ((s.size : Int) + 1)) a a2 z2 w _ HI2.out HB2.out H2.out).mono ?_); rintro e w3 ⟨rfl, hi, hb, hk⟩; have HI3 := aM hi; have HB3 := aM hb; clear hi hb hk) | (go_at_call 74; (with_reducible refine (spec_l1Cur_pick.calls gb l0 a2 z2 (wrap64 ((wrap64 ((s.size : Int) - a)) + 2)) b a3 z3 w _ HI3.out HB3.out H3.out).mono ?_); rintro e w4 ⟨rfl, hi, hb, hk⟩; have HI4 := aM hi; have HB4 := aM hb; clear hi hb hk) | (go_at_call 70; (with_reducible refine (spec_l1Cur_plainText.calls k gb l0 a3 z3 p a4 z4 w _ HI4.out HB4.out H4.out).mono ?_); rintro e w5 ⟨rfl, hi, hb, hk⟩; have HI5 := aM hi; have HB5 := aM hb; clear hi hb hk) | (go_at_call 72; (with_reducible refine (spec_l1Cur_one.calls gb l0 a4 z4 4 false a5 z5 w _ HI5.out HB5.out H5.out).mono ?_); rintro e w6 ⟨rfl, hi, hb, hk⟩; have HI6 := aM hi; have HB6 := aM hb; clear hi hb hk))
   (try simp only [Exit.inBlock, Exit.then])
   refine bodyPost_ret (results_tmp4_ rfl _ _ _) rfl ?_
   exact ⟨by first | rfl | (simp; done) | (simp [*]; done), HB6.out⟩
 ·have p2b : decide (wrap64 (a + b) ≤ (s.size : Int)) = false := decide_eq_false p2
  have p2e := eq_false p2
  cases c with
  | true =>
   rw [if_pos rfl, if_neg p2] at h
   simp only [Option.some.injEq, Prod.mk.injEq] at h
   obtain ⟨rfl, rfl, rfl, rfl⟩ := h
   go_enter Try.func37, Try.ntmps37
   go_wp2_with (first | ((with_reducible refine gate_dst (N := 13) rfl ?_); refine box_event ?hg (N := 13) ?hd (cs := #[.slice A0 l0.length c0, .int .i64 0, .int .u64 0]) (t := 83) ?hr ?_; (case hd => rfl); (case hg => rfl); (case hr => exact aP18); intro gb hgb w1 hbox hb; have HI1 := aM (show IsS83 w w1 gb l0 0 0 from ⟨A0, c0, hbox, Nat.le_of_eq hgb.symm, HR0.out⟩); have HB1 := aM hb; clear hbox hb hgb) | (go_at_call 70; (with_reducible refine (spec_l1Cur_plainText.calls k gb l0 0 0 s a1 z1 w _ HI1.out HB1.out H1.out).mono ?_); rintro e w2 ⟨rfl, hi, hb, hk⟩; have HI2 := aM hi; have HB2 := aM hb; clear hi hb hk) | (go_at_call 74; (with_reducible refine (spec_l1Cur_pick.calls gb l0 a1 z1 (wrap64 ((s.size : Int) + 1)) a a2 z2 w _ HI2.out HB2.out H2.out).mono ?_); rintro e w3 ⟨rfl, hi, hb, hk⟩; have HI3 := aM hi; have HB3 := aM hb; clear hi hb hk) | (go_at_call 74; (with_reducible refine (spec_l1Cur_pick.calls gb l0 a2 z2 (wrap64 ((wrap64 ((s.size : Int) - a)) + 2)) b a3 z3 w _ HI3.out HB3.out H3.out).mono ?_); rintro e w4 ⟨rfl, hi, hb, hk⟩; have HI4 := aM hi; have HB4 := aM hb; clear hi hb hk) | (go_at_call 70; (with_reducible refine (spec_l1Cur_plainText.calls k gb l0 a3 z3 p a4 z4 w _ HI4.out HB4.out H4.out).mono ?_); rintro e w5 ⟨rfl, hi, hb, hk⟩; have HI5 := aM hi; have HB5 := aM hb; clear hi hb hk) | (go_at_call 72; (with_reducible refine (spec_l1Cur_one.calls gb l0 a4 z4 4 true a5 z5 w _ HI5.out HB5.out H5.out).mono ?_); rintro e w6 ⟨rfl, hi, hb, hk⟩; have HI6 := aM hi; have HB6 := aM hb; clear hi hb hk))
   (try simp only [Exit.inBlock, Exit.then])
   refine bodyPost_ret (results_tmp4_ rfl _ _ _) rfl ?_
   exact ⟨by first | rfl | (simp; done) | (simp [*]; done), HB6.out⟩
  | false =>
   rw [if_neg (by simp)] at h
   simp only [Option.some.injEq, Prod.mk.injEq] at h
   obtain ⟨rfl, rfl, rfl, rfl⟩ := h
   go_enter Try.func37, Try.ntmps37
   go_wp2_with (first | ((with_reducible refine gate_dst (N := 13) rfl ?_); refine box_event ?hg (N := 13) ?hd (cs := #[.slice A0 l0.length c0, .int .i64 0, .int .u64 0]) (t := 83) ?hr ?_; (case hd => rfl); (case hg => rfl); (case hr => exact aP18); intro gb hgb w1 hbox hb; have HI1 := aM (show IsS83 w w1 gb l0 0 0 from ⟨A0, c0, hbox, Nat.le_of_eq hgb.symm, HR0.out⟩); have HB1 := aM hb; clear hbox hb hgb) | (go_at_call 70; (with_reducible refine (spec_l1Cur_plainText.calls k gb l0 0 0 s a1 z1 w _ HI1.out HB1.out H1.out).mono ?_); rintro e w2 ⟨rfl, hi, hb, hk⟩; have HI2 := aM hi; have HB2 := aM hb; clear hi hb hk) | (go_at_call 74; (with_reducible refine (spec_l1Cur_pick.calls gb l0 a1 z1 (wrap64 ((s.size : Int) + 1)) a a2 z2 w _ HI2.out HB2.out H2.out).mono ?_); rintro e w3 ⟨rfl, hi, hb, hk⟩; have HI3 := aM hi; have HB3 := aM hb; clear hi hb hk) | (go_at_call 74; (with_reducible refine (spec_l1Cur_pick.calls gb l0 a2 z2 (wrap64 ((wrap64 ((s.size : Int) - a)) + 2)) b a3 z3 w _ HI3.out HB3.out H3.out).mono ?_); rintro e w4 ⟨rfl, hi, hb, hk⟩; have HI4 := aM hi; have HB4 := aM hb; clear hi hb hk) | (go_at_call 70; (with_reducible refine (spec_l1Cur_plainText.calls k gb l0 a3 z3 p a4 z4 w _ HI4.out HB4.out H4.out).mono ?_); rintro e w5 ⟨rfl, hi, hb, hk⟩; have HI5 := aM hi; have HB5 := aM hb; clear hi hb hk) | (go_at_call 72; (with_reducible refine (spec_l1Cur_one.calls gb l0 a4 z4 4 false a5 z5 w _ HI5.out HB5.out H5.out).mono ?_); rintro e w6 ⟨rfl, hi, hb, hk⟩; have HI6 := aM hi; have HB6 := aM hb; clear hi hb hk))
   (try simp only [Exit.inBlock, Exit.then])
   refine bodyPost_ret (results_tmp4_ rfl _ _ _) rfl ?_
   exact ⟨by first | rfl | (simp; done) | (simp [*]; done), HB6.out⟩
/-! ### lZ: function 12 -/
mutual
def lZ.j0 : Nat → List Int → List (S53) → ByteArray → List (S53) → Bool → Bool → Option (Bool)
 | 0, _, _, _, _, _, _ => none
 | k + 1, x1, x5, x6, x7, x8, x63 => if x63 = true then (some false) else (if x8 = true then ((impl_ApplyOp.f k x5 x6).bind fun bt353 => ((impl_ApplyOp.f k x7 x6).bind fun bt355 => ((impl_NormalOp.f k x7).bind fun bt357 => ((impl_SizesOf.f k x5).bind fun bt361 => ((impl_KeepAll.f bt361.1).bind fun bt364 => ((impl_ComposeOps.f k bt364.1 x5).bind fun bt368 => (if (bt353.2 != bt355.2) = true then (some false) else (if bt353.1.toList = bt355.1.toList then (if bt357.2 = true then ((laws_sameOps.f k bt357.1 x7).bind fun t372 => (if t372 = true then (if bt361.2.2 = true then (if bt364.2 = true then (if bt368.2 = true then ((laws_sameOps.f k bt368.1 x7).bind fun t373 => (if t373 = true then (lZ.j1 k x1) else (some false))) else (some false)) else (some false)) else (some false)) else (some false))) else (some false)) else (some false))))))))) else (lZ.j1 k x1))
def lZ.j1 : Nat → List Int → Option (Bool)
 | 0, _ => none
 | k + 1, x1 => (spec_DrawSpliceOp.f k x1).bind fun bt374 => ((impl_SpliceOp.f k bt374.1 bt374.2.1 bt374.2.2.1 bt374.2.2.2).bind fun bt378 => ((spec_SpliceOp.f k bt374.1 bt374.2.1 bt374.2.2.1 bt374.2.2.2).bind fun bt382 => (if (bt378.2 != bt382.2) = true then (lZ.j2 k bt374.1 bt374.2.1 bt374.2.2.1 bt374.2.2.2 bt378.1 bt378.2 true) else ((laws_sameOps.f k bt378.1 bt382.1).bind fun t386 => (lZ.j2 k bt374.1 bt374.2.1 bt374.2.2.1 bt374.2.2.2 bt378.1 bt378.2 (!t386))))))
def lZ.j2 : Nat → ByteArray → Int → Int → ByteArray → List (S53) → Bool → Bool → Option (Bool)
 | 0, _, _, _, _, _, _, _ => none
 | k + 1, x24, x25, x26, x27, x28, x29, x166 => if x166 = true then (some false) else (if x29 = true then ((impl_ApplyOp.f k x28 x24).bind fun bt387 => (if bt387.2 = true then (if 0 ≤ x25 then (if x25 ≤ (x24.size : Int) then (if (x24.extract 0 (x25 : Int).toNat).size + x27.size ≤ 9223372036854775807 then (if 0 ≤ x26 then (if x26 ≤ (x24.size : Int) then (if ((x24.extract 0 (x25 : Int).toNat) ++ x27).size + (x24.extract (x26 : Int).toNat x24.size).size ≤ 9223372036854775807 then (some (bt387.1.toList == (((x24.extract 0 (x25 : Int).toNat) ++ x27) ++ (x24.extract (x26 : Int).toNat x24.size)).toList)) else (none)) else (none)) else (none)) else (none)) else (none)) else (none)) else (some false))) else (some ((x28.length : Int) == 0)))
end
def lZ.f (k : Nat) (l0 : List Int) (l1 : List Int) : Option (Bool) := if (wrap64 ((l0.length : Int) + (l1.length : Int))) > 1048576 then (some true) else ((spec_DrawApplyOp.f k l0).bind fun bt340 => ((impl_NormalOp.f k bt340.1).bind fun bt344 => ((spec_NormalOp.f k bt340.1).bind fun bt348 => (if (bt344.2 != bt348.2) = true then (lZ.j0 k l1 bt340.1 bt340.2 bt344.1 bt344.2 true) else ((laws_sameOps.f k bt344.1 bt348.1).bind fun t352 => (lZ.j0 k l1 bt340.1 bt340.2 bt344.1 bt344.2 (!t352)))))))
theorem lZ.mono_l : ∀ k, (∀ y0 y1 y2 y3 y4 y5, LeO (lZ.j0 k y0 y1 y2 y3 y4 y5) (lZ.j0 (k + 1) y0 y1 y2 y3 y4 y5)) ∧ (∀ y0, LeO (lZ.j1 k y0) (lZ.j1 (k + 1) y0)) ∧ (∀ y0 y1 y2 y3 y4 y5 y6, LeO (lZ.j2 k y0 y1 y2 y3 y4 y5 y6) (lZ.j2 (k + 1) y0 y1 y2 y3 y4 y5 y6))
 | 0 => ⟨fun _ _ _ _ _ _ r h => by simp [lZ.j0] at h, fun _ r h => by simp [lZ.j1] at h, fun _ _ _ _ _ _ _ r h => by simp [lZ.j2] at h⟩
 | k + 1 => by
  obtain ⟨ih0, ih1, ih2⟩ := lZ.mono_l k
  refine ⟨?_, ?_, ?_⟩
  ·intro y0 y1 y2 y3 y4 y5
   unfold lZ.j0
   repeat' first
   | (with_reducible exact ih0 _ _ _ _ _ _)
   | (with_reducible exact ih1 _)
   | (with_reducible exact ih2 _ _ _ _ _ _ _)
   | (with_reducible exact impl_ApplyOp.mono _ _ _)
   | (with_reducible exact impl_ComposeOps.mono _ _ _)
   | (with_reducible exact impl_NormalOp.mono _ _)
   | (with_reducible exact impl_SizesOf.mono _ _)
   | (with_reducible exact impl_SpliceOp.mono _ _ _ _ _)
   | (with_reducible exact laws_sameOps.mono _ _ _)
   | (with_reducible exact spec_DrawApplyOp.mono _ _)
   | (with_reducible exact spec_DrawSpliceOp.mono _ _)
   | (with_reducible exact spec_NormalOp.mono _ _)
   | (with_reducible exact spec_SpliceOp.mono _ _ _ _ _)
   | (with_reducible exact LeO.refl _)
   | (with_reducible exact LeO.none _)
   | (with_reducible refine LeO.ite ?_ ?_)
   | (with_reducible refine LeO.bind ?_ (fun _ => ?_))
   | exact ih0 _ _ _ _ _ _
   | exact ih1 _
   | exact ih2 _ _ _ _ _ _ _
   | exact impl_ApplyOp.mono _ _ _
   | exact impl_ComposeOps.mono _ _ _
   | exact impl_NormalOp.mono _ _
   | exact impl_SizesOf.mono _ _
   | exact impl_SpliceOp.mono _ _ _ _ _
   | exact laws_sameOps.mono _ _ _
   | exact spec_DrawApplyOp.mono _ _
   | exact spec_DrawSpliceOp.mono _ _
   | exact spec_NormalOp.mono _ _
   | exact spec_SpliceOp.mono _ _ _ _ _
   | exact LeO.none _
   | refine LeO.ite ?_ ?_
   | refine LeO.bind ?_ (fun _ => ?_)
  ·intro y0
   unfold lZ.j1
   repeat' first
   | (with_reducible exact ih0 _ _ _ _ _ _)
   | (with_reducible exact ih1 _)
   | (with_reducible exact ih2 _ _ _ _ _ _ _)
   | (with_reducible exact impl_ApplyOp.mono _ _ _)
   | (with_reducible exact impl_ComposeOps.mono _ _ _)
   | (with_reducible exact impl_NormalOp.mono _ _)
   | (with_reducible exact impl_SizesOf.mono _ _)
   | (with_reducible exact impl_SpliceOp.mono _ _ _ _ _)
   | (with_reducible exact laws_sameOps.mono _ _ _)
   | (with_reducible exact spec_DrawApplyOp.mono _ _)
   | (with_reducible exact spec_DrawSpliceOp.mono _ _)
   | (with_reducible exact spec_NormalOp.mono _ _)
   | (with_reducible exact spec_SpliceOp.mono _ _ _ _ _)
   | (with_reducible exact LeO.refl _)
   | (with_reducible exact LeO.none _)
   | (with_reducible refine LeO.ite ?_ ?_)
   | (with_reducible refine LeO.bind ?_ (fun _ => ?_))
   | exact ih0 _ _ _ _ _ _
   | exact ih1 _
   | exact ih2 _ _ _ _ _ _ _
   | exact impl_ApplyOp.mono _ _ _
   | exact impl_ComposeOps.mono _ _ _
   | exact impl_NormalOp.mono _ _
   | exact impl_SizesOf.mono _ _
   | exact impl_SpliceOp.mono _ _ _ _ _
   | exact laws_sameOps.mono _ _ _
   | exact spec_DrawApplyOp.mono _ _
   | exact spec_DrawSpliceOp.mono _ _
   | exact spec_NormalOp.mono _ _
   | exact spec_SpliceOp.mono _ _ _ _ _
   | exact LeO.none _
   | refine LeO.ite ?_ ?_
   | refine LeO.bind ?_ (fun _ => ?_)
  ·intro y0 y1 y2 y3 y4 y5 y6
   unfold lZ.j2
   repeat' first
   | (with_reducible exact ih0 _ _ _ _ _ _)
   | (with_reducible exact ih1 _)
   | (with_reducible exact ih2 _ _ _ _ _ _ _)
   | (with_reducible exact impl_ApplyOp.mono _ _ _)
   | (with_reducible exact impl_ComposeOps.mono _ _ _)
   | (with_reducible exact impl_NormalOp.mono _ _)
   | (with_reducible exact impl_SizesOf.mono _ _)
   | (with_reducible exact impl_SpliceOp.mono _ _ _ _ _)
   | (with_reducible exact laws_sameOps.mono _ _ _)
   | (with_reducible exact spec_DrawApplyOp.mono _ _)
   | (with_reducible exact spec_DrawSpliceOp.mono _ _)
   | (with_reducible exact spec_NormalOp.mono _ _)
   | (with_reducible exact spec_SpliceOp.mono _ _ _ _ _)
   | (with_reducible exact LeO.refl _)
   | (with_reducible exact LeO.none _)
   | (with_reducible refine LeO.ite ?_ ?_)
   | (with_reducible refine LeO.bind ?_ (fun _ => ?_))
   | exact ih0 _ _ _ _ _ _
   | exact ih1 _
   | exact ih2 _ _ _ _ _ _ _
   | exact impl_ApplyOp.mono _ _ _
   | exact impl_ComposeOps.mono _ _ _
   | exact impl_NormalOp.mono _ _
   | exact impl_SizesOf.mono _ _
   | exact impl_SpliceOp.mono _ _ _ _ _
   | exact laws_sameOps.mono _ _ _
   | exact spec_DrawApplyOp.mono _ _
   | exact spec_DrawSpliceOp.mono _ _
   | exact spec_NormalOp.mono _ _
   | exact spec_SpliceOp.mono _ _ _ _ _
   | exact LeO.none _
   | refine LeO.ite ?_ ?_
   | refine LeO.bind ?_ (fun _ => ?_)
theorem lZ.mono : ∀ a0 a1 k, LeO (lZ.f k a0 a1) (lZ.f (k + 1) a0 a1) := by
 intro a0 a1 k
 obtain ⟨ih0, ih1, ih2⟩ := lZ.mono_l k
 unfold lZ.f
 repeat' first
   | (with_reducible exact ih0 _ _ _ _ _ _)
   | (with_reducible exact ih1 _)
   | (with_reducible exact ih2 _ _ _ _ _ _ _)
   | (with_reducible exact impl_ApplyOp.mono _ _ _)
   | (with_reducible exact impl_ComposeOps.mono _ _ _)
   | (with_reducible exact impl_NormalOp.mono _ _)
   | (with_reducible exact impl_SizesOf.mono _ _)
   | (with_reducible exact impl_SpliceOp.mono _ _ _ _ _)
   | (with_reducible exact laws_sameOps.mono _ _ _)
   | (with_reducible exact spec_DrawApplyOp.mono _ _)
   | (with_reducible exact spec_DrawSpliceOp.mono _ _)
   | (with_reducible exact spec_NormalOp.mono _ _)
   | (with_reducible exact spec_SpliceOp.mono _ _ _ _ _)
   | (with_reducible exact LeO.refl _)
   | (with_reducible exact LeO.none _)
   | (with_reducible refine LeO.ite ?_ ?_)
   | (with_reducible refine LeO.bind ?_ (fun _ => ?_))
   | exact ih0 _ _ _ _ _ _
   | exact ih1 _
   | exact ih2 _ _ _ _ _ _ _
   | exact impl_ApplyOp.mono _ _ _
   | exact impl_ComposeOps.mono _ _ _
   | exact impl_NormalOp.mono _ _
   | exact impl_SizesOf.mono _ _
   | exact impl_SpliceOp.mono _ _ _ _ _
   | exact laws_sameOps.mono _ _ _
   | exact spec_DrawApplyOp.mono _ _
   | exact spec_DrawSpliceOp.mono _ _
   | exact spec_NormalOp.mono _ _
   | exact spec_SpliceOp.mono _ _ _ _ _
   | exact LeO.none _
   | refine LeO.ite ?_ ?_
   | refine LeO.bind ?_ (fun _ => ?_)
set_option maxHeartbeats 8000000 in
set_option maxRecDepth 100000 in
theorem lZ.calls (k : Nat) (A0 : Option Addr) (c0 : Nat) (l0 : List Int) (A1 : Option Addr) (c1 : Nat) (l1 : List Int) (r : Bool) (hr_ : r = true) (w : World) (hr0 : Kd.C (Kd.int .u8) w A0 l0.length l0) (hc0 : l0.length ≤ c0) (hr1 : Kd.C (Kd.int .u8) w A1 l1.length l1) (hc1 : l1.length ≤ c1) (h : lZ.f k l0 l1 = some r) :
  Calls Try.prog 12 #[.slice A0 l0.length c0, .slice A1 l1.length c1] w fun e w' => e = .returned (.bool r) ∧ Below w.heap.size w w' := by
 have hrt_ := aM hr_
 clear hr_
 have HR0 := aM hr0
 have HC0 := aM hc0
 clear hr0 hc0
 have HR1 := aM hr1
 have HC1 := aM hc1
 clear hr1 hc1
 have HB := aM (Below.refl w.heap.size w)
 have H : (if (wrap64 ((l0.length : Int) + (l1.length : Int))) > 1048576 then (some true) else ((spec_DrawApplyOp.f k l0).bind fun bt340 => ((impl_NormalOp.f k bt340.1).bind fun bt344 => ((spec_NormalOp.f k bt340.1).bind fun bt348 => (if (bt344.2 != bt348.2) = true then (lZ.j0 k l1 bt340.1 bt340.2 bt344.1 bt344.2 true) else ((laws_sameOps.f k bt344.1 bt348.1).bind fun t352 => (lZ.j0 k l1 bt340.1 bt340.2 bt344.1 bt344.2 (!t352)))))))) = some r := h
 clear h
 by_cases c3 : (wrap64 ((l0.length : Int) + (l1.length : Int))) > 1048576
 ·rw [if_pos c3] at H
  have c3b0 : decide (1048576 < (wrap64 ((l0.length : Int) + (l1.length : Int)))) = true := decide_eq_true c3
  clear c3
  obtain rfl := Option.some.inj H
  go_enter Try.func12, Try.ntmps12
  go_wp2
  repeat (go_quiet (fail); try go_wp2)
  go_ret
  exact ⟨by first | rfl | (simp [errW_none, errW_some] <;> rfl) | (simp [errW_none, errW_some]; exact isE _) | (simp [*, errW_none, errW_some] <;> rfl), bB⟩
 ·rw [if_neg c3] at H
  have c3b0 : decide (1048576 < (wrap64 ((l0.length : Int) + (l1.length : Int)))) = false := decide_eq_false c3
  clear c3
  replace H := Option.bind_eq_some_iff.mp H
  obtain ⟨⟨t340, t341⟩, A40, H⟩ := H
  replace H : ((impl_NormalOp.f k t340).bind fun bt344 => ((spec_NormalOp.f k t340).bind fun bt348 => (if (bt344.2 != bt348.2) = true then (lZ.j0 k l1 t340 t341 bt344.1 bt344.2 true) else ((laws_sameOps.f k bt344.1 bt348.1).bind fun t352 => (lZ.j0 k l1 t340 t341 bt344.1 bt344.2 (!t352)))))) = some r := H
  have A4 := aM A40
  clear A40
  replace H := Option.bind_eq_some_iff.mp H
  obtain ⟨⟨t344, t345⟩, A50, H⟩ := H
  replace H : ((spec_NormalOp.f k t340).bind fun bt348 => (if (t345 != bt348.2) = true then (lZ.j0 k l1 t340 t341 t344 t345 true) else ((laws_sameOps.f k t344 bt348.1).bind fun t352 => (lZ.j0 k l1 t340 t341 t344 t345 (!t352))))) = some r := H
  have A5 := aM A50
  clear A50
  replace H := Option.bind_eq_some_iff.mp H
  obtain ⟨⟨t348, t349⟩, A60, H⟩ := H
  replace H : (if (t345 != t349) = true then (lZ.j0 k l1 t340 t341 t344 t345 true) else ((laws_sameOps.f k t344 t348).bind fun t352 => (lZ.j0 k l1 t340 t341 t344 t345 (!t352)))) = some r := H
  have A6 := aM A60
  clear A60
  have HC7 := aM H
  clear H
  go_enter Try.func12, Try.ntmps12
  go_upto_region 6 with (first | (go_at_call 35; (with_reducible refine (spec_DrawApplyOp.calls k _ _ l0 t340 t341 _ ?side1 ?side2 A4.out).mono ?_); (case side1 => exact cC HR0.out); (case side2 => exact HC0.out); rintro e w8 ⟨v342, rfl, ho0, hb⟩; have n0_ := aM (Kd.R_lower ho0 (below_size bB)); have n1_ := aM (below_step bB hb); clear HB; have HO343 := n0_; have HB := n1_; clear n0_ n1_; (try clear hb); (try clear hb2); (try clear hk); (try clear hi); (try clear ho0); obtain ⟨Ao9, co9, eo9⟩ := Kd.R_slice HO343.out; subst eo9) | (go_at_call 32; (with_reducible refine (impl_NormalOp.calls k _ _ t340 t344 t345 _ ?side1 ?side2 A5.out).mono ?_); (case side1 => exact cC ((Kd.R_reads' HO343.out).2.2)); (case side2 => exact (Kd.R_reads' HO343.out).2.1); rintro e w10 ⟨v346, rfl, ho0, hb⟩; have n0_ := aM (Kd.R_elder' (rR HO343.out) (Kd.R_base ho0) hb); have n1_ := aM (Kd.R_lower (Kd.R_new' ho0 (Kd.R_lt (rR HO343.out))) (below_size bB)); have n2_ := aM (below_step bB hb); clear HO343; clear HB; have HO343 := n0_; have HO347 := n1_; have HB := n2_; clear n0_ n1_ n2_; (try clear hb); (try clear hb2); (try clear hk); (try clear hi); (try clear ho0)) | (go_at_call 31; (with_reducible refine (spec_NormalOp.calls k _ _ t340 t348 t349 _ ?side1 ?side2 A6.out).mono ?_); (case side1 => exact cC ((Kd.R_reads' HO343.out).2.2)); (case side2 => exact (Kd.R_reads' HO343.out).2.1); rintro e w11 ⟨v350, rfl, ho0, hb⟩; have n0_ := aM (Kd.R_elder' (rR HO343.out) (Kd.R_base ho0) hb); have n1_ := aM (Kd.R_elder' (rR HO347.out) (Kd.R_base ho0) hb); have n2_ := aM (Kd.R_lower (Kd.R_new' (Kd.R_new' ho0 (Kd.R_lt (rR HO343.out))) (Kd.R_lt (rR HO347.out))) (below_size bB)); have n3_ := aM (below_step bB hb); clear HO343; clear HO347; clear HB; have HO343 := n0_; have HO347 := n1_; have HO351 := n2_; have HB := n3_; clear n0_ n1_ n2_ n3_; (try clear hb); (try clear hb2); (try clear hk); (try clear hi); (try clear ho0)))
  repeat (go_quiet (first | (go_at_call 35; (with_reducible refine (spec_DrawApplyOp.calls k _ _ l0 t340 t341 _ ?side1 ?side2 A4.out).mono ?_); (case side1 => exact cC HR0.out); (case side2 => exact HC0.out); rintro e w8 ⟨v342, rfl, ho0, hb⟩; have n0_ := aM (Kd.R_lower ho0 (below_size bB)); have n1_ := aM (below_step bB hb); clear HB; have HO343 := n0_; have HB := n1_; clear n0_ n1_; (try clear hb); (try clear hb2); (try clear hk); (try clear hi); (try clear ho0); obtain ⟨Ao9, co9, eo9⟩ := Kd.R_slice HO343.out; subst eo9) | (go_at_call 32; (with_reducible refine (impl_NormalOp.calls k _ _ t340 t344 t345 _ ?side1 ?side2 A5.out).mono ?_); (case side1 => exact cC ((Kd.R_reads' HO343.out).2.2)); (case side2 => exact (Kd.R_reads' HO343.out).2.1); rintro e w10 ⟨v346, rfl, ho0, hb⟩; have n0_ := aM (Kd.R_elder' (rR HO343.out) (Kd.R_base ho0) hb); have n1_ := aM (Kd.R_lower (Kd.R_new' ho0 (Kd.R_lt (rR HO343.out))) (below_size bB)); have n2_ := aM (below_step bB hb); clear HO343; clear HB; have HO343 := n0_; have HO347 := n1_; have HB := n2_; clear n0_ n1_ n2_; (try clear hb); (try clear hb2); (try clear hk); (try clear hi); (try clear ho0)) | (go_at_call 31; (with_reducible refine (spec_NormalOp.calls k _ _ t340 t348 t349 _ ?side1 ?side2 A6.out).mono ?_); (case side1 => exact cC ((Kd.R_reads' HO343.out).2.2)); (case side2 => exact (Kd.R_reads' HO343.out).2.1); rintro e w11 ⟨v350, rfl, ho0, hb⟩; have n0_ := aM (Kd.R_elder' (rR HO343.out) (Kd.R_base ho0) hb); have n1_ := aM (Kd.R_elder' (rR HO347.out) (Kd.R_base ho0) hb); have n2_ := aM (Kd.R_lower (Kd.R_new' (Kd.R_new' ho0 (Kd.R_lt (rR HO343.out))) (Kd.R_lt (rR HO347.out))) (below_size bB)); have n3_ := aM (below_step bB hb); clear HO343; clear HO347; clear HB; have HO343 := n0_; have HO347 := n1_; have HO351 := n2_; have HB := n3_; clear n0_ n1_ n2_ n3_; (try clear hb); (try clear hb2); (try clear hk); (try clear hi); (try clear ho0))); go_upto_region 6 with (first | (go_at_call 35; (with_reducible refine (spec_DrawApplyOp.calls k _ _ l0 t340 t341 _ ?side1 ?side2 A4.out).mono ?_); (case side1 => exact cC HR0.out); (case side2 => exact HC0.out); rintro e w8 ⟨v342, rfl, ho0, hb⟩; have n0_ := aM (Kd.R_lower ho0 (below_size bB)); have n1_ := aM (below_step bB hb); clear HB; have HO343 := n0_; have HB := n1_; clear n0_ n1_; (try clear hb); (try clear hb2); (try clear hk); (try clear hi); (try clear ho0); obtain ⟨Ao9, co9, eo9⟩ := Kd.R_slice HO343.out; subst eo9) | (go_at_call 32; (with_reducible refine (impl_NormalOp.calls k _ _ t340 t344 t345 _ ?side1 ?side2 A5.out).mono ?_); (case side1 => exact cC ((Kd.R_reads' HO343.out).2.2)); (case side2 => exact (Kd.R_reads' HO343.out).2.1); rintro e w10 ⟨v346, rfl, ho0, hb⟩; have n0_ := aM (Kd.R_elder' (rR HO343.out) (Kd.R_base ho0) hb); have n1_ := aM (Kd.R_lower (Kd.R_new' ho0 (Kd.R_lt (rR HO343.out))) (below_size bB)); have n2_ := aM (below_step bB hb); clear HO343; clear HB; have HO343 := n0_; have HO347 := n1_; have HB := n2_; clear n0_ n1_ n2_; (try clear hb); (try clear hb2); (try clear hk); (try clear hi); (try clear ho0)) | (go_at_call 31; (with_reducible refine (spec_NormalOp.calls k _ _ t340 t348 t349 _ ?side1 ?side2 A6.out).mono ?_); (case side1 => exact cC ((Kd.R_reads' HO343.out).2.2)); (case side2 => exact (Kd.R_reads' HO343.out).2.1); rintro e w11 ⟨v350, rfl, ho0, hb⟩; have n0_ := aM (Kd.R_elder' (rR HO343.out) (Kd.R_base ho0) hb); have n1_ := aM (Kd.R_elder' (rR HO347.out) (Kd.R_base ho0) hb); have n2_ := aM (Kd.R_lower (Kd.R_new' (Kd.R_new' ho0 (Kd.R_lt (rR HO343.out))) (Kd.R_lt (rR HO347.out))) (below_size bB)); have n3_ := aM (below_step bB hb); clear HO343; clear HO347; clear HB; have HO343 := n0_; have HO347 := n1_; have HO351 := n2_; have HB := n3_; clear n0_ n1_ n2_ n3_; (try clear hb); (try clear hb2); (try clear hk); (try clear hi); (try clear ho0))))
  (try simp only [Act.put, List.setIfInBounds_toArray, List.set_cons_zero, List.set_cons_succ])
  go_cut [63] (fun v63 wc => ∃ (kq : Nat) (x63_6 : Bool), v63 = .bool x63_6 ∧ Aside0 (lZ.j0 kq l1 t340 t341 t344 t345 x63_6 = some r) ∧ Aside0 (kq ≤ k) ∧ Aside0 (Kd.R k53 53 wc w.heap.size (fun k_ => some k_ ≠ (v346 : Value).ownBlock) (.slice Ao9 t340.length co9) t340) ∧ Aside0 (Kd.R k53 53 wc w.heap.size (fun k_ => some k_ ≠ ((.slice Ao9 t340.length co9) : Value).ownBlock) v346 t344) ∧ Aside0 (Below w.heap.size w wc))
  case first =>
   have H := HC7.out
   clear HC7
   by_cases c12 : (t345 != t349) = true
   ·rw [if_pos c12] at H
    have c12b0 : (t345 != t349) = true := c12
    (try (have c12b1 : decide (t345 = t349) = false := by simpa using c12))
    (try (have c12b2 : (t345 == t349) = false := by simpa using c12))
    (try (have c12b3 : ¬ (t345 = t349) := by simpa using c12))
    clear c12
    (first | rw [c12b0] | (simp only [i64_w, i32_w]; rw [c12b0]) | rw [c12e] | skip)
    have H' := aM H
    clear H
    go_wp2
    repeat (go_quiet (fail); try go_wp2)
    go_meet
    case rel => exact ⟨_, (true), aP14, H', ⟨by first | omega | exact Nat.le_refl _⟩, ⟨by (with_reducible repeat (first | apply Kd.R_alloc | apply Kd.R_drewN | apply Kd.R_drew)); exact Kd.R_mono HO343.out (fun _ hk => hk.1.2)⟩, ⟨by (with_reducible repeat (first | apply Kd.R_alloc | apply Kd.R_drewN | apply Kd.R_drew)); exact Kd.R_mono HO347.out (fun _ hk => hk.1.2)⟩, ⟨bB⟩⟩
   ·rw [if_neg c12] at H
    have c12b0 : (t345 != t349) = false := by simpa using c12
    (try (have c12b1 : decide (t345 = t349) = true := by simpa using c12))
    (try (have c12b2 : (t345 == t349) = true := by simpa using c12))
    clear c12
    (first | rw [c12b0] | (simp only [i64_w, i32_w]; rw [c12b0]) | rw [c12e] | skip)
    replace H := Option.bind_eq_some_iff.mp H
    obtain ⟨t352, A130, H⟩ := H
    replace H : (lZ.j0 k l1 t340 t341 t344 t345 (!t352)) = some r := H
    have A13 := aM A130
    clear A130
    have H' := aM H
    clear H
    obtain ⟨Ao14, co14, eo14⟩ := Kd.R_slice HO347.out
    subst eo14
    obtain ⟨Ao15, co15, eo15⟩ := Kd.R_slice HO351.out
    subst eo15
    go_wp2_with (first | (go_at_call 36; (with_reducible refine (laws_sameOps.calls k _ _ t344 _ _ t348 t352 _ ?side1 ?side2 ?side3 ?side4 A13.out).mono ?_); (case side1 => exact cC ((Kd.R_reads' HO347.out).2.2)); (case side2 => exact (Kd.R_reads' HO347.out).2.1); (case side3 => exact cC ((Kd.R_reads' HO351.out).2.2)); (case side4 => exact (Kd.R_reads' HO351.out).2.1); rintro e w' ⟨rfl, ⟨nd, rfl⟩⟩; (try first | exact ⟨rfl, _, World.drewN_drewN _ _ _⟩ | exact ⟨rfl, _, Eq.trans (World.drewN_drewN _ _ _) (congrArg (World.drewN _) (Nat.add_assoc _ _ _))⟩)))
    repeat (go_quiet (first | (go_at_call 36; (with_reducible refine (laws_sameOps.calls k _ _ t344 _ _ t348 t352 _ ?side1 ?side2 ?side3 ?side4 A13.out).mono ?_); (case side1 => exact cC ((Kd.R_reads' HO347.out).2.2)); (case side2 => exact (Kd.R_reads' HO347.out).2.1); (case side3 => exact cC ((Kd.R_reads' HO351.out).2.2)); (case side4 => exact (Kd.R_reads' HO351.out).2.1); rintro e w' ⟨rfl, ⟨nd, rfl⟩⟩; (try first | exact ⟨rfl, _, World.drewN_drewN _ _ _⟩ | exact ⟨rfl, _, Eq.trans (World.drewN_drewN _ _ _) (congrArg (World.drewN _) (Nat.add_assoc _ _ _))⟩))); try go_wp2_with (first | (go_at_call 36; (with_reducible refine (laws_sameOps.calls k _ _ t344 _ _ t348 t352 _ ?side1 ?side2 ?side3 ?side4 A13.out).mono ?_); (case side1 => exact cC ((Kd.R_reads' HO347.out).2.2)); (case side2 => exact (Kd.R_reads' HO347.out).2.1); (case side3 => exact cC ((Kd.R_reads' HO351.out).2.2)); (case side4 => exact (Kd.R_reads' HO351.out).2.1); rintro e w' ⟨rfl, ⟨nd, rfl⟩⟩; (try first | exact ⟨rfl, _, World.drewN_drewN _ _ _⟩ | exact ⟨rfl, _, Eq.trans (World.drewN_drewN _ _ _) (congrArg (World.drewN _) (Nat.add_assoc _ _ _))⟩))))
    go_meet
    case rel => exact ⟨_, (!t352), aP14, H', ⟨by first | omega | exact Nat.le_refl _⟩, ⟨by (with_reducible repeat (first | apply Kd.R_alloc | apply Kd.R_drewN | apply Kd.R_drew)); exact Kd.R_mono HO343.out (fun _ hk => hk.1.2)⟩, ⟨by (with_reducible repeat (first | apply Kd.R_alloc | apply Kd.R_drewN | apply Kd.R_drew)); exact Kd.R_mono HO347.out (fun _ hk => hk.1.2)⟩, ⟨bB⟩⟩
  case rest =>
   clear HC7
   try clear c1
   try clear p2
   try clear c3
   try clear c3b0
   try clear p6
   try clear c12
   try clear c12b0
   try clear c12b1
   try clear c12b2
   obtain ⟨kq, x63_6, rfl, HA, HJ6, HO_5, HO_7, HB⟩ := hcut
   cases kq with
   | zero => exact absurd HA.out (by simp [lZ.j0])
   | succ kj6 =>
    have H := HA.out
    clear HA
    simp only [lZ.j0] at H
    by_cases c16 : x63_6 = true
    ·subst c16
     have H1 : (some false) = some r := by rw [if_pos rfl] at H; exact H
     clear H
     have H := H1
     clear H1
     exact absurd ((Option.some.inj H).trans hrt_.out) (by decide)
    ·replace c16 := Bool.eq_false_iff.mpr c16
     subst c16
     have H1 : (if t345 = true then ((impl_ApplyOp.f kj6 t340 t341).bind fun bt353 => ((impl_ApplyOp.f kj6 t344 t341).bind fun bt355 => ((impl_NormalOp.f kj6 t344).bind fun bt357 => ((impl_SizesOf.f kj6 t340).bind fun bt361 => ((impl_KeepAll.f bt361.1).bind fun bt364 => ((impl_ComposeOps.f kj6 bt364.1 t340).bind fun bt368 => (if (bt353.2 != bt355.2) = true then (some false) else (if bt353.1.toList = bt355.1.toList then (if bt357.2 = true then ((laws_sameOps.f kj6 bt357.1 t344).bind fun t372 => (if t372 = true then (if bt361.2.2 = true then (if bt364.2 = true then (if bt368.2 = true then ((laws_sameOps.f kj6 bt368.1 t344).bind fun t373 => (if t373 = true then (lZ.j1 kj6 l1) else (some false))) else (some false)) else (some false)) else (some false)) else (some false))) else (some false)) else (some false))))))))) else (lZ.j1 kj6 l1)) = some r := by rw [if_neg (show ¬ (false = true) by decide)] at H; exact H
     clear H
     have H := H1
     clear H1
     have HC17 := aM H
     clear H
     go_upto_if 64 with (fail)
     repeat (go_quiet (fail); go_upto_if 64 with (fail))
     go_cut [] (fun wc => ∃ (kq : Nat), Aside0 (lZ.j1 kq l1 = some r) ∧ Aside0 (kq ≤ kj6) ∧ Aside0 (Below w.heap.size w wc))
     case first =>
      have H := HC17.out
      clear HC17
      by_cases c18 : t345 = true
      ·subst c18
       have H1 : ((impl_ApplyOp.f kj6 t340 t341).bind fun bt353 => ((impl_ApplyOp.f kj6 t344 t341).bind fun bt355 => ((impl_NormalOp.f kj6 t344).bind fun bt357 => ((impl_SizesOf.f kj6 t340).bind fun bt361 => ((impl_KeepAll.f bt361.1).bind fun bt364 => ((impl_ComposeOps.f kj6 bt364.1 t340).bind fun bt368 => (if (bt353.2 != bt355.2) = true then (some false) else (if bt353.1.toList = bt355.1.toList then (if bt357.2 = true then ((laws_sameOps.f kj6 bt357.1 t344).bind fun t372 => (if t372 = true then (if bt361.2.2 = true then (if bt364.2 = true then (if bt368.2 = true then ((laws_sameOps.f kj6 bt368.1 t344).bind fun t373 => (if t373 = true then (lZ.j1 kj6 l1) else (some false))) else (some false)) else (some false)) else (some false)) else (some false))) else (some false)) else (some false))))))))) = some r := by rw [if_pos rfl] at H; exact H
       clear H
       have H := H1
       clear H1
       replace H := Option.bind_eq_some_iff.mp H
       obtain ⟨⟨t353, t354⟩, A190, H⟩ := H
       replace H : ((impl_ApplyOp.f kj6 t344 t341).bind fun bt355 => ((impl_NormalOp.f kj6 t344).bind fun bt357 => ((impl_SizesOf.f kj6 t340).bind fun bt361 => ((impl_KeepAll.f bt361.1).bind fun bt364 => ((impl_ComposeOps.f kj6 bt364.1 t340).bind fun bt368 => (if (t354 != bt355.2) = true then (some false) else (if t353.toList = bt355.1.toList then (if bt357.2 = true then ((laws_sameOps.f kj6 bt357.1 t344).bind fun t372 => (if t372 = true then (if bt361.2.2 = true then (if bt364.2 = true then (if bt368.2 = true then ((laws_sameOps.f kj6 bt368.1 t344).bind fun t373 => (if t373 = true then (lZ.j1 kj6 l1) else (some false))) else (some false)) else (some false)) else (some false)) else (some false))) else (some false)) else (some false)))))))) = some r := H
       have A19 := aM A190
       clear A190
       replace H := Option.bind_eq_some_iff.mp H
       obtain ⟨⟨t355, t356⟩, A200, H⟩ := H
       replace H : ((impl_NormalOp.f kj6 t344).bind fun bt357 => ((impl_SizesOf.f kj6 t340).bind fun bt361 => ((impl_KeepAll.f bt361.1).bind fun bt364 => ((impl_ComposeOps.f kj6 bt364.1 t340).bind fun bt368 => (if (t354 != t356) = true then (some false) else (if t353.toList = t355.toList then (if bt357.2 = true then ((laws_sameOps.f kj6 bt357.1 t344).bind fun t372 => (if t372 = true then (if bt361.2.2 = true then (if bt364.2 = true then (if bt368.2 = true then ((laws_sameOps.f kj6 bt368.1 t344).bind fun t373 => (if t373 = true then (lZ.j1 kj6 l1) else (some false))) else (some false)) else (some false)) else (some false)) else (some false))) else (some false)) else (some false))))))) = some r := H
       have A20 := aM A200
       clear A200
       replace H := Option.bind_eq_some_iff.mp H
       obtain ⟨⟨t357, t358⟩, A210, H⟩ := H
       replace H : ((impl_SizesOf.f kj6 t340).bind fun bt361 => ((impl_KeepAll.f bt361.1).bind fun bt364 => ((impl_ComposeOps.f kj6 bt364.1 t340).bind fun bt368 => (if (t354 != t356) = true then (some false) else (if t353.toList = t355.toList then (if t358 = true then ((laws_sameOps.f kj6 t357 t344).bind fun t372 => (if t372 = true then (if bt361.2.2 = true then (if bt364.2 = true then (if bt368.2 = true then ((laws_sameOps.f kj6 bt368.1 t344).bind fun t373 => (if t373 = true then (lZ.j1 kj6 l1) else (some false))) else (some false)) else (some false)) else (some false)) else (some false))) else (some false)) else (some false)))))) = some r := H
       have A21 := aM A210
       clear A210
       replace H := Option.bind_eq_some_iff.mp H
       obtain ⟨⟨t361, t362, t363⟩, A220, H⟩ := H
       replace H : ((impl_KeepAll.f t361).bind fun bt364 => ((impl_ComposeOps.f kj6 bt364.1 t340).bind fun bt368 => (if (t354 != t356) = true then (some false) else (if t353.toList = t355.toList then (if t358 = true then ((laws_sameOps.f kj6 t357 t344).bind fun t372 => (if t372 = true then (if t363 = true then (if bt364.2 = true then (if bt368.2 = true then ((laws_sameOps.f kj6 bt368.1 t344).bind fun t373 => (if t373 = true then (lZ.j1 kj6 l1) else (some false))) else (some false)) else (some false)) else (some false)) else (some false))) else (some false)) else (some false))))) = some r := H
       have A22 := aM A220
       clear A220
       replace H := Option.bind_eq_some_iff.mp H
       obtain ⟨⟨t364, t365⟩, A230, H⟩ := H
       replace H : ((impl_ComposeOps.f kj6 t364 t340).bind fun bt368 => (if (t354 != t356) = true then (some false) else (if t353.toList = t355.toList then (if t358 = true then ((laws_sameOps.f kj6 t357 t344).bind fun t372 => (if t372 = true then (if t363 = true then (if t365 = true then (if bt368.2 = true then ((laws_sameOps.f kj6 bt368.1 t344).bind fun t373 => (if t373 = true then (lZ.j1 kj6 l1) else (some false))) else (some false)) else (some false)) else (some false)) else (some false))) else (some false)) else (some false)))) = some r := H
       have A23 := aM A230
       clear A230
       replace H := Option.bind_eq_some_iff.mp H
       obtain ⟨⟨t368, t369⟩, A240, H⟩ := H
       replace H : (if (t354 != t356) = true then (some false) else (if t353.toList = t355.toList then (if t358 = true then ((laws_sameOps.f kj6 t357 t344).bind fun t372 => (if t372 = true then (if t363 = true then (if t365 = true then (if t369 = true then ((laws_sameOps.f kj6 t368 t344).bind fun t373 => (if t373 = true then (lZ.j1 kj6 l1) else (some false))) else (some false)) else (some false)) else (some false)) else (some false))) else (some false)) else (some false))) = some r := H
       have A24 := aM A240
       clear A240
       by_cases c25 : (t354 != t356) = true
       ·rw [if_pos c25] at H
        have c25b0 : (t354 != t356) = true := c25
        (try (have c25b1 : decide (t354 = t356) = false := by simpa using c25))
        (try (have c25b2 : (t354 == t356) = false := by simpa using c25))
        (try (have c25b3 : ¬ (t354 = t356) := by simpa using c25))
        clear c25
        (first | rw [c25b0] | (simp only [i64_w, i32_w]; rw [c25b0]) | rw [c25e] | skip)
        exact absurd ((Option.some.inj H).trans hrt_.out) (by decide)
       ·rw [if_neg c25] at H
        have c25b0 : (t354 != t356) = false := by simpa using c25
        (try (have c25b1 : decide (t354 = t356) = true := by simpa using c25))
        (try (have c25b2 : (t354 == t356) = true := by simpa using c25))
        clear c25
        (first | rw [c25b0] | (simp only [i64_w, i32_w]; rw [c25b0]) | rw [c25e] | skip)
        by_cases c34 : t353.toList = t355.toList
        ·rw [if_pos c34] at H
         have c34b0 : (t353.toList == t355.toList) = true := beq_iff_eq.mpr c34
         have c34b1 : (t353.toList != t355.toList) = false := bne_eq_false_iff_eq.mpr c34
         clear c34
         by_cases c35 : t358 = true
         ·subst c35
          have H1 : ((laws_sameOps.f kj6 t357 t344).bind fun t372 => (if t372 = true then (if t363 = true then (if t365 = true then (if t369 = true then ((laws_sameOps.f kj6 t368 t344).bind fun t373 => (if t373 = true then (lZ.j1 kj6 l1) else (some false))) else (some false)) else (some false)) else (some false)) else (some false))) = some r := by rw [if_pos rfl] at H; exact H
          clear H
          have H := H1
          clear H1
          replace H := Option.bind_eq_some_iff.mp H
          obtain ⟨t372, A360, H⟩ := H
          replace H : (if t372 = true then (if t363 = true then (if t365 = true then (if t369 = true then ((laws_sameOps.f kj6 t368 t344).bind fun t373 => (if t373 = true then (lZ.j1 kj6 l1) else (some false))) else (some false)) else (some false)) else (some false)) else (some false)) = some r := H
          have A36 := aM A360
          clear A360
          by_cases c37 : t372 = true
          ·subst c37
           have H1 : (if t363 = true then (if t365 = true then (if t369 = true then ((laws_sameOps.f kj6 t368 t344).bind fun t373 => (if t373 = true then (lZ.j1 kj6 l1) else (some false))) else (some false)) else (some false)) else (some false)) = some r := by rw [if_pos rfl] at H; exact H
           clear H
           have H := H1
           clear H1
           by_cases c38 : t363 = true
           ·subst c38
            have H1 : (if t365 = true then (if t369 = true then ((laws_sameOps.f kj6 t368 t344).bind fun t373 => (if t373 = true then (lZ.j1 kj6 l1) else (some false))) else (some false)) else (some false)) = some r := by rw [if_pos rfl] at H; exact H
            clear H
            have H := H1
            clear H1
            by_cases c39 : t365 = true
            ·subst c39
             have H1 : (if t369 = true then ((laws_sameOps.f kj6 t368 t344).bind fun t373 => (if t373 = true then (lZ.j1 kj6 l1) else (some false))) else (some false)) = some r := by rw [if_pos rfl] at H; exact H
             clear H
             have H := H1
             clear H1
             by_cases c40 : t369 = true
             ·subst c40
              have H1 : ((laws_sameOps.f kj6 t368 t344).bind fun t373 => (if t373 = true then (lZ.j1 kj6 l1) else (some false))) = some r := by rw [if_pos rfl] at H; exact H
              clear H
              have H := H1
              clear H1
              replace H := Option.bind_eq_some_iff.mp H
              obtain ⟨t373, A410, H⟩ := H
              replace H : (if t373 = true then (lZ.j1 kj6 l1) else (some false)) = some r := H
              have A41 := aM A410
              clear A410
              by_cases c42 : t373 = true
              ·subst c42
               have H1 : (lZ.j1 kj6 l1) = some r := by rw [if_pos rfl] at H; exact H
               clear H
               have H := H1
               clear H1
               have H' := aM H
               clear H
               go_wp2_with (first | (go_at_call 26; (with_reducible refine (impl_ApplyOp.calls kj6 _ _ t340 t341 t353 t354 _ ?side1 ?side2 A19.out).mono ?_); (case side1 => exact cC ((Kd.R_reads' HO_5.out).2.2)); (case side2 => exact (Kd.R_reads' HO_5.out).2.1); rintro e w43 ⟨rfl, hb⟩; have n0_ := aM (Kd.R_below (rR HO_5.out) hb); have n1_ := aM (Kd.R_below (rR HO_7.out) hb); have n2_ := aM (below_step bB hb); clear HO_5; clear HO_7; clear HB; have HO_5 := n0_; have HO_7 := n1_; have HB := n2_; clear n0_ n1_ n2_; (try clear hb); (try clear hb2); (try clear hk); (try clear hi); obtain ⟨Ao44, co44, eo44⟩ := Kd.R_slice HO_7.out; subst eo44) | (go_at_call 26; (with_reducible refine (impl_ApplyOp.calls kj6 _ _ t344 t341 t355 t356 _ ?side1 ?side2 A20.out).mono ?_); (case side1 => exact cC ((Kd.R_reads' HO_7.out).2.2)); (case side2 => exact (Kd.R_reads' HO_7.out).2.1); rintro e w45 ⟨rfl, hb⟩; have n0_ := aM (Kd.R_below (rR HO_5.out) hb); have n1_ := aM (Kd.R_below (rR HO_7.out) hb); have n2_ := aM (below_step bB hb); clear HO_5; clear HO_7; clear HB; have HO_5 := n0_; have HO_7 := n1_; have HB := n2_; clear n0_ n1_ n2_; (try clear hb); (try clear hb2); (try clear hk); (try clear hi)) | (go_at_call 32; (with_reducible refine (impl_NormalOp.calls kj6 _ _ t344 t357 true _ ?side1 ?side2 A21.out).mono ?_); (case side1 => exact cC ((Kd.R_reads' HO_7.out).2.2)); (case side2 => exact (Kd.R_reads' HO_7.out).2.1); rintro e w46 ⟨v359, rfl, ho0, hb⟩; have n0_ := aM (Kd.R_elder' (rR HO_5.out) (Kd.R_base ho0) hb); have n1_ := aM (Kd.R_elder' (rR HO_7.out) (Kd.R_base ho0) hb); have n2_ := aM (Kd.R_lower (Kd.R_new' (Kd.R_new' ho0 (Kd.R_lt (rR HO_5.out))) (Kd.R_lt (rR HO_7.out))) (below_size bB)); have n3_ := aM (below_step bB hb); clear HO_5; clear HO_7; clear HB; have HO_5 := n0_; have HO_7 := n1_; have HO360 := n2_; have HB := n3_; clear n0_ n1_ n2_ n3_; (try clear hb); (try clear hb2); (try clear hk); (try clear hi); (try clear ho0)) | (go_at_call 24; (with_reducible refine (impl_SizesOf.calls kj6 _ _ t340 t361 t362 true _ ?side1 ?side2 A22.out).mono ?_); (case side1 => exact cC ((Kd.R_reads' HO_5.out).2.2)); (case side2 => exact (Kd.R_reads' HO_5.out).2.1); rintro e w47 ⟨rfl, hb⟩; have n0_ := aM (Kd.R_below (rR HO_5.out) hb); have n1_ := aM (Kd.R_below (rR HO_7.out) hb); have n2_ := aM (Kd.R_below (rR HO360.out) hb); have n3_ := aM (below_step bB hb); clear HO_5; clear HO_7; clear HO360; clear HB; have HO_5 := n0_; have HO_7 := n1_; have HO360 := n2_; have HB := n3_; clear n0_ n1_ n2_ n3_; (try clear hb); (try clear hb2); (try clear hk); (try clear hi)) | (go_at_call 15; (with_reducible refine (impl_KeepAll.calls t361 t364 true _ A23.out).mono ?_); rintro e w48 ⟨v366, rfl, ho0, hb⟩; have n0_ := aM (Kd.R_elder' (rR HO_5.out) (Kd.R_base ho0) hb); have n1_ := aM (Kd.R_elder' (rR HO_7.out) (Kd.R_base ho0) hb); have n2_ := aM (Kd.R_elder' (rR HO360.out) (Kd.R_base ho0) hb); have n3_ := aM (Kd.R_lower (Kd.R_new' (Kd.R_new' (Kd.R_new' ho0 (Kd.R_lt (rR HO_5.out))) (Kd.R_lt (rR HO_7.out))) (Kd.R_lt (rR HO360.out))) (below_size bB)); have n4_ := aM (below_step bB hb); clear HO_5; clear HO_7; clear HO360; clear HB; have HO_5 := n0_; have HO_7 := n1_; have HO360 := n2_; have HO367 := n3_; have HB := n4_; clear n0_ n1_ n2_ n3_ n4_; (try clear hb); (try clear hb2); (try clear hk); (try clear hi); (try clear ho0); obtain ⟨Ao49, co49, eo49⟩ := Kd.R_slice HO367.out; subst eo49) | (go_at_call 34; (with_reducible refine (impl_ComposeOps.calls kj6 _ _ t364 _ _ t340 t368 true _ ?side1 ?side2 ?side3 ?side4 A24.out).mono ?_); (case side1 => exact cC ((Kd.R_reads' HO367.out).2.2)); (case side2 => exact (Kd.R_reads' HO367.out).2.1); (case side3 => exact cC ((Kd.R_reads' HO_5.out).2.2)); (case side4 => exact (Kd.R_reads' HO_5.out).2.1); rintro e w50 ⟨v370, rfl, ho0, hb⟩; have n0_ := aM (Kd.R_elder' (rR HO_5.out) (Kd.R_base ho0) hb); have n1_ := aM (Kd.R_elder' (rR HO_7.out) (Kd.R_base ho0) hb); have n2_ := aM (Kd.R_elder' (rR HO360.out) (Kd.R_base ho0) hb); have n3_ := aM (Kd.R_elder' (rR HO367.out) (Kd.R_base ho0) hb); have n4_ := aM (Kd.R_lower (Kd.R_new' (Kd.R_new' (Kd.R_new' (Kd.R_new' ho0 (Kd.R_lt (rR HO_5.out))) (Kd.R_lt (rR HO_7.out))) (Kd.R_lt (rR HO360.out))) (Kd.R_lt (rR HO367.out))) (below_size bB)); have n5_ := aM (below_step bB hb); clear HO_5; clear HO_7; clear HO360; clear HO367; clear HB; have HO_5 := n0_; have HO_7 := n1_; have HO360 := n2_; have HO367 := n3_; have HO371 := n4_; have HB := n5_; clear n0_ n1_ n2_ n3_ n4_ n5_; (try clear hb); (try clear hb2); (try clear hk); (try clear hi); (try clear ho0); obtain ⟨Ao51, co51, eo51⟩ := Kd.R_slice HO360.out; subst eo51) | (go_at_call 36; (with_reducible refine (laws_sameOps.calls kj6 _ _ t357 _ _ t344 true _ ?side1 ?side2 ?side3 ?side4 A36.out).mono ?_); (case side1 => exact cC ((Kd.R_reads' HO360.out).2.2)); (case side2 => exact (Kd.R_reads' HO360.out).2.1); (case side3 => exact cC ((Kd.R_reads' HO_7.out).2.2)); (case side4 => exact (Kd.R_reads' HO_7.out).2.1); rintro e w' ⟨rfl, ⟨nd, rfl⟩⟩; (try first | exact ⟨rfl, _, World.drewN_drewN _ _ _⟩ | exact ⟨rfl, _, Eq.trans (World.drewN_drewN _ _ _) (congrArg (World.drewN _) (Nat.add_assoc _ _ _))⟩); obtain ⟨Ao52, co52, eo52⟩ := Kd.R_slice HO371.out; subst eo52) | (go_at_call 36; (with_reducible refine (laws_sameOps.calls kj6 _ _ t368 _ _ t344 true _ ?side1 ?side2 ?side3 ?side4 A41.out).mono ?_); (case side1 => exact cC ((Kd.R_reads' HO371.out).2.2)); (case side2 => exact (Kd.R_reads' HO371.out).2.1); (case side3 => exact cC ((Kd.R_reads' HO_7.out).2.2)); (case side4 => exact (Kd.R_reads' HO_7.out).2.1); rintro e w' ⟨rfl, ⟨nd, rfl⟩⟩; (try first | exact ⟨rfl, _, World.drewN_drewN _ _ _⟩ | exact ⟨rfl, _, Eq.trans (World.drewN_drewN _ _ _) (congrArg (World.drewN _) (Nat.add_assoc _ _ _))⟩)))
               repeat (go_quiet (first | (go_at_call 26; (with_reducible refine (impl_ApplyOp.calls kj6 _ _ t340 t341 t353 t354 _ ?side1 ?side2 A19.out).mono ?_); (case side1 => exact cC ((Kd.R_reads' HO_5.out).2.2)); (case side2 => exact (Kd.R_reads' HO_5.out).2.1); rintro e w43 ⟨rfl, hb⟩; have n0_ := aM (Kd.R_below (rR HO_5.out) hb); have n1_ := aM (Kd.R_below (rR HO_7.out) hb); have n2_ := aM (below_step bB hb); clear HO_5; clear HO_7; clear HB; have HO_5 := n0_; have HO_7 := n1_; have HB := n2_; clear n0_ n1_ n2_; (try clear hb); (try clear hb2); (try clear hk); (try clear hi); obtain ⟨Ao44, co44, eo44⟩ := Kd.R_slice HO_7.out; subst eo44) | (go_at_call 26; (with_reducible refine (impl_ApplyOp.calls kj6 _ _ t344 t341 t355 t356 _ ?side1 ?side2 A20.out).mono ?_); (case side1 => exact cC ((Kd.R_reads' HO_7.out).2.2)); (case side2 => exact (Kd.R_reads' HO_7.out).2.1); rintro e w45 ⟨rfl, hb⟩; have n0_ := aM (Kd.R_below (rR HO_5.out) hb); have n1_ := aM (Kd.R_below (rR HO_7.out) hb); have n2_ := aM (below_step bB hb); clear HO_5; clear HO_7; clear HB; have HO_5 := n0_; have HO_7 := n1_; have HB := n2_; clear n0_ n1_ n2_; (try clear hb); (try clear hb2); (try clear hk); (try clear hi)) | (go_at_call 32; (with_reducible refine (impl_NormalOp.calls kj6 _ _ t344 t357 true _ ?side1 ?side2 A21.out).mono ?_); (case side1 => exact cC ((Kd.R_reads' HO_7.out).2.2)); (case side2 => exact (Kd.R_reads' HO_7.out).2.1); rintro e w46 ⟨v359, rfl, ho0, hb⟩; have n0_ := aM (Kd.R_elder' (rR HO_5.out) (Kd.R_base ho0) hb); have n1_ := aM (Kd.R_elder' (rR HO_7.out) (Kd.R_base ho0) hb); have n2_ := aM (Kd.R_lower (Kd.R_new' (Kd.R_new' ho0 (Kd.R_lt (rR HO_5.out))) (Kd.R_lt (rR HO_7.out))) (below_size bB)); have n3_ := aM (below_step bB hb); clear HO_5; clear HO_7; clear HB; have HO_5 := n0_; have HO_7 := n1_; have HO360 := n2_; have HB := n3_; clear n0_ n1_ n2_ n3_; (try clear hb); (try clear hb2); (try clear hk); (try clear hi); (try clear ho0)) | (go_at_call 24; (with_reducible refine (impl_SizesOf.calls kj6 _ _ t340 t361 t362 true _ ?side1 ?side2 A22.out).mono ?_); (case side1 => exact cC ((Kd.R_reads' HO_5.out).2.2)); (case side2 => exact (Kd.R_reads' HO_5.out).2.1); rintro e w47 ⟨rfl, hb⟩; have n0_ := aM (Kd.R_below (rR HO_5.out) hb); have n1_ := aM (Kd.R_below (rR HO_7.out) hb); have n2_ := aM (Kd.R_below (rR HO360.out) hb); have n3_ := aM (below_step bB hb); clear HO_5; clear HO_7; clear HO360; clear HB; have HO_5 := n0_; have HO_7 := n1_; have HO360 := n2_; have HB := n3_; clear n0_ n1_ n2_ n3_; (try clear hb); (try clear hb2); (try clear hk); (try clear hi)) | (go_at_call 15; (with_reducible refine (impl_KeepAll.calls t361 t364 true _ A23.out).mono ?_); rintro e w48 ⟨v366, rfl, ho0, hb⟩; have n0_ := aM (Kd.R_elder' (rR HO_5.out) (Kd.R_base ho0) hb); have n1_ := aM (Kd.R_elder' (rR HO_7.out) (Kd.R_base ho0) hb); have n2_ := aM (Kd.R_elder' (rR HO360.out) (Kd.R_base ho0) hb); have n3_ := aM (Kd.R_lower (Kd.R_new' (Kd.R_new' (Kd.R_new' ho0 (Kd.R_lt (rR HO_5.out))) (Kd.R_lt (rR HO_7.out))) (Kd.R_lt (rR HO360.out))) (below_size bB)); have n4_ := aM (below_step bB hb); clear HO_5; clear HO_7; clear HO360; clear HB; have HO_5 := n0_; have HO_7 := n1_; have HO360 := n2_; have HO367 := n3_; have HB := n4_; clear n0_ n1_ n2_ n3_ n4_; (try clear hb); (try clear hb2); (try clear hk); (try clear hi); (try clear ho0); obtain ⟨Ao49, co49, eo49⟩ := Kd.R_slice HO367.out; subst eo49) | (go_at_call 34; (with_reducible refine (impl_ComposeOps.calls kj6 _ _ t364 _ _ t340 t368 true _ ?side1 ?side2 ?side3 ?side4 A24.out).mono ?_); (case side1 => exact cC ((Kd.R_reads' HO367.out).2.2)); (case side2 => exact (Kd.R_reads' HO367.out).2.1); (case side3 => exact cC ((Kd.R_reads' HO_5.out).2.2)); (case side4 => exact (Kd.R_reads' HO_5.out).2.1); rintro e w50 ⟨v370, rfl, ho0, hb⟩; have n0_ := aM (Kd.R_elder' (rR HO_5.out) (Kd.R_base ho0) hb); have n1_ := aM (Kd.R_elder' (rR HO_7.out) (Kd.R_base ho0) hb); have n2_ := aM (Kd.R_elder' (rR HO360.out) (Kd.R_base ho0) hb); have n3_ := aM (Kd.R_elder' (rR HO367.out) (Kd.R_base ho0) hb); have n4_ := aM (Kd.R_lower (Kd.R_new' (Kd.R_new' (Kd.R_new' (Kd.R_new' ho0 (Kd.R_lt (rR HO_5.out))) (Kd.R_lt (rR HO_7.out))) (Kd.R_lt (rR HO360.out))) (Kd.R_lt (rR HO367.out))) (below_size bB)); have n5_ := aM (below_step bB hb); clear HO_5; clear HO_7; clear HO360; clear HO367; clear HB; have HO_5 := n0_; have HO_7 := n1_; have HO360 := n2_; have HO367 := n3_; have HO371 := n4_; have HB := n5_; clear n0_ n1_ n2_ n3_ n4_ n5_; (try clear hb); (try clear hb2); (try clear hk); (try clear hi); (try clear ho0); obtain ⟨Ao51, co51, eo51⟩ := Kd.R_slice HO360.out; subst eo51) | (go_at_call 36; (with_reducible refine (laws_sameOps.calls kj6 _ _ t357 _ _ t344 true _ ?side1 ?side2 ?side3 ?side4 A36.out).mono ?_); (case side1 => exact cC ((Kd.R_reads' HO360.out).2.2)); (case side2 => exact (Kd.R_reads' HO360.out).2.1); (case side3 => exact cC ((Kd.R_reads' HO_7.out).2.2)); (case side4 => exact (Kd.R_reads' HO_7.out).2.1); rintro e w' ⟨rfl, ⟨nd, rfl⟩⟩; (try first | exact ⟨rfl, _, World.drewN_drewN _ _ _⟩ | exact ⟨rfl, _, Eq.trans (World.drewN_drewN _ _ _) (congrArg (World.drewN _) (Nat.add_assoc _ _ _))⟩); obtain ⟨Ao52, co52, eo52⟩ := Kd.R_slice HO371.out; subst eo52) | (go_at_call 36; (with_reducible refine (laws_sameOps.calls kj6 _ _ t368 _ _ t344 true _ ?side1 ?side2 ?side3 ?side4 A41.out).mono ?_); (case side1 => exact cC ((Kd.R_reads' HO371.out).2.2)); (case side2 => exact (Kd.R_reads' HO371.out).2.1); (case side3 => exact cC ((Kd.R_reads' HO_7.out).2.2)); (case side4 => exact (Kd.R_reads' HO_7.out).2.1); rintro e w' ⟨rfl, ⟨nd, rfl⟩⟩; (try first | exact ⟨rfl, _, World.drewN_drewN _ _ _⟩ | exact ⟨rfl, _, Eq.trans (World.drewN_drewN _ _ _) (congrArg (World.drewN _) (Nat.add_assoc _ _ _))⟩))); try go_wp2_with (first | (go_at_call 26; (with_reducible refine (impl_ApplyOp.calls kj6 _ _ t340 t341 t353 t354 _ ?side1 ?side2 A19.out).mono ?_); (case side1 => exact cC ((Kd.R_reads' HO_5.out).2.2)); (case side2 => exact (Kd.R_reads' HO_5.out).2.1); rintro e w43 ⟨rfl, hb⟩; have n0_ := aM (Kd.R_below (rR HO_5.out) hb); have n1_ := aM (Kd.R_below (rR HO_7.out) hb); have n2_ := aM (below_step bB hb); clear HO_5; clear HO_7; clear HB; have HO_5 := n0_; have HO_7 := n1_; have HB := n2_; clear n0_ n1_ n2_; (try clear hb); (try clear hb2); (try clear hk); (try clear hi); obtain ⟨Ao44, co44, eo44⟩ := Kd.R_slice HO_7.out; subst eo44) | (go_at_call 26; (with_reducible refine (impl_ApplyOp.calls kj6 _ _ t344 t341 t355 t356 _ ?side1 ?side2 A20.out).mono ?_); (case side1 => exact cC ((Kd.R_reads' HO_7.out).2.2)); (case side2 => exact (Kd.R_reads' HO_7.out).2.1); rintro e w45 ⟨rfl, hb⟩; have n0_ := aM (Kd.R_below (rR HO_5.out) hb); have n1_ := aM (Kd.R_below (rR HO_7.out) hb); have n2_ := aM (below_step bB hb); clear HO_5; clear HO_7; clear HB; have HO_5 := n0_; have HO_7 := n1_; have HB := n2_; clear n0_ n1_ n2_; (try clear hb); (try clear hb2); (try clear hk); (try clear hi)) | (go_at_call 32; (with_reducible refine (impl_NormalOp.calls kj6 _ _ t344 t357 true _ ?side1 ?side2 A21.out).mono ?_); (case side1 => exact cC ((Kd.R_reads' HO_7.out).2.2)); (case side2 => exact (Kd.R_reads' HO_7.out).2.1); rintro e w46 ⟨v359, rfl, ho0, hb⟩; have n0_ := aM (Kd.R_elder' (rR HO_5.out) (Kd.R_base ho0) hb); have n1_ := aM (Kd.R_elder' (rR HO_7.out) (Kd.R_base ho0) hb); have n2_ := aM (Kd.R_lower (Kd.R_new' (Kd.R_new' ho0 (Kd.R_lt (rR HO_5.out))) (Kd.R_lt (rR HO_7.out))) (below_size bB)); have n3_ := aM (below_step bB hb); clear HO_5; clear HO_7; clear HB; have HO_5 := n0_; have HO_7 := n1_; have HO360 := n2_; have HB := n3_; clear n0_ n1_ n2_ n3_; (try clear hb); (try clear hb2); (try clear hk); (try clear hi); (try clear ho0)) | (go_at_call 24; (with_reducible refine (impl_SizesOf.calls kj6 _ _ t340 t361 t362 true _ ?side1 ?side2 A22.out).mono ?_); (case side1 => exact cC ((Kd.R_reads' HO_5.out).2.2)); (case side2 => exact (Kd.R_reads' HO_5.out).2.1); rintro e w47 ⟨rfl, hb⟩; have n0_ := aM (Kd.R_below (rR HO_5.out) hb); have n1_ := aM (Kd.R_below (rR HO_7.out) hb); have n2_ := aM (Kd.R_below (rR HO360.out) hb); have n3_ := aM (below_step bB hb); clear HO_5; clear HO_7; clear HO360; clear HB; have HO_5 := n0_; have HO_7 := n1_; have HO360 := n2_; have HB := n3_; clear n0_ n1_ n2_ n3_; (try clear hb); (try clear hb2); (try clear hk); (try clear hi)) | (go_at_call 15; (with_reducible refine (impl_KeepAll.calls t361 t364 true _ A23.out).mono ?_); rintro e w48 ⟨v366, rfl, ho0, hb⟩; have n0_ := aM (Kd.R_elder' (rR HO_5.out) (Kd.R_base ho0) hb); have n1_ := aM (Kd.R_elder' (rR HO_7.out) (Kd.R_base ho0) hb); have n2_ := aM (Kd.R_elder' (rR HO360.out) (Kd.R_base ho0) hb); have n3_ := aM (Kd.R_lower (Kd.R_new' (Kd.R_new' (Kd.R_new' ho0 (Kd.R_lt (rR HO_5.out))) (Kd.R_lt (rR HO_7.out))) (Kd.R_lt (rR HO360.out))) (below_size bB)); have n4_ := aM (below_step bB hb); clear HO_5; clear HO_7; clear HO360; clear HB; have HO_5 := n0_; have HO_7 := n1_; have HO360 := n2_; have HO367 := n3_; have HB := n4_; clear n0_ n1_ n2_ n3_ n4_; (try clear hb); (try clear hb2); (try clear hk); (try clear hi); (try clear ho0); obtain ⟨Ao49, co49, eo49⟩ := Kd.R_slice HO367.out; subst eo49) | (go_at_call 34; (with_reducible refine (impl_ComposeOps.calls kj6 _ _ t364 _ _ t340 t368 true _ ?side1 ?side2 ?side3 ?side4 A24.out).mono ?_); (case side1 => exact cC ((Kd.R_reads' HO367.out).2.2)); (case side2 => exact (Kd.R_reads' HO367.out).2.1); (case side3 => exact cC ((Kd.R_reads' HO_5.out).2.2)); (case side4 => exact (Kd.R_reads' HO_5.out).2.1); rintro e w50 ⟨v370, rfl, ho0, hb⟩; have n0_ := aM (Kd.R_elder' (rR HO_5.out) (Kd.R_base ho0) hb); have n1_ := aM (Kd.R_elder' (rR HO_7.out) (Kd.R_base ho0) hb); have n2_ := aM (Kd.R_elder' (rR HO360.out) (Kd.R_base ho0) hb); have n3_ := aM (Kd.R_elder' (rR HO367.out) (Kd.R_base ho0) hb); have n4_ := aM (Kd.R_lower (Kd.R_new' (Kd.R_new' (Kd.R_new' (Kd.R_new' ho0 (Kd.R_lt (rR HO_5.out))) (Kd.R_lt (rR HO_7.out))) (Kd.R_lt (rR HO360.out))) (Kd.R_lt (rR HO367.out))) (below_size bB)); have n5_ := aM (below_step bB hb); clear HO_5; clear HO_7; clear HO360; clear HO367; clear HB; have HO_5 := n0_; have HO_7 := n1_; have HO360 := n2_; have HO367 := n3_; have HO371 := n4_; have HB := n5_; clear n0_ n1_ n2_ n3_ n4_ n5_; (try clear hb); (try clear hb2); (try clear hk); (try clear hi); (try clear ho0); obtain ⟨Ao51, co51, eo51⟩ := Kd.R_slice HO360.out; subst eo51) | (go_at_call 36; (with_reducible refine (laws_sameOps.calls kj6 _ _ t357 _ _ t344 true _ ?side1 ?side2 ?side3 ?side4 A36.out).mono ?_); (case side1 => exact cC ((Kd.R_reads' HO360.out).2.2)); (case side2 => exact (Kd.R_reads' HO360.out).2.1); (case side3 => exact cC ((Kd.R_reads' HO_7.out).2.2)); (case side4 => exact (Kd.R_reads' HO_7.out).2.1); rintro e w' ⟨rfl, ⟨nd, rfl⟩⟩; (try first | exact ⟨rfl, _, World.drewN_drewN _ _ _⟩ | exact ⟨rfl, _, Eq.trans (World.drewN_drewN _ _ _) (congrArg (World.drewN _) (Nat.add_assoc _ _ _))⟩); obtain ⟨Ao52, co52, eo52⟩ := Kd.R_slice HO371.out; subst eo52) | (go_at_call 36; (with_reducible refine (laws_sameOps.calls kj6 _ _ t368 _ _ t344 true _ ?side1 ?side2 ?side3 ?side4 A41.out).mono ?_); (case side1 => exact cC ((Kd.R_reads' HO371.out).2.2)); (case side2 => exact (Kd.R_reads' HO371.out).2.1); (case side3 => exact cC ((Kd.R_reads' HO_7.out).2.2)); (case side4 => exact (Kd.R_reads' HO_7.out).2.1); rintro e w' ⟨rfl, ⟨nd, rfl⟩⟩; (try first | exact ⟨rfl, _, World.drewN_drewN _ _ _⟩ | exact ⟨rfl, _, Eq.trans (World.drewN_drewN _ _ _) (congrArg (World.drewN _) (Nat.add_assoc _ _ _))⟩))))
               go_meet
               case rel => exact ⟨_, H', ⟨by have := HJ6.out; first | omega | exact Nat.le_refl _⟩, ⟨bB⟩⟩
              ·replace c42 := Bool.eq_false_iff.mpr c42
               subst c42
               have H1 : (some false) = some r := by rw [if_neg (show ¬ (false = true) by decide)] at H; exact H
               clear H
               have H := H1
               clear H1
               exact absurd ((Option.some.inj H).trans hrt_.out) (by decide)
             ·replace c40 := Bool.eq_false_iff.mpr c40
              subst c40
              have H1 : (some false) = some r := by rw [if_neg (show ¬ (false = true) by decide)] at H; exact H
              clear H
              have H := H1
              clear H1
              exact absurd ((Option.some.inj H).trans hrt_.out) (by decide)
            ·replace c39 := Bool.eq_false_iff.mpr c39
             subst c39
             have H1 : (some false) = some r := by rw [if_neg (show ¬ (false = true) by decide)] at H; exact H
             clear H
             have H := H1
             clear H1
             exact absurd ((Option.some.inj H).trans hrt_.out) (by decide)
           ·replace c38 := Bool.eq_false_iff.mpr c38
            subst c38
            have H1 : (some false) = some r := by rw [if_neg (show ¬ (false = true) by decide)] at H; exact H
            clear H
            have H := H1
            clear H1
            exact absurd ((Option.some.inj H).trans hrt_.out) (by decide)
          ·replace c37 := Bool.eq_false_iff.mpr c37
           subst c37
           have H1 : (some false) = some r := by rw [if_neg (show ¬ (false = true) by decide)] at H; exact H
           clear H
           have H := H1
           clear H1
           exact absurd ((Option.some.inj H).trans hrt_.out) (by decide)
         ·replace c35 := Bool.eq_false_iff.mpr c35
          subst c35
          have H1 : (some false) = some r := by rw [if_neg (show ¬ (false = true) by decide)] at H; exact H
          clear H
          have H := H1
          clear H1
          exact absurd ((Option.some.inj H).trans hrt_.out) (by decide)
        ·rw [if_neg c34] at H
         have c34b0 : (t353.toList == t355.toList) = false := beq_eq_false_iff_ne.mpr c34
         have c34b1 : (t353.toList != t355.toList) = true := bne_iff_ne.mpr c34
         exact absurd ((Option.some.inj H).trans hrt_.out) (by decide)
      ·replace c18 := Bool.eq_false_iff.mpr c18
       subst c18
       have H1 : (lZ.j1 kj6 l1) = some r := by rw [if_neg (show ¬ (false = true) by decide)] at H; exact H
       clear H
       have H := H1
       clear H1
       have H' := aM H
       clear H
       go_wp2
       repeat (go_quiet (fail); try go_wp2)
       go_meet
       case rel => exact ⟨_, H', ⟨by have := HJ6.out; first | omega | exact Nat.le_refl _⟩, ⟨bB⟩⟩
     case rest =>
      clear HC17
      try clear c1
      try clear c2
      try clear p2
      try clear c3
      try clear c3b0
      try clear c4
      try clear p6
      try clear c12
      try clear c12b0
      try clear c12b1
      try clear c12b2
      try clear c16
      try clear c18
      try clear c25
      try clear c25b0
      try clear c25b1
      try clear c25b2
      try clear c34
      try clear c34b0
      try clear c34b1
      try clear c35
      try clear c37
      try clear c38
      try clear c39
      try clear c40
      try clear c42
      try clear p64
      try clear p2
      try clear p6
      obtain ⟨kq, HA, HJ16, HB⟩ := hcut
      cases kq with
      | zero => exact absurd HA.out (by simp [lZ.j1])
      | succ kj16 =>
       have H := HA.out
       clear HA
       simp only [lZ.j1] at H
       replace H := Option.bind_eq_some_iff.mp H
       obtain ⟨⟨t374, t375, t376, t377⟩, A1150, H⟩ := H
       replace H : ((impl_SpliceOp.f kj16 t374 t375 t376 t377).bind fun bt378 => ((spec_SpliceOp.f kj16 t374 t375 t376 t377).bind fun bt382 => (if (bt378.2 != bt382.2) = true then (lZ.j2 kj16 t374 t375 t376 t377 bt378.1 bt378.2 true) else ((laws_sameOps.f kj16 bt378.1 bt382.1).bind fun t386 => (lZ.j2 kj16 t374 t375 t376 t377 bt378.1 bt378.2 (!t386)))))) = some r := H
       have A115 := aM A1150
       clear A1150
       replace H := Option.bind_eq_some_iff.mp H
       obtain ⟨⟨t378, t379⟩, A1160, H⟩ := H
       replace H : ((spec_SpliceOp.f kj16 t374 t375 t376 t377).bind fun bt382 => (if (t379 != bt382.2) = true then (lZ.j2 kj16 t374 t375 t376 t377 t378 t379 true) else ((laws_sameOps.f kj16 t378 bt382.1).bind fun t386 => (lZ.j2 kj16 t374 t375 t376 t377 t378 t379 (!t386))))) = some r := H
       have A116 := aM A1160
       clear A1160
       replace H := Option.bind_eq_some_iff.mp H
       obtain ⟨⟨t382, t383⟩, A1170, H⟩ := H
       replace H : (if (t379 != t383) = true then (lZ.j2 kj16 t374 t375 t376 t377 t378 t379 true) else ((laws_sameOps.f kj16 t378 t382).bind fun t386 => (lZ.j2 kj16 t374 t375 t376 t377 t378 t379 (!t386)))) = some r := H
       have A117 := aM A1170
       clear A1170
       have HC118 := aM H
       clear H
       go_upto_region 20 with (first | (go_at_call 37; (with_reducible refine (spec_DrawSpliceOp.calls kj16 _ _ l1 t374 t375 t376 t377 _ ?side1 ?side2 A115.out).mono ?_); (case side1 => exact cC (Kd.C_below HR1.out HB.out)); (case side2 => exact HC1.out); rintro e w119 ⟨rfl, hb⟩; have n0_ := aM (below_step bB hb); clear HB; have HB := n0_; clear n0_; (try clear hb); (try clear hb2); (try clear hk); (try clear hi)) | (go_at_call 28; (with_reducible refine (impl_SpliceOp.calls kj16 t374 t375 t376 t377 t378 t379 _ A116.out).mono ?_); rintro e w120 ⟨v380, rfl, ho0, hb⟩; have n0_ := aM (Kd.R_lower ho0 (below_size bB)); have n1_ := aM (below_step bB hb); clear HB; have HO381 := n0_; have HB := n1_; clear n0_ n1_; (try clear hb); (try clear hb2); (try clear hk); (try clear hi); (try clear ho0)) | (go_at_call 27; (with_reducible refine (spec_SpliceOp.calls kj16 t374 t375 t376 t377 t382 t383 _ A117.out).mono ?_); rintro e w121 ⟨v384, rfl, ho0, hb⟩; have n0_ := aM (Kd.R_elder' (rR HO381.out) (Kd.R_base ho0) hb); have n1_ := aM (Kd.R_lower (Kd.R_new' ho0 (Kd.R_lt (rR HO381.out))) (below_size bB)); have n2_ := aM (below_step bB hb); clear HO381; clear HB; have HO381 := n0_; have HO385 := n1_; have HB := n2_; clear n0_ n1_ n2_; (try clear hb); (try clear hb2); (try clear hk); (try clear hi); (try clear ho0)))
       repeat (go_quiet (first | (go_at_call 37; (with_reducible refine (spec_DrawSpliceOp.calls kj16 _ _ l1 t374 t375 t376 t377 _ ?side1 ?side2 A115.out).mono ?_); (case side1 => exact cC (Kd.C_below HR1.out HB.out)); (case side2 => exact HC1.out); rintro e w119 ⟨rfl, hb⟩; have n0_ := aM (below_step bB hb); clear HB; have HB := n0_; clear n0_; (try clear hb); (try clear hb2); (try clear hk); (try clear hi)) | (go_at_call 28; (with_reducible refine (impl_SpliceOp.calls kj16 t374 t375 t376 t377 t378 t379 _ A116.out).mono ?_); rintro e w120 ⟨v380, rfl, ho0, hb⟩; have n0_ := aM (Kd.R_lower ho0 (below_size bB)); have n1_ := aM (below_step bB hb); clear HB; have HO381 := n0_; have HB := n1_; clear n0_ n1_; (try clear hb); (try clear hb2); (try clear hk); (try clear hi); (try clear ho0)) | (go_at_call 27; (with_reducible refine (spec_SpliceOp.calls kj16 t374 t375 t376 t377 t382 t383 _ A117.out).mono ?_); rintro e w121 ⟨v384, rfl, ho0, hb⟩; have n0_ := aM (Kd.R_elder' (rR HO381.out) (Kd.R_base ho0) hb); have n1_ := aM (Kd.R_lower (Kd.R_new' ho0 (Kd.R_lt (rR HO381.out))) (below_size bB)); have n2_ := aM (below_step bB hb); clear HO381; clear HB; have HO381 := n0_; have HO385 := n1_; have HB := n2_; clear n0_ n1_ n2_; (try clear hb); (try clear hb2); (try clear hk); (try clear hi); (try clear ho0))); go_upto_region 20 with (first | (go_at_call 37; (with_reducible refine (spec_DrawSpliceOp.calls kj16 _ _ l1 t374 t375 t376 t377 _ ?side1 ?side2 A115.out).mono ?_); (case side1 => exact cC (Kd.C_below HR1.out HB.out)); (case side2 => exact HC1.out); rintro e w119 ⟨rfl, hb⟩; have n0_ := aM (below_step bB hb); clear HB; have HB := n0_; clear n0_; (try clear hb); (try clear hb2); (try clear hk); (try clear hi)) | (go_at_call 28; (with_reducible refine (impl_SpliceOp.calls kj16 t374 t375 t376 t377 t378 t379 _ A116.out).mono ?_); rintro e w120 ⟨v380, rfl, ho0, hb⟩; have n0_ := aM (Kd.R_lower ho0 (below_size bB)); have n1_ := aM (below_step bB hb); clear HB; have HO381 := n0_; have HB := n1_; clear n0_ n1_; (try clear hb); (try clear hb2); (try clear hk); (try clear hi); (try clear ho0)) | (go_at_call 27; (with_reducible refine (spec_SpliceOp.calls kj16 t374 t375 t376 t377 t382 t383 _ A117.out).mono ?_); rintro e w121 ⟨v384, rfl, ho0, hb⟩; have n0_ := aM (Kd.R_elder' (rR HO381.out) (Kd.R_base ho0) hb); have n1_ := aM (Kd.R_lower (Kd.R_new' ho0 (Kd.R_lt (rR HO381.out))) (below_size bB)); have n2_ := aM (below_step bB hb); clear HO381; clear HB; have HO381 := n0_; have HO385 := n1_; have HB := n2_; clear n0_ n1_ n2_; (try clear hb); (try clear hb2); (try clear hk); (try clear hi); (try clear ho0))))
       (try simp only [Act.put, List.setIfInBounds_toArray, List.set_cons_zero, List.set_cons_succ])
       go_cut [166] (fun v166 wc => ∃ (kq : Nat) (x166_117 : Bool), v166 = .bool x166_117 ∧ Aside0 (lZ.j2 kq t374 t375 t376 t377 t378 t379 x166_117 = some r) ∧ Aside0 (kq ≤ kj16) ∧ Aside0 (Kd.R k53 53 wc w.heap.size (fun _ => True) v380 t378) ∧ Aside0 (Below w.heap.size w wc))
       case first =>
        have H := HC118.out
        clear HC118
        by_cases c122 : (t379 != t383) = true
        ·rw [if_pos c122] at H
         have c122b0 : (t379 != t383) = true := c122
         (try (have c122b1 : decide (t379 = t383) = false := by simpa using c122))
         (try (have c122b2 : (t379 == t383) = false := by simpa using c122))
         (try (have c122b3 : ¬ (t379 = t383) := by simpa using c122))
         clear c122
         (first | rw [c122b0] | (simp only [i64_w, i32_w]; rw [c122b0]) | rw [c122e] | skip)
         have H' := aM H
         clear H
         go_wp2
         repeat (go_quiet (fail); try go_wp2)
         go_meet
         case rel => exact ⟨_, (true), aP14, H', ⟨by have := HJ6.out; have := HJ16.out; first | omega | exact Nat.le_refl _⟩, ⟨by (with_reducible repeat (first | apply Kd.R_alloc | apply Kd.R_drewN | apply Kd.R_drew)); exact Kd.R_mono HO381.out (fun _ hk => trivial)⟩, ⟨bB⟩⟩
        ·rw [if_neg c122] at H
         have c122b0 : (t379 != t383) = false := by simpa using c122
         (try (have c122b1 : decide (t379 = t383) = true := by simpa using c122))
         (try (have c122b2 : (t379 == t383) = true := by simpa using c122))
         clear c122
         (first | rw [c122b0] | (simp only [i64_w, i32_w]; rw [c122b0]) | rw [c122e] | skip)
         replace H := Option.bind_eq_some_iff.mp H
         obtain ⟨t386, A1230, H⟩ := H
         replace H : (lZ.j2 kj16 t374 t375 t376 t377 t378 t379 (!t386)) = some r := H
         have A123 := aM A1230
         clear A1230
         have H' := aM H
         clear H
         obtain ⟨Ao124, co124, eo124⟩ := Kd.R_slice HO381.out
         subst eo124
         obtain ⟨Ao125, co125, eo125⟩ := Kd.R_slice HO385.out
         subst eo125
         go_wp2_with (first | (go_at_call 36; (with_reducible refine (laws_sameOps.calls kj16 _ _ t378 _ _ t382 t386 _ ?side1 ?side2 ?side3 ?side4 A123.out).mono ?_); (case side1 => exact cC ((Kd.R_reads' HO381.out).2.2)); (case side2 => exact (Kd.R_reads' HO381.out).2.1); (case side3 => exact cC ((Kd.R_reads' HO385.out).2.2)); (case side4 => exact (Kd.R_reads' HO385.out).2.1); rintro e w' ⟨rfl, ⟨nd, rfl⟩⟩; (try first | exact ⟨rfl, _, World.drewN_drewN _ _ _⟩ | exact ⟨rfl, _, Eq.trans (World.drewN_drewN _ _ _) (congrArg (World.drewN _) (Nat.add_assoc _ _ _))⟩)))
         repeat (go_quiet (first | (go_at_call 36; (with_reducible refine (laws_sameOps.calls kj16 _ _ t378 _ _ t382 t386 _ ?side1 ?side2 ?side3 ?side4 A123.out).mono ?_); (case side1 => exact cC ((Kd.R_reads' HO381.out).2.2)); (case side2 => exact (Kd.R_reads' HO381.out).2.1); (case side3 => exact cC ((Kd.R_reads' HO385.out).2.2)); (case side4 => exact (Kd.R_reads' HO385.out).2.1); rintro e w' ⟨rfl, ⟨nd, rfl⟩⟩; (try first | exact ⟨rfl, _, World.drewN_drewN _ _ _⟩ | exact ⟨rfl, _, Eq.trans (World.drewN_drewN _ _ _) (congrArg (World.drewN _) (Nat.add_assoc _ _ _))⟩))); try go_wp2_with (first | (go_at_call 36; (with_reducible refine (laws_sameOps.calls kj16 _ _ t378 _ _ t382 t386 _ ?side1 ?side2 ?side3 ?side4 A123.out).mono ?_); (case side1 => exact cC ((Kd.R_reads' HO381.out).2.2)); (case side2 => exact (Kd.R_reads' HO381.out).2.1); (case side3 => exact cC ((Kd.R_reads' HO385.out).2.2)); (case side4 => exact (Kd.R_reads' HO385.out).2.1); rintro e w' ⟨rfl, ⟨nd, rfl⟩⟩; (try first | exact ⟨rfl, _, World.drewN_drewN _ _ _⟩ | exact ⟨rfl, _, Eq.trans (World.drewN_drewN _ _ _) (congrArg (World.drewN _) (Nat.add_assoc _ _ _))⟩))))
         go_meet
         case rel => exact ⟨_, (!t386), aP14, H', ⟨by have := HJ6.out; have := HJ16.out; first | omega | exact Nat.le_refl _⟩, ⟨by (with_reducible repeat (first | apply Kd.R_alloc | apply Kd.R_drewN | apply Kd.R_drew)); exact Kd.R_mono HO381.out (fun _ hk => trivial)⟩, ⟨bB⟩⟩
       case rest =>
        clear HC118
        try clear c1
        try clear c2
        try clear p2
        try clear c3
        try clear c3b0
        try clear c4
        try clear p6
        try clear c12
        try clear c12b0
        try clear c12b1
        try clear c12b2
        try clear c16
        try clear c18
        try clear c25
        try clear c25b0
        try clear c25b1
        try clear c25b2
        try clear c34
        try clear c34b0
        try clear c34b1
        try clear c35
        try clear c37
        try clear c38
        try clear c39
        try clear c40
        try clear c42
        try clear p64
        try clear c122
        try clear c122b0
        try clear c122b1
        try clear c122b2
        try clear p2
        try clear p6
        try clear p64
        obtain ⟨kq, x166_117, rfl, HA, HJ117, HO_28, HB⟩ := hcut
        cases kq with
        | zero => exact absurd HA.out (by simp [lZ.j2])
        | succ kj117 =>
         have H := HA.out
         clear HA
         simp only [lZ.j2] at H
         by_cases c126 : x166_117 = true
         ·subst c126
          have H1 : (some false) = some r := by rw [if_pos rfl] at H; exact H
          clear H
          have H := H1
          clear H1
          exact absurd ((Option.some.inj H).trans hrt_.out) (by decide)
         ·replace c126 := Bool.eq_false_iff.mpr c126
          subst c126
          have H1 : (if t379 = true then ((impl_ApplyOp.f kj117 t378 t374).bind fun bt387 => (if bt387.2 = true then (if 0 ≤ t375 then (if t375 ≤ (t374.size : Int) then (if (t374.extract 0 (t375 : Int).toNat).size + t377.size ≤ 9223372036854775807 then (if 0 ≤ t376 then (if t376 ≤ (t374.size : Int) then (if ((t374.extract 0 (t375 : Int).toNat) ++ t377).size + (t374.extract (t376 : Int).toNat t374.size).size ≤ 9223372036854775807 then (some (bt387.1.toList == (((t374.extract 0 (t375 : Int).toNat) ++ t377) ++ (t374.extract (t376 : Int).toNat t374.size)).toList)) else (none)) else (none)) else (none)) else (none)) else (none)) else (none)) else (some false))) else (some ((t378.length : Int) == 0))) = some r := by rw [if_neg (show ¬ (false = true) by decide)] at H; exact H
          clear H
          have H := H1
          clear H1
          by_cases c127 : t379 = true
          ·subst c127
           have H1 : ((impl_ApplyOp.f kj117 t378 t374).bind fun bt387 => (if bt387.2 = true then (if 0 ≤ t375 then (if t375 ≤ (t374.size : Int) then (if (t374.extract 0 (t375 : Int).toNat).size + t377.size ≤ 9223372036854775807 then (if 0 ≤ t376 then (if t376 ≤ (t374.size : Int) then (if ((t374.extract 0 (t375 : Int).toNat) ++ t377).size + (t374.extract (t376 : Int).toNat t374.size).size ≤ 9223372036854775807 then (some (bt387.1.toList == (((t374.extract 0 (t375 : Int).toNat) ++ t377) ++ (t374.extract (t376 : Int).toNat t374.size)).toList)) else (none)) else (none)) else (none)) else (none)) else (none)) else (none)) else (some false))) = some r := by rw [if_pos rfl] at H; exact H
           clear H
           have H := H1
           clear H1
           replace H := Option.bind_eq_some_iff.mp H
           obtain ⟨⟨t387, t388⟩, A1280, H⟩ := H
           replace H : (if t388 = true then (if 0 ≤ t375 then (if t375 ≤ (t374.size : Int) then (if (t374.extract 0 (t375 : Int).toNat).size + t377.size ≤ 9223372036854775807 then (if 0 ≤ t376 then (if t376 ≤ (t374.size : Int) then (if ((t374.extract 0 (t375 : Int).toNat) ++ t377).size + (t374.extract (t376 : Int).toNat t374.size).size ≤ 9223372036854775807 then (some (t387.toList == (((t374.extract 0 (t375 : Int).toNat) ++ t377) ++ (t374.extract (t376 : Int).toNat t374.size)).toList)) else (none)) else (none)) else (none)) else (none)) else (none)) else (none)) else (some false)) = some r := H
           have A128 := aM A1280
           clear A1280
           by_cases c129 : t388 = true
           ·subst c129
            have H1 : (if 0 ≤ t375 then (if t375 ≤ (t374.size : Int) then (if (t374.extract 0 (t375 : Int).toNat).size + t377.size ≤ 9223372036854775807 then (if 0 ≤ t376 then (if t376 ≤ (t374.size : Int) then (if ((t374.extract 0 (t375 : Int).toNat) ++ t377).size + (t374.extract (t376 : Int).toNat t374.size).size ≤ 9223372036854775807 then (some (t387.toList == (((t374.extract 0 (t375 : Int).toNat) ++ t377) ++ (t374.extract (t376 : Int).toNat t374.size)).toList)) else (none)) else (none)) else (none)) else (none)) else (none)) else (none)) = some r := by rw [if_pos rfl] at H; exact H
            clear H
            have H := H1
            clear H1
            by_cases c130 : 0 ≤ t375
            ·rw [if_pos c130] at H
             have c130b0 := eq_true c130
             have c130b1 : decide (0 ≤ t375) = true := decide_eq_true c130
             clear c130
             by_cases c131 : t375 ≤ (t374.size : Int)
             ·rw [if_pos c131] at H
              have c131b0 := eq_true c131
              have c131b1 : decide (t375 ≤ (t374.size : Int)) = true := decide_eq_true c131
              clear c131
              by_cases c132 : (t374.extract 0 (t375 : Int).toNat).size + t377.size ≤ 9223372036854775807
              ·rw [if_pos c132] at H
               have c132b0 := eq_true c132
               have c132b1 : decide ((t374.extract 0 (t375 : Int).toNat).size + t377.size ≤ 9223372036854775807) = true := decide_eq_true c132
               try have c132b2 : (9223372036854775807 < (t374.extract 0 (t375 : Int).toNat).size + t377.size) = False := eq_false (Nat.not_lt.2 c132)
               by_cases c133 : 0 ≤ t376
               ·rw [if_pos c133] at H
                have c133b0 := eq_true c133
                have c133b1 : decide (0 ≤ t376) = true := decide_eq_true c133
                clear c133
                by_cases c134 : t376 ≤ (t374.size : Int)
                ·rw [if_pos c134] at H
                 have c134b0 := eq_true c134
                 have c134b1 : decide (t376 ≤ (t374.size : Int)) = true := decide_eq_true c134
                 clear c134
                 by_cases c135 : ((t374.extract 0 (t375 : Int).toNat) ++ t377).size + (t374.extract (t376 : Int).toNat t374.size).size ≤ 9223372036854775807
                 ·rw [if_pos c135] at H
                  have c135b0 := eq_true c135
                  have c135b1 : decide (((t374.extract 0 (t375 : Int).toNat) ++ t377).size + (t374.extract (t376 : Int).toNat t374.size).size ≤ 9223372036854775807) = true := decide_eq_true c135
                  try have c135b2 : (9223372036854775807 < ((t374.extract 0 (t375 : Int).toNat) ++ t377).size + (t374.extract (t376 : Int).toNat t374.size).size) = False := eq_false (Nat.not_lt.2 c135)
                  try have c135s := eq_false (Nat.not_lt.2 c135)
                  try simp only [ByteArray.size_append] at c135s
                  obtain rfl := Option.some.inj H
                  obtain ⟨Ao136, co136, eo136⟩ := Kd.R_slice HO_28.out
                  subst eo136
                  go_wp2_with (first | (go_at_call 26; (with_reducible refine (impl_ApplyOp.calls kj117 _ _ t378 t374 t387 true _ ?side1 ?side2 A128.out).mono ?_); (case side1 => exact cC ((Kd.R_reads' HO_28.out).2.2)); (case side2 => exact (Kd.R_reads' HO_28.out).2.1); rintro e w137 ⟨rfl, hb⟩; have n0_ := aM (Kd.R_below (rR HO_28.out) hb); have n1_ := aM (below_step bB hb); clear HO_28; clear HB; have HO_28 := n0_; have HB := n1_; clear n0_ n1_; (try clear hb); (try clear hb2); (try clear hk); (try clear hi)))
                  repeat (go_quiet (first | (go_at_call 26; (with_reducible refine (impl_ApplyOp.calls kj117 _ _ t378 t374 t387 true _ ?side1 ?side2 A128.out).mono ?_); (case side1 => exact cC ((Kd.R_reads' HO_28.out).2.2)); (case side2 => exact (Kd.R_reads' HO_28.out).2.1); rintro e w137 ⟨rfl, hb⟩; have n0_ := aM (Kd.R_below (rR HO_28.out) hb); have n1_ := aM (below_step bB hb); clear HO_28; clear HB; have HO_28 := n0_; have HB := n1_; clear n0_ n1_; (try clear hb); (try clear hb2); (try clear hk); (try clear hi))); try go_wp2_with (first | (go_at_call 26; (with_reducible refine (impl_ApplyOp.calls kj117 _ _ t378 t374 t387 true _ ?side1 ?side2 A128.out).mono ?_); (case side1 => exact cC ((Kd.R_reads' HO_28.out).2.2)); (case side2 => exact (Kd.R_reads' HO_28.out).2.1); rintro e w137 ⟨rfl, hb⟩; have n0_ := aM (Kd.R_below (rR HO_28.out) hb); have n1_ := aM (below_step bB hb); clear HO_28; clear HB; have HO_28 := n0_; have HB := n1_; clear n0_ n1_; (try clear hb); (try clear hb2); (try clear hk); (try clear hi))))
                  go_ret
                  exact ⟨by first | rfl | (simp [errW_none, errW_some] <;> rfl) | (simp [errW_none, errW_some]; exact isE _) | (simp [*, errW_none, errW_some] <;> rfl), bB⟩
                 ·rw [if_neg c135] at H
                  exact absurd H (by simp)
                ·rw [if_neg c134] at H
                 exact absurd H (by simp)
               ·rw [if_neg c133] at H
                exact absurd H (by simp)
              ·rw [if_neg c132] at H
               exact absurd H (by simp)
             ·rw [if_neg c131] at H
              exact absurd H (by simp)
            ·rw [if_neg c130] at H
             exact absurd H (by simp)
           ·replace c129 := Bool.eq_false_iff.mpr c129
            subst c129
            have H1 : (some false) = some r := by rw [if_neg (show ¬ (false = true) by decide)] at H; exact H
            clear H
            have H := H1
            clear H1
            exact absurd ((Option.some.inj H).trans hrt_.out) (by decide)
          ·replace c127 := Bool.eq_false_iff.mpr c127
           subst c127
           have H1 : (some ((t378.length : Int) == 0)) = some r := by rw [if_neg (show ¬ (false = true) by decide)] at H; exact H
           clear H
           have H := H1
           clear H1
           obtain rfl := Option.some.inj H
           obtain ⟨Ao140, co140, eo140⟩ := Kd.R_slice HO_28.out
           subst eo140
           go_wp2
           repeat (go_quiet (fail); try go_wp2)
           go_ret
           exact ⟨by first | rfl | (simp [errW_none, errW_some] <;> rfl) | (simp [errW_none, errW_some]; exact isE _) | (simp [*, errW_none, errW_some] <;> rfl), bB⟩
/-- THE ONE PURE STATEMENT of lZ: yours. -/
def lZ.Pure : Prop := ∀ (l0 : List Int) (l1 : List Int), l0.length ≤ maxLen → l0.length * 1 ≤ 140737488351232 → (∀ x ∈ l0, (Lit.int .u8 x).wf = true) → l1.length ≤ maxLen → l1.length * 1 ≤ 140737488351232 → (∀ x ∈ l1, (Lit.int .u8 x).wf = true) → ∃ k, lZ.f k l0 l1 = some true
theorem lZ.walk (P : lZ.Pure) (a0 : Option Addr) (len0 cap0 : Nat) (z0 : List Int) (a1 : Option Addr) (len1 cap1 : Nat) (z1 : List Int) (w : World) (w0 : (a0 = none ∧ len0 = 0 ∧ cap0 = 0 ∧ z0 = []) ∨ ∃ x, a0 = some x ∧ len0 ≤ cap0 ∧ cap0 ≤ maxLen ∧ z0.length = cap0 ∧ (∀ i, i < z0.length → w.cell? (x.add i) = some (.int .u8 (z0.getD i 0))) ∧ ∀ n ∈ z0, (Lit.int .u8 n).wf = true) (y0 : len0 * 1 ≤ 140737488351232) (w1 : (a1 = none ∧ len1 = 0 ∧ cap1 = 0 ∧ z1 = []) ∨ ∃ x, a1 = some x ∧ len1 ≤ cap1 ∧ cap1 ≤ maxLen ∧ z1.length = cap1 ∧ (∀ i, i < z1.length → w.cell? (x.add i) = some (.int .u8 (z1.getD i 0))) ∧ ∀ n ∈ z1, (Lit.int .u8 n).wf = true) (y1 : len1 * 1 ≤ 140737488351232) :
  Calls Try.prog 12 #[.slice a0 len0 cap0, .slice a1 len1 cap1] w fun e w' => e = .returned (.bool true) ∧ Below w.heap.size w w' := by
 obtain ⟨l0, rfl, hr0, hm0, hw0, hc0⟩ := ReadsInt.ofRowC w0
 obtain ⟨l1, rfl, hr1, hm1, hw1, hc1⟩ := ReadsInt.ofRowC w1
 obtain ⟨k, h⟩ := P l0 l1 hm0 y0 hw0 hm1 y1 hw1
 refine (lZ.calls k _ _ l0 _ _ l1 true rfl w (Kd.C_of_reads (d := (0 : Int)) (h1 := fun _ => rfl) hr0) hc0 (Kd.C_of_reads (d := (0 : Int)) (h1 := fun _ => rfl) hr1) hc1 h).mono ?_
 rintro e w' ⟨rfl, hd⟩
 exact ⟨rfl, hd⟩
end Go.Proofs.Ytlelpomnblaciaa.PFnNormal
