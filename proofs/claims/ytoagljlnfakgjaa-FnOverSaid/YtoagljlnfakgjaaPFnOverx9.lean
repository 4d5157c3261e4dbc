/- (thin) Written by a program of this session (wip/ovl.py) over the kit's print: plain functions with the answers of the Go functions, and the proofs that they are; no condition. -/
import Derived.Test.YtoagljlnfakgjaaMk
import Derived.Test.YtoagljlnfakgjaaWFootNe
import Derived.Test.YtoagljlnfakgjaaWKept
import Derived.Test.YtoagljlnfakgjaaPFnOverx0
import Derived.Test.YtoagljlnfakgjaaPFnOverx8
namespace Go.Proofs.Ytoagljlnfakgjaa.PFnOver
open Go.RowKit Go.Proofs.YtoagljlnfakgjaaW.PrintWords Go.Proofs.YtoagljlnfakgjaaW.PrintLast Go.Proofs.YtoagljlnfakgjaaW.PrintMore
attribute [local go_sem] max2_int min2_int max_two min_two max_three min_three max_four min_four   -- for this text's walks alone
set_option linter.unusedVariables false
set_option linter.unusedSimpArgs false
def spec_l3Normal.l0 : Nat → List (S60) → List (S60) → Int → Int → Option ((List (S60)))
 | 0, _, _, _, _ => none
 | k + 1, x3, x6, x7, x8 => if x8 < x7 then (if 0 ≤ x8 then (if x8 < (x6.length : Int) then ((spec_l3Add.f k x3 ((rd_T60 x6 x8).f0) ((rd_T60 x6 x8).f1) ((rd_T60 x6 x8).f2)).bind fun t192 => (spec_l3Normal.l0 k t192 x6 x7 (wrap64 (x8 + 1)))) else (none)) else (none)) else (some x3)
def spec_l3Normal.f (k : Nat) (l0 : List (S60)) : Option ((List (S60))) := spec_l3Normal.l0 k ([] : List (S60)) l0 (l0.length : Int) 0
theorem spec_l3Normal.mono_l : ∀ k, (∀ y0 y1 y2 y3, LeO (spec_l3Normal.l0 k y0 y1 y2 y3) (spec_l3Normal.l0 (k + 1) y0 y1 y2 y3))
 | 0 => fun _ _ _ _ r h => by simp [spec_l3Normal.l0] at h
 | k + 1 => by
  have ih0 := spec_l3Normal.mono_l k
  ·intro y0 y1 y2 y3
   unfold spec_l3Normal.l0
   repeat' (with_reducible first | exact ih0 _ _ _ _ | exact spec_l3Add.mono _ _ _ _ _ | exact LeO.refl _ | exact LeO.none _ | refine LeO.ite ?_ ?_ | refine LeO.bind ?_ (fun _ => ?_))
theorem spec_l3Normal.mono : ∀ a0 k, LeO (spec_l3Normal.f k a0) (spec_l3Normal.f (k + 1) a0) := by
 intro a0 k
 have ih0 := spec_l3Normal.mono_l k
 unfold spec_l3Normal.f
 repeat' (with_reducible first | exact ih0 _ _ _ _ | exact spec_l3Add.mono _ _ _ _ _ | exact LeO.refl _ | exact LeO.none _ | refine LeO.ite ?_ ?_ | refine LeO.bind ?_ (fun _ => ?_))
set_option maxHeartbeats 8000000 in
set_option maxRecDepth 100000 in
theorem spec_l3Normal.calls (k : Nat) (A0 : Option Addr) (c0 : Nat) (l0 : List (S60)) (r : List (S60)) (w : World) (hr0 : Kd.C k60 w A0 l0.length l0) (hc0 : l0.length ≤ c0) (h : spec_l3Normal.f k l0 = some r) :
  Calls Try.prog 70 #[.slice A0 l0.length c0] w fun e w' => ∃ v0_ : Value, e = .returned (v0_) ∧ Kd.R k60 60 w' w.heap.size (fun _ => True) v0_ r ∧ Below w.heap.size w w' := by
 have hu60 := Try.underlying60
 have HR0 := aM hr0
 have HC0 := aM hc0
 clear hr0 hc0
 have HB := aM (Below.refl w.heap.size w)
 have H : (spec_l3Normal.l0 k ([] : List (S60)) l0 (l0.length : Int) 0) = some r := h
 clear h
 have H' := aM H
 clear H
 go_enter Try.func70, Try.ntmps70
 go_wp2
 go_loopg [3, 8] k (fun kq v3 v8 w' => ∃ (x3_1 : List (S60)) (x8_1 : Int), v8 = .int .i64 x8_1 ∧ Aside0 (spec_l3Normal.l0 kq x3_1 l0 (l0.length : Int) x8_1 = some r) ∧ Aside0 (kq ≤ k) ∧ Aside0 (Kd.R k60 60 w' w.heap.size (fun _ => True) v3 x3_1) ∧ Aside0 (Below w.heap.size w w'))
 case atStart => exact ⟨(([] : List (S60))), (0), aP16, H', ⟨Nat.le_refl _⟩, ⟨by first | exact Kd.R_nil _ _ _ _ _ | exact Kd.N_nil _ _ _ _ _ | exact Kd.V_nil _ _ _ _ _ | exact Kd.Q_nil _ _ _ _ _ | exact Kd.S_nil _ _ _ _ _⟩, ⟨bB⟩⟩
 case round =>
  clear H'
  obtain ⟨x3_1, x8_1, rfl, HA, HK1, HO_3, HB⟩ := hrel
  cases gk with
  | zero => exact absurd HA.out (by simp [spec_l3Normal.l0])
  | succ k1 =>
   have H := HA.out
   clear HA
   simp only [spec_l3Normal.l0] at H
   by_cases c2 : x8_1 < (l0.length : Int)
   rotate_left
   ·rw [if_neg c2] at H
    have c2b0 : decide (x8_1 < (l0.length : Int)) = false := decide_eq_false c2
    clear c2
    obtain rfl := Option.some.inj H
    go_wp2
    go_ret
    exact ⟨_, by first | rfl | (simp [errW_none, errW_some] <;> rfl) | (simp [*, errW_none, errW_some] <;> rfl), by (with_reducible repeat (first | apply Kd.R_alloc | apply Kd.R_drewN | apply Kd.R_drew)); exact HO_3.out, bB⟩
   rw [if_pos c2] at H
   have c2b0 : decide (x8_1 < (l0.length : Int)) = true := decide_eq_true c2
   clear c2
   by_cases c3 : 0 ≤ x8_1
   rotate_left
   ·rw [if_neg c3] at H
    exact absurd H (by simp)
   rw [if_pos c3] at H
   have c3b0 : decide (0 ≤ x8_1) = true := decide_eq_true c3
   clear c3
   by_cases c4 : x8_1 < (l0.length : Int)
   rotate_left
   ·rw [if_neg c4] at H
    exact absurd H (by simp)
   rw [if_pos c4] at H
   have c4b0 : decide (x8_1 < (l0.length : Int)) = true := decide_eq_true c4
   clear c4
   replace H := Option.bind_eq_some_iff.mp H
   obtain ⟨t192, A50, H⟩ := H
   replace H : (spec_l3Normal.l0 k1 t192 l0 (l0.length : Int) (wrap64 (x8_1 + 1))) = some r := H
   have A5 := aM A50
   clear A50
   have H' := aM H
   clear H
   have p190 : 0 ≤ (x8_1 : Int) := of_decide_eq_true (by assumption)
   have q190 : x8_1 < (l0.length : Int) := of_decide_eq_true (by assumption)
   obtain ⟨ad190, e190, hx190_0, hx190_1, hx190_2⟩ := at_T60 HR0.out x8_1 p190 q190
   cases e190
   replace hx190_0 := hC HB.out hx190_0
   replace hx190_1 := hC HB.out hx190_1
   replace hx190_2 := hC HB.out hx190_2
   replace p190 := eq_true p190
   replace q190 := eq_true q190
   go_wp2_with (first | ((with_reducible refine gate_dst (N := 5) rfl ?_); refine box_event ?hg (N := 5) ?hd (cs := #[.int .i64 0, .string (⟨#[]⟩ : ByteArray), .string (⟨#[]⟩ : ByteArray)]) (t := 60) ?hr ?_; (case hd => rfl); (case hg => rfl); (case hr => exact aP21); intro gb191 hg w6 hbox hb; have BK191 := aM (hbox); have GW191 := aM (bG (w := w) hg); have GE191 := aM (bG (w := w) hg); replace HO_3 := aM (Kd.R_below (Kd.R_elderB (rR HO_3.out) gb191 (Nat.le_of_eq hg.symm)) hb); replace HB := aM (below_step bB hb); clear hb hbox hg; obtain ⟨hcz7_0, hcz7_1, hcz7_2, hfz7_0, hfz7_1, hfz7_2⟩ := bx3 BK191.out) | ((with_reducible refine gate_store (t := 60) (p := 5) rfl ?_); refine store_event (t := 60) (p := 5) (v := ?vo_w8) (w1 := (((w6.setCell ⟨gb191, 0, none⟩ (.int .i64 ((rd_T60 l0 x8_1).f0))).setCell ⟨gb191, 1, none⟩ (.string ((rd_T60 l0 x8_1).f1))).setCell ⟨gb191, 2, none⟩ (.string ((rd_T60 l0 x8_1).f2)))) ?hg ?ho ?hn ?hr ?_; (case ho => rfl); (case hg => rfl); (case hn => rfl); (case hr => exact aP21); intro w8 hw; have n0_ : Aside0 (Kd.R k60 60 w8 w.heap.size (fun k_ => k_ ≠ gb191) u3 x3_1) := ⟨(by rw [hw]; exact (by (with_reducible repeat (first | apply Kd.R_alloc | apply Kd.R_drewN | apply Kd.R_drew)); exact Kd.R_mono (Kd.R_far (p := ⟨gb191, 2, none⟩) (Kd.R_far (p := ⟨gb191, 1, none⟩) (Kd.R_far (p := ⟨gb191, 0, none⟩) (Kd.R_mono HO_3.out (fun k_ hk => (⟨hk, hk.2⟩ : _ ∧ k_ ≠ gb191))) (fun _ hk => hk.2) (.int .i64 ((rd_T60 l0 x8_1).f0))) (fun _ hk => hk.2) (.string ((rd_T60 l0 x8_1).f1))) (fun _ hk => hk.2) (.string ((rd_T60 l0 x8_1).f2))) (fun _ hk => hk.1.2)))⟩; have n1_ : Aside0 (w8.heap[gb191]? = some (.cells #[.int .i64 ((rd_T60 l0 x8_1).f0), .string ((rd_T60 l0 x8_1).f1), .string ((rd_T60 l0 x8_1).f2)] 60 (0, 0))) := ⟨(by rw [hw]; exact (by (with_reducible repeat (first | refine blk_drewN ?_ _ | refine blk_drew ?_ | refine blk_alloc ?_ _)); refine blk_put (cs := #[.int .i64 ((rd_T60 l0 x8_1).f0), .string ((rd_T60 l0 x8_1).f1), .string (⟨#[]⟩ : ByteArray)]) ?_ 2 _ rfl; (with_reducible repeat (first | refine blk_drewN ?_ _ | refine blk_drew ?_ | refine blk_alloc ?_ _)); refine blk_put (cs := #[.int .i64 ((rd_T60 l0 x8_1).f0), .string (⟨#[]⟩ : ByteArray), .string (⟨#[]⟩ : ByteArray)]) ?_ 1 _ rfl; (with_reducible repeat (first | refine blk_drewN ?_ _ | refine blk_drew ?_ | refine blk_alloc ?_ _)); refine blk_put (cs := #[.int .i64 0, .string (⟨#[]⟩ : ByteArray), .string (⟨#[]⟩ : ByteArray)]) ?_ 0 _ rfl; exact kK BK191.out))⟩; have n2_ : Aside0 (Below w.heap.size w w8) := ⟨(by rw [hw]; exact aP14)⟩; clear hw; clear HO_3; clear BK191; clear HB; have HO_3 := n0_; have BK191 := n1_; have HB := n2_; clear n0_ n1_ n2_; obtain ⟨hcz9_0, hcz9_1, hcz9_2, hfz9_0, hfz9_1, hfz9_2⟩ := bx3 BK191.out; obtain ⟨Ao10, co10, eo10⟩ := Kd.R_slice HO_3.out; subst eo10) | ((with_reducible refine gate_callee (f := 74) rfl ?_); refine goesL_ (some 14) rfl rfl Try.func74 (by kernel_rfl) rfl #[.slice Ao10 x3_1.length co10, .agg #[.int .i64 ((rd_T60 l0 x8_1).f0), .string ((rd_T60 l0 x8_1).f1), .string ((rd_T60 l0 x8_1).f2)]] rfl mM ?_; (with_reducible refine (spec_l3Add.calls k1 (fun k_ => some k_ = (.slice Ao10 x3_1.length co10 : Value).ownBlock) (.slice Ao10 x3_1.length co10) x3_1 ((rd_T60 l0 x8_1).f0) ((rd_T60 l0 x8_1).f1) ((rd_T60 l0 x8_1).f2) t192 w _ ?side1 ?side2 A5.out).mono ?_); (case side1 => exact aP14); (case side2 => exact Kd.R_tight rfl HO_3.out); rintro e w11 ⟨v193, rfl, ho0, hb, hkp⟩; refine ⟨_, rfl, ?_⟩; have n0_ := aM (blk_kept (kK BK191.out) hkp (fun hs_ => (fun e_ => (Kd.R_away HO_3.out (fun _ hk => hk)) e_) hs_)); have n1_ := aM (Kd.R_mono (ok' := fun k_ => k_ ≠ gb191) ho0 (fun k_ hk_ => Or.elim hk_ (fun hs_ => fun e_ => (Kd.R_away HO_3.out (fun _ hk => hk)) (by rw [← e_]; exact hs_)) (fun hn_ => (Kd.freshB (g := gb191) (o := .cells #[.int .i64 ((rd_T60 l0 x8_1).f0), .string ((rd_T60 l0 x8_1).f1), .string ((rd_T60 l0 x8_1).f2)] 60 (0, 0)) (kK BK191.out) k_ hn_)))); have n2_ := aM (hb); clear BK191; clear HB; clear HO_3; have BK191 := n0_; have HO194 := n1_; have HB := n2_; clear n0_ n1_ n2_; (try clear hb); (try clear hkp); (try clear ho0)))
   go_roundg k1
   case measure => have := HK1.out; omega
   case rel => exact ⟨(t192), (wrap64 (x8_1 + 1)), aP16, H', ⟨by have := HK1.out; omega⟩, ⟨by (with_reducible repeat (first | apply Kd.R_alloc | apply Kd.R_drewN | apply Kd.R_drew)); exact Kd.R_mono HO194.out (fun _ hk => trivial)⟩, ⟨aP14⟩⟩
-- import WFootNe
-- import WKept
def IsL3 (w : World) (g : Nat) (l : List S60) (S : Nat → Prop) : Prop :=
 ∃ (A : Option Addr) (c : Nat), w.heap[g]? = some (.cells #[.slice A l.length c] 99 (0, 0)) ∧ l.length ≤ c ∧ Kd.C k60 w A l.length l ∧ (∀ ad, A = some ad → 0 < l.length → ¬ S ad.block)
theorem IsL3.kept {w w' : World} {g : Nat} {l : List S60} {S S' : Nat → Prop} (h : IsL3 w g l S) (hk : Kept w w' S') (hg : ¬ S' g) (hs : ∀ k, S' k → S k) : IsL3 w' g l S := by
 obtain ⟨A, c, h1, h2, h3, h4⟩ := h
 refine ⟨A, c, blk_kept h1 hk hg, h2, ?_, h4⟩
 exact Kd.C_foot_neS (S := S') (fun h => h) h3 (fun ad e hn hq => h4 ad e hn (hs _ hq)) w' hk
theorem IsL3.below {w w' : World} {g : Nat} {l : List S60} {S : Nat → Prop} (h : IsL3 w g l S) (hb : Below w.heap.size w w') : IsL3 w' g l S :=
 h.kept (Kept.of_below hb (fun _ => False)) (fun q => q) (fun _ q => q.elim)
set_option maxHeartbeats 8000000 in
set_option maxRecDepth 100000 in
theorem l3_done (w : World) (g : Nat) (l : List S60) (S : Nat → Prop) (h : IsL3 w g l S) :
  Calls Try.prog 71 #[.pointer (some ⟨g, 0, none⟩)] w fun e w' => e = .returned (.bool ((l.length : Int) == 0)) ∧ w = w' := by
 have hu92 := Try.underlying99
 obtain ⟨A, c, hk, hc, hr, _⟩ := h
 have c0 : w.cell? ⟨g, 0, none⟩ = some (.slice A l.length c) := (blk_cell hk 0).trans rfl
 clear hk hr hc
 go_enter Try.func71, Try.ntmps71
 go_wp2_with fail
 go_ret
 exact ⟨rfl, rfl⟩
def szQ (p : S60) : Int := wrap64 (wrap64 (p.f0 + (p.f1.size : Int)) + (p.f2.size : Int))
set_option maxHeartbeats 8000000 in
set_option maxRecDepth 100000 in
theorem l3_size (w : World) (g : Nat) (p : S60) (r : List S60) (S : Nat → Prop) (h : IsL3 w g (p :: r) S) :
  Calls Try.prog 73 #[.pointer (some ⟨g, 0, none⟩)] w fun e w' => e = .returned (.int .i64 (szQ p)) ∧ ∃ n, w.drewN n = w' := by
 have hu92 := Try.underlying99
 have hu53 := Try.underlying60
 obtain ⟨A, c, hk, hc, hr, _⟩ := h
 have c0 : w.cell? ⟨g, 0, none⟩ = some (.slice A (p :: r).length c) := (blk_cell hk 0).trans rfl
 have p0 : (0 : Int) < ((p :: r).length : Int) := by rw [List.length_cons]; omega
 obtain ⟨ad, e3, hx0, hx1, hx2⟩ := at_T60 hr 0 (Int.le_refl _) p0
 cases e3
 rw [show ((0 : Int)).toNat = 0 from rfl, show 0 * 3 = 0 from rfl, Addr.add_zero'] at hx0 hx1 hx2
 have e9 : rd_T60 (p :: r) 0 = p := rfl
 rw [e9] at hx0 hx1 hx2
 rw [List.length_cons] at c0
 have q0 : ((0 : Int) < (r.length : Int) + 1) = True := eq_true (by omega)
 have q1 : (0 < r.length + 1) = True := eq_true (by omega)
 clear hk hr hc p0 e9
 go_enter Try.func73, Try.ntmps73
 go_wp2_with fail
 go_quiet (fail)
 go_wp2_with fail
 go_ret
 exact ⟨rfl, _, rfl⟩
-- import Mk
def takQ (l : List S60) (n : Int) : Option (S60 × List S60) :=
 match l with
 | [] => none
 | p :: r => if n = szQ p then some (p, r) else
  if 0 < p.f0 then some (⟨n, p.f1, p.f2⟩, ⟨wrap64 (p.f0 - n), p.f1, p.f2⟩ :: r)
  else if p.f1.toList = ([] : List UInt8) then (if 0 ≤ n ∧ n ≤ (p.f2.size : Int) then some (⟨p.f0, p.f1, p.f2.extract 0 n.toNat⟩, ⟨p.f0, p.f1, p.f2.extract n.toNat p.f2.size⟩ :: r) else none)
  else (if 0 ≤ n ∧ n ≤ (p.f1.size : Int) then some (⟨p.f0, p.f1.extract 0 n.toNat, p.f2⟩, ⟨p.f0, p.f1.extract n.toNat p.f1.size, p.f2⟩ :: r) else none)
theorem takQ_cases {p x : S60} {r l' : List S60} {n : Int} (hn : ¬ n = szQ p) (h : takQ (p :: r) n = some (x, l')) : (0 < p.f0 ∧ x = ⟨n, p.f1, p.f2⟩ ∧ l' = ⟨wrap64 (p.f0 - n), p.f1, p.f2⟩ :: r) ∨ ((¬ 0 < p.f0 ∧ p.f1.toList = ([] : List UInt8) ∧ (0 ≤ n ∧ n ≤ (p.f2.size : Int)) ∧ x = ⟨p.f0, p.f1, p.f2.extract 0 n.toNat⟩ ∧ l' = ⟨p.f0, p.f1, p.f2.extract n.toNat p.f2.size⟩ :: r) ∨ (¬ 0 < p.f0 ∧ ¬ p.f1.toList = ([] : List UInt8) ∧ (0 ≤ n ∧ n ≤ (p.f1.size : Int)) ∧ x = ⟨p.f0, p.f1.extract 0 n.toNat, p.f2⟩ ∧ l' = ⟨p.f0, p.f1.extract n.toNat p.f1.size, p.f2⟩ :: r)) := by
 unfold takQ at h
 dsimp only at h
 rw [if_neg hn] at h
 by_cases hA : 0 < p.f0
 ·rw [if_pos hA] at h; simp only [Option.some.injEq, Prod.mk.injEq] at h; exact .inl ⟨hA, h.1.symm, h.2.symm⟩
 rw [if_neg hA] at h
 by_cases hB : p.f1.toList = ([] : List UInt8)
 ·rw [if_pos hB] at h
  by_cases hn : 0 ≤ n ∧ n ≤ (p.f2.size : Int)
  rotate_left
  ·rw [if_neg hn] at h; cases h
  rw [if_pos hn] at h; simp only [Option.some.injEq, Prod.mk.injEq] at h; exact .inr (.inl ⟨hA, hB, hn, h.1.symm, h.2.symm⟩)
 rw [if_neg hB] at h
 by_cases hn : 0 ≤ n ∧ n ≤ (p.f1.size : Int)
 rotate_left
 ·rw [if_neg hn] at h; cases h
 rw [if_pos hn] at h; simp only [Option.some.injEq, Prod.mk.injEq] at h; exact .inr (.inr ⟨hA, hB, hn, h.1.symm, h.2.symm⟩)
def cellsQ (l : List S60) : List Value := l.flatMap (fun x => [.int .i64 x.f0, .string x.f1, .string x.f2])
theorem reps_cells {W : World} {base : Nat} {ok : Nat → Prop} : ∀ (l : List S60) (cs : List Value), Reps (k60.M W base ok) 3 l cs → cs = cellsQ l
 | [], cs, h => by
  have := h.1
  rw [List.length_nil, Nat.zero_mul] at this
  exact List.length_eq_zero_iff.1 this
 | x :: r, cs, h => by
  have h0 := k60_openM (h.2 0 x rfl)
  rw [Nat.zero_mul, List.drop_zero] at h0
  have ht : Reps (k60.M W base ok) 3 r (cs.drop 3) := by
   refine ⟨by rw [List.length_drop, h.1, List.length_cons]; omega, fun j q hj => ?_⟩
   have := h.2 (j + 1) q hj
   rw [List.drop_drop]
   rw [show (j + 1) * 3 = 3 + j * 3 by omega] at this
   exact this
  have := reps_cells r _ ht
  rw [← List.take_append_drop 3 cs, h0, this]
  rfl
theorem cells_reps (W : World) (base : Nat) (ok : Nat → Prop) : ∀ l : List S60, Reps (k60.M W base ok) 3 l (cellsQ l)
 | [] => Reps.none _ _
 | x :: r => Reps.c3 (k60_mkM _ _ _ x) (cells_reps W base ok r)
theorem cellsQ_set0 (p : S60) (r : List S60) (m : Int) : (cellsQ (p :: r)).set 0 (.int .i64 m) = cellsQ (⟨m, p.f1, p.f2⟩ :: r) := rfl
theorem cellsQ_set1 (p : S60) (r : List S60) (m : ByteArray) : (cellsQ (p :: r)).set 1 (.string m) = cellsQ (⟨p.f0, m, p.f2⟩ :: r) := rfl
theorem cellsQ_set2 (p : S60) (r : List S60) (m : ByteArray) : (cellsQ (p :: r)).set 2 (.string m) = cellsQ (⟨p.f0, p.f1, m⟩ :: r) := rfl
theorem ne_own {h n c k : Nat} (hk : k ≠ h) : (Value.slice (some ⟨h, 0, none⟩) n c).ownBlock ≠ some k := fun q => hk (Option.some.inj (show some h = some k from q)).symm
theorem far_block {h z : Nat} {ad : Addr} (e : some (⟨h, 0, none⟩ : Addr) = some ad) (h1 : z ≤ h) (h2 : ad.block < z) : False := by
 obtain rfl := Option.some.inj e
 exact absurd h2 (Nat.not_lt.mpr h1)
theorem R_cells {w : World} {base : Nat} {ok : Nat → Prop} {v : Value} {l : List S60} (h : Kd.R k60 60 w base ok v l) : (∀ k, v.ownBlock = some k → ok k) ∧ w.ownsRow base 60 3 v l.length (cellsQ l) := by
 obtain ⟨h1, inner, h2, h3⟩ := h
 obtain rfl := reps_cells l inner h3
 exact ⟨h1, h2⟩
theorem R_cells' {w : World} {base : Nat} {ok : Nat → Prop} {v : Value} {l : List S60} (h1 : ∀ k, v.ownBlock = some k → ok k) (h2 : w.ownsRow base 60 3 v l.length (cellsQ l)) : Kd.R k60 60 w base ok v l :=
 ⟨h1, cellsQ l, h2, cells_reps _ _ _ l⟩
set_option maxHeartbeats 8000000 in
set_option maxRecDepth 100000 in
theorem l3_take (w : World) (g : Nat) (p : S60) (r : List S60) (S : Nat → Prop) (n : Int) (x : S60) (l' : List S60) (h : IsL3 w g (p :: r) S) (hS : S g) (hSb : ∀ k, S k → k < w.heap.size) (hlen : r.length ≤ 1000) (htk : takQ (p :: r) n = some (x, l')) :
  Calls Try.prog 72 #[.pointer (some ⟨g, 0, none⟩), .int .i64 n] w fun e w' => e = .returned (.agg #[.int .i64 x.f0, .string x.f1, .string x.f2]) ∧ IsL3 w' g l' S ∧ KeptB w w' (fun k => k = g) := by
 have hu53 := Try.underlying60
 have hu92 := Try.underlying99
 have RD := aM h
 obtain ⟨A, c, hk, hc, hr, hf⟩ := h
 have gw := blk_lt hk
 have KB := aM hk
 have HR := aM hr
 have HC := aM hc
 have HF := aM hf
 have HSB := aM hSb
 have HLN := aM hlen
 have HT := aM htk
 have hln : (p :: r).length = r.length + 1 := rfl
 rw [hln] at KB
 have HN := aM (show r.length + 1 ≤ c from hc)
 have p0 : (0 : Int) < ((p :: r).length : Int) := by rw [List.length_cons]; omega
 obtain ⟨ad, e3, hx0, hx1, hx2⟩ := at_T60 hr 0 (Int.le_refl _) p0
 cases e3
 rw [show ((0 : Int)).toNat = 0 from rfl, show 0 * 3 = 0 from rfl, Addr.add_zero'] at hx0 hx1 hx2
 have e9 : rd_T60 (p :: r) 0 = p := rfl
 rw [e9] at hx0 hx1 hx2
 have X0 := aM hx0
 have X1 := aM hx1
 have X2 := aM hx2
 have q0 : ((0 : Int) < (r.length : Int) + 1) = True := eq_true (by omega)
 have q1 : (0 < r.length + 1) = True := eq_true (by omega)
 have lb : ((1 : Int) ≤ (r.length : Int) + 1) = True := eq_true (by omega)
 clear hk hr hc hf hln hSb hlen htk p0 e9 hx0 hx1 hx2
 go_enter Try.func72, Try.ntmps72
 go_upto_region 2 with (first | ((with_reducible refine gate_dst (N := 4) rfl ?_); refine box_event ?hg (N := 4) ?hd (cs := #[.int .i64 0, .string (⟨#[]⟩ : ByteArray), .string (⟨#[]⟩ : ByteArray)]) (t := 60) ?hr ?_; (case hd => rfl); (case hg => rfl); (case hr => exact aP21); intro gr hg_ w1 hbox hb; have KB1 := aM (blk_below KB.out hb); have HB1 := aM hb; have BR1 := aM hbox; have GR := aM hg_; have z0 := pw_cell_below hb X0.out; have z1 := pw_cell_below hb X1.out; have z2 := pw_cell_below hb X2.out; have gg := (blk_cell KB1.out 0).trans (show _ = some (Value.slice (some ad) (r.length + 1) c) from rfl); clear hb hbox hg_) | ((with_reducible refine gate_dst (N := 5) rfl ?_); refine box_event ?hg (N := 5) ?hd (cs := #[.int .i64 0, .string (⟨#[]⟩ : ByteArray), .string (⟨#[]⟩ : ByteArray)]) (t := 60) ?hr ?_; (case hd => rfl); (case hg => rfl); (case hr => exact aP21); intro gp hg_ w3 hbox hb; have KB3 := aM (blk_below KB1.out hb); have BR3 := aM (blk_below BR1.out hb); have HB3 := aM hb; have BP := aM hbox; have GP := aM hg_; have y0 := (blk_cell hbox 0).trans (show _ = some (Value.int .i64 0) from rfl); have y1 := (blk_cell hbox 1).trans (show _ = some (Value.string ⟨#[]⟩) from rfl); have y2 := (blk_cell hbox 2).trans (show _ = some (Value.string ⟨#[]⟩) from rfl); have f0 := blk_frozen hbox 0; have f1 := blk_frozen hbox 1; have f2 := blk_frozen hbox 2; clear z0 z1 z2 gg; clear hb hbox hg_))
 have hgr : w.heap.size ≤ gr := Nat.le_of_eq GR.out.symm
 have z1 := HB1.out.size
 have hgp : w.heap.size ≤ gp := by rw [GP.out]; omega
 have n1 : gr ≠ g := by rw [GR.out]; exact Nat.ne_of_gt gw
 have n2 : g ≠ gr := by rw [GR.out]; exact Nat.ne_of_lt gw
 have n3 : gp ≠ g := by rw [GP.out]; exact Nat.ne_of_gt (blk_lt KB1.out)
 have n4 : g ≠ gp := by rw [GP.out]; exact Nat.ne_of_lt (blk_lt KB1.out)
 have n5 : gp ≠ gr := by rw [GP.out]; exact Nat.ne_of_gt (blk_lt BR1.out)
 have n6 : gr ≠ gp := by rw [GP.out]; exact Nat.ne_of_lt (blk_lt BR1.out)
 have k3 : KeptB w w3 (fun _ => False) := (KeptB.of_below HB1.out (fun _ => False)).then_ (KeptB.of_below HB3.out (fun _ => False)) (fun _ q => q.elim)
 have K0 := aM ((((k3).setCell (p := ⟨gp, 0, none⟩) (.inr hgp) (.int .i64 p.f0)).setCell (p := ⟨gp, 1, none⟩) (.inr hgp) (.string p.f1)).setCell (p := ⟨gp, 2, none⟩) (.inr hgp) (.string p.f2))
 have KG := aM (blk_far (blk_far (blk_far (KB3.out) (p := ⟨gp, 0, none⟩) n4 (.int .i64 p.f0)) (p := ⟨gp, 1, none⟩) n4 (.string p.f1)) (p := ⟨gp, 2, none⟩) n4 (.string p.f2))
 have BR := aM (blk_far (blk_far (blk_far (BR3.out) (p := ⟨gp, 0, none⟩) n6 (.int .i64 p.f0)) (p := ⟨gp, 1, none⟩) n6 (.string p.f1)) (p := ⟨gp, 2, none⟩) n6 (.string p.f2))
 have BQ := aM (blk_put (cs' := #[.int .i64 p.f0, .string p.f1, .string p.f2]) (blk_put (cs' := #[.int .i64 p.f0, .string p.f1, .string (⟨#[]⟩ : ByteArray)]) (blk_put (cs' := #[.int .i64 p.f0, .string (⟨#[]⟩ : ByteArray), .string (⟨#[]⟩ : ByteArray)]) (BP.out) 0 (.int .i64 p.f0) rfl) 1 (.string p.f1) rfl) 2 (.string p.f2) rfl)
 clear KB1 HB1 BR1 KB3 BR3 HB3 BP k3 z1 y0 y1 y2 f0 f1 f2
 generalize (((w3).setCell ⟨gp, 0, none⟩ (.int .i64 p.f0)).setCell ⟨gp, 1, none⟩ (.string p.f1)).setCell ⟨gp, 2, none⟩ (.string p.f2) = v1 at K0 KG BR BQ ⊢
 have RS := aM (RD.out.kept K0.out.kept (fun q => q) (fun _ q => q.elim))
 by_cases hn : n = szQ p
 ·have HE : Aside0 (p = x ∧ r = l') := ⟨by have h := HT.out; unfold takQ at h; dsimp only at h; rw [if_pos hn] at h; simp only [Option.some.injEq, Prod.mk.injEq] at h; exact h⟩
  have dn : (n == szQ p) = true := beq_iff_eq.mpr hn
  clear hn
  go_upto_region 3 with ((go_at_call 73; refine (l3_size _ g p r S RS.out).mono ?_; rintro e w2 ⟨rfl, ⟨nd, rfl⟩⟩))
  have K1 := aM (K0.out.then_ (KeptB.of_below (pw_below_drewN (Below.refl _ _) nd) (fun _ => False)) (fun _ q => q.elim))
  have KG1 := aM (blk_drewN KG.out nd)
  have BR1 := aM (blk_drewN BR.out nd)
  have BQ1 := aM (blk_drewN BQ.out nd)
  clear K0 KG BR BQ RS
  generalize v1.drewN nd = v2 at K1 KG1 BR1 BQ1 ⊢
  have gg := (blk_cell KG1.out 0).trans (show _ = some (Value.slice (some ad) (r.length + 1) c) from rfl)
  have gf := blk_frozen KG1.out 0
  have j0 := (blk_cell BQ1.out 0).trans (show _ = some (Value.int .i64 p.f0) from rfl)
  have j1 := (blk_cell BQ1.out 1).trans (show _ = some (Value.string p.f1) from rfl)
  have j2 := (blk_cell BQ1.out 2).trans (show _ = some (Value.string p.f2) from rfl)
  have s0 := (blk_cell BR1.out 0).trans (show _ = some (Value.int .i64 0) from rfl)
  have s1 := (blk_cell BR1.out 1).trans (show _ = some (Value.string ⟨#[]⟩) from rfl)
  have s2 := (blk_cell BR1.out 2).trans (show _ = some (Value.string ⟨#[]⟩) from rfl)
  have r0 := blk_frozen BR1.out 0
  have r1 := blk_frozen BR1.out 1
  have r2 := blk_frozen BR1.out 2
  by_cases hc1 : c = 1
  ·have d1 : (c == 1) = true := beq_iff_eq.mpr hc1
   have d2 : (c = 1) = True := eq_true hc1
   have HC1 := aM hc1
   clear hc1
   go_wp2_with fail
   have BG := blk_far (blk_far (blk_far (blk_put (cs' := #[.slice (some ad) r.length (c - 1)]) KG1.out 0 (.slice (some ad) r.length (c - 1)) rfl) (p := ⟨gr, 0, none⟩) n2 (.int .i64 p.f0)) (p := ⟨gr, 1, none⟩) n2 (.string p.f1)) (p := ⟨gr, 2, none⟩) n2 (.string p.f2)
   have BB := blk_put (cs' := #[.int .i64 p.f0, .string p.f1, .string p.f2]) (blk_put (cs' := #[.int .i64 p.f0, .string p.f1, .string (⟨#[]⟩ : ByteArray)]) (blk_put (cs' := #[.int .i64 p.f0, .string (⟨#[]⟩ : ByteArray), .string (⟨#[]⟩ : ByteArray)]) (blk_far BR1.out (p := ⟨g, 0, none⟩) n1 (.slice (some ad) r.length (c - 1))) 0 (.int .i64 p.f0) rfl) 1 (.string p.f1) rfl) 2 (.string p.f2) rfl
   have KW := ((((K1.out.mono (S' := fun k => k = g) (fun _ q => q.elim)).setCell (p := ⟨g, 0, none⟩) (.inl rfl) (.slice (some ad) r.length (c - 1))).setCell (p := ⟨gr, 0, none⟩) (.inr hgr) (.int .i64 p.f0)).setCell (p := ⟨gr, 1, none⟩) (.inr hgr) (.string p.f1)).setCell (p := ⟨gr, 2, none⟩) (.inr hgr) (.string p.f2)
   refine bodyPost_ret (results_cell_row rfl _ _ gr 60 #[.int .i64 p.f0, .string p.f1, .string p.f2] (0, 0) _ rfl BB Try.underlying60 rfl (by kernel_rfl)) rfl ?_
   obtain ⟨rfl, rfl⟩ := HE.out
   refine ⟨rfl, ⟨_, _, BG, ?_, ?_, ?_⟩, KW⟩
   ·have := HN.out; omega
   ·have hd := Kd.C_drop (m := 1) (c := c) HR.out (by rw [List.length_cons]; omega) HC.out
    rw [if_pos HC1.out] at hd
    exact Kd.C_foot_neS (S := fun k => k = g) (fun h => h) hd (fun ad e hn hq => HF.out ad e (by rw [List.length_cons]; omega) (hq ▸ hS)) _ KW.kept
   exact fun ad e hn => HF.out ad e (by rw [List.length_cons]; omega)
  have d1 : (c == 1) = false := beq_eq_false_iff_ne.mpr hc1
  have d2 : (c = 1) = False := eq_false hc1
  have HC1 := aM hc1
  clear hc1
  go_wp2_with fail
  have BG := blk_far (blk_far (blk_far (blk_put (cs' := #[.slice (some ⟨ad.block, ad.off + 3, none⟩) r.length (c - 1)]) KG1.out 0 (.slice (some ⟨ad.block, ad.off + 3, none⟩) r.length (c - 1)) rfl) (p := ⟨gr, 0, none⟩) n2 (.int .i64 p.f0)) (p := ⟨gr, 1, none⟩) n2 (.string p.f1)) (p := ⟨gr, 2, none⟩) n2 (.string p.f2)
  have BB := blk_put (cs' := #[.int .i64 p.f0, .string p.f1, .string p.f2]) (blk_put (cs' := #[.int .i64 p.f0, .string p.f1, .string (⟨#[]⟩ : ByteArray)]) (blk_put (cs' := #[.int .i64 p.f0, .string (⟨#[]⟩ : ByteArray), .string (⟨#[]⟩ : ByteArray)]) (blk_far BR1.out (p := ⟨g, 0, none⟩) n1 (.slice (some ⟨ad.block, ad.off + 3, none⟩) r.length (c - 1))) 0 (.int .i64 p.f0) rfl) 1 (.string p.f1) rfl) 2 (.string p.f2) rfl
  have KW := ((((K1.out.mono (S' := fun k => k = g) (fun _ q => q.elim)).setCell (p := ⟨g, 0, none⟩) (.inl rfl) (.slice (some ⟨ad.block, ad.off + 3, none⟩) r.length (c - 1))).setCell (p := ⟨gr, 0, none⟩) (.inr hgr) (.int .i64 p.f0)).setCell (p := ⟨gr, 1, none⟩) (.inr hgr) (.string p.f1)).setCell (p := ⟨gr, 2, none⟩) (.inr hgr) (.string p.f2)
  refine bodyPost_ret (results_cell_row rfl _ _ gr 60 #[.int .i64 p.f0, .string p.f1, .string p.f2] (0, 0) _ rfl BB Try.underlying60 rfl (by kernel_rfl)) rfl ?_
  obtain ⟨rfl, rfl⟩ := HE.out
  refine ⟨rfl, ⟨_, _, BG, ?_, ?_, ?_⟩, KW⟩
  ·have := HN.out; omega
  ·have hd := Kd.C_drop (m := 1) (c := c) HR.out (by rw [List.length_cons]; omega) HC.out
   rw [if_neg HC1.out] at hd
   exact Kd.C_foot_neS (S := fun k => k = g) (fun h => h) hd (fun ad' e hn hq => by
    injection e with e
    have hb0 : ad.block = ad'.block := by subst e; rfl
    exact HF.out ad rfl (by rw [List.length_cons]; omega) (by rw [hb0, hq]; exact hS)) _ KW.kept
  intro ad' e hn
  injection e with e
  have hb0 : ad.block = ad'.block := by subst e; rfl
  rw [← hb0]
  exact HF.out ad rfl (by rw [List.length_cons]; omega)
 have dn : (n == szQ p) = false := beq_eq_false_iff_ne.mpr hn
 have HE := aM (takQ_cases hn HT.out)
 clear hn
 go_upto_region 5 with ((go_at_call 73; refine (l3_size _ g p r S RS.out).mono ?_; rintro e w2 ⟨rfl, ⟨nd, rfl⟩⟩))
 have K1 := aM (K0.out.then_ (KeptB.of_below (pw_below_drewN (Below.refl _ _) nd) (fun _ => False)) (fun _ q => q.elim))
 have KG1 := aM (blk_drewN KG.out nd)
 have BR1 := aM (blk_drewN BR.out nd)
 have BQ1 := aM (blk_drewN BQ.out nd)
 clear K0 KG BR BQ RS
 generalize v1.drewN nd = v2 at K1 KG1 BR1 BQ1 ⊢
 have gg := (blk_cell KG1.out 0).trans (show _ = some (Value.slice (some ad) (r.length + 1) c) from rfl)
 go_upto_region 8 with (first | ((with_reducible refine gate_dst (N := 26) rfl ?_); refine Kd.R_lit k60 (w0 := v2) v2.heap.size 60 ?hg (N := 26) ?hd (xs := ([] : List S60)) (inner := []) (ok := fun k => v2.heap.size ≤ k) (okp := fun _ => False) ?hr ?hp (fun _ q => q.elim) (Nat.le_refl _) (Below.refl _ _) (Nat.le_refl _) (by simp) ?_; (case hd => rfl); (case hg => rfl); (case hr => exact aP21); (case hp => exact Reps.none _ _); intro vl u4 ho4 hb4 hg4_ hnew4_; clear hg4_ hnew4_; have HO4 := aM ho4; have HB4 := aM hb4; have g4 := (blk_cell (blk_below KG1.out hb4) 0).trans (show _ = some (Value.slice (some ad) (r.length + 1) c) from rfl); clear ho4 hb4) | ((with_reducible refine gate_dst (N := 31) rfl ?_); refine Kd.R_append_rows k60 (Rr := k60.K u4) (w0 := v2) v2.heap.size ?hg (.tmp 26) (.tmp 30) 26 60 (.agg #[.int .i64 0, .string ⟨#[]⟩, .string ⟨#[]⟩]) 40 ?ho Try.underlying26 Go.Proofs.Ytoagljlnfakgjaa.Mk.info53 rfl (show 0 < 3 by decide) (by decide) vl ([] : List S60) (p :: r) (some ad) (r.length + 1) c (fun k => v2.heap.size ≤ k) (fun _ => False) ?e1 ?e2 HO4.out ?hrow (fun x cs hx => by obtain rfl := k60_open hx; exact k60_mkM _ _ _ x) (fun _ q => q.elim) (fun k hk => Nat.le_trans HB4.out.size hk) HB4.out HB4.out.size ?hl ?_; (case hg => rfl); (case ho => rfl); (case e1 => rfl); (case e2 => rfl); (case hrow => exact Kd.C_foot_neS (S := fun _ => False) (fun h => h) HR.out (fun _ _ _ q => q) u4 (K1.out.kept.then_ (Kept.of_below HB4.out (fun _ => False)) (fun _ q => q.elim))); (case hl => have := HLN.out; simp only [List.length_nil]; omega); intro v5 u5 ho5 hb5 hg5_ hat5_; clear hg5_ hat5_ g4; have HO5 := aM ho5; have HB5 := aM hb5; clear ho5 hb5))
 have hR5 := R_cells HO5.out
 obtain ⟨h9, cap, e9⟩ := Go.Proofs.Ytoagljlnfakgjaa.Mk.own_some (show u5.ownsRow v2.heap.size 60 3 v5 (r.length + 1) (cellsQ (p :: r)) from hR5.2)
 subst e9
 have OW := aM (show u5.ownsRow v2.heap.size 60 3 (.slice (some ⟨h9, 0, none⟩) (r.length + 1) cap) (r.length + 1) (cellsQ (p :: r)) from hR5.2)
 have h9g : v2.heap.size ≤ h9 := hR5.1 h9 rfl
 have KG5 := aM (blk_below KG1.out HB5.out)
 have BR5 := aM (blk_below BR1.out HB5.out)
 have BQ5 := aM (blk_below BQ1.out HB5.out)
 have K5 := aM (K1.out.then_ (KeptB.of_below HB5.out (fun _ => False)) (fun _ q => q.elim))
 have z5 := K1.out.kept.1
 have h9w : w.heap.size ≤ h9 := Nat.le_trans z5 h9g
 have m1 : h9 ≠ gp := Nat.ne_of_gt (Nat.lt_of_lt_of_le (blk_lt BQ1.out) h9g)
 have m2 : gp ≠ h9 := m1.symm
 have m3 : h9 ≠ g := Nat.ne_of_gt (Nat.lt_of_lt_of_le (blk_lt KG1.out) h9g)
 have m4 : g ≠ h9 := m3.symm
 have m5 : h9 ≠ gr := Nat.ne_of_gt (Nat.lt_of_lt_of_le (blk_lt BR1.out) h9g)
 have m6 : gr ≠ h9 := m5.symm
 clear hR5 gg HO4 HB4 z5 K1 KG1 BR1 BQ1 HO5
 have hcase := HE.out
 refine Or.elim hcase ?A ?D
 case' D => intro hd; refine Or.elim hd ?C ?B
 case' A =>
  rintro ⟨hA, ex0, ey0⟩
  have cA : decide (0 < p.f0) = true := decide_eq_true hA
  have ex := aM ex0
  have ey := aM ey0
  clear hA ex0 ey0 hcase
  have j0 := (blk_cell BQ5.out 0).trans (show _ = some (Value.int .i64 p.f0) from rfl)
  have j1 := (blk_cell BQ5.out 1).trans (show _ = some (Value.string p.f1) from rfl)
  have j2 := (blk_cell BQ5.out 2).trans (show _ = some (Value.string p.f2) from rfl)
  have jf0 := blk_frozen BQ5.out 0
  have jf1 := blk_frozen BQ5.out 1
  have jf2 := blk_frozen BQ5.out 2
  have s0 := (blk_cell BR5.out 0).trans (show _ = some (Value.int .i64 0) from rfl)
  have s1 := (blk_cell BR5.out 1).trans (show _ = some (Value.string ⟨#[]⟩) from rfl)
  have s2 := (blk_cell BR5.out 2).trans (show _ = some (Value.string ⟨#[]⟩) from rfl)
  have r0 := blk_frozen BR5.out 0
  have r1 := blk_frozen BR5.out 1
  have r2 := blk_frozen BR5.out 2
  have gg := (blk_cell KG5.out 0).trans (show _ = some (Value.slice (some ad) (r.length + 1) c) from rfl)
  have gf := blk_frozen KG5.out 0
  obtain ⟨ow, of⟩ := Go.Proofs.Ytoagljlnfakgjaa.Mk.own_cell OW.out (show (cellsQ (p :: r))[0]? = some (Value.int .i64 p.f0) from rfl)
  go_wp2_with fail
  have B1 : (((u5.setCell ⟨h9, 0, none⟩ (.int .i64 (wrap64 (p.f0 - n)))).setCell ⟨gp, 0, none⟩ (.int .i64 n)).setCell ⟨g, 0, none⟩ (.slice (some ⟨h9, 0, none⟩) (r.length + 1) cap)).heap[g]? = some (.cells #[.slice (some ⟨h9, 0, none⟩) (r.length + 1) cap] 99 (0, 0)) := blk_put (cs' := #[.slice (some ⟨h9, 0, none⟩) (r.length + 1) cap]) (blk_far (blk_far KG5.out (p := ⟨h9, 0, none⟩) m4 (.int .i64 (wrap64 (p.f0 - n)))) (p := ⟨gp, 0, none⟩) n4 (.int .i64 n)) 0 (.slice (some ⟨h9, 0, none⟩) (r.length + 1) cap) rfl
  have BG := blk_far (blk_far (blk_far (B1) (p := ⟨gr, 0, none⟩) n2 (.int .i64 n)) (p := ⟨gr, 1, none⟩) n2 (.string p.f1)) (p := ⟨gr, 2, none⟩) n2 (.string p.f2)
  have BB := blk_put (cs' := #[.int .i64 n, .string p.f1, .string p.f2]) (blk_put (cs' := #[.int .i64 n, .string p.f1, .string (⟨#[]⟩ : ByteArray)]) (blk_put (cs' := #[.int .i64 n, .string (⟨#[]⟩ : ByteArray), .string (⟨#[]⟩ : ByteArray)]) (blk_far (blk_far (blk_far BR5.out (p := ⟨h9, 0, none⟩) m6 (.int .i64 (wrap64 (p.f0 - n)))) (p := ⟨gp, 0, none⟩) n6 (.int .i64 n)) (p := ⟨g, 0, none⟩) n1 (.slice (some ⟨h9, 0, none⟩) (r.length + 1) cap)) 0 (.int .i64 n) rfl) 1 (.string p.f1) rfl) 2 (.string p.f2) rfl
  have KW := (((((((K5.out.mono (S' := fun k => k = g) (fun _ q => q.elim)).setCell (p := ⟨h9, 0, none⟩) (.inr h9w) (.int .i64 (wrap64 (p.f0 - n)))).setCell (p := ⟨gp, 0, none⟩) (.inr hgp) (.int .i64 n)).setCell (p := ⟨g, 0, none⟩) (.inl rfl) (.slice (some ⟨h9, 0, none⟩) (r.length + 1) cap))).setCell (p := ⟨gr, 0, none⟩) (.inr hgr) (.int .i64 n)).setCell (p := ⟨gr, 1, none⟩) (.inr hgr) (.string p.f1)).setCell (p := ⟨gr, 2, none⟩) (.inr hgr) (.string p.f2)
  have ne : ∀ k, k ≠ h9 → (Value.slice (some ⟨h9, 0, none⟩) (r.length + 1) cap).ownBlock ≠ some k := fun k hk => ne_own hk
  have OWf := Go.Proofs.Ytoagljlnfakgjaa.Mk.own_set (Go.Proofs.Ytoagljlnfakgjaa.Mk.own_set (Go.Proofs.Ytoagljlnfakgjaa.Mk.own_set (Go.Proofs.Ytoagljlnfakgjaa.Mk.own_set (Go.Proofs.Ytoagljlnfakgjaa.Mk.own_set (Go.Proofs.Ytoagljlnfakgjaa.Mk.own_setAt OW.out (j := 0) (by omega) (.int .i64 (wrap64 (p.f0 - n)))) (ne gp m2) 0 (.int .i64 n)) (ne g m4) 0 (.slice (some ⟨h9, 0, none⟩) (r.length + 1) cap)) (ne gr m6) 0 (.int .i64 n)) (ne gr m6) 1 (.string p.f1)) (ne gr m6) 2 (.string p.f2)
  rw [cellsQ_set0] at OWf
  refine bodyPost_ret (results_cell_row rfl _ _ gr 60 #[.int .i64 n, .string p.f1, .string p.f2] (0, 0) _ rfl BB Try.underlying60 rfl (by kernel_rfl)) rfl ?_
  obtain rfl := ex.out
  obtain rfl := ey.out
  obtain ⟨_, hcap, hreads⟩ := Kd.R_reads' (R_cells' (l := ⟨wrap64 (p.f0 - n), p.f1, p.f2⟩ :: r) (ok := fun _ => True) (fun _ _ => trivial) OWf)
  refine ⟨rfl, ⟨some ⟨h9, 0, none⟩, cap, BG, hcap, hreads, ?_⟩, KW⟩
  exact fun ad' e _ hs9 => far_block e h9w (HSB.out _ hs9)
 case' C =>
  rintro ⟨hA, hB, ⟨hn0, hn1⟩, ex0, ey0⟩
  have cA : decide (0 < p.f0) = false := decide_eq_false (by omega)
  have ex := aM ex0
  have ey := aM ey0
  have g0 := eq_true hn0
  have g1 := eq_true hn1
  have cB0 : (p.f1.toList == ([] : List UInt8)) = true := beq_iff_eq.mpr hB
  have cB1 : (p.f1.toList != ([] : List UInt8)) = false := bne_eq_false_iff_eq.mpr hB
  have cB2 : p.f1.toList.isEmpty = true := List.isEmpty_iff.mpr hB
  clear hA hB hn0 hn1 ex0 ey0 hcase hd
  have j0 := (blk_cell BQ5.out 0).trans (show _ = some (Value.int .i64 p.f0) from rfl)
  have j1 := (blk_cell BQ5.out 1).trans (show _ = some (Value.string p.f1) from rfl)
  have j2 := (blk_cell BQ5.out 2).trans (show _ = some (Value.string p.f2) from rfl)
  have jf0 := blk_frozen BQ5.out 0
  have jf1 := blk_frozen BQ5.out 1
  have jf2 := blk_frozen BQ5.out 2
  have s0 := (blk_cell BR5.out 0).trans (show _ = some (Value.int .i64 0) from rfl)
  have s1 := (blk_cell BR5.out 1).trans (show _ = some (Value.string ⟨#[]⟩) from rfl)
  have s2 := (blk_cell BR5.out 2).trans (show _ = some (Value.string ⟨#[]⟩) from rfl)
  have r0 := blk_frozen BR5.out 0
  have r1 := blk_frozen BR5.out 1
  have r2 := blk_frozen BR5.out 2
  have gg := (blk_cell KG5.out 0).trans (show _ = some (Value.slice (some ad) (r.length + 1) c) from rfl)
  have gf := blk_frozen KG5.out 0
  obtain ⟨ow, of⟩ := Go.Proofs.Ytoagljlnfakgjaa.Mk.own_cell OW.out (show (cellsQ (p :: r))[2]? = some (Value.string p.f2) from rfl)
  go_wp2_with fail
  have B1 : (((u5.setCell ⟨h9, 2, none⟩ (.string (p.f2.extract n.toNat p.f2.size))).setCell ⟨gp, 2, none⟩ (.string (p.f2.extract 0 n.toNat))).setCell ⟨g, 0, none⟩ (.slice (some ⟨h9, 0, none⟩) (r.length + 1) cap)).heap[g]? = some (.cells #[.slice (some ⟨h9, 0, none⟩) (r.length + 1) cap] 99 (0, 0)) := blk_put (cs' := #[.slice (some ⟨h9, 0, none⟩) (r.length + 1) cap]) (blk_far (blk_far KG5.out (p := ⟨h9, 2, none⟩) m4 (.string (p.f2.extract n.toNat p.f2.size))) (p := ⟨gp, 2, none⟩) n4 (.string (p.f2.extract 0 n.toNat))) 0 (.slice (some ⟨h9, 0, none⟩) (r.length + 1) cap) rfl
  have BG := blk_far (blk_far (blk_far (B1) (p := ⟨gr, 0, none⟩) n2 (.int .i64 p.f0)) (p := ⟨gr, 1, none⟩) n2 (.string p.f1)) (p := ⟨gr, 2, none⟩) n2 (.string (p.f2.extract 0 n.toNat))
  have BB := blk_put (cs' := #[.int .i64 p.f0, .string p.f1, .string (p.f2.extract 0 n.toNat)]) (blk_put (cs' := #[.int .i64 p.f0, .string p.f1, .string (⟨#[]⟩ : ByteArray)]) (blk_put (cs' := #[.int .i64 p.f0, .string (⟨#[]⟩ : ByteArray), .string (⟨#[]⟩ : ByteArray)]) (blk_far (blk_far (blk_far BR5.out (p := ⟨h9, 2, none⟩) m6 (.string (p.f2.extract n.toNat p.f2.size))) (p := ⟨gp, 2, none⟩) n6 (.string (p.f2.extract 0 n.toNat))) (p := ⟨g, 0, none⟩) n1 (.slice (some ⟨h9, 0, none⟩) (r.length + 1) cap)) 0 (.int .i64 p.f0) rfl) 1 (.string p.f1) rfl) 2 (.string (p.f2.extract 0 n.toNat)) rfl
  have KW := (((((((K5.out.mono (S' := fun k => k = g) (fun _ q => q.elim)).setCell (p := ⟨h9, 2, none⟩) (.inr h9w) (.string (p.f2.extract n.toNat p.f2.size))).setCell (p := ⟨gp, 2, none⟩) (.inr hgp) (.string (p.f2.extract 0 n.toNat))).setCell (p := ⟨g, 0, none⟩) (.inl rfl) (.slice (some ⟨h9, 0, none⟩) (r.length + 1) cap))).setCell (p := ⟨gr, 0, none⟩) (.inr hgr) (.int .i64 p.f0)).setCell (p := ⟨gr, 1, none⟩) (.inr hgr) (.string p.f1)).setCell (p := ⟨gr, 2, none⟩) (.inr hgr) (.string (p.f2.extract 0 n.toNat))
  have ne : ∀ k, k ≠ h9 → (Value.slice (some ⟨h9, 0, none⟩) (r.length + 1) cap).ownBlock ≠ some k := fun k hk => ne_own hk
  have OWf := Go.Proofs.Ytoagljlnfakgjaa.Mk.own_set (Go.Proofs.Ytoagljlnfakgjaa.Mk.own_set (Go.Proofs.Ytoagljlnfakgjaa.Mk.own_set (Go.Proofs.Ytoagljlnfakgjaa.Mk.own_set (Go.Proofs.Ytoagljlnfakgjaa.Mk.own_set (Go.Proofs.Ytoagljlnfakgjaa.Mk.own_setAt OW.out (j := 2) (by omega) (.string (p.f2.extract n.toNat p.f2.size))) (ne gp m2) 2 (.string (p.f2.extract 0 n.toNat))) (ne g m4) 0 (.slice (some ⟨h9, 0, none⟩) (r.length + 1) cap)) (ne gr m6) 0 (.int .i64 p.f0)) (ne gr m6) 1 (.string p.f1)) (ne gr m6) 2 (.string (p.f2.extract 0 n.toNat))
  rw [cellsQ_set2] at OWf
  refine bodyPost_ret (results_cell_row rfl _ _ gr 60 #[.int .i64 p.f0, .string p.f1, .string (p.f2.extract 0 n.toNat)] (0, 0) _ rfl BB Try.underlying60 rfl (by kernel_rfl)) rfl ?_
  obtain rfl := ex.out
  obtain rfl := ey.out
  obtain ⟨_, hcap, hreads⟩ := Kd.R_reads' (R_cells' (l := ⟨p.f0, p.f1, p.f2.extract n.toNat p.f2.size⟩ :: r) (ok := fun _ => True) (fun _ _ => trivial) OWf)
  refine ⟨rfl, ⟨some ⟨h9, 0, none⟩, cap, BG, hcap, hreads, ?_⟩, KW⟩
  exact fun ad' e _ hs9 => far_block e h9w (HSB.out _ hs9)
 case' B =>
  rintro ⟨hA, hB, ⟨hn0, hn1⟩, ex0, ey0⟩
  have cA : decide (0 < p.f0) = false := decide_eq_false (by omega)
  have ex := aM ex0
  have ey := aM ey0
  have g0 := eq_true hn0
  have g1 := eq_true hn1
  have cB0 : (p.f1.toList == ([] : List UInt8)) = false := beq_eq_false_iff_ne.mpr hB
  have cB1 : (p.f1.toList != ([] : List UInt8)) = true := bne_iff_ne.mpr hB
  have cB2 : p.f1.toList.isEmpty = false := List.isEmpty_eq_false_iff.mpr hB
  clear hA hB hn0 hn1 ex0 ey0 hcase hd
  have j0 := (blk_cell BQ5.out 0).trans (show _ = some (Value.int .i64 p.f0) from rfl)
  have j1 := (blk_cell BQ5.out 1).trans (show _ = some (Value.string p.f1) from rfl)
  have j2 := (blk_cell BQ5.out 2).trans (show _ = some (Value.string p.f2) from rfl)
  have jf0 := blk_frozen BQ5.out 0
  have jf1 := blk_frozen BQ5.out 1
  have jf2 := blk_frozen BQ5.out 2
  have s0 := (blk_cell BR5.out 0).trans (show _ = some (Value.int .i64 0) from rfl)
  have s1 := (blk_cell BR5.out 1).trans (show _ = some (Value.string ⟨#[]⟩) from rfl)
  have s2 := (blk_cell BR5.out 2).trans (show _ = some (Value.string ⟨#[]⟩) from rfl)
  have r0 := blk_frozen BR5.out 0
  have r1 := blk_frozen BR5.out 1
  have r2 := blk_frozen BR5.out 2
  have gg := (blk_cell KG5.out 0).trans (show _ = some (Value.slice (some ad) (r.length + 1) c) from rfl)
  have gf := blk_frozen KG5.out 0
  obtain ⟨ow, of⟩ := Go.Proofs.Ytoagljlnfakgjaa.Mk.own_cell OW.out (show (cellsQ (p :: r))[1]? = some (Value.string p.f1) from rfl)
  go_wp2_with fail
  have B1 : (((u5.setCell ⟨h9, 1, none⟩ (.string (p.f1.extract n.toNat p.f1.size))).setCell ⟨gp, 1, none⟩ (.string (p.f1.extract 0 n.toNat))).setCell ⟨g, 0, none⟩ (.slice (some ⟨h9, 0, none⟩) (r.length + 1) cap)).heap[g]? = some (.cells #[.slice (some ⟨h9, 0, none⟩) (r.length + 1) cap] 99 (0, 0)) := blk_put (cs' := #[.slice (some ⟨h9, 0, none⟩) (r.length + 1) cap]) (blk_far (blk_far KG5.out (p := ⟨h9, 1, none⟩) m4 (.string (p.f1.extract n.toNat p.f1.size))) (p := ⟨gp, 1, none⟩) n4 (.string (p.f1.extract 0 n.toNat))) 0 (.slice (some ⟨h9, 0, none⟩) (r.length + 1) cap) rfl
  have BG := blk_far (blk_far (blk_far (B1) (p := ⟨gr, 0, none⟩) n2 (.int .i64 p.f0)) (p := ⟨gr, 1, none⟩) n2 (.string (p.f1.extract 0 n.toNat))) (p := ⟨gr, 2, none⟩) n2 (.string p.f2)
  have BB := blk_put (cs' := #[.int .i64 p.f0, .string (p.f1.extract 0 n.toNat), .string p.f2]) (blk_put (cs' := #[.int .i64 p.f0, .string (p.f1.extract 0 n.toNat), .string (⟨#[]⟩ : ByteArray)]) (blk_put (cs' := #[.int .i64 p.f0, .string (⟨#[]⟩ : ByteArray), .string (⟨#[]⟩ : ByteArray)]) (blk_far (blk_far (blk_far BR5.out (p := ⟨h9, 1, none⟩) m6 (.string (p.f1.extract n.toNat p.f1.size))) (p := ⟨gp, 1, none⟩) n6 (.string (p.f1.extract 0 n.toNat))) (p := ⟨g, 0, none⟩) n1 (.slice (some ⟨h9, 0, none⟩) (r.length + 1) cap)) 0 (.int .i64 p.f0) rfl) 1 (.string (p.f1.extract 0 n.toNat)) rfl) 2 (.string p.f2) rfl
  have KW := (((((((K5.out.mono (S' := fun k => k = g) (fun _ q => q.elim)).setCell (p := ⟨h9, 1, none⟩) (.inr h9w) (.string (p.f1.extract n.toNat p.f1.size))).setCell (p := ⟨gp, 1, none⟩) (.inr hgp) (.string (p.f1.extract 0 n.toNat))).setCell (p := ⟨g, 0, none⟩) (.inl rfl) (.slice (some ⟨h9, 0, none⟩) (r.length + 1) cap))).setCell (p := ⟨gr, 0, none⟩) (.inr hgr) (.int .i64 p.f0)).setCell (p := ⟨gr, 1, none⟩) (.inr hgr) (.string (p.f1.extract 0 n.toNat))).setCell (p := ⟨gr, 2, none⟩) (.inr hgr) (.string p.f2)
  have ne : ∀ k, k ≠ h9 → (Value.slice (some ⟨h9, 0, none⟩) (r.length + 1) cap).ownBlock ≠ some k := fun k hk => ne_own hk
  have OWf := Go.Proofs.Ytoagljlnfakgjaa.Mk.own_set (Go.Proofs.Ytoagljlnfakgjaa.Mk.own_set (Go.Proofs.Ytoagljlnfakgjaa.Mk.own_set (Go.Proofs.Ytoagljlnfakgjaa.Mk.own_set (Go.Proofs.Ytoagljlnfakgjaa.Mk.own_set (Go.Proofs.Ytoagljlnfakgjaa.Mk.own_setAt OW.out (j := 1) (by omega) (.string (p.f1.extract n.toNat p.f1.size))) (ne gp m2) 1 (.string (p.f1.extract 0 n.toNat))) (ne g m4) 0 (.slice (some ⟨h9, 0, none⟩) (r.length + 1) cap)) (ne gr m6) 0 (.int .i64 p.f0)) (ne gr m6) 1 (.string (p.f1.extract 0 n.toNat))) (ne gr m6) 2 (.string p.f2)
  rw [cellsQ_set1] at OWf
  refine bodyPost_ret (results_cell_row rfl _ _ gr 60 #[.int .i64 p.f0, .string (p.f1.extract 0 n.toNat), .string p.f2] (0, 0) _ rfl BB Try.underlying60 rfl (by kernel_rfl)) rfl ?_
  obtain rfl := ex.out
  obtain rfl := ey.out
  obtain ⟨_, hcap, hreads⟩ := Kd.R_reads' (R_cells' (l := ⟨p.f0, p.f1.extract n.toNat p.f1.size, p.f2⟩ :: r) (ok := fun _ => True) (fun _ _ => trivial) OWf)
  refine ⟨rfl, ⟨some ⟨h9, 0, none⟩, cap, BG, hcap, hreads, ?_⟩, KW⟩
  exact fun ad' e _ hs9 => far_block e h9w (HSB.out _ hs9)
theorem takQ_all (p : S60) (r : List S60) : takQ (p :: r) (szQ p) = some (p, r) := by
 unfold takQ
 dsimp only
 rw [if_pos rfl]
theorem IsL3.low {w : World} {g : Nat} {l : List S60} {S : Nat → Prop} (h : IsL3 w g l S) : ∃ (A : Option Addr) (c : Nat), w.heap[g]? = some (.cells #[.slice A l.length c] 99 (0, 0)) ∧ l.length ≤ c ∧ Kd.C k60 w A l.length l ∧ (∀ ad, A = some ad → 0 < l.length → ¬ S ad.block ∧ ad.block < w.heap.size) := by
 obtain ⟨A, c, h1, h2, h3, h4⟩ := h
 refine ⟨A, c, h1, h2, h3, fun ad e hn => ⟨h4 ad e hn, ?_⟩⟩
 obtain ⟨ad', e3, hx0, _, _⟩ := at_T60 h3 0 (Int.le_refl _) (by omega)
 rw [e] at e3
 obtain rfl := Option.some.inj e3
 rw [show ((0 : Int)).toNat = 0 from rfl, show 0 * 3 = 0 from rfl, Addr.add_zero'] at hx0
 exact World.block_lt_of_cell? w _ hx0
theorem IsL3.next {w w' : World} {g : Nat} {l : List S60} {S P S' : Nat → Prop} (h : IsL3 w g l S) (hk : Kept w w' P) (hP : ∀ k, P k → S k) (hg : ¬ P g) (hs : ∀ k, S' k → S k ∨ w.heap.size ≤ k) : IsL3 w' g l S' := by
 obtain ⟨A, c, h1, h2, h3, h4⟩ := h.low
 refine ⟨A, c, blk_kept h1 hk hg, h2, ?_, fun ad e hn q => ?_⟩
 rotate_left
 ·obtain ⟨a1, a2⟩ := h4 ad e hn
  rcases hs _ q with q | q
  rotate_left
  ·omega
  exact a1 q
 exact Kd.C_foot_neS (S := P) (fun h => h) h3 (fun ad e hn hq => (h4 ad e hn).1 (hP _ hq)) w' hk
theorem l3_done_nil (w : World) (g : Nat) (S : Nat → Prop) (h : IsL3 w g [] S) : Calls Try.prog 71 #[.pointer (some ⟨g, 0, none⟩)] w fun e w' => e = .returned (.bool true) ∧ w = w' := l3_done w g [] S h
theorem l3_done_cons (w : World) (g : Nat) (p : S60) (l : List S60) (S : Nat → Prop) (h : IsL3 w g (p :: l) S) : Calls Try.prog 71 #[.pointer (some ⟨g, 0, none⟩)] w fun e w' => e = .returned (.bool false) ∧ w = w' := by
 refine (l3_done w g (p :: l) S h).mono ?_
 rintro e w' ⟨rfl, rfl⟩
 refine ⟨?_, rfl⟩
 rw [show (((p :: l).length : Int) == 0) = false from beq_eq_false_iff_ne.mpr (by rw [List.length_cons]; omega)]
theorem blk3 {w : World} {g : Nat} (h : w.heap[g]? = some (.cells #[.int .i64 0, .string (⟨#[]⟩ : ByteArray), .string (⟨#[]⟩ : ByteArray)] 60 (0, 0))) (a : Int) (b c : ByteArray) : (((w.setCell ⟨g, 0, none⟩ (.int .i64 a)).setCell ⟨g, 1, none⟩ (.string b)).setCell ⟨g, 2, none⟩ (.string c)).heap[g]? = some (.cells #[.int .i64 a, .string b, .string c] 60 (0, 0)) :=
 blk_put (cs' := #[.int .i64 a, .string b, .string c]) (blk_put (cs' := #[.int .i64 a, .string b, .string (⟨#[]⟩ : ByteArray)]) (blk_put (cs' := #[.int .i64 a, .string (⟨#[]⟩ : ByteArray), .string (⟨#[]⟩ : ByteArray)]) h 0 (.int .i64 a) rfl) 1 (.string b) rfl) 2 (.string c) rfl
theorem takQ_len {p x : S60} {r l' : List S60} {n : Int} (h : takQ (p :: r) n = some (x, l')) : l'.length ≤ (p :: r).length := by
 by_cases hn : n = szQ p
 rotate_left
 ·rcases takQ_cases hn h with h | h | h
  ·rw [h.2.2]; simp
  ·rw [h.2.2.2.2]; simp
  rw [h.2.2.2.2]; simp
 unfold takQ at h
 dsimp only at h
 rw [if_pos hn] at h
 simp only [Option.some.injEq, Prod.mk.injEq] at h
 rw [← h.2, List.length_cons]; omega
theorem ba_inj {a b : ByteArray} (h : a.toList = b.toList) : a = b := by
 rw [ByteArray.toList_eq, ByteArray.toList_eq] at h
 exact ByteArray.ext (Array.toList_inj.1 h)
end Go.Proofs.Ytoagljlnfakgjaa.PFnOver
