/- (thin) Written by a program of this session (wip/ovl.py) over the kit's print. -/
import Derived.Test.YtoagljlnfakgjaaMk
import Derived.Test.YtoagljlnfakgjaaWKept
import Derived.Test.YtoagljlnfakgjaaWTab
import Derived.Test.YtoagljlnfakgjaaPFnDiamondx0
import Derived.Test.YtoagljlnfakgjaaPFnDiamondx8
import Derived.Test.YtoagljlnfakgjaaPFnDiamondx10
namespace Go.Proofs.Ytoagljlnfakgjaa.PFnDiamond
open Go.RowKit Go.Proofs.YtoagljlnfakgjaaW.PrintWords Go.Proofs.YtoagljlnfakgjaaW.PrintLast Go.Proofs.YtoagljlnfakgjaaW.PrintMore
attribute [local go_sem] max2_int min2_int max_two min_two max_three min_three max_four min_four
set_option linter.unusedVariables false
set_option linter.unusedSimpArgs false
-- import Mk
-- import WKept
-- import WTab
def cutP (p : S60) (n : Int) : Option (S60 × S60) :=
 if 0 < p.f0 then some (⟨n, p.f1, p.f2⟩, ⟨wrap64 (p.f0 - n), p.f1, p.f2⟩)
 else if p.f1.toList = ([] : List UInt8) then (if 0 ≤ n ∧ n ≤ (p.f2.size : Int) then some (⟨p.f0, p.f1, p.f2.extract 0 n.toNat⟩, ⟨p.f0, p.f1, p.f2.extract n.toNat p.f2.size⟩) else none)
 else (if 0 ≤ n ∧ n ≤ (p.f1.size : Int) then some (⟨p.f0, p.f1.extract 0 n.toNat, p.f2⟩, ⟨p.f0, p.f1.extract n.toNat p.f1.size, p.f2⟩) else none)
def zeroP (p : S60) : Bool := p.f0 == 0 && (p.f1.toList == ([] : List UInt8) && p.f2.toList == ([] : List UInt8))
theorem cutP_cases {p x y : S60} {n : Int} (h : cutP p n = some (x, y)) : (0 < p.f0 ∧ x = ⟨n, p.f1, p.f2⟩ ∧ y = ⟨wrap64 (p.f0 - n), p.f1, p.f2⟩) ∨ ((¬ 0 < p.f0 ∧ p.f1.toList = ([] : List UInt8) ∧ (0 ≤ n ∧ n ≤ (p.f2.size : Int)) ∧ x = ⟨p.f0, p.f1, p.f2.extract 0 n.toNat⟩ ∧ y = ⟨p.f0, p.f1, p.f2.extract n.toNat p.f2.size⟩) ∨ (¬ 0 < p.f0 ∧ ¬ p.f1.toList = ([] : List UInt8) ∧ (0 ≤ n ∧ n ≤ (p.f1.size : Int)) ∧ x = ⟨p.f0, p.f1.extract 0 n.toNat, p.f2⟩ ∧ y = ⟨p.f0, p.f1.extract n.toNat p.f1.size, p.f2⟩)) := by
 unfold cutP at h
 by_cases hA : 0 < p.f0
 ·rw [if_pos hA] at h; simp only [Option.some.injEq, Prod.mk.injEq] at h; exact .inl ⟨hA, h.1.symm, h.2.symm⟩
 rw [if_neg hA] at h
 by_cases hB : p.f1.toList = ([] : List UInt8)
 ·rw [if_pos hB] at h
  by_cases hn : 0 ≤ n ∧ n ≤ (p.f2.size : Int)
  rotate_left
  ·rw [if_neg hn] at h; cases h
  rw [if_pos hn] at h; simp only [Option.some.injEq, Prod.mk.injEq] at h; exact .inr (.inl ⟨hA, hB, hn, h.1.symm, h.2.symm⟩)
 rw [if_neg hB] at h
 by_cases hn : 0 ≤ n ∧ n ≤ (p.f1.size : Int)
 rotate_left
 ·rw [if_neg hn] at h; cases h
 rw [if_pos hn] at h; simp only [Option.some.injEq, Prod.mk.injEq] at h; exact .inr (.inr ⟨hA, hB, hn, h.1.symm, h.2.symm⟩)
def restP (y : S60) (r : List S60) : List S60 := if zeroP y = true then r else y :: r
set_option maxHeartbeats 16000000 in
set_option maxRecDepth 100000 in
theorem rd_cut (w : World) (g : Nat) (p : S60) (r : List S60) (S : Nat → Prop) (n : Int) (x y : S60) (h : IsRd w g (p :: r) S) (hS : S g) (hSb : ∀ k, S k → k < w.heap.size) (hlen : r.length ≤ 1000) (hcut : cutP p n = some (x, y)) :
  Calls Try.prog 50 #[.pointer (some ⟨g, 0, none⟩), .int .i64 n] w fun e w' => e = .returned (.agg #[.int .i64 x.f0, .string x.f1, .string x.f2]) ∧ IsRd w' g (restP y r) S ∧ KeptB w w' (fun k => k = g) := by
 have hu53 := Try.underlying60
 have hu72 := Try.underlying68
 have RD := aM h
 obtain ⟨A, c, hk, hc, hr, hf⟩ := h
 have gw := blk_lt hk
 have KB := aM hk
 have HR := aM hr
 have HC := aM hc
 have HF := aM hf
 have HSB := aM hSb
 have HLN := aM hlen
 have HCUT := aM hcut
 have hln : (p :: r).length = r.length + 1 := rfl
 rw [hln] at KB
 have HN := aM (show r.length + 1 ≤ c from hc)
 clear hk hr hc hf hln hSb hcut hlen
 have hHd : hdP (p :: r) = p := rfl
 go_enter Try.func50, Try.ntmps50
 go_wp2_with (first | ((with_reducible refine gate_dst (N := 4) rfl ?_); refine box_event rfl (N := 4) rfl (cs := #[.int .i64 0, .string ⟨#[]⟩, .string ⟨#[]⟩]) (t := 60) aP38 ?_; intro gr hg_ w1 hbox hb; have RD1 := aM (RD.out.below hb); have KB1 := aM (blk_below KB.out hb); have HB1 := aM hb; have BR1 := aM hbox; have GR := aM hg_; clear hb hbox hg_) | (go_at_call 45; with_reducible refine (rd_head _ g (p :: r) S RD1.out).mono ?_; rw [hHd]; rintro e w2 ⟨rfl, hb2⟩; have KB2 := aM (blk_below KB1.out hb2); have HB2 := aM hb2; have BR2 := aM (blk_below BR1.out hb2); clear hb2) | ((with_reducible refine gate_dst (N := 5) rfl ?_); refine box_event rfl (N := 5) rfl (cs := #[.int .i64 0, .string ⟨#[]⟩, .string ⟨#[]⟩]) (t := 60) aP38 ?_; intro gp hg_ w3 hbox hb; have KB3 := aM (blk_below KB2.out hb); have BR3 := aM (blk_below BR2.out hb); have HB3 := aM hb; have BP := aM hbox; have GP := aM hg_; obtain ⟨y0, y1, y2, f0, f1, f2⟩ := bx3 hbox; clear hb hbox hg_))
 have hgr : w.heap.size ≤ gr := Nat.le_of_eq GR.out.symm
 have z1 := HB1.out.size
 have z2 := HB2.out.size
 have hgp : w.heap.size ≤ gp := by rw [GP.out]; omega
 have n1 : gr ≠ g := by rw [GR.out]; exact Nat.ne_of_gt gw
 have n2 : g ≠ gr := by rw [GR.out]; exact Nat.ne_of_lt gw
 have n3 : gp ≠ g := by rw [GP.out]; exact Nat.ne_of_gt (blk_lt KB2.out)
 have n4 : g ≠ gp := by rw [GP.out]; exact Nat.ne_of_lt (blk_lt KB2.out)
 have n5 : gp ≠ gr := by rw [GP.out]; exact Nat.ne_of_gt (blk_lt BR2.out)
 have n6 : gr ≠ gp := by rw [GP.out]; exact Nat.ne_of_lt (blk_lt BR2.out)
 have k3 : KeptB w w3 (fun k => k = g) := ((KeptB.of_below HB1.out (fun k => k = g)).then_ (KeptB.of_below HB2.out (fun _ => False)) (fun _ q => q.elim)).then_ (KeptB.of_below HB3.out (fun _ => False)) (fun _ q => q.elim)
 have KW := aM ((((k3).setCell (p := ⟨gp, 0, none⟩) (.inr hgp) (.int .i64 p.f0)).setCell (p := ⟨gp, 1, none⟩) (.inr hgp) (.string p.f1)).setCell (p := ⟨gp, 2, none⟩) (.inr hgp) (.string p.f2))
 have KG := aM (blk_far (blk_far (blk_far (KB3.out) (p := ⟨gp, 0, none⟩) n4 (.int .i64 p.f0)) (p := ⟨gp, 1, none⟩) n4 (.string p.f1)) (p := ⟨gp, 2, none⟩) n4 (.string p.f2))
 have BR := aM (blk_far (blk_far (blk_far (BR3.out) (p := ⟨gp, 0, none⟩) n6 (.int .i64 p.f0)) (p := ⟨gp, 1, none⟩) n6 (.string p.f1)) (p := ⟨gp, 2, none⟩) n6 (.string p.f2))
 have BQ := aM (blk_put (cs' := #[.int .i64 p.f0, .string p.f1, .string p.f2]) (blk_put (cs' := #[.int .i64 p.f0, .string p.f1, .string ⟨#[]⟩]) (blk_put (cs' := #[.int .i64 p.f0, .string ⟨#[]⟩, .string ⟨#[]⟩]) (BP.out) 0 (.int .i64 p.f0) rfl) 1 (.string p.f1) rfl) 2 (.string p.f2) rfl)
 clear RD1 KB1 HB1 BR1 KB2 HB2 BR2 KB3 BR3 HB3 BP k3 z1 z2 y0 y1 y2 f0 f1 f2
 generalize (((w3).setCell ⟨gp, 0, none⟩ (.int .i64 p.f0)).setCell ⟨gp, 1, none⟩ (.string p.f1)).setCell ⟨gp, 2, none⟩ (.string p.f2) = v1 at KW KG BR BQ ⊢
 refine start_ (n := 6) (S := fun w' => w'.cell? ⟨gp, 0, none⟩ = some (.int .i64 p.f0) ∧ w'.cell? ⟨gp, 1, none⟩ = some (.string p.f1) ∧ w'.cell? ⟨gp, 2, none⟩ = some (.string p.f2)) (ds := [5]) (Array.replicate 6 false) (by kernel_rfl) rfl rfl ⟨(blk_cell (blk_drew BQ.out) 0).trans rfl, (blk_cell (blk_drew BQ.out) 1).trans rfl, (blk_cell (blk_drew BQ.out) 2).trans rfl⟩ (fun hHeld => ?_)
 refine tW3 0 10 (bN 6 1) ?_
 refine tW3 1 11 (bN 6 3) ?_
 refine join_ (σ := Nat × Nat) 2 (bN 6 15) (fun s_ => [(6, .pointer (some ⟨s_.1, 0, none⟩)), (7, .pointer (some ⟨s_.2, 0, none⟩))]) (fun s_ w' => w'.heap[s_.1]? = some (.cells #[.int .i64 0, .string ⟨#[]⟩, .string ⟨#[]⟩] 60 (0, 0)) ∧ w'.heap[s_.2]? = some (.cells #[.int .i64 0, .string ⟨#[]⟩, .string ⟨#[]⟩] 60 (0, 0)) ∧ s_.1 ≠ s_.2 ∧ v1.drew.heap.size ≤ s_.1 ∧ v1.drew.heap.size ≤ s_.2 ∧ Below v1.drew.heap.size v1.drew w') ?_ ?_
 rotate_left
 ·intro hCont
  refine two_ (i := 2) (j := 3) (Ni := some 6) (Nj := some 7) (bN 6 7) (bN 6 11) rfl rfl rfl rfl (by kernel_rfl) (by decide) (by decide) (fun K hK => ?_) (fun K hK => ?_)
  ·skip
   refine value_ (w1 := ?_) (v := ?_) (by rfl) rfl ?_ ?_
   rotate_left 2
   ·go_simp
    constructor
    ·rfl
    rfl
   refine hK.out _ _ ⟨pw_cell_below (below_alloc (Below.refl _ _) _) hHeld.1, pw_cell_below (below_alloc (Below.refl _ _) _) hHeld.2.1, pw_cell_below (below_alloc (Below.refl _ _) _) hHeld.2.2⟩ (fun hHeld => ?_)
   clear hK K
   refine norm_ (a' := ?_) ?_ ?_
   rotate_left
   ·show Act.put _ (some 6) _ = _
    simp only [Act.put, List.setIfInBounds_toArray, List.set_cons_zero, List.set_cons_succ, i64_w, i32_w]
    rfl
   refine one_ (i := 3) (N := some 7) (bN 6 15) rfl rfl (by kernel_rfl) (by decide) (fun K hK => ?_)
   refine value_ (w1 := ?_) (v := ?_) (by rfl) rfl ?_ ?_
   rotate_left 2
   ·go_simp
    constructor
    ·rfl
    rfl
   refine hK.out _ _ ⟨pw_cell_below (below_alloc (Below.refl _ _) _) hHeld.1, pw_cell_below (below_alloc (Below.refl _ _) _) hHeld.2.1, pw_cell_below (below_alloc (Below.refl _ _) _) hHeld.2.2⟩ (fun hHeld => ?_)
   clear hK K
   refine norm_ (a' := ?_) ?_ ?_
   rotate_left
   ·show Act.put _ (some 7) _ = _
    simp only [Act.put, List.setIfInBounds_toArray, List.set_cons_zero, List.set_cons_succ, i64_w, i32_w]
    rfl
   exact norm_ (by simp only [putAll, Act.put, List.setIfInBounds_toArray, List.set_cons_zero, List.set_cons_succ]) (hCont (v1.heap.size, v1.heap.size + 1) _ ⟨(Below.heap_alloc (v1.drew.alloc (.cells #[.int .i64 0, .string ⟨#[]⟩, .string ⟨#[]⟩] 60)) (.cells #[.int .i64 0, .string ⟨#[]⟩, .string ⟨#[]⟩] 60) v1.drew.heap.size (by simp)).trans (heap_alloc_new v1.drew (.cells #[.int .i64 0, .string ⟨#[]⟩, .string ⟨#[]⟩] 60)), (by have h_ := heap_alloc_new (v1.drew.alloc (.cells #[.int .i64 0, .string ⟨#[]⟩, .string ⟨#[]⟩] 60)) (.cells #[.int .i64 0, .string ⟨#[]⟩, .string ⟨#[]⟩] 60); rw [show (v1.drew.alloc (.cells #[.int .i64 0, .string ⟨#[]⟩, .string ⟨#[]⟩] 60)).heap.size = v1.heap.size + 1 by simp] at h_; exact h_), Nat.ne_of_lt (Nat.lt_succ_self _), Nat.le_refl _, Nat.le_succ _, below_alloc (below_alloc (Below.refl _ _) _) _⟩)
  skip
  refine value_ (w1 := ?_) (v := ?_) (by rfl) rfl ?_ ?_
  rotate_left 2
  ·go_simp
   constructor
   ·rfl
   rfl
  refine hK.out _ _ ⟨pw_cell_below (below_alloc (Below.refl _ _) _) hHeld.1, pw_cell_below (below_alloc (Below.refl _ _) _) hHeld.2.1, pw_cell_below (below_alloc (Below.refl _ _) _) hHeld.2.2⟩ (fun hHeld => ?_)
  clear hK K
  refine norm_ (a' := ?_) ?_ ?_
  rotate_left
  ·show Act.put _ (some 7) _ = _
   simp only [Act.put, List.setIfInBounds_toArray, List.set_cons_zero, List.set_cons_succ, i64_w, i32_w]
   rfl
  refine one_ (i := 2) (N := some 6) (bN 6 15) rfl rfl (by kernel_rfl) (by decide) (fun K hK => ?_)
  refine value_ (w1 := ?_) (v := ?_) (by rfl) rfl ?_ ?_
  rotate_left 2
  ·go_simp
   constructor
   ·rfl
   rfl
  refine hK.out _ _ ⟨pw_cell_below (below_alloc (Below.refl _ _) _) hHeld.1, pw_cell_below (below_alloc (Below.refl _ _) _) hHeld.2.1, pw_cell_below (below_alloc (Below.refl _ _) _) hHeld.2.2⟩ (fun hHeld => ?_)
  clear hK K
  refine norm_ (a' := ?_) ?_ ?_
  rotate_left
  ·show Act.put _ (some 6) _ = _
   simp only [Act.put, List.setIfInBounds_toArray, List.set_cons_zero, List.set_cons_succ, i64_w, i32_w]
   rfl
  exact norm_ (by simp only [putAll, Act.put, List.setIfInBounds_toArray, List.set_cons_zero, List.set_cons_succ]) (hCont (v1.heap.size + 1, v1.heap.size) _ ⟨(by have h_ := heap_alloc_new (v1.drew.alloc (.cells #[.int .i64 0, .string ⟨#[]⟩, .string ⟨#[]⟩] 60)) (.cells #[.int .i64 0, .string ⟨#[]⟩, .string ⟨#[]⟩] 60); rw [show (v1.drew.alloc (.cells #[.int .i64 0, .string ⟨#[]⟩, .string ⟨#[]⟩] 60)).heap.size = v1.heap.size + 1 by simp] at h_; exact h_), (Below.heap_alloc (v1.drew.alloc (.cells #[.int .i64 0, .string ⟨#[]⟩, .string ⟨#[]⟩] 60)) (.cells #[.int .i64 0, .string ⟨#[]⟩, .string ⟨#[]⟩] 60) v1.drew.heap.size (by simp)).trans (heap_alloc_new v1.drew (.cells #[.int .i64 0, .string ⟨#[]⟩, .string ⟨#[]⟩] 60)), Nat.ne_of_gt (Nat.lt_succ_self _), Nat.le_succ _, Nat.le_refl _, below_alloc (below_alloc (Below.refl _ _) _) _⟩)
 rintro ⟨g6, g7⟩ w4 ⟨q1, q2, q3, q4, q5, q6⟩
 simp only at q1 q2 q3 q4 q5
 have BQ4 := blk_below (blk_drew BQ.out) q6
 have hHeld : w4.cell? ⟨gp, 0, none⟩ = some (.int .i64 p.f0) ∧ w4.cell? ⟨gp, 1, none⟩ = some (.string p.f1) ∧ w4.cell? ⟨gp, 2, none⟩ = some (.string p.f2) := ⟨(blk_cell BQ4 0).trans rfl, (blk_cell BQ4 1).trans rfl, (blk_cell BQ4 2).trans rfl⟩
 have m1 : gp ≠ g6 := Nat.ne_of_lt (Nat.lt_of_lt_of_le (blk_lt (blk_drew BQ.out)) q4)
 have m2 : gp ≠ g7 := Nat.ne_of_lt (Nat.lt_of_lt_of_le (blk_lt (blk_drew BQ.out)) q5)
 have m3 : g6 ≠ gp := m1.symm
 have m4 : g7 ≠ gp := m2.symm
 have q3' : g7 ≠ g6 := q3.symm
 obtain ⟨a0, a1, a2, e0, e1, e2⟩ := bx3 q1
 obtain ⟨b0, b1, b2, d0, d1, d2⟩ := bx3 q2
 refine norm_ (a' := ?_) ?_ ?_
 rotate_left
 ·simp only [putAll, Act.put, List.setIfInBounds_toArray, List.set_cons_zero, List.set_cons_succ]
  rfl
 refine one_ (i := 4) (N := none) (bN 6 31) rfl rfl (by kernel_rfl) (by decide) (fun K hK => ?_)
 refine skip_ (w1 := ?_) (by rfl) rfl ?_ ?_
 rotate_left
 ·go_simp
  rfl
 refine hK.out _ _ ⟨(blk_cell (blk_far (blk_far (blk_far (BQ4) (p := ⟨g6, 0, none⟩) m1 (.int .i64 p.f0)) (p := ⟨g6, 1, none⟩) m1 (.string p.f1)) (p := ⟨g6, 2, none⟩) m1 (.string p.f2)) 0).trans rfl, (blk_cell (blk_far (blk_far (blk_far (BQ4) (p := ⟨g6, 0, none⟩) m1 (.int .i64 p.f0)) (p := ⟨g6, 1, none⟩) m1 (.string p.f1)) (p := ⟨g6, 2, none⟩) m1 (.string p.f2)) 1).trans rfl, (blk_cell (blk_far (blk_far (blk_far (BQ4) (p := ⟨g6, 0, none⟩) m1 (.int .i64 p.f0)) (p := ⟨g6, 1, none⟩) m1 (.string p.f1)) (p := ⟨g6, 2, none⟩) m1 (.string p.f2)) 2).trans rfl⟩ (fun hHeld => ?_)
 clear hK K
 refine last_ (i := 5) (N := none) (bN 6 63) rfl rfl (by kernel_rfl) (by decide) (fun K hK => ?_)
 refine skip_ (w1 := ?_) (by rfl) rfl ?_ ?_
 rotate_left
 ·go_simp
  rfl
 refine hK.out _ _ ?_
 clear hK K
 refine done_ (by kernel_rfl) ?_
 have KW4 := ((KeptB.then_ KW.out (KeptB.of_below (below_drew (Below.refl _ _)) (fun _ => False)) (fun _ q => q.elim)).then_ (KeptB.of_below q6 (fun _ => False)) (fun _ q => q.elim))
 have l1 := blk_lt (blk_drew KG.out)
 have l2 := blk_lt (blk_drew BR.out)
 have m5 : g ≠ g6 := Nat.ne_of_lt (Nat.lt_of_lt_of_le l1 q4)
 have m6 : g ≠ g7 := Nat.ne_of_lt (Nat.lt_of_lt_of_le l1 q5)
 have m7 : gr ≠ g6 := Nat.ne_of_lt (Nat.lt_of_lt_of_le l2 q4)
 have m8 : gr ≠ g7 := Nat.ne_of_lt (Nat.lt_of_lt_of_le l2 q5)
 have z1 := KW.out.kept.1
 have h6 : w.heap.size ≤ g6 := Nat.le_trans z1 q4
 have h7 : w.heap.size ≤ g7 := Nat.le_trans z1 q5
 have KW2 := aM (((((((KW4).setCell (p := ⟨g6, 0, none⟩) (.inr h6) (.int .i64 p.f0)).setCell (p := ⟨g6, 1, none⟩) (.inr h6) (.string p.f1)).setCell (p := ⟨g6, 2, none⟩) (.inr h6) (.string p.f2)).setCell (p := ⟨g7, 0, none⟩) (.inr h7) (.int .i64 p.f0)).setCell (p := ⟨g7, 1, none⟩) (.inr h7) (.string p.f1)).setCell (p := ⟨g7, 2, none⟩) (.inr h7) (.string p.f2))
 have KG2 := aM (blk_far (blk_far (blk_far (blk_far (blk_far (blk_far (blk_below (blk_drew KG.out) q6) (p := ⟨g6, 0, none⟩) m5 (.int .i64 p.f0)) (p := ⟨g6, 1, none⟩) m5 (.string p.f1)) (p := ⟨g6, 2, none⟩) m5 (.string p.f2)) (p := ⟨g7, 0, none⟩) m6 (.int .i64 p.f0)) (p := ⟨g7, 1, none⟩) m6 (.string p.f1)) (p := ⟨g7, 2, none⟩) m6 (.string p.f2))
 have BR2 := aM (blk_far (blk_far (blk_far (blk_far (blk_far (blk_far (blk_below (blk_drew BR.out) q6) (p := ⟨g6, 0, none⟩) m7 (.int .i64 p.f0)) (p := ⟨g6, 1, none⟩) m7 (.string p.f1)) (p := ⟨g6, 2, none⟩) m7 (.string p.f2)) (p := ⟨g7, 0, none⟩) m8 (.int .i64 p.f0)) (p := ⟨g7, 1, none⟩) m8 (.string p.f1)) (p := ⟨g7, 2, none⟩) m8 (.string p.f2))
 have BQ2 := aM (blk_far (blk_far (blk_far (blk_far (blk_far (blk_far (BQ4) (p := ⟨g6, 0, none⟩) m1 (.int .i64 p.f0)) (p := ⟨g6, 1, none⟩) m1 (.string p.f1)) (p := ⟨g6, 2, none⟩) m1 (.string p.f2)) (p := ⟨g7, 0, none⟩) m2 (.int .i64 p.f0)) (p := ⟨g7, 1, none⟩) m2 (.string p.f1)) (p := ⟨g7, 2, none⟩) m2 (.string p.f2))
 have B6 := aM (blk_far (blk_far (blk_far (blk_put (cs' := #[.int .i64 p.f0, .string p.f1, .string p.f2]) (blk_put (cs' := #[.int .i64 p.f0, .string p.f1, .string ⟨#[]⟩]) (blk_put (cs' := #[.int .i64 p.f0, .string ⟨#[]⟩, .string ⟨#[]⟩]) (q1) 0 (.int .i64 p.f0) rfl) 1 (.string p.f1) rfl) 2 (.string p.f2) rfl) (p := ⟨g7, 0, none⟩) q3 (.int .i64 p.f0)) (p := ⟨g7, 1, none⟩) q3 (.string p.f1)) (p := ⟨g7, 2, none⟩) q3 (.string p.f2))
 have B7 := aM (blk_put (cs' := #[.int .i64 p.f0, .string p.f1, .string p.f2]) (blk_put (cs' := #[.int .i64 p.f0, .string p.f1, .string ⟨#[]⟩]) (blk_put (cs' := #[.int .i64 p.f0, .string ⟨#[]⟩, .string ⟨#[]⟩]) (blk_far (blk_far (blk_far (q2) (p := ⟨g6, 0, none⟩) q3' (.int .i64 p.f0)) (p := ⟨g6, 1, none⟩) q3' (.string p.f1)) (p := ⟨g6, 2, none⟩) q3' (.string p.f2)) 0 (.int .i64 p.f0) rfl) 1 (.string p.f1) rfl) 2 (.string p.f2) rfl)
 clear KW KG BR BQ KW4 BQ4 q1 q2 hHeld q6 q4 q5 l1 l2 z1 a0 a1 a2 e0 e1 e2 b0 b1 b2 d0 d1 d2
 generalize ((((((w4).setCell ⟨g6, 0, none⟩ (.int .i64 p.f0)).setCell ⟨g6, 1, none⟩ (.string p.f1)).setCell ⟨g6, 2, none⟩ (.string p.f2)).setCell ⟨g7, 0, none⟩ (.int .i64 p.f0)).setCell ⟨g7, 1, none⟩ (.string p.f1)).setCell ⟨g7, 2, none⟩ (.string p.f2) = v2 at KW2 KG2 BR2 BQ2 B6 B7 ⊢
 have hcase : (0 < p.f0 ∧ x = ⟨n, p.f1, p.f2⟩ ∧ y = ⟨wrap64 (p.f0 - n), p.f1, p.f2⟩) ∨ ((¬ 0 < p.f0 ∧ p.f1.toList = ([] : List UInt8) ∧ (0 ≤ n ∧ n ≤ (p.f2.size : Int)) ∧ x = ⟨p.f0, p.f1, p.f2.extract 0 n.toNat⟩ ∧ y = ⟨p.f0, p.f1, p.f2.extract n.toNat p.f2.size⟩) ∨ (¬ 0 < p.f0 ∧ ¬ p.f1.toList = ([] : List UInt8) ∧ (0 ≤ n ∧ n ≤ (p.f1.size : Int)) ∧ x = ⟨p.f0, p.f1.extract 0 n.toNat, p.f2⟩ ∧ y = ⟨p.f0, p.f1.extract n.toNat p.f1.size, p.f2⟩)) := cutP_cases HCUT.out
 refine Or.elim hcase ?A ?D
 case' D => intro hd; refine Or.elim hd ?C ?B
 case' A =>
  rintro ⟨hA, ex0, ey0⟩
  have ex := aM ex0
  have ey := aM ey0
  have cA : decide (0 < p.f0) = true := decide_eq_true hA
  clear ex0 ey0 hA hcase
  obtain ⟨b0, b1, b2, -⟩ := bx3 BQ2.out
  go_wp2_with fail
  clear b0 b1 b2
  have t6 := (blk_cell B6.out 0).trans (show _ = some (Value.int .i64 _) from rfl)
  have t7 := (blk_cell B7.out 0).trans (show _ = some (Value.int .i64 _) from rfl)
  have f6 := blk_frozen B6.out 0
  have f7 := blk_frozen B7.out 0
  refine start_ (n := 9) (S := fun w' => w'.cell? ⟨gp, 0, none⟩ = some (.int .i64 p.f0)) (ds := [8]) (Array.replicate 9 false) (by kernel_rfl) rfl rfl ((blk_cell (blk_drew BQ2.out) 0).trans rfl) (fun hHeld => ?_)
  have KWd := aM (KeptB.then_ KW2.out (KeptB.of_below (below_drew (Below.refl _ _)) (fun _ => False)) (fun _ q => q.elim))
  have KGd := aM (blk_drew KG2.out)
  have BRd := aM (blk_drew BR2.out)
  have BQd := aM (blk_drew BQ2.out)
  have B6d := aM (blk_drew B6.out)
  have B7d := aM (blk_drew B7.out)
  clear KW2 KG2 BR2 BQ2 B6 B7 t6 t7 f6 f7
  generalize v2.drew = u2 at KWd KGd BRd BQd B6d B7d hHeld ⊢
  have t6 := (blk_cell B6d.out 0).trans (show _ = some (Value.int .i64 _) from rfl)
  have t7 := (blk_cell B7d.out 0).trans (show _ = some (Value.int .i64 _) from rfl)
  have f6 := blk_frozen B6d.out 0
  have f7 := blk_frozen B7d.out 0
  refine pW 0 26 (bN 9 1) ?_
  refine pW 1 27 (bN 9 3) ?_
  refine pW 3 29 (bN 9 11) ?_
  refine pW 5 31 (bN 9 43) ?_
  refine take_ (i := 2) (N := some 28) (v := ?_) (a' := ?_) (bN 9 47) rfl rfl (by kernel_rfl) (fun _ _ _ h => h) (Or.inl ⟨by rfl, ?_⟩) hHeld ?_ ?_
  rotate_left
  ·intro w' s0
   go_simp
   with_reducible rfl
  rotate_left
  ·simp only [Act.put, List.setIfInBounds_toArray, List.set_cons_zero, List.set_cons_succ, i64_w, i32_w]
   rfl
  refine pW 4 30 (bN 9 63) ?_
  refine one_ (i := 6) (N := none) (bN 9 127) rfl rfl (by kernel_rfl) (by decide) (fun K hK => ?_)
  refine skip_ (w1 := ?_) (by rfl) rfl ?_ ?_
  rotate_left
  ·go_simp
   rfl
  refine hK.out _ _ ((blk_cell (blk_far BQd.out (p := ⟨g6, 0, none⟩) m1 _) 0).trans rfl) (fun hHeld => ?_)
  clear hK K
  refine pW 7 32 (bN 9 255) ?_
  refine last_ (i := 8) (N := none) (bN 9 511) rfl rfl (by kernel_rfl) (by decide) (fun K hK => ?_)
  refine skip_ (w1 := ?_) (by rfl) rfl ?_ ?_
  rotate_left
  ·go_simp
   rfl
  refine hK.out _ _ ?_
  clear hK K
  refine done_ (by kernel_rfl) ?_
  have KW3 := aM ((KWd.out.setCell (p := ⟨g6, 0, none⟩) (.inr h6) (.int .i64 (n))).setCell (p := ⟨g7, 0, none⟩) (.inr h7) (.int .i64 ((wrap64 (p.f0 - n)))))
  have KG3 := aM (blk_far (blk_far KGd.out (p := ⟨g6, 0, none⟩) m5 (.int .i64 (n))) (p := ⟨g7, 0, none⟩) m6 (.int .i64 ((wrap64 (p.f0 - n)))))
  have BR3 := aM (blk_far (blk_far BRd.out (p := ⟨g6, 0, none⟩) m7 (.int .i64 (n))) (p := ⟨g7, 0, none⟩) m8 (.int .i64 ((wrap64 (p.f0 - n)))))
  have C6 : Aside0 (((u2.setCell ⟨g6, 0, none⟩ (.int .i64 (n))).setCell ⟨g7, 0, none⟩ (.int .i64 ((wrap64 (p.f0 - n))))).heap[g6]? = some (.cells #[.int .i64 x.f0, .string x.f1, .string x.f2] 60 (0, 0))) := ⟨by obtain rfl := ex.out; exact blk_far (blk_put (cs' := #[.int .i64 n, .string p.f1, .string p.f2]) B6d.out 0 (.int .i64 (n)) rfl) (p := ⟨g7, 0, none⟩) q3 (.int .i64 ((wrap64 (p.f0 - n))))⟩
  have C7 : Aside0 (((u2.setCell ⟨g6, 0, none⟩ (.int .i64 (n))).setCell ⟨g7, 0, none⟩ (.int .i64 ((wrap64 (p.f0 - n))))).heap[g7]? = some (.cells #[.int .i64 y.f0, .string y.f1, .string y.f2] 60 (0, 0))) := ⟨by obtain rfl := ey.out; exact blk_put (cs' := #[.int .i64 (wrap64 (p.f0 - n)), .string p.f1, .string p.f2]) (blk_far B7d.out (p := ⟨g6, 0, none⟩) q3' (.int .i64 (n))) 0 (.int .i64 ((wrap64 (p.f0 - n)))) rfl⟩
  clear KWd KGd BRd BQd B6d B7d hHeld t6 t7 f6 f7 ex ey HCUT
  generalize (u2.setCell ⟨g6, 0, none⟩ (.int .i64 (n))).setCell ⟨g7, 0, none⟩ (.int .i64 ((wrap64 (p.f0 - n)))) = v3 at KW3 KG3 BR3 C6 C7 ⊢
 case' C =>
  rintro ⟨hA, hB, ⟨hn0, hn1⟩, ex0, ey0⟩
  have ex := aM ex0
  have ey := aM ey0
  have cA : decide (0 < p.f0) = false := decide_eq_false hA
  have g0 := eq_true hn0
  have g1 := eq_true hn1
  have cB0 : (p.f1.toList == ([] : List UInt8)) = true := beq_iff_eq.mpr hB
  have cB1 : (p.f1.toList != ([] : List UInt8)) = false := bne_eq_false_iff_eq.mpr hB
  have cB2 : p.f1.toList.isEmpty = true := List.isEmpty_iff.mpr hB
  clear ex0 ey0 hA hB hn0 hn1 hcase hd
  obtain ⟨b0, b1, b2, -⟩ := bx3 BQ2.out
  go_wp2_with fail
  clear b0 b1 b2
  have t6 := (blk_cell B6.out 2).trans (show _ = some (Value.string _) from rfl)
  have t7 := (blk_cell B7.out 2).trans (show _ = some (Value.string _) from rfl)
  have f6 := blk_frozen B6.out 2
  have f7 := blk_frozen B7.out 2
  refine start_ (n := 12) (S := fun w' => w'.cell? ⟨gp, 2, none⟩ = some (.string p.f2)) (ds := [11]) (Array.replicate 12 false) (by kernel_rfl) rfl rfl ((blk_cell (blk_drew BQ2.out) 2).trans rfl) (fun hHeld => ?_)
  have KWd := aM (KeptB.then_ KW2.out (KeptB.of_below (below_drew (Below.refl _ _)) (fun _ => False)) (fun _ q => q.elim))
  have KGd := aM (blk_drew KG2.out)
  have BRd := aM (blk_drew BR2.out)
  have BQd := aM (blk_drew BQ2.out)
  have B6d := aM (blk_drew B6.out)
  have B7d := aM (blk_drew B7.out)
  clear KW2 KG2 BR2 BQ2 B6 B7 t6 t7 f6 f7
  generalize v2.drew = u2 at KWd KGd BRd BQd B6d B7d hHeld ⊢
  have t6 := (blk_cell B6d.out 2).trans (show _ = some (Value.string _) from rfl)
  have t7 := (blk_cell B7d.out 2).trans (show _ = some (Value.string _) from rfl)
  have f6 := blk_frozen B6d.out 2
  have f7 := blk_frozen B7d.out 2
  refine pW 0 12 (bN 12 1) ?_
  refine pW 2 14 (bN 12 5) ?_
  refine pW 4 16 (bN 12 21) ?_
  refine pW 6 18 (bN 12 85) ?_
  refine take_ (i := 1) (N := some 13) (v := ?_) (a' := ?_) (bN 12 87) rfl rfl (by kernel_rfl) (fun _ _ _ h => h) (Or.inl ⟨by rfl, ?_⟩) hHeld ?_ ?_
  rotate_left
  ·intro w' s0
   go_simp
   with_reducible rfl
  rotate_left
  ·simp only [Act.put, List.setIfInBounds_toArray, List.set_cons_zero, List.set_cons_succ, i64_w, i32_w]
   rfl
  refine pW 3 15 (bN 12 95) ?_
  refine pW 8 20 (bN 12 351) ?_
  refine take_ (i := 5) (N := some 17) (v := ?_) (a' := ?_) (bN 12 383) rfl rfl (by kernel_rfl) (fun _ _ _ h => h) (Or.inl ⟨by rfl, ?_⟩) hHeld ?_ ?_
  rotate_left
  ·intro w' s0
   go_simp
   with_reducible rfl
  rotate_left
  ·simp only [Act.put, List.setIfInBounds_toArray, List.set_cons_zero, List.set_cons_succ, i64_w, i32_w]
   rfl
  refine pW 7 19 (bN 12 511) ?_
  refine one_ (i := 9) (N := none) (bN 12 1023) rfl rfl (by kernel_rfl) (by decide) (fun K hK => ?_)
  refine skip_ (w1 := ?_) (by rfl) rfl ?_ ?_
  rotate_left
  ·go_simp
   rfl
  refine hK.out _ _ ((blk_cell (blk_far BQd.out (p := ⟨g6, 2, none⟩) m1 _) 2).trans rfl) (fun hHeld => ?_)
  clear hK K
  refine pW 10 21 (bN 12 2047) ?_
  refine last_ (i := 11) (N := none) (bN 12 4095) rfl rfl (by kernel_rfl) (by decide) (fun K hK => ?_)
  refine skip_ (w1 := ?_) (by rfl) rfl ?_ ?_
  rotate_left
  ·go_simp
   rfl
  refine hK.out _ _ ?_
  clear hK K
  refine done_ (by kernel_rfl) ?_
  have KW3 := aM ((KWd.out.setCell (p := ⟨g6, 2, none⟩) (.inr h6) (.string ((p.f2.extract 0 n.toNat)))).setCell (p := ⟨g7, 2, none⟩) (.inr h7) (.string ((p.f2.extract n.toNat p.f2.size))))
  have KG3 := aM (blk_far (blk_far KGd.out (p := ⟨g6, 2, none⟩) m5 (.string ((p.f2.extract 0 n.toNat)))) (p := ⟨g7, 2, none⟩) m6 (.string ((p.f2.extract n.toNat p.f2.size))))
  have BR3 := aM (blk_far (blk_far BRd.out (p := ⟨g6, 2, none⟩) m7 (.string ((p.f2.extract 0 n.toNat)))) (p := ⟨g7, 2, none⟩) m8 (.string ((p.f2.extract n.toNat p.f2.size))))
  have C6 : Aside0 (((u2.setCell ⟨g6, 2, none⟩ (.string ((p.f2.extract 0 n.toNat)))).setCell ⟨g7, 2, none⟩ (.string ((p.f2.extract n.toNat p.f2.size)))).heap[g6]? = some (.cells #[.int .i64 x.f0, .string x.f1, .string x.f2] 60 (0, 0))) := ⟨by obtain rfl := ex.out; exact blk_far (blk_put (cs' := #[.int .i64 p.f0, .string p.f1, .string (p.f2.extract 0 n.toNat)]) B6d.out 2 (.string ((p.f2.extract 0 n.toNat))) rfl) (p := ⟨g7, 2, none⟩) q3 (.string ((p.f2.extract n.toNat p.f2.size)))⟩
  have C7 : Aside0 (((u2.setCell ⟨g6, 2, none⟩ (.string ((p.f2.extract 0 n.toNat)))).setCell ⟨g7, 2, none⟩ (.string ((p.f2.extract n.toNat p.f2.size)))).heap[g7]? = some (.cells #[.int .i64 y.f0, .string y.f1, .string y.f2] 60 (0, 0))) := ⟨by obtain rfl := ey.out; exact blk_put (cs' := #[.int .i64 p.f0, .string p.f1, .string (p.f2.extract n.toNat p.f2.size)]) (blk_far B7d.out (p := ⟨g6, 2, none⟩) q3' (.string ((p.f2.extract 0 n.toNat)))) 2 (.string ((p.f2.extract n.toNat p.f2.size))) rfl⟩
  clear KWd KGd BRd BQd B6d B7d hHeld t6 t7 f6 f7 ex ey HCUT
  generalize (u2.setCell ⟨g6, 2, none⟩ (.string ((p.f2.extract 0 n.toNat)))).setCell ⟨g7, 2, none⟩ (.string ((p.f2.extract n.toNat p.f2.size))) = v3 at KW3 KG3 BR3 C6 C7 ⊢
 case' B =>
  rintro ⟨hA, hB, ⟨hn0, hn1⟩, ex0, ey0⟩
  have ex := aM ex0
  have ey := aM ey0
  have cA : decide (0 < p.f0) = false := decide_eq_false hA
  have g0 := eq_true hn0
  have g1 := eq_true hn1
  have cB0 : (p.f1.toList == ([] : List UInt8)) = false := beq_eq_false_iff_ne.mpr hB
  have cB1 : (p.f1.toList != ([] : List UInt8)) = true := bne_iff_ne.mpr hB
  have cB2 : p.f1.toList.isEmpty = false := List.isEmpty_eq_false_iff.mpr hB
  clear ex0 ey0 hA hB hn0 hn1 hcase hd
  obtain ⟨b0, b1, b2, -⟩ := bx3 BQ2.out
  go_wp2_with fail
  clear b0 b1 b2
  have t6 := (blk_cell B6.out 1).trans (show _ = some (Value.string _) from rfl)
  have t7 := (blk_cell B7.out 1).trans (show _ = some (Value.string _) from rfl)
  have f6 := blk_frozen B6.out 1
  have f7 := blk_frozen B7.out 1
  refine start_ (n := 12) (S := fun w' => w'.cell? ⟨gp, 1, none⟩ = some (.string p.f1)) (ds := [11]) (Array.replicate 12 false) (by kernel_rfl) rfl rfl ((blk_cell (blk_drew BQ2.out) 1).trans rfl) (fun hHeld => ?_)
  have KWd := aM (KeptB.then_ KW2.out (KeptB.of_below (below_drew (Below.refl _ _)) (fun _ => False)) (fun _ q => q.elim))
  have KGd := aM (blk_drew KG2.out)
  have BRd := aM (blk_drew BR2.out)
  have BQd := aM (blk_drew BQ2.out)
  have B6d := aM (blk_drew B6.out)
  have B7d := aM (blk_drew B7.out)
  clear KW2 KG2 BR2 BQ2 B6 B7 t6 t7 f6 f7
  generalize v2.drew = u2 at KWd KGd BRd BQd B6d B7d hHeld ⊢
  have t6 := (blk_cell B6d.out 1).trans (show _ = some (Value.string _) from rfl)
  have t7 := (blk_cell B7d.out 1).trans (show _ = some (Value.string _) from rfl)
  have f6 := blk_frozen B6d.out 1
  have f7 := blk_frozen B7d.out 1
  refine pW 0 37 (bN 12 1) ?_
  refine pW 2 39 (bN 12 5) ?_
  refine pW 4 41 (bN 12 21) ?_
  refine pW 6 43 (bN 12 85) ?_
  refine take_ (i := 1) (N := some 38) (v := ?_) (a' := ?_) (bN 12 87) rfl rfl (by kernel_rfl) (fun _ _ _ h => h) (Or.inl ⟨by rfl, ?_⟩) hHeld ?_ ?_
  rotate_left
  ·intro w' s0
   go_simp
   with_reducible rfl
  rotate_left
  ·simp only [Act.put, List.setIfInBounds_toArray, List.set_cons_zero, List.set_cons_succ, i64_w, i32_w]
   rfl
  refine pW 3 40 (bN 12 95) ?_
  refine pW 8 45 (bN 12 351) ?_
  refine take_ (i := 5) (N := some 42) (v := ?_) (a' := ?_) (bN 12 383) rfl rfl (by kernel_rfl) (fun _ _ _ h => h) (Or.inl ⟨by rfl, ?_⟩) hHeld ?_ ?_
  rotate_left
  ·intro w' s0
   go_simp
   with_reducible rfl
  rotate_left
  ·simp only [Act.put, List.setIfInBounds_toArray, List.set_cons_zero, List.set_cons_succ, i64_w, i32_w]
   rfl
  refine pW 7 44 (bN 12 511) ?_
  refine one_ (i := 9) (N := none) (bN 12 1023) rfl rfl (by kernel_rfl) (by decide) (fun K hK => ?_)
  refine skip_ (w1 := ?_) (by rfl) rfl ?_ ?_
  rotate_left
  ·go_simp
   rfl
  refine hK.out _ _ ((blk_cell (blk_far BQd.out (p := ⟨g6, 1, none⟩) m1 _) 1).trans rfl) (fun hHeld => ?_)
  clear hK K
  refine pW 10 46 (bN 12 2047) ?_
  refine last_ (i := 11) (N := none) (bN 12 4095) rfl rfl (by kernel_rfl) (by decide) (fun K hK => ?_)
  refine skip_ (w1 := ?_) (by rfl) rfl ?_ ?_
  rotate_left
  ·go_simp
   rfl
  refine hK.out _ _ ?_
  clear hK K
  refine done_ (by kernel_rfl) ?_
  have KW3 := aM ((KWd.out.setCell (p := ⟨g6, 1, none⟩) (.inr h6) (.string ((p.f1.extract 0 n.toNat)))).setCell (p := ⟨g7, 1, none⟩) (.inr h7) (.string ((p.f1.extract n.toNat p.f1.size))))
  have KG3 := aM (blk_far (blk_far KGd.out (p := ⟨g6, 1, none⟩) m5 (.string ((p.f1.extract 0 n.toNat)))) (p := ⟨g7, 1, none⟩) m6 (.string ((p.f1.extract n.toNat p.f1.size))))
  have BR3 := aM (blk_far (blk_far BRd.out (p := ⟨g6, 1, none⟩) m7 (.string ((p.f1.extract 0 n.toNat)))) (p := ⟨g7, 1, none⟩) m8 (.string ((p.f1.extract n.toNat p.f1.size))))
  have C6 : Aside0 (((u2.setCell ⟨g6, 1, none⟩ (.string ((p.f1.extract 0 n.toNat)))).setCell ⟨g7, 1, none⟩ (.string ((p.f1.extract n.toNat p.f1.size)))).heap[g6]? = some (.cells #[.int .i64 x.f0, .string x.f1, .string x.f2] 60 (0, 0))) := ⟨by obtain rfl := ex.out; exact blk_far (blk_put (cs' := #[.int .i64 p.f0, .string (p.f1.extract 0 n.toNat), .string p.f2]) B6d.out 1 (.string ((p.f1.extract 0 n.toNat))) rfl) (p := ⟨g7, 1, none⟩) q3 (.string ((p.f1.extract n.toNat p.f1.size)))⟩
  have C7 : Aside0 (((u2.setCell ⟨g6, 1, none⟩ (.string ((p.f1.extract 0 n.toNat)))).setCell ⟨g7, 1, none⟩ (.string ((p.f1.extract n.toNat p.f1.size)))).heap[g7]? = some (.cells #[.int .i64 y.f0, .string y.f1, .string y.f2] 60 (0, 0))) := ⟨by obtain rfl := ey.out; exact blk_put (cs' := #[.int .i64 p.f0, .string (p.f1.extract n.toNat p.f1.size), .string p.f2]) (blk_far B7d.out (p := ⟨g6, 1, none⟩) q3' (.string ((p.f1.extract 0 n.toNat)))) 1 (.string ((p.f1.extract n.toNat p.f1.size))) rfl⟩
  clear KWd KGd BRd BQd B6d B7d hHeld t6 t7 f6 f7 ex ey HCUT
  generalize (u2.setCell ⟨g6, 1, none⟩ (.string ((p.f1.extract 0 n.toNat)))).setCell ⟨g7, 1, none⟩ (.string ((p.f1.extract n.toNat p.f1.size))) = v3 at KW3 KG3 BR3 C6 C7 ⊢
 all_goals
  obtain ⟨j0, j1, j2, -⟩ := bx3 C7.out
  obtain ⟨i0, i1, i2, -⟩ := bx3 C6.out
  obtain ⟨s0, s1, s2, r0, r1, r2⟩ := bx3 BR3.out
  have gg := (blk_cell KG3.out 0).trans (show _ = some (Value.slice A (r.length + 1) c) from rfl)
  have gf := blk_frozen KG3.out 0
  have m5' := m5.symm
  have m7' := m7.symm
  have m6' := m6.symm
  have m8' := m8.symm
  by_cases hz : zeroP y = true
  ·skip
   simp only [zeroP, Bool.and_eq_true, beq_iff_eq] at hz
   obtain ⟨hz0, hz1, hz2⟩ := hz
   have u0 : (y.f0 == 0) = true := beq_iff_eq.mpr hz0
   have u1 : (y.f1.toList == ([] : List UInt8)) = true := beq_iff_eq.mpr hz1
   have u2 : (y.f2.toList == ([] : List UInt8)) = true := beq_iff_eq.mpr hz2
   have v1 : y.f1.toList.isEmpty = true := List.isEmpty_iff.mpr hz1
   have v2 : y.f2.toList.isEmpty = true := List.isEmpty_iff.mpr hz2
   have HZ := aM (show zeroP y = true by simp only [zeroP, Bool.and_eq_true, beq_iff_eq]; exact ⟨hz0, hz1, hz2⟩)
   clear hz0 hz1 hz2
   by_cases hc1 : c = 1
   ·have d1 : (c == 1) = true := beq_iff_eq.mpr hc1
    have d2 : (c = 1) = True := eq_true hc1
    have HC1 := aM hc1
    clear hc1
    go_wp2_with fail
    have BG := blk_far (blk_far (blk_far (blk_put (cs' := #[.slice A r.length (c - 1)]) KG3.out 0 (.slice A r.length (c - 1)) rfl) (p := ⟨gr, 0, none⟩) n2 (.int .i64 x.f0)) (p := ⟨gr, 1, none⟩) n2 (.string x.f1)) (p := ⟨gr, 2, none⟩) n2 (.string x.f2)
    have BB := blk_put (cs' := #[.int .i64 x.f0, .string x.f1, .string x.f2]) (blk_put (cs' := #[.int .i64 x.f0, .string x.f1, .string ⟨#[]⟩]) (blk_put (cs' := #[.int .i64 x.f0, .string ⟨#[]⟩, .string ⟨#[]⟩]) (blk_far BR3.out (p := ⟨g, 0, none⟩) n1 (.slice A r.length (c - 1))) 0 (.int .i64 x.f0) rfl) 1 (.string x.f1) rfl) 2 (.string x.f2) rfl
    have KW := (((KW3.out.setCell (p := ⟨g, 0, none⟩) (.inl rfl) (.slice A r.length (c - 1))).setCell (p := ⟨gr, 0, none⟩) (.inr hgr) (.int .i64 x.f0)).setCell (p := ⟨gr, 1, none⟩) (.inr hgr) (.string x.f1)).setCell (p := ⟨gr, 2, none⟩) (.inr hgr) (.string x.f2)
    refine bodyPost_ret (results_cell_row rfl _ _ gr 60 #[.int .i64 x.f0, .string x.f1, .string x.f2] (0, 0) _ rfl BB Try.underlying60 rfl (by kernel_rfl)) rfl ?_
    rw [show restP y r = r from if_pos HZ.out]
    refine ⟨rfl, ⟨_, _, BG, ?_, ?_, ?_⟩, KW⟩
    ·have := HN.out; omega
    ·have hd := Kd.C_drop (m := 1) (c := c) HR.out (by rw [List.length_cons]; omega) HC.out
     rw [if_pos HC1.out] at hd
     exact Kd.C_foot_neS (S := fun k => k = g) (fun h => h) hd (fun ad e hn hq => HF.out ad e (by rw [List.length_cons]; omega) (hq ▸ hS)) _ KW.kept
    ·exact fun ad e hn => HF.out ad e (by rw [List.length_cons]; omega)
   ·have d1 : (c == 1) = false := beq_eq_false_iff_ne.mpr hc1
    have d2 : (c = 1) = False := eq_false hc1
    have HC1 := aM hc1
    clear hc1
    go_wp2_with fail
    have BG := blk_far (blk_far (blk_far (blk_put (cs' := #[.slice (Option.map (fun x => ⟨x.block, x.off + 3, none⟩) A) r.length (c - 1)]) KG3.out 0 (.slice (Option.map (fun x => ⟨x.block, x.off + 3, none⟩) A) r.length (c - 1)) rfl) (p := ⟨gr, 0, none⟩) n2 (.int .i64 x.f0)) (p := ⟨gr, 1, none⟩) n2 (.string x.f1)) (p := ⟨gr, 2, none⟩) n2 (.string x.f2)
    have BB := blk_put (cs' := #[.int .i64 x.f0, .string x.f1, .string x.f2]) (blk_put (cs' := #[.int .i64 x.f0, .string x.f1, .string ⟨#[]⟩]) (blk_put (cs' := #[.int .i64 x.f0, .string ⟨#[]⟩, .string ⟨#[]⟩]) (blk_far BR3.out (p := ⟨g, 0, none⟩) n1 (.slice (Option.map (fun x => ⟨x.block, x.off + 3, none⟩) A) r.length (c - 1))) 0 (.int .i64 x.f0) rfl) 1 (.string x.f1) rfl) 2 (.string x.f2) rfl
    have KW := (((KW3.out.setCell (p := ⟨g, 0, none⟩) (.inl rfl) (.slice (Option.map (fun x => ⟨x.block, x.off + 3, none⟩) A) r.length (c - 1))).setCell (p := ⟨gr, 0, none⟩) (.inr hgr) (.int .i64 x.f0)).setCell (p := ⟨gr, 1, none⟩) (.inr hgr) (.string x.f1)).setCell (p := ⟨gr, 2, none⟩) (.inr hgr) (.string x.f2)
    refine bodyPost_ret (results_cell_row rfl _ _ gr 60 #[.int .i64 x.f0, .string x.f1, .string x.f2] (0, 0) _ rfl BB Try.underlying60 rfl (by kernel_rfl)) rfl ?_
    rw [show restP y r = r from if_pos HZ.out]
    refine ⟨rfl, ⟨_, _, BG, ?_, ?_, ?_⟩, KW⟩
    ·have := HN.out; omega
    ·have hd := Kd.C_drop (m := 1) (c := c) HR.out (by rw [List.length_cons]; omega) HC.out
     rw [if_neg HC1.out] at hd
     exact Kd.C_foot_neS (S := fun k => k = g) (fun h => h) hd (fun ad e hn hq => by
      obtain ⟨a0, ea, eb⟩ := Option.map_eq_some_iff.1 e
      have hb0 : a0.block = ad.block := by subst eb; rfl
      exact HF.out a0 ea (by rw [List.length_cons]; omega) (by rw [hb0, hq]; exact hS)) _ KW.kept
    ·intro ad e hn
     obtain ⟨a0, ea, eb⟩ := Option.map_eq_some_iff.1 e
     have hb0 : a0.block = ad.block := by subst eb; rfl
     rw [← hb0]
     exact HF.out a0 ea (by rw [List.length_cons]; omega)
  ·skip
   have hnz : (¬ y.f0 = 0) ∨ ((y.f0 = 0 ∧ ¬ y.f1.toList = ([] : List UInt8)) ∨ (y.f0 = 0 ∧ y.f1.toList = ([] : List UInt8) ∧ ¬ y.f2.toList = ([] : List UInt8))) := by
    by_cases y0 : y.f0 = 0
    ·by_cases y1 : y.f1.toList = ([] : List UInt8)
     ·exact .inr (.inr ⟨y0, y1, fun q => hz (by simp only [zeroP, Bool.and_eq_true, beq_iff_eq]; exact ⟨y0, y1, q⟩)⟩)
     ·exact .inr (.inl ⟨y0, y1⟩)
    ·exact .inl y0
   have HZ := aM hz
   clear hz
   rcases hnz with y0 | ⟨y0, y1⟩ | ⟨y0, y1, y2⟩
   all_goals
    try have u0 : (y.f0 == 0) = true := beq_iff_eq.mpr y0
    try have u0 : (y.f0 == 0) = false := beq_eq_false_iff_ne.mpr y0
    try have u1 : (y.f1.toList == ([] : List UInt8)) = true := beq_iff_eq.mpr y1
    try have t1 : y.f1.toList.isEmpty = true := List.isEmpty_iff.mpr y1
    try have u1 : (y.f1.toList == ([] : List UInt8)) = false := beq_eq_false_iff_ne.mpr y1
    try have t1 : y.f1.toList.isEmpty = false := List.isEmpty_eq_false_iff.mpr y1
    try have u2 : (y.f2.toList == ([] : List UInt8)) = false := beq_eq_false_iff_ne.mpr y2
    try have t2 : y.f2.toList.isEmpty = false := List.isEmpty_eq_false_iff.mpr y2
    try clear y2
    try clear y1
    clear y0
    by_cases hc1 : c = 1
    ·have d1 : (c == 1) = true := beq_iff_eq.mpr hc1
     have d2 : (c = 1) = True := eq_true hc1
     have HC1 := aM hc1
     clear hc1
     have lb : ((1 : Int) ≤ (r.length : Int) + 1) = True := eq_true (by omega)
     go_wp2_with fail
     refine start_ (n := 12) (S := fun w' => w'.cell? ⟨g7, 0, none⟩ = some (.int .i64 y.f0) ∧ w'.cell? ⟨g7, 1, none⟩ = some (.string y.f1) ∧ w'.cell? ⟨g7, 2, none⟩ = some (.string y.f2) ∧ w'.cell? ⟨g, 0, none⟩ = some (.slice A (r.length + 1) c)) (ds := [11]) (Array.replicate 12 false) (by kernel_rfl) rfl rfl ⟨(blk_cell (blk_drew C7.out) 0).trans rfl, (blk_cell (blk_drew C7.out) 1).trans rfl, (blk_cell (blk_drew C7.out) 2).trans rfl, (blk_cell (blk_drew KG3.out) 0).trans rfl⟩ (fun hHeld => ?_)
     have KWe := aM (KeptB.then_ KW3.out (KeptB.of_below (below_drew (Below.refl _ _)) (fun _ => False)) (fun _ q => q.elim))
     have KGe := aM (blk_drew KG3.out)
     have BRe := aM (blk_drew BR3.out)
     have C6e := aM (blk_drew C6.out)
     clear KW3 KG3 BR3 C6 C7 j0 j1 j2 i0 i1 i2 s0 s1 s2 r0 r1 r2 gg gf
     generalize v3.drew = u3 at KWe KGe BRe C6e hHeld ⊢
     have H0 := aM hHeld
     refine pW 0 58 (bN 12 1) ?_
     refine pW 3 61 (bN 12 9) ?_
     refine pW 4 62 (bN 12 25) ?_
     refine pW 5 63 (bN 12 57) ?_
     refine tW4 1 59 (bN 12 59) ?_
     refine tW4 6 64 (bN 12 123) ?_
     refine pW 7 65 (bN 12 251) ?_
     refine one_ (i := 2) (N := some 60) (bN 12 255) rfl rfl (by kernel_rfl) (by decide) (fun K hK => ?_)
     refine Kd.R_lit_step k60 (w0 := u3) u3.heap.size 60 (by rfl) (N := 60) rfl (xs := [y]) (inner := [.int .i64 y.f0, .string y.f1, .string y.f2]) (ok := fun k => u3.heap.size ≤ k) (okp := fun _ => False) (by first | (go_simp; done) | (go_simp; rfl)) (Reps.c3 (k60_mkM _ _ _ y) (Reps.none _ _)) (fun _ q => q.elim) (Nat.le_refl _) (Below.refl _ _) (Nat.le_refl _) (by simp) ?_
     intro vl u4 ho4 hb4 hg4_ hnew4_
     clear hg4_ hnew4_
     have HO4 := aM ho4
     have HB4 := aM hb4
     clear ho4 hb4
     refine hK.out _ _ ⟨pw_cell_below HB4.out H0.out.1, pw_cell_below HB4.out H0.out.2.1, pw_cell_below HB4.out H0.out.2.2.1, pw_cell_below HB4.out H0.out.2.2.2⟩ (fun hHeld => ?_)
     clear hK K
     refine norm_ (a' := ?_) ?_ ?_
     rotate_left
     ·show Act.put _ (some 60) _ = _
      simp only [Act.put, List.setIfInBounds_toArray, List.set_cons_zero, List.set_cons_succ, i64_w, i32_w]
      rfl
     refine one_ (i := 8) (N := some 66) (bN 12 511) rfl rfl (by kernel_rfl) (by decide) (fun K hK => ?_)
     have hd := Kd.C_drop (m := 1) (c := c) HR.out (by rw [List.length_cons]; omega) HC.out
     rw [if_pos HC1.out] at hd
     have hrow : Kd.C k60 u4 A r.length r := Kd.C_foot_neS (S := fun k => k = g) (fun h => h) hd (fun ad e hn hq => HF.out ad e (by rw [List.length_cons]; omega) (hq ▸ hS)) u4 (KWe.out.then_ (KeptB.of_below HB4.out (fun _ => False)) (fun _ q => q.elim)).kept
     clear hd
     refine Kd.R_append_rows_step k60 (Rr := k60.K u4) (w0 := u3) u3.heap.size (by rfl) (.tmp 60) (.tmp 65) 26 60 (.agg #[.int .i64 0, .string ⟨#[]⟩, .string ⟨#[]⟩]) 40 rfl Try.underlying26 Mk.info53 rfl (show 0 < 3 by decide) (by decide) vl [y] r A r.length (c - 1) (fun k => u3.heap.size ≤ k) (fun _ => False) (by rfl) (by rfl) HO4.out hrow (fun x cs hx => by obtain rfl := k60_open hx; exact k60_mkM _ _ _ x) (fun _ q => q.elim) (fun k hk => Nat.le_trans HB4.out.size hk) HB4.out HB4.out.size (by have := HLN.out; simp only [List.length_singleton]; omega) ?_
     intro v5 u5 ho5 hb5 hg5_ hat5_
     clear hg5_ hat5_ hrow
     obtain ⟨Ao, co, eo⟩ := Kd.R_slice ho5
     subst eo
     have HO5 := aM ho5
     have HB5 := aM hb5
     clear ho5 hb5
     refine hK.out _ _ ⟨pw_cell_below HB5.out H0.out.1, pw_cell_below HB5.out H0.out.2.1, pw_cell_below HB5.out H0.out.2.2.1, pw_cell_below HB5.out H0.out.2.2.2⟩ (fun hHeld => ?_)
     clear hK K
     refine norm_ (a' := ?_) ?_ ?_
     rotate_left
     ·show Act.put _ (some 66) _ = _
      simp only [Act.put, List.setIfInBounds_toArray, List.set_cons_zero, List.set_cons_succ, i64_w, i32_w]
      rfl
     refine pW 9 67 (bN 12 1023) ?_
     refine pW 10 68 (bN 12 2047) ?_
     refine last_ (i := 11) (N := none) (bN 12 4095) rfl rfl (by kernel_rfl) (by decide) (fun K hK => ?_)
     have KG5 := blk_below KGe.out HB5.out
     have k0 := (blk_cell KG5 0).trans (show _ = some (Value.slice A (r.length + 1) c) from rfl)
     have k1 := blk_frozen KG5 0
     refine skip_ (w1 := ?_) (by rfl) rfl ?_ ?_
     rotate_left
     ·go_simp
      rfl
     refine hK.out _ _ ?_
     clear hK K
     refine done_ (by kernel_rfl) ?_
     have KG5 := blk_below KGe.out HB5.out
     have BR5 := blk_below BRe.out HB5.out
     have C65 := blk_below C6e.out HB5.out
     have lg := blk_lt KGe.out
     have lr := blk_lt BRe.out
     have KW5 := KWe.out.then_ (KeptB.of_below HB5.out (fun _ => False)) (fun _ q => q.elim)
     have BG5 := aM (blk_put (cs' := #[.slice Ao (r.length + 1) co]) KG5 0 (.slice Ao (r.length + 1) co) rfl)
     have BR6 := aM (blk_far BR5 (p := ⟨g, 0, none⟩) n1 (.slice Ao (r.length + 1) co))
     have C66 := aM (blk_far C65 (p := ⟨g, 0, none⟩) m5.symm (.slice Ao (r.length + 1) co))
     have KW6 := aM (KW5.setCell (p := ⟨g, 0, none⟩) (.inl rfl) (.slice Ao (r.length + 1) co))
     have K56 := aM ((Kept.refl u5 (fun k => k = g ∨ k = gr)).setCell (p := ⟨g, 0, none⟩) (.inl (.inl rfl)) (.slice Ao (r.length + 1) co))
     clear KG5 BR5 C65 KW5 hHeld
     clear k0 k1
     generalize u5.setCell ⟨g, 0, none⟩ (.slice Ao (r.length + 1) co) = u6 at BG5 BR6 C66 KW6 K56 ⊢
     obtain ⟨i0, i1, i2, -⟩ := bx3 C66.out
     obtain ⟨s0, s1, s2, r0, r1, r2⟩ := bx3 BR6.out
     go_wp2_with fail
     have BG := blk_far (blk_far (blk_far (BG5.out) (p := ⟨gr, 0, none⟩) n2 (.int .i64 x.f0)) (p := ⟨gr, 1, none⟩) n2 (.string x.f1)) (p := ⟨gr, 2, none⟩) n2 (.string x.f2)
     have BB := blk_put (cs' := #[.int .i64 x.f0, .string x.f1, .string x.f2]) (blk_put (cs' := #[.int .i64 x.f0, .string x.f1, .string ⟨#[]⟩]) (blk_put (cs' := #[.int .i64 x.f0, .string ⟨#[]⟩, .string ⟨#[]⟩]) (BR6.out) 0 (.int .i64 x.f0) rfl) 1 (.string x.f1) rfl) 2 (.string x.f2) rfl
     have KW := (((KW6.out).setCell (p := ⟨gr, 0, none⟩) (.inr hgr) (.int .i64 x.f0)).setCell (p := ⟨gr, 1, none⟩) (.inr hgr) (.string x.f1)).setCell (p := ⟨gr, 2, none⟩) (.inr hgr) (.string x.f2)
     have KV := (((K56.out).setCell (p := ⟨gr, 0, none⟩) (.inl (.inr rfl)) (.int .i64 x.f0)).setCell (p := ⟨gr, 1, none⟩) (.inl (.inr rfl)) (.string x.f1)).setCell (p := ⟨gr, 2, none⟩) (.inl (.inr rfl)) (.string x.f2)
     refine bodyPost_ret (results_cell_row rfl _ _ gr 60 #[.int .i64 x.f0, .string x.f1, .string x.f2] (0, 0) _ rfl BB Try.underlying60 rfl (by kernel_rfl)) rfl ?_
     rw [show restP y r = y :: r from if_neg HZ.out]
     obtain ⟨_, hcap, hreads⟩ := Kd.R_reads' HO5.out
     have hfresh : ∀ ad, Ao = some ad → u3.heap.size ≤ ad.block := fun ad e => HO5.out.1 ad.block (by subst e; rfl)
     have hsz : w.heap.size ≤ u3.heap.size := KWe.out.kept.1
     refine ⟨rfl, ⟨Ao, co, BG, hcap, ?_, ?_⟩, KW⟩
     ·refine Kd.C_foot_neS (S := fun k => k = g ∨ k = gr) (fun h => h) hreads (fun ad e hn hq => ?_) _ KV
      have h9 := hfresh ad e
      rcases hq with hq | hq <;> omega
     ·intro ad e hn hs9
      have h9 := hfresh ad e
      have h8 := HSB.out _ hs9
      omega
    ·have d1 : (c == 1) = false := beq_eq_false_iff_ne.mpr hc1
     have d2 : (c = 1) = False := eq_false hc1
     have HC1 := aM hc1
     clear hc1
     have lb : ((1 : Int) ≤ (r.length : Int) + 1) = True := eq_true (by omega)
     go_wp2_with fail
     refine start_ (n := 12) (S := fun w' => w'.cell? ⟨g7, 0, none⟩ = some (.int .i64 y.f0) ∧ w'.cell? ⟨g7, 1, none⟩ = some (.string y.f1) ∧ w'.cell? ⟨g7, 2, none⟩ = some (.string y.f2) ∧ w'.cell? ⟨g, 0, none⟩ = some (.slice A (r.length + 1) c)) (ds := [11]) (Array.replicate 12 false) (by kernel_rfl) rfl rfl ⟨(blk_cell (blk_drew C7.out) 0).trans rfl, (blk_cell (blk_drew C7.out) 1).trans rfl, (blk_cell (blk_drew C7.out) 2).trans rfl, (blk_cell (blk_drew KG3.out) 0).trans rfl⟩ (fun hHeld => ?_)
     have KWe := aM (KeptB.then_ KW3.out (KeptB.of_below (below_drew (Below.refl _ _)) (fun _ => False)) (fun _ q => q.elim))
     have KGe := aM (blk_drew KG3.out)
     have BRe := aM (blk_drew BR3.out)
     have C6e := aM (blk_drew C6.out)
     clear KW3 KG3 BR3 C6 C7 j0 j1 j2 i0 i1 i2 s0 s1 s2 r0 r1 r2 gg gf
     generalize v3.drew = u3 at KWe KGe BRe C6e hHeld ⊢
     have H0 := aM hHeld
     refine pW 0 58 (bN 12 1) ?_
     refine pW 3 61 (bN 12 9) ?_
     refine pW 4 62 (bN 12 25) ?_
     refine pW 5 63 (bN 12 57) ?_
     refine tW4 1 59 (bN 12 59) ?_
     refine tW4 6 64 (bN 12 123) ?_
     refine pW 7 65 (bN 12 251) ?_
     refine one_ (i := 2) (N := some 60) (bN 12 255) rfl rfl (by kernel_rfl) (by decide) (fun K hK => ?_)
     refine Kd.R_lit_step k60 (w0 := u3) u3.heap.size 60 (by rfl) (N := 60) rfl (xs := [y]) (inner := [.int .i64 y.f0, .string y.f1, .string y.f2]) (ok := fun k => u3.heap.size ≤ k) (okp := fun _ => False) (by first | (go_simp; done) | (go_simp; rfl)) (Reps.c3 (k60_mkM _ _ _ y) (Reps.none _ _)) (fun _ q => q.elim) (Nat.le_refl _) (Below.refl _ _) (Nat.le_refl _) (by simp) ?_
     intro vl u4 ho4 hb4 hg4_ hnew4_
     clear hg4_ hnew4_
     have HO4 := aM ho4
     have HB4 := aM hb4
     clear ho4 hb4
     refine hK.out _ _ ⟨pw_cell_below HB4.out H0.out.1, pw_cell_below HB4.out H0.out.2.1, pw_cell_below HB4.out H0.out.2.2.1, pw_cell_below HB4.out H0.out.2.2.2⟩ (fun hHeld => ?_)
     clear hK K
     refine norm_ (a' := ?_) ?_ ?_
     rotate_left
     ·show Act.put _ (some 60) _ = _
      simp only [Act.put, List.setIfInBounds_toArray, List.set_cons_zero, List.set_cons_succ, i64_w, i32_w]
      rfl
     refine one_ (i := 8) (N := some 66) (bN 12 511) rfl rfl (by kernel_rfl) (by decide) (fun K hK => ?_)
     have hd := Kd.C_drop (m := 1) (c := c) HR.out (by rw [List.length_cons]; omega) HC.out
     rw [if_neg HC1.out] at hd
     have hrow : Kd.C k60 u4 (Option.map (fun x => ⟨x.block, x.off + 3, none⟩) A) r.length r := Kd.C_foot_neS (S := fun k => k = g) (fun h => h) hd (fun ad e hn hq => by obtain ⟨a0, ea, eb⟩ := Option.map_eq_some_iff.1 e; have hb0 : a0.block = ad.block := (by subst eb; rfl); exact HF.out a0 ea (by rw [List.length_cons]; omega) (by rw [hb0, hq]; exact hS)) u4 (KWe.out.then_ (KeptB.of_below HB4.out (fun _ => False)) (fun _ q => q.elim)).kept
     clear hd
     refine Kd.R_append_rows_step k60 (Rr := k60.K u4) (w0 := u3) u3.heap.size (by rfl) (.tmp 60) (.tmp 65) 26 60 (.agg #[.int .i64 0, .string ⟨#[]⟩, .string ⟨#[]⟩]) 40 rfl Try.underlying26 Mk.info53 rfl (show 0 < 3 by decide) (by decide) vl [y] r (Option.map (fun x => ⟨x.block, x.off + 3, none⟩) A) r.length (c - 1) (fun k => u3.heap.size ≤ k) (fun _ => False) (by rfl) (by rfl) HO4.out hrow (fun x cs hx => by obtain rfl := k60_open hx; exact k60_mkM _ _ _ x) (fun _ q => q.elim) (fun k hk => Nat.le_trans HB4.out.size hk) HB4.out HB4.out.size (by have := HLN.out; simp only [List.length_singleton]; omega) ?_
     intro v5 u5 ho5 hb5 hg5_ hat5_
     clear hg5_ hat5_ hrow
     obtain ⟨Ao, co, eo⟩ := Kd.R_slice ho5
     subst eo
     have HO5 := aM ho5
     have HB5 := aM hb5
     clear ho5 hb5
     refine hK.out _ _ ⟨pw_cell_below HB5.out H0.out.1, pw_cell_below HB5.out H0.out.2.1, pw_cell_below HB5.out H0.out.2.2.1, pw_cell_below HB5.out H0.out.2.2.2⟩ (fun hHeld => ?_)
     clear hK K
     refine norm_ (a' := ?_) ?_ ?_
     rotate_left
     ·show Act.put _ (some 66) _ = _
      simp only [Act.put, List.setIfInBounds_toArray, List.set_cons_zero, List.set_cons_succ, i64_w, i32_w]
      rfl
     refine pW 9 67 (bN 12 1023) ?_
     refine pW 10 68 (bN 12 2047) ?_
     refine last_ (i := 11) (N := none) (bN 12 4095) rfl rfl (by kernel_rfl) (by decide) (fun K hK => ?_)
     have KG5 := blk_below KGe.out HB5.out
     have k0 := (blk_cell KG5 0).trans (show _ = some (Value.slice A (r.length + 1) c) from rfl)
     have k1 := blk_frozen KG5 0
     refine skip_ (w1 := ?_) (by rfl) rfl ?_ ?_
     rotate_left
     ·go_simp
      rfl
     refine hK.out _ _ ?_
     clear hK K
     refine done_ (by kernel_rfl) ?_
     have KG5 := blk_below KGe.out HB5.out
     have BR5 := blk_below BRe.out HB5.out
     have C65 := blk_below C6e.out HB5.out
     have lg := blk_lt KGe.out
     have lr := blk_lt BRe.out
     have KW5 := KWe.out.then_ (KeptB.of_below HB5.out (fun _ => False)) (fun _ q => q.elim)
     have BG5 := aM (blk_put (cs' := #[.slice Ao (r.length + 1) co]) KG5 0 (.slice Ao (r.length + 1) co) rfl)
     have BR6 := aM (blk_far BR5 (p := ⟨g, 0, none⟩) n1 (.slice Ao (r.length + 1) co))
     have C66 := aM (blk_far C65 (p := ⟨g, 0, none⟩) m5.symm (.slice Ao (r.length + 1) co))
     have KW6 := aM (KW5.setCell (p := ⟨g, 0, none⟩) (.inl rfl) (.slice Ao (r.length + 1) co))
     have K56 := aM ((Kept.refl u5 (fun k => k = g ∨ k = gr)).setCell (p := ⟨g, 0, none⟩) (.inl (.inl rfl)) (.slice Ao (r.length + 1) co))
     clear KG5 BR5 C65 KW5 hHeld
     clear k0 k1
     generalize u5.setCell ⟨g, 0, none⟩ (.slice Ao (r.length + 1) co) = u6 at BG5 BR6 C66 KW6 K56 ⊢
     obtain ⟨i0, i1, i2, -⟩ := bx3 C66.out
     obtain ⟨s0, s1, s2, r0, r1, r2⟩ := bx3 BR6.out
     go_wp2_with fail
     have BG := blk_far (blk_far (blk_far (BG5.out) (p := ⟨gr, 0, none⟩) n2 (.int .i64 x.f0)) (p := ⟨gr, 1, none⟩) n2 (.string x.f1)) (p := ⟨gr, 2, none⟩) n2 (.string x.f2)
     have BB := blk_put (cs' := #[.int .i64 x.f0, .string x.f1, .string x.f2]) (blk_put (cs' := #[.int .i64 x.f0, .string x.f1, .string ⟨#[]⟩]) (blk_put (cs' := #[.int .i64 x.f0, .string ⟨#[]⟩, .string ⟨#[]⟩]) (BR6.out) 0 (.int .i64 x.f0) rfl) 1 (.string x.f1) rfl) 2 (.string x.f2) rfl
     have KW := (((KW6.out).setCell (p := ⟨gr, 0, none⟩) (.inr hgr) (.int .i64 x.f0)).setCell (p := ⟨gr, 1, none⟩) (.inr hgr) (.string x.f1)).setCell (p := ⟨gr, 2, none⟩) (.inr hgr) (.string x.f2)
     have KV := (((K56.out).setCell (p := ⟨gr, 0, none⟩) (.inl (.inr rfl)) (.int .i64 x.f0)).setCell (p := ⟨gr, 1, none⟩) (.inl (.inr rfl)) (.string x.f1)).setCell (p := ⟨gr, 2, none⟩) (.inl (.inr rfl)) (.string x.f2)
     refine bodyPost_ret (results_cell_row rfl _ _ gr 60 #[.int .i64 x.f0, .string x.f1, .string x.f2] (0, 0) _ rfl BB Try.underlying60 rfl (by kernel_rfl)) rfl ?_
     rw [show restP y r = y :: r from if_neg HZ.out]
     obtain ⟨_, hcap, hreads⟩ := Kd.R_reads' HO5.out
     have hfresh : ∀ ad, Ao = some ad → u3.heap.size ≤ ad.block := fun ad e => HO5.out.1 ad.block (by subst e; rfl)
     have hsz : w.heap.size ≤ u3.heap.size := KWe.out.kept.1
     refine ⟨rfl, ⟨Ao, co, BG, hcap, ?_, ?_⟩, KW⟩
     ·refine Kd.C_foot_neS (S := fun k => k = g ∨ k = gr) (fun h => h) hreads (fun ad e hn hq => ?_) _ KV
      have h9 := hfresh ad e
      rcases hq with hq | hq <;> omega
     ·intro ad e hn hs9
      have h9 := hfresh ad e
      have h8 := HSB.out _ hs9
      omega
/- What follows wants the words of 43. -/
def szI (p : S60) : Int := wrap64 (wrap64 (p.f0 + (p.f1.size : Int)) + (p.f2.size : Int))
theorem rd_lt {w : World} {g : Nat} {l : List S60} {S : Nat → Prop} (h : IsRd w g l S) : g < w.heap.size := by
 obtain ⟨A, c, h1, _⟩ := h
 exact blk_lt h1
theorem IsRd.low {w : World} {g : Nat} {l : List S60} {S : Nat → Prop} (h : IsRd w g l S) : ∃ (A : Option Addr) (c : Nat), w.heap[g]? = some (.cells #[.slice A l.length c] 68 (0, 0)) ∧ l.length ≤ c ∧ Kd.C k60 w A l.length l ∧ (∀ ad, A = some ad → 0 < l.length → ¬ S ad.block ∧ ad.block < w.heap.size) := by
 obtain ⟨A, c, h1, h2, h3, h4⟩ := h
 refine ⟨A, c, h1, h2, h3, fun ad e hn => ⟨h4 ad e hn, ?_⟩⟩
 obtain ⟨ad', e3, hx0, _, _⟩ := at_T60 h3 0 (Int.le_refl _) (by omega)
 rw [e] at e3
 obtain rfl := Option.some.inj e3
 rw [show ((0 : Int)).toNat = 0 from rfl, show 0 * 3 = 0 from rfl, Addr.add_zero'] at hx0
 exact World.block_lt_of_cell? w _ hx0
theorem IsRd.next {w w' : World} {g : Nat} {l : List S60} {S P S' : Nat → Prop} (h : IsRd w g l S) (hk : Kept w w' P) (hP : ∀ k, P k → S k) (hg : ¬ P g) (hs : ∀ k, S' k → S k ∨ w.heap.size ≤ k) : IsRd w' g l S' := by
 obtain ⟨A, c, h1, h2, h3, h4⟩ := h.low
 refine ⟨A, c, blk_kept h1 hk hg, h2, ?_, fun ad e hn q => ?_⟩
 rotate_left
 ·obtain ⟨a1, a2⟩ := h4 ad e hn
  rcases hs _ q with q | q
  rotate_left
  ·omega
  exact a1 q
 exact Kd.C_foot_neS (S := P) (fun h => h) h3 (fun ad e hn hq => (h4 ad e hn).1 (hP _ hq)) w' hk
theorem IsRd.cell {w : World} {g : Nat} {l : List S60} {S : Nat → Prop} (h : IsRd w g l S) : ∃ (A : Option Addr) (c : Nat), w.cell? ⟨g, 0, none⟩ = some (.slice A l.length c) := by
 obtain ⟨A, c, h1, _⟩ := h
 exact ⟨A, c, (blk_cell h1 0).trans rfl⟩
abbrev Cells3 (w : World) (g : Nat) (p : S60) : Prop := w.heap[g]? = some (.cells #[.int .i64 p.f0, .string p.f1, .string p.f2] 60 (0, 0))
def put3 (w : World) (g : Nat) (p : S60) : World := ((w.setCell ⟨g, 0, none⟩ (.int .i64 p.f0)).setCell ⟨g, 1, none⟩ (.string p.f1)).setCell ⟨g, 2, none⟩ (.string p.f2)
theorem put3_is {w : World} {g : Nat} {q : S60} (h : Cells3 w g q) (p : S60) : Cells3 (put3 w g p) g p :=
 blk_put (cs' := #[.int .i64 p.f0, .string p.f1, .string p.f2]) (blk_put (cs' := #[.int .i64 p.f0, .string p.f1, .string q.f2]) (blk_put (cs' := #[.int .i64 p.f0, .string q.f1, .string q.f2]) h 0 (.int .i64 p.f0) rfl) 1 (.string p.f1) rfl) 2 (.string p.f2) rfl
theorem put3_far {w : World} {g b : Nat} {cs : Array Value} {t : Nat} (h : w.heap[g]? = some (.cells cs t (0, 0))) (hne : g ≠ b) (p : S60) : (put3 w b p).heap[g]? = some (.cells cs t (0, 0)) :=
 blk_far (blk_far (blk_far h (p := ⟨b, 0, none⟩) hne (.int .i64 p.f0)) (p := ⟨b, 1, none⟩) hne (.string p.f1)) (p := ⟨b, 2, none⟩) hne (.string p.f2)
theorem kept_put3 {w W : World} {S : Nat → Prop} (h : KeptB w W S) {g : Nat} (hg : S g ∨ w.heap.size ≤ g) (p : S60) : KeptB w (put3 W g p) S :=
 ((h.setCell (p := ⟨g, 0, none⟩) hg _).setCell (p := ⟨g, 1, none⟩) hg _).setCell (p := ⟨g, 2, none⟩) hg _
abbrev zP : S60 := ⟨0, ⟨#[]⟩, ⟨#[]⟩⟩
def tkG (s : List Mk.Pt × ByteArray × ByteArray) (p : S60) : Option (List Mk.Pt × ByteArray × ByteArray) :=
 if s.1.length ≤ 900 ∧ s.2.1.size + p.f1.size ≤ 4611686018427387904 ∧ s.2.2.size + p.f2.size ≤ 4611686018427387904 then some (takeP s (toP p)) else none
theorem tkG_is {s z : List Mk.Pt × ByteArray × ByteArray} {p : S60} (h : tkG s p = some z) : (s.1.length ≤ 900 ∧ s.2.1.size + p.f1.size ≤ 4611686018427387904 ∧ s.2.2.size + p.f2.size ≤ 4611686018427387904) ∧ z = takeP s (toP p) := by
 unfold tkG at h
 by_cases c : s.1.length ≤ 900 ∧ s.2.1.size + p.f1.size ≤ 4611686018427387904 ∧ s.2.2.size + p.f2.size ≤ 4611686018427387904
 rotate_left
 ·rw [if_neg c] at h; cases h
 rw [if_pos c] at h; exact ⟨c, (Option.some.inj h).symm⟩
theorem restP_len (y : S60) (r : List S60) : (restP y r).length ≤ r.length + 1 := by
 unfold restP; split
 rotate_left
 ·simp
 omega
theorem ba_injI {a b : ByteArray} (h : a.toList = b.toList) : a = b := by
 rw [ByteArray.toList_eq, ByteArray.toList_eq] at h
 exact ByteArray.ext (Array.toList_inj.1 h)
theorem IsRd.mono {w : World} {g : Nat} {l : List S60} {S S' : Nat → Prop} (h : IsRd w g l S) (hs : ∀ k, S' k → S k) : IsRd w g l S' := by
 obtain ⟨A, c, h1, h2, h3, h4⟩ := h
 exact ⟨A, c, h1, h2, h3, fun ad e hn q => h4 ad e hn (hs _ q)⟩
theorem nilT : (⟨#[]⟩ : ByteArray).toList = ([] : List UInt8) := by rw [ByteArray.toList_eq]
end Go.Proofs.Ytoagljlnfakgjaa.PFnDiamond
