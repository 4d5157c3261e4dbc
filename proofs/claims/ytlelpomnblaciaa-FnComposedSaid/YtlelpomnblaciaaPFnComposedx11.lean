/- (thin) Written by a program of this session (wip/ovl.py) over the kit's print: plain functions with the answers of the Go functions, and the proofs that they are; no condition. -/
import Derived.Test.YtlelpomnblaciaaPFnComposedx0
namespace Go.Proofs.Ytlelpomnblaciaa.PFnComposed
open Go.RowKit Go.Proofs.YtlelpomnblaciaaW.PrintWords Go.Proofs.YtlelpomnblaciaaW.PrintLast Go.Proofs.YtlelpomnblaciaaW.PrintMore
attribute [local go_sem] max2_int min2_int max_two min_two max_three min_three max_four min_four   -- for this text's walks alone
set_option linter.unusedVariables false
set_option linter.unusedSimpArgs false
mutual
def jJ.l0 : Nat → ByteArray → ByteArray → List (S53) → Int → Int → Option (ByteArray × Bool)
 | 0, _, _, _, _, _ => none
 | k + 1, x1, x6, x10, x11, x12 => if x12 < x11 then (if 0 ≤ x12 then (if x12 < (x10.length : Int) then (if (wrap64 (((rd_T53 x10 x12).f0) + (((rd_T53 x10 x12).f2).size : Int))) > (x1.size : Int) then (jJ.j1 k x1 x6 (wrap64 (((rd_T53 x10 x12).f0) + (((rd_T53 x10 x12).f2).size : Int))) x10 x11 x12 true ((rd_T53 x10 x12).f0) ((rd_T53 x10 x12).f1) ((rd_T53 x10 x12).f2)) else (if ((rd_T53 x10 x12).f2).toList = ([] : List UInt8) then (jJ.j1 k x1 x6 (wrap64 (((rd_T53 x10 x12).f0) + (((rd_T53 x10 x12).f2).size : Int))) x10 x11 x12 false ((rd_T53 x10 x12).f0) ((rd_T53 x10 x12).f1) ((rd_T53 x10 x12).f2)) else (if 0 ≤ (wrap64 (((rd_T53 x10 x12).f0) + (((rd_T53 x10 x12).f2).size : Int))) then (if (wrap64 (((rd_T53 x10 x12).f0) + (((rd_T53 x10 x12).f2).size : Int))) ≤ (x1.size : Int) then (jJ.j1 k x1 x6 (wrap64 (((rd_T53 x10 x12).f0) + (((rd_T53 x10 x12).f2).size : Int))) x10 x11 x12 ((x1.extract 0 ((wrap64 (((rd_T53 x10 x12).f0) + (((rd_T53 x10 x12).f2).size : Int))) : Int).toNat).toList != ((rd_T53 x10 x12).f2).toList) ((rd_T53 x10 x12).f0) ((rd_T53 x10 x12).f1) ((rd_T53 x10 x12).f2)) else (none)) else (none)))) else (none)) else (none)) else (some (x6, (x1.toList == ([] : List UInt8))))
def jJ.j1 : Nat → ByteArray → ByteArray → Int → List (S53) → Int → Int → Bool → Int → ByteArray → ByteArray → Option (ByteArray × Bool)
 | 0, _, _, _, _, _, _, _, _, _, _ => none
 | k + 1, x1, x6, x9, x10, x11, x12, x38, x184000, x184001, x184002 => if x38 = true then (some ((⟨#[]⟩ : ByteArray), false)) else (if x184000 > 0 then (if 0 ≤ x9 then (if x9 ≤ (x1.size : Int) then (if x6.size + (x1.extract 0 (x9 : Int).toNat).size ≤ 9223372036854775807 then (if (x6 ++ (x1.extract 0 (x9 : Int).toNat)).size + x184001.size ≤ 9223372036854775807 then (jJ.l0 k (x1.extract (x9 : Int).toNat x1.size) ((x6 ++ (x1.extract 0 (x9 : Int).toNat)) ++ x184001) x10 x11 (wrap64 (x12 + 1))) else (none)) else (none)) else (none)) else (none)) else (if x6.size + x184001.size ≤ 9223372036854775807 then (if 0 ≤ x9 then (if x9 ≤ (x1.size : Int) then (jJ.l0 k (x1.extract (x9 : Int).toNat x1.size) (x6 ++ x184001) x10 x11 (wrap64 (x12 + 1))) else (none)) else (none)) else (none)))
end
def jJ.f (k : Nat) (l0 : List (S53)) (a1 : ByteArray) : Option (ByteArray × Bool) := jJ.l0 k a1 (⟨#[]⟩ : ByteArray) l0 (l0.length : Int) 0
theorem jJ.mono_l : ∀ k, (∀ y0 y1 y2 y3 y4, LeO (jJ.l0 k y0 y1 y2 y3 y4) (jJ.l0 (k + 1) y0 y1 y2 y3 y4)) ∧ (∀ y0 y1 y2 y3 y4 y5 y6 y7 y8 y9, LeO (jJ.j1 k y0 y1 y2 y3 y4 y5 y6 y7 y8 y9) (jJ.j1 (k + 1) y0 y1 y2 y3 y4 y5 y6 y7 y8 y9))
 | 0 => ⟨fun _ _ _ _ _ r h => by simp [jJ.l0] at h, fun _ _ _ _ _ _ _ _ _ _ r h => by simp [jJ.j1] at h⟩
 | k + 1 => by
  obtain ⟨ih0, ih1⟩ := jJ.mono_l k
  refine ⟨?_, ?_⟩
  ·intro y0 y1 y2 y3 y4
   unfold jJ.l0
   repeat' first
   | (with_reducible exact ih0 _ _ _ _ _)
   | (with_reducible exact ih1 _ _ _ _ _ _ _ _ _ _)
   | (with_reducible exact LeO.refl _)
   | (with_reducible exact LeO.none _)
   | (with_reducible refine LeO.ite ?_ ?_)
   | (with_reducible refine LeO.bind ?_ (fun _ => ?_))
   | exact ih0 _ _ _ _ _
   | exact ih1 _ _ _ _ _ _ _ _ _ _
   | exact LeO.none _
   | refine LeO.ite ?_ ?_
   | refine LeO.bind ?_ (fun _ => ?_)
  ·intro y0 y1 y2 y3 y4 y5 y6 y7 y8 y9
   unfold jJ.j1
   repeat' first
   | (with_reducible exact ih0 _ _ _ _ _)
   | (with_reducible exact ih1 _ _ _ _ _ _ _ _ _ _)
   | (with_reducible exact LeO.refl _)
   | (with_reducible exact LeO.none _)
   | (with_reducible refine LeO.ite ?_ ?_)
   | (with_reducible refine LeO.bind ?_ (fun _ => ?_))
   | exact ih0 _ _ _ _ _
   | exact ih1 _ _ _ _ _ _ _ _ _ _
   | exact LeO.none _
   | refine LeO.ite ?_ ?_
   | refine LeO.bind ?_ (fun _ => ?_)
theorem jJ.mono : ∀ a0 a1 k, LeO (jJ.f k a0 a1) (jJ.f (k + 1) a0 a1) := by
 intro a0 a1 k
 obtain ⟨ih0, ih1⟩ := jJ.mono_l k
 unfold jJ.f
 repeat' first
   | (with_reducible exact ih0 _ _ _ _ _)
   | (with_reducible exact ih1 _ _ _ _ _ _ _ _ _ _)
   | (with_reducible exact LeO.refl _)
   | (with_reducible exact LeO.none _)
   | (with_reducible refine LeO.ite ?_ ?_)
   | (with_reducible refine LeO.bind ?_ (fun _ => ?_))
   | exact ih0 _ _ _ _ _
   | exact ih1 _ _ _ _ _ _ _ _ _ _
   | exact LeO.none _
   | refine LeO.ite ?_ ?_
   | refine LeO.bind ?_ (fun _ => ?_)
set_option maxHeartbeats 8000000 in
set_option maxRecDepth 100000 in
theorem jJ.calls (k : Nat) (A0 : Option Addr) (c0 : Nat) (l0 : List (S53)) (a1 : ByteArray) (r1 : ByteArray) (r2 : Bool) (w : World) (hr0 : Kd.C k53 w A0 l0.length l0) (hc0 : l0.length ≤ c0) (h : jJ.f k l0 a1 = some (r1, r2)) :
  Calls Try.prog 54 #[.slice A0 l0.length c0, .string a1] w fun e w' => e = .returned (.tuple #[.string r1, .bool r2]) ∧ Below w.heap.size w w' := by
 have hu53 := Try.underlying53
 have HR0 := aM hr0
 have HC0 := aM hc0
 clear hr0 hc0
 have HB := aM (Below.refl w.heap.size w)
 have H : (jJ.l0 k a1 (⟨#[]⟩ : ByteArray) l0 (l0.length : Int) 0) = some (r1, r2) := h
 clear h
 have H' := aM H
 clear H
 go_enter Try.func54, Try.ntmps54
 go_wp2
 repeat (go_quiet (fail); try go_wp2)
 go_loopg [1, 6, 12] k (fun kq v1 v6 v12 w' => ∃ (x1_1 : ByteArray) (x6_1 : ByteArray) (x12_1 : Int), v1 = .string x1_1 ∧ v6 = .string x6_1 ∧ v12 = .int .i64 x12_1 ∧ Aside0 (jJ.l0 kq x1_1 x6_1 l0 (l0.length : Int) x12_1 = some (r1, r2)) ∧ Aside0 (kq ≤ k) ∧ Aside0 (Below w.heap.size w w'))
 case atStart => exact ⟨(a1), ((⟨#[]⟩ : ByteArray)), (0), aP16, aP16, aP16, H', ⟨Nat.le_refl _⟩, ⟨bB⟩⟩
 case round =>
  clear H'
  try clear p2
  obtain ⟨x1_1, x6_1, x12_1, rfl, rfl, rfl, HA, HK1, HB⟩ := hrel
  cases gk with
  | zero => exact absurd HA.out (by simp [jJ.l0])
  | succ k1 =>
   have H := HA.out
   clear HA
   simp only [jJ.l0] at H
   by_cases c3 : x12_1 < (l0.length : Int)
   rotate_left
   ·rw [if_neg c3] at H
    have c3b0 : decide (x12_1 < (l0.length : Int)) = false := decide_eq_false c3
    clear c3
    simp only [Option.some.injEq, Prod.mk.injEq] at H
    obtain ⟨rfl, rfl⟩ := H
    go_wp2
    repeat (go_quiet (fail); try go_wp2)
    go_ret2
    exact ⟨by first | rfl | (simp [errW_none, errW_some] <;> rfl) | (simp [errW_none, errW_some]; exact isE _) | (simp [*, errW_none, errW_some] <;> rfl), bB⟩
   rw [if_pos c3] at H
   have c3b0 : decide (x12_1 < (l0.length : Int)) = true := decide_eq_true c3
   clear c3
   by_cases c4 : 0 ≤ x12_1
   rotate_left
   ·rw [if_neg c4] at H
    exact absurd H (by simp)
   rw [if_pos c4] at H
   have c4b0 : decide (0 ≤ x12_1) = true := decide_eq_true c4
   clear c4
   by_cases c5 : x12_1 < (l0.length : Int)
   rotate_left
   ·rw [if_neg c5] at H
    exact absurd H (by simp)
   rw [if_pos c5] at H
   have c5b0 : decide (x12_1 < (l0.length : Int)) = true := decide_eq_true c5
   clear c5
   have HC6 := aM H
   clear H
   have p182 : 0 ≤ (x12_1 : Int) := of_decide_eq_true (by assumption)
   have q182 : x12_1 < (l0.length : Int) := of_decide_eq_true (by assumption)
   obtain ⟨ad182, e182, hx182_0, hx182_1, hx182_2⟩ := at_T53 HR0.out x12_1 p182 q182
   cases e182
   replace hx182_0 := (HB.out.cell (World.block_lt_of_cell? w _ hx182_0)).trans hx182_0
   replace hx182_1 := (HB.out.cell (World.block_lt_of_cell? w _ hx182_1)).trans hx182_1
   replace hx182_2 := (HB.out.cell (World.block_lt_of_cell? w _ hx182_2)).trans hx182_2
   replace p182 := eq_true p182
   replace q182 := eq_true q182
   go_upto_region 6 with (first | ((with_reducible refine gate_dst (N := 8) rfl ?_); refine box_event ?hg (N := 8) ?hd (cs := #[.int .i64 0, .string (⟨#[]⟩ : ByteArray), .string (⟨#[]⟩ : ByteArray)]) (t := 53) ?hr ?_; (case hd => rfl); (case hg => rfl); (case hr => exact aP21); intro gb183 hg w7 hbox hb; have n0_ := aM (below_step bB hb); have n1_ := aM (hbox); have n2_ := aM ((by rw [hg]; exact (below_size bB) : w.heap.size ≤ gb183)); have n3_ := aM ((by rw [hg]; exact (below_size bB) : w.heap.size ≤ gb183)); clear HB; have HB := n0_; have BK183 := n1_; have GW183 := n2_; have GE183 := n3_; clear n0_ n1_ n2_ n3_; clear hb hbox hg; have hcz8_0 : w7.cell? ⟨gb183, 0, none⟩ = some (.int .i64 0) := (blk_cell BK183.out 0).trans rfl; have hcz8_1 : w7.cell? ⟨gb183, 1, none⟩ = some (.string (⟨#[]⟩ : ByteArray)) := (blk_cell BK183.out 1).trans rfl; have hcz8_2 : w7.cell? ⟨gb183, 2, none⟩ = some (.string (⟨#[]⟩ : ByteArray)) := (blk_cell BK183.out 2).trans rfl; have hfz8_0 := blk_frozen BK183.out 0; have hfz8_1 := blk_frozen BK183.out 1; have hfz8_2 := blk_frozen BK183.out 2))
   repeat (go_quiet (first | ((with_reducible refine gate_dst (N := 8) rfl ?_); refine box_event ?hg (N := 8) ?hd (cs := #[.int .i64 0, .string (⟨#[]⟩ : ByteArray), .string (⟨#[]⟩ : ByteArray)]) (t := 53) ?hr ?_; (case hd => rfl); (case hg => rfl); (case hr => exact aP21); intro gb183 hg w7 hbox hb; have n0_ := aM (below_step bB hb); have n1_ := aM (hbox); have n2_ := aM ((by rw [hg]; exact (below_size bB) : w.heap.size ≤ gb183)); have n3_ := aM ((by rw [hg]; exact (below_size bB) : w.heap.size ≤ gb183)); clear HB; have HB := n0_; have BK183 := n1_; have GW183 := n2_; have GE183 := n3_; clear n0_ n1_ n2_ n3_; clear hb hbox hg; have hcz8_0 : w7.cell? ⟨gb183, 0, none⟩ = some (.int .i64 0) := (blk_cell BK183.out 0).trans rfl; have hcz8_1 : w7.cell? ⟨gb183, 1, none⟩ = some (.string (⟨#[]⟩ : ByteArray)) := (blk_cell BK183.out 1).trans rfl; have hcz8_2 : w7.cell? ⟨gb183, 2, none⟩ = some (.string (⟨#[]⟩ : ByteArray)) := (blk_cell BK183.out 2).trans rfl; have hfz8_0 := blk_frozen BK183.out 0; have hfz8_1 := blk_frozen BK183.out 1; have hfz8_2 := blk_frozen BK183.out 2)); go_upto_region 6 with (first | ((with_reducible refine gate_dst (N := 8) rfl ?_); refine box_event ?hg (N := 8) ?hd (cs := #[.int .i64 0, .string (⟨#[]⟩ : ByteArray), .string (⟨#[]⟩ : ByteArray)]) (t := 53) ?hr ?_; (case hd => rfl); (case hg => rfl); (case hr => exact aP21); intro gb183 hg w7 hbox hb; have n0_ := aM (below_step bB hb); have n1_ := aM (hbox); have n2_ := aM ((by rw [hg]; exact (below_size bB) : w.heap.size ≤ gb183)); have n3_ := aM ((by rw [hg]; exact (below_size bB) : w.heap.size ≤ gb183)); clear HB; have HB := n0_; have BK183 := n1_; have GW183 := n2_; have GE183 := n3_; clear n0_ n1_ n2_ n3_; clear hb hbox hg; have hcz8_0 : w7.cell? ⟨gb183, 0, none⟩ = some (.int .i64 0) := (blk_cell BK183.out 0).trans rfl; have hcz8_1 : w7.cell? ⟨gb183, 1, none⟩ = some (.string (⟨#[]⟩ : ByteArray)) := (blk_cell BK183.out 1).trans rfl; have hcz8_2 : w7.cell? ⟨gb183, 2, none⟩ = some (.string (⟨#[]⟩ : ByteArray)) := (blk_cell BK183.out 2).trans rfl; have hfz8_0 := blk_frozen BK183.out 0; have hfz8_1 := blk_frozen BK183.out 1; have hfz8_2 := blk_frozen BK183.out 2)))
   (try simp only [Act.put, List.setIfInBounds_toArray, List.set_cons_zero, List.set_cons_succ])
   go_cut [38] (fun v38 wc => ∃ (kq : Nat) (x38_5 : Bool), v38 = .bool x38_5 ∧ Aside0 (jJ.j1 kq x1_1 x6_1 (wrap64 (((rd_T53 l0 x12_1).f0) + (((rd_T53 l0 x12_1).f2).size : Int))) l0 (l0.length : Int) x12_1 x38_5 ((rd_T53 l0 x12_1).f0) ((rd_T53 l0 x12_1).f1) ((rd_T53 l0 x12_1).f2) = some (r1, r2)) ∧ Aside0 (kq ≤ k1) ∧ Aside0 (wc.heap[gb183]? = some (.cells #[.int .i64 ((rd_T53 l0 x12_1).f0), .string ((rd_T53 l0 x12_1).f1), .string ((rd_T53 l0 x12_1).f2)] 53 (0, 0))) ∧ Aside0 (Below w.heap.size w wc))
   case first =>
    have H := HC6.out
    clear HC6
    by_cases c9 : (wrap64 (((rd_T53 l0 x12_1).f0) + (((rd_T53 l0 x12_1).f2).size : Int))) > (x1_1.size : Int)
    ·rw [if_pos c9] at H
     have c9b0 : decide ((x1_1.size : Int) < (wrap64 (((rd_T53 l0 x12_1).f0) + (((rd_T53 l0 x12_1).f2).size : Int)))) = true := decide_eq_true c9
     clear c9
     (first | rw [c9b0] | (simp only [i64_w, i32_w]; rw [c9b0]) | rw [c9e] | skip)
     have H' := aM H
     clear H
     go_wp2
     repeat (go_quiet (fail); try go_wp2)
     go_meet
     case rel => exact ⟨_, (true), aP16, H', ⟨by have := HK1.out; first | omega | exact Nat.le_refl _⟩, ⟨by (with_reducible repeat (first | refine blk_drewN ?_ _ | refine blk_drew ?_ | refine blk_alloc ?_ _)); refine blk_put (cs := #[.int .i64 ((rd_T53 l0 x12_1).f0), .string ((rd_T53 l0 x12_1).f1), .string (⟨#[]⟩ : ByteArray)]) ?_ 2 _ rfl; (with_reducible repeat (first | refine blk_drewN ?_ _ | refine blk_drew ?_ | refine blk_alloc ?_ _)); refine blk_put (cs := #[.int .i64 ((rd_T53 l0 x12_1).f0), .string (⟨#[]⟩ : ByteArray), .string (⟨#[]⟩ : ByteArray)]) ?_ 1 _ rfl; (with_reducible repeat (first | refine blk_drewN ?_ _ | refine blk_drew ?_ | refine blk_alloc ?_ _)); refine blk_put (cs := #[.int .i64 0, .string (⟨#[]⟩ : ByteArray), .string (⟨#[]⟩ : ByteArray)]) ?_ 0 _ rfl; (with_reducible repeat (first | refine blk_drewN ?_ _ | refine blk_drew ?_ | refine blk_alloc ?_ _)); exact BK183.out⟩, ⟨aP10⟩⟩
    rw [if_neg c9] at H
    have c9b0 : decide ((x1_1.size : Int) < (wrap64 (((rd_T53 l0 x12_1).f0) + (((rd_T53 l0 x12_1).f2).size : Int)))) = false := decide_eq_false c9
    clear c9
    (first | rw [c9b0] | (simp only [i64_w, i32_w]; rw [c9b0]) | rw [c9e] | skip)
    by_cases c10 : ((rd_T53 l0 x12_1).f2).toList = ([] : List UInt8)
    ·rw [if_pos c10] at H
     have c10b0 : (((rd_T53 l0 x12_1).f2).toList == ([] : List UInt8)) = true := beq_iff_eq.mpr c10
     have c10b1 : (((rd_T53 l0 x12_1).f2).toList != ([] : List UInt8)) = false := bne_eq_false_iff_eq.mpr c10
     try have c10e : ((rd_T53 l0 x12_1).f2).toList.isEmpty = true := List.isEmpty_iff.mpr c10
     clear c10
     have H' := aM H
     clear H
     have hcz11_0 : w7.cell? ⟨gb183, 0, none⟩ = some (.int .i64 0) := (blk_cell BK183.out 0).trans rfl
     have hcz11_1 : w7.cell? ⟨gb183, 1, none⟩ = some (.string (⟨#[]⟩ : ByteArray)) := (blk_cell BK183.out 1).trans rfl
     have hcz11_2 : w7.cell? ⟨gb183, 2, none⟩ = some (.string (⟨#[]⟩ : ByteArray)) := (blk_cell BK183.out 2).trans rfl
     have hfz11_0 := blk_frozen BK183.out 0
     have hfz11_1 := blk_frozen BK183.out 1
     have hfz11_2 := blk_frozen BK183.out 2
     go_wp2
     repeat (go_quiet (fail); try go_wp2)
     go_meet
     case rel => exact ⟨_, (false), aP16, H', ⟨by have := HK1.out; first | omega | exact Nat.le_refl _⟩, ⟨by (with_reducible repeat (first | refine blk_drewN ?_ _ | refine blk_drew ?_ | refine blk_alloc ?_ _)); refine blk_put (cs := #[.int .i64 ((rd_T53 l0 x12_1).f0), .string ((rd_T53 l0 x12_1).f1), .string (⟨#[]⟩ : ByteArray)]) ?_ 2 _ rfl; (with_reducible repeat (first | refine blk_drewN ?_ _ | refine blk_drew ?_ | refine blk_alloc ?_ _)); refine blk_put (cs := #[.int .i64 ((rd_T53 l0 x12_1).f0), .string (⟨#[]⟩ : ByteArray), .string (⟨#[]⟩ : ByteArray)]) ?_ 1 _ rfl; (with_reducible repeat (first | refine blk_drewN ?_ _ | refine blk_drew ?_ | refine blk_alloc ?_ _)); refine blk_put (cs := #[.int .i64 0, .string (⟨#[]⟩ : ByteArray), .string (⟨#[]⟩ : ByteArray)]) ?_ 0 _ rfl; (with_reducible repeat (first | refine blk_drewN ?_ _ | refine blk_drew ?_ | refine blk_alloc ?_ _)); exact BK183.out⟩, ⟨aP10⟩⟩
    rw [if_neg c10] at H
    have c10b0 : (((rd_T53 l0 x12_1).f2).toList == ([] : List UInt8)) = false := beq_eq_false_iff_ne.mpr c10
    have c10b1 : (((rd_T53 l0 x12_1).f2).toList != ([] : List UInt8)) = true := bne_iff_ne.mpr c10
    try have c10e : ((rd_T53 l0 x12_1).f2).toList.isEmpty = false := List.isEmpty_eq_false_iff.mpr c10
    obtain ⟨ji12, hji12⟩ : ∃ j_ : Int, (wrap64 (((rd_T53 l0 x12_1).f0) + (((rd_T53 l0 x12_1).f2).size : Int))) = j_ := ⟨_, rfl⟩
    replace H : (if 0 ≤ (ji12) then (if (ji12) ≤ (x1_1.size : Int) then (jJ.j1 k1 x1_1 x6_1 ji12 l0 (l0.length : Int) x12_1 ((x1_1.extract 0 ((ji12) : Int).toNat).toList != ((rd_T53 l0 x12_1).f2).toList) ((rd_T53 l0 x12_1).f0) ((rd_T53 l0 x12_1).f1) ((rd_T53 l0 x12_1).f2)) else (none)) else (none)) = some (r1, r2) := by first | (rw [hji12] at H; exact H) | (simp only [hji12] at H ⊢; exact H)
    (try rw [hji12] at c9b0)
    have hji12w : (IntKind.i64.wrap (((rd_T53 l0 x12_1).f0) + (((rd_T53 l0 x12_1).f2).size : Int))) = ji12 := (i64_w _).trans hji12
    by_cases c13 : 0 ≤ (ji12)
    rotate_left
    ·rw [if_neg c13] at H
     exact absurd H (by simp)
    rw [if_pos c13] at H
    have c13b0 := eq_true c13
    have c13b1 : decide (0 ≤ (ji12)) = true := decide_eq_true c13
    clear c13
    by_cases c14 : (ji12) ≤ (x1_1.size : Int)
    rotate_left
    ·rw [if_neg c14] at H
     exact absurd H (by simp)
    rw [if_pos c14] at H
    have c14b0 := eq_true c14
    have c14b1 : decide ((ji12) ≤ (x1_1.size : Int)) = true := decide_eq_true c14
    clear c14
    have H' := aM H
    clear H
    have hcz15_0 : w7.cell? ⟨gb183, 0, none⟩ = some (.int .i64 0) := (blk_cell BK183.out 0).trans rfl
    have hcz15_1 : w7.cell? ⟨gb183, 1, none⟩ = some (.string (⟨#[]⟩ : ByteArray)) := (blk_cell BK183.out 1).trans rfl
    have hcz15_2 : w7.cell? ⟨gb183, 2, none⟩ = some (.string (⟨#[]⟩ : ByteArray)) := (blk_cell BK183.out 2).trans rfl
    have hfz15_0 := blk_frozen BK183.out 0
    have hfz15_1 := blk_frozen BK183.out 1
    have hfz15_2 := blk_frozen BK183.out 2
    go_wp2
    repeat (go_quiet (fail); try go_wp2)
    go_meet
    case rel => exact ⟨_, (((x1_1.extract 0 ((ji12) : Int).toNat).toList != ((rd_T53 l0 x12_1).f2).toList)), (by first | rfl | (simp; done) | (simp only [← hji12] <;> (first | rfl | (simp; done) | (simp; exact isE _))) | (simp [*]; done)), (by first | exact H' | (rw [hji12]; exact H')), ⟨by have := HK1.out; first | omega | exact Nat.le_refl _⟩, ⟨by (with_reducible repeat (first | refine blk_drewN ?_ _ | refine blk_drew ?_ | refine blk_alloc ?_ _)); refine blk_put (cs := #[.int .i64 ((rd_T53 l0 x12_1).f0), .string ((rd_T53 l0 x12_1).f1), .string (⟨#[]⟩ : ByteArray)]) ?_ 2 _ rfl; (with_reducible repeat (first | refine blk_drewN ?_ _ | refine blk_drew ?_ | refine blk_alloc ?_ _)); refine blk_put (cs := #[.int .i64 ((rd_T53 l0 x12_1).f0), .string (⟨#[]⟩ : ByteArray), .string (⟨#[]⟩ : ByteArray)]) ?_ 1 _ rfl; (with_reducible repeat (first | refine blk_drewN ?_ _ | refine blk_drew ?_ | refine blk_alloc ?_ _)); refine blk_put (cs := #[.int .i64 0, .string (⟨#[]⟩ : ByteArray), .string (⟨#[]⟩ : ByteArray)]) ?_ 0 _ rfl; (with_reducible repeat (first | refine blk_drewN ?_ _ | refine blk_drew ?_ | refine blk_alloc ?_ _)); exact BK183.out⟩, ⟨aP10⟩⟩
   case rest =>
    clear HC6
    try clear c1
    try clear p1
    try clear q1
    try clear hx1
    try clear p2
    try clear c3
    try clear c3b0
    try clear c4
    try clear c4b0
    try clear c5
    try clear c5b0
    try clear p6
    try clear c9
    try clear c9b0
    try clear c10
    try clear c10b0
    try clear c10b1
    try clear c13
    try clear c13b0
    try clear c13b1
    try clear c14
    try clear c14b0
    try clear c14b1
    try clear hcz11_0
    try clear hcz11_1
    try clear hcz11_2
    try clear hcz15_0
    try clear hcz15_1
    try clear hcz15_2
    try clear hcz8_0
    try clear hcz8_1
    try clear hcz8_2
    try clear hfz11_0
    try clear hfz11_1
    try clear hfz11_2
    try clear hfz15_0
    try clear hfz15_1
    try clear hfz15_2
    try clear hfz8_0
    try clear hfz8_1
    try clear hfz8_2
    try clear hx182_0
    try clear hx182_1
    try clear hx182_2
    try clear p182
    try clear p2
    try clear q182
    obtain ⟨kq, x38_5, rfl, HA, HJ5, BK183, HB⟩ := hcut
    cases kq with
    | zero => exact absurd HA.out (by simp [jJ.j1])
    | succ kj5 =>
     have H := HA.out
     clear HA
     simp only [jJ.j1] at H
     by_cases c16 : x38_5 = true
     ·subst c16
      have H1 : (some ((⟨#[]⟩ : ByteArray), false)) = some (r1, r2) := by rw [if_pos rfl] at H; exact H
      clear H
      have H := H1
      clear H1
      simp only [Option.some.injEq, Prod.mk.injEq] at H
      obtain ⟨rfl, rfl⟩ := H
      go_wp2
      repeat (go_quiet (fail); try go_wp2)
      go_ret2
      exact ⟨by first | rfl | (simp [errW_none, errW_some] <;> rfl) | (simp [errW_none, errW_some]; exact isE _) | (simp [*, errW_none, errW_some] <;> rfl), aP10⟩
     replace c16 := Bool.eq_false_iff.mpr c16
     subst c16
     have H1 : (if ((rd_T53 l0 x12_1).f0) > 0 then (if 0 ≤ (wrap64 (((rd_T53 l0 x12_1).f0) + (((rd_T53 l0 x12_1).f2).size : Int))) then (if (wrap64 (((rd_T53 l0 x12_1).f0) + (((rd_T53 l0 x12_1).f2).size : Int))) ≤ (x1_1.size : Int) then (if x6_1.size + (x1_1.extract 0 ((wrap64 (((rd_T53 l0 x12_1).f0) + (((rd_T53 l0 x12_1).f2).size : Int))) : Int).toNat).size ≤ 9223372036854775807 then (if (x6_1 ++ (x1_1.extract 0 ((wrap64 (((rd_T53 l0 x12_1).f0) + (((rd_T53 l0 x12_1).f2).size : Int))) : Int).toNat)).size + ((rd_T53 l0 x12_1).f1).size ≤ 9223372036854775807 then (jJ.l0 kj5 (x1_1.extract ((wrap64 (((rd_T53 l0 x12_1).f0) + (((rd_T53 l0 x12_1).f2).size : Int))) : Int).toNat x1_1.size) ((x6_1 ++ (x1_1.extract 0 ((wrap64 (((rd_T53 l0 x12_1).f0) + (((rd_T53 l0 x12_1).f2).size : Int))) : Int).toNat)) ++ ((rd_T53 l0 x12_1).f1)) l0 (l0.length : Int) (wrap64 (x12_1 + 1))) else (none)) else (none)) else (none)) else (none)) else (if x6_1.size + ((rd_T53 l0 x12_1).f1).size ≤ 9223372036854775807 then (if 0 ≤ (wrap64 (((rd_T53 l0 x12_1).f0) + (((rd_T53 l0 x12_1).f2).size : Int))) then (if (wrap64 (((rd_T53 l0 x12_1).f0) + (((rd_T53 l0 x12_1).f2).size : Int))) ≤ (x1_1.size : Int) then (jJ.l0 kj5 (x1_1.extract ((wrap64 (((rd_T53 l0 x12_1).f0) + (((rd_T53 l0 x12_1).f2).size : Int))) : Int).toNat x1_1.size) (x6_1 ++ ((rd_T53 l0 x12_1).f1)) l0 (l0.length : Int) (wrap64 (x12_1 + 1))) else (none)) else (none)) else (none))) = some (r1, r2) := by rw [if_neg (show ¬ (false = true) by decide)] at H; exact H
     clear H
     have H := H1
     clear H1
     by_cases c17 : ((rd_T53 l0 x12_1).f0) > 0
     rotate_left
     ·rw [if_neg c17] at H
      have c17b0 : decide (0 < ((rd_T53 l0 x12_1).f0)) = false := decide_eq_false c17
      clear c17
      by_cases c26 : x6_1.size + ((rd_T53 l0 x12_1).f1).size ≤ 9223372036854775807
      rotate_left
      ·rw [if_neg c26] at H
       exact absurd H (by simp)
      rw [if_pos c26] at H
      have c26b0 := eq_true c26
      have c26b1 : decide (x6_1.size + ((rd_T53 l0 x12_1).f1).size ≤ 9223372036854775807) = true := decide_eq_true c26
      try have c26b2 : (9223372036854775807 < x6_1.size + ((rd_T53 l0 x12_1).f1).size) = False := eq_false (Nat.not_lt.2 c26)
      obtain ⟨ji27, hji27⟩ : ∃ j_ : Int, (wrap64 (((rd_T53 l0 x12_1).f0) + (((rd_T53 l0 x12_1).f2).size : Int))) = j_ := ⟨_, rfl⟩
      replace H : (if 0 ≤ (ji27) then (if (ji27) ≤ (x1_1.size : Int) then (jJ.l0 kj5 (x1_1.extract ((ji27) : Int).toNat x1_1.size) (x6_1 ++ ((rd_T53 l0 x12_1).f1)) l0 (l0.length : Int) (wrap64 (x12_1 + 1))) else (none)) else (none)) = some (r1, r2) := by first | (rw [hji27] at H; exact H) | (simp only [hji27] at H ⊢; exact H)
      have hji27w : (IntKind.i64.wrap (((rd_T53 l0 x12_1).f0) + (((rd_T53 l0 x12_1).f2).size : Int))) = ji27 := (i64_w _).trans hji27
      by_cases c28 : 0 ≤ (ji27)
      rotate_left
      ·rw [if_neg c28] at H
       exact absurd H (by simp)
      rw [if_pos c28] at H
      have c28b0 := eq_true c28
      have c28b1 : decide (0 ≤ (ji27)) = true := decide_eq_true c28
      clear c28
      by_cases c29 : (ji27) ≤ (x1_1.size : Int)
      rotate_left
      ·rw [if_neg c29] at H
       exact absurd H (by simp)
      rw [if_pos c29] at H
      have c29b0 := eq_true c29
      have c29b1 : decide ((ji27) ≤ (x1_1.size : Int)) = true := decide_eq_true c29
      clear c29
      have H' := aM H
      clear H
      have hcz30_0 : wc.cell? ⟨gb183, 0, none⟩ = some (.int .i64 ((rd_T53 l0 x12_1).f0)) := (blk_cell BK183.out 0).trans rfl
      have hcz30_1 : wc.cell? ⟨gb183, 1, none⟩ = some (.string ((rd_T53 l0 x12_1).f1)) := (blk_cell BK183.out 1).trans rfl
      have hcz30_2 : wc.cell? ⟨gb183, 2, none⟩ = some (.string ((rd_T53 l0 x12_1).f2)) := (blk_cell BK183.out 2).trans rfl
      have hfz30_0 := blk_frozen BK183.out 0
      have hfz30_1 := blk_frozen BK183.out 1
      have hfz30_2 := blk_frozen BK183.out 2
      go_wp2
      repeat (go_quiet (fail); try go_wp2)
      go_roundg kj5
      case measure => have := HK1.out; have := HJ5.out; omega
      case rel => exact ⟨(x1_1.extract ((ji27) : Int).toNat x1_1.size), (x6_1 ++ ((rd_T53 l0 x12_1).f1)), (wrap64 (x12_1 + 1)), (by first | rfl | (simp; done) | (simp only [← hji27] <;> (first | rfl | (simp; done) | (simp; exact isE _))) | (simp [*]; done)), aP16, aP16, (by first | exact H' | (rw [hji27]; exact H')), ⟨by have := HK1.out; have := HJ5.out; omega⟩, ⟨aP10⟩⟩
     rw [if_pos c17] at H
     have c17b0 : decide (0 < ((rd_T53 l0 x12_1).f0)) = true := decide_eq_true c17
     clear c17
     obtain ⟨ji18, hji18⟩ : ∃ j_ : Int, (wrap64 (((rd_T53 l0 x12_1).f0) + (((rd_T53 l0 x12_1).f2).size : Int))) = j_ := ⟨_, rfl⟩
     replace H : (if 0 ≤ (ji18) then (if (ji18) ≤ (x1_1.size : Int) then (if x6_1.size + (x1_1.extract 0 ((ji18) : Int).toNat).size ≤ 9223372036854775807 then (if (x6_1 ++ (x1_1.extract 0 ((ji18) : Int).toNat)).size + ((rd_T53 l0 x12_1).f1).size ≤ 9223372036854775807 then (jJ.l0 kj5 (x1_1.extract ((ji18) : Int).toNat x1_1.size) ((x6_1 ++ (x1_1.extract 0 ((ji18) : Int).toNat)) ++ ((rd_T53 l0 x12_1).f1)) l0 (l0.length : Int) (wrap64 (x12_1 + 1))) else (none)) else (none)) else (none)) else (none)) = some (r1, r2) := by first | (rw [hji18] at H; exact H) | (simp only [hji18] at H ⊢; exact H)
     have hji18w : (IntKind.i64.wrap (((rd_T53 l0 x12_1).f0) + (((rd_T53 l0 x12_1).f2).size : Int))) = ji18 := (i64_w _).trans hji18
     by_cases c19 : 0 ≤ (ji18)
     rotate_left
     ·rw [if_neg c19] at H
      exact absurd H (by simp)
     rw [if_pos c19] at H
     have c19b0 := eq_true c19
     have c19b1 : decide (0 ≤ (ji18)) = true := decide_eq_true c19
     clear c19
     by_cases c20 : (ji18) ≤ (x1_1.size : Int)
     rotate_left
     ·rw [if_neg c20] at H
      exact absurd H (by simp)
     rw [if_pos c20] at H
     have c20b0 := eq_true c20
     have c20b1 : decide ((ji18) ≤ (x1_1.size : Int)) = true := decide_eq_true c20
     clear c20
     by_cases c21 : x6_1.size + (x1_1.extract 0 ((ji18) : Int).toNat).size ≤ 9223372036854775807
     rotate_left
     ·rw [if_neg c21] at H
      exact absurd H (by simp)
     rw [if_pos c21] at H
     have c21b0 := eq_true c21
     have c21b1 : decide (x6_1.size + (x1_1.extract 0 ((ji18) : Int).toNat).size ≤ 9223372036854775807) = true := decide_eq_true c21
     try have c21b2 : (9223372036854775807 < x6_1.size + (x1_1.extract 0 ((ji18) : Int).toNat).size) = False := eq_false (Nat.not_lt.2 c21)
     by_cases c22 : (x6_1 ++ (x1_1.extract 0 ((ji18) : Int).toNat)).size + ((rd_T53 l0 x12_1).f1).size ≤ 9223372036854775807
     rotate_left
     ·rw [if_neg c22] at H
      exact absurd H (by simp)
     rw [if_pos c22] at H
     have c22b0 := eq_true c22
     have c22b1 : decide ((x6_1 ++ (x1_1.extract 0 ((ji18) : Int).toNat)).size + ((rd_T53 l0 x12_1).f1).size ≤ 9223372036854775807) = true := decide_eq_true c22
     try have c22b2 : (9223372036854775807 < (x6_1 ++ (x1_1.extract 0 ((ji18) : Int).toNat)).size + ((rd_T53 l0 x12_1).f1).size) = False := eq_false (Nat.not_lt.2 c22)
     try have c22s := eq_false (Nat.not_lt.2 c22)
     try simp only [ByteArray.size_append] at c22s
     have c23b0 := eq_true (of_decide_eq_true (by assumption) : 0 ≤ (ji18))
     have c24b0 := eq_true (of_decide_eq_true (by assumption) : (ji18) ≤ (x1_1.size : Int))
     have H' := aM H
     clear H
     have hcz25_0 : wc.cell? ⟨gb183, 0, none⟩ = some (.int .i64 ((rd_T53 l0 x12_1).f0)) := (blk_cell BK183.out 0).trans rfl
     have hcz25_1 : wc.cell? ⟨gb183, 1, none⟩ = some (.string ((rd_T53 l0 x12_1).f1)) := (blk_cell BK183.out 1).trans rfl
     have hcz25_2 : wc.cell? ⟨gb183, 2, none⟩ = some (.string ((rd_T53 l0 x12_1).f2)) := (blk_cell BK183.out 2).trans rfl
     have hfz25_0 := blk_frozen BK183.out 0
     have hfz25_1 := blk_frozen BK183.out 1
     have hfz25_2 := blk_frozen BK183.out 2
     go_wp2
     repeat (go_quiet (fail); try go_wp2)
     go_roundg kj5
     case measure => have := HK1.out; have := HJ5.out; omega
     case rel => exact ⟨(x1_1.extract ((ji18) : Int).toNat x1_1.size), ((x6_1 ++ (x1_1.extract 0 ((ji18) : Int).toNat)) ++ ((rd_T53 l0 x12_1).f1)), (wrap64 (x12_1 + 1)), aP19, aP19, aP16, (by first | exact H' | (rw [hji18]; exact H')), ⟨by have := HK1.out; have := HJ5.out; omega⟩, ⟨aP10⟩⟩
def IsS83 (w0 W : World) (g : Nat) (f0 : List Int) (f1 : Int) (f2 : Int) : Prop := ∃ A0 c0, W.heap[g]? = some (.cells #[.slice A0 f0.length c0, .int .i64 f1, .int .u64 f2] 83 (0, 0)) ∧ w0.heap.size ≤ g ∧ Kd.C (Kd.int .u8) w0 A0 f0.length f0
theorem IsS83.grown {w0 W : World} {g : Nat} {f0 : List Int} {f1 : Int} {f2 : Int} {W1 : World} {row : Option Nat} (h : IsS83 w0 W g f0 f1 f2) (hw : W.grownBy W1 row) (hne : some g ≠ row) : IsS83 w0 W1 g f0 f1 f2 := by
 obtain ⟨A0, c0, hb, hg, hr0⟩ := h
 exact ⟨A0, c0, blk_grown hb hw hne, hg, hr0⟩
theorem IsS83.own_neN {w0 W : World} {g : Nat} {f0 : List Int} {f1 : Int} {f2 : Int} {α : Type} {d : Kd α} {e : Nat} {base : Nat} {ok : Nat → Prop} {v : Value} {xs : List α} (h : IsS83 w0 W g f0 f1 f2) (ho : Kd.N d e W base ok v xs) (ht : e ≠ 83) : some g ≠ v.ownBlock := by
 obtain ⟨A0, c0, hb, hg, hr0⟩ := h
 exact Kd.N_ne ho hb ht
theorem IsS83.fresh {w0 W : World} {g : Nat} {f0 : List Int} {f1 : Int} {f2 : Int} (h : IsS83 w0 W g f0 f1 f2) : ∀ k, W.heap.size ≤ k → k ≠ g := by
 obtain ⟨A0, c0, hb, hg, hr0⟩ := h
 exact Kd.freshB hb
theorem IsS83.kept {w0 W : World} {g : Nat} {f0 : List Int} {f1 : Int} {f2 : Int} {W1 : World} {S : Nat → Prop} (h : IsS83 w0 W g f0 f1 f2) (hk : Kept W W1 S) (hne : ¬ S g) : IsS83 w0 W1 g f0 f1 f2 := by
 obtain ⟨A0, c0, hb, hg, hr0⟩ := h
 exact ⟨A0, c0, blk_kept hb hk hne, hg, hr0⟩
theorem IsS83.below {w0 W : World} {g : Nat} {f0 : List Int} {f1 : Int} {f2 : Int} {W1 : World} (h : IsS83 w0 W g f0 f1 f2) (hw : Below W.heap.size W W1) : IsS83 w0 W1 g f0 f1 f2 := h.grown (grown_of_below hw none) (by simp)
theorem IsS83.alloc {w0 W : World} {g : Nat} {f0 : List Int} {f1 : Int} {f2 : Int} (h : IsS83 w0 W g f0 f1 f2) (o : Obj) : IsS83 w0 (W.alloc o) g f0 f1 f2 := h.below (below_alloc (Below.refl _ _) o)
theorem IsS83.drewN {w0 W : World} {g : Nat} {f0 : List Int} {f1 : Int} {f2 : Int} (h : IsS83 w0 W g f0 f1 f2) (m : Nat) : IsS83 w0 (W.drewN m) g f0 f1 f2 := h
theorem IsS83.drew {w0 W : World} {g : Nat} {f0 : List Int} {f1 : Int} {f2 : Int} (h : IsS83 w0 W g f0 f1 f2) : IsS83 w0 W.drew g f0 f1 f2 := h
theorem IsS83.at_ {w0 W : World} {g : Nat} {f0 : List Int} {f1 : Int} {f2 : Int} {w' : World} {m : Nat} (hq : W.drewN m = w') (h : IsS83 w0 W g f0 f1 f2) : IsS83 w0 w' g f0 f1 f2 := by subst hq; exact IsS83.drewN h m
theorem IsS83.apart {w0 W : World} {g : Nat} {f0 : List Int} {f1 : Int} {f2 : Int} {α : Type} {d : Kd α} {e : Nat} {base : Nat} {ok : Nat → Prop} {v : Value} {xs : List α} (h : IsS83 w0 W g f0 f1 f2) (ho : d.R e W base ok v xs) (ht : ∀ q, q ∈ e :: d.E → q ≠ 83) : d.R e W base (fun k => ok k ∧ k ≠ g) v xs := by
 obtain ⟨A0, c0, hb, hg, hr0⟩ := h
 exact Kd.R_types ho hb ht
theorem IsS83.own_ne {w0 W : World} {g : Nat} {f0 : List Int} {f1 : Int} {f2 : Int} {α : Type} {d : Kd α} {e : Nat} {base : Nat} {ok : Nat → Prop} {v : Value} {xs : List α} (h : IsS83 w0 W g f0 f1 f2) (ho : d.R e W base ok v xs) (ht : e ≠ 83) : some g ≠ v.ownBlock := by
 obtain ⟨A0, c0, hb, hg, hr0⟩ := h
 exact Kd.R_ne ho hb ht
theorem IsS83.apartQ {w0 W : World} {g : Nat} {f0 : List Int} {f1 : Int} {f2 : Int} {α : Type} {d : Kd α} {e : Nat} {base : Nat} {ok : Nat → Prop} {v : Value} {xs : List α} (h : IsS83 w0 W g f0 f1 f2) (ho : d.Q e W base ok v xs) (ht : ∀ q, q ∈ e :: d.E → q ≠ 83) : d.Q e W base (fun k => ok k ∧ k ≠ g) v xs := by
 obtain ⟨A0, c0, hb, hg, hr0⟩ := h
 exact Kd.Q_types ho hb ht
theorem IsS83.own_neQ {w0 W : World} {g : Nat} {f0 : List Int} {f1 : Int} {f2 : Int} {α : Type} {d : Kd α} {e : Nat} {base : Nat} {ok : Nat → Prop} {v : Value} {xs : List α} (h : IsS83 w0 W g f0 f1 f2) (ho : d.Q e W base ok v xs) (ht : e ≠ 83) : some g ≠ v.ownBlock := by
 obtain ⟨A0, c0, hb, hg, hr0⟩ := h
 exact Kd.Q_ne ho hb ht
theorem IsS83.apartS {w0 W : World} {g : Nat} {f0 : List Int} {f1 : Int} {f2 : Int} {α : Type} {d : Kd α} {e : Nat} {base : Nat} {ok : Nat → Prop} {v : Value} {xs : List α} (h : IsS83 w0 W g f0 f1 f2) (ho : d.S e W base ok v xs) (ht : ∀ q, q ∈ e :: d.E → q ≠ 83) : d.S e W base (fun k => ok k ∧ k ≠ g) v xs := by
 obtain ⟨A0, c0, hb, hg, hr0⟩ := h
 exact Kd.S_types ho hb ht
theorem IsS83.own_neS {w0 W : World} {g : Nat} {f0 : List Int} {f1 : Int} {f2 : Int} {α : Type} {d : Kd α} {e : Nat} {base : Nat} {ok : Nat → Prop} {v : Value} {xs : List α} (h : IsS83 w0 W g f0 f1 f2) (ho : d.S e W base ok v xs) (ht : e ≠ 83) : some g ≠ v.ownBlock := by
 obtain ⟨A0, c0, hb, hg, hr0⟩ := h
 exact Kd.S_ne ho hb ht
theorem IsS83.lt {w0 W : World} {g : Nat} {f0 : List Int} {f1 : Int} {f2 : Int} (h : IsS83 w0 W g f0 f1 f2) : g < W.heap.size := by
 obtain ⟨A0, c0, hb, hg, hr0⟩ := h
 exact blk_lt hb
theorem IsS83.ge {w0 W : World} {g : Nat} {f0 : List Int} {f1 : Int} {f2 : Int} (h : IsS83 w0 W g f0 f1 f2) : w0.heap.size ≤ g := by
 obtain ⟨A0, c0, hb, hg, hr0⟩ := h
 exact hg
theorem IsS83.ne_blk {w0 W : World} {g : Nat} {f0 : List Int} {f1 : Int} {f2 : Int} {a : Nat} {cs : Array Value} {t : TypeId} {fr : Nat × Nat} (h : IsS83 w0 W g f0 f1 f2) (hb2 : W.heap[a]? = some (.cells cs t fr)) (ht : t ≠ 83) : g ≠ a := by
 obtain ⟨A0, c0, hb, hg, hr0⟩ := h
 rintro rfl
 rw [hb] at hb2
 injection hb2 with hb2
 injection hb2 with _ ht2
 exact ht ht2.symm
theorem IsS83.far {w0 W : World} {g : Nat} {f0 : List Int} {f1 : Int} {f2 : Int} {p : Addr} (h : IsS83 w0 W g f0 f1 f2) (hne : g ≠ p.block) (u : Value) : IsS83 w0 (W.setCell p u) g f0 f1 f2 := by
 obtain ⟨A0, c0, hb, hg, hr0⟩ := h
 exact ⟨A0, c0, blk_far hb hne u, hg, hr0⟩
theorem cellS83_0 {W : World} {g : Nat} {A0 : Option Addr} {c0 : Nat} {f0 : List Int} {f1 : Int} {f2 : Int} (h : W.heap[g]? = some (.cells #[.slice A0 f0.length c0, .int .i64 f1, .int .u64 f2] 83 (0, 0))) : W.cell? ⟨g, 0, none⟩ = some (.slice A0 f0.length c0) := (blk_cell h 0).trans rfl
theorem cellS83_1 {W : World} {g : Nat} {A0 : Option Addr} {c0 : Nat} {f0 : List Int} {f1 : Int} {f2 : Int} (h : W.heap[g]? = some (.cells #[.slice A0 f0.length c0, .int .i64 f1, .int .u64 f2] 83 (0, 0))) : W.cell? ⟨g, 1, none⟩ = some (.int .i64 f1) := (blk_cell h 1).trans rfl
theorem IsS83.set_1 {w0 W : World} {g : Nat} {f0 : List Int} {f1 : Int} {f2 : Int} (h : IsS83 w0 W g f0 f1 f2) (x : Int) : IsS83 w0 (W.setCell ⟨g, 1, none⟩ (.int .i64 x)) g f0 x f2 := by
 obtain ⟨A0, c0, hb, hg, hr0⟩ := h
 exact ⟨A0, c0, by simpa using blk_set hb 1 (.int .i64 x), hg, hr0⟩
theorem cellS83_2 {W : World} {g : Nat} {A0 : Option Addr} {c0 : Nat} {f0 : List Int} {f1 : Int} {f2 : Int} (h : W.heap[g]? = some (.cells #[.slice A0 f0.length c0, .int .i64 f1, .int .u64 f2] 83 (0, 0))) : W.cell? ⟨g, 2, none⟩ = some (.int .u64 f2) := (blk_cell h 2).trans rfl
theorem IsS83.set_2 {w0 W : World} {g : Nat} {f0 : List Int} {f1 : Int} {f2 : Int} (h : IsS83 w0 W g f0 f1 f2) (x : Int) : IsS83 w0 (W.setCell ⟨g, 2, none⟩ (.int .u64 x)) g f0 f1 x := by
 obtain ⟨A0, c0, hb, hg, hr0⟩ := h
 exact ⟨A0, c0, by simpa using blk_set hb 2 (.int .u64 x), hg, hr0⟩
theorem IsS83.new (w0 W : World) (A0 : Option Addr) (c0 : Nat) (f0 : List Int) (f1 : Int) (f2 : Int) (hB : Below w0.heap.size w0 W) (hr0 : Kd.C (Kd.int .u8) w0 A0 f0.length f0) : IsS83 w0 (W.alloc (.cells #[.slice A0 f0.length c0, .int .i64 f1, .int .u64 f2] 83)) W.heap.size f0 f1 f2 := ⟨A0, c0, by simpa using heap_alloc_new W _, hB.size, hr0⟩
def yA.f (s0_0 : List Int) (s0_1 : Int) (s0_2 : Int) : Option (Int × Int × Int) := if s0_1 < (s0_0.length : Int) then (if 0 ≤ s0_1 then (if (wrap64 (s0_1 + 1)) ≤ (s0_0.length : Int) then (some (wrap64 (rd s0_0 s0_1), wrap64 (s0_1 + 1), IntKind.u64.wrap ((IntKind.u64.wrap ((IntKind.u64.wrap (s0_2 * 6364136223846793005)) + (IntKind.u64.wrap (wrap64 (rd s0_0 s0_1))))) + 1442695040888963407))) else (some (wrap64 (Go.bits .and .u64 ((IntKind.u64.wrap ((IntKind.u64.wrap ((IntKind.u64.wrap (s0_2 * 6364136223846793005)) + (IntKind.u64.wrap (wrap64 (rd s0_0 s0_1))))) + 1442695040888963407)) / 1099511627776) 255), wrap64 (s0_1 + 1), IntKind.u64.wrap ((IntKind.u64.wrap ((IntKind.u64.wrap (s0_2 * 6364136223846793005)) + (IntKind.u64.wrap (wrap64 (rd s0_0 s0_1))))) + 1442695040888963407)))) else (none)) else (if (wrap64 (s0_1 + 1)) ≤ (s0_0.length : Int) then (some (0, wrap64 (s0_1 + 1), IntKind.u64.wrap ((IntKind.u64.wrap ((IntKind.u64.wrap (s0_2 * 6364136223846793005)) + 0)) + 1442695040888963407))) else (some (wrap64 (Go.bits .and .u64 ((IntKind.u64.wrap ((IntKind.u64.wrap ((IntKind.u64.wrap (s0_2 * 6364136223846793005)) + 0)) + 1442695040888963407)) / 1099511627776) 255), wrap64 (s0_1 + 1), IntKind.u64.wrap ((IntKind.u64.wrap ((IntKind.u64.wrap (s0_2 * 6364136223846793005)) + 0)) + 1442695040888963407))))
set_option maxHeartbeats 8000000 in
set_option maxRecDepth 100000 in
theorem yA.calls (g : Nat) (s0_0 : List Int) (s0_1 : Int) (s0_2 : Int) (r1 : Int) (r2 : Int) (r3 : Int) (w0 w : World) (hI : IsS83 w0 w g s0_0 s0_1 s0_2) (hB : Below w0.heap.size w0 w) (h : yA.f s0_0 s0_1 s0_2 = some (r1, r2, r3)) :
  Calls Try.prog 86 #[.pointer (some ⟨g, 0, none⟩)] w fun e w' => e = .returned (.int .i64 r1) ∧ IsS83 w0 w' g s0_0 r2 r3 ∧ Below w0.heap.size w0 w' ∧ KeepBut w w' g none := by
 have HI0 := aM hI
 have HK := aM (KeepBut.refl w g none)
 have HL := aM hB.size
 clear hI
 have HW0 := aM hB.size
 have HB := aM hB
 clear hB
 have H : (if s0_1 < (s0_0.length : Int) then (if 0 ≤ s0_1 then (if (wrap64 (s0_1 + 1)) ≤ (s0_0.length : Int) then (some (wrap64 (rd s0_0 s0_1), wrap64 (s0_1 + 1), IntKind.u64.wrap ((IntKind.u64.wrap ((IntKind.u64.wrap (s0_2 * 6364136223846793005)) + (IntKind.u64.wrap (wrap64 (rd s0_0 s0_1))))) + 1442695040888963407))) else (some (wrap64 (Go.bits .and .u64 ((IntKind.u64.wrap ((IntKind.u64.wrap ((IntKind.u64.wrap (s0_2 * 6364136223846793005)) + (IntKind.u64.wrap (wrap64 (rd s0_0 s0_1))))) + 1442695040888963407)) / 1099511627776) 255), wrap64 (s0_1 + 1), IntKind.u64.wrap ((IntKind.u64.wrap ((IntKind.u64.wrap (s0_2 * 6364136223846793005)) + (IntKind.u64.wrap (wrap64 (rd s0_0 s0_1))))) + 1442695040888963407)))) else (none)) else (if (wrap64 (s0_1 + 1)) ≤ (s0_0.length : Int) then (some (0, wrap64 (s0_1 + 1), IntKind.u64.wrap ((IntKind.u64.wrap ((IntKind.u64.wrap (s0_2 * 6364136223846793005)) + 0)) + 1442695040888963407))) else (some (wrap64 (Go.bits .and .u64 ((IntKind.u64.wrap ((IntKind.u64.wrap ((IntKind.u64.wrap (s0_2 * 6364136223846793005)) + 0)) + 1442695040888963407)) / 1099511627776) 255), wrap64 (s0_1 + 1), IntKind.u64.wrap ((IntKind.u64.wrap ((IntKind.u64.wrap (s0_2 * 6364136223846793005)) + 0)) + 1442695040888963407))))) = some (r1, r2, r3) := h
 clear h
 by_cases c2 : s0_1 < (s0_0.length : Int)
 rotate_left
 ·rw [if_neg c2] at H
  have c2b0 : decide (s0_1 < (s0_0.length : Int)) = false := decide_eq_false c2
  clear c2
  by_cases c7 : (wrap64 (s0_1 + 1)) ≤ (s0_0.length : Int)
  ·rw [if_pos c7] at H
   have c7b0 : decide ((wrap64 (s0_1 + 1)) ≤ (s0_0.length : Int)) = true := decide_eq_true c7
   clear c7
   simp only [Option.some.injEq, Prod.mk.injEq] at H
   obtain ⟨rfl, rfl, rfl⟩ := H
   obtain ⟨ASz8_0, cSz8_0, HGz8, hgz8, HSz8_0⟩ := HI0.out
   have hcz8_0 := cellS83_0 HGz8
   have hcz8_1 := cellS83_1 HGz8
   have hcz8_2 := cellS83_2 HGz8
   have hfz8_1 := blk_frozen HGz8 1
   have hfz8_2 := blk_frozen HGz8 2
   clear HGz8 hgz8
   go_enter Try.func86, Try.ntmps86
   go_wp2
   repeat (go_quiet (fail); try go_wp2)
   go_ret
   exact ⟨by first | rfl | (simp [errW_none, errW_some] <;> rfl) | (simp [errW_none, errW_some]; exact isE _) | (simp [*, errW_none, errW_some] <;> rfl), by (try simp only [Int.add_zero]); exact aP0, by exact aP2, aP1⟩
  rw [if_neg c7] at H
  have c7b0 : decide ((wrap64 (s0_1 + 1)) ≤ (s0_0.length : Int)) = false := decide_eq_false c7
  clear c7
  simp only [Option.some.injEq, Prod.mk.injEq] at H
  obtain ⟨rfl, rfl, rfl⟩ := H
  obtain ⟨ASz9_0, cSz9_0, HGz9, hgz9, HSz9_0⟩ := HI0.out
  have hcz9_0 := cellS83_0 HGz9
  have hcz9_1 := cellS83_1 HGz9
  have hcz9_2 := cellS83_2 HGz9
  have hfz9_1 := blk_frozen HGz9 1
  have hfz9_2 := blk_frozen HGz9 2
  clear HGz9 hgz9
  go_enter Try.func86, Try.ntmps86
  go_wp2
  repeat (go_quiet (fail); try go_wp2)
  go_ret
  exact ⟨by first | rfl | (simp [errW_none, errW_some] <;> rfl) | (simp [errW_none, errW_some]; exact isE _) | (simp [*, errW_none, errW_some] <;> rfl), by (try simp only [Int.add_zero]); exact aP0, by exact aP2, aP1⟩
 rw [if_pos c2] at H
 have c2b0 : decide (s0_1 < (s0_0.length : Int)) = true := decide_eq_true c2
 clear c2
 by_cases c3 : 0 ≤ s0_1
 rotate_left
 ·rw [if_neg c3] at H
  exact absurd H (by simp)
 rw [if_pos c3] at H
 have c3b0 : decide (0 ≤ s0_1) = true := decide_eq_true c3
 clear c3
 by_cases c4 : (wrap64 (s0_1 + 1)) ≤ (s0_0.length : Int)
 ·rw [if_pos c4] at H
  have c4b0 : decide ((wrap64 (s0_1 + 1)) ≤ (s0_0.length : Int)) = true := decide_eq_true c4
  clear c4
  simp only [Option.some.injEq, Prod.mk.injEq] at H
  obtain ⟨rfl, rfl, rfl⟩ := H
  obtain ⟨ASz5_0, cSz5_0, HGz5, hgz5, HSz5_0⟩ := HI0.out
  have hcz5_0 := cellS83_0 HGz5
  have hcz5_1 := cellS83_1 HGz5
  have hcz5_2 := cellS83_2 HGz5
  have hfz5_1 := blk_frozen HGz5 1
  have hfz5_2 := blk_frozen HGz5 2
  clear HGz5 hgz5
  have p184 : 0 ≤ (s0_1 : Int) := of_decide_eq_true (by assumption)
  have q184 : s0_1 < (s0_0.length : Int) := of_decide_eq_true (by assumption)
  obtain ⟨ad184, e184, hx184_0⟩ := Kd.at_int HSz5_0 s0_1 p184 q184
  cases e184
  replace hx184_0 := pw_cell_below HB.out hx184_0
  replace p184 := eq_true p184
  replace q184 := eq_true q184
  go_enter Try.func86, Try.ntmps86
  go_wp2
  repeat (go_quiet (fail); try go_wp2)
  go_ret
  exact ⟨by first | rfl | (simp [errW_none, errW_some] <;> rfl) | (simp [errW_none, errW_some]; exact isE _) | (simp [*, errW_none, errW_some] <;> rfl), by (try simp only [Int.add_zero]); exact aP0, by exact aP2, aP1⟩
 rw [if_neg c4] at H
 have c4b0 : decide ((wrap64 (s0_1 + 1)) ≤ (s0_0.length : Int)) = false := decide_eq_false c4
 clear c4
 simp only [Option.some.injEq, Prod.mk.injEq] at H
 obtain ⟨rfl, rfl, rfl⟩ := H
 obtain ⟨ASz6_0, cSz6_0, HGz6, hgz6, HSz6_0⟩ := HI0.out
 have hcz6_0 := cellS83_0 HGz6
 have hcz6_1 := cellS83_1 HGz6
 have hcz6_2 := cellS83_2 HGz6
 have hfz6_1 := blk_frozen HGz6 1
 have hfz6_2 := blk_frozen HGz6 2
 clear HGz6 hgz6
 have p184 : 0 ≤ (s0_1 : Int) := of_decide_eq_true (by assumption)
 have q184 : s0_1 < (s0_0.length : Int) := of_decide_eq_true (by assumption)
 obtain ⟨ad184, e184, hx184_0⟩ := Kd.at_int HSz6_0 s0_1 p184 q184
 cases e184
 replace hx184_0 := pw_cell_below HB.out hx184_0
 replace p184 := eq_true p184
 replace q184 := eq_true q184
 go_enter Try.func86, Try.ntmps86
 go_wp2
 repeat (go_quiet (fail); try go_wp2)
 go_ret
 exact ⟨by first | rfl | (simp [errW_none, errW_some] <;> rfl) | (simp [errW_none, errW_some]; exact isE _) | (simp [*, errW_none, errW_some] <;> rfl), by (try simp only [Int.add_zero]); exact aP0, by exact aP2, aP1⟩
def jD.f (s0_0 : List Int) (s0_1 : Int) (s0_2 : Int) (a1 : Int) : Option (Int × Int × Int) := if a1 ≤ 1 then (some (0, s0_1, s0_2)) else ((yA.f s0_0 s0_1 s0_2).bind fun bt185 => (if a1 > 200 then ((yA.f s0_0 bt185.2.1 bt185.2.2).bind fun bt188 => (if a1 = 0 then (none) else (some (Int.tmod (wrap64 ((wrap64 (bt185.1 * 256)) + bt188.1)) a1, bt188.2.1, bt188.2.2)))) else (if a1 = 0 then (none) else (some (Int.tmod bt185.1 a1, bt185.2.1, bt185.2.2)))))
set_option maxHeartbeats 8000000 in
set_option maxRecDepth 100000 in
theorem jD.calls (g : Nat) (s0_0 : List Int) (s0_1 : Int) (s0_2 : Int) (a1 : Int) (r1 : Int) (r2 : Int) (r3 : Int) (w0 w : World) (hI : IsS83 w0 w g s0_0 s0_1 s0_2) (hB : Below w0.heap.size w0 w) (h : jD.f s0_0 s0_1 s0_2 a1 = some (r1, r2, r3)) :
  Calls Try.prog 74 #[.pointer (some ⟨g, 0, none⟩), .int .i64 a1] w fun e w' => e = .returned (.int .i64 r1) ∧ IsS83 w0 w' g s0_0 r2 r3 ∧ Below w0.heap.size w0 w' ∧ KeepBut w w' g none := by
 have HI0 := aM hI
 have HK := aM (KeepBut.refl w g none)
 have HL := aM hB.size
 clear hI
 have HW0 := aM hB.size
 have HB := aM hB
 clear hB
 have H : (if a1 ≤ 1 then (some (0, s0_1, s0_2)) else ((yA.f s0_0 s0_1 s0_2).bind fun bt185 => (if a1 > 200 then ((yA.f s0_0 bt185.2.1 bt185.2.2).bind fun bt188 => (if a1 = 0 then (none) else (some (Int.tmod (wrap64 ((wrap64 (bt185.1 * 256)) + bt188.1)) a1, bt188.2.1, bt188.2.2)))) else (if a1 = 0 then (none) else (some (Int.tmod bt185.1 a1, bt185.2.1, bt185.2.2)))))) = some (r1, r2, r3) := h
 clear h
 by_cases c3 : a1 ≤ 1
 ·rw [if_pos c3] at H
  have c3b0 : decide (a1 ≤ 1) = true := decide_eq_true c3
  clear c3
  simp only [Option.some.injEq, Prod.mk.injEq] at H
  obtain ⟨rfl, rfl, rfl⟩ := H
  go_enter Try.func74, Try.ntmps74
  go_wp2
  go_ret
  exact ⟨by first | rfl | (simp [errW_none, errW_some] <;> rfl) | (simp [errW_none, errW_some]; exact isE _) | (simp [*, errW_none, errW_some] <;> rfl), by (try simp only [Int.add_zero]); exact aP0, by exact aP2, aP1⟩
 rw [if_neg c3] at H
 have c3b0 : decide (a1 ≤ 1) = false := decide_eq_false c3
 clear c3
 replace H := Option.bind_eq_some_iff.mp H
 obtain ⟨⟨t185, t186, t187⟩, A40, H⟩ := H
 replace H : (if a1 > 200 then ((yA.f s0_0 t186 t187).bind fun bt188 => (if a1 = 0 then (none) else (some (Int.tmod (wrap64 ((wrap64 (t185 * 256)) + bt188.1)) a1, bt188.2.1, bt188.2.2)))) else (if a1 = 0 then (none) else (some (Int.tmod t185 a1, t186, t187)))) = some (r1, r2, r3) := H
 have A4 := aM A40
 clear A40
 by_cases c5 : a1 > 200
 rotate_left
 ·rw [if_neg c5] at H
  have c5b0 : decide (200 < a1) = false := decide_eq_false c5
  clear c5
  by_cases c10 : a1 = 0
  ·rw [if_pos c10] at H
   exact absurd H (by simp)
  rw [if_neg c10] at H
  have c10b0 : (a1 == 0) = false := beq_eq_false_iff_ne.mpr c10
  have c10b1 : (a1 != 0) = true := bne_iff_ne.mpr c10
  simp only [Option.some.injEq, Prod.mk.injEq] at H
  obtain ⟨rfl, rfl, rfl⟩ := H
  go_enter Try.func74, Try.ntmps74
  go_wp2_with (first | ((with_reducible refine gate_callee (f := 86) rfl ?_); refine goesL_ (some 9) rfl rfl Try.func86 (by kernel_rfl) rfl #[.pointer (some ⟨g, 0, none⟩)] rfl mM ?_; (with_reducible refine (yA.calls g s0_0 s0_1 s0_2 t185 t186 t187 w0 _ ?side1 ?side2 A4.out).mono ?_); (case side1 => exact aP0); (case side2 => exact aP2); rintro e w11 ⟨rfl, hi, hb, hk⟩; refine ⟨_, rfl, ?_⟩; have n0_ := aM (KeepBut.trans aP1 hk (.inl rfl)); have n1_ := aM (hb); have n2_ := aM (hi); clear HK; clear HB; clear HI0; have HK := n0_; have HB := n1_; have HI0 := n2_; clear n0_ n1_ n2_; (try clear hb); (try clear hb2); (try clear hk); (try clear hi)))
  go_ret
  exact ⟨by first | rfl | (simp [errW_none, errW_some] <;> rfl) | (simp [errW_none, errW_some]; exact isE _) | (simp [*, errW_none, errW_some] <;> rfl), by (try simp only [Int.add_zero]); exact aP0, by exact aP2, aP1⟩
 rw [if_pos c5] at H
 have c5b0 : decide (200 < a1) = true := decide_eq_true c5
 clear c5
 replace H := Option.bind_eq_some_iff.mp H
 obtain ⟨⟨t188, t189, t190⟩, A60, H⟩ := H
 replace H : (if a1 = 0 then (none) else (some (Int.tmod (wrap64 ((wrap64 (t185 * 256)) + t188)) a1, t189, t190))) = some (r1, r2, r3) := H
 have A6 := aM A60
 clear A60
 by_cases c7 : a1 = 0
 ·rw [if_pos c7] at H
  exact absurd H (by simp)
 rw [if_neg c7] at H
 have c7b0 : (a1 == 0) = false := beq_eq_false_iff_ne.mpr c7
 have c7b1 : (a1 != 0) = true := bne_iff_ne.mpr c7
 simp only [Option.some.injEq, Prod.mk.injEq] at H
 obtain ⟨rfl, rfl, rfl⟩ := H
 go_enter Try.func74, Try.ntmps74
 go_wp2_with (first | ((with_reducible refine gate_callee (f := 86) rfl ?_); refine goesL_ (some 9) rfl rfl Try.func86 (by kernel_rfl) rfl #[.pointer (some ⟨g, 0, none⟩)] rfl mM ?_; (with_reducible refine (yA.calls g s0_0 s0_1 s0_2 t185 t186 t187 w0 _ ?side1 ?side2 A4.out).mono ?_); (case side1 => exact aP0); (case side2 => exact aP2); rintro e w8 ⟨rfl, hi, hb, hk⟩; refine ⟨_, rfl, ?_⟩; have n0_ := aM (KeepBut.trans aP1 hk (.inl rfl)); have n1_ := aM (hb); have n2_ := aM (hi); clear HK; clear HB; clear HI0; have HK := n0_; have HB := n1_; have HI0 := n2_; clear n0_ n1_ n2_; (try clear hb); (try clear hb2); (try clear hk); (try clear hi)) | ((with_reducible refine gate_callee (f := 86) rfl ?_); refine goesL_ (some 15) rfl rfl Try.func86 (by kernel_rfl) rfl #[.pointer (some ⟨g, 0, none⟩)] rfl mM ?_; (with_reducible refine (yA.calls g s0_0 t186 t187 t188 t189 t190 w0 _ ?side1 ?side2 A6.out).mono ?_); (case side1 => exact aP0); (case side2 => exact aP2); rintro e w9 ⟨rfl, hi, hb, hk⟩; refine ⟨_, rfl, ?_⟩; have n0_ := aM (KeepBut.trans aP1 hk (.inl rfl)); have n1_ := aM (hb); have n2_ := aM (hi); clear HK; clear HB; clear HI0; have HK := n0_; have HB := n1_; have HI0 := n2_; clear n0_ n1_ n2_; (try clear hb); (try clear hb2); (try clear hk); (try clear hi)))
 go_ret
 exact ⟨by first | rfl | (simp [errW_none, errW_some] <;> rfl) | (simp [errW_none, errW_some]; exact isE _) | (simp [*, errW_none, errW_some] <;> rfl), by (try simp only [Int.add_zero]); exact aP0, by exact aP2, aP1⟩
def jU.f (s0_0 : List Int) (s0_1 : Int) (s0_2 : Int) (a1 : Int) : Option (Bool × Int × Int) := (jD.f s0_0 s0_1 s0_2 a1).bind fun bt191 => (some ((bt191.1 == 0), bt191.2.1, bt191.2.2))
set_option maxHeartbeats 8000000 in
set_option maxRecDepth 100000 in
theorem jU.calls (g : Nat) (s0_0 : List Int) (s0_1 : Int) (s0_2 : Int) (a1 : Int) (r1 : Bool) (r2 : Int) (r3 : Int) (w0 w : World) (hI : IsS83 w0 w g s0_0 s0_1 s0_2) (hB : Below w0.heap.size w0 w) (h : jU.f s0_0 s0_1 s0_2 a1 = some (r1, r2, r3)) :
  Calls Try.prog 72 #[.pointer (some ⟨g, 0, none⟩), .int .i64 a1] w fun e w' => e = .returned (.bool r1) ∧ IsS83 w0 w' g s0_0 r2 r3 ∧ Below w0.heap.size w0 w' ∧ KeepBut w w' g none := by
 have HI0 := aM hI
 have HK := aM (KeepBut.refl w g none)
 have HL := aM hB.size
 clear hI
 have HW0 := aM hB.size
 have HB := aM hB
 clear hB
 have H : ((jD.f s0_0 s0_1 s0_2 a1).bind fun bt191 => (some ((bt191.1 == 0), bt191.2.1, bt191.2.2))) = some (r1, r2, r3) := h
 clear h
 replace H := Option.bind_eq_some_iff.mp H
 obtain ⟨⟨t191, t192, t193⟩, A30, H⟩ := H
 replace H : (some ((t191 == 0), t192, t193)) = some (r1, r2, r3) := H
 have A3 := aM A30
 clear A30
 simp only [Option.some.injEq, Prod.mk.injEq] at H
 obtain ⟨rfl, rfl, rfl⟩ := H
 go_enter Try.func72, Try.ntmps72
 go_wp2_with (first | ((with_reducible refine gate_callee (f := 74) rfl ?_); refine goesL_ (some 7) rfl rfl Try.func74 (by kernel_rfl) rfl #[.pointer (some ⟨g, 0, none⟩), .int .i64 a1] rfl mM ?_; (with_reducible refine (jD.calls g s0_0 s0_1 s0_2 a1 t191 t192 t193 w0 _ ?side1 ?side2 A3.out).mono ?_); (case side1 => exact aP0); (case side2 => exact aP2); rintro e w4 ⟨rfl, hi, hb, hk⟩; refine ⟨_, rfl, ?_⟩; have n0_ := aM (KeepBut.trans aP1 hk (.inl rfl)); have n1_ := aM (hb); have n2_ := aM (hi); clear HK; clear HB; clear HI0; have HK := n0_; have HB := n1_; have HI0 := n2_; clear n0_ n1_ n2_; (try clear hb); (try clear hb2); (try clear hk); (try clear hi)))
 go_ret
 exact ⟨by first | rfl | (simp [errW_none, errW_some] <;> rfl) | (simp [errW_none, errW_some]; exact isE _) | (simp [*, errW_none, errW_some] <;> rfl), by (try simp only [Int.add_zero]); exact aP0, by exact aP2, aP1⟩
end Go.Proofs.Ytlelpomnblaciaa.PFnComposed
