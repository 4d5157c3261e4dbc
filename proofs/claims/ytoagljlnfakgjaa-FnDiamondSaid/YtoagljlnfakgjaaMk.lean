import Derived.Test.YtoagljlnfakgjaaProg
import Derived.Test.YtoagljlnfakgjaaWWords
import Derived.Test.YtoagljlnfakgjaaWLast
import Derived.Test.YtoagljlnfakgjaaCmp
import Derived.Test.YtoagljlnfakgjaaWKept
import Derived.Test.YtoagljlnfakgjaaWMore
import Derived.Tactics
import Derived.Tactics2
import Derived.WalkKit
import Derived.WalkSpells
import Derived.StillTactics
import Derived.OwnWalk
import Derived.Laws.Pointers
import Derived.Deep.RegionHeld3
import Derived.Deep.AppendLies
import Derived.Deep.DrawnRows
import Derived.KernelRfl
set_option linter.unusedVariables false
set_option linter.unusedSimpArgs false
namespace Go.Proofs.Ytoagljlnfakgjaa.Mk
open Go.RowKit Go.Proofs.YtoagljlnfakgjaaW.PrintWords Go.Proofs.YtoagljlnfakgjaaW.PrintLast
attribute [local go_sem ↓] Go.wp_at_zero Go.wp_at_succ
def bN (n m : Nat) : Array Bool := ((List.range n).map m.testBit).toArray
theorem pW {P : Program} {ops : Array Oper} {Q : Exit → Act → World → Prop} {md : Region.Mode} {S : World → Prop} {ds : List Nat} {fuel : Nat} {oi : Oper} {l : Array Bool} {a a' : Act} {w : World} {v : Value} (i : Nat) (t : Tmp) (l' : Array Bool) (h : wpAnyLast P md ops Q S ds fuel l' a' w) (hi : ops[i]? = some oi := by exact rfl) (hN : oi.dst = some t := by exact rfl) (hc : anyB md ops l l' i = true := by kernel_rfl) (hQ : ∀ c a w, Q (.panic c) (a.put oi.dst v) w → Q (.panic c) a w := by exact fun _ _ _ h => h) (hw : Region.wanted oi (yielded ops a.tmps) = true := by rfl) (hv : ∀ w, (execOp a.eval oi).run P w = .ok (.value v) w := by intro w'; go_simp; with_reducible rfl) (ha : a.put (some t) v = a' := by simp only [Act.put, List.setIfInBounds_toArray, List.set_cons_zero, List.set_cons_succ, i64_w, i32_w]; rfl) : wpAnyLast P md ops Q S ds (fuel + 1) l a w := pure_ l' hi hN hc hQ (.inl ⟨hw, hv⟩) ha h
theorem tW2 {P : Program} {ops : Array Oper} {Q : Exit → Act → World → Prop} {md : Region.Mode} {S : World → Prop} {ds : List Nat} {fuel : Nat} {oi : Oper} {l : Array Bool} {a a' : Act} {w : World} {v : Value} (i : Nat) (t : Tmp) (l' : Array Bool) (h : wpAnyLast P md ops Q S ds fuel l' a' w) (hi : ops[i]? = some oi := by exact rfl) (hN : oi.dst = some t := by exact rfl) (hc : takeB md ops ds l l' i = true := by kernel_rfl) (hQ : ∀ c a w, Q (.panic c) (a.put oi.dst v) w → Q (.panic c) a w := by exact fun _ _ _ h => h) (hw : Region.wanted oi (yielded ops a.tmps) = true := by rfl) (hS : S w := by exact hHeld) (hv : ∀ w, S w → (execOp a.eval oi).run P w = .ok (.value v) w := by rintro w' ⟨s0, s1⟩; go_simp; with_reducible rfl) (ha : a.put (some t) v = a' := by simp only [Act.put, List.setIfInBounds_toArray, List.set_cons_zero, List.set_cons_succ, i64_w, i32_w]; rfl) : wpAnyLast P md ops Q S ds (fuel + 1) l a w := take_ l' hi hN hc hQ (.inl ⟨hw, hv⟩) hS ha h
theorem info53 : (Try.prog.info? 60).map (fun i => (i.zero, i.size, i.bytes)) = some (some (.agg #[.int .i64 0, .string ⟨#[]⟩, .string ⟨#[]⟩]), 3, 40) := by kernel_rfl
theorem keep_block {w1 : World} {g : Nat} {a b c : Value} (h : w1.heap[g]? = some (.cells #[a, b, c] 70 (0, 0))) :
  w1.cell? ⟨g, 0, none⟩ = some a ∧ w1.cell? ⟨g, 1, none⟩ = some b ∧ w1.cell? ⟨g, 2, none⟩ = some c ∧ w1.frozen? ⟨g, 0, none⟩ = false ∧ w1.frozen? ⟨g, 1, none⟩ = false ∧ w1.frozen? ⟨g, 2, none⟩ = false :=
 ⟨(blk_cell h 0).trans rfl, (blk_cell h 1).trans rfl, (blk_cell h 2).trans rfl, blk_frozen h 0, blk_frozen h 1, blk_frozen h 2⟩
theorem frz_drew (w : World) (a : Addr) : w.drew.frozen? a = w.frozen? a := rfl
theorem frz_alloc (w : World) (o : Obj) (g i : Nat) (h : g < w.heap.size) : (w.alloc o).frozen? ⟨g, i, none⟩ = w.frozen? ⟨g, i, none⟩ := World.frozen?_of_block (Below.heap_alloc w o g h)
def endC (put drop : ByteArray) : List Value := (if put.toList = ([] : List UInt8) then [] else [.int .i64 0, .string put, .string ⟨#[]⟩]) ++ (if drop.toList = ([] : List UInt8) then [] else [.int .i64 0, .string ⟨#[]⟩, .string drop])
def endN (put drop : ByteArray) : Nat := (if put.toList = ([] : List UInt8) then 0 else 1) + (if drop.toList = ([] : List UInt8) then 0 else 1)
theorem size_set (w : World) (g i : Nat) (u : Value) : w.heap.size ≤ (w.setCell ⟨g, i, none⟩ u).heap.size := ((Below.refl g w).setCell (p := ⟨g, i, none⟩) (Nat.le_refl _) u).size
theorem own_set {w : World} {base g : Nat} {e : TypeId} {size n : Nat} {v : Value} {xs : List Value} (h : w.ownsRow base e size v n xs) (hne : v.ownBlock ≠ some g) (i : Nat) (u : Value) : (w.setCell ⟨g, i, none⟩ u).ownsRow base e size v n xs := by
 have hb : Below g w (w.setCell ⟨g, i, none⟩ u) := (Below.refl g w).setCell (p := ⟨g, i, none⟩) (Nat.le_refl _) u
 exact own_other h (row := some g) ⟨hb.os, hb.tape, hb.output, hb.size, fun k _ hk => Below.heap_setCell w ⟨g, i, none⟩ u k (fun e => hk (by rw [e]))⟩ (.inr hne)
theorem kept_grown {w W w1 : World} {S : Nat → Prop} {row : Option Nat} (h : Kept w W S) (hg : W.grownBy w1 row) (hr : ∀ k, row = some k → S k ∨ w.heap.size ≤ k) : Kept w w1 S :=
 ⟨Nat.le_trans h.1 hg.size, fun i hi hn => (hg.block i (Nat.lt_of_lt_of_le hi h.1) (fun e => (hr i e.symm).elim hn (fun q => absurd hi (Nat.not_lt.2 q)))).trans (h.2 i hi hn)⟩
theorem own_next {w W : World} {v v1 v2 : Value} (hv : ∀ k, v1.ownBlock = some k → v.ownBlock = some k ∨ w.heap.size ≤ k) (hat : v2.ownBlock = v1.ownBlock ∨ ∃ b, v2.ownBlock = some b ∧ W.heap.size ≤ b) (hs : w.heap.size ≤ W.heap.size) : ∀ k, v2.ownBlock = some k → v.ownBlock = some k ∨ w.heap.size ≤ k := by
 intro k hk
 rcases hat with e | ⟨b, e, hb⟩
 ·exact hv k (e ▸ hk)
 ·rw [e] at hk; injection hk with hk; right; omega
set_option maxRecDepth 100000 in
set_option maxHeartbeats 8000000 in
theorem maker_end (base g n : Nat) (v : Value) (xs : List Value) (put drop : ByteArray) (w0 w : World)
  (hk : w.heap[g]? = some (.cells #[v, .string put, .string drop] 70 (0, 0))) (hown : w.ownsRow base 60 3 v n xs) (ag : v.ownBlock ≠ some g)
  (HB : Below base w0 w) (hbase : base ≤ w.heap.size) (hg : base ≤ g) (hn : n ≤ 1000) :
  Calls Try.prog 75 #[.pointer (some ⟨g, 0, none⟩)] w fun e w' => e = .returned (.tuple #[]) ∧ ∃ v', w'.heap[g]? = some (.cells #[v', .string ⟨#[]⟩, .string ⟨#[]⟩] 70 (0, 0)) ∧
   w'.ownsRow base 60 3 v' (n + endN put drop) (xs ++ endC put drop) ∧ v'.ownBlock ≠ some g ∧ Below base w0 w' ∧ base ≤ w'.heap.size ∧ Kept w w' (fun k => k = g ∨ some k = v.ownBlock) ∧ (∀ k, v'.ownBlock = some k → v.ownBlock = some k ∨ w.heap.size ≤ k) := by
 have hu53 := Try.underlying60
 have hu74 := Try.underlying70
 obtain ⟨c0, c1, c2, f0, f1, f2⟩ := keep_block hk
 have KB := Aside0.mk hk
 have HW := Aside0.mk hown
 have HBB := Aside0.mk HB
 have HSS := Aside0.mk hbase
 have HKP := Aside0.mk (Kept.refl w (fun k => k = g ∨ some k = v.ownBlock))
 have HV := Aside0.mk (show ∀ k, v.ownBlock = some k → v.ownBlock = some k ∨ w.heap.size ≤ k from fun k hk => .inl hk)
 clear hk hown HB hbase
 by_cases hp : put.toList = ([] : List UInt8)
 ·have pb1 : (put.toList == ([] : List UInt8)) = true := beq_iff_eq.mpr hp
  have pb2 : (put.toList != ([] : List UInt8)) = false := bne_eq_false_iff_eq.mpr hp
  by_cases hd : drop.toList = ([] : List UInt8)
  ·have db1 : (drop.toList == ([] : List UInt8)) = true := beq_iff_eq.mpr hd
   have db2 : (drop.toList != ([] : List UInt8)) = false := bne_eq_false_iff_eq.mpr hd
   go_enter Try.func75, Try.ntmps75
   go_wp2_with fail
   go_wp2_with fail
   go_end0
   have e1 : n + endN put drop = n := by simp [endN, hp, hd]
   have e2 : xs ++ endC put drop = xs := by simp [endC, hp, hd]
   rw [e1, e2]
   exact ⟨rfl, _, blk_put (blk_put KB.out 1 _ rfl) 2 _ rfl, own_set (own_set HW.out ag 1 (.string ⟨#[]⟩)) ag 2 (.string ⟨#[]⟩), ag, (HBB.out.setCell hg _).setCell hg _, Nat.le_trans (Nat.le_trans HSS.out (size_set _ g 1 _)) (size_set _ g 2 _), (HKP.out.setCell (p := ⟨g, 1, none⟩) (.inl (.inl rfl)) _).setCell (p := ⟨g, 2, none⟩) (.inl (.inl rfl)) _, HV.out⟩
  ·have db1 : (drop.toList == ([] : List UInt8)) = false := beq_eq_false_iff_ne.mpr hd
   have db2 : (drop.toList != ([] : List UInt8)) = true := bne_iff_ne.mpr hd
   go_enter Try.func75, Try.ntmps75
   go_wp2_with fail
   refine start_ (n := 15) (S := fun w' => w'.cell? ⟨g, 0, none⟩ = some v ∧ w'.cell? ⟨g, 2, none⟩ = some (.string drop)) (ds := [14]) (Array.replicate 15 false) (by kernel_rfl) rfl rfl ⟨c0, c2⟩ (fun hHeld => ?_)
   have KBA := Aside0.mk (blk_drew KB.out)
   have HWA := Aside0.mk (show w.drew.ownsRow base 60 3 v (n) (xs) from HW.out)
   have HBA := Aside0.mk (below_drew HBB.out)
   have HSA := Aside0.mk (show base ≤ w.drew.heap.size from HSS.out)
   have HKA := Aside0.mk (show Kept w w.drew (fun k => k = g ∨ some k = v.ownBlock) from HKP.out)
   clear KB HW HBB HSS HKP
   generalize hq3 : w.drew = w3a at KBA HWA HBA HSA HKA hHeld ⊢
   clear hq3
   refine pW 0 26 (bN 15 1) ?_
   refine pW 1 27 (bN 15 3) ?_
   refine pW 2 28 (bN 15 7) ?_
   refine pW 3 29 (bN 15 15) ?_
   refine tW2 4 30 (bN 15 31) ?_
   refine pW 5 31 (bN 15 63) ?_
   refine pW 6 32 (bN 15 127) ?_
   refine pW 7 33 (bN 15 255) ?_
   refine tW2 8 34 (bN 15 511) ?_
   refine pW 9 35 (bN 15 1023) ?_
   refine one_ (i := 10) (N := some 36) (bN 15 2047) rfl rfl (by kernel_rfl) (by decide) (fun K hK => ?_)
   refine value_ (v := .slice (some ⟨w3a.heap.size, 0, none⟩) 1 1) (w1 := w3a.alloc (.cells #[.int .i64 0, .string ⟨#[]⟩, .string drop] 60)) (by rfl) rfl ?_ ?_
   ·go_simp
    try rfl
   refine hK.out _ _ ⟨(pw_cell_below (below_alloc (Below.refl _ _) _) hHeld.1), (pw_cell_below (below_alloc (Below.refl _ _) _) hHeld.2)⟩ (fun hHeld => ?_)
   clear hK K
   simp only [Act.put, List.setIfInBounds_toArray, List.set_cons_zero, List.set_cons_succ, i64_w, i32_w]
   refine one_ (i := 11) (N := some 37) (bN 15 4095) rfl rfl (by kernel_rfl) (by decide) (fun K hK => ?_)
   refine step_append_cells (w0 := w0) base (by rfl) (.tmp 30) (.tmp 36) 26 60 _ 3 40 rfl Try.underlying26 info53 rfl (by omega) (by omega) v (n) (xs) [.int .i64 0, .string ⟨#[]⟩, .string drop] (by rfl) (by rfl) rfl (by simp [Value.oneCell']) HWA.out HBA.out HSA.out (by omega) ?_
   intro v3 w3b hown1 hb1 hgrow hat
   obtain ⟨A3, cc3, rfl⟩ := own_slice hown1
   have KB1 := Aside0.mk (blk_grown KBA.out hgrow (Ne.symm ag))
   have HW1 := Aside0.mk hown1
   have HB1 := Aside0.mk hb1
   have HS1 := Aside0.mk (show base ≤ w3b.heap.size from Nat.le_trans HSA.out hgrow.size)
   have ag1 : (Value.slice A3 (n + 1) cc3).ownBlock ≠ some g := by
    rcases hat with e | ⟨b, e, hb⟩
    ·rw [e]; exact ag
    ·rw [e]; intro q; have := blk_lt KBA.out; injection q; omega
   have HV1 := Aside0.mk (own_next HV.out hat (Nat.le_trans HKA.out.1 (Nat.le_refl w3a.heap.size)))
   have HK1 := Aside0.mk (kept_grown HKA.out hgrow (fun k hk => (HV.out k hk).elim (fun e => .inl (.inr e.symm)) .inr))
   clear hown1 hb1 hgrow hat HV HKA
   have HV := HV1
   clear HV1
   refine hK.out _ _ ⟨(blk_cell KB1.out 0).trans rfl, (blk_cell KB1.out 2).trans rfl⟩ (fun hHeld => ?_)
   clear hK K
   simp only [Act.put, List.setIfInBounds_toArray, List.set_cons_zero, List.set_cons_succ, i64_w, i32_w]
   refine pW 12 38 (bN 15 8191) ?_
   refine pW 13 39 (bN 15 16383) ?_
   refine last_ (i := 14) (N := none) (bN 15 32767) rfl rfl (by kernel_rfl) (by decide) (fun K hK => ?_)
   have k0 := (blk_cell KB1.out 0).trans (show _ = some v from rfl)
   have k1 := blk_frozen KB1.out 0
   refine skip_ (w1 := w3b.setCell ⟨g, 0, none⟩ (.slice A3 (n + 1) cc3)) (by rfl) rfl ?_ ?_
   ·go_simp
    try rfl
   refine hK.out _ _ ?_
   clear hK K k0 k1
   refine done_ (by kernel_rfl) ?_
   have KB := Aside0.mk (blk_put (cs' := #[(.slice A3 (n + 1) cc3), .string put, .string drop]) KB1.out 0 (.slice A3 (n + 1) cc3) rfl)
   have HW := Aside0.mk (own_set HW1.out ag1 0 (.slice A3 (n + 1) cc3))
   have HBB := Aside0.mk (HB1.out.setCell (p := ⟨g, 0, none⟩) hg (.slice A3 (n + 1) cc3))
   have HSS := Aside0.mk (Nat.le_trans HS1.out (size_set w3b g 0 (.slice A3 (n + 1) cc3)))
   have HKP := Aside0.mk (HK1.out.setCell (p := ⟨g, 0, none⟩) (.inl (.inl rfl)) (.slice A3 (n + 1) cc3))
   clear KBA HWA HBA HSA KB1 HW1 HB1 HS1 HK1 hHeld c0 c1 c2 f0 f1 f2 ag
   have ag := ag1
   clear ag1
   generalize w3b.setCell ⟨g, 0, none⟩ (.slice A3 (n + 1) cc3) = w3 at KB HW HBB HSS HKP ⊢
   obtain ⟨c0, c1, c2, f0, f1, f2⟩ := keep_block KB.out
   go_wp2_with fail
   go_end0
   have e1 : n + endN put drop = n + 1 := by simp [endN, hp, hd]
   have e2 : xs ++ endC put drop = xs ++ [.int .i64 0, .string ⟨#[]⟩, .string drop] := by simp [endC, hp, hd]
   rw [e1, e2]
   exact ⟨rfl, _, blk_put (blk_put KB.out 1 _ rfl) 2 _ rfl, own_set (own_set HW.out ag 1 (.string ⟨#[]⟩)) ag 2 (.string ⟨#[]⟩), ag, (HBB.out.setCell hg _).setCell hg _, Nat.le_trans (Nat.le_trans HSS.out (size_set _ g 1 _)) (size_set _ g 2 _), (HKP.out.setCell (p := ⟨g, 1, none⟩) (.inl (.inl rfl)) _).setCell (p := ⟨g, 2, none⟩) (.inl (.inl rfl)) _, HV.out⟩
 ·have pb1 : (put.toList == ([] : List UInt8)) = false := beq_eq_false_iff_ne.mpr hp
  have pb2 : (put.toList != ([] : List UInt8)) = true := bne_iff_ne.mpr hp
  by_cases hd : drop.toList = ([] : List UInt8)
  ·have db1 : (drop.toList == ([] : List UInt8)) = true := beq_iff_eq.mpr hd
   have db2 : (drop.toList != ([] : List UInt8)) = false := bne_eq_false_iff_eq.mpr hd
   go_enter Try.func75, Try.ntmps75
   go_wp2_with fail
   refine start_ (n := 15) (S := fun w' => w'.cell? ⟨g, 0, none⟩ = some v ∧ w'.cell? ⟨g, 1, none⟩ = some (.string put)) (ds := [14]) (Array.replicate 15 false) (by kernel_rfl) rfl rfl ⟨c0, c1⟩ (fun hHeld => ?_)
   have KBA := Aside0.mk (blk_drew KB.out)
   have HWA := Aside0.mk (show w.drew.ownsRow base 60 3 v (n) (xs) from HW.out)
   have HBA := Aside0.mk (below_drew HBB.out)
   have HSA := Aside0.mk (show base ≤ w.drew.heap.size from HSS.out)
   have HKA := Aside0.mk (show Kept w w.drew (fun k => k = g ∨ some k = v.ownBlock) from HKP.out)
   clear KB HW HBB HSS HKP
   generalize hq1 : w.drew = w1a at KBA HWA HBA HSA HKA hHeld ⊢
   clear hq1
   refine pW 0 7 (bN 15 1) ?_
   refine pW 1 8 (bN 15 3) ?_
   refine pW 2 9 (bN 15 7) ?_
   refine pW 3 10 (bN 15 15) ?_
   refine tW2 4 11 (bN 15 31) ?_
   refine pW 5 12 (bN 15 63) ?_
   refine pW 6 13 (bN 15 127) ?_
   refine pW 7 14 (bN 15 255) ?_
   refine tW2 8 15 (bN 15 511) ?_
   refine pW 9 16 (bN 15 1023) ?_
   refine one_ (i := 10) (N := some 17) (bN 15 2047) rfl rfl (by kernel_rfl) (by decide) (fun K hK => ?_)
   refine value_ (v := .slice (some ⟨w1a.heap.size, 0, none⟩) 1 1) (w1 := w1a.alloc (.cells #[.int .i64 0, .string put, .string ⟨#[]⟩] 60)) (by rfl) rfl ?_ ?_
   ·go_simp
    try rfl
   refine hK.out _ _ ⟨(pw_cell_below (below_alloc (Below.refl _ _) _) hHeld.1), (pw_cell_below (below_alloc (Below.refl _ _) _) hHeld.2)⟩ (fun hHeld => ?_)
   clear hK K
   simp only [Act.put, List.setIfInBounds_toArray, List.set_cons_zero, List.set_cons_succ, i64_w, i32_w]
   refine one_ (i := 11) (N := some 18) (bN 15 4095) rfl rfl (by kernel_rfl) (by decide) (fun K hK => ?_)
   refine step_append_cells (w0 := w0) base (by rfl) (.tmp 11) (.tmp 17) 26 60 _ 3 40 rfl Try.underlying26 info53 rfl (by omega) (by omega) v (n) (xs) [.int .i64 0, .string put, .string ⟨#[]⟩] (by rfl) (by rfl) rfl (by simp [Value.oneCell']) HWA.out HBA.out HSA.out (by omega) ?_
   intro v1 w1b hown1 hb1 hgrow hat
   obtain ⟨A1, cc1, rfl⟩ := own_slice hown1
   have KB1 := Aside0.mk (blk_grown KBA.out hgrow (Ne.symm ag))
   have HW1 := Aside0.mk hown1
   have HB1 := Aside0.mk hb1
   have HS1 := Aside0.mk (show base ≤ w1b.heap.size from Nat.le_trans HSA.out hgrow.size)
   have ag1 : (Value.slice A1 (n + 1) cc1).ownBlock ≠ some g := by
    rcases hat with e | ⟨b, e, hb⟩
    ·rw [e]; exact ag
    ·rw [e]; intro q; have := blk_lt KBA.out; injection q; omega
   have HV1 := Aside0.mk (own_next HV.out hat (Nat.le_trans HKA.out.1 (Nat.le_refl w1a.heap.size)))
   have HK1 := Aside0.mk (kept_grown HKA.out hgrow (fun k hk => (HV.out k hk).elim (fun e => .inl (.inr e.symm)) .inr))
   clear hown1 hb1 hgrow hat HV HKA
   have HV := HV1
   clear HV1
   refine hK.out _ _ ⟨(blk_cell KB1.out 0).trans rfl, (blk_cell KB1.out 1).trans rfl⟩ (fun hHeld => ?_)
   clear hK K
   simp only [Act.put, List.setIfInBounds_toArray, List.set_cons_zero, List.set_cons_succ, i64_w, i32_w]
   refine pW 12 19 (bN 15 8191) ?_
   refine pW 13 20 (bN 15 16383) ?_
   refine last_ (i := 14) (N := none) (bN 15 32767) rfl rfl (by kernel_rfl) (by decide) (fun K hK => ?_)
   have k0 := (blk_cell KB1.out 0).trans (show _ = some v from rfl)
   have k1 := blk_frozen KB1.out 0
   refine skip_ (w1 := w1b.setCell ⟨g, 0, none⟩ (.slice A1 (n + 1) cc1)) (by rfl) rfl ?_ ?_
   ·go_simp
    try rfl
   refine hK.out _ _ ?_
   clear hK K k0 k1
   refine done_ (by kernel_rfl) ?_
   have KB := Aside0.mk (blk_put (cs' := #[(.slice A1 (n + 1) cc1), .string put, .string drop]) KB1.out 0 (.slice A1 (n + 1) cc1) rfl)
   have HW := Aside0.mk (own_set HW1.out ag1 0 (.slice A1 (n + 1) cc1))
   have HBB := Aside0.mk (HB1.out.setCell (p := ⟨g, 0, none⟩) hg (.slice A1 (n + 1) cc1))
   have HSS := Aside0.mk (Nat.le_trans HS1.out (size_set w1b g 0 (.slice A1 (n + 1) cc1)))
   have HKP := Aside0.mk (HK1.out.setCell (p := ⟨g, 0, none⟩) (.inl (.inl rfl)) (.slice A1 (n + 1) cc1))
   clear KBA HWA HBA HSA KB1 HW1 HB1 HS1 HK1 hHeld c0 c1 c2 f0 f1 f2 ag
   have ag := ag1
   clear ag1
   generalize w1b.setCell ⟨g, 0, none⟩ (.slice A1 (n + 1) cc1) = w1 at KB HW HBB HSS HKP ⊢
   obtain ⟨c0, c1, c2, f0, f1, f2⟩ := keep_block KB.out
   go_wp2_with fail
   go_end0
   have e1 : n + endN put drop = n + 1 := by simp [endN, hp, hd]
   have e2 : xs ++ endC put drop = xs ++ [.int .i64 0, .string put, .string ⟨#[]⟩] := by simp [endC, hp, hd]
   rw [e1, e2]
   exact ⟨rfl, _, blk_put (blk_put KB.out 1 _ rfl) 2 _ rfl, own_set (own_set HW.out ag 1 (.string ⟨#[]⟩)) ag 2 (.string ⟨#[]⟩), ag, (HBB.out.setCell hg _).setCell hg _, Nat.le_trans (Nat.le_trans HSS.out (size_set _ g 1 _)) (size_set _ g 2 _), (HKP.out.setCell (p := ⟨g, 1, none⟩) (.inl (.inl rfl)) _).setCell (p := ⟨g, 2, none⟩) (.inl (.inl rfl)) _, HV.out⟩
  ·have db1 : (drop.toList == ([] : List UInt8)) = false := beq_eq_false_iff_ne.mpr hd
   have db2 : (drop.toList != ([] : List UInt8)) = true := bne_iff_ne.mpr hd
   go_enter Try.func75, Try.ntmps75
   go_wp2_with fail
   refine start_ (n := 15) (S := fun w' => w'.cell? ⟨g, 0, none⟩ = some v ∧ w'.cell? ⟨g, 1, none⟩ = some (.string put)) (ds := [14]) (Array.replicate 15 false) (by kernel_rfl) rfl rfl ⟨c0, c1⟩ (fun hHeld => ?_)
   have KBA := Aside0.mk (blk_drew KB.out)
   have HWA := Aside0.mk (show w.drew.ownsRow base 60 3 v (n) (xs) from HW.out)
   have HBA := Aside0.mk (below_drew HBB.out)
   have HSA := Aside0.mk (show base ≤ w.drew.heap.size from HSS.out)
   have HKA := Aside0.mk (show Kept w w.drew (fun k => k = g ∨ some k = v.ownBlock) from HKP.out)
   clear KB HW HBB HSS HKP
   generalize hq1 : w.drew = w1a at KBA HWA HBA HSA HKA hHeld ⊢
   clear hq1
   refine pW 0 7 (bN 15 1) ?_
   refine pW 1 8 (bN 15 3) ?_
   refine pW 2 9 (bN 15 7) ?_
   refine pW 3 10 (bN 15 15) ?_
   refine tW2 4 11 (bN 15 31) ?_
   refine pW 5 12 (bN 15 63) ?_
   refine pW 6 13 (bN 15 127) ?_
   refine pW 7 14 (bN 15 255) ?_
   refine tW2 8 15 (bN 15 511) ?_
   refine pW 9 16 (bN 15 1023) ?_
   refine one_ (i := 10) (N := some 17) (bN 15 2047) rfl rfl (by kernel_rfl) (by decide) (fun K hK => ?_)
   refine value_ (v := .slice (some ⟨w1a.heap.size, 0, none⟩) 1 1) (w1 := w1a.alloc (.cells #[.int .i64 0, .string put, .string ⟨#[]⟩] 60)) (by rfl) rfl ?_ ?_
   ·go_simp
    try rfl
   refine hK.out _ _ ⟨(pw_cell_below (below_alloc (Below.refl _ _) _) hHeld.1), (pw_cell_below (below_alloc (Below.refl _ _) _) hHeld.2)⟩ (fun hHeld => ?_)
   clear hK K
   simp only [Act.put, List.setIfInBounds_toArray, List.set_cons_zero, List.set_cons_succ, i64_w, i32_w]
   refine one_ (i := 11) (N := some 18) (bN 15 4095) rfl rfl (by kernel_rfl) (by decide) (fun K hK => ?_)
   refine step_append_cells (w0 := w0) base (by rfl) (.tmp 11) (.tmp 17) 26 60 _ 3 40 rfl Try.underlying26 info53 rfl (by omega) (by omega) v (n) (xs) [.int .i64 0, .string put, .string ⟨#[]⟩] (by rfl) (by rfl) rfl (by simp [Value.oneCell']) HWA.out HBA.out HSA.out (by omega) ?_
   intro v1 w1b hown1 hb1 hgrow hat
   obtain ⟨A1, cc1, rfl⟩ := own_slice hown1
   have KB1 := Aside0.mk (blk_grown KBA.out hgrow (Ne.symm ag))
   have HW1 := Aside0.mk hown1
   have HB1 := Aside0.mk hb1
   have HS1 := Aside0.mk (show base ≤ w1b.heap.size from Nat.le_trans HSA.out hgrow.size)
   have ag1 : (Value.slice A1 (n + 1) cc1).ownBlock ≠ some g := by
    rcases hat with e | ⟨b, e, hb⟩
    ·rw [e]; exact ag
    ·rw [e]; intro q; have := blk_lt KBA.out; injection q; omega
   have HV1 := Aside0.mk (own_next HV.out hat (Nat.le_trans HKA.out.1 (Nat.le_refl w1a.heap.size)))
   have HK1 := Aside0.mk (kept_grown HKA.out hgrow (fun k hk => (HV.out k hk).elim (fun e => .inl (.inr e.symm)) .inr))
   clear hown1 hb1 hgrow hat HV HKA
   have HV := HV1
   clear HV1
   refine hK.out _ _ ⟨(blk_cell KB1.out 0).trans rfl, (blk_cell KB1.out 1).trans rfl⟩ (fun hHeld => ?_)
   clear hK K
   simp only [Act.put, List.setIfInBounds_toArray, List.set_cons_zero, List.set_cons_succ, i64_w, i32_w]
   refine pW 12 19 (bN 15 8191) ?_
   refine pW 13 20 (bN 15 16383) ?_
   refine last_ (i := 14) (N := none) (bN 15 32767) rfl rfl (by kernel_rfl) (by decide) (fun K hK => ?_)
   have k0 := (blk_cell KB1.out 0).trans (show _ = some v from rfl)
   have k1 := blk_frozen KB1.out 0
   refine skip_ (w1 := w1b.setCell ⟨g, 0, none⟩ (.slice A1 (n + 1) cc1)) (by rfl) rfl ?_ ?_
   ·go_simp
    try rfl
   refine hK.out _ _ ?_
   clear hK K k0 k1
   refine done_ (by kernel_rfl) ?_
   have KB := Aside0.mk (blk_put (cs' := #[(.slice A1 (n + 1) cc1), .string put, .string drop]) KB1.out 0 (.slice A1 (n + 1) cc1) rfl)
   have HW := Aside0.mk (own_set HW1.out ag1 0 (.slice A1 (n + 1) cc1))
   have HBB := Aside0.mk (HB1.out.setCell (p := ⟨g, 0, none⟩) hg (.slice A1 (n + 1) cc1))
   have HSS := Aside0.mk (Nat.le_trans HS1.out (size_set w1b g 0 (.slice A1 (n + 1) cc1)))
   have HKP := Aside0.mk (HK1.out.setCell (p := ⟨g, 0, none⟩) (.inl (.inl rfl)) (.slice A1 (n + 1) cc1))
   clear KBA HWA HBA HSA KB1 HW1 HB1 HS1 HK1 hHeld c0 c1 c2 f0 f1 f2 ag
   have ag := ag1
   clear ag1
   generalize w1b.setCell ⟨g, 0, none⟩ (.slice A1 (n + 1) cc1) = w1 at KB HW HBB HSS HKP ⊢
   obtain ⟨c0, c1, c2, f0, f1, f2⟩ := keep_block KB.out
   go_wp2_with fail
   refine start_ (n := 15) (S := fun w' => w'.cell? ⟨g, 0, none⟩ = some (.slice A1 (n + 1) cc1) ∧ w'.cell? ⟨g, 2, none⟩ = some (.string drop)) (ds := [14]) (Array.replicate 15 false) (by kernel_rfl) rfl rfl ⟨c0, c2⟩ (fun hHeld => ?_)
   have KBA := Aside0.mk (blk_drew KB.out)
   have HWA := Aside0.mk (show w1.drew.ownsRow base 60 3 (.slice A1 (n + 1) cc1) (n + 1) (xs ++ [.int .i64 0, .string put, .string ⟨#[]⟩]) from HW.out)
   have HBA := Aside0.mk (below_drew HBB.out)
   have HSA := Aside0.mk (show base ≤ w1.drew.heap.size from HSS.out)
   have HKA := Aside0.mk (show Kept w w1.drew (fun k => k = g ∨ some k = v.ownBlock) from HKP.out)
   clear KB HW HBB HSS HKP
   generalize hq3 : w1.drew = w3a at KBA HWA HBA HSA HKA hHeld ⊢
   clear hq3
   refine pW 0 26 (bN 15 1) ?_
   refine pW 1 27 (bN 15 3) ?_
   refine pW 2 28 (bN 15 7) ?_
   refine pW 3 29 (bN 15 15) ?_
   refine tW2 4 30 (bN 15 31) ?_
   refine pW 5 31 (bN 15 63) ?_
   refine pW 6 32 (bN 15 127) ?_
   refine pW 7 33 (bN 15 255) ?_
   refine tW2 8 34 (bN 15 511) ?_
   refine pW 9 35 (bN 15 1023) ?_
   refine one_ (i := 10) (N := some 36) (bN 15 2047) rfl rfl (by kernel_rfl) (by decide) (fun K hK => ?_)
   refine value_ (v := .slice (some ⟨w3a.heap.size, 0, none⟩) 1 1) (w1 := w3a.alloc (.cells #[.int .i64 0, .string ⟨#[]⟩, .string drop] 60)) (by rfl) rfl ?_ ?_
   ·go_simp
    try rfl
   refine hK.out _ _ ⟨(pw_cell_below (below_alloc (Below.refl _ _) _) hHeld.1), (pw_cell_below (below_alloc (Below.refl _ _) _) hHeld.2)⟩ (fun hHeld => ?_)
   clear hK K
   simp only [Act.put, List.setIfInBounds_toArray, List.set_cons_zero, List.set_cons_succ, i64_w, i32_w]
   refine one_ (i := 11) (N := some 37) (bN 15 4095) rfl rfl (by kernel_rfl) (by decide) (fun K hK => ?_)
   refine step_append_cells (w0 := w0) base (by rfl) (.tmp 30) (.tmp 36) 26 60 _ 3 40 rfl Try.underlying26 info53 rfl (by omega) (by omega) (.slice A1 (n + 1) cc1) (n + 1) (xs ++ [.int .i64 0, .string put, .string ⟨#[]⟩]) [.int .i64 0, .string ⟨#[]⟩, .string drop] (by rfl) (by rfl) rfl (by simp [Value.oneCell']) HWA.out HBA.out HSA.out (by omega) ?_
   intro v3 w3b hown1 hb1 hgrow hat
   obtain ⟨A3, cc3, rfl⟩ := own_slice hown1
   have KB1 := Aside0.mk (blk_grown KBA.out hgrow (Ne.symm ag))
   have HW1 := Aside0.mk hown1
   have HB1 := Aside0.mk hb1
   have HS1 := Aside0.mk (show base ≤ w3b.heap.size from Nat.le_trans HSA.out hgrow.size)
   have ag1 : (Value.slice A3 (n + 1 + 1) cc3).ownBlock ≠ some g := by
    rcases hat with e | ⟨b, e, hb⟩
    ·rw [e]; exact ag
    ·rw [e]; intro q; have := blk_lt KBA.out; injection q; omega
   have HV1 := Aside0.mk (own_next HV.out hat (Nat.le_trans HKA.out.1 (Nat.le_refl w3a.heap.size)))
   have HK1 := Aside0.mk (kept_grown HKA.out hgrow (fun k hk => (HV.out k hk).elim (fun e => .inl (.inr e.symm)) .inr))
   clear hown1 hb1 hgrow hat HV HKA
   have HV := HV1
   clear HV1
   refine hK.out _ _ ⟨(blk_cell KB1.out 0).trans rfl, (blk_cell KB1.out 2).trans rfl⟩ (fun hHeld => ?_)
   clear hK K
   simp only [Act.put, List.setIfInBounds_toArray, List.set_cons_zero, List.set_cons_succ, i64_w, i32_w]
   refine pW 12 38 (bN 15 8191) ?_
   refine pW 13 39 (bN 15 16383) ?_
   refine last_ (i := 14) (N := none) (bN 15 32767) rfl rfl (by kernel_rfl) (by decide) (fun K hK => ?_)
   have k0 := (blk_cell KB1.out 0).trans (show _ = some (.slice A1 (n + 1) cc1) from rfl)
   have k1 := blk_frozen KB1.out 0
   refine skip_ (w1 := w3b.setCell ⟨g, 0, none⟩ (.slice A3 (n + 1 + 1) cc3)) (by rfl) rfl ?_ ?_
   ·go_simp
    try rfl
   refine hK.out _ _ ?_
   clear hK K k0 k1
   refine done_ (by kernel_rfl) ?_
   have KB := Aside0.mk (blk_put (cs' := #[(.slice A3 (n + 1 + 1) cc3), .string put, .string drop]) KB1.out 0 (.slice A3 (n + 1 + 1) cc3) rfl)
   have HW := Aside0.mk (own_set HW1.out ag1 0 (.slice A3 (n + 1 + 1) cc3))
   have HBB := Aside0.mk (HB1.out.setCell (p := ⟨g, 0, none⟩) hg (.slice A3 (n + 1 + 1) cc3))
   have HSS := Aside0.mk (Nat.le_trans HS1.out (size_set w3b g 0 (.slice A3 (n + 1 + 1) cc3)))
   have HKP := Aside0.mk (HK1.out.setCell (p := ⟨g, 0, none⟩) (.inl (.inl rfl)) (.slice A3 (n + 1 + 1) cc3))
   clear KBA HWA HBA HSA KB1 HW1 HB1 HS1 HK1 hHeld c0 c1 c2 f0 f1 f2 ag
   have ag := ag1
   clear ag1
   generalize w3b.setCell ⟨g, 0, none⟩ (.slice A3 (n + 1 + 1) cc3) = w3 at KB HW HBB HSS HKP ⊢
   obtain ⟨c0, c1, c2, f0, f1, f2⟩ := keep_block KB.out
   go_wp2_with fail
   go_end0
   have e1 : n + endN put drop = n + 1 + 1 := by simp [endN, hp, hd]
   have e2 : xs ++ endC put drop = (xs ++ [.int .i64 0, .string put, .string ⟨#[]⟩]) ++ [.int .i64 0, .string ⟨#[]⟩, .string drop] := by simp [endC, hp, hd]
   rw [e1, e2]
   exact ⟨rfl, _, blk_put (blk_put KB.out 1 _ rfl) 2 _ rfl, own_set (own_set HW.out ag 1 (.string ⟨#[]⟩)) ag 2 (.string ⟨#[]⟩), ag, (HBB.out.setCell hg _).setCell hg _, Nat.le_trans (Nat.le_trans HSS.out (size_set _ g 1 _)) (size_set _ g 2 _), (HKP.out.setCell (p := ⟨g, 1, none⟩) (.inl (.inl rfl)) _).setCell (p := ⟨g, 2, none⟩) (.inl (.inl rfl)) _, HV.out⟩
abbrev Pt := Int × ByteArray × ByteArray
def cellsP (l : List Pt) : List Value := l.flatMap (fun p => [.int .i64 p.1, .string p.2.1, .string p.2.2])
def endL (put drop : ByteArray) : List Pt := (if put.toList = ([] : List UInt8) then [] else [(0, put, ⟨#[]⟩)]) ++ (if drop.toList = ([] : List UInt8) then [] else [(0, ⟨#[]⟩, drop)])
theorem cellsP_app (a b : List Pt) : cellsP (a ++ b) = cellsP a ++ cellsP b := by simp [cellsP]
theorem cellsP_len : ∀ a : List Pt, (cellsP a).length = a.length * 3
 | [] => rfl
 | p :: r => by
  have := cellsP_len r
  simp only [cellsP, List.flatMap_cons, List.length_append, List.length_cons, List.length_nil] at this ⊢
  omega
theorem endC_is (put drop : ByteArray) : endC put drop = cellsP (endL put drop) := by
 unfold endC endL; rw [cellsP_app]; congr 1 <;> split <;> rfl
theorem endN_is (put drop : ByteArray) : endN put drop = (endL put drop).length := by
 unfold endN endL; rw [List.length_append]; congr 1 <;> split <;> rfl
/-- The maker at block g: what it has made, put and dropped. -/
structure IsMk (w0 w : World) (base g : Nat) (l : List Pt) (put drop : ByteArray) (v : Value) : Prop where
 blk : w.heap[g]? = some (.cells #[v, .string put, .string drop] 70 (0, 0))
 own : w.ownsRow base 60 3 v l.length (cellsP l)
 far : v.ownBlock ≠ some g
 bel : Below base w0 w
 siz : base ≤ w.heap.size
theorem maker_endP (base g : Nat) (v : Value) (l : List Pt) (put drop : ByteArray) (w0 w : World) (h : IsMk w0 w base g l put drop v) (hg : base ≤ g) (hn : l.length ≤ 1000) :
  Calls Try.prog 75 #[.pointer (some ⟨g, 0, none⟩)] w fun e w' => e = .returned (.tuple #[]) ∧ ∃ v', IsMk w0 w' base g (l ++ endL put drop) ⟨#[]⟩ ⟨#[]⟩ v' ∧ Kept w w' (fun k => k = g ∨ some k = v.ownBlock) ∧ (∀ k, v'.ownBlock = some k → v.ownBlock = some k ∨ w.heap.size ≤ k) := by
 refine (maker_end base g l.length v (cellsP l) put drop w0 w h.blk h.own h.far h.bel h.siz hg hn).mono ?_
 rintro e w' ⟨rfl, v', hk, ho, ha, hb, hs, hkp, hv⟩
 refine ⟨rfl, v', ⟨hk, ?_, ha, hb, hs⟩, hkp, hv⟩
 rw [List.length_append, ← endN_is, cellsP_app, ← endC_is]; exact ho
def keepA (l : List Pt) (n : Int) : List Pt :=
 match l.getLast? with
 | some p => if p.1 > 0 then l.dropLast ++ [(wrap64 (p.1 + n), p.2.1, p.2.2)] else l ++ [(n, ⟨#[]⟩, ⟨#[]⟩)]
 | none => [(n, ⟨#[]⟩, ⟨#[]⟩)]
/-- A cell of an own row, stored anew. -/
theorem own_setAt {w : World} {base h cap n size j : Nat} {e : TypeId} {xs : List Value} (ho : w.ownsRow base e size (.slice (some ⟨h, 0, none⟩) n cap) n xs) (hj : j < n * size) (u : Value) :
  (w.setCell ⟨h, j, none⟩ u).ownsRow base e size (.slice (some ⟨h, 0, none⟩) n cap) n (xs.set j u) := by
 obtain ⟨h1, h2⟩ := ho
 refine ⟨by rw [List.length_set]; exact h1, .inr ?_⟩
 rcases h2 with ⟨h2, _⟩ | ⟨g, c, cur, hv, hb, hg, hn, hc, hs, ht⟩
 ·cases h2
 ·cases hv
  refine ⟨h, cap, cur.setIfInBounds j u, rfl, hb, blk_set hg j u, hn, hc, by simpa using hs, ?_⟩
  rw [Array.toList_setIfInBounds, List.take_set, ht]
theorem own_cell {w : World} {base h cap n size j : Nat} {e : TypeId} {xs : List Value} (ho : w.ownsRow base e size (.slice (some ⟨h, 0, none⟩) n cap) n xs) {u : Value} (hj : xs[j]? = some u) : w.cell? ⟨h, j, none⟩ = some u ∧ w.frozen? ⟨h, j, none⟩ = false := by
 obtain ⟨h1, h2⟩ := ho
 rcases h2 with ⟨h2, _⟩ | ⟨g, c, cur, hv, hb, hg, hn, hc, hs, ht⟩
 ·cases h2
 ·cases hv
  refine ⟨?_, blk_frozen hg j⟩
  rw [blk_cell hg j]
  rw [← ht, List.getElem?_take] at hj
  split at hj
  ·simpa using hj
  ·cases hj
theorem cellsP_at (a : List Pt) (p : Pt) : (cellsP (a ++ [p]))[a.length * 3]? = some (.int .i64 p.1) := by
 rw [cellsP_app, List.getElem?_append_right (by rw [cellsP_len]; omega), cellsP_len, Nat.sub_self]; rfl
theorem cellsP_set (a : List Pt) (p : Pt) (x : Int) : (cellsP (a ++ [p])).set (a.length * 3) (.int .i64 x) = cellsP (a ++ [(x, p.2.1, p.2.2)]) := by
 rw [cellsP_app, cellsP_app, List.set_append_right _ _ (by rw [cellsP_len]; omega), cellsP_len, Nat.sub_self]; rfl
theorem IsMk.set {w0 w : World} {base g : Nat} {l : List Pt} {put drop : ByteArray} {v : Value} (h : IsMk w0 w base g l put drop v) (hg : base ≤ g) {put' drop' : ByteArray} {i : Nat} {u : Value} (e : #[v, .string put, .string drop].setIfInBounds i u = #[v, .string put', .string drop']) :
  IsMk w0 (w.setCell ⟨g, i, none⟩ u) base g l put' drop' v :=
 ⟨blk_put h.blk i u e, own_set h.own h.far i u, h.far, h.bel.setCell (p := ⟨g, i, none⟩) hg u, Nat.le_trans h.siz (size_set w g i u)⟩
theorem IsMk.drew {w0 w : World} {base g : Nat} {l : List Pt} {put drop : ByteArray} {v : Value} (h : IsMk w0 w base g l put drop v) : IsMk w0 w.drew base g l put drop v :=
 ⟨blk_drew h.blk, h.own, h.far, below_drew h.bel, h.siz⟩
theorem IsMk.alloc {w0 w : World} {base g : Nat} {l : List Pt} {put drop : ByteArray} {v : Value} (h : IsMk w0 w base g l put drop v) (o : Obj) : IsMk w0 (w.alloc o) base g l put drop v :=
 ⟨blk_alloc h.blk o, h.own.alloc o, h.far, h.bel.alloc h.siz o, Nat.le_trans h.siz (by simp)⟩
theorem own_some {w : World} {base n size : Nat} {e : TypeId} {v : Value} {xs : List Value} (ho : w.ownsRow base e size v (n + 1) xs) : ∃ h cap, v = .slice (some ⟨h, 0, none⟩) (n + 1) cap := by
 obtain ⟨h1, h2⟩ := ho
 rcases h2 with ⟨_, h2⟩ | ⟨g, c, cur, hv, _⟩
 ·omega
 ·exact ⟨g, c, hv⟩
theorem far_of {w : World} {g : Nat} {v v1 : Value} (hat : v1.ownBlock = v.ownBlock ∨ ∃ b, v1.ownBlock = some b ∧ w.heap.size ≤ b) (ag : v.ownBlock ≠ some g) (hg : g < w.heap.size) : v1.ownBlock ≠ some g := by
 rcases hat with e | ⟨b, e, hb⟩
 ·rw [e]; exact ag
 ·rw [e]; intro q; injection q; omega
set_option maxRecDepth 100000 in
set_option maxHeartbeats 8000000 in
theorem maker_keep (base g : Nat) (v : Value) (l : List Pt) (put drop : ByteArray) (x : Int) (w0 w : World) (h : IsMk w0 w base g l put drop v) (hg : base ≤ g) (hn : l.length ≤ 900) :
  Calls Try.prog 48 #[.pointer (some ⟨g, 0, none⟩), .int .i64 x] w fun e w' => e = .returned (.tuple #[]) ∧ (if x = 0 then w' = w else ∃ v', IsMk w0 w' base g (keepA (l ++ endL put drop) x) ⟨#[]⟩ ⟨#[]⟩ v' ∧ Kept w w' (fun k => k = g ∨ some k = v.ownBlock) ∧ (∀ k, v'.ownBlock = some k → v.ownBlock = some k ∨ w.heap.size ≤ k)) := by
 have hu53 := Try.underlying60
 have hu74 := Try.underlying70
 by_cases hx : x = 0
 ·subst hx
  go_enter Try.func48, Try.ntmps48
  go_wp2_with fail
  ((try simp only [Exit.inBlock, Exit.then]); refine bodyPost_ret (results_none rfl _ _ _) rfl ?_)
  exact ⟨rfl, rfl⟩
 ·simp only [if_neg hx]
  have bx1 : (x == 0) = false := beq_eq_false_iff_ne.mpr hx
  have bx2 : (x != 0) = true := bne_iff_ne.mpr hx
  have hn' : l.length ≤ 1000 := by omega
  have hLn : (l ++ endL put drop).length ≤ 1000 := by
   have : (endL put drop).length ≤ 2 := by unfold endL; rw [List.length_append]; split <;> split <;> simp
   rw [List.length_append]; omega
  have H := Aside0.mk h
  clear h
  go_enter Try.func48, Try.ntmps48
  go_upto_region 2 with (first | (go_at_call 75; (with_reducible refine (maker_endP base g v l put drop w0 _ H.out hg hn').mono ?_); rintro e w1 ⟨rfl, v1, h1, hkp, hv⟩; have H1 := Aside0.mk h1; have HKP := Aside0.mk hkp; have HV := Aside0.mk hv; clear h1 hkp hv))
  generalize hLe : l ++ endL put drop = L at H1 hLn
  obtain ⟨c0, c1, c2, f0, f1, f2⟩ := keep_block H1.out.blk
  rcases List.eq_nil_or_concat L with hL | ⟨L0, p, hL⟩
  ·subst hL
   obtain ⟨A1, cc1, rfl⟩ := own_slice H1.out.own
   have ag := H1.out.far
   have HOWN := H1.out.own
   have q1 : decide ((0 : Int) ≤ -1) = false := by decide
   have q2 : IntKind.i64.wrap (-1) = -1 := by decide
   have HO := Aside0.mk HOWN
   have HB := Aside0.mk H1.out.bel
   have HS := Aside0.mk H1.out.siz
   have KB := Aside0.mk H1.out.blk
   clear H1
   go_wp2_with (first | ((with_reducible refine gate_builtin (b := .append) (xs := #[.tmp 44, .tmp 47]) rfl ?_); at_builtin; refine print_append_cells (w0 := w0) base rfl (.tmp 44) (.tmp 47) 26 60 _ 3 40 rfl Try.underlying26 info53 rfl (by omega) (by omega) _ _ _ [.int .i64 x, .string ⟨#[]⟩, .string ⟨#[]⟩] rfl rfl rfl (by simp [Value.oneCell']) HO.out HB.out HS.out (by first | omega | simp) ?_; intro v2 w2 ho2 hb2 hg2 hat2; obtain ⟨A2, cc2, rfl⟩ := own_slice ho2; have KB2 := Aside0.mk (blk_grown KB.out hg2 (Ne.symm ag)); have HO2 := Aside0.mk ho2; have HB2 := Aside0.mk hb2; have HS2 := Aside0.mk (Nat.le_trans HS.out hg2.size); have HKP2 := Aside0.mk (kept_grown HKP.out hg2 (fun k hk => (HV.out k hk).elim (fun e => .inl (.inr e.symm)) .inr)); have HV2 := Aside0.mk (own_next HV.out hat2 HKP.out.1); have ag2 := Aside0.mk (far_of hat2 ag (blk_lt KB.out)); have e0 := (keep_block KB2.out).1; have e1 := (keep_block KB2.out).2.2.2.1; clear ho2 hb2 hg2 hat2))
   go_end0
   rw [hLe]
   refine ⟨rfl, _, ⟨blk_put KB2.out 0 _ rfl, ?_, ag2.out, HB2.out.setCell (p := ⟨g, 0, none⟩) hg _, Nat.le_trans HS2.out (size_set _ g 0 _)⟩, HKP2.out.setCell (p := ⟨g, 0, none⟩) (.inl (.inl rfl)) _, HV2.out⟩
   exact own_set HO2.out ag2.out 0 _
  ·have hL' : L = L0 ++ [p] := by rw [hL, List.concat_eq_append]
   clear hL
   rw [hL'] at H1 hLn
   have ho1 := H1.out.own
   rw [List.length_append, List.length_singleton] at ho1
   obtain ⟨h, cc1, rfl⟩ := own_some ho1
   have ag := H1.out.far
   have hm : L0.length + 1 ≤ 1000 := by simpa using hLn
   have q0 : IntKind.i64.wrap ((L0.length : Int) + 1 - 1) = (L0.length : Int) := (i64_w _).trans (by rw [show (L0.length : Int) + 1 - 1 = L0.length by omega]; unfold wrap64; omega)
   have q1 : IntKind.i64.wrap (L0.length : Int) = (L0.length : Int) := (i64_w _).trans (by unfold wrap64; omega)
   have q2 : decide ((0 : Int) ≤ (L0.length : Int)) = true := decide_eq_true (by omega)
   have q3 : (0 : Int) ≤ (L0.length : Int) := by omega
   have q4 : (L0.length : Int) < (L0.length : Int) + 1 := by omega
   obtain ⟨e2, e3⟩ := own_cell ho1 (cellsP_at L0 p)
   by_cases hp : p.1 > 0
   ·have p1 : decide (0 < p.1) = true := decide_eq_true hp
    have ek : keepA (L0 ++ [p]) x = L0 ++ [(wrap64 (p.1 + x), p.2.1, p.2.2)] := by unfold keepA; rw [List.getLast?_concat]; simp [hp]
    go_wp2_with fail
    ((try simp only [Exit.inBlock, Exit.then]); refine bodyPost_ret (results_none rfl _ _ _) rfl ?_)
    have hne : g ≠ h := fun e => ag (by rw [e]; rfl)
    rw [hLe, hL', ek]
    refine ⟨rfl, _, ⟨blk_far H1.out.blk hne _, ?_, ag, H1.out.bel.setCell (p := ⟨h, L0.length * 3, none⟩) (own_base ho1 h rfl) _, Nat.le_trans H1.out.siz (size_set _ h _ _)⟩, HKP.out.setCell (p := ⟨h, L0.length * 3, none⟩) ((HV.out h rfl).elim (fun e => .inl (.inr e.symm)) .inr) _, HV.out⟩
    have := own_setAt ho1 (j := L0.length * 3) (by omega) (.int .i64 (wrap64 (p.1 + x)))
    rw [cellsP_set] at this
    simpa using this
   ·have p1 : decide (0 < p.1) = false := decide_eq_false hp
    have ek : keepA (L0 ++ [p]) x = (L0 ++ [p]) ++ [(x, ⟨#[]⟩, ⟨#[]⟩)] := by unfold keepA; rw [List.getLast?_concat]; simp [hp]
    have HOWN := ho1
    have HO := Aside0.mk HOWN
    have HB := Aside0.mk H1.out.bel
    have HS := Aside0.mk H1.out.siz
    have KB := Aside0.mk H1.out.blk
    clear H1
    go_wp2_with (first | ((with_reducible refine gate_builtin (b := .append) (xs := #[.tmp 44, .tmp 47]) rfl ?_); at_builtin; refine print_append_cells (w0 := w0) base rfl (.tmp 44) (.tmp 47) 26 60 _ 3 40 rfl Try.underlying26 info53 rfl (by omega) (by omega) _ _ _ [.int .i64 x, .string ⟨#[]⟩, .string ⟨#[]⟩] rfl rfl rfl (by simp [Value.oneCell']) HO.out HB.out HS.out (by first | omega | simp) ?_; intro v2 w2 ho2 hb2 hg2 hat2; obtain ⟨A2, cc2, rfl⟩ := own_slice ho2; have KB2 := Aside0.mk (blk_grown KB.out hg2 (Ne.symm ag)); have HO2 := Aside0.mk ho2; have HB2 := Aside0.mk hb2; have HS2 := Aside0.mk (Nat.le_trans HS.out hg2.size); have HKP2 := Aside0.mk (kept_grown HKP.out hg2 (fun k hk => (HV.out k hk).elim (fun e => .inl (.inr e.symm)) .inr)); have HV2 := Aside0.mk (own_next HV.out hat2 HKP.out.1); have ag2 := Aside0.mk (far_of hat2 ag (blk_lt KB.out)); have e0 := (keep_block KB2.out).1; have e1 := (keep_block KB2.out).2.2.2.1; clear ho2 hb2 hg2 hat2))
    go_end0
    first | rw [hLe, hL', ek] | rw [show L0 ++ [p, (x, (⟨#[]⟩ : ByteArray), (⟨#[]⟩ : ByteArray))] = (L0 ++ [p]) ++ [(x, ⟨#[]⟩, ⟨#[]⟩)] by simp]
    refine ⟨rfl, _, ⟨blk_put KB2.out 0 _ rfl, ?_, ag2.out, HB2.out.setCell (p := ⟨g, 0, none⟩) hg _, Nat.le_trans HS2.out (size_set _ g 0 _)⟩, HKP2.out.setCell (p := ⟨g, 0, none⟩) (.inl (.inl rfl)) _, HV2.out⟩
    have := own_set HO2.out ag2.out 0 (.slice A2 (L0.length + 1 + 1) cc2)
    rw [cellsP_app, List.length_append, List.length_append]; exact this
def keepS (l : List Pt) (put drop : ByteArray) (x : Int) : List Pt × ByteArray × ByteArray := if x = 0 then (l, put, drop) else (keepA (l ++ endL put drop) x, ⟨#[]⟩, ⟨#[]⟩)
theorem maker_keepS (base g : Nat) (v : Value) (l : List Pt) (put drop : ByteArray) (x : Int) (w0 w : World) (h : IsMk w0 w base g l put drop v) (hg : base ≤ g) (hn : l.length ≤ 900) :
  Calls Try.prog 48 #[.pointer (some ⟨g, 0, none⟩), .int .i64 x] w fun e w' => e = .returned (.tuple #[]) ∧ ∃ v', IsMk w0 w' base g (keepS l put drop x).1 (keepS l put drop x).2.1 (keepS l put drop x).2.2 v' ∧ Kept w w' (fun k => k = g ∨ some k = v.ownBlock) ∧ (∀ k, v'.ownBlock = some k → v.ownBlock = some k ∨ w.heap.size ≤ k) := by
 refine (maker_keep base g v l put drop x w0 w h hg hn).mono ?_
 rintro e w' ⟨rfl, hh⟩
 refine ⟨rfl, ?_⟩
 unfold keepS
 by_cases hx : x = 0
 ·rw [if_pos hx] at hh ⊢
  subst hh
  exact ⟨v, h, Kept.refl _ _, fun _ e => .inl e⟩
 ·rw [if_neg hx] at hh ⊢
  obtain ⟨v', h', hk, ho⟩ := hh
  exact ⟨v', h', hk, ho⟩
theorem IsMk.below {w0 w w1 : World} {base g : Nat} {l : List Pt} {put drop : ByteArray} {v : Value} (h : IsMk w0 w base g l put drop v) (hb : Below w.heap.size w w1) : IsMk w0 w1 base g l put drop v :=
 ⟨blk_below h.blk hb, pw_own_below h.own hb, h.far, below_then h.bel h.siz hb, Nat.le_trans h.siz hb.size⟩
set_option maxRecDepth 100000 in
set_option maxHeartbeats 8000000 in
theorem maker_takeK (base g : Nat) (v : Value) (l : List Pt) (put drop : ByteArray) (p0 : Int) (p1 p2 : ByteArray) (w0 w : World) (h : IsMk w0 w base g l put drop v) (hg : base ≤ g) (hn : l.length ≤ 900)
  (hz1 : put.size + p1.size ≤ 4611686018427387904) (hz2 : drop.size + p2.size ≤ 4611686018427387904) :
  Calls Try.prog 46 #[.pointer (some ⟨g, 0, none⟩), .agg #[.int .i64 p0, .string p1, .string p2]] w fun e w' => e = .returned (.tuple #[]) ∧
   ∃ v', IsMk w0 w' base g (keepS l put drop p0).1 ((keepS l put drop p0).2.1 ++ p1) ((keepS l put drop p0).2.2 ++ p2) v' ∧ Kept w w' (fun k => k = g ∨ some k = v.ownBlock) ∧ (∀ k, v'.ownBlock = some k → v.ownBlock = some k ∨ w.heap.size ≤ k) := by
 have hu53 := Try.underlying60
 have hu74 := Try.underlying70
 have hs1 : (keepS l put drop p0).2.1.size + p1.size ≤ 9223372036854775807 := by
  unfold keepS; split
  ·show put.size + p1.size ≤ _; omega
  ·show (0 : Nat) + p1.size ≤ _; omega
 have hs2 : (keepS l put drop p0).2.2.size + p2.size ≤ 9223372036854775807 := by
  unfold keepS; split
  ·show drop.size + p2.size ≤ _; omega
  ·show (0 : Nat) + p2.size ≤ _; omega
 have gw := blk_lt h.blk
 have vw := own_lt h.own
 have H := Aside0.mk h
 have HS := Aside0.mk (And.intro hs1 hs2)
 clear h hz1 hz2 hs1 hs2
 go_enter Try.func46, Try.ntmps46
 go_upto_region 2 with (first | ((with_reducible refine gate_dst (N := 3) rfl ?_); refine box_event ?hg (N := 3) ?hd (cs := #[.int .i64 p0, .string p1, .string p2]) (t := 60) ?hr ?_; (case hd => rfl); (case hg => rfl); (case hr => first | (go_simp; done) | (go_simp; rfl)); intro gb hgb w4 hbox hb; have HI := Aside0.mk (IsMk.below H.out hb); have BX := Aside0.mk hbox; have z0 := (blk_cell hbox 0).trans (show _ = some (Value.int .i64 p0) from rfl); have GB := Aside0.mk hgb; have K4 := Aside0.mk (Kept.of_below hb (fun k => k = g ∨ some k = v.ownBlock)); clear hbox hb hgb) | (go_at_call 48; (with_reducible refine (maker_keepS base g v l put drop p0 w0 _ HI.out hg hn).mono ?_); rintro e w5 ⟨rfl, v5, h5, hk5, hv5⟩; have K5 := Aside0.mk (K4.out.then_ hk5 (fun _ q => .inl q)); have V5 := Aside0.mk (fun (k : Nat) (e : v5.ownBlock = some k) => (hv5 k e).imp (fun q => q) (fun q => Nat.le_trans K4.out.1 q)); have HI5 := Aside0.mk h5; have BX5 := Aside0.mk (blk_kept BX.out hk5 (fun q => q.elim (fun e => absurd gw (by have := GB.out; omega)) (fun e => absurd (vw gb e.symm) (by have := GB.out; omega)))); clear h5 hk5 hv5 z0))
 clear HI BX
 have HI := HI5
 have BX := BX5
 clear HI5 BX5
 generalize hKS : keepS l put drop p0 = KS at HI HS
 have t1 := HS.out.1
 have t2 := HS.out.2
 have t1a := eq_true t1
 have t2a := eq_true t2
 have t1b : (9223372036854775807 < KS.2.1.size + p1.size) = False := eq_false (Nat.not_lt.2 t1)
 have t2b : (9223372036854775807 < KS.2.2.size + p2.size) = False := eq_false (Nat.not_lt.2 t2)
 refine start_ (n := 10) (S := fun w' => w'.cell? ⟨g, 1, none⟩ = some (.string KS.2.1) ∧ w'.cell? ⟨gb, 1, none⟩ = some (.string p1)) (ds := [9]) (Array.replicate 10 false) (by kernel_rfl) rfl rfl ⟨(keep_block HI.out.blk).2.1, (blk_cell BX.out 1).trans rfl⟩ (fun hHeld => ?_)
 have HIA := Aside0.mk HI.out.drew
 have BXA := Aside0.mk (blk_drew BX.out)
 have KA := Aside0.mk K5.out.drew
 clear HI BX K4 K5
 generalize w5.drew = w2a at HIA BXA KA hHeld ⊢
 refine pW 0 8 (bN 10 1) ?_
 refine pW 1 9 (bN 10 3) ?_
 refine pW 2 10 (bN 10 7) ?_
 refine tW2 3 11 (bN 10 15) ?_
 refine pW 4 12 (bN 10 31) ?_
 refine tW2 5 13 (bN 10 63) ?_
 refine pW 6 14 (bN 10 127) ?_
 refine pW 7 15 (bN 10 255) ?_
 refine pW 8 16 (bN 10 511) ?_
 refine last_ (i := 9) (N := none) (bN 10 1023) rfl rfl (by kernel_rfl) (by decide) (fun K hK => ?_)
 have k0 := (keep_block HIA.out.blk).2.1
 have k1 := (keep_block HIA.out.blk).2.2.2.2.1
 refine skip_ (w1 := w2a.setCell ⟨g, 1, none⟩ (.string (KS.2.1 ++ p1))) (by rfl) rfl ?_ ?_
 ·go_simp
  try rfl
 refine hK.out _ _ ?_
 clear hK K k0 k1
 refine done_ (by kernel_rfl) ?_
 have HI := Aside0.mk (HIA.out.set (i := 1) (u := .string (KS.2.1 ++ p1)) (put' := KS.2.1 ++ p1) (drop' := KS.2.2) hg rfl)
 have BX := Aside0.mk (blk_far BXA.out (p := ⟨g, 1, none⟩) (show gb ≠ g by have := GB.out; omega) (.string (KS.2.1 ++ p1)))
 have K6 := Aside0.mk (KA.out.setCell (p := ⟨g, 1, none⟩) (.inl (.inl rfl)) (.string (KS.2.1 ++ p1)))
 clear HIA BXA KA hHeld
 generalize w2a.setCell ⟨g, 1, none⟩ (.string (KS.2.1 ++ p1)) = w6 at HI BX K6 ⊢
 go_wp2_with fail
 refine start_ (n := 10) (S := fun w' => w'.cell? ⟨g, 2, none⟩ = some (.string KS.2.2) ∧ w'.cell? ⟨gb, 2, none⟩ = some (.string p2)) (ds := [9]) (Array.replicate 10 false) (by kernel_rfl) rfl rfl ⟨(keep_block HI.out.blk).2.2.1, (blk_cell BX.out 2).trans rfl⟩ (fun hHeld => ?_)
 have HIA := Aside0.mk HI.out.drew
 have BXA := Aside0.mk (blk_drew BX.out)
 have KA := Aside0.mk K6.out.drew
 clear HI BX K6
 generalize w6.drew = w3a at HIA BXA KA hHeld ⊢
 refine pW 0 17 (bN 10 1) ?_
 refine pW 1 18 (bN 10 3) ?_
 refine pW 2 19 (bN 10 7) ?_
 refine tW2 3 20 (bN 10 15) ?_
 refine pW 4 21 (bN 10 31) ?_
 refine tW2 5 22 (bN 10 63) ?_
 refine pW 6 23 (bN 10 127) ?_
 refine pW 7 24 (bN 10 255) ?_
 refine pW 8 25 (bN 10 511) ?_
 refine last_ (i := 9) (N := none) (bN 10 1023) rfl rfl (by kernel_rfl) (by decide) (fun K hK => ?_)
 have k0 := (keep_block HIA.out.blk).2.2.1
 have k1 := (keep_block HIA.out.blk).2.2.2.2.2
 refine skip_ (w1 := w3a.setCell ⟨g, 2, none⟩ (.string (KS.2.2 ++ p2))) (by rfl) rfl ?_ ?_
 ·go_simp
  try rfl
 refine hK.out _ _ ?_
 clear hK K k0 k1
 refine done_ (by kernel_rfl) ?_
 go_wp2_with fail
 go_end0
 first | rw [hKS] | skip
 exact ⟨rfl, v5, HIA.out.set (i := 2) (u := .string (KS.2.2 ++ p2)) (put' := KS.2.1 ++ p1) (drop' := KS.2.2 ++ p2) hg rfl, KA.out.setCell (p := ⟨g, 2, none⟩) (.inl (.inl rfl)) (.string (KS.2.2 ++ p2)), V5.out⟩
theorem maker_take (base g : Nat) (v : Value) (l : List Pt) (put drop : ByteArray) (p0 : Int) (p1 p2 : ByteArray) (w0 w : World) (h : IsMk w0 w base g l put drop v) (hg : base ≤ g) (hn : l.length ≤ 900)
  (hz1 : put.size + p1.size ≤ 4611686018427387904) (hz2 : drop.size + p2.size ≤ 4611686018427387904) :
  Calls Try.prog 46 #[.pointer (some ⟨g, 0, none⟩), .agg #[.int .i64 p0, .string p1, .string p2]] w fun e w' => e = .returned (.tuple #[]) ∧
   ∃ v', IsMk w0 w' base g (keepS l put drop p0).1 ((keepS l put drop p0).2.1 ++ p1) ((keepS l put drop p0).2.2 ++ p2) v' := by
 refine (maker_takeK base g v l put drop p0 p1 p2 w0 w h hg hn hz1 hz2).mono ?_
 rintro e w' ⟨rfl, v', h', _, _⟩
 exact ⟨rfl, v', h'⟩
set_option maxRecDepth 100000 in
set_option maxHeartbeats 8000000 in
theorem maker_made (base g : Nat) (v : Value) (l : List Pt) (put drop : ByteArray) (w0 w : World) (h : IsMk w0 w base g l put drop v) (hg : base ≤ g) (hn : l.length ≤ 1000) :
  Calls Try.prog 52 #[.pointer (some ⟨g, 0, none⟩)] w fun e w' => ∃ v', e = .returned v' ∧ IsMk w0 w' base g (l ++ endL put drop) ⟨#[]⟩ ⟨#[]⟩ v' := by
 have hu74 := Try.underlying70
 have H := Aside0.mk h
 clear h
 go_enter Try.func52, Try.ntmps52
 go_wp2_with (first | (go_at_call 75; (with_reducible refine (maker_endP base g v l put drop w0 _ H.out hg hn).mono ?_); rintro e w1 ⟨rfl, v1, h1, _, _⟩; have H1 := Aside0.mk h1; have c0 := (keep_block h1.blk).1; clear h1))
 go_ret
 exact ⟨_, rfl, H1.out⟩
end Go.Proofs.Ytoagljlnfakgjaa.Mk
namespace Go.Proofs.Ytoagljlnfakgjaa
open Go.RowKit Go.Proofs.YtoagljlnfakgjaaW.PrintWords Go.Proofs.YtoagljlnfakgjaaW.PrintLast
/-- Kept, and nothing of the world beside the heap is turned. -/
structure KeptB (w W : World) (S : Nat → Prop) : Prop where
 kept : Kept w W S
 os : W.os = w.os
 tape : W.tape = w.tape
 output : W.output = w.output
theorem KeptB.of_below {w W : World} (h : Below w.heap.size w W) (S : Nat → Prop) : KeptB w W S := ⟨Kept.of_below h S, h.os, h.tape, h.output⟩
theorem KeptB.mono {w W : World} {S S' : Nat → Prop} (h : KeptB w W S) (hs : ∀ k, S k → S' k) : KeptB w W S' := ⟨h.kept.mono hs, h.os, h.tape, h.output⟩
theorem KeptB.then_ {w W W2 : World} {S S2 : Nat → Prop} (h : KeptB w W S) (k : KeptB W W2 S2) (hs : ∀ k, S2 k → S k ∨ w.heap.size ≤ k) : KeptB w W2 S := ⟨h.kept.then_ k.kept hs, k.os.trans h.os, k.tape.trans h.tape, k.output.trans h.output⟩
theorem KeptB.setCell {w W : World} {S : Nat → Prop} (h : KeptB w W S) {p : Addr} (hp : S p.block ∨ w.heap.size ≤ p.block) (u : Value) : KeptB w (W.setCell p u) S := ⟨h.kept.setCell hp u, h.os, h.tape, h.output⟩
theorem KeptB.below {w0 w W : World} {S : Nat → Prop} {B : Nat} (h : KeptB w W S) (hB : Below B w0 w) (hle : B ≤ w.heap.size) (hS : ∀ k, S k → B ≤ k) : Below B w0 W :=
 ⟨h.os.trans hB.os, h.tape.trans hB.tape, h.output.trans hB.output, Nat.le_trans hB.size h.kept.1, fun k hk => (h.kept.2 k (Nat.lt_of_lt_of_le hk hle) (fun q => absurd (hS k q) (by omega))).trans (hB.block k hk)⟩
end Go.Proofs.Ytoagljlnfakgjaa
