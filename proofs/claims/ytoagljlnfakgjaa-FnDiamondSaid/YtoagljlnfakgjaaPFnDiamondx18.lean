/- (thin) Written by a program of this session (wip/ovl.py) over the kit's print. -/
import Derived.Test.YtoagljlnfakgjaaBase
import Derived.Test.YtoagljlnfakgjaaPFnDiamondx0
import Derived.Test.YtoagljlnfakgjaaPFnDiamondx3
import Derived.Test.YtoagljlnfakgjaaPFnDiamondx4
namespace Go.Proofs.Ytoagljlnfakgjaa.PFnDiamond
open Go.RowKit Go.Proofs.YtoagljlnfakgjaaW.PrintWords Go.Proofs.YtoagljlnfakgjaaW.PrintLast Go.Proofs.YtoagljlnfakgjaaW.PrintMore
attribute [local go_sem] max2_int min2_int max_two min_two max_three min_three max_four min_four
set_option linter.unusedVariables false
set_option linter.unusedSimpArgs false
set_option maxHeartbeats 16000000
set_option maxRecDepth 100000
-- import Base
section
open Go.Proofs.Ytoagljlnfakgjaa.Base
def fitGrow (o : List Int) (t : Nat) : List Int := if t = o.length then o ++ [107] else o
def fitKeep : Nat → List Int → Nat → List Int × Nat
 | 0, o, t => (o, t)
 | n + 1, o, t => fitKeep n (fitGrow o t) (t + 1)
def fitDrop : List Int → List Int → Nat → List Int × Nat
 | [], o, t => (o, t)
 | b :: r, o, t => fitDrop r ((fitGrow o t).set t b) (t + 1)
def fitOp : List S60 → List Int → Nat → List Int × Nat
 | [], o, t => (o, t)
 | p :: r, o, t => fitOp r (fitDrop (bytesOf p.f2) (fitKeep p.f0.toNat o t).1 (fitKeep p.f0.toNat o t).2).1 (fitDrop (bytesOf p.f2) (fitKeep p.f0.toNat o t).1 (fitKeep p.f0.toNat o t).2).2
def fitSz : List S60 → Nat
 | [] => 0
 | p :: r => p.f0.toNat + p.f2.size + fitSz r
def yW.f (l0 : List S60) (l1 : List S60) : Option ByteArray :=
 if l0.length ≤ 1000000 ∧ l1.length ≤ 1000000 ∧ fitSz l0 + fitSz l1 ≤ 1000000000 then some (strOfNums (fitOp l1 (fitOp l0 [] 0).1 0).1) else none
def fitAll (l0 l1 : List S60) : Nat → List Int → List Int
 | 0, o => (fitOp l1 (fitOp l0 o 0).1 0).1
 | 1, o => (fitOp l1 o 0).1
 | _, o => o
def fitRP : List S60 → Nat
 | [] => 1
 | p :: r => 3 + p.f0.toNat + p.f2.size + fitRP r
def fitRO (l0 l1 : List S60) : Nat → Nat
 | 0 => 1 + fitRP l0 + (1 + fitRP l1 + 1)
 | 1 => 1 + fitRP l1 + 1
 | _ => 1
def fitSO (l0 l1 : List S60) : Nat → Nat
 | 0 => fitSz l0 + fitSz l1
 | 1 => fitSz l1
 | _ => 0
structure FitSt (w W : World) (A0 : Option Addr) (n0 c0 : Nat) (A1 : Option Addr) (n1 c1 : Nat) (v : Value) (o : List Int) : Prop where
 rl : Kd.R (Kd.int .u8) 5 W w.heap.size (fun _ => True) v o
 bel : Below w.heap.size w W
 blk : W.heap[w.heap.size]? = some (.cells #[.slice A0 n0 c0, .slice A1 n1 c1] 26 (0, 0))
theorem fit_le (o : List Int) (t : Nat) (h : t ≤ o.length) : t + 1 ≤ (fitGrow o t).length ∧ (fitGrow o t).length ≤ o.length + 1 := by
 unfold fitGrow
 by_cases c : t = o.length
 rotate_left
 ·rw [if_neg c]; omega
 rw [if_pos c, List.length_append, List.length_singleton]; omega
theorem fit_next {n : Int} {i : Nat} (h : (i : Int) < n) (o : List Int) (t : Nat) : fitKeep (n.toNat - i) o t = fitKeep (n.toNat - (i + 1)) (fitGrow o t) (t + 1) := by
 rw [show n.toNat - i = (n.toNat - (i + 1)) + 1 by omega, fitKeep]
theorem fit_drop {s : ByteArray} {i : Nat} (h : i < s.size) (o : List Int) (t : Nat) : fitDrop ((bytesOf s).drop i) o t = fitDrop ((bytesOf s).drop (i + 1)) ((fitGrow o t).set t (bt s (i : Int))) (t + 1) := by
 rw [drop_bytes s i h, fitDrop]
theorem fit_op {l : List S60} {j : Nat} (h : j < l.length) (o : List Int) (t : Nat) : fitOp (l.drop j) o t = fitOp (l.drop (j + 1)) (fitDrop (bytesOf (rd_T60 l (j : Int)).f2) (fitKeep (rd_T60 l (j : Int)).f0.toNat o t).1 (fitKeep (rd_T60 l (j : Int)).f0.toNat o t).2).1 (fitDrop (bytesOf (rd_T60 l (j : Int)).f2) (fitKeep (rd_T60 l (j : Int)).f0.toNat o t).1 (fitKeep (rd_T60 l (j : Int)).f0.toNat o t).2).2 := by
 have e : rd_T60 l (j : Int) = l[j] := by
  show l.getD _ _ = _
  simp [List.getD_eq_getElem?_getD, h]
 rw [e, List.drop_eq_getElem_cons h, fitOp]
theorem fit_sz {l : List S60} {j : Nat} (h : j < l.length) : fitSz (l.drop j) = (rd_T60 l (j : Int)).f0.toNat + (rd_T60 l (j : Int)).f2.size + fitSz (l.drop (j + 1)) ∧ fitRP (l.drop j) = 3 + (rd_T60 l (j : Int)).f0.toNat + (rd_T60 l (j : Int)).f2.size + fitRP (l.drop (j + 1)) := by
 have e : rd_T60 l (j : Int) = l[j] := by
  show l.getD _ _ = _
  simp [List.getD_eq_getElem?_getD, h]
 rw [e, List.drop_eq_getElem_cons h, fitSz, fitRP]
 exact ⟨rfl, rfl⟩
theorem fit_pick {w W : World} {A0 A1 : Option Addr} {c0 c1 : Nat} {l0 l1 : List S60} {v : Value} {o : List Int} (h : FitSt w W A0 l0.length c0 A1 l1.length c1 v o) (hr0 : Kd.C k60 w A0 l0.length l0) (hr1 : Kd.C k60 w A1 l1.length l1) (hl : l0.length ≤ 1000000 ∧ l1.length ≤ 1000000) (i : Nat) (hi : i < 2) (T : List Int) (ht : fitAll l0 l1 i o = T) :
  ∃ (A : Option Addr) (l : List S60) (c : Nat), W.cell? ⟨w.heap.size, i, none⟩ = some (.slice A l.length c) ∧ Kd.C k60 w A l.length l ∧ l.length ≤ 1000000 ∧ fitAll l0 l1 (i + 1) (fitOp l o 0).1 = T ∧ fitRO l0 l1 i = 1 + fitRP l + fitRO l0 l1 (i + 1) ∧ fitSO l0 l1 i = fitSz l + fitSO l0 l1 (i + 1) := by
 match i, hi with
 | 0, _ => exact ⟨A0, l0, c0, (blk_cell h.blk 0).trans rfl, hr0, hl.1, ht, rfl, rfl⟩
 | 1, _ => exact ⟨A1, l1, c1, (blk_cell h.blk 1).trans rfl, hr1, hl.2, ht, rfl, rfl⟩
theorem FitSt.grown {w W W2 : World} {A0 A1 : Option Addr} {n0 c0 n1 c1 : Nat} {v v2 : Value} {o o2 : List Int} (h : FitSt w W A0 n0 c0 A1 n1 c1 v o) (hb : Below w.heap.size w W2) (hg : W.grownBy W2 v.ownBlock) (ho : Kd.R (Kd.int .u8) 5 W2 w.heap.size (fun _ => True) v2 o2) : FitSt w W2 A0 n0 c0 A1 n1 c1 v2 o2 :=
 ⟨ho, hb, blk_grown h.blk hg (Kd.R_ne h.rl h.blk (by decide))⟩
theorem FitSt.below {w W W2 : World} {A0 A1 : Option Addr} {n0 c0 n1 c1 : Nat} {v : Value} {o : List Int} (h : FitSt w W A0 n0 c0 A1 n1 c1 v o) (hb : Below W.heap.size W W2) : FitSt w W2 A0 n0 c0 A1 n1 c1 v o :=
 ⟨Kd.R_below h.rl hb, below_step h.bel hb, blk_below h.blk hb⟩
theorem FitSt.far {w W : World} {A0 A1 : Option Addr} {n0 c0 n1 c1 : Nat} {v : Value} {o : List Int} (h : FitSt w W A0 n0 c0 A1 n1 c1 v o) {g : Nat} {cs : Array Value} (hb : W.heap[g]? = some (.cells cs 60 (0, 0))) (hg : w.heap.size ≤ g) (j : Nat) (u : Value) : FitSt w (W.setCell ⟨g, j, none⟩ u) A0 n0 c0 A1 n1 c1 v o := by
 have hne : w.heap.size ≠ g := fun e => by
  subst e
  have := h.blk.symm.trans hb
  injection this with this
  injection this with _ this _
  exact absurd this (by decide)
 exact ⟨Kd.R_set h.rl hb (by decide) j u, h.bel.setCell (p := ⟨g, j, none⟩) hg u, blk_far h.blk hne u⟩
theorem fit_ro (l0 l1 : List S60) (i : Nat) : 1 ≤ fitRO l0 l1 i := by
 match i with
 | 0 => show 1 ≤ 1 + _ + _; omega
 | 1 => show 1 ≤ 1 + _ + _; omega
 | _ + 2 => exact Nat.le_refl _
theorem fit_rp (l : List S60) : 1 ≤ fitRP l := by
 cases l with
 | nil => exact Nat.le_refl _
 | cons p r => rw [fitRP]; omega
theorem FitSt.put {w W : World} {A0 A1 : Option Addr} {n0 c0 n1 c1 : Nat} {v : Value} {o : List Int} (h : FitSt w W A0 n0 c0 A1 n1 c1 v o) (t : Nat) (ht : t < o.length) (b : Int) :
  ∃ g cap, v = .slice (some ⟨g, 0, none⟩) o.length cap ∧ (∃ u, W.cell? ⟨g, t, none⟩ = some u) ∧ W.frozen? ⟨g, t, none⟩ = false ∧ FitSt w (W.setCell ⟨g, t, none⟩ (.int .u8 b)) A0 n0 c0 A1 n1 c1 v (o.set t b) ∧ W.grownBy (W.setCell ⟨g, t, none⟩ (.int .u8 b)) v.ownBlock := by
 obtain ⟨g, cap, e, hge, _, _⟩ := Kd.R_form h.rl (by omega)
 subst e
 obtain ⟨cs, hcl, hM, hcc, hfr⟩ := Kd.R_elem h.rl (0 : Int) (t : Int) (by omega) (by omega)
 have hs := Kd.R_seg h.rl (t : Int) (by omega) (by omega) (seg := [.int .u8 b]) (j := 0) hcl hcc (show 1 ≤ 1 from by decide) (x' := b) (okp := fun k => True ∧ k ≠ g) (show _ = _ from by
  have : cs.length = 1 := hcl
  match cs, this with
  | [x], _ => rfl) (fun _ hk => hk)
 have e1 : (t : Int).toNat * (Kd.int .u8).sz + 0 = t := by show t * 1 + 0 = t; omega
 rw [e1] at hs
 have hf := hfr 0
 rw [e1] at hf
 have hu : ∃ u, W.cell? ⟨g, t, none⟩ = some u := by
  have : cs.length = 1 := hcl
  match cs, this with
  | [x], _ => exact ⟨x, by have := hcc 0 x rfl; rw [e1] at this; exact this⟩
 have hg : W.grownBy (W.setCell ⟨g, t, none⟩ (.int .u8 b)) (some g) := hs.2
 have hr : Kd.R (Kd.int .u8) 5 (W.setCell ⟨g, t, none⟩ (.int .u8 b)) w.heap.size (fun _ => True) (.slice (some ⟨g, 0, none⟩) o.length cap) (o.set t b) := by
  have := hs.1
  rw [Int.toNat_natCast] at this
  exact this
 exact ⟨g, cap, rfl, hu, hf, h.grown (h.bel.setCell (p := ⟨g, t, none⟩) hge _) hg hr, hg⟩
theorem fit_q (o : List Int) : (o.length : Int) < ((o ++ [107]).length : Int) := by
 rw [List.length_append, List.length_singleton]; omega
theorem yW.calls (A0 : Option Addr) (c0 : Nat) (l0 : List S60) (A1 : Option Addr) (c1 : Nat) (l1 : List S60) (r : ByteArray) (w : World) (hr0 : Kd.C k60 w A0 l0.length l0) (hc0 : l0.length ≤ c0) (hr1 : Kd.C k60 w A1 l1.length l1) (hc1 : l1.length ≤ c1) (h : yW.f l0 l1 = some r) :
  Calls Try.prog 29 #[.slice A0 l0.length c0, .slice A1 l1.length c1] w fun e w' => e = .returned (.string r) ∧ Below w.heap.size w w' := by
 unfold yW.f at h
 split at h
 case isFalse => cases h
 rename_i hgd
 obtain ⟨hl0, hl1, hsz⟩ := hgd
 obtain ⟨T, eT⟩ : ∃ T, fitAll l0 l1 0 [] = T := ⟨_, rfl⟩
 have hr : strOfNums T = r := by rw [← eT]; exact Option.some.inj h
 subst hr
 have hu1 := Try.underlying60
 have HT0 := aM eT
 have HL := aM (And.intro hl0 hl1)
 have HSZ := aM hsz
 have HR0 := aM hr0
 have HR1 := aM hr1
 clear h eT hl0 hl1 hsz hr0 hr1 hc0 hc1
 go_enter Try.func29, Try.ntmps29
 go_wp2
 go_loopg [5, 17] (fitRO l0 l1 0) (fun kq v5 v17 wr => ∃ (i : Nat) (o : List Int), v17 = .int .i64 (i : Int) ∧ Aside0 (i ≤ 2) ∧ Aside0 (fitAll l0 l1 i o = T) ∧ Aside0 (o.length + fitSO l0 l1 i ≤ 1000000000) ∧ Aside0 (fitRO l0 l1 i ≤ kq) ∧ Aside0 (FitSt w wr A0 l0.length c0 A1 l1.length c1 v5 o))
 case atStart => exact ⟨0, [], rfl, ⟨Nat.zero_le _⟩, HT0, ⟨by have := HSZ.out; show 0 + (fitSz l0 + fitSz l1) ≤ _; omega⟩, ⟨Nat.le_refl _⟩, ⟨⟨Kd.R_nil _ _ _ _ _, below_alloc (Below.refl _ _) _, heap_alloc_new w _⟩⟩⟩
 case round =>
  obtain ⟨i, o, rfl, Hi, HF, HO, HK, HS⟩ := hrel
  clear HT0 HSZ
  cases gk with
  | zero => exact absurd HK.out (by have := fit_ro l0 l1 i; omega)
  | succ k1 => ?_
  by_cases hlt : i < 2
  rotate_left
  ·have c1b : decide ((i : Int) < 2) = false := decide_eq_false (by omega)
   have hi : i = 2 := by have := Hi.out; omega
   subst hi
   obtain rfl : o = T := HF.out
   obtain ⟨Ao, co, eo⟩ := Kd.R_slice HS.out.rl
   subst eo
   have hcv := Kd.C_string (P := Try.prog) (A := Ao) (c := co) Try.underlying44 Try.underlying5 Try.underlying9 ((Kd.R_reads' HS.out.rl).2.2)
   go_wp2
   go_ret
   exact ⟨rfl, HS.out.bel⟩
  have c1b : decide ((i : Int) < 2) = true := decide_eq_true (by omega)
  have p1 : (0 : Int) ≤ (i : Int) := by omega
  have q1 : (i : Int) < 2 := by omega
  obtain ⟨A, l, c, hcell, hC, hll, hF, hRO, hSO⟩ := fit_pick HS.out HR0.out HR1.out HL.out i hlt T HF.out
  have HC := aM hC
  have HLL := aM hll
  have HF2 := aM hF
  have HRO := aM hRO
  have HSO := aM hSO
  have HI2 := aM hlt
  clear hC hll hF hRO hSO hlt HF
  go_wp2
  go_loopg [5, 8, 23] k1 (fun kq v5 v8 v23 wr => ∃ (j t : Nat) (o' : List Int), v8 = .int .i64 (t : Int) ∧ v23 = .int .i64 (j : Int) ∧ Aside0 (j ≤ l.length) ∧ Aside0 (t ≤ o'.length) ∧ Aside0 (fitOp (l.drop j) o' t = fitOp l o 0) ∧ Aside0 (o'.length + fitSz (l.drop j) + fitSO l0 l1 (i + 1) ≤ 1000000000) ∧ Aside0 (fitRP (l.drop j) + fitRO l0 l1 (i + 1) ≤ kq ∧ kq ≤ k1) ∧ Aside0 (FitSt w wr A0 l0.length c0 A1 l1.length c1 v5 o'))
  case atStart => exact ⟨0, 0, o, rfl, rfl, ⟨Nat.zero_le _⟩, ⟨Nat.zero_le _⟩, ⟨by rw [List.drop_zero]⟩, ⟨by rw [List.drop_zero]; have := HO.out; have := HSO.out; omega⟩, ⟨by rw [List.drop_zero]; have := HK.out; have := HRO.out; omega⟩, HS⟩
  case round =>
   obtain ⟨j, t, o', rfl, rfl, Hj, Ht, HFo, HOo, HKo, HSo⟩ := hrel
   clear HS hcell
   cases gk with
   | zero => exact absurd HKo.out.1 (by have := fit_rp (l.drop j); omega)
   | succ k2 => ?_
   by_cases hlj : j < l.length
   rotate_left
   ·have c2b : decide ((j : Int) < (l.length : Int)) = false := decide_eq_false (by omega)
    have HXE := aM (show fitOp l o 0 = (o', t) by rw [← HFo.out, List.drop_eq_nil_of_le (by omega)]; rfl)
    have hj0 : l.drop j = [] := List.drop_eq_nil_of_le (by omega)
    have HRZ := aM (show fitRP (l.drop j) = 1 ∧ fitSz (l.drop j) = 0 by rw [hj0]; exact ⟨rfl, rfl⟩)
    clear hj0
    go_wp2
    have hK := HKo.out
    have hO := HOo.out
    have hR := HRZ.out
    have hI := HI2.out
    go_roundg k2
    case measure => omega
    case rel =>
     refine ⟨i + 1, o', ?_, ⟨by omega⟩, ⟨?_⟩, ⟨by omega⟩, ⟨by omega⟩, HSo⟩
     ·first | rfl | (congr 1; unfold wrap64; omega)
     have q := HF2.out
     rw [HXE.out] at q
     exact q
   have c2b : decide ((j : Int) < (l.length : Int)) = true := decide_eq_true (by omega)
   have p2 : (0 : Int) ≤ (j : Int) := by omega
   have q2 : (j : Int) < (l.length : Int) := by omega
   obtain ⟨ad, e3, hx0, hx1, hx2⟩ := at_T60 HC.out (j : Int) p2 q2
   cases e3
   have HX0 := (HSo.out.bel.cell (World.block_lt_of_cell? w _ hx0)).trans hx0
   have HX1 := (HSo.out.bel.cell (World.block_lt_of_cell? w _ hx1)).trans hx1
   have HX2 := (HSo.out.bel.cell (World.block_lt_of_cell? w _ hx2)).trans hx2
   clear hx0 hx1 hx2
   simp only [Int.toNat_natCast] at HX0 HX1 HX2
   have HE := aM (fit_op hlj o' t)
   have HZ := aM (fit_sz hlj)
   have HJ := aM hlj
   have HPB := aM (show (rd_T60 l (j : Int)).f0.toNat ≤ 1000000000 ∧ (rd_T60 l (j : Int)).f2.size ≤ 1000000000 by have := HOo.out; have := HZ.out.1; omega)
   clear hlj
   generalize rd_T60 l (j : Int) = p at HX0 HX1 HX2 HE HZ HPB
   obtain ⟨P0, P1, P2⟩ := p
   dsimp only at HX0 HX1 HX2 HE HZ HPB
   go_wp2_with ((with_reducible refine gate_dst (N := 10) rfl ?_); refine box_event rfl (N := 10) rfl (cs := #[.int .i64 0, .string ⟨#[]⟩, .string ⟨#[]⟩]) (t := 60) aP38 ?_; intro gp hgp w5 hbox hb; have HS5 := aM (HSo.out.below hb); have GE := aM (show w.heap.size ≤ gp by rw [hgp]; exact HSo.out.bel.size); have BX := aM hbox; obtain ⟨y0, y1, y2, f0, f1, f2⟩ := bx3 hbox; clear hb hgp hbox HSo)
   have B1 := blk_put (cs' := #[.int .i64 P0, .string ⟨#[]⟩, .string ⟨#[]⟩]) BX.out 0 (.int .i64 P0) rfl
   have B2 := blk_put (cs' := #[.int .i64 P0, .string P1, .string ⟨#[]⟩]) B1 1 (.string P1) rfl
   have B3 := blk_put (cs' := #[.int .i64 P0, .string P1, .string P2]) B2 2 (.string P2) rfl
   have HS6 := aM (((HS5.out.far BX.out GE.out 0 (.int .i64 P0)).far B1 GE.out 1 (.string P1)).far B2 GE.out 2 (.string P2))
   have BX3 := aM B3
   clear B1 B2 B3 y0 y1 y2 f0 f1 f2 BX HS5
   go_loopg [5, 8, 11] k2 (fun kq v5 v8 v11 wr => ∃ (a t2 : Nat) (o2 : List Int), v8 = .int .i64 (t2 : Int) ∧ v11 = .int .i64 (a : Int) ∧ Aside0 (t2 ≤ o2.length) ∧ Aside0 (fitKeep (P0.toNat - a) o2 t2 = fitKeep P0.toNat o' t) ∧ Aside0 (o2.length + (P0.toNat - a) + P2.size + fitSz (l.drop (j + 1)) + fitSO l0 l1 (i + 1) ≤ 1000000000) ∧ Aside0 ((P0.toNat - a) + 1 + (P2.size + 1) + fitRP (l.drop (j + 1)) + fitRO l0 l1 (i + 1) ≤ kq ∧ kq ≤ k2) ∧ Aside0 (a ≤ 1000000000) ∧ Aside0 (wr.heap[gp]? = some (.cells #[.int .i64 P0, .string P1, .string P2] 60 (0, 0))) ∧ Aside0 (FitSt w wr A0 l0.length c0 A1 l1.length c1 v5 o2))
   case atStart => exact ⟨0, t, o', rfl, rfl, Ht, ⟨rfl⟩, ⟨by have := HOo.out; have := HZ.out.1; omega⟩, ⟨by have := HKo.out; have := HZ.out.2; omega⟩, ⟨Nat.zero_le _⟩, BX3, HS6⟩
   case round =>
    obtain ⟨a, t2, o2, rfl, rfl, Ht2, HF3, HO3, HK3, HA3, HB3, HS3⟩ := hrel
    clear HS6 BX3
    cases gk with
    | zero => exact absurd HK3.out.1 (by omega)
    | succ k3 => ?_
    have y0 := (blk_cell HB3.out 0).trans (show _ = some (Value.int .i64 P0) from rfl)
    have y2 := (blk_cell HB3.out 2).trans (show _ = some (Value.string P2) from rfl)
    by_cases ha : (a : Int) < P0
    ·have c3b : decide ((a : Int) < P0) = true := decide_eq_true ha
     obtain ⟨Ao, co, eo⟩ := Kd.R_slice HS3.out.rl
     subst eo
     have HFN := aM (fit_next ha o2 t2)
     have HLE := aM (fit_le o2 t2 Ht2.out)
     have HAL := aM (show P0.toNat - (a + 1) + 1 = P0.toNat - a by omega)
     by_cases ht : t2 = o2.length
     rotate_left
     ·have eg : fitGrow o2 t2 = o2 := if_neg ht
      have cne : decide ((t2 : Int) = (o2.length : Int)) = false := decide_eq_false (by omega)
      have cnf : ((t2 : Int) = (o2.length : Int)) = False := eq_false (by omega)
      go_wp2
      have hA := HA3.out
      have hO := HO3.out
      have hL := HLE.out
      have hN := HAL.out
      go_roundg k3
      case measure => have := HK3.out; omega
      case rel =>
       refine ⟨a + 1, t2 + 1, fitGrow o2 t2, ?_, ?_, ⟨hL.1⟩, ⟨HFN.out.symm.trans HF3.out⟩, ⟨by omega⟩, ⟨by have := HK3.out; omega⟩, ⟨by have := HPB.out; omega⟩, HB3, ?_⟩
       ·first | rfl | (congr 1; unfold wrap64; omega)
       ·first | rfl | (congr 1; unfold wrap64; omega)
       rw [eg]; exact HS3
     subst ht
     have eg : fitGrow o2 o2.length = o2 ++ [107] := if_pos rfl
     go_wp2_with ((with_reducible refine gate_builtin (b := .append) (xs := #[.tmp 37, .tmp 38]) rfl ?_); at_builtin; refine Kd.R_append (Kd.int .u8) (w0 := w) w.heap.size rfl (.tmp 37) (.tmp 38) 44 5 (.int .u8 0) 1 rfl Try.underlying44 info5 rfl (by decide) (by omega) _ o2 107 [.int .u8 107] (fun _ => True) (fun _ => False) rfl rfl rfl (fun _ hk => hk.elim) (fun _ _ => trivial) HS3.out.rl HS3.out.bel HS3.out.bel.size (by have := HO3.out; omega) ?_; intro v9 w9 ho hb hg hat; have HS9 := aM (HS3.out.grown hb hg ho); have HB9 := aM (blk_grown HB3.out hg (Kd.R_ne HS3.out.rl HB3.out (by decide))); clear ho hb hg hat)
     have hA := HA3.out
     have hO := HO3.out
     have hL := HLE.out
     have hN := HAL.out
     go_roundg k3
     case measure => have := HK3.out; omega
     case rel =>
      refine ⟨a + 1, o2.length + 1, fitGrow o2 o2.length, ?_, ?_, ⟨hL.1⟩, ⟨HFN.out.symm.trans HF3.out⟩, ⟨by omega⟩, ⟨by have := HK3.out; omega⟩, ⟨by have := HPB.out; omega⟩, HB9, ?_⟩
      ·first | rfl | (congr 1; unfold wrap64; omega)
      ·first | rfl | (congr 1; unfold wrap64; omega)
      rw [eg]; exact HS9
    have c3b : decide ((a : Int) < P0) = false := decide_eq_false ha
    have HKE := aM (show fitKeep P0.toNat o' t = (o2, t2) by rw [← HF3.out, show P0.toNat - a = 0 by omega]; rfl)
    clear HF3
    go_wp2
    go_loopg [5, 8, 12] k3 (fun kq v5 v8 v12 wr => ∃ (b t3 : Nat) (o3 : List Int), v8 = .int .i64 (t3 : Int) ∧ v12 = .int .i64 (b : Int) ∧ Aside0 (b ≤ P2.size) ∧ Aside0 (t3 ≤ o3.length) ∧ Aside0 (fitDrop ((bytesOf P2).drop b) o3 t3 = fitDrop (bytesOf P2) o2 t2) ∧ Aside0 (o3.length + (P2.size - b) + fitSz (l.drop (j + 1)) + fitSO l0 l1 (i + 1) ≤ 1000000000) ∧ Aside0 ((P2.size - b) + 1 + fitRP (l.drop (j + 1)) + fitRO l0 l1 (i + 1) ≤ kq ∧ kq ≤ k3) ∧ Aside0 (wr.heap[gp]? = some (.cells #[.int .i64 P0, .string P1, .string P2] 60 (0, 0))) ∧ Aside0 (FitSt w wr A0 l0.length c0 A1 l1.length c1 v5 o3))
    case atStart => exact ⟨0, t2, o2, rfl, rfl, ⟨Nat.zero_le _⟩, Ht2, ⟨by rw [List.drop_zero]⟩, ⟨by have := HO3.out; omega⟩, ⟨by have := HK3.out; omega⟩, HB3, HS3⟩
    case round =>
     obtain ⟨b, t3, o3, rfl, rfl, Hb4, Ht4, HF4, HO4, HK4, HB4, HS4⟩ := hrel
     clear HS3 HB3 y0 y2
     cases gk with
     | zero => exact absurd HK4.out.1 (by omega)
     | succ k4 => ?_
     have y2 := (blk_cell HB4.out 2).trans (show _ = some (Value.string P2) from rfl)
     by_cases hb : b < P2.size
     rotate_left
     ·have c4b : decide ((b : Int) < (P2.size : Int)) = false := decide_eq_false (by omega)
      have HDE := aM (show fitDrop (bytesOf P2) o2 t2 = (o3, t3) by rw [← HF4.out, drop_end P2 b (by omega)]; rfl)
      have hb5 := hb
      go_wp2
      have hK := HK4.out
      have hO := HO4.out
      have hJ := HJ.out
      have hLL := HLL.out
      go_roundg k4
      case measure => have := HK3.out; have := HKo.out; omega
      case rel =>
       refine ⟨j + 1, t3, o3, rfl, ?_, ⟨by omega⟩, Ht4, ⟨?_⟩, ⟨by omega⟩, ⟨by have := HK3.out; have := HKo.out; omega⟩, HS4⟩
       ·first | rfl | (congr 1; unfold wrap64; omega)
       have q := HE.out.symm.trans HFo.out
       rw [HKE.out] at q
       dsimp only at q
       rw [HDE.out] at q
       exact q
     have c4b : decide ((b : Int) < (P2.size : Int)) = true := decide_eq_true (by omega)
     have p4 : (0 : Int) ≤ (b : Int) := by omega
     have q4 : (b : Int) < (P2.size : Int) := by omega
     have HX4 := aM (show ((P2[b]'hb).toNat : Int) = bt P2 (b : Int) by have := bt_at P2 (b : Int) (by simpa using hb); simpa using this)
     obtain ⟨Ao, co, eo⟩ := Kd.R_slice HS4.out.rl
     subst eo
     have HFN := aM (fit_drop hb o3 t3)
     have HLE := aM (fit_le o3 t3 Ht4.out)
     have HHB := aM hb
     by_cases ht : t3 = o3.length
     rotate_left
     ·have eg : fitGrow o3 t3 = o3 := if_neg ht
      have cne : decide ((t3 : Int) = (o3.length : Int)) = false := decide_eq_false (by omega)
      have cnf : ((t3 : Int) = (o3.length : Int)) = False := eq_false (by omega)
      have p9 : (0 : Int) ≤ (t3 : Int) := by omega
      have q9 : (t3 : Int) < (o3.length : Int) := by have := Ht4.out; omega
      obtain ⟨g9, cap9, ev9, ⟨u9, hu9⟩, hf9, hs9, hg9⟩ := HS4.out.put t3 (by have := Ht4.out; omega) ((P2[b]'hb).toNat : Int)
      injection ev9 with ea9 _ ec9
      subst ea9
      subst ec9
      have HP9 := aM hs9
      have HG9 := aM hg9
      clear hs9 hg9
      go_wp2
      have HB13 := aM (blk_grown HB4.out HG9.out (Kd.R_ne HS4.out.rl HB4.out (by decide)))
      have hx5 := HX4.out
      have hO := HO4.out
      have hL := HLE.out
      have hB := HHB.out
      have hPB := HPB.out
      go_roundg k4
      case measure => have := HK4.out; omega
      case rel =>
       refine ⟨b + 1, t3 + 1, (fitGrow o3 t3).set t3 (bt P2 (b : Int)), ?_, ?_, ⟨by omega⟩, ⟨by rw [List.length_set]; exact hL.1⟩, ⟨HFN.out.symm.trans HF4.out⟩, ⟨by rw [List.length_set]; omega⟩, ⟨by have := HK4.out; omega⟩, HB13, ?_⟩
       ·first | rfl | (congr 1; unfold wrap64; omega)
       ·first | rfl | (congr 1; unfold wrap64; omega)
       rw [eg, ← hx5]; first | exact HP9 | (have q := HP9; rw [List.length_append, List.length_singleton] at q; exact q)
     subst ht
     have eg : fitGrow o3 o3.length = o3 ++ [107] := if_pos rfl
     go_wp2_with ((with_reducible refine gate_builtin (b := .append) (xs := #[.tmp 53, .tmp 54]) rfl ?_); at_builtin; refine Kd.R_append (Kd.int .u8) (w0 := w) w.heap.size rfl (.tmp 53) (.tmp 54) 44 5 (.int .u8 0) 1 rfl Try.underlying44 info5 rfl (by decide) (by omega) _ o3 107 [.int .u8 107] (fun _ => True) (fun _ => False) rfl rfl rfl (fun _ hk => hk.elim) (fun _ _ => trivial) HS4.out.rl HS4.out.bel HS4.out.bel.size (by have := HO4.out; omega) ?_; intro v9 w9 ho hb hg hat; have HS9 := aM (HS4.out.grown hb hg ho); have HB9 := aM (blk_grown HB4.out hg (Kd.R_ne HS4.out.rl HB4.out (by decide))); clear ho hb hg hat; have y2 := (blk_cell HB9.out 2).trans (show _ = some (Value.string P2) from rfl); obtain ⟨g9, cap9, ev9, ⟨u9, hu9⟩, hf9, hs9, hg9⟩ := HS9.out.put o3.length (Int.ofNat_lt.1 (fit_q o3)) ((P2[b]'hb).toNat : Int); subst ev9; have HP9 := aM hs9; have HG9 := aM hg9; clear hs9 hg9; have p9 : (0 : Int) ≤ (o3.length : Int) := Int.natCast_nonneg _; have q9 := fit_q o3)
     have HB13 := aM (blk_grown HB9.out HG9.out (Kd.R_ne HS9.out.rl HB9.out (by decide)))
     have hx5 := HX4.out
     have hO := HO4.out
     have hL := HLE.out
     have hB := HHB.out
     have hPB := HPB.out
     go_roundg k4
     case measure => have := HK4.out; omega
     case rel =>
      refine ⟨b + 1, o3.length + 1, (fitGrow o3 o3.length).set o3.length (bt P2 (b : Int)), ?_, ?_, ⟨by omega⟩, ⟨by rw [List.length_set]; exact hL.1⟩, ⟨HFN.out.symm.trans HF4.out⟩, ⟨by rw [List.length_set]; omega⟩, ⟨by have := HK4.out; omega⟩, HB13, ?_⟩
      ·first | rfl | (congr 1; unfold wrap64; omega)
      ·first | rfl | (congr 1; unfold wrap64; omega)
      rw [eg, ← hx5]; first | exact HP9 | (have q := HP9; rw [List.length_append, List.length_singleton] at q; exact q)
end
mutual
def jK.j0 : Nat → List S60 → ByteArray → Bool → Option (ByteArray × Bool)
 | 0, _, _, _ => none
 | k + 1, x0, x1, x18 => if x18 = true then (some ((⟨#[]⟩ : ByteArray), false)) else ((jW.f k x0).bind fun bt454 => (if bt454.1 = (x1.size : Int) then (jK.l0 k x1 (⟨#[]⟩ : ByteArray) x0 (x0.length : Int) 0) else (some ((⟨#[]⟩ : ByteArray), false))))
def jK.l0 : Nat → ByteArray → ByteArray → List S60 → Int → Int → Option (ByteArray × Bool)
 | 0, _, _, _, _, _ => none
 | k + 1, x1, x8, x28, x29, x30 => if x30 < x29 then (if 0 ≤ x30 then (if x30 < (x28.length : Int) then (if 0 ≤ (((rd_T60 x28 x30).f2).size : Int) then (if (((rd_T60 x28 x30).f2).size : Int) ≤ (x1.size : Int) then (if (x1.extract 0 ((((rd_T60 x28 x30).f2).size : Int) : Int).toNat).toList = ((rd_T60 x28 x30).f2).toList then (if 0 ≤ ((rd_T60 x28 x30).f0) then (if ((rd_T60 x28 x30).f0) ≤ (x1.size : Int) then (if (x1.extract 0 (((rd_T60 x28 x30).f0) : Int).toNat).size + ((rd_T60 x28 x30).f1).size ≤ 9223372036854775807 then (if x8.size + ((x1.extract 0 (((rd_T60 x28 x30).f0) : Int).toNat) ++ ((rd_T60 x28 x30).f1)).size ≤ 9223372036854775807 then (if 0 ≤ (wrap64 (((rd_T60 x28 x30).f0) + (((rd_T60 x28 x30).f2).size : Int))) then (if (wrap64 (((rd_T60 x28 x30).f0) + (((rd_T60 x28 x30).f2).size : Int))) ≤ (x1.size : Int) then (jK.l0 k (x1.extract ((wrap64 (((rd_T60 x28 x30).f0) + (((rd_T60 x28 x30).f2).size : Int))) : Int).toNat x1.size) (x8 ++ ((x1.extract 0 (((rd_T60 x28 x30).f0) : Int).toNat) ++ ((rd_T60 x28 x30).f1))) x28 x29 (wrap64 (x30 + 1))) else (none)) else (none)) else (none)) else (none)) else (none)) else (none)) else (some ((⟨#[]⟩ : ByteArray), false))) else (none)) else (none)) else (none)) else (none)) else (some (x8, true))
end
def jK.f (k : Nat) (l0 : List S60) (a1 : ByteArray) : Option (ByteArray × Bool) := (jU.f k l0).bind fun t452 => (if t452 = true then ((jR.f k a1).bind fun t453 => (jK.j0 k l0 a1 (!t453))) else (jK.j0 k l0 a1 true))
theorem jK.mono_l : ∀ k, (∀ y0 y1 y2, LeO (jK.j0 k y0 y1 y2) (jK.j0 (k + 1) y0 y1 y2)) ∧ (∀ y0 y1 y2 y3 y4, LeO (jK.l0 k y0 y1 y2 y3 y4) (jK.l0 (k + 1) y0 y1 y2 y3 y4))
 | 0 => ⟨fun _ _ _ r h => by simp [jK.j0] at h, fun _ _ _ _ _ r h => by simp [jK.l0] at h⟩
 | k + 1 => by
  obtain ⟨ih0, ih1⟩ := jK.mono_l k
  refine ⟨?_, ?_⟩
  ·intro y0 y1 y2
   unfold jK.j0
   repeat' (with_reducible first | apply ih0 | apply ih1 | apply jU.mono | apply jR.mono | apply jW.mono | apply LeO.refl | apply LeO.none | apply LeO.ite | refine LeO.bind ?_ fun _ => ?_)
  ·intro y0 y1 y2 y3 y4
   unfold jK.l0
   repeat' (with_reducible first | apply ih0 | apply ih1 | apply jU.mono | apply jR.mono | apply jW.mono | apply LeO.refl | apply LeO.none | apply LeO.ite | refine LeO.bind ?_ fun _ => ?_)
theorem jK.mono : ∀ a0 a1 k, LeO (jK.f k a0 a1) (jK.f (k + 1) a0 a1) := by
 intro a0 a1 k
 obtain ⟨ih0, ih1⟩ := jK.mono_l k
 unfold jK.f
 repeat' (with_reducible first | apply ih0 | apply ih1 | apply jU.mono | apply jR.mono | apply jW.mono | apply LeO.refl | apply LeO.none | apply LeO.ite | refine LeO.bind ?_ fun _ => ?_)
theorem jK.calls (k : Nat) (A0 : Option Addr) (c0 : Nat) (l0 : List S60) (a1 : ByteArray) (r1 : ByteArray) (r2 : Bool) (w : World) (hr0 : Kd.C k60 w A0 l0.length l0) (hc0 : l0.length ≤ c0) (h : jK.f k l0 a1 = some (r1, r2)) :
  Calls Try.prog 30 #[.slice A0 l0.length c0, .string a1] w fun e w' => e = .returned (.tuple #[.string r1, .bool r2]) ∧ Below w.heap.size w w' := by
 have hu60 := Try.underlying60
 have HR0 := aM hr0
 have HC0 := aM hc0
 clear hr0 hc0
 have HB := aM (Below.refl w.heap.size w)
 have H : ((jU.f k l0).bind fun t452 => (if t452 = true then ((jR.f k a1).bind fun t453 => (jK.j0 k l0 a1 (!t453))) else (jK.j0 k l0 a1 true))) = some (r1, r2) := h
 clear h
 have HC3 := aM H
 clear H
 go_enter Try.func30, Try.ntmps30
 go_upto_region 1 with (fail)
 repeat (go_quiet (fail); go_upto_region 1 with (fail))
 go_cut [18] (fun v18 wc => ∃ (kq : Nat) (x18_2 : Bool), v18 = .bool x18_2 ∧ Aside0 (jK.j0 kq l0 a1 x18_2 = some (r1, r2)) ∧ Aside0 (kq ≤ k) ∧ Aside0 (Below w.heap.size w wc))
 case first =>
  have H := HC3.out
  clear HC3
  obtain ⟨t452, A4, H⟩ := bM H
  by_cases c5 : t452 = true
  rotate_left
  ·replace c5 := Bool.eq_false_iff.mpr c5
   subst c5
   replace H := fF H
   have H' := aM H
   clear H
   go_wp2_with (go_at_call 37; (with_reducible refine (jU.calls k _ _ l0 false _ ?s1 ?s2 A4.out).mono ?_); (case s1 => exact cC (Kd.C_below HR0.out HB.out)); (case s2 => exact HC0.out); rintro e w8 ⟨rfl, hb⟩; replace HB := aM (below_step bB hb); clear hb)
   repeat (go_quiet (fail); try go_wp2_with (fail))
   go_meet
   case rel => exact ⟨_, (true), aP19, H', ⟨lH⟩, ⟨bB⟩⟩
  subst c5
  rw [if_pos rfl] at H
  obtain ⟨t453, A6, H⟩ := bM H
  have H' := aM H
  clear H
  go_wp2_with (first | (go_at_call 37; (with_reducible refine (jU.calls k _ _ l0 true _ ?s1 ?s2 A4.out).mono ?_); (case s1 => exact cC (Kd.C_below HR0.out HB.out)); (case s2 => exact HC0.out); rintro e w7 ⟨rfl, hb⟩; replace HB := aM (below_step bB hb); clear hb) | (go_at_call 57; (with_reducible refine (jR.calls k a1 t453 _ A6.out).mono ?_); rintro e w' ⟨rfl, ⟨nd, rfl⟩⟩; (try first | exact ⟨rfl, _, World.drewN_drewN _ _ _⟩ | exact ⟨rfl, _, Eq.trans (World.drewN_drewN _ _ _) (congrArg (World.drewN _) (Nat.add_assoc _ _ _))⟩)))
  repeat (go_quiet (fail); try go_wp2_with (fail))
  go_meet
  case rel => exact ⟨_, (!t453), aP19, H', ⟨lH⟩, ⟨bB⟩⟩
 clear HC3
 obtain ⟨kq, x18_2, rfl, HA, HJ2, HB⟩ := hcut
 cases kq with
 | zero => exact absurd HA.out (by simp [jK.j0])
 | succ kj2 => ?_
 have H := HA.out
 clear HA
 simp only [jK.j0] at H
 by_cases c9 : x18_2 = true
 ·subst c9
  rw [if_pos rfl] at H
  simp only [Option.some.injEq, Prod.mk.injEq] at H
  obtain ⟨rfl, rfl⟩ := H
  go_wp2
  repeat (go_quiet (fail); try go_wp2)
  go_ret2
  exact ⟨by first | rfl | (simp [errW_none, errW_some] <;> rfl) | (simp; exact Base.isE _) | (simp [*, errW_none, errW_some] <;> rfl), bB⟩
 replace c9 := Bool.eq_false_iff.mpr c9
 subst c9
 replace H := fF H
 obtain ⟨⟨t454, t455⟩, A10, H⟩ := bM H
 by_cases c11 : t454 = (a1.size : Int)
 rotate_left
 ·rw [if_neg c11] at H
  obtain ⟨c11b0, c11b1⟩ := nE c11
  simp only [Option.some.injEq, Prod.mk.injEq] at H
  obtain ⟨rfl, rfl⟩ := H
  go_wp2_with (go_at_call 56; (with_reducible refine (jW.calls kj2 _ _ l0 t454 t455 _ ?s1 ?s2 A10.out).mono ?_); (case s1 => exact cC (Kd.C_below HR0.out HB.out)); (case s2 => exact HC0.out); rintro e w30 ⟨rfl, hb⟩; replace HB := aM (below_step bB hb); clear hb)
  repeat (go_quiet (fail); try go_wp2_with (fail))
  go_ret2
  exact ⟨by first | rfl | (simp [errW_none, errW_some] <;> rfl) | (simp; exact Base.isE _) | (simp [*, errW_none, errW_some] <;> rfl), bB⟩
 rw [if_pos c11] at H
 obtain ⟨c11b0, c11b1⟩ := pE c11
 clear c11
 have H' := aM H
 clear H
 go_wp2_with (go_at_call 56; (with_reducible refine (jW.calls kj2 _ _ l0 t454 t455 _ ?s1 ?s2 A10.out).mono ?_); (case s1 => exact cC (Kd.C_below HR0.out HB.out)); (case s2 => exact HC0.out); rintro e w12 ⟨rfl, hb⟩; replace HB := aM (below_step bB hb); clear hb)
 repeat (go_quiet (fail); try go_wp2_with (fail))
 go_loopg [1, 8, 30] kj2 (fun kq v1 v8 v30 w' => ∃ (x1_2 : ByteArray) (x8_2 : ByteArray) (x30_2 : Int), v1 = .string x1_2 ∧ v8 = .string x8_2 ∧ v30 = .int .i64 x30_2 ∧ Aside0 (jK.l0 kq x1_2 x8_2 l0 (l0.length : Int) x30_2 = some (r1, r2)) ∧ Aside0 (kq ≤ kj2) ∧ Aside0 (Below w.heap.size w w'))
 case atStart => exact ⟨(a1), ((⟨#[]⟩ : ByteArray)), (0), aP19, aP19, aP19, H', ⟨Nat.le_refl _⟩, ⟨bB⟩⟩
 case round =>
  clear H'
  try clear c9
  try clear c11
  try clear c11b0
  try clear c11b1
  obtain ⟨x1_2, x8_2, x30_2, rfl, rfl, rfl, HA, HK2, HB⟩ := hrel
  cases gk with
  | zero => exact absurd HA.out (by simp [jK.l0])
  | succ k2 => ?_
  have H := HA.out
  clear HA
  simp only [jK.l0] at H
  by_cases c13 : x30_2 < (l0.length : Int)
  rotate_left
  ·rw [if_neg c13] at H
   have c13b0 : decide (x30_2 < (l0.length : Int)) = false := decide_eq_false c13
   clear c13
   simp only [Option.some.injEq, Prod.mk.injEq] at H
   obtain ⟨rfl, rfl⟩ := H
   go_wp2
   repeat (go_quiet (fail); try go_wp2)
   go_ret2
   exact ⟨by first | rfl | (simp [errW_none, errW_some] <;> rfl) | (simp; exact Base.isE _) | (simp [*, errW_none, errW_some] <;> rfl), bB⟩
  rw [if_pos c13] at H
  have c13b0 : decide (x30_2 < (l0.length : Int)) = true := decide_eq_true c13
  clear c13
  obtain ⟨c14b0, H⟩ := gB H
  obtain ⟨c15b0, H⟩ := gB H
  obtain ⟨c16, H⟩ := gD H
  have c16b0 := eq_true c16
  have c16b1 : decide (0 ≤ (((rd_T60 l0 x30_2).f2).size : Int)) = true := decide_eq_true c16
  clear c16
  obtain ⟨c17, H⟩ := gD H
  have c17b0 := eq_true c17
  have c17b1 : decide ((((rd_T60 l0 x30_2).f2).size : Int) ≤ (x1_2.size : Int)) = true := decide_eq_true c17
  clear c17
  by_cases c18 : (x1_2.extract 0 ((((rd_T60 l0 x30_2).f2).size : Int) : Int).toNat).toList = ((rd_T60 l0 x30_2).f2).toList
  rotate_left
  ·rw [if_neg c18] at H
   have c18b0 : ((x1_2.extract 0 ((((rd_T60 l0 x30_2).f2).size : Int) : Int).toNat).toList == ((rd_T60 l0 x30_2).f2).toList) = false := beq_eq_false_iff_ne.mpr c18
   try simp only [Int.toNat_natCast] at c18b0
   have c18b1 : ((x1_2.extract 0 ((((rd_T60 l0 x30_2).f2).size : Int) : Int).toNat).toList != ((rd_T60 l0 x30_2).f2).toList) = true := bne_iff_ne.mpr c18
   try simp only [Int.toNat_natCast] at c18b1
   simp only [Option.some.injEq, Prod.mk.injEq] at H
   obtain ⟨rfl, rfl⟩ := H
   have p456 : 0 ≤ (x30_2 : Int) := of_decide_eq_true (by assumption)
   have q456 : x30_2 < (l0.length : Int) := of_decide_eq_true (by assumption)
   obtain ⟨ad456, e456, hx456_0, hx456_1, hx456_2⟩ := at_T60 HR0.out x30_2 p456 q456
   cases e456
   replace hx456_0 := hC HB.out hx456_0
   replace hx456_1 := hC HB.out hx456_1
   replace hx456_2 := hC HB.out hx456_2
   replace p456 := eq_true p456
   replace q456 := eq_true q456
   go_wp2_with ((with_reducible refine gate_dst (N := 10) rfl ?_); refine box_event rfl (N := 10) rfl (cs := #[.int .i64 0, .string ⟨#[]⟩, .string ⟨#[]⟩]) (t := 60) aP38 ?_; intro gb457 hg w28 hbox hb; have BK457 := aM (hbox); have GW457 := aM (bG (w := w) hg); have GE457 := aM (bG (w := w) hg); replace HB := aM (below_step bB hb); clear hb hbox hg; obtain ⟨hcz29_0, hcz29_1, hcz29_2, hfz29_0, hfz29_1, hfz29_2⟩ := bx3 BK457.out)
   repeat (go_quiet (fail); try go_wp2_with (fail))
   go_ret2
   exact ⟨by first | rfl | (simp [errW_none, errW_some] <;> rfl) | (simp; exact Base.isE _) | (simp [*, errW_none, errW_some] <;> rfl), aP18⟩
  rw [if_pos c18] at H
  have c18b0 : ((x1_2.extract 0 ((((rd_T60 l0 x30_2).f2).size : Int) : Int).toNat).toList == ((rd_T60 l0 x30_2).f2).toList) = true := beq_iff_eq.mpr c18
  try simp only [Int.toNat_natCast] at c18b0
  have c18b1 : ((x1_2.extract 0 ((((rd_T60 l0 x30_2).f2).size : Int) : Int).toNat).toList != ((rd_T60 l0 x30_2).f2).toList) = false := bne_eq_false_iff_eq.mpr c18
  try simp only [Int.toNat_natCast] at c18b1
  clear c18
  obtain ⟨c19, H⟩ := gD H
  have c19b0 := eq_true c19
  have c19b1 : decide (0 ≤ ((rd_T60 l0 x30_2).f0)) = true := decide_eq_true c19
  clear c19
  obtain ⟨c20, H⟩ := gD H
  have c20b0 := eq_true c20
  have c20b1 : decide (((rd_T60 l0 x30_2).f0) ≤ (x1_2.size : Int)) = true := decide_eq_true c20
  clear c20
  obtain ⟨c21, H⟩ := gD H
  have c21b0 := eq_true c21
  have c21b1 : decide ((x1_2.extract 0 (((rd_T60 l0 x30_2).f0) : Int).toNat).size + ((rd_T60 l0 x30_2).f1).size ≤ 9223372036854775807) = true := decide_eq_true c21
  try have c21b2 : (9223372036854775807 < (x1_2.extract 0 (((rd_T60 l0 x30_2).f0) : Int).toNat).size + ((rd_T60 l0 x30_2).f1).size) = False := eq_false (Nat.not_lt.2 c21)
  obtain ⟨c22, H⟩ := gD H
  have c22b0 := eq_true c22
  have c22b1 : decide (x8_2.size + ((x1_2.extract 0 (((rd_T60 l0 x30_2).f0) : Int).toNat) ++ ((rd_T60 l0 x30_2).f1)).size ≤ 9223372036854775807) = true := decide_eq_true c22
  try have c22b2 : (9223372036854775807 < x8_2.size + ((x1_2.extract 0 (((rd_T60 l0 x30_2).f0) : Int).toNat) ++ ((rd_T60 l0 x30_2).f1)).size) = False := eq_false (Nat.not_lt.2 c22)
  try have c22s := eq_false (Nat.not_lt.2 c22)
  try simp only [ByteArray.size_append] at c22s
  generalize hji23 : (wrap64 (((rd_T60 l0 x30_2).f0) + (((rd_T60 l0 x30_2).f2).size : Int))) = ji23 at H
  have hji23w : (IntKind.i64.wrap (((rd_T60 l0 x30_2).f0) + (((rd_T60 l0 x30_2).f2).size : Int))) = ji23 := (i64_w _).trans hji23
  obtain ⟨c24, H⟩ := gD H
  have c24b0 := eq_true c24
  have c24b1 : decide (0 ≤ (ji23)) = true := decide_eq_true c24
  clear c24
  obtain ⟨c25, H⟩ := gD H
  have c25b0 := eq_true c25
  have c25b1 : decide ((ji23) ≤ (x1_2.size : Int)) = true := decide_eq_true c25
  clear c25
  have H' := aM H
  clear H
  have p456 : 0 ≤ (x30_2 : Int) := of_decide_eq_true (by assumption)
  have q456 : x30_2 < (l0.length : Int) := of_decide_eq_true (by assumption)
  obtain ⟨ad456, e456, hx456_0, hx456_1, hx456_2⟩ := at_T60 HR0.out x30_2 p456 q456
  cases e456
  replace hx456_0 := hC HB.out hx456_0
  replace hx456_1 := hC HB.out hx456_1
  replace hx456_2 := hC HB.out hx456_2
  replace p456 := eq_true p456
  replace q456 := eq_true q456
  go_wp2_with ((with_reducible refine gate_dst (N := 10) rfl ?_); refine box_event rfl (N := 10) rfl (cs := #[.int .i64 0, .string ⟨#[]⟩, .string ⟨#[]⟩]) (t := 60) aP38 ?_; intro gb457 hg w26 hbox hb; have BK457 := aM (hbox); have GW457 := aM (bG (w := w) hg); have GE457 := aM (bG (w := w) hg); replace HB := aM (below_step bB hb); clear hb hbox hg; obtain ⟨hcz27_0, hcz27_1, hcz27_2, hfz27_0, hfz27_1, hfz27_2⟩ := bx3 BK457.out)
  repeat (go_quiet (fail); try go_wp2_with (fail))
  go_roundg k2
  case measure => have := HJ2.out; have := HK2.out; omega
  case rel => exact ⟨(x1_2.extract ((ji23) : Int).toNat x1_2.size), (x8_2 ++ ((x1_2.extract 0 (((rd_T60 l0 x30_2).f0) : Int).toNat) ++ ((rd_T60 l0 x30_2).f1))), (wrap64 (x30_2 + 1)), (by first | rfl | (simp; done) | (simp only [← hji23] <;> (first | rfl | (simp; done) | (simp; exact Base.isE _))) | (simp [*]; done)), aP19, aP19, (by first | exact H' | (rw [hji23]; exact H')), ⟨by have := HJ2.out; have := HK2.out; omega⟩, ⟨aP18⟩⟩
end Go.Proofs.Ytoagljlnfakgjaa.PFnDiamond
