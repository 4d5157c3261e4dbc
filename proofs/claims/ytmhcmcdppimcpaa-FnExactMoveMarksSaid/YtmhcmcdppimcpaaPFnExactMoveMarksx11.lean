/- (thin) Written by a program of this session (wip/ovl.py) over the kit's print: plain functions with the answers of the Go functions, and the proofs that they are; no condition. -/
import Derived.Test.YtmhcmcdppimcpaaMk
import Derived.Test.YtmhcmcdppimcpaaSortLay
import Derived.Test.YtmhcmcdppimcpaaPFnExactMoveMarksx0
import Derived.Test.YtmhcmcdppimcpaaPFnExactMoveMarksx10
namespace Go.Proofs.Ytmhcmcdppimcpaa.PFnExactMoveMarks
open Go.RowKit Go.Proofs.YtmhcmcdppimcpaaW.PrintWords Go.Proofs.YtmhcmcdppimcpaaW.PrintLast Go.Proofs.YtmhcmcdppimcpaaW.PrintMore
attribute [local go_sem] max2_int min2_int max_two min_two max_three min_three max_four min_four   -- for this text's walks alone
set_option linter.unusedVariables false
set_option linter.unusedSimpArgs false
def impl_SizesOf.f (k : Nat) (l0 : List (S61)) : Option (Int × Int × Bool) := (impl_GoodOp.f k l0).bind fun t267 => (if t267 = true then ((impl_sizes.f k l0).bind fun bt268 => (some (bt268.1, bt268.2, true))) else (some (0, 0, false)))
theorem impl_SizesOf.mono : ∀ a0 k, LeO (impl_SizesOf.f k a0) (impl_SizesOf.f (k + 1) a0) := by
 intro a0 k
 unfold impl_SizesOf.f
 repeat' (with_reducible first | exact impl_GoodOp.mono _ _ | exact impl_sizes.mono _ _ | exact LeO.refl _ | exact LeO.none _ | refine LeO.ite ?_ ?_ | refine LeO.bind ?_ (fun _ => ?_))
set_option maxHeartbeats 8000000 in
set_option maxRecDepth 100000 in
theorem impl_SizesOf.calls (k : Nat) (A0 : Option Addr) (c0 : Nat) (l0 : List (S61)) (r1 : Int) (r2 : Int) (r3 : Bool) (w : World) (hr0 : Kd.C k61 w A0 l0.length l0) (hc0 : l0.length ≤ c0) (h : impl_SizesOf.f k l0 = some (r1, r2, r3)) :
  Calls Try.prog 57 #[.slice A0 l0.length c0] w fun e w' => e = .returned (.tuple #[.int .i64 r1, .int .i64 r2, .bool r3]) ∧ Below w.heap.size w w' := by
 have HR0 := aM hr0
 have HC0 := aM hc0
 clear hr0 hc0
 have HB := aM (Below.refl w.heap.size w)
 have H : ((impl_GoodOp.f k l0).bind fun t267 => (if t267 = true then ((impl_sizes.f k l0).bind fun bt268 => (some (bt268.1, bt268.2, true))) else (some (0, 0, false)))) = some (r1, r2, r3) := h
 clear h
 replace H := Option.bind_eq_some_iff.mp H
 obtain ⟨t267, A20, H⟩ := H
 replace H : (if t267 = true then ((impl_sizes.f k l0).bind fun bt268 => (some (bt268.1, bt268.2, true))) else (some (0, 0, false))) = some (r1, r2, r3) := H
 have A2 := aM A20
 clear A20
 by_cases c3 : t267 = true
 rotate_left
 ·replace c3 := Bool.eq_false_iff.mpr c3
  subst c3
  replace H : (some (0, 0, false)) = some (r1, r2, r3) := by rw [if_neg (show ¬ (false = true) by decide)] at H; exact H
  simp only [Option.some.injEq, Prod.mk.injEq] at H
  obtain ⟨rfl, rfl, rfl⟩ := H
  go_enter Try.func57, Try.ntmps57
  go_wp2_with (first | ((with_reducible refine gate_callee (f := 69) rfl ?_); refine goesL_ (some 8) rfl rfl Try.func69 (by kernel_rfl) rfl #[.slice A0 l0.length c0] rfl mM ?_; (with_reducible refine (impl_GoodOp.calls k _ _ l0 false _ ?side1 ?side2 A2.out).mono ?_); (case side1 => exact cC HR0.out); (case side2 => exact HC0.out); rintro e w7 ⟨rfl, hb⟩; refine ⟨_, rfl, ?_⟩; replace HB := aM (below_step bB hb); (try clear hb); (try clear hb2); (try clear hk); (try clear hi)))
  go_ret3
  exact ⟨eR, bB⟩
 subst c3
 replace H : ((impl_sizes.f k l0).bind fun bt268 => (some (bt268.1, bt268.2, true))) = some (r1, r2, r3) := by rw [if_pos rfl] at H; exact H
 replace H := Option.bind_eq_some_iff.mp H
 obtain ⟨⟨t268, t269⟩, A40, H⟩ := H
 replace H : (some (t268, t269, true)) = some (r1, r2, r3) := H
 have A4 := aM A40
 clear A40
 simp only [Option.some.injEq, Prod.mk.injEq] at H
 obtain ⟨rfl, rfl, rfl⟩ := H
 go_enter Try.func57, Try.ntmps57
 go_wp2_with (first | ((with_reducible refine gate_callee (f := 69) rfl ?_); refine goesL_ (some 8) rfl rfl Try.func69 (by kernel_rfl) rfl #[.slice A0 l0.length c0] rfl mM ?_; (with_reducible refine (impl_GoodOp.calls k _ _ l0 true _ ?side1 ?side2 A2.out).mono ?_); (case side1 => exact cC HR0.out); (case side2 => exact HC0.out); rintro e w5 ⟨rfl, hb⟩; refine ⟨_, rfl, ?_⟩; replace HB := aM (below_step bB hb); (try clear hb); (try clear hb2); (try clear hk); (try clear hi)) | ((with_reducible refine gate_callee (f := 70) rfl ?_); refine goesL_ (some 12) rfl rfl Try.func70 (by kernel_rfl) rfl #[.slice A0 l0.length c0] rfl mM ?_; (with_reducible refine (impl_sizes.calls k _ _ l0 t268 t269 _ ?side1 ?side2 A4.out).mono ?_); (case side1 => exact cC (Kd.C_below HR0.out HB.out)); (case side2 => exact HC0.out); rintro e w6 ⟨rfl, hb⟩; refine ⟨_, rfl, ?_⟩; replace HB := aM (below_step bB hb); (try clear hb); (try clear hb2); (try clear hk); (try clear hi)))
 go_ret3
 exact ⟨eR, bB⟩
-- import Mk
section
open Go.Proofs.Ytmhcmcdppimcpaa.Mk
def toP (x : S61) : Pt := (x.f0, x.f1, x.f2)
def ofP (p : Pt) : S61 := ⟨p.1, p.2.1, p.2.2⟩
def takeP (s : List Pt × ByteArray × ByteArray) (p : Pt) : List Pt × ByteArray × ByteArray := ((keepS s.1 s.2.1 s.2.2 p.1).1, (keepS s.1 s.2.1 s.2.2 p.1).2.1 ++ p.2.1, (keepS s.1 s.2.1 s.2.2 p.1).2.2 ++ p.2.2)
def normP (l : List Pt) : List Pt := (l.foldl takeP ([], ⟨#[]⟩, ⟨#[]⟩)).1 ++ endL (l.foldl takeP ([], ⟨#[]⟩, ⟨#[]⟩)).2.1 (l.foldl takeP ([], ⟨#[]⟩, ⟨#[]⟩)).2.2
theorem R_of_cells {w : World} {base : Nat} {v : Value} {l : List Pt} (h : w.ownsRow base 61 3 v l.length (cellsP l)) :
  Kd.R k61 61 w base (fun _ => True) v (l.map ofP) := by
 refine ⟨fun _ _ => trivial, cellsP l, by rw [List.length_map]; exact h, ?_⟩
 clear h
 induction l with
 | nil => exact Reps.none _ _
 | cons p r ih =>
  have h1 := Reps.snoc (R := k61.M w base fun k => (fun x => True) k ∧ some k ≠ v.ownBlock) (Reps.none _ 3) (k61_mkM w base _ (ofP p)) rfl
  exact Kd.reps_append h1 ih
def impl_normal.f (l0 : List S61) : Option (List S61) :=
 if l0.length ≤ 60 ∧ (l0.all fun x => decide (x.f1.size ≤ 300 ∧ x.f2.size ≤ 300)) = true then some ((normP (l0.map toP)).map ofP) else none
def stN (l : List S61) (i : Nat) : List Pt × ByteArray × ByteArray := ((l.take i).map toP).foldl takeP ([], ⟨#[]⟩, ⟨#[]⟩)
theorem stN_succ (l : List S61) (i : Nat) (h : i < l.length) : stN l (i + 1) = takeP (stN l i) (toP l[i]) := by
 unfold stN; rw [List.take_succ_eq_append_getElem h, List.map_append, List.foldl_append]; rfl
theorem keepS_len (l : List Pt) (a b : ByteArray) (x : Int) : (keepS l a b x).1.length ≤ l.length + 3 := by
 have he : (endL a b).length ≤ 2 := by unfold endL; rw [List.length_append]; split <;> split <;> simp
 unfold keepS; split
 ·show l.length ≤ _; omega
 show (keepA (l ++ endL a b) x).length ≤ _
 unfold keepA
 split
 rotate_left
 ·simp
 split
 rotate_left
 ·rw [List.length_append, List.length_append]; simp; omega
 rw [List.length_append, List.length_dropLast, List.length_append]; simp; omega
theorem keepS_put (l : List Pt) (a b : ByteArray) (x : Int) : (keepS l a b x).2.1.size ≤ a.size ∧ (keepS l a b x).2.2.size ≤ b.size := by
 unfold keepS; split
 ·exact ⟨Nat.le_refl _, Nat.le_refl _⟩
 exact ⟨Nat.zero_le _, Nat.zero_le _⟩
theorem stN_bound (l : List S61) (hs : ∀ x ∈ l, x.f1.size ≤ 300 ∧ x.f2.size ≤ 300) : ∀ i, i ≤ l.length → (stN l i).1.length ≤ 3 * i ∧ (stN l i).2.1.size ≤ 300 * i ∧ (stN l i).2.2.size ≤ 300 * i
 | 0, _ => ⟨Nat.le_refl _, Nat.le_refl _, Nat.le_refl _⟩
 | i + 1, h => by
  obtain ⟨h1, h2, h3⟩ := stN_bound l hs i (by omega)
  have hx := hs _ (List.getElem_mem (show i < l.length by omega))
  rw [stN_succ l i (by omega)]
  have k1 := keepS_len (stN l i).1 (stN l i).2.1 (stN l i).2.2 (l[i]'(by omega)).f0
  have k2 := keepS_put (stN l i).1 (stN l i).2.1 (stN l i).2.2 (l[i]'(by omega)).f0
  refine ⟨Nat.le_trans k1 (by omega), ?_, ?_⟩
  ·show ((keepS (stN l i).1 (stN l i).2.1 (stN l i).2.2 (l[i]'(by omega)).f0).2.1 ++ (l[i]'(by omega)).f1).size ≤ _
   rw [ByteArray.size_append]; have := k2.1; have := hx.1; omega
  ·show ((keepS (stN l i).1 (stN l i).2.1 (stN l i).2.2 (l[i]'(by omega)).f0).2.2 ++ (l[i]'(by omega)).f2).size ≤ _
   rw [ByteArray.size_append]; have := k2.2; have := hx.2; omega
theorem far_set {w0 w : World} {base g b i : Nat} {l : List Pt} {put drop : ByteArray} {v : Value} (h : IsMk w0 w base g l put drop v) (hb : base ≤ b) (hne : g ≠ b) (hv : v.ownBlock ≠ some b) (u : Value) : IsMk w0 (w.setCell ⟨b, i, none⟩ u) base g l put drop v :=
 ⟨blk_far h.blk hne u, own_set h.own hv i u, h.far, h.bel.setCell (p := ⟨b, i, none⟩) hb u, Nat.le_trans h.siz (size_set w b i u)⟩
theorem mk_init {w w1 : World} {g : Nat} (hg : g = w.heap.size) (hb : Below w.heap.size w w1) (h : w1.heap[g]? = some (.cells #[.slice none 0 0, .string ⟨#[]⟩, .string ⟨#[]⟩] 98 (0, 0))) : IsMk w w1 w.heap.size g [] ⟨#[]⟩ ⟨#[]⟩ (.slice none 0 0) :=
 ⟨h, own_nil _ _ _ _, by simp [Value.ownBlock], hb, hb.size⟩
set_option maxHeartbeats 4000000 in
set_option maxRecDepth 100000 in
theorem impl_normal.calls (A0 : Option Addr) (c0 : Nat) (l0 : List S61) (r : List S61) (w : World) (hr0 : Kd.C k61 w A0 l0.length l0) (hc0 : l0.length ≤ c0) (h : impl_normal.f l0 = some r) :
  Calls Try.prog 58 #[.slice A0 l0.length c0] w fun e w' => ∃ v0_ : Value, e = .returned v0_ ∧ Kd.R k61 61 w' w.heap.size (fun _ => True) v0_ r ∧ Below w.heap.size w w' := by
 have hu53 := Try.underlying61
 have hu74 := Try.underlying98
 unfold impl_normal.f at h
 split at h
 rotate_left
 ·cases h
 rename_i hgd
 obtain rfl := Option.some.inj h
 have HR0 := aM hr0
 have HC0 := aM hc0
 have HG := aM hgd
 clear hr0 hc0 h hgd
 go_enter Try.func58, Try.ntmps58
 go_wp2_with (first | ((with_reducible refine gate_dst (N := 3) rfl ?_); refine box_event ?hg (N := 3) ?hd (cs := #[.slice none 0 0, .string ⟨#[]⟩, .string ⟨#[]⟩]) (t := 98) ?hr ?_; (case hd => rfl); (case hg => rfl); (case hr => exact aP40); intro gb hgb w4 hbox hb; have HI := aM (mk_init hgb hb hbox); have GB := aM hgb; clear hbox hb hgb))
 go_loopw [8] (fun v8 wr => ∃ i : Nat, v8 = .int .i64 (i : Int) ∧ Aside0 (i ≤ l0.length) ∧ ∃ v, Aside0 (IsMk w wr w.heap.size gb (stN l0 i).1 (stN l0 i).2.1 (stN l0 i).2.2 v)) (fun i _ => l0.length - (match i with | .int _ n => n.toNat | _ => 0))
 case atStart => exact ⟨0, rfl, ⟨Nat.zero_le _⟩, _, HI⟩
 case round =>
  obtain ⟨i, rfl, Hi, v, HM⟩ := hrel
  clear HI
  by_cases hlt : i < l0.length
  rotate_left
  ·have c3b0 : decide ((i : Int) < (l0.length : Int)) = false := decide_eq_false (by omega)
   have c3b1 : decide (i < l0.length) = false := decide_eq_false hlt
   have hi : i = l0.length := by have := Hi.out; omega
   have hss : ∀ x ∈ l0, x.f1.size ≤ 300 ∧ x.f2.size ≤ 300 := fun x hx => of_decide_eq_true (List.all_eq_true.1 HG.out.2 x hx)
   have hb1 : (stN l0 i).1.length ≤ 1000 := by have := (stN_bound l0 hss i Hi.out).1; have := HG.out.1; omega
   clear hss
   have HH := aM hi
   clear hi hlt
   have hmd := maker_made w.heap.size gb v (stN l0 i).1 (stN l0 i).2.1 (stN l0 i).2.2 _ _ HM.out (Nat.le_of_eq GB.out.symm) hb1
   go_wp2_with fail
   refine hmd.mono ?_
   rintro e w6 ⟨v6, rfl, h6⟩
   have HM6 := aM h6
   clear h6
   go_wp2_with fail
   go_ret
   refine ⟨_, rfl, ?_, HM6.out.bel⟩
   have hR := R_of_cells HM6.out.own
   have e : stN l0 i = (l0.map toP).foldl takeP ([], ⟨#[]⟩, ⟨#[]⟩) := by unfold stN; rw [HH.out, List.take_of_length_le (Nat.le_refl _)]
   rw [e] at hR
   exact hR
  have c3b0 : decide ((i : Int) < (l0.length : Int)) = true := decide_eq_true (by omega)
  have p3 : (0 : Int) ≤ (i : Int) := by omega
  have q3 : (i : Int) < (l0.length : Int) := by omega
  obtain ⟨ad, e3, hx0, hx1, hx2⟩ := at_T61 HR0.out (i : Int) p3 q3
  cases e3
  have HX0 := (HM.out.bel.cell (World.block_lt_of_cell? w _ hx0)).trans hx0
  have HX1 := (HM.out.bel.cell (World.block_lt_of_cell? w _ hx1)).trans hx1
  have HX2 := (HM.out.bel.cell (World.block_lt_of_cell? w _ hx2)).trans hx2
  clear hx0 hx1 hx2
  simp only [Int.toNat_natCast] at HX0 HX1 HX2
  have HLT := aM hlt
  have hss : ∀ x ∈ l0, x.f1.size ≤ 300 ∧ x.f2.size ≤ 300 := fun x hx => of_decide_eq_true (List.all_eq_true.1 HG.out.2 x hx)
  have hl60 := HG.out.1
  obtain ⟨u1, u2, u3⟩ := stN_bound l0 hss i (by omega)
  have hgt : rd_T61 l0 (i : Int) = l0[i] := by
   show l0.getD _ _ = _
   simp [List.getD_eq_getElem?_getD, hlt]
  have hsi := hss _ (List.getElem_mem hlt)
  have hb1 : (stN l0 i).1.length ≤ 900 := by omega
  have hb2 : (stN l0 i).2.1.size + (l0[i]).f1.size ≤ 4611686018427387904 := by omega
  have hb3 : (stN l0 i).2.2.size + (l0[i]).f2.size ≤ 4611686018427387904 := by omega
  clear hss u1 u2 u3 hsi
  go_wp2_with (first | ((with_reducible refine gate_dst (N := 5) rfl ?_); refine box_event ?hg (N := 5) ?hd (cs := #[.int .i64 0, .string ⟨#[]⟩, .string ⟨#[]⟩]) (t := 61) ?hr ?_; (case hd => rfl); (case hg => rfl); (case hr => exact aP40); intro gp hgp w5 hbox hb; have HM5 := aM (HM.out.below hb); have GP := aM hgp; have BX := aM hbox; have y0 := (blk_cell hbox 0).trans (show _ = some (Value.int .i64 0) from rfl); have y1 := (blk_cell hbox 1).trans (show _ = some (Value.string ⟨#[]⟩) from rfl); have y2 := (blk_cell hbox 2).trans (show _ = some (Value.string ⟨#[]⟩) from rfl); have f0 := blk_frozen hbox 0; have f1 := blk_frozen hbox 1; have f2 := blk_frozen hbox 2; have g1 := aM (show w.heap.size ≤ gp by rw [hgp]; exact HM.out.siz); have g2 := aM (show gb ≠ gp by rw [hgp]; exact Nat.ne_of_lt (blk_lt HM.out.blk)); have g3 := aM (show v.ownBlock ≠ some gp from fun e => absurd (own_lt HM.out.own gp e) (by rw [hgp]; exact Nat.lt_irrefl _)); clear hb hgp hbox))
  have htk := far_set (far_set (far_set HM5.out g1.out g2.out g3.out (i := 0) (.int .i64 (l0[i]).f0)) g1.out g2.out g3.out (i := 1) (.string (l0[i]).f1)) g1.out g2.out g3.out (i := 2) (.string (l0[i]).f2)
  refine (maker_take w.heap.size gb v (stN l0 i).1 (stN l0 i).2.1 (stN l0 i).2.2 (l0[i]).f0 (l0[i]).f1 (l0[i]).f2 w _ htk (Nat.le_of_eq GB.out.symm) hb1 hb2 hb3).mono ?_
  rintro e w6 ⟨rfl, v6, h6⟩
  have HM6 := aM h6
  clear h6
  go_wp2_with fail
  have hl' := HLT.out
  have hl6 := HG.out.1
  go_roundw
  case rel =>
   refine ⟨i + 1, ?_, ⟨by omega⟩, v6, ⟨?_⟩⟩
   rotate_left
   ·rw [stN_succ l0 i hl']; exact HM6.out
   first | rfl | (simp; done) | (congr 1; unfold wrap64; omega)
  case measure => simp; omega
end
mutual
def impl_movePlace.l0 : Nat → List (S61) → Int → Bool → Int → Int → Int → Option (Int)
 | 0, _, _, _, _, _, _ => none
 | k + 1, x0, x1, x2, x7, x8, x9 => if x9 < (x0.length : Int) then (if 0 ≤ x9 then (if ((rd_T61 x0 x9).f0) > 0 then (if x1 ≤ x8 then (some x7) else (impl_movePlace.l0 k x0 x1 x2 (wrap64 (x7 + (mn ((rd_T61 x0 x9).f0) (wrap64 (x1 - x8))))) (wrap64 (x8 + ((rd_T61 x0 x9).f0))) (wrap64 (x9 + 1)))) else (if (wrap64 (x9 + 1)) < (x0.length : Int) then (if ((rd_T61 x0 x9).f1).toList = ([] : List UInt8) then (impl_movePlace.j1 k x0 x1 x2 x7 x8 x9 (((rd_T61 x0 x9).f1).size : Int) (wrap64 (x8 + (((rd_T61 x0 x9).f2).size : Int))) false) else (if 0 ≤ (wrap64 (x9 + 1)) then (impl_movePlace.j1 k x0 x1 x2 x7 x8 x9 (((rd_T61 x0 x9).f1).size : Int) (wrap64 (x8 + (((rd_T61 x0 x9).f2).size : Int))) (((rd_T61 x0 (wrap64 (x9 + 1))).f2).toList != ([] : List UInt8))) else (none))) else (impl_movePlace.j1 k x0 x1 x2 x7 x8 x9 (((rd_T61 x0 x9).f1).size : Int) (wrap64 (x8 + (((rd_T61 x0 x9).f2).size : Int))) false))) else (none)) else (some x7)
def impl_movePlace.j1 : Nat → List (S61) → Int → Bool → Int → Int → Int → Int → Int → Bool → Option (Int)
 | 0, _, _, _, _, _, _, _, _, _ => none
 | k + 1, x0, x1, x2, x7, x8, x9, x11, x12, x68 => if x68 = true then (if 0 ≤ (wrap64 (x9 + 1)) then (if (wrap64 (x9 + 1)) < (x0.length : Int) then (if x1 > (wrap64 (x8 + (((rd_T61 x0 (wrap64 (x9 + 1))).f2).size : Int))) then (impl_movePlace.l0 k x0 x1 x2 (wrap64 (x7 + x11)) (wrap64 (x8 + (((rd_T61 x0 (wrap64 (x9 + 1))).f2).size : Int))) (wrap64 ((wrap64 (x9 + 1)) + 1))) else (if x1 ≥ x8 then (if x2 = true then (impl_movePlace.l0 k x0 x1 x2 (wrap64 (x7 + x11)) (wrap64 (x8 + (((rd_T61 x0 (wrap64 (x9 + 1))).f2).size : Int))) (wrap64 ((wrap64 (x9 + 1)) + 1))) else (impl_movePlace.l0 k x0 x1 x2 x7 (wrap64 (x8 + (((rd_T61 x0 (wrap64 (x9 + 1))).f2).size : Int))) (wrap64 ((wrap64 (x9 + 1)) + 1)))) else (impl_movePlace.l0 k x0 x1 x2 x7 (wrap64 (x8 + (((rd_T61 x0 (wrap64 (x9 + 1))).f2).size : Int))) (wrap64 ((wrap64 (x9 + 1)) + 1))))) else (none)) else (none)) else (if x1 > x12 then (impl_movePlace.l0 k x0 x1 x2 (wrap64 (x7 + x11)) x12 (wrap64 (x9 + 1))) else (if x1 ≥ x8 then (if x2 = true then (impl_movePlace.l0 k x0 x1 x2 (wrap64 (x7 + x11)) x12 (wrap64 (x9 + 1))) else (impl_movePlace.l0 k x0 x1 x2 x7 x12 (wrap64 (x9 + 1)))) else (impl_movePlace.l0 k x0 x1 x2 x7 x12 (wrap64 (x9 + 1)))))
end
def impl_movePlace.f (k : Nat) (l0 : List (S61)) (a1 : Int) (a2 : Bool) : Option (Int) := impl_movePlace.l0 k l0 a1 a2 0 0 0
theorem impl_movePlace.mono_l : ∀ k, (∀ y0 y1 y2 y3 y4 y5, LeO (impl_movePlace.l0 k y0 y1 y2 y3 y4 y5) (impl_movePlace.l0 (k + 1) y0 y1 y2 y3 y4 y5)) ∧ (∀ y0 y1 y2 y3 y4 y5 y6 y7 y8, LeO (impl_movePlace.j1 k y0 y1 y2 y3 y4 y5 y6 y7 y8) (impl_movePlace.j1 (k + 1) y0 y1 y2 y3 y4 y5 y6 y7 y8))
 | 0 => ⟨fun _ _ _ _ _ _ r h => by simp [impl_movePlace.l0] at h, fun _ _ _ _ _ _ _ _ _ r h => by simp [impl_movePlace.j1] at h⟩
 | k + 1 => by
  obtain ⟨ih0, ih1⟩ := impl_movePlace.mono_l k
  refine ⟨?_, ?_⟩
  ·intro y0 y1 y2 y3 y4 y5
   unfold impl_movePlace.l0
   repeat' (with_reducible first | exact ih0 _ _ _ _ _ _ | exact ih1 _ _ _ _ _ _ _ _ _ | exact LeO.refl _ | exact LeO.none _ | refine LeO.ite ?_ ?_ | refine LeO.bind ?_ (fun _ => ?_))
  ·intro y0 y1 y2 y3 y4 y5 y6 y7 y8
   unfold impl_movePlace.j1
   repeat' (with_reducible first | exact ih0 _ _ _ _ _ _ | exact ih1 _ _ _ _ _ _ _ _ _ | exact LeO.refl _ | exact LeO.none _ | refine LeO.ite ?_ ?_ | refine LeO.bind ?_ (fun _ => ?_))
theorem impl_movePlace.mono : ∀ a0 a1 a2 k, LeO (impl_movePlace.f k a0 a1 a2) (impl_movePlace.f (k + 1) a0 a1 a2) := by
 intro a0 a1 a2 k
 obtain ⟨ih0, ih1⟩ := impl_movePlace.mono_l k
 unfold impl_movePlace.f
 repeat' (with_reducible first | exact ih0 _ _ _ _ _ _ | exact ih1 _ _ _ _ _ _ _ _ _ | exact LeO.refl _ | exact LeO.none _ | refine LeO.ite ?_ ?_ | refine LeO.bind ?_ (fun _ => ?_))
set_option maxHeartbeats 8000000 in
set_option maxRecDepth 100000 in
theorem impl_movePlace.calls (k : Nat) (A0 : Option Addr) (c0 : Nat) (l0 : List (S61)) (a1 : Int) (a2 : Bool) (r : Int) (w : World) (hr0 : Kd.C k61 w A0 l0.length l0) (hc0 : l0.length ≤ c0) (h : impl_movePlace.f k l0 a1 a2 = some r) :
  Calls Try.prog 59 #[.slice A0 l0.length c0, .int .i64 a1, .bool a2] w fun e w' => e = .returned (.int .i64 r) ∧ Below w.heap.size w w' := by
 have hu61 := Try.underlying61
 have HR0 := aM hr0
 have HC0 := aM hc0
 clear hr0 hc0
 have HB := aM (Below.refl w.heap.size w)
 have H : (impl_movePlace.l0 k l0 a1 a2 0 0 0) = some r := h
 clear h
 have H' := aM H
 clear H
 go_enter Try.func59, Try.ntmps59
 go_wp2
 repeat (go_quiet (fail); try go_wp2)
 go_loopg [7, 8, 9] k (fun kq v7 v8 v9 w' => ∃ (x7_1 : Int) (x8_1 : Int) (x9_1 : Int), v7 = .int .i64 x7_1 ∧ v8 = .int .i64 x8_1 ∧ v9 = .int .i64 x9_1 ∧ Aside0 (impl_movePlace.l0 kq l0 a1 a2 x7_1 x8_1 x9_1 = some r) ∧ Aside0 (kq ≤ k) ∧ Aside0 (Below w.heap.size w w'))
 case atStart => exact ⟨(0), (0), (0), aP32, aP32, aP32, H', ⟨Nat.le_refl _⟩, ⟨bB⟩⟩
 case round =>
  clear H'
  try clear p2
  obtain ⟨x7_1, x8_1, x9_1, rfl, rfl, rfl, HA, HK1, HB⟩ := hrel
  cases gk with
  | zero => exact absurd HA.out (by simp [impl_movePlace.l0])
  | succ k1 =>
   have H := HA.out
   clear HA
   simp only [impl_movePlace.l0] at H
   by_cases c4 : x9_1 < (l0.length : Int)
   rotate_left
   ·rw [if_neg c4] at H
    have c4b0 : decide (x9_1 < (l0.length : Int)) = false := decide_eq_false c4
    clear c4
    obtain rfl := Option.some.inj H
    go_wp2
    repeat (go_quiet (fail); try go_wp2)
    go_ret
    exact ⟨eR, bB⟩
   rw [if_pos c4] at H
   have c4b0 : decide (x9_1 < (l0.length : Int)) = true := decide_eq_true c4
   clear c4
   by_cases c5 : 0 ≤ x9_1
   rotate_left
   ·rw [if_neg c5] at H
    exact absurd H (by simp)
   rw [if_pos c5] at H
   have c5b0 : decide (0 ≤ x9_1) = true := decide_eq_true c5
   clear c5
   by_cases c6 : ((rd_T61 l0 x9_1).f0) > 0
   ·rw [if_pos c6] at H
    have c6b0 : decide (0 < ((rd_T61 l0 x9_1).f0)) = true := decide_eq_true c6
    clear c6
    by_cases c7 : a1 ≤ x8_1
    ·rw [if_pos c7] at H
     have c7b0 : decide (a1 ≤ x8_1) = true := decide_eq_true c7
     clear c7
     obtain rfl := Option.some.inj H
     have p270 : 0 ≤ (x9_1 : Int) := of_decide_eq_true (by assumption)
     have q270 : x9_1 < (l0.length : Int) := of_decide_eq_true (by assumption)
     obtain ⟨ad270, e270, hx270_0, hx270_1, hx270_2⟩ := at_T61 HR0.out x9_1 p270 q270
     cases e270
     replace hx270_0 := hC HB.out hx270_0
     replace hx270_1 := hC HB.out hx270_1
     replace hx270_2 := hC HB.out hx270_2
     replace p270 := eq_true p270
     replace q270 := eq_true q270
     go_wp2_with (first | ((with_reducible refine gate_dst (N := 10) rfl ?_); refine box_event ?hg (N := 10) ?hd (cs := #[.int .i64 0, .string (⟨#[]⟩ : ByteArray), .string (⟨#[]⟩ : ByteArray)]) (t := 61) ?hr ?_; (case hd => rfl); (case hg => rfl); (case hr => exact aP40); intro gb271 hg w8 hbox hb; have BK271 := aM (hbox); have GW271 := aM (bG (w := w) hg); have GE271 := aM (bG (w := w) hg); replace HB := aM (below_step bB hb); clear hb hbox hg; obtain ⟨hcz9_0, hcz9_1, hcz9_2, hfz9_0, hfz9_1, hfz9_2⟩ := bx3 BK271.out))
     repeat (go_quiet (first | ((with_reducible refine gate_dst (N := 10) rfl ?_); refine box_event ?hg (N := 10) ?hd (cs := #[.int .i64 0, .string (⟨#[]⟩ : ByteArray), .string (⟨#[]⟩ : ByteArray)]) (t := 61) ?hr ?_; (case hd => rfl); (case hg => rfl); (case hr => exact aP40); intro gb271 hg w8 hbox hb; have BK271 := aM (hbox); have GW271 := aM (bG (w := w) hg); have GE271 := aM (bG (w := w) hg); replace HB := aM (below_step bB hb); clear hb hbox hg; obtain ⟨hcz9_0, hcz9_1, hcz9_2, hfz9_0, hfz9_1, hfz9_2⟩ := bx3 BK271.out)); try go_wp2_with (first | ((with_reducible refine gate_dst (N := 10) rfl ?_); refine box_event ?hg (N := 10) ?hd (cs := #[.int .i64 0, .string (⟨#[]⟩ : ByteArray), .string (⟨#[]⟩ : ByteArray)]) (t := 61) ?hr ?_; (case hd => rfl); (case hg => rfl); (case hr => exact aP40); intro gb271 hg w8 hbox hb; have BK271 := aM (hbox); have GW271 := aM (bG (w := w) hg); have GE271 := aM (bG (w := w) hg); replace HB := aM (below_step bB hb); clear hb hbox hg; obtain ⟨hcz9_0, hcz9_1, hcz9_2, hfz9_0, hfz9_1, hfz9_2⟩ := bx3 BK271.out)))
     go_ret
     exact ⟨eR, aP6⟩
    rw [if_neg c7] at H
    have c7b0 : decide (a1 ≤ x8_1) = false := decide_eq_false c7
    clear c7
    obtain ⟨ji10, hji10⟩ : ∃ j_ : Int, (mn ((rd_T61 l0 x9_1).f0) (wrap64 (a1 - x8_1))) = j_ := ⟨_, rfl⟩
    replace H : (impl_movePlace.l0 k1 l0 a1 a2 (wrap64 (x7_1 + (ji10))) (wrap64 (x8_1 + ((rd_T61 l0 x9_1).f0))) (wrap64 (x9_1 + 1))) = some r := by first | (rw [hji10] at H; exact H) | (simp only [hji10] at H ⊢; exact H)
    have hji10_ : (if (wrap64 (a1 - x8_1)) < ((rd_T61 l0 x9_1).f0) then (wrap64 (a1 - x8_1)) else ((rd_T61 l0 x9_1).f0)) = ji10 := hji10
    have H' := aM H
    clear H
    have p270 : 0 ≤ (x9_1 : Int) := of_decide_eq_true (by assumption)
    have q270 : x9_1 < (l0.length : Int) := of_decide_eq_true (by assumption)
    obtain ⟨ad270, e270, hx270_0, hx270_1, hx270_2⟩ := at_T61 HR0.out x9_1 p270 q270
    cases e270
    replace hx270_0 := hC HB.out hx270_0
    replace hx270_1 := hC HB.out hx270_1
    replace hx270_2 := hC HB.out hx270_2
    replace p270 := eq_true p270
    replace q270 := eq_true q270
    go_wp2_with (first | ((with_reducible refine gate_dst (N := 10) rfl ?_); refine box_event ?hg (N := 10) ?hd (cs := #[.int .i64 0, .string (⟨#[]⟩ : ByteArray), .string (⟨#[]⟩ : ByteArray)]) (t := 61) ?hr ?_; (case hd => rfl); (case hg => rfl); (case hr => exact aP40); intro gb271 hg w11 hbox hb; have BK271 := aM (hbox); have GW271 := aM (bG (w := w) hg); have GE271 := aM (bG (w := w) hg); replace HB := aM (below_step bB hb); clear hb hbox hg; obtain ⟨hcz12_0, hcz12_1, hcz12_2, hfz12_0, hfz12_1, hfz12_2⟩ := bx3 BK271.out))
    repeat (go_quiet (first | ((with_reducible refine gate_dst (N := 10) rfl ?_); refine box_event ?hg (N := 10) ?hd (cs := #[.int .i64 0, .string (⟨#[]⟩ : ByteArray), .string (⟨#[]⟩ : ByteArray)]) (t := 61) ?hr ?_; (case hd => rfl); (case hg => rfl); (case hr => exact aP40); intro gb271 hg w11 hbox hb; have BK271 := aM (hbox); have GW271 := aM (bG (w := w) hg); have GE271 := aM (bG (w := w) hg); replace HB := aM (below_step bB hb); clear hb hbox hg; obtain ⟨hcz12_0, hcz12_1, hcz12_2, hfz12_0, hfz12_1, hfz12_2⟩ := bx3 BK271.out)); try go_wp2_with (first | ((with_reducible refine gate_dst (N := 10) rfl ?_); refine box_event ?hg (N := 10) ?hd (cs := #[.int .i64 0, .string (⟨#[]⟩ : ByteArray), .string (⟨#[]⟩ : ByteArray)]) (t := 61) ?hr ?_; (case hd => rfl); (case hg => rfl); (case hr => exact aP40); intro gb271 hg w11 hbox hb; have BK271 := aM (hbox); have GW271 := aM (bG (w := w) hg); have GE271 := aM (bG (w := w) hg); replace HB := aM (below_step bB hb); clear hb hbox hg; obtain ⟨hcz12_0, hcz12_1, hcz12_2, hfz12_0, hfz12_1, hfz12_2⟩ := bx3 BK271.out)))
    go_roundg k1
    case measure => have := HK1.out; omega
    case rel => exact ⟨(wrap64 (x7_1 + (ji10))), (wrap64 (x8_1 + ((rd_T61 l0 x9_1).f0))), (wrap64 (x9_1 + 1)), (by first | rfl | (simp; done) | (simp only [← hji10] <;> (first | rfl | (simp; done) | (simp; exact isE _))) | (simp [*]; done)), aP32, aP32, (by first | exact H' | (rw [hji10]; exact H')), ⟨by have := HK1.out; omega⟩, ⟨aP6⟩⟩
   rw [if_neg c6] at H
   have c6b0 : decide (0 < ((rd_T61 l0 x9_1).f0)) = false := decide_eq_false c6
   clear c6
   have HC13 := aM H
   clear H
   have p270 : 0 ≤ (x9_1 : Int) := of_decide_eq_true (by assumption)
   have q270 : x9_1 < (l0.length : Int) := of_decide_eq_true (by assumption)
   obtain ⟨ad270, e270, hx270_0, hx270_1, hx270_2⟩ := at_T61 HR0.out x9_1 p270 q270
   cases e270
   replace hx270_0 := hC HB.out hx270_0
   replace hx270_1 := hC HB.out hx270_1
   replace hx270_2 := hC HB.out hx270_2
   replace p270 := eq_true p270
   replace q270 := eq_true q270
   go_upto_region 12 with (first | ((with_reducible refine gate_dst (N := 10) rfl ?_); refine box_event ?hg (N := 10) ?hd (cs := #[.int .i64 0, .string (⟨#[]⟩ : ByteArray), .string (⟨#[]⟩ : ByteArray)]) (t := 61) ?hr ?_; (case hd => rfl); (case hg => rfl); (case hr => exact aP40); intro gb271 hg w14 hbox hb; have BK271 := aM (hbox); have GW271 := aM (bG (w := w) hg); have GE271 := aM (bG (w := w) hg); replace HB := aM (below_step bB hb); clear hb hbox hg; obtain ⟨hcz15_0, hcz15_1, hcz15_2, hfz15_0, hfz15_1, hfz15_2⟩ := bx3 BK271.out))
   repeat (go_quiet (first | ((with_reducible refine gate_dst (N := 10) rfl ?_); refine box_event ?hg (N := 10) ?hd (cs := #[.int .i64 0, .string (⟨#[]⟩ : ByteArray), .string (⟨#[]⟩ : ByteArray)]) (t := 61) ?hr ?_; (case hd => rfl); (case hg => rfl); (case hr => exact aP40); intro gb271 hg w14 hbox hb; have BK271 := aM (hbox); have GW271 := aM (bG (w := w) hg); have GE271 := aM (bG (w := w) hg); replace HB := aM (below_step bB hb); clear hb hbox hg; obtain ⟨hcz15_0, hcz15_1, hcz15_2, hfz15_0, hfz15_1, hfz15_2⟩ := bx3 BK271.out)); go_upto_region 12 with (first | ((with_reducible refine gate_dst (N := 10) rfl ?_); refine box_event ?hg (N := 10) ?hd (cs := #[.int .i64 0, .string (⟨#[]⟩ : ByteArray), .string (⟨#[]⟩ : ByteArray)]) (t := 61) ?hr ?_; (case hd => rfl); (case hg => rfl); (case hr => exact aP40); intro gb271 hg w14 hbox hb; have BK271 := aM (hbox); have GW271 := aM (bG (w := w) hg); have GE271 := aM (bG (w := w) hg); replace HB := aM (below_step bB hb); clear hb hbox hg; obtain ⟨hcz15_0, hcz15_1, hcz15_2, hfz15_0, hfz15_1, hfz15_2⟩ := bx3 BK271.out)))
   (try simp only [Act.put, List.setIfInBounds_toArray, List.set_cons_zero, List.set_cons_succ])
   go_cut [68] (fun v68 wc => ∃ (kq : Nat) (x68_12 : Bool), v68 = .bool x68_12 ∧ Aside0 (impl_movePlace.j1 kq l0 a1 a2 x7_1 x8_1 x9_1 (((rd_T61 l0 x9_1).f1).size : Int) (wrap64 (x8_1 + (((rd_T61 l0 x9_1).f2).size : Int))) x68_12 = some r) ∧ Aside0 (kq ≤ k1) ∧ Aside0 (wc.heap[gb271]? = some (.cells #[.int .i64 ((rd_T61 l0 x9_1).f0), .string ((rd_T61 l0 x9_1).f1), .string ((rd_T61 l0 x9_1).f2)] 61 (0, 0))) ∧ Aside0 (Below w.heap.size w wc))
   case first =>
    have H := HC13.out
    clear HC13
    by_cases c16 : (wrap64 (x9_1 + 1)) < (l0.length : Int)
    rotate_left
    ·rw [if_neg c16] at H
     have c16b0 : decide ((wrap64 (x9_1 + 1)) < (l0.length : Int)) = false := decide_eq_false c16
     clear c16
     (first | rw [c16b0] | (simp only [i64_w, i32_w]; rw [c16b0]) | rw [c16e] | skip)
     have H' := aM H
     clear H
     go_wp2
     repeat (go_quiet (fail); try go_wp2)
     go_meet
     case rel => exact ⟨_, (false), aP32, H', ⟨by have := HK1.out; first | omega | exact Nat.le_refl _⟩, ⟨by (with_reducible repeat (first | refine blk_drewN ?_ _ | refine blk_drew ?_ | refine blk_alloc ?_ _)); refine blk_put (cs := #[.int .i64 ((rd_T61 l0 x9_1).f0), .string ((rd_T61 l0 x9_1).f1), .string (⟨#[]⟩ : ByteArray)]) ?_ 2 _ rfl; (with_reducible repeat (first | refine blk_drewN ?_ _ | refine blk_drew ?_ | refine blk_alloc ?_ _)); refine blk_put (cs := #[.int .i64 ((rd_T61 l0 x9_1).f0), .string (⟨#[]⟩ : ByteArray), .string (⟨#[]⟩ : ByteArray)]) ?_ 1 _ rfl; (with_reducible repeat (first | refine blk_drewN ?_ _ | refine blk_drew ?_ | refine blk_alloc ?_ _)); refine blk_put (cs := #[.int .i64 0, .string (⟨#[]⟩ : ByteArray), .string (⟨#[]⟩ : ByteArray)]) ?_ 0 _ rfl; (with_reducible repeat (first | refine blk_drewN ?_ _ | refine blk_drew ?_ | refine blk_alloc ?_ _)); exact BK271.out⟩, ⟨aP6⟩⟩
    rw [if_pos c16] at H
    have c16b0 : decide ((wrap64 (x9_1 + 1)) < (l0.length : Int)) = true := decide_eq_true c16
    clear c16
    (first | rw [c16b0] | (simp only [i64_w, i32_w]; rw [c16b0]) | rw [c16e] | skip)
    by_cases c17 : ((rd_T61 l0 x9_1).f1).toList = ([] : List UInt8)
    ·rw [if_pos c17] at H
     have c17b0 : (((rd_T61 l0 x9_1).f1).toList == ([] : List UInt8)) = true := beq_iff_eq.mpr c17
     have c17b1 : (((rd_T61 l0 x9_1).f1).toList != ([] : List UInt8)) = false := bne_eq_false_iff_eq.mpr c17
     try have c17e : ((rd_T61 l0 x9_1).f1).toList.isEmpty = true := List.isEmpty_iff.mpr c17
     clear c17
     have H' := aM H
     clear H
     have hcz18_0 : w14.cell? ⟨gb271, 0, none⟩ = some (.int .i64 0) := (blk_cell BK271.out 0).trans rfl
     have hcz18_1 : w14.cell? ⟨gb271, 1, none⟩ = some (.string (⟨#[]⟩ : ByteArray)) := (blk_cell BK271.out 1).trans rfl
     have hcz18_2 : w14.cell? ⟨gb271, 2, none⟩ = some (.string (⟨#[]⟩ : ByteArray)) := (blk_cell BK271.out 2).trans rfl
     have hfz18_0 := blk_frozen BK271.out 0
     have hfz18_1 := blk_frozen BK271.out 1
     have hfz18_2 := blk_frozen BK271.out 2
     go_wp2
     repeat (go_quiet (fail); try go_wp2)
     go_meet
     case rel => exact ⟨_, (false), aP32, H', ⟨by have := HK1.out; first | omega | exact Nat.le_refl _⟩, ⟨by (with_reducible repeat (first | refine blk_drewN ?_ _ | refine blk_drew ?_ | refine blk_alloc ?_ _)); refine blk_put (cs := #[.int .i64 ((rd_T61 l0 x9_1).f0), .string ((rd_T61 l0 x9_1).f1), .string (⟨#[]⟩ : ByteArray)]) ?_ 2 _ rfl; (with_reducible repeat (first | refine blk_drewN ?_ _ | refine blk_drew ?_ | refine blk_alloc ?_ _)); refine blk_put (cs := #[.int .i64 ((rd_T61 l0 x9_1).f0), .string (⟨#[]⟩ : ByteArray), .string (⟨#[]⟩ : ByteArray)]) ?_ 1 _ rfl; (with_reducible repeat (first | refine blk_drewN ?_ _ | refine blk_drew ?_ | refine blk_alloc ?_ _)); refine blk_put (cs := #[.int .i64 0, .string (⟨#[]⟩ : ByteArray), .string (⟨#[]⟩ : ByteArray)]) ?_ 0 _ rfl; (with_reducible repeat (first | refine blk_drewN ?_ _ | refine blk_drew ?_ | refine blk_alloc ?_ _)); exact BK271.out⟩, ⟨aP6⟩⟩
    rw [if_neg c17] at H
    have c17b0 : (((rd_T61 l0 x9_1).f1).toList == ([] : List UInt8)) = false := beq_eq_false_iff_ne.mpr c17
    have c17b1 : (((rd_T61 l0 x9_1).f1).toList != ([] : List UInt8)) = true := bne_iff_ne.mpr c17
    try have c17e : ((rd_T61 l0 x9_1).f1).toList.isEmpty = false := List.isEmpty_eq_false_iff.mpr c17
    obtain ⟨ji19, hji19⟩ : ∃ j_ : Int, (wrap64 (x9_1 + 1)) = j_ := ⟨_, rfl⟩
    replace H : (if 0 ≤ (ji19) then (impl_movePlace.j1 k1 l0 a1 a2 x7_1 x8_1 x9_1 (((rd_T61 l0 x9_1).f1).size : Int) (wrap64 (x8_1 + (((rd_T61 l0 x9_1).f2).size : Int))) (((rd_T61 l0 (ji19)).f2).toList != ([] : List UInt8))) else (none)) = some r := by first | (rw [hji19] at H; exact H) | (simp only [hji19] at H ⊢; exact H)
    (try rw [hji19] at c16b0)
    have hji19w : (IntKind.i64.wrap (x9_1 + 1)) = ji19 := (i64_w _).trans hji19
    by_cases c20 : 0 ≤ (ji19)
    rotate_left
    ·rw [if_neg c20] at H
     exact absurd H (by simp)
    rw [if_pos c20] at H
    have c20b0 : decide (0 ≤ (ji19)) = true := decide_eq_true c20
    clear c20
    have H' := aM H
    clear H
    have hcz21_0 : w14.cell? ⟨gb271, 0, none⟩ = some (.int .i64 0) := (blk_cell BK271.out 0).trans rfl
    have hcz21_1 : w14.cell? ⟨gb271, 1, none⟩ = some (.string (⟨#[]⟩ : ByteArray)) := (blk_cell BK271.out 1).trans rfl
    have hcz21_2 : w14.cell? ⟨gb271, 2, none⟩ = some (.string (⟨#[]⟩ : ByteArray)) := (blk_cell BK271.out 2).trans rfl
    have hfz21_0 := blk_frozen BK271.out 0
    have hfz21_1 := blk_frozen BK271.out 1
    have hfz21_2 := blk_frozen BK271.out 2
    have p272 : 0 ≤ ((ji19) : Int) := of_decide_eq_true (by assumption)
    have q272 : (ji19) < (l0.length : Int) := of_decide_eq_true (by assumption)
    obtain ⟨ad272, e272, hx272_0, hx272_1, hx272_2⟩ := at_T61 HR0.out (ji19) p272 q272
    (first | obtain rfl : ad270 = ad272 := (by injection e272) | cases e272)
    have hn272_0 : ad270.block ≠ gb271 := Nat.ne_of_lt (Nat.lt_of_lt_of_le (by have := World.block_lt_of_cell? _ _ hx272_0; first | rwa [add_block] at this | exact this) GW271.out)
    have hn272_1 : ad270.block ≠ gb271 := Nat.ne_of_lt (Nat.lt_of_lt_of_le (by have := World.block_lt_of_cell? _ _ hx272_0; first | rwa [add_block] at this | exact this) GW271.out)
    have hn272_2 : ad270.block ≠ gb271 := Nat.ne_of_lt (Nat.lt_of_lt_of_le (by have := World.block_lt_of_cell? _ _ hx272_0; first | rwa [add_block] at this | exact this) GW271.out)
    replace hx272_0 := hC HB.out hx272_0
    replace hx272_1 := hC HB.out hx272_1
    replace hx272_2 := hC HB.out hx272_2
    replace hx272_0 := (cell_far (p := ⟨gb271, 0, none⟩) aP35 (.int .i64 ((rd_T61 l0 x9_1).f0))).trans hx272_0
    replace hx272_1 := (cell_far (p := ⟨gb271, 0, none⟩) aP35 (.int .i64 ((rd_T61 l0 x9_1).f0))).trans hx272_1
    replace hx272_2 := (cell_far (p := ⟨gb271, 0, none⟩) aP35 (.int .i64 ((rd_T61 l0 x9_1).f0))).trans hx272_2
    replace hx272_0 := (cell_far (p := ⟨gb271, 1, none⟩) aP36 (.string ((rd_T61 l0 x9_1).f1))).trans hx272_0
    replace hx272_1 := (cell_far (p := ⟨gb271, 1, none⟩) aP36 (.string ((rd_T61 l0 x9_1).f1))).trans hx272_1
    replace hx272_2 := (cell_far (p := ⟨gb271, 1, none⟩) aP36 (.string ((rd_T61 l0 x9_1).f1))).trans hx272_2
    replace hx272_0 := (cell_far (p := ⟨gb271, 2, none⟩) aP37 (.string ((rd_T61 l0 x9_1).f2))).trans hx272_0
    replace hx272_1 := (cell_far (p := ⟨gb271, 2, none⟩) aP37 (.string ((rd_T61 l0 x9_1).f2))).trans hx272_1
    replace hx272_2 := (cell_far (p := ⟨gb271, 2, none⟩) aP37 (.string ((rd_T61 l0 x9_1).f2))).trans hx272_2
    (try have hy272_0 := fun (n_ : Nat) => (show (((((w14.drewN n_).setCell ⟨gb271, 0, none⟩ (.int .i64 ((rd_T61 l0 x9_1).f0))).setCell ⟨gb271, 1, none⟩ (.string ((rd_T61 l0 x9_1).f1))).setCell ⟨gb271, 2, none⟩ (.string ((rd_T61 l0 x9_1).f2)))).cell? _ = some _ from hx272_0))
    (try have hy272_1 := fun (n_ : Nat) => (show (((((w14.drewN n_).setCell ⟨gb271, 0, none⟩ (.int .i64 ((rd_T61 l0 x9_1).f0))).setCell ⟨gb271, 1, none⟩ (.string ((rd_T61 l0 x9_1).f1))).setCell ⟨gb271, 2, none⟩ (.string ((rd_T61 l0 x9_1).f2)))).cell? _ = some _ from hx272_1))
    (try have hy272_2 := fun (n_ : Nat) => (show (((((w14.drewN n_).setCell ⟨gb271, 0, none⟩ (.int .i64 ((rd_T61 l0 x9_1).f0))).setCell ⟨gb271, 1, none⟩ (.string ((rd_T61 l0 x9_1).f1))).setCell ⟨gb271, 2, none⟩ (.string ((rd_T61 l0 x9_1).f2)))).cell? _ = some _ from hx272_2))
    clear hn272_0
    clear hn272_1
    clear hn272_2
    replace p272 := eq_true p272
    replace q272 := eq_true q272
    go_wp2
    repeat (go_quiet (fail); try go_wp2)
    go_meet
    case rel => exact ⟨_, ((((rd_T61 l0 (ji19)).f2).toList != ([] : List UInt8))), (by first | rfl | (simp; done) | (simp only [← hji19] <;> (first | rfl | (simp; done) | (simp; exact isE _))) | (simp [*]; done)), (by first | exact H' | (rw [hji19]; exact H')), ⟨by have := HK1.out; first | omega | exact Nat.le_refl _⟩, ⟨by (with_reducible repeat (first | refine blk_drewN ?_ _ | refine blk_drew ?_ | refine blk_alloc ?_ _)); refine blk_put (cs := #[.int .i64 ((rd_T61 l0 x9_1).f0), .string ((rd_T61 l0 x9_1).f1), .string (⟨#[]⟩ : ByteArray)]) ?_ 2 _ rfl; (with_reducible repeat (first | refine blk_drewN ?_ _ | refine blk_drew ?_ | refine blk_alloc ?_ _)); refine blk_put (cs := #[.int .i64 ((rd_T61 l0 x9_1).f0), .string (⟨#[]⟩ : ByteArray), .string (⟨#[]⟩ : ByteArray)]) ?_ 1 _ rfl; (with_reducible repeat (first | refine blk_drewN ?_ _ | refine blk_drew ?_ | refine blk_alloc ?_ _)); refine blk_put (cs := #[.int .i64 0, .string (⟨#[]⟩ : ByteArray), .string (⟨#[]⟩ : ByteArray)]) ?_ 0 _ rfl; (with_reducible repeat (first | refine blk_drewN ?_ _ | refine blk_drew ?_ | refine blk_alloc ?_ _)); exact BK271.out⟩, ⟨aP6⟩⟩
   case rest =>
    clear HC13
    try clear c1
    try clear c2
    try clear p2
    try clear q2
    try clear hx2
    try clear c4
    try clear c4b0
    try clear c5
    try clear c5b0
    try clear c6
    try clear c6b0
    try clear p6
    try clear c7
    try clear c7b0
    try clear c16
    try clear c16b0
    try clear c17
    try clear c17b0
    try clear c17b1
    try clear c20
    try clear c20b0
    try clear hcz12_0
    try clear hcz12_1
    try clear hcz12_2
    try clear hcz15_0
    try clear hcz15_1
    try clear hcz15_2
    try clear hcz18_0
    try clear hcz18_1
    try clear hcz18_2
    try clear hcz21_0
    try clear hcz21_1
    try clear hcz21_2
    try clear hcz9_0
    try clear hcz9_1
    try clear hcz9_2
    try clear hfz12_0
    try clear hfz12_1
    try clear hfz12_2
    try clear hfz15_0
    try clear hfz15_1
    try clear hfz15_2
    try clear hfz18_0
    try clear hfz18_1
    try clear hfz18_2
    try clear hfz21_0
    try clear hfz21_1
    try clear hfz21_2
    try clear hfz9_0
    try clear hfz9_1
    try clear hfz9_2
    try clear hx270_0
    try clear hx270_1
    try clear hx270_2
    try clear hx272_0
    try clear hx272_1
    try clear hx272_2
    try clear p2
    try clear p270
    try clear p272
    try clear q270
    try clear q272
    obtain ⟨kq, x68_12, rfl, HA, HJ12, BK271, HB⟩ := hcut
    cases kq with
    | zero => exact absurd HA.out (by simp [impl_movePlace.j1])
    | succ kj12 =>
     have H := HA.out
     clear HA
     simp only [impl_movePlace.j1] at H
     by_cases c22 : x68_12 = true
     rotate_left
     ·replace c22 := Bool.eq_false_iff.mpr c22
      subst c22
      replace H : (if a1 > (wrap64 (x8_1 + (((rd_T61 l0 x9_1).f2).size : Int))) then (impl_movePlace.l0 kj12 l0 a1 a2 (wrap64 (x7_1 + (((rd_T61 l0 x9_1).f1).size : Int))) (wrap64 (x8_1 + (((rd_T61 l0 x9_1).f2).size : Int))) (wrap64 (x9_1 + 1))) else (if a1 ≥ x8_1 then (if a2 = true then (impl_movePlace.l0 kj12 l0 a1 a2 (wrap64 (x7_1 + (((rd_T61 l0 x9_1).f1).size : Int))) (wrap64 (x8_1 + (((rd_T61 l0 x9_1).f2).size : Int))) (wrap64 (x9_1 + 1))) else (impl_movePlace.l0 kj12 l0 a1 a2 x7_1 (wrap64 (x8_1 + (((rd_T61 l0 x9_1).f2).size : Int))) (wrap64 (x9_1 + 1)))) else (impl_movePlace.l0 kj12 l0 a1 a2 x7_1 (wrap64 (x8_1 + (((rd_T61 l0 x9_1).f2).size : Int))) (wrap64 (x9_1 + 1))))) = some r := by rw [if_neg (show ¬ (false = true) by decide)] at H; exact H
      by_cases c29 : a1 > (wrap64 (x8_1 + (((rd_T61 l0 x9_1).f2).size : Int)))
      ·rw [if_pos c29] at H
       have c29b0 : decide ((wrap64 (x8_1 + (((rd_T61 l0 x9_1).f2).size : Int))) < a1) = true := decide_eq_true c29
       clear c29
       have H' := aM H
       clear H
       go_wp2
       repeat (go_quiet (fail); try go_wp2)
       go_roundg kj12
       case measure => have := HK1.out; have := HJ12.out; omega
       case rel => exact ⟨(wrap64 (x7_1 + (((rd_T61 l0 x9_1).f1).size : Int))), ((wrap64 (x8_1 + (((rd_T61 l0 x9_1).f2).size : Int)))), (wrap64 (x9_1 + 1)), aP32, aP32, aP32, H', ⟨by have := HK1.out; have := HJ12.out; omega⟩, ⟨aP6⟩⟩
      rw [if_neg c29] at H
      have c29b0 : decide ((wrap64 (x8_1 + (((rd_T61 l0 x9_1).f2).size : Int))) < a1) = false := decide_eq_false c29
      clear c29
      by_cases c30 : a1 ≥ x8_1
      rotate_left
      ·rw [if_neg c30] at H
       have c30b0 : decide (x8_1 ≤ a1) = false := decide_eq_false c30
       clear c30
       have H' := aM H
       clear H
       go_wp2
       repeat (go_quiet (fail); try go_wp2)
       go_roundg kj12
       case measure => have := HK1.out; have := HJ12.out; omega
       case rel => exact ⟨(x7_1), ((wrap64 (x8_1 + (((rd_T61 l0 x9_1).f2).size : Int)))), (wrap64 (x9_1 + 1)), aP32, aP32, aP32, H', ⟨by have := HK1.out; have := HJ12.out; omega⟩, ⟨aP6⟩⟩
      rw [if_pos c30] at H
      have c30b0 : decide (x8_1 ≤ a1) = true := decide_eq_true c30
      clear c30
      by_cases c31 : a2 = true
      rotate_left
      ·replace c31 := Bool.eq_false_iff.mpr c31
       subst c31
       replace H : (impl_movePlace.l0 kj12 l0 a1 false x7_1 (wrap64 (x8_1 + (((rd_T61 l0 x9_1).f2).size : Int))) (wrap64 (x9_1 + 1))) = some r := by rw [if_neg (show ¬ (false = true) by decide)] at H; exact H
       have H' := aM H
       clear H
       go_wp2
       repeat (go_quiet (fail); try go_wp2)
       go_roundg kj12
       case measure => have := HK1.out; have := HJ12.out; omega
       case rel => exact ⟨(x7_1), ((wrap64 (x8_1 + (((rd_T61 l0 x9_1).f2).size : Int)))), (wrap64 (x9_1 + 1)), aP32, aP32, aP32, H', ⟨by have := HK1.out; have := HJ12.out; omega⟩, ⟨aP6⟩⟩
      subst c31
      replace H : (impl_movePlace.l0 kj12 l0 a1 true (wrap64 (x7_1 + (((rd_T61 l0 x9_1).f1).size : Int))) (wrap64 (x8_1 + (((rd_T61 l0 x9_1).f2).size : Int))) (wrap64 (x9_1 + 1))) = some r := by rw [if_pos rfl] at H; exact H
      have H' := aM H
      clear H
      go_wp2
      repeat (go_quiet (fail); try go_wp2)
      go_roundg kj12
      case measure => have := HK1.out; have := HJ12.out; omega
      case rel => exact ⟨(wrap64 (x7_1 + (((rd_T61 l0 x9_1).f1).size : Int))), ((wrap64 (x8_1 + (((rd_T61 l0 x9_1).f2).size : Int)))), (wrap64 (x9_1 + 1)), aP32, aP32, aP32, H', ⟨by have := HK1.out; have := HJ12.out; omega⟩, ⟨aP6⟩⟩
     subst c22
     replace H : (if 0 ≤ (wrap64 (x9_1 + 1)) then (if (wrap64 (x9_1 + 1)) < (l0.length : Int) then (if a1 > (wrap64 (x8_1 + (((rd_T61 l0 (wrap64 (x9_1 + 1))).f2).size : Int))) then (impl_movePlace.l0 kj12 l0 a1 a2 (wrap64 (x7_1 + (((rd_T61 l0 x9_1).f1).size : Int))) (wrap64 (x8_1 + (((rd_T61 l0 (wrap64 (x9_1 + 1))).f2).size : Int))) (wrap64 ((wrap64 (x9_1 + 1)) + 1))) else (if a1 ≥ x8_1 then (if a2 = true then (impl_movePlace.l0 kj12 l0 a1 a2 (wrap64 (x7_1 + (((rd_T61 l0 x9_1).f1).size : Int))) (wrap64 (x8_1 + (((rd_T61 l0 (wrap64 (x9_1 + 1))).f2).size : Int))) (wrap64 ((wrap64 (x9_1 + 1)) + 1))) else (impl_movePlace.l0 kj12 l0 a1 a2 x7_1 (wrap64 (x8_1 + (((rd_T61 l0 (wrap64 (x9_1 + 1))).f2).size : Int))) (wrap64 ((wrap64 (x9_1 + 1)) + 1)))) else (impl_movePlace.l0 kj12 l0 a1 a2 x7_1 (wrap64 (x8_1 + (((rd_T61 l0 (wrap64 (x9_1 + 1))).f2).size : Int))) (wrap64 ((wrap64 (x9_1 + 1)) + 1))))) else (none)) else (none)) = some r := by rw [if_pos rfl] at H; exact H
     obtain ⟨ji23, hji23⟩ : ∃ j_ : Int, (wrap64 (x9_1 + 1)) = j_ := ⟨_, rfl⟩
     replace H : (if 0 ≤ (ji23) then (if (ji23) < (l0.length : Int) then (if a1 > (wrap64 (x8_1 + (((rd_T61 l0 (ji23)).f2).size : Int))) then (impl_movePlace.l0 kj12 l0 a1 a2 (wrap64 (x7_1 + (((rd_T61 l0 x9_1).f1).size : Int))) (wrap64 (x8_1 + (((rd_T61 l0 (ji23)).f2).size : Int))) (wrap64 ((ji23) + 1))) else (if a1 ≥ x8_1 then (if a2 = true then (impl_movePlace.l0 kj12 l0 a1 a2 (wrap64 (x7_1 + (((rd_T61 l0 x9_1).f1).size : Int))) (wrap64 (x8_1 + (((rd_T61 l0 (ji23)).f2).size : Int))) (wrap64 ((ji23) + 1))) else (impl_movePlace.l0 kj12 l0 a1 a2 x7_1 (wrap64 (x8_1 + (((rd_T61 l0 (ji23)).f2).size : Int))) (wrap64 ((ji23) + 1)))) else (impl_movePlace.l0 kj12 l0 a1 a2 x7_1 (wrap64 (x8_1 + (((rd_T61 l0 (ji23)).f2).size : Int))) (wrap64 ((ji23) + 1))))) else (none)) else (none)) = some r := by first | (rw [hji23] at H; exact H) | (simp only [hji23] at H ⊢; exact H)
     have hji23w : (IntKind.i64.wrap (x9_1 + 1)) = ji23 := (i64_w _).trans hji23
     by_cases c24 : 0 ≤ (ji23)
     rotate_left
     ·rw [if_neg c24] at H
      exact absurd H (by simp)
     rw [if_pos c24] at H
     have c24b0 : decide (0 ≤ (ji23)) = true := decide_eq_true c24
     clear c24
     by_cases c25 : (ji23) < (l0.length : Int)
     rotate_left
     ·rw [if_neg c25] at H
      exact absurd H (by simp)
     rw [if_pos c25] at H
     have c25b0 : decide ((ji23) < (l0.length : Int)) = true := decide_eq_true c25
     clear c25
     by_cases c26 : a1 > (wrap64 (x8_1 + (((rd_T61 l0 (ji23)).f2).size : Int)))
     ·rw [if_pos c26] at H
      have c26b0 : decide ((wrap64 (x8_1 + (((rd_T61 l0 (ji23)).f2).size : Int))) < a1) = true := decide_eq_true c26
      clear c26
      have H' := aM H
      clear H
      have p273 : 0 ≤ ((ji23) : Int) := of_decide_eq_true (by assumption)
      have q273 : (ji23) < (l0.length : Int) := of_decide_eq_true (by assumption)
      obtain ⟨ad273, e273, hx273_0, hx273_1, hx273_2⟩ := at_T61 HR0.out (ji23) p273 q273
      (first | obtain rfl : ad270 = ad273 := (by injection e273) | cases e273)
      replace hx273_0 := hC HB.out hx273_0
      replace hx273_1 := hC HB.out hx273_1
      replace hx273_2 := hC HB.out hx273_2
      replace p273 := eq_true p273
      replace q273 := eq_true q273
      go_wp2
      repeat (go_quiet (fail); try go_wp2)
      go_roundg kj12
      case measure => have := HK1.out; have := HJ12.out; omega
      case rel => exact ⟨(wrap64 (x7_1 + (((rd_T61 l0 x9_1).f1).size : Int))), (wrap64 (x8_1 + (((rd_T61 l0 (ji23)).f2).size : Int))), (wrap64 ((ji23) + 1)), aP32, aP33, aP33, aP38, ⟨by have := HK1.out; have := HJ12.out; omega⟩, ⟨aP6⟩⟩
     rw [if_neg c26] at H
     have c26b0 : decide ((wrap64 (x8_1 + (((rd_T61 l0 (ji23)).f2).size : Int))) < a1) = false := decide_eq_false c26
     clear c26
     by_cases c27 : a1 ≥ x8_1
     rotate_left
     ·rw [if_neg c27] at H
      have c27b0 : decide (x8_1 ≤ a1) = false := decide_eq_false c27
      clear c27
      have H' := aM H
      clear H
      have p273 : 0 ≤ ((ji23) : Int) := of_decide_eq_true (by assumption)
      have q273 : (ji23) < (l0.length : Int) := of_decide_eq_true (by assumption)
      obtain ⟨ad273, e273, hx273_0, hx273_1, hx273_2⟩ := at_T61 HR0.out (ji23) p273 q273
      (first | obtain rfl : ad270 = ad273 := (by injection e273) | cases e273)
      replace hx273_0 := hC HB.out hx273_0
      replace hx273_1 := hC HB.out hx273_1
      replace hx273_2 := hC HB.out hx273_2
      replace p273 := eq_true p273
      replace q273 := eq_true q273
      go_wp2
      repeat (go_quiet (fail); try go_wp2)
      go_roundg kj12
      case measure => have := HK1.out; have := HJ12.out; omega
      case rel => exact ⟨(x7_1), (wrap64 (x8_1 + (((rd_T61 l0 (ji23)).f2).size : Int))), (wrap64 ((ji23) + 1)), aP32, aP33, aP33, aP38, ⟨by have := HK1.out; have := HJ12.out; omega⟩, ⟨aP6⟩⟩
     rw [if_pos c27] at H
     have c27b0 : decide (x8_1 ≤ a1) = true := decide_eq_true c27
     clear c27
     by_cases c28 : a2 = true
     rotate_left
     ·replace c28 := Bool.eq_false_iff.mpr c28
      subst c28
      replace H : (impl_movePlace.l0 kj12 l0 a1 false x7_1 (wrap64 (x8_1 + (((rd_T61 l0 (ji23)).f2).size : Int))) (wrap64 ((ji23) + 1))) = some r := by rw [if_neg (show ¬ (false = true) by decide)] at H; exact H
      have H' := aM H
      clear H
      have p273 : 0 ≤ ((ji23) : Int) := of_decide_eq_true (by assumption)
      have q273 : (ji23) < (l0.length : Int) := of_decide_eq_true (by assumption)
      obtain ⟨ad273, e273, hx273_0, hx273_1, hx273_2⟩ := at_T61 HR0.out (ji23) p273 q273
      (first | obtain rfl : ad270 = ad273 := (by injection e273) | cases e273)
      replace hx273_0 := hC HB.out hx273_0
      replace hx273_1 := hC HB.out hx273_1
      replace hx273_2 := hC HB.out hx273_2
      replace p273 := eq_true p273
      replace q273 := eq_true q273
      go_wp2
      repeat (go_quiet (fail); try go_wp2)
      go_roundg kj12
      case measure => have := HK1.out; have := HJ12.out; omega
      case rel => exact ⟨(x7_1), (wrap64 (x8_1 + (((rd_T61 l0 (ji23)).f2).size : Int))), (wrap64 ((ji23) + 1)), aP32, aP33, aP33, aP38, ⟨by have := HK1.out; have := HJ12.out; omega⟩, ⟨aP6⟩⟩
     subst c28
     replace H : (impl_movePlace.l0 kj12 l0 a1 true (wrap64 (x7_1 + (((rd_T61 l0 x9_1).f1).size : Int))) (wrap64 (x8_1 + (((rd_T61 l0 (ji23)).f2).size : Int))) (wrap64 ((ji23) + 1))) = some r := by rw [if_pos rfl] at H; exact H
     have H' := aM H
     clear H
     have p273 : 0 ≤ ((ji23) : Int) := of_decide_eq_true (by assumption)
     have q273 : (ji23) < (l0.length : Int) := of_decide_eq_true (by assumption)
     obtain ⟨ad273, e273, hx273_0, hx273_1, hx273_2⟩ := at_T61 HR0.out (ji23) p273 q273
     (first | obtain rfl : ad270 = ad273 := (by injection e273) | cases e273)
     replace hx273_0 := hC HB.out hx273_0
     replace hx273_1 := hC HB.out hx273_1
     replace hx273_2 := hC HB.out hx273_2
     replace p273 := eq_true p273
     replace q273 := eq_true q273
     go_wp2
     repeat (go_quiet (fail); try go_wp2)
     go_roundg kj12
     case measure => have := HK1.out; have := HJ12.out; omega
     case rel => exact ⟨(wrap64 (x7_1 + (((rd_T61 l0 x9_1).f1).size : Int))), (wrap64 (x8_1 + (((rd_T61 l0 (ji23)).f2).size : Int))), (wrap64 ((ji23) + 1)), aP32, aP33, aP33, aP38, ⟨by have := HK1.out; have := HJ12.out; omega⟩, ⟨aP6⟩⟩
-- import SortLay
-- fn: slices.Clone[[]loop.example/g00253/impl.Mark,loop.example/g00253/impl.Mark]
set_option maxHeartbeats 4000000 in
set_option maxRecDepth 100000 in
theorem clone_mark (w : World) (A : Addr) (c : Nat) (l : List S67) (hr : Kd.C k67 w (some A) l.length l) (hlen : l.length ≤ 1000000) :
  Calls Try.prog 66 #[.slice (some A) l.length c] w fun e w' => ∃ v : Value, e = .returned v ∧ Kd.R k67 67 w' w.heap.size (fun k => w.heap.size ≤ k) v l ∧ Below w.heap.size w w' := by
 have hu53 := Try.underlying67
 have hu22 := Try.underlying25
 have HR := aM hr
 have HLN := aM hlen
 clear hr hlen
 have eqn : (Go.binOp .eql 25 (.slice (some A) l.length c) (.slice none 0 0)).run Try.prog w = .ok (.bool false) w := Go.Lib.run_eql_slice_nil w 25 67 (some A) l.length c 0 0 hu22
 go_enter Try.func66, Try.ntmps66
 go_wp2_with (first | ((with_reducible refine gate_dst (N := 5) rfl ?_); refine Kd.R_lit k67 (w0 := w) w.heap.size 67 ?hg (N := 5) ?hd (xs := ([] : List S67)) (inner := []) (ok := fun k => w.heap.size ≤ k) (okp := fun _ => False) ?hr ?hp (fun _ q => q.elim) (Nat.le_refl _) (Below.refl _ _) (Nat.le_refl _) (by simp) ?_; (case hd => rfl); (case hg => rfl); (case hr => exact aP40); (case hp => exact Reps.none _ _); intro vl u4 ho4 hb4 hg4_ hnew4_; clear hg4_ hnew4_; have HO4 := aM ho4; have HB4 := aM hb4; clear ho4 hb4) | ((with_reducible refine gate_dst (N := 7) rfl ?_); refine Kd.R_append_rows k67 (Rr := k67.K u4) (w0 := w) w.heap.size ?hg (.tmp 5) (.tmp 6) 25 67 (.agg #[.int .i64 0, .int .i64 0, .string ⟨#[]⟩]) 32 ?ho Try.underlying25 info67 rfl (show 0 < 3 by decide) (by decide) vl ([] : List S67) l (some A) l.length c (fun k => w.heap.size ≤ k) (fun _ => False) ?e1 ?e2 HO4.out ?hrow (fun x cs hx => by obtain rfl := k67_open hx; exact k67_mkM _ _ _ x) (fun _ q => q.elim) (fun k hk => Nat.le_trans HB4.out.size hk) HB4.out HB4.out.size ?hl ?_; (case hg => rfl); (case ho => rfl); (case e1 => rfl); (case e2 => rfl); (case hrow => exact Kd.C_foot_neS (S := fun _ => False) (fun h => h) HR.out (fun _ _ _ q => q) u4 (Kept.of_below HB4.out (fun _ => False))); (case hl => have := HLN.out; simp only [List.length_nil]; omega); intro v5 u5 ho5 hb5 hg5_ hat5_; clear hg5_ hat5_; have HO5 := aM ho5; have HB5 := aM hb5; clear ho5 hb5))
 go_ret
 exact ⟨v5, rfl, HO5.out, HB5.out⟩
theorem clone_markA (w : World) (A : Option Addr) (c : Nat) (l : List S67) (hr : Kd.C k67 w A l.length l) (hlen : l.length ≤ 1000000) :
  Calls Try.prog 66 #[.slice A l.length c] w fun e w' => ∃ v : Value, e = .returned v ∧ Kd.R k67 67 w' w.heap.size (fun k => w.heap.size ≤ k) v l ∧ Below w.heap.size w w' := by
 cases A with
 | some A => exact clone_mark w A c l hr hlen
 | none =>
  have hl : l = [] := by
   cases l with
   | nil => rfl
   | cons p r =>
    obtain ⟨ad, e3, _, _, _⟩ := at_T67 hr 0 (Int.le_refl _) (by rw [List.length_cons]; omega)
    cases e3
  subst hl
  clear hr hlen
  have hu22 := Try.underlying25
  have eqn : (Go.binOp .eql 25 (.slice none 0 c) (.slice none 0 0)).run Try.prog w = .ok (.bool true) w := Go.Lib.run_eql_slice_nil w 25 67 none 0 c 0 0 hu22
  go_enter Try.func66, Try.ntmps66
  go_wp2_with fail
  go_ret
  exact ⟨_, rfl, Kd.R_nil _ _ _ _ _, Below.refl _ _⟩
def impl_Mark_66.f (l0 : List S67) : Option (List S67) := if 1000000 < l0.length then none else some l0
theorem impl_Mark_66.calls (A0 : Option Addr) (c0 : Nat) (l0 : List S67) (r : List S67) (w : World) (hr0 : Kd.C k67 w A0 l0.length l0) (hc0 : l0.length ≤ c0) (h : impl_Mark_66.f l0 = some r) :
  Calls Try.prog 66 #[.slice A0 l0.length c0] w fun e w' => ∃ v0_ : Value, e = .returned (v0_) ∧ Kd.R k67 67 w' w.heap.size (fun _ => True) v0_ r ∧ Below w.heap.size w w' := by
 unfold impl_Mark_66.f at h
 by_cases c : 1000000 < l0.length
 ·rw [if_pos c] at h; cases h
 rw [if_neg c] at h
 obtain rfl := Option.some.inj h
 refine (clone_markA w A0 c0 l0 hr0 (by omega)).mono ?_
 rintro e w' ⟨v, he, ho, hb⟩
 exact ⟨v, he, Kd.R_mono ho (fun _ _ => trivial), hb⟩
end Go.Proofs.Ytmhcmcdppimcpaa.PFnExactMoveMarks
