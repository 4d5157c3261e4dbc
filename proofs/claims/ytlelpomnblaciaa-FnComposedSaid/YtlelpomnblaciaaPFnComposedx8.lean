/- (thin) Written by a program of this session (wip/ovl.py) over the kit's print: plain functions with the answers of the Go functions, and the proofs that they are; no condition. -/
import Derived.Test.YtlelpomnblaciaaMk
import Derived.Test.YtlelpomnblaciaaWFootNe
import Derived.Test.YtlelpomnblaciaaWKept
import Derived.Test.YtlelpomnblaciaaPFnComposedx0
namespace Go.Proofs.Ytlelpomnblaciaa.PFnComposed
open Go.RowKit Go.Proofs.YtlelpomnblaciaaW.PrintWords Go.Proofs.YtlelpomnblaciaaW.PrintLast Go.Proofs.YtlelpomnblaciaaW.PrintMore
attribute [local go_sem] max2_int min2_int max_two min_two max_three min_three max_four min_four   -- for this text's walks alone
set_option linter.unusedVariables false
set_option linter.unusedSimpArgs false
-- import Mk
-- import WFootNe
-- import WKept
def IsRd (w : World) (g : Nat) (l : List S53) (S : Nat → Prop) : Prop :=
 ∃ (A : Option Addr) (c : Nat), w.heap[g]? = some (.cells #[.slice A l.length c] 72 (0, 0)) ∧ l.length ≤ c ∧ Kd.C k53 w A l.length l ∧ (∀ ad, A = some ad → 0 < l.length → ¬ S ad.block)
def hdP (l : List S53) : S53 := l.headD ⟨0, ⟨#[]⟩, ⟨#[]⟩⟩
theorem IsRd.kept {w w' : World} {g : Nat} {l : List S53} {S S' : Nat → Prop} (h : IsRd w g l S) (hk : Kept w w' S') (hg : ¬ S' g) (hs : ∀ k, S' k → S k) : IsRd w' g l S := by
 obtain ⟨A, c, h1, h2, h3, h4⟩ := h
 refine ⟨A, c, blk_kept h1 hk hg, h2, ?_, h4⟩
 exact Kd.C_foot_neS (S := S') (fun h => h) h3 (fun ad e hn hq => h4 ad e hn (hs _ hq)) w' hk
theorem IsRd.below {w w' : World} {g : Nat} {l : List S53} {S : Nat → Prop} (h : IsRd w g l S) (hb : Below w.heap.size w w') : IsRd w' g l S :=
 h.kept (Kept.of_below hb (fun _ => False)) (fun q => q) (fun _ q => q.elim)
set_option maxHeartbeats 8000000 in
set_option maxRecDepth 100000 in
theorem rd_head (w : World) (g : Nat) (l : List S53) (S : Nat → Prop) (h : IsRd w g l S) :
  Calls Try.prog 64 #[.pointer (some ⟨g, 0, none⟩)] w fun e w' => e = .returned (.agg #[.int .i64 (hdP l).f0, .string (hdP l).f1, .string (hdP l).f2]) ∧ Below w.heap.size w w' := by
 have hu53 := Try.underlying53
 have hu72 := Try.underlying72
 obtain ⟨A, c, hk, hc, hr, _⟩ := h
 have gw := blk_lt hk
 have KB := aM hk
 have HR := aM hr
 have c0 : w.cell? ⟨g, 0, none⟩ = some (.slice A l.length c) := (blk_cell hk 0).trans rfl
 clear hk hr
 cases l with
 | nil =>
  go_enter Try.func64, Try.ntmps64
  go_wp2_with (first | ((with_reducible refine gate_dst (N := 2) rfl ?_); refine box_event ?hg (N := 2) ?hd (cs := #[.int .i64 0, .string (⟨#[]⟩ : ByteArray), .string (⟨#[]⟩ : ByteArray)]) (t := 53) ?hr ?_; (case hd => rfl); (case hg => rfl); (case hr => exact aP21); intro gb hgb w1 hbox hb; have y := (blk_cell (blk_below KB.out hb) 0).trans (show _ = some (Value.slice A ([] : List S53).length c) from rfl); have HB := aM hb; have BX := aM hbox; have GB := aM hgb; have y0 := (blk_cell hbox 0).trans (show _ = some (Value.int .i64 0) from rfl); have y1 := (blk_cell hbox 1).trans (show _ = some (Value.string ⟨#[]⟩) from rfl); have y2 := (blk_cell hbox 2).trans (show _ = some (Value.string ⟨#[]⟩) from rfl); have f0 := blk_frozen hbox 0; have f1 := blk_frozen hbox 1; have f2 := blk_frozen hbox 2; clear hb hbox hgb c0))
  refine bodyPost_ret (results_cell_row rfl _ _ gb 53 #[.int .i64 0, .string (⟨#[]⟩ : ByteArray), .string (⟨#[]⟩ : ByteArray)] (0, 0) _ rfl (by refine blk_put (cs := #[.int .i64 0, .string (⟨#[]⟩ : ByteArray), .string (⟨#[]⟩ : ByteArray)]) ?_ 2 _ rfl; refine blk_put (cs := #[.int .i64 0, .string (⟨#[]⟩ : ByteArray), .string (⟨#[]⟩ : ByteArray)]) ?_ 1 _ rfl; refine blk_put (cs := #[.int .i64 0, .string (⟨#[]⟩ : ByteArray), .string (⟨#[]⟩ : ByteArray)]) ?_ 0 _ rfl; exact BX.out) Try.underlying53 rfl (by kernel_rfl)) rfl ?_
  have hge : w.heap.size ≤ gb := Nat.le_of_eq GB.out.symm
  exact ⟨rfl, ((HB.out.setCell (p := ⟨gb, 0, none⟩) hge _).setCell (p := ⟨gb, 1, none⟩) hge _).setCell (p := ⟨gb, 2, none⟩) hge _⟩
 | cons p r =>
  have p0 : (0 : Int) < ((p :: r).length : Int) := by rw [List.length_cons]; omega
  have p1 : (0 : Nat) < (p :: r).length := by rw [List.length_cons]; omega
  obtain ⟨ad, e3, hx0, hx1, hx2⟩ := at_T53 HR.out 0 (Int.le_refl _) p0
  cases e3
  rw [show ((0 : Int)).toNat = 0 from rfl, show 0 * 3 = 0 from rfl, Addr.add_zero'] at hx0 hx1 hx2
  have X1 := aM hx1
  have X2 := aM hx2
  have b0 : (((p :: r).length : Int) == 0) = false := beq_eq_false_iff_ne.mpr (by omega)
  have b1 : (((p :: r).length : Int) != 0) = true := bne_iff_ne.mpr (by omega)
  have b2 : decide (0 < ((p :: r).length : Int)) = true := decide_eq_true p0
  have b3 : decide (0 < (p :: r).length) = true := decide_eq_true p1
  have X0 := aM hx0
  clear hx0 hx1 hx2
  generalize hL : p :: r = L at *
  have HL := aM hL
  clear hL
  go_enter Try.func64, Try.ntmps64
  go_wp2_with (first | ((with_reducible refine gate_dst (N := 2) rfl ?_); refine box_event ?hg (N := 2) ?hd (cs := #[.int .i64 0, .string (⟨#[]⟩ : ByteArray), .string (⟨#[]⟩ : ByteArray)]) (t := 53) ?hr ?_; (case hd => rfl); (case hg => rfl); (case hr => exact aP21); intro gb hgb w1 hbox hb; have y := (blk_cell (blk_below KB.out hb) 0).trans (show _ = some (Value.slice (some ad) L.length c) from rfl); have HB := aM hb; have BX := aM hbox; have GB := aM hgb; have z0 := pw_cell_below hb X0.out; have z1 := pw_cell_below hb X1.out; have z2 := pw_cell_below hb X2.out; have n1 : gb ≠ g := (by rw [hgb]; exact Nat.ne_of_gt gw); have n2 : g ≠ gb := (by rw [hgb]; exact Nat.ne_of_lt gw); have y0 := (blk_cell hbox 0).trans (show _ = some (Value.int .i64 0) from rfl); have y1 := (blk_cell hbox 1).trans (show _ = some (Value.string ⟨#[]⟩) from rfl); have y2 := (blk_cell hbox 2).trans (show _ = some (Value.string ⟨#[]⟩) from rfl); have f0 := blk_frozen hbox 0; have f1 := blk_frozen hbox 1; have f2 := blk_frozen hbox 2; clear hb hbox hgb c0))
  refine bodyPost_ret (results_cell_row rfl _ _ gb 53 #[.int .i64 (rd_T53 L 0).f0, .string (rd_T53 L 0).f1, .string (rd_T53 L 0).f2] (0, 0) _ rfl (by refine blk_put (cs := #[.int .i64 (rd_T53 L 0).f0, .string (rd_T53 L 0).f1, .string (⟨#[]⟩ : ByteArray)]) ?_ 2 _ rfl; refine blk_put (cs := #[.int .i64 (rd_T53 L 0).f0, .string (⟨#[]⟩ : ByteArray), .string (⟨#[]⟩ : ByteArray)]) ?_ 1 _ rfl; refine blk_put (cs := #[.int .i64 0, .string (⟨#[]⟩ : ByteArray), .string (⟨#[]⟩ : ByteArray)]) ?_ 0 _ rfl; exact BX.out) Try.underlying53 rfl (by kernel_rfl)) rfl ?_
  have hge : w.heap.size ≤ gb := Nat.le_of_eq GB.out.symm
  obtain rfl := HL.out
  exact ⟨rfl, ((HB.out.setCell (p := ⟨gb, 0, none⟩) hge _).setCell (p := ⟨gb, 1, none⟩) hge _).setCell (p := ⟨gb, 2, none⟩) hge _⟩
-- NOT PRINTED: function 83 (impl_maker_end)
-- NOT PRINTED: function 82 (impl_maker_keep)
-- NOT PRINTED: function 65 (impl_maker_take)
-- import Mk
-- import WKept
set_option maxHeartbeats 8000000 in
set_option maxRecDepth 100000 in
theorem rd_next (w : World) (g : Nat) (p : S53) (r : List S53) (S : Nat → Prop) (h : IsRd w g (p :: r) S) (hS : S g) :
  Calls Try.prog 66 #[.pointer (some ⟨g, 0, none⟩)] w fun e w' => e = .returned (.agg #[.int .i64 p.f0, .string p.f1, .string p.f2]) ∧ IsRd w' g r S ∧ KeptB w w' (fun k => k = g) := by
 have hu53 := Try.underlying53
 have hu72 := Try.underlying72
 have RD := aM h
 obtain ⟨A, c, hk, hc, hr, hf⟩ := h
 have gw := blk_lt hk
 have KB := aM hk
 have HR := aM hr
 have HC := aM hc
 have HF := aM hf
 have hln : (p :: r).length = r.length + 1 := rfl
 rw [hln] at KB
 have HN := aM (show r.length + 1 ≤ c from hc)
 clear hk hr hc hf hln
 have hHd : hdP (p :: r) = p := rfl
 by_cases hc1 : c = 1
 ·have d1 : (c == 1) = true := beq_iff_eq.mpr hc1
  have d2 : (c = 1) = True := eq_true hc1
  have HC1 := aM hc1
  clear hc1
  go_enter Try.func66, Try.ntmps66
  go_wp2_with (first | ((with_reducible refine gate_dst (N := 2) rfl ?_); refine box_event ?hg (N := 2) ?hd (cs := #[.int .i64 0, .string (⟨#[]⟩ : ByteArray), .string (⟨#[]⟩ : ByteArray)]) (t := 53) ?hr ?_; (case hd => rfl); (case hg => rfl); (case hr => exact aP21); intro gb hgb w1 hbox hb; have RD1 := aM (RD.out.below hb); have KB1 := aM (blk_below KB.out hb); have HB1 := aM hb; have BX := aM hbox; have GB := aM hgb; clear hb hbox hgb) | (go_at_call 64; with_reducible refine (rd_head _ g (p :: r) S RD1.out).mono ?_; rw [hHd]; rintro e w2 ⟨rfl, hb2⟩; have KB2 := aM (blk_below KB1.out hb2); have HB2 := aM hb2; have BX2 := aM (blk_below BX.out hb2); clear hb2) | ((with_reducible refine gate_dst (N := 3) rfl ?_); refine box_event ?hg (N := 3) ?hd (cs := #[.int .i64 0, .string (⟨#[]⟩ : ByteArray), .string (⟨#[]⟩ : ByteArray)]) (t := 53) ?hr ?_; (case hd => rfl); (case hg => rfl); (case hr => exact aP21); intro gc hgc w3 hbox hb; have y := (blk_cell (blk_below KB2.out hb) 0).trans (show _ = some (Value.slice A (r.length + 1) c) from rfl); have yf := blk_frozen (blk_below KB2.out hb) 0; have KB3 := aM (blk_below KB2.out hb); have BX3 := aM (blk_below BX2.out hb); have HB3 := aM hb; have BC := aM hbox; have GC := aM hgc; have a0 := (blk_cell BX3.out 0).trans (show _ = some (Value.int .i64 0) from rfl); have a1 := (blk_cell BX3.out 1).trans (show _ = some (Value.string ⟨#[]⟩) from rfl); have a2 := (blk_cell BX3.out 2).trans (show _ = some (Value.string ⟨#[]⟩) from rfl); have e0 := blk_frozen BX3.out 0; have e1 := blk_frozen BX3.out 1; have e2 := blk_frozen BX3.out 2; have y0 := (blk_cell hbox 0).trans (show _ = some (Value.int .i64 0) from rfl); have y1 := (blk_cell hbox 1).trans (show _ = some (Value.string ⟨#[]⟩) from rfl); have y2 := (blk_cell hbox 2).trans (show _ = some (Value.string ⟨#[]⟩) from rfl); have f0 := blk_frozen hbox 0; have f1 := blk_frozen hbox 1; have f2 := blk_frozen hbox 2; have n1 : gb ≠ g := (by rw [GB.out]; exact Nat.ne_of_gt gw); have n2 : g ≠ gb := (by rw [GB.out]; exact Nat.ne_of_lt gw); have n3 : gc ≠ g := (by rw [hgc]; exact Nat.ne_of_gt (blk_lt KB2.out)); have n4 : g ≠ gc := (by rw [hgc]; exact Nat.ne_of_lt (blk_lt KB2.out)); have n5 : gc ≠ gb := (by rw [hgc]; exact Nat.ne_of_gt (blk_lt BX2.out)); have n6 : gb ≠ gc := (by rw [hgc]; exact Nat.ne_of_lt (blk_lt BX2.out)); clear hb hbox hgc))
  have hgb : w.heap.size ≤ gb := Nat.le_of_eq GB.out.symm
  have z1 := HB1.out.size
  have z2 := HB2.out.size
  have hgc : w.heap.size ≤ gc := by rw [GC.out]; omega
  have k3 : KeptB w w3 (fun k => k = g) := ((KeptB.of_below HB1.out (fun k => k = g)).then_ (KeptB.of_below HB2.out (fun _ => False)) (fun _ q => q.elim)).then_ (KeptB.of_below HB3.out (fun _ => False)) (fun _ q => q.elim)
  have KW := ((((((k3.setCell (p := ⟨gc, 0, none⟩) (.inr hgc) (.int .i64 p.f0)).setCell (p := ⟨gc, 1, none⟩) (.inr hgc) (.string p.f1)).setCell (p := ⟨gc, 2, none⟩) (.inr hgc) (.string p.f2)).setCell (p := ⟨g, 0, none⟩) (.inl rfl) (.slice A r.length (c - 1))).setCell (p := ⟨gb, 0, none⟩) (.inr hgb) (.int .i64 p.f0)).setCell (p := ⟨gb, 1, none⟩) (.inr hgb) (.string p.f1)).setCell (p := ⟨gb, 2, none⟩) (.inr hgb) (.string p.f2)
  have BG := blk_far (blk_far (blk_far (blk_put (cs' := #[.slice A r.length (c - 1)]) (blk_far (blk_far (blk_far KB3.out (p := ⟨gc, 0, none⟩) n4 (.int .i64 p.f0)) (p := ⟨gc, 1, none⟩) n4 (.string p.f1)) (p := ⟨gc, 2, none⟩) n4 (.string p.f2)) 0 (.slice A r.length (c - 1)) rfl) (p := ⟨gb, 0, none⟩) n2 (.int .i64 p.f0)) (p := ⟨gb, 1, none⟩) n2 (.string p.f1)) (p := ⟨gb, 2, none⟩) n2 (.string p.f2)
  have BB := blk_put (cs' := #[.int .i64 p.f0, .string p.f1, .string p.f2]) (blk_put (cs' := #[.int .i64 p.f0, .string p.f1, .string (⟨#[]⟩ : ByteArray)]) (blk_put (cs' := #[.int .i64 p.f0, .string (⟨#[]⟩ : ByteArray), .string (⟨#[]⟩ : ByteArray)]) (blk_far (blk_far (blk_far (blk_far BX3.out (p := ⟨gc, 0, none⟩) n6 (.int .i64 p.f0)) (p := ⟨gc, 1, none⟩) n6 (.string p.f1)) (p := ⟨gc, 2, none⟩) n6 (.string p.f2)) (p := ⟨g, 0, none⟩) n1 (.slice A r.length (c - 1))) 0 (.int .i64 p.f0) rfl) 1 (.string p.f1) rfl) 2 (.string p.f2) rfl
  refine bodyPost_ret (results_cell_row rfl _ _ gb 53 #[.int .i64 p.f0, .string p.f1, .string p.f2] (0, 0) _ rfl BB Try.underlying53 rfl (by kernel_rfl)) rfl ?_
  refine ⟨rfl, ⟨_, _, BG, ?_, ?_, ?_⟩, KW⟩
  ·have := HN.out; omega
  ·have hd := Kd.C_drop (m := 1) (c := c) HR.out (by rw [List.length_cons]; omega) HC.out
   rw [if_pos HC1.out] at hd
   exact Kd.C_foot_neS (S := fun k => k = g) (fun h => h) hd (fun ad e hn hq => HF.out ad e (by rw [List.length_cons]; omega) (hq ▸ hS)) _ KW.kept
  exact fun ad e hn => HF.out ad e (by rw [List.length_cons]; omega)
 have d1 : (c == 1) = false := beq_eq_false_iff_ne.mpr hc1
 have d2 : (c = 1) = False := eq_false hc1
 have HC1 := aM hc1
 clear hc1
 go_enter Try.func66, Try.ntmps66
 go_wp2_with (first | ((with_reducible refine gate_dst (N := 2) rfl ?_); refine box_event ?hg (N := 2) ?hd (cs := #[.int .i64 0, .string (⟨#[]⟩ : ByteArray), .string (⟨#[]⟩ : ByteArray)]) (t := 53) ?hr ?_; (case hd => rfl); (case hg => rfl); (case hr => exact aP21); intro gb hgb w1 hbox hb; have RD1 := aM (RD.out.below hb); have KB1 := aM (blk_below KB.out hb); have HB1 := aM hb; have BX := aM hbox; have GB := aM hgb; clear hb hbox hgb) | (go_at_call 64; with_reducible refine (rd_head _ g (p :: r) S RD1.out).mono ?_; rw [hHd]; rintro e w2 ⟨rfl, hb2⟩; have KB2 := aM (blk_below KB1.out hb2); have HB2 := aM hb2; have BX2 := aM (blk_below BX.out hb2); clear hb2) | ((with_reducible refine gate_dst (N := 3) rfl ?_); refine box_event ?hg (N := 3) ?hd (cs := #[.int .i64 0, .string (⟨#[]⟩ : ByteArray), .string (⟨#[]⟩ : ByteArray)]) (t := 53) ?hr ?_; (case hd => rfl); (case hg => rfl); (case hr => exact aP21); intro gc hgc w3 hbox hb; have y := (blk_cell (blk_below KB2.out hb) 0).trans (show _ = some (Value.slice A (r.length + 1) c) from rfl); have yf := blk_frozen (blk_below KB2.out hb) 0; have KB3 := aM (blk_below KB2.out hb); have BX3 := aM (blk_below BX2.out hb); have HB3 := aM hb; have BC := aM hbox; have GC := aM hgc; have a0 := (blk_cell BX3.out 0).trans (show _ = some (Value.int .i64 0) from rfl); have a1 := (blk_cell BX3.out 1).trans (show _ = some (Value.string ⟨#[]⟩) from rfl); have a2 := (blk_cell BX3.out 2).trans (show _ = some (Value.string ⟨#[]⟩) from rfl); have e0 := blk_frozen BX3.out 0; have e1 := blk_frozen BX3.out 1; have e2 := blk_frozen BX3.out 2; have y0 := (blk_cell hbox 0).trans (show _ = some (Value.int .i64 0) from rfl); have y1 := (blk_cell hbox 1).trans (show _ = some (Value.string ⟨#[]⟩) from rfl); have y2 := (blk_cell hbox 2).trans (show _ = some (Value.string ⟨#[]⟩) from rfl); have f0 := blk_frozen hbox 0; have f1 := blk_frozen hbox 1; have f2 := blk_frozen hbox 2; have n1 : gb ≠ g := (by rw [GB.out]; exact Nat.ne_of_gt gw); have n2 : g ≠ gb := (by rw [GB.out]; exact Nat.ne_of_lt gw); have n3 : gc ≠ g := (by rw [hgc]; exact Nat.ne_of_gt (blk_lt KB2.out)); have n4 : g ≠ gc := (by rw [hgc]; exact Nat.ne_of_lt (blk_lt KB2.out)); have n5 : gc ≠ gb := (by rw [hgc]; exact Nat.ne_of_gt (blk_lt BX2.out)); have n6 : gb ≠ gc := (by rw [hgc]; exact Nat.ne_of_lt (blk_lt BX2.out)); clear hb hbox hgc))
 have hgb : w.heap.size ≤ gb := Nat.le_of_eq GB.out.symm
 have z1 := HB1.out.size
 have z2 := HB2.out.size
 have hgc : w.heap.size ≤ gc := by rw [GC.out]; omega
 have k3 : KeptB w w3 (fun k => k = g) := ((KeptB.of_below HB1.out (fun k => k = g)).then_ (KeptB.of_below HB2.out (fun _ => False)) (fun _ q => q.elim)).then_ (KeptB.of_below HB3.out (fun _ => False)) (fun _ q => q.elim)
 have KW := ((((((k3.setCell (p := ⟨gc, 0, none⟩) (.inr hgc) (.int .i64 p.f0)).setCell (p := ⟨gc, 1, none⟩) (.inr hgc) (.string p.f1)).setCell (p := ⟨gc, 2, none⟩) (.inr hgc) (.string p.f2)).setCell (p := ⟨g, 0, none⟩) (.inl rfl) (.slice (Option.map (fun x => ⟨x.block, x.off + 3, none⟩) A) r.length (c - 1))).setCell (p := ⟨gb, 0, none⟩) (.inr hgb) (.int .i64 p.f0)).setCell (p := ⟨gb, 1, none⟩) (.inr hgb) (.string p.f1)).setCell (p := ⟨gb, 2, none⟩) (.inr hgb) (.string p.f2)
 have BG := blk_far (blk_far (blk_far (blk_put (cs' := #[.slice (Option.map (fun x => ⟨x.block, x.off + 3, none⟩) A) r.length (c - 1)]) (blk_far (blk_far (blk_far KB3.out (p := ⟨gc, 0, none⟩) n4 (.int .i64 p.f0)) (p := ⟨gc, 1, none⟩) n4 (.string p.f1)) (p := ⟨gc, 2, none⟩) n4 (.string p.f2)) 0 (.slice (Option.map (fun x => ⟨x.block, x.off + 3, none⟩) A) r.length (c - 1)) rfl) (p := ⟨gb, 0, none⟩) n2 (.int .i64 p.f0)) (p := ⟨gb, 1, none⟩) n2 (.string p.f1)) (p := ⟨gb, 2, none⟩) n2 (.string p.f2)
 have BB := blk_put (cs' := #[.int .i64 p.f0, .string p.f1, .string p.f2]) (blk_put (cs' := #[.int .i64 p.f0, .string p.f1, .string (⟨#[]⟩ : ByteArray)]) (blk_put (cs' := #[.int .i64 p.f0, .string (⟨#[]⟩ : ByteArray), .string (⟨#[]⟩ : ByteArray)]) (blk_far (blk_far (blk_far (blk_far BX3.out (p := ⟨gc, 0, none⟩) n6 (.int .i64 p.f0)) (p := ⟨gc, 1, none⟩) n6 (.string p.f1)) (p := ⟨gc, 2, none⟩) n6 (.string p.f2)) (p := ⟨g, 0, none⟩) n1 (.slice (Option.map (fun x => ⟨x.block, x.off + 3, none⟩) A) r.length (c - 1))) 0 (.int .i64 p.f0) rfl) 1 (.string p.f1) rfl) 2 (.string p.f2) rfl
 refine bodyPost_ret (results_cell_row rfl _ _ gb 53 #[.int .i64 p.f0, .string p.f1, .string p.f2] (0, 0) _ rfl BB Try.underlying53 rfl (by kernel_rfl)) rfl ?_
 refine ⟨rfl, ⟨_, _, BG, ?_, ?_, ?_⟩, KW⟩
 ·have := HN.out; omega
 ·have hd := Kd.C_drop (m := 1) (c := c) HR.out (by rw [List.length_cons]; omega) HC.out
  rw [if_neg HC1.out] at hd
  exact Kd.C_foot_neS (S := fun k => k = g) (fun h => h) hd (fun ad e hn hq => by
   obtain ⟨a0, ea, eb⟩ := Option.map_eq_some_iff.1 e
   have hb0 : a0.block = ad.block := by subst eb; rfl
   exact HF.out a0 ea (by rw [List.length_cons]; omega) (by rw [hb0, hq]; exact hS)) _ KW.kept
 intro ad e hn
 obtain ⟨a0, ea, eb⟩ := Option.map_eq_some_iff.1 e
 have hb0 : a0.block = ad.block := by subst eb; rfl
 rw [← hb0]
 exact HF.out a0 ea (by rw [List.length_cons]; omega)
def yJ.f (a0_0 : Int) (a0_1 : ByteArray) (a0_2 : ByteArray) : Option (Int) := some (wrap64 ((wrap64 (a0_0 + (a0_1.size : Int))) + (a0_2.size : Int)))
set_option maxHeartbeats 8000000 in
set_option maxRecDepth 100000 in
theorem yJ.calls (a0_0 : Int) (a0_1 : ByteArray) (a0_2 : ByteArray) (r : Int) (w : World) (h : yJ.f a0_0 a0_1 a0_2 = some r) :
  Calls Try.prog 67 #[.agg #[.int .i64 a0_0, .string a0_1, .string a0_2]] w fun e w' => e = .returned (.int .i64 r) ∧ Below w.heap.size w w' := by
 have hu53 := Try.underlying53
 have HB := aM (Below.refl w.heap.size w)
 have H : (some (wrap64 ((wrap64 (a0_0 + (a0_1.size : Int))) + (a0_2.size : Int)))) = some r := h
 clear h
 obtain rfl := Option.some.inj H
 go_enter Try.func67, Try.ntmps67
 go_wp2_with (first | ((with_reducible refine gate_dst (N := 1) rfl ?_); refine box_event ?hg (N := 1) ?hd (cs := #[.int .i64 a0_0, .string a0_1, .string a0_2]) (t := 53) ?hr ?_; (case hd => rfl); (case hg => rfl); (case hr => exact aP21); intro gb179 hg w2 hbox hb; have n0_ := aM (below_step bB hb); have n1_ := aM (hbox); have n2_ := aM ((by rw [hg]; exact (below_size bB) : w.heap.size ≤ gb179)); have n3_ := aM ((by rw [hg]; exact (below_size bB) : w.heap.size ≤ gb179)); clear HB; have HB := n0_; have BK179 := n1_; have GW179 := n2_; have GE179 := n3_; clear n0_ n1_ n2_ n3_; clear hb hbox hg; have hcz3_0 : w2.cell? ⟨gb179, 0, none⟩ = some (.int .i64 a0_0) := (blk_cell BK179.out 0).trans rfl; have hcz3_1 : w2.cell? ⟨gb179, 1, none⟩ = some (.string a0_1) := (blk_cell BK179.out 1).trans rfl; have hcz3_2 : w2.cell? ⟨gb179, 2, none⟩ = some (.string a0_2) := (blk_cell BK179.out 2).trans rfl; have hfz3_0 := blk_frozen BK179.out 0; have hfz3_1 := blk_frozen BK179.out 1; have hfz3_2 := blk_frozen BK179.out 2))
 go_ret
 exact ⟨by first | rfl | (simp [errW_none, errW_some] <;> rfl) | (simp [errW_none, errW_some]; exact isE _) | (simp [*, errW_none, errW_some] <;> rfl), by repeat (first | (with_reducible first | exact HB.out | apply below_alloc | apply pw_below_drewN | apply below_drew1 | refine below_set ?_ GE179.out) | exact HB.out)⟩
end Go.Proofs.Ytlelpomnblaciaa.PFnComposed
