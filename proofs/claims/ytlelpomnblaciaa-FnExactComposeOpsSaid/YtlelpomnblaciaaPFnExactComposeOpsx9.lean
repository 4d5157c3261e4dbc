/- Written by a program of this session (wip/ovl.py) over the kit's print: plain functions with the answers of the Go functions, and the proofs that they are; no condition. -/
import Derived.Test.YtlelpomnblaciaaMk
import Derived.Test.YtlelpomnblaciaaWKept
import Derived.Test.YtlelpomnblaciaaPFnExactComposeOpsx0
import Derived.Test.YtlelpomnblaciaaPFnExactComposeOpsx8
namespace Go.Proofs.Ytlelpomnblaciaa.PFnExactComposeOps
open Go.RowKit Go.Proofs.YtlelpomnblaciaaW.PrintWords Go.Proofs.YtlelpomnblaciaaW.PrintLast Go.Proofs.YtlelpomnblaciaaW.PrintMore
attribute [local go_sem] max2_int min2_int max_two min_two max_three min_three max_four min_four   -- for this text's walks alone
set_option linter.unusedVariables false
set_option linter.unusedSimpArgs false

/-! ### impl_reader_next: function 66 (by hand) -/
-- import Mk
-- import WKept
set_option maxHeartbeats 8000000 in
set_option maxRecDepth 100000 in
theorem rd_next (w : World) (g : Nat) (p : S53) (r : List S53) (S : Nat → Prop) (h : IsRd w g (p :: r) S) (hS : S g) :
    Calls Try.prog 66 #[.pointer (some ⟨g, 0, none⟩)] w fun e w' => e = .returned (.agg #[.int .i64 p.f0, .string p.f1, .string p.f2]) ∧ IsRd w' g r S ∧ KeptB w w' (fun k => k = g) := by
  have hu53 := Try.underlying53
  have hu72 := Try.underlying72
  have RD := Aside0.mk h
  obtain ⟨A, c, hk, hc, hr, hf⟩ := h
  have gw := blk_lt hk
  have KB := Aside0.mk hk
  have HR := Aside0.mk hr
  have HC := Aside0.mk hc
  have HF := Aside0.mk hf
  have hln : (p :: r).length = r.length + 1 := rfl
  rw [hln] at KB
  have HN := Aside0.mk (show r.length + 1 ≤ c from hc)
  clear hk hr hc hf hln
  have hHd : hdP (p :: r) = p := rfl
  by_cases hc1 : c = 1
  · have d1 : (c == 1) = true := beq_iff_eq.mpr hc1
    have d2 : (c = 1) = True := eq_true hc1
    have HC1 := Aside0.mk hc1
    clear hc1
    go_enter Try.func66, Try.ntmps66
    go_wp2_with (first | ((with_reducible refine gate_dst (N := 2) rfl ?_); refine box_event ?hg (N := 2) ?hd (cs := #[.int .i64 0, .string (⟨#[]⟩ : ByteArray), .string (⟨#[]⟩ : ByteArray)]) (t := 53) ?hr ?_; (case hd => rfl); (case hg => rfl); (case hr => first | (go_simp; done) | (go_simp; rfl)); intro gb hgb w1 hbox hb; have RD1 := Aside0.mk (RD.out.below hb); have KB1 := Aside0.mk (blk_below KB.out hb); have HB1 := Aside0.mk hb; have BX := Aside0.mk hbox; have GB := Aside0.mk hgb; clear hb hbox hgb) | (go_at_call 64; with_reducible refine (rd_head _ g (p :: r) S RD1.out).mono ?_; rw [hHd]; rintro e w2 ⟨rfl, hb2⟩; have KB2 := Aside0.mk (blk_below KB1.out hb2); have HB2 := Aside0.mk hb2; have BX2 := Aside0.mk (blk_below BX.out hb2); clear hb2) | ((with_reducible refine gate_dst (N := 3) rfl ?_); refine box_event ?hg (N := 3) ?hd (cs := #[.int .i64 0, .string (⟨#[]⟩ : ByteArray), .string (⟨#[]⟩ : ByteArray)]) (t := 53) ?hr ?_; (case hd => rfl); (case hg => rfl); (case hr => first | (go_simp; done) | (go_simp; rfl)); intro gc hgc w3 hbox hb; have y := (blk_cell (blk_below KB2.out hb) 0).trans (show _ = some (Value.slice A (r.length + 1) c) from rfl); have yf := blk_frozen (blk_below KB2.out hb) 0; have KB3 := Aside0.mk (blk_below KB2.out hb); have BX3 := Aside0.mk (blk_below BX2.out hb); have HB3 := Aside0.mk hb; have BC := Aside0.mk hbox; have GC := Aside0.mk hgc; have a0 := (blk_cell BX3.out 0).trans (show _ = some (Value.int .i64 0) from rfl); have a1 := (blk_cell BX3.out 1).trans (show _ = some (Value.string ⟨#[]⟩) from rfl); have a2 := (blk_cell BX3.out 2).trans (show _ = some (Value.string ⟨#[]⟩) from rfl); have e0 := blk_frozen BX3.out 0; have e1 := blk_frozen BX3.out 1; have e2 := blk_frozen BX3.out 2; have y0 := (blk_cell hbox 0).trans (show _ = some (Value.int .i64 0) from rfl); have y1 := (blk_cell hbox 1).trans (show _ = some (Value.string ⟨#[]⟩) from rfl); have y2 := (blk_cell hbox 2).trans (show _ = some (Value.string ⟨#[]⟩) from rfl); have f0 := blk_frozen hbox 0; have f1 := blk_frozen hbox 1; have f2 := blk_frozen hbox 2; have n1 : gb ≠ g := (by rw [GB.out]; exact Nat.ne_of_gt gw); have n2 : g ≠ gb := (by rw [GB.out]; exact Nat.ne_of_lt gw); have n3 : gc ≠ g := (by rw [hgc]; exact Nat.ne_of_gt (blk_lt KB2.out)); have n4 : g ≠ gc := (by rw [hgc]; exact Nat.ne_of_lt (blk_lt KB2.out)); have n5 : gc ≠ gb := (by rw [hgc]; exact Nat.ne_of_gt (blk_lt BX2.out)); have n6 : gb ≠ gc := (by rw [hgc]; exact Nat.ne_of_lt (blk_lt BX2.out)); clear hb hbox hgc))
    have hgb : w.heap.size ≤ gb := Nat.le_of_eq GB.out.symm
    have z1 := HB1.out.size
    have z2 := HB2.out.size
    have hgc : w.heap.size ≤ gc := by rw [GC.out]; omega
    have k3 : KeptB w w3 (fun k => k = g) := ((KeptB.of_below HB1.out (fun k => k = g)).then_ (KeptB.of_below HB2.out (fun _ => False)) (fun _ q => q.elim)).then_ (KeptB.of_below HB3.out (fun _ => False)) (fun _ q => q.elim)
    have KW := ((((((k3.setCell (p := ⟨gc, 0, none⟩) (.inr hgc) (.int .i64 p.f0)).setCell (p := ⟨gc, 1, none⟩) (.inr hgc) (.string p.f1)).setCell (p := ⟨gc, 2, none⟩) (.inr hgc) (.string p.f2)).setCell (p := ⟨g, 0, none⟩) (.inl rfl) (.slice A r.length (c - 1))).setCell (p := ⟨gb, 0, none⟩) (.inr hgb) (.int .i64 p.f0)).setCell (p := ⟨gb, 1, none⟩) (.inr hgb) (.string p.f1)).setCell (p := ⟨gb, 2, none⟩) (.inr hgb) (.string p.f2)
    have BG := blk_far (blk_far (blk_far (blk_put (cs' := #[.slice A r.length (c - 1)]) (blk_far (blk_far (blk_far KB3.out (p := ⟨gc, 0, none⟩) n4 (.int .i64 p.f0)) (p := ⟨gc, 1, none⟩) n4 (.string p.f1)) (p := ⟨gc, 2, none⟩) n4 (.string p.f2)) 0 (.slice A r.length (c - 1)) rfl) (p := ⟨gb, 0, none⟩) n2 (.int .i64 p.f0)) (p := ⟨gb, 1, none⟩) n2 (.string p.f1)) (p := ⟨gb, 2, none⟩) n2 (.string p.f2)
    have BB := blk_put (cs' := #[.int .i64 p.f0, .string p.f1, .string p.f2]) (blk_put (cs' := #[.int .i64 p.f0, .string p.f1, .string (⟨#[]⟩ : ByteArray)]) (blk_put (cs' := #[.int .i64 p.f0, .string (⟨#[]⟩ : ByteArray), .string (⟨#[]⟩ : ByteArray)]) (blk_far (blk_far (blk_far (blk_far BX3.out (p := ⟨gc, 0, none⟩) n6 (.int .i64 p.f0)) (p := ⟨gc, 1, none⟩) n6 (.string p.f1)) (p := ⟨gc, 2, none⟩) n6 (.string p.f2)) (p := ⟨g, 0, none⟩) n1 (.slice A r.length (c - 1))) 0 (.int .i64 p.f0) rfl) 1 (.string p.f1) rfl) 2 (.string p.f2) rfl
    refine bodyPost_ret (results_cell_row rfl _ _ gb 53 #[.int .i64 p.f0, .string p.f1, .string p.f2] (0, 0) _ rfl BB Try.underlying53 rfl (by kernel_rfl)) rfl ?_
    refine ⟨rfl, ⟨_, _, BG, ?_, ?_, ?_⟩, KW⟩
    · have := HN.out; omega
    · have hd := Kd.C_drop (m := 1) (c := c) HR.out (by rw [List.length_cons]; omega) HC.out
      rw [if_pos HC1.out] at hd
      exact Kd.C_foot_neS (S := fun k => k = g) (fun h => h) hd (fun ad e hn hq => HF.out ad e (by rw [List.length_cons]; omega) (hq ▸ hS)) _ KW.kept
    · exact fun ad e hn => HF.out ad e (by rw [List.length_cons]; omega)
  · have d1 : (c == 1) = false := beq_eq_false_iff_ne.mpr hc1
    have d2 : (c = 1) = False := eq_false hc1
    have HC1 := Aside0.mk hc1
    clear hc1
    go_enter Try.func66, Try.ntmps66
    go_wp2_with (first | ((with_reducible refine gate_dst (N := 2) rfl ?_); refine box_event ?hg (N := 2) ?hd (cs := #[.int .i64 0, .string (⟨#[]⟩ : ByteArray), .string (⟨#[]⟩ : ByteArray)]) (t := 53) ?hr ?_; (case hd => rfl); (case hg => rfl); (case hr => first | (go_simp; done) | (go_simp; rfl)); intro gb hgb w1 hbox hb; have RD1 := Aside0.mk (RD.out.below hb); have KB1 := Aside0.mk (blk_below KB.out hb); have HB1 := Aside0.mk hb; have BX := Aside0.mk hbox; have GB := Aside0.mk hgb; clear hb hbox hgb) | (go_at_call 64; with_reducible refine (rd_head _ g (p :: r) S RD1.out).mono ?_; rw [hHd]; rintro e w2 ⟨rfl, hb2⟩; have KB2 := Aside0.mk (blk_below KB1.out hb2); have HB2 := Aside0.mk hb2; have BX2 := Aside0.mk (blk_below BX.out hb2); clear hb2) | ((with_reducible refine gate_dst (N := 3) rfl ?_); refine box_event ?hg (N := 3) ?hd (cs := #[.int .i64 0, .string (⟨#[]⟩ : ByteArray), .string (⟨#[]⟩ : ByteArray)]) (t := 53) ?hr ?_; (case hd => rfl); (case hg => rfl); (case hr => first | (go_simp; done) | (go_simp; rfl)); intro gc hgc w3 hbox hb; have y := (blk_cell (blk_below KB2.out hb) 0).trans (show _ = some (Value.slice A (r.length + 1) c) from rfl); have yf := blk_frozen (blk_below KB2.out hb) 0; have KB3 := Aside0.mk (blk_below KB2.out hb); have BX3 := Aside0.mk (blk_below BX2.out hb); have HB3 := Aside0.mk hb; have BC := Aside0.mk hbox; have GC := Aside0.mk hgc; have a0 := (blk_cell BX3.out 0).trans (show _ = some (Value.int .i64 0) from rfl); have a1 := (blk_cell BX3.out 1).trans (show _ = some (Value.string ⟨#[]⟩) from rfl); have a2 := (blk_cell BX3.out 2).trans (show _ = some (Value.string ⟨#[]⟩) from rfl); have e0 := blk_frozen BX3.out 0; have e1 := blk_frozen BX3.out 1; have e2 := blk_frozen BX3.out 2; have y0 := (blk_cell hbox 0).trans (show _ = some (Value.int .i64 0) from rfl); have y1 := (blk_cell hbox 1).trans (show _ = some (Value.string ⟨#[]⟩) from rfl); have y2 := (blk_cell hbox 2).trans (show _ = some (Value.string ⟨#[]⟩) from rfl); have f0 := blk_frozen hbox 0; have f1 := blk_frozen hbox 1; have f2 := blk_frozen hbox 2; have n1 : gb ≠ g := (by rw [GB.out]; exact Nat.ne_of_gt gw); have n2 : g ≠ gb := (by rw [GB.out]; exact Nat.ne_of_lt gw); have n3 : gc ≠ g := (by rw [hgc]; exact Nat.ne_of_gt (blk_lt KB2.out)); have n4 : g ≠ gc := (by rw [hgc]; exact Nat.ne_of_lt (blk_lt KB2.out)); have n5 : gc ≠ gb := (by rw [hgc]; exact Nat.ne_of_gt (blk_lt BX2.out)); have n6 : gb ≠ gc := (by rw [hgc]; exact Nat.ne_of_lt (blk_lt BX2.out)); clear hb hbox hgc))
    have hgb : w.heap.size ≤ gb := Nat.le_of_eq GB.out.symm
    have z1 := HB1.out.size
    have z2 := HB2.out.size
    have hgc : w.heap.size ≤ gc := by rw [GC.out]; omega
    have k3 : KeptB w w3 (fun k => k = g) := ((KeptB.of_below HB1.out (fun k => k = g)).then_ (KeptB.of_below HB2.out (fun _ => False)) (fun _ q => q.elim)).then_ (KeptB.of_below HB3.out (fun _ => False)) (fun _ q => q.elim)
    have KW := ((((((k3.setCell (p := ⟨gc, 0, none⟩) (.inr hgc) (.int .i64 p.f0)).setCell (p := ⟨gc, 1, none⟩) (.inr hgc) (.string p.f1)).setCell (p := ⟨gc, 2, none⟩) (.inr hgc) (.string p.f2)).setCell (p := ⟨g, 0, none⟩) (.inl rfl) (.slice (Option.map (fun x => ⟨x.block, x.off + 3, none⟩) A) r.length (c - 1))).setCell (p := ⟨gb, 0, none⟩) (.inr hgb) (.int .i64 p.f0)).setCell (p := ⟨gb, 1, none⟩) (.inr hgb) (.string p.f1)).setCell (p := ⟨gb, 2, none⟩) (.inr hgb) (.string p.f2)
    have BG := blk_far (blk_far (blk_far (blk_put (cs' := #[.slice (Option.map (fun x => ⟨x.block, x.off + 3, none⟩) A) r.length (c - 1)]) (blk_far (blk_far (blk_far KB3.out (p := ⟨gc, 0, none⟩) n4 (.int .i64 p.f0)) (p := ⟨gc, 1, none⟩) n4 (.string p.f1)) (p := ⟨gc, 2, none⟩) n4 (.string p.f2)) 0 (.slice (Option.map (fun x => ⟨x.block, x.off + 3, none⟩) A) r.length (c - 1)) rfl) (p := ⟨gb, 0, none⟩) n2 (.int .i64 p.f0)) (p := ⟨gb, 1, none⟩) n2 (.string p.f1)) (p := ⟨gb, 2, none⟩) n2 (.string p.f2)
    have BB := blk_put (cs' := #[.int .i64 p.f0, .string p.f1, .string p.f2]) (blk_put (cs' := #[.int .i64 p.f0, .string p.f1, .string (⟨#[]⟩ : ByteArray)]) (blk_put (cs' := #[.int .i64 p.f0, .string (⟨#[]⟩ : ByteArray), .string (⟨#[]⟩ : ByteArray)]) (blk_far (blk_far (blk_far (blk_far BX3.out (p := ⟨gc, 0, none⟩) n6 (.int .i64 p.f0)) (p := ⟨gc, 1, none⟩) n6 (.string p.f1)) (p := ⟨gc, 2, none⟩) n6 (.string p.f2)) (p := ⟨g, 0, none⟩) n1 (.slice (Option.map (fun x => ⟨x.block, x.off + 3, none⟩) A) r.length (c - 1))) 0 (.int .i64 p.f0) rfl) 1 (.string p.f1) rfl) 2 (.string p.f2) rfl
    refine bodyPost_ret (results_cell_row rfl _ _ gb 53 #[.int .i64 p.f0, .string p.f1, .string p.f2] (0, 0) _ rfl BB Try.underlying53 rfl (by kernel_rfl)) rfl ?_
    refine ⟨rfl, ⟨_, _, BG, ?_, ?_, ?_⟩, KW⟩
    · have := HN.out; omega
    · have hd := Kd.C_drop (m := 1) (c := c) HR.out (by rw [List.length_cons]; omega) HC.out
      rw [if_neg HC1.out] at hd
      exact Kd.C_foot_neS (S := fun k => k = g) (fun h => h) hd (fun ad e hn hq => by
        obtain ⟨a0, ea, eb⟩ := Option.map_eq_some_iff.1 e
        have hb0 : a0.block = ad.block := by subst eb; rfl
        exact HF.out a0 ea (by rw [List.length_cons]; omega) (by rw [hb0, hq]; exact hS)) _ KW.kept
    · intro ad e hn
      obtain ⟨a0, ea, eb⟩ := Option.map_eq_some_iff.1 e
      have hb0 : a0.block = ad.block := by subst eb; rfl
      rw [← hb0]
      exact HF.out a0 ea (by rw [List.length_cons]; omega)

/-! ### impl_Part_size: function 67 -/
def impl_Part_size.f (a0_0 : Int) (a0_1 : ByteArray) (a0_2 : ByteArray) : Option (Int) := some (wrap64 ((wrap64 (a0_0 + (a0_1.size : Int))) + (a0_2.size : Int)))
set_option maxHeartbeats 8000000 in
set_option maxRecDepth 100000 in
theorem impl_Part_size.calls (a0_0 : Int) (a0_1 : ByteArray) (a0_2 : ByteArray) (r : Int) (w : World) (h : impl_Part_size.f a0_0 a0_1 a0_2 = some r) :
    Calls Try.prog 67 #[.agg #[.int .i64 a0_0, .string a0_1, .string a0_2]] w fun e w' => e = .returned (.int .i64 r) ∧ Below w.heap.size w w' := by
  have hu53 := Try.underlying53
  have HB := Aside0.mk (Below.refl w.heap.size w)
  have H : (some (wrap64 ((wrap64 (a0_0 + (a0_1.size : Int))) + (a0_2.size : Int)))) = some r := h
  clear h
  obtain rfl := Option.some.inj H
  go_enter Try.func67, Try.ntmps67
  go_wp2_with (first | ((with_reducible refine gate_dst (N := 1) rfl ?_); refine box_event ?hg (N := 1) ?hd (cs := #[.int .i64 a0_0, .string a0_1, .string a0_2]) (t := 53) ?hr ?_; (case hd => rfl); (case hg => rfl); (case hr => first | (go_simp; done) | (go_simp; rfl)); intro gb202 hg w2 hbox hb; have n0_ := Aside0.mk (below_step (by repeat (first | (with_reducible first | exact HB.out | apply below_alloc | apply pw_below_drewN | apply below_drew1) | exact HB.out)) hb); have n1_ := Aside0.mk (hbox); have n2_ := Aside0.mk ((by rw [hg]; exact (below_size (by repeat (first | (with_reducible first | exact HB.out | apply below_alloc | apply pw_below_drewN | apply below_drew1) | exact HB.out))) : w.heap.size ≤ gb202)); have n3_ := Aside0.mk ((by rw [hg]; exact (below_size (by repeat (first | (with_reducible first | exact HB.out | apply below_alloc | apply pw_below_drewN | apply below_drew1) | exact HB.out))) : w.heap.size ≤ gb202)); clear HB; have HB := n0_; have BK202 := n1_; have GW202 := n2_; have GE202 := n3_; clear n0_ n1_ n2_ n3_; clear hb hbox hg; have hcz3_0 : w2.cell? ⟨gb202, 0, none⟩ = some (.int .i64 a0_0) := (blk_cell BK202.out 0).trans rfl; have hcz3_1 : w2.cell? ⟨gb202, 1, none⟩ = some (.string a0_1) := (blk_cell BK202.out 1).trans rfl; have hcz3_2 : w2.cell? ⟨gb202, 2, none⟩ = some (.string a0_2) := (blk_cell BK202.out 2).trans rfl; have hfz3_0 := blk_frozen BK202.out 0; have hfz3_1 := blk_frozen BK202.out 1; have hfz3_2 := blk_frozen BK202.out 2))
  go_ret
  exact ⟨by first | rfl | (simp [errW_none, errW_some] <;> rfl) | (simp [errW_none, errW_some]; exact (show ∀ l_ : List UInt8, l_.isEmpty = !(l_ != []) from fun l_ => by cases l_ <;> rfl) _) | (simp [*, errW_none, errW_some] <;> rfl), by repeat (first | (with_reducible first | exact HB.out | apply below_alloc | apply pw_below_drewN | apply below_drew1 | refine below_set ?_ GE202.out) | exact HB.out)⟩

end Go.Proofs.Ytlelpomnblaciaa.PFnExactComposeOps
