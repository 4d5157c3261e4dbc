/- FnInverted over plain functions: a drawn change that is turned round takes back what it did, and turned round twice it is itself, normal; no condition. -/
import Derived.Test.YtlelpomnblaciaaPFnInvertedx10
import Derived.Test.YtlelpomnblaciaaBase
import Derived.Test.YtlelpomnblaciaaMk
namespace Go.Proofs.Ytlelpomnblaciaa.Pure
open Go.RowKit Go.Proofs.Ytlelpomnblaciaa.PFnInverted Go.Proofs.YtlelpomnblaciaaW.PrintWords Go.Proofs.YtlelpomnblaciaaW.PrintLast Go.Proofs.Ytlelpomnblaciaa.Base Go.Proofs.Ytlelpomnblaciaa.Mk
set_option linter.unusedVariables false
set_option linter.unusedSimpArgs false

theorem and255 (E : Int) (h0 : 0 ≤ E) (h1 : E ≤ 18446744073709551615) : 0 ≤ Go.bits .and .u64 E 255 ∧ Go.bits .and .u64 E 255 ≤ 255 := by
  have h := Go.bits_and_u64_nat E.toNat 255 (by omega) (by omega)
  rw [Int.toNat_of_nonneg h0] at h
  have h2 : E.toNat &&& 255 ≤ 255 := Nat.and_le_right
  have h3 : Go.bits .and .u64 E 255 = ((E.toNat &&& 255 : Nat) : Int) := h
  rw [h3]; omega
theorem and255q (x : Int) : 0 ≤ wrap64 (Go.bits .and .u64 (Go.IntKind.u64.wrap x / 1099511627776) 255) ∧ wrap64 (Go.bits .and .u64 (Go.IntKind.u64.wrap x / 1099511627776) 255) ≤ 255 := by
  have hw := Go.IntKind.wrap_u64 x
  obtain ⟨a, b⟩ := and255 (Go.IntKind.u64.wrap x / 1099511627776) (by rw [hw]; omega) (by rw [hw]; omega)
  rw [wrap_id (by omega) (by omega)]; exact ⟨a, b⟩
/-- Bytes as they come in. -/
def Code (s : List Int) : Prop := (∀ x ∈ s, 0 ≤ x ∧ x ≤ 255) ∧ s.length ≤ 1000000000000
theorem next_f {s : List Int} (hs : Code s) (at_ seed : Int) (h0 : 0 ≤ at_) (h1 : at_ ≤ 1000000000000) : ∃ x seed', spec_l1Cur_next.f s at_ seed = some (x, at_ + 1, seed') ∧ 0 ≤ x ∧ x ≤ 255 := by
  unfold spec_l1Cur_next.f
  rw [wrap_id (x := at_ + 1) (by omega) (by omega)]
  by_cases c : at_ < (s.length : Int)
  · rw [if_pos c, if_pos h0]
    have hx : 0 ≤ rd s at_ ∧ rd s at_ ≤ 255 := by
      obtain ⟨n, rfl⟩ := Int.eq_ofNat_of_zero_le h0
      exact hs.1 _ (gt_mem 0 s n (by omega))
    have e : wrap64 (rd s at_) = rd s at_ := wrap_id (by omega) (by omega)
    by_cases c2 : at_ + 1 ≤ (s.length : Int)
    · rw [if_pos c2]; exact ⟨_, _, rfl, by rw [e]; exact hx.1, by rw [e]; exact hx.2⟩
    · rw [if_neg c2]; exact ⟨_, _, rfl, and255q _⟩
  · rw [if_neg c]
    by_cases c2 : at_ + 1 ≤ (s.length : Int)
    · rw [if_pos c2]; exact ⟨_, _, rfl, Int.le_refl _, by decide⟩
    · rw [if_neg c2]; exact ⟨_, _, rfl, and255q _⟩
theorem wrap_pred (n : Nat) (h : n ≤ 4611686018427387904) : wrap64 (((n + 1 : Nat) : Int) - 1) = (n : Int) := by rw [wrap_id (by omega) (by omega)]; omega
theorem tmod_in {x n : Int} (hx : 0 ≤ x) (hn : 0 < n) : 0 ≤ Int.tmod x n ∧ Int.tmod x n < n := by
  rw [Int.tmod_eq_emod_of_nonneg hx]
  exact ⟨Int.emod_nonneg _ (by omega), Int.emod_lt_of_pos _ hn⟩
theorem pick_f {s : List Int} (hs : Code s) (at_ seed n : Int) (h0 : 0 ≤ at_) (h1 : at_ ≤ 100000000000) : ∃ r at' seed', spec_l1Cur_pick.f s at_ seed n = some (r, at', seed') ∧ 0 ≤ r ∧ (1 ≤ n → r < n) ∧ at_ ≤ at' ∧ at' ≤ at_ + 2 := by
  unfold spec_l1Cur_pick.f
  by_cases c : n ≤ 1
  · rw [if_pos c]; exact ⟨_, _, _, rfl, Int.le_refl _, fun h => by omega, Int.le_refl _, by omega⟩
  · rw [if_neg c]
    obtain ⟨x, s1, e1, x0, x1⟩ := next_f hs at_ seed h0 (by omega)
    rw [e1]
    simp only [Option.bind_some]
    by_cases c2 : n > 200
    · rw [if_pos c2]
      obtain ⟨y, s2, e2, y0, y1⟩ := next_f hs (at_ + 1) s1 (by omega) (by omega)
      rw [e2]
      simp only [Option.bind_some]
      rw [if_neg (by omega)]
      have e3 : wrap64 (wrap64 (x * 256) + y) = x * 256 + y := by rw [wrap_id (x := x * 256) (by omega) (by omega), wrap_id (by omega) (by omega)]
      rw [e3]
      obtain ⟨t1, t2⟩ := tmod_in (x := x * 256 + y) (n := n) (by omega) (by omega)
      exact ⟨_, _, _, rfl, t1, fun _ => t2, by omega, by omega⟩
    · rw [if_neg c2, if_neg (by omega)]
      obtain ⟨t1, t2⟩ := tmod_in (x := x) (n := n) x0 (by omega)
      exact ⟨_, _, _, rfl, t1, fun _ => t2, by omega, by omega⟩
theorem one_f {s : List Int} (hs : Code s) (at_ seed n : Int) (h0 : 0 ≤ at_) (h1 : at_ ≤ 100000000000) : ∃ b at' seed', spec_l1Cur_one.f s at_ seed n = some (b, at', seed') ∧ at_ ≤ at' ∧ at' ≤ at_ + 2 := by
  unfold spec_l1Cur_one.f
  obtain ⟨r, a, z, e, _, _, h2, h3⟩ := pick_f hs at_ seed n h0 h1
  rw [e]
  exact ⟨_, _, _, rfl, h2, h3⟩
theorem of_f {s : List Int} (hs : Code s) (at_ seed : Int) (l : List ByteArray) (h0 : 0 ≤ at_) (h1 : at_ ≤ 100000000000) (hl : 1 ≤ l.length) (hl2 : l.length ≤ 1000) (m : Nat) (hm : ∀ x ∈ l, x.size ≤ m) : ∃ r at' seed', spec_l1Cur_of.f s at_ seed l = some (r, at', seed') ∧ r.size ≤ m ∧ at_ ≤ at' ∧ at' ≤ at_ + 2 := by
  unfold spec_l1Cur_of.f
  obtain ⟨r, a, z, e, r0, r1, h2, h3⟩ := pick_f hs at_ seed (l.length : Int) h0 h1
  rw [e]
  simp only [Option.bind_some]
  have := r1 (by omega)
  rw [if_pos r0, if_pos this]
  refine ⟨_, _, _, rfl, ?_, h2, h3⟩
  obtain ⟨n, rfl⟩ := Int.eq_ofNat_of_zero_le r0
  exact hm _ (gt_mem ByteArray.empty l n (by omega))
/-- A run of so many parts, so deep: it ends, and is not too long. -/
def InnerOk (s : List Int) (d C S : Nat) : Prop := ∀ (n : Nat) (x7 : ByteArray) (at_ seed : Int), n ≤ 60 → 0 ≤ at_ → at_ + ((n * C : Nat) : Int) ≤ 1000000000 → x7.size + n * S ≤ 1000000000 →
  ∃ (r : ByteArray) (at' seed' : Int), Ev (fun k => spec_l1Cur_inner.l0 k (n : Int) (d : Int) x7 s at_ seed) (r, at', seed') ∧ at_ ≤ at' ∧ at' ≤ at_ + ((n * C : Nat) : Int) ∧ r.size ≤ x7.size + n * S
theorem ba_len (a b : ByteArray) : (a ++ b).size = a.size + b.size := ByteArray.size_append
theorem inner_step {s : List Int} (hs : Code s) (d C S : Nat) (hd : d ≤ 10) (hC : 4 ≤ C ∧ C ≤ 1000) (hS : 3 ≤ S ∧ S ≤ 1000) (hin : d = 0 ∨ ∃ e c z, d = e + 1 ∧ InnerOk s e c z ∧ 6 + 3 * c ≤ C ∧ 2 + 3 * z ≤ S) : InnerOk s d C S := by
  intro n
  induction n with
  | zero =>
    intro x7 at_ seed hn h0 h1 h2
    refine ⟨x7, at_, seed, ?_, Int.le_refl _, by omega, by omega⟩
    refine Ev.step (fun k => by rw [spec_l1Cur_inner.l0]) ?_
    exact ev_neg (by omega) (ev_ret rfl)
  | succ n ih =>
    intro x7 at_ seed hn h0 h1 h2
    have m1 : (n + 1) * C = n * C + C := Nat.succ_mul n C
    have m2 : (n + 1) * S = n * S + S := Nat.succ_mul n S
    generalize (n + 1) * C = CC at m1 h1 ⊢
    generalize (n + 1) * S = SS at m2 h2 ⊢
    generalize n * C = cc at m1 ih
    generalize n * S = ss at m2 ih
    -- a part without elements
    have flat : ∀ (a z : Int), 0 ≤ a → a ≤ at_ + 2 → at_ ≤ a → ∃ (r : ByteArray) (at' seed' : Int), Ev (fun k => spec_l1Cur_inner.j1 k ((n + 1 : Nat) : Int) (d : Int) x7 false s a z) (r, at', seed') ∧ at_ ≤ at' ∧ at' ≤ at_ + (CC : Int) ∧ r.size ≤ x7.size + SS := fun a z a0 a1 a2 => by
      obtain ⟨t, a', z', e, ht, b1, b2⟩ := of_f hs a z [(⟨#[97]⟩ : ByteArray), (⟨#[98]⟩ : ByteArray), (⟨#[97, 98]⟩ : ByteArray), (⟨#[120]⟩ : ByteArray), (⟨#[32]⟩ : ByteArray), (⟨#[111, 110, 101]⟩ : ByteArray), (⟨#[49]⟩ : ByteArray), (⟨#[122, 46]⟩ : ByteArray)] (by omega) (by omega) (by simp) (by simp) 3 (by
        intro x hx
        simp only [List.mem_cons, List.not_mem_nil, or_false] at hx
        rcases hx with rfl | rfl | rfl | rfl | rfl | rfl | rfl | rfl <;> decide)
      obtain ⟨r, at', seed', q1, q2, q3, q4⟩ := ih (x7 ++ t) a' z' (by omega) (by omega) (by omega) (by rw [ba_len]; omega)
      rw [ba_len] at q4
      refine ⟨r, at', seed', ?_, by omega, by omega, by omega⟩
      refine Ev.step (fun k => by rw [spec_l1Cur_inner.j1]) ?_
      refine ev_neg (by simp) (ev_eq e (ev_pos (by dsimp only; omega) ?_))
      rw [wrap_pred n (by omega)]; exact q1
    rcases hin with rfl | ⟨e, c, z, rfl, hok, hc, hz⟩
    · obtain ⟨r, at', seed', q1, q2, q3, q4⟩ := flat at_ seed h0 (by omega) (Int.le_refl _)
      refine ⟨r, at', seed', ?_, q2, q3, q4⟩
      refine Ev.step (fun k => by rw [spec_l1Cur_inner.l0]) ?_
      exact ev_pos (by omega) (ev_neg (by omega) q1)
    · obtain ⟨b, a, z1, e1, b1, b2⟩ := one_f hs at_ seed 3 h0 (by omega)
      have hstart : ∀ r, Ev (fun k => spec_l1Cur_inner.j1 k ((n + 1 : Nat) : Int) ((e + 1 : Nat) : Int) x7 b s a z1) r → Ev (fun k => spec_l1Cur_inner.l0 k ((n + 1 : Nat) : Int) ((e + 1 : Nat) : Int) x7 s at_ seed) r := fun r h => by
        refine Ev.step (fun k => by rw [spec_l1Cur_inner.l0]) ?_
        exact ev_pos (by omega) (ev_pos (by omega) (ev_eq e1 h))
      cases b with
      | false =>
        obtain ⟨r, at', seed', q1, q2, q3, q4⟩ := flat a z1 (by omega) b2 b1
        exact ⟨r, at', seed', hstart _ q1, q2, q3, q4⟩
      | true =>
        obtain ⟨p, a2, z2, e2, p0, p1, b3, b4⟩ := pick_f hs a z1 4 (by omega) (by omega)
        obtain ⟨m, a3, z3, e3, m0, m1', b5, b6⟩ := pick_f hs a2 z2 4 (by omega) (by omega)
        have m3 := m1' (by omega)
        obtain ⟨mn, rfl⟩ := Int.eq_ofNat_of_zero_le m0
        have c1 : mn * c ≤ 3 * c := Nat.mul_le_mul_right c (by omega)
        have c2 : mn * z ≤ 3 * z := Nat.mul_le_mul_right z (by omega)
        obtain ⟨t, a4, z4, t1, t2, t3, t4⟩ := hok mn (⟨#[]⟩ : ByteArray) a3 z3 (by omega) (by omega) (by omega) (by show 0 + mn * z ≤ _; omega)
        have t4' : t.size ≤ mn * z := by have : (⟨#[]⟩ : ByteArray).size = 0 := rfl; omega
        have hsz : ∀ y : List Int, y.length = 1 → (Go.strOfNums y).size = 1 := fun y hy => by rw [Go.strOfNums_size, hy]
        have hs1 : (Go.strOfNums [(wrap64 (65 + p)) % 256]).size = 1 := hsz _ rfl
        have hs2 : (⟨#[47]⟩ : ByteArray).size = 1 := rfl
        have hs3 : ((Go.strOfNums [(wrap64 (65 + p)) % 256] ++ t) ++ (⟨#[47]⟩ : ByteArray)).size = 2 + t.size := by rw [ba_len, ba_len, hs1, hs2]; omega
        obtain ⟨r, at', seed', q1, q2, q3, q4⟩ := ih (x7 ++ ((Go.strOfNums [(wrap64 (65 + p)) % 256] ++ t) ++ (⟨#[47]⟩ : ByteArray))) a4 z4 (by omega) (by omega) (by omega) (by rw [ba_len, hs3]; omega)
        rw [ba_len, hs3] at q4
        refine ⟨r, at', seed', hstart _ ?_, by omega, by omega, by omega⟩
        refine Ev.step (fun k => by rw [spec_l1Cur_inner.j1]) ?_
        rw [wrap_pred e (by omega), wrap_pred n (by omega)]
        refine ev_pos rfl (ev_eq e2 (ev_eq rfl (ev_eq e3 (Ev.bind (a := (t, a4, z4)) ?_ (ev_pos (by rw [hs1]; simp only; omega) (ev_pos (by rw [ba_len, hs1]; simp only; omega) (ev_pos (by rw [hs3]; omega) q1)))))))
        refine Ev.step (fun k => by rw [spec_l1Cur_inner.f]) ?_
        exact t1
theorem inner_ok3 {s : List Int} (hs : Code s) : InnerOk s 3 186 107 :=
  inner_step hs 3 186 107 (by omega) (by omega) (by omega) (.inr ⟨2, 60, 35, rfl, inner_step hs 2 60 35 (by omega) (by omega) (by omega) (.inr ⟨1, 18, 11, rfl, inner_step hs 1 18 11 (by omega) (by omega) (by omega) (.inr ⟨0, 4, 3, rfl, inner_step hs 0 4 3 (by omega) (by omega) (by omega) (.inl rfl), by omega, by omega⟩), by omega, by omega⟩), by omega, by omega⟩)
theorem inner_f {s : List Int} (hs : Code s) (n : Nat) (hn : n ≤ 60) (at_ seed : Int) (h0 : 0 ≤ at_) (h1 : at_ ≤ 100000000) : ∃ (r : ByteArray) (at' seed' : Int), Ev (fun k => spec_l1Cur_inner.f k s at_ seed (n : Int) 3) (r, at', seed') ∧ at_ ≤ at' ∧ at' ≤ at_ + 20000 ∧ r.size ≤ 10000 := by
  obtain ⟨r, a, z, q1, q2, q3, q4⟩ := inner_ok3 hs n (⟨#[]⟩ : ByteArray) at_ seed hn h0 (by omega) (by show 0 + n * 107 ≤ _; omega)
  have e0 : (⟨#[]⟩ : ByteArray).size = 0 := rfl
  refine ⟨r, a, z, ?_, q2, by omega, by omega⟩
  refine Ev.step (fun k => by rw [spec_l1Cur_inner.f]) ?_
  exact q1
theorem extract_size (x : ByteArray) (a b : Nat) (h : b ≤ x.size) : (x.extract a b).size = b - a := by rw [ByteArray.size_extract]; omega
set_option maxHeartbeats 4000000 in
theorem spoilt_l {s : List Int} (hs : Code s) (w : ByteArray) (hw : 1 ≤ w.size ∧ w.size ≤ 100) : ∀ (n : Nat) (x : ByteArray) (at_ seed : Int), n ≤ 3 → 0 ≤ at_ → at_ + 6 * (n : Int) ≤ 60000000000 → x.size + n ≤ 1000000 →
    ∃ (r : ByteArray) (at' seed' : Int), Ev (fun k => spec_l1Cur_spoilt.l0 k x w (n : Int) s at_ seed) (r, at', seed') ∧ at_ ≤ at' ∧ at' ≤ at_ + 6 * (n : Int) ∧ r.size ≤ x.size + n
  | 0, x, at_, seed, hn, h0, h1, hx => by
    refine ⟨x, at_, seed, ?_, Int.le_refl _, by omega, by omega⟩
    refine Ev.step (fun k => by rw [spec_l1Cur_spoilt.l0]) ?_
    refine ev_neg (by omega) ?_
    refine Ev.step (fun k => by rw [spec_l1Cur_spoilt.j1]) ?_
    exact ev_neg (by simp) (ev_ret rfl)
  | n + 1, x, at_, seed, hn, h0, h1, hx => by
    have hstart : ∀ r, Ev (fun k => spec_l1Cur_spoilt.j1 k x w ((n + 1 : Nat) : Int) (decide ((x.size : Int) > 0)) s at_ seed) r → Ev (fun k => spec_l1Cur_spoilt.l0 k x w ((n + 1 : Nat) : Int) s at_ seed) r := fun r h => by
      refine Ev.step (fun k => by rw [spec_l1Cur_spoilt.l0]) ?_
      exact ev_pos (by omega) h
    by_cases hx0 : (x.size : Int) > 0
    · rw [decide_eq_true hx0] at hstart
      obtain ⟨i, a1, z1, e1, i0, i1, b1, b2⟩ := pick_f hs at_ seed (x.size : Int) h0 (by omega)
      obtain ⟨j, a2, z2, e2, j0, j1, b3, b4⟩ := pick_f hs a1 z1 (w.size : Int) (by omega) (by omega)
      obtain ⟨c, a3, z3, e3, c0, c1, b5, b6⟩ := pick_f hs a2 z2 3 (by omega) (by omega)
      have i2 := i1 (by omega)
      have j2 := j1 (by omega)
      have hone : (Go.strOfNums [bt w j]).size = 1 := by rw [Go.strOfNums_size]; rfl
      obtain ⟨im, rfl⟩ := Int.eq_ofNat_of_zero_le i0
      have s1 := extract_size x 0 im (by omega)
      have s2 := extract_size x im x.size (Nat.le_refl _)
      have s3 := extract_size x (im + 1) x.size (Nat.le_refl _)
      by_cases h3 : c = 0
      · obtain ⟨r, at', seed', q1, q2, q3, q4⟩ := spoilt_l hs w hw n (((x.extract 0 im) ++ (Go.strOfNums [bt w j])) ++ (x.extract im x.size)) a3 z3 (by omega) (by omega) (by omega) (by rw [ba_len, ba_len, hone]; omega)
        rw [ba_len, ba_len, hone] at q4
        refine ⟨r, at', seed', hstart _ ?_, by omega, by omega, by omega⟩
        refine Ev.step (fun k => by rw [spec_l1Cur_spoilt.j1]) ?_
        refine ev_pos rfl (ev_eq e1 (ev_eq e2 (ev_pos j0 (ev_pos j2 (ev_eq rfl (ev_eq e3 ?_))))))
        dsimp only
        rw [wrap_succ im (by omega), wrap_pred n (by omega), Int.toNat_natCast, Int.toNat_natCast]
        exact ev_pos h3 (ev_pos (by omega) (ev_pos (by omega) (ev_pos (by omega) (ev_pos (by rw [ba_len]; omega) q1))))
      · by_cases h4 : c = 1
        · obtain ⟨r, at', seed', q1, q2, q3, q4⟩ := spoilt_l hs w hw n (((x.extract 0 im) ++ (Go.strOfNums [bt w j])) ++ (x.extract (im + 1) x.size)) a3 z3 (by omega) (by omega) (by omega) (by rw [ba_len, ba_len, hone]; omega)
          rw [ba_len, ba_len, hone] at q4
          refine ⟨r, at', seed', hstart _ ?_, by omega, by omega, by omega⟩
          refine Ev.step (fun k => by rw [spec_l1Cur_spoilt.j1]) ?_
          refine ev_pos rfl (ev_eq e1 (ev_eq e2 (ev_pos j0 (ev_pos j2 (ev_eq rfl (ev_eq e3 ?_))))))
          dsimp only
          rw [wrap_succ im (by omega), wrap_pred n (by omega), Int.toNat_natCast, Int.toNat_natCast]
          exact ev_neg h3 (ev_pos h4 (ev_pos (by omega) (ev_pos (by omega) (ev_pos (by omega) (ev_pos (by omega) (ev_pos (by omega) (ev_pos (by rw [ba_len]; omega) q1)))))))
        · obtain ⟨r, at', seed', q1, q2, q3, q4⟩ := spoilt_l hs w hw n ((x.extract 0 im) ++ (x.extract (im + 1) x.size)) a3 z3 (by omega) (by omega) (by omega) (by rw [ba_len]; omega)
          rw [ba_len] at q4
          refine ⟨r, at', seed', hstart _ ?_, by omega, by omega, by omega⟩
          refine Ev.step (fun k => by rw [spec_l1Cur_spoilt.j1]) ?_
          refine ev_pos rfl (ev_eq e1 (ev_eq e2 (ev_pos j0 (ev_pos j2 (ev_eq rfl (ev_eq e3 ?_))))))
          dsimp only
          rw [wrap_succ im (by omega), wrap_pred n (by omega), Int.toNat_natCast, Int.toNat_natCast]
          exact ev_neg h3 (ev_neg h4 (ev_pos (by omega) (ev_pos (by omega) (ev_pos (by omega) (ev_pos (by omega) (ev_pos (by omega) q1))))))
    · rw [decide_eq_false hx0] at hstart
      refine ⟨x, at_, seed, hstart _ ?_, Int.le_refl _, by omega, by omega⟩
      refine Ev.step (fun k => by rw [spec_l1Cur_spoilt.j1]) ?_
      exact ev_neg (by simp) (ev_ret rfl)
theorem spoilt_f {s : List Int} (hs : Code s) (x w : ByteArray) (hw : 1 ≤ w.size ∧ w.size ≤ 100) (hx : x.size ≤ 900000) (at_ seed : Int) (h0 : 0 ≤ at_) (h1 : at_ ≤ 59000000000) : ∃ (r : ByteArray) (at' seed' : Int), Ev (fun k => spec_l1Cur_spoilt.f k s at_ seed x w) (r, at', seed') ∧ at_ ≤ at' ∧ at' ≤ at_ + 20 ∧ r.size ≤ x.size + 3 := by
  obtain ⟨m, a, z, e, m0, m1, b1, b2⟩ := pick_f hs at_ seed 3 h0 (by omega)
  have m2 := m1 (by omega)
  obtain ⟨mn, rfl⟩ := Int.eq_ofNat_of_zero_le m0
  obtain ⟨r, at', seed', q1, q2, q3, q4⟩ := spoilt_l hs w hw mn x a z (by omega) (by omega) (by omega) (by omega)
  refine ⟨r, at', seed', ?_, by omega, by omega, by omega⟩
  unfold spec_l1Cur_spoilt.f
  exact ev_eq e q1
theorem doc_f {s : List Int} (hs : Code s) (at_ seed : Int) (h0 : 0 ≤ at_) (h1 : at_ ≤ 10000000) : ∃ (r : ByteArray) (at' seed' : Int), Ev (fun k => spec_l1Cur_doc.f k s at_ seed) (r, at', seed') ∧ at_ ≤ at' ∧ at' ≤ at_ + 50000 ∧ r.size ≤ 20000 := by
  have last : ∀ (x : ByteArray) (a z : Int), 0 ≤ a → a ≤ 20000000 → x.size ≤ 10000 → ∃ (r : ByteArray) (at' seed' : Int), Ev (fun k => spec_l1Cur_doc.j0 k x s a z) (r, at', seed') ∧ a ≤ at' ∧ at' ≤ a + 30 ∧ r.size ≤ 20000 := fun x a z a0 a1 hx => by
    obtain ⟨b, a2, z2, e2, b1, b2⟩ := one_f hs a z 12 a0 (by omega)
    cases b with
    | true =>
      obtain ⟨r, at', seed', q1, q2, q3, q4⟩ := spoilt_f hs x (⟨#[65, 47, 97, 90]⟩ : ByteArray) (by decide) (by omega) a2 z2 (by omega) (by omega)
      refine ⟨r, at', seed', ?_, by omega, by omega, by omega⟩
      refine Ev.step (fun k => by rw [spec_l1Cur_doc.j0]) ?_
      exact ev_eq e2 (ev_pos rfl (Ev.bind q1 (ev_ret rfl)))
    | false =>
      refine ⟨x, a2, z2, ?_, by omega, by omega, by omega⟩
      refine Ev.step (fun k => by rw [spec_l1Cur_doc.j0]) ?_
      exact ev_eq e2 (ev_neg (by simp) (ev_ret rfl))
  obtain ⟨m, a1, z1, e1, m0, m1, b1, b2⟩ := pick_f hs at_ seed 7 h0 (by omega)
  have m2 := m1 (by omega)
  obtain ⟨mn, rfl⟩ := Int.eq_ofNat_of_zero_le m0
  obtain ⟨x, a2, z2, q1, q2, q3, q4⟩ := inner_f hs mn (by omega) a1 z1 (by omega) (by omega)
  obtain ⟨c, a3, z3, e3, c0, c1, b3, b4⟩ := pick_f hs a2 z2 30 (by omega) (by omega)
  unfold spec_l1Cur_doc.f
  by_cases h3 : c = 0
  · obtain ⟨y, a4, z4, p1, p2, p3, p4⟩ := inner_f hs 60 (Nat.le_refl _) a3 z3 (by omega) (by omega)
    obtain ⟨r, at', seed', r1, r2, r3, r4⟩ := last y a4 z4 (by omega) (by omega) (by omega)
    exact ⟨r, at', seed', ev_eq e1 (Ev.bind q1 (ev_eq e3 (ev_pos h3 (Ev.bind p1 r1)))), by omega, by omega, r4⟩
  · by_cases h4 : c = 1
    · obtain ⟨y, a4, z4, e4, p4, p2, p3⟩ := of_f hs a3 z3 [(⟨#[65, 65, 65, 65, 65, 65, 65, 65, 65, 65, 65, 65, 47, 47, 47, 47, 47, 47, 47, 47, 47, 47, 47, 47]⟩ : ByteArray), (⟨#[65, 65, 65, 65, 65, 65, 65, 65, 65, 65, 65, 65, 65, 47, 47, 47, 47, 47, 47, 47, 47, 47, 47, 47, 47, 47]⟩ : ByteArray)] (by omega) (by omega) (by simp) (by simp) 30 (by
        intro x hx
        simp only [List.mem_cons, List.not_mem_nil, or_false] at hx
        rcases hx with rfl | rfl <;> decide)
      obtain ⟨r, at', seed', r1, r2, r3, r4⟩ := last y a4 z4 (by omega) (by omega) (by omega)
      exact ⟨r, at', seed', ev_eq e1 (Ev.bind q1 (ev_eq e3 (ev_neg h3 (ev_pos h4 (ev_eq e4 r1))))), by omega, by omega, r4⟩
    · obtain ⟨r, at', seed', r1, r2, r3, r4⟩ := last x a3 z3 (by omega) (by omega) (by omega)
      exact ⟨r, at', seed', ev_eq e1 (Ev.bind q1 (ev_eq e3 (ev_neg h3 (ev_neg h4 r1)))), by omega, by omega, r4⟩

/-! ### the numbers drawn behind the code: they don't stay in one quarter -/
def stp (z : Int) : Int := (z * 6364136223846793005 + 1442695040888963407) % 18446744073709551616
def stp3 (z : Int) : Int := stp (stp (stp z))
def tI : Nat → Int → Int
  | 0, z => z
  | n + 1, z => tI n (stp3 z)
theorem tI_add : ∀ (m n : Nat) (z : Int), tI (m + n) z = tI n (tI m z)
  | 0, n, z => by rw [Nat.zero_add]; rfl
  | m + 1, n, z => by rw [Nat.add_right_comm]; exact tI_add m n (stp3 z)
theorem tI_succ (n : Nat) (z : Int) : tI (n + 1) z = stp3 (tI n z) := by rw [tI_add n 1 z]; rfl
/-- So many steps, as one. -/
def Jump (n : Nat) (p : Int × Int) : Prop := ∀ z, tI n z % 4398046511104 = (p.1 * z + p.2) % 4398046511104
def dbl : Nat → Int × Int
  | 0 => (1610380290293, 146808144153)
  | k + 1 => let p := dbl k; (p.1 * p.1 % 4398046511104, (p.1 * p.2 + p.2) % 4398046511104)
theorem jump_dbl (n : Nat) (p : Int × Int) (h : Jump n p) : Jump (n + n) (p.1 * p.1 % 4398046511104, (p.1 * p.2 + p.2) % 4398046511104) := by
  intro z
  rw [tI_add, h]
  have h1 := h z
  have e1 : (p.1 * tI n z + p.2) % 4398046511104 = (p.1 * (p.1 * z + p.2) + p.2) % 4398046511104 := by
    rw [Int.add_emod, Int.mul_emod, h1, ← Int.mul_emod, ← Int.add_emod]
  rw [e1]
  have e2 : p.1 * (p.1 * z + p.2) + p.2 = p.1 * p.1 * z + (p.1 * p.2 + p.2) := by rw [Int.mul_add, Int.mul_assoc, Int.add_assoc]
  rw [e2]
  show _ = ((p.1 * p.1 % 4398046511104) * z + (p.1 * p.2 + p.2) % 4398046511104) % 4398046511104
  rw [← Int.add_emod_emod]
  have e3 : (p.1 * p.1 * z) % 4398046511104 = (p.1 * p.1 % 4398046511104 * z) % 4398046511104 := by rw [Int.mul_emod (p.1 * p.1) z, Int.mul_emod (p.1 * p.1 % 4398046511104) z, Int.emod_emod_of_dvd (p.1 * p.1) (Int.dvd_refl 4398046511104)]
  rw [Int.add_emod, e3, ← Int.add_emod]
theorem jump_one : Jump 1 (dbl 0) := by
  intro z
  show stp3 z % 4398046511104 = (1610380290293 * z + 146808144153) % 4398046511104
  unfold stp3 stp; omega
theorem jump_all : ∀ k : Nat, Jump (2 ^ k) (dbl k)
  | 0 => jump_one
  | k + 1 => by
    have := jump_dbl _ _ (jump_all k)
    rw [← Nat.two_mul, Nat.mul_comm, ← Nat.pow_succ] at this
    exact this
theorem jump19 (z : Int) : tI 524288 z % 4398046511104 = (1304887820289 * z + 2957227065344) % 4398046511104 := by
  have h := jump_all 19 z
  have e : dbl 19 = (1304887820289, 2957227065344) := by decide +kernel
  rw [e] at h; exact h
theorem jump20 (z : Int) : tI 1048576 z % 4398046511104 = (2609775640577 * z + 2615919247360) % 4398046511104 := by
  have h := jump_all 20 z
  have e : dbl 20 = (2609775640577, 2615919247360) := by decide +kernel
  rw [e] at h; exact h
def Qr (w : Int) : Prop := w / 1099511627776 % 4 = 1
theorem qr_pair (w v : Int) (h : v % 4398046511104 = (2609775640577 * w + 2615919247360) % 4398046511104) (h1 : Qr w) (h2 : Qr v) :
    (2488876 * w + 2494735) % 4194304 < 1048576 ∨ (2488876 * w + 2494735) % 4194304 > 3145728 := by
  unfold Qr at h1 h2
  have e1 : 2609775640577 * w + 2615919247360 = w + 1048576 * (2488876 * w + 2494735) := by omega
  rw [e1] at h
  generalize 2488876 * w + 2494735 = E at h ⊢
  have e2 : (w + 1048576 * E) % 4398046511104 = (w + 1048576 * (E % 4194304)) % 4398046511104 := by omega
  rw [e2] at h
  have e3 : 0 ≤ E % 4194304 ∧ E % 4194304 < 4194304 := by omega
  clear e1 e2
  generalize E % 4194304 = e at h e3 ⊢
  omega
theorem qr_shift (w v : Int) (h : v % 4398046511104 = (1304887820289 * w + 2957227065344) % 4398046511104) :
    (2488876 * v + 2494735) % 4194304 = ((2488876 * w + 2494735) % 4194304 + 2097152) % 4194304 := by
  omega
/-- Behind so many steps one has left the quarter. -/
theorem qr_leaves (w : Int) (h : ∀ i, i ≤ 1572864 → Qr (tI i w)) : False := by
  have a1 := qr_pair w (tI 1048576 w) (jump20 w) (h 0 (by omega)) (h 1048576 (by omega))
  have e : tI 1572864 w = tI 1048576 (tI 524288 w) := by rw [← tI_add]
  have a2 := qr_pair (tI 524288 w) (tI 1572864 w) (by rw [e]; exact jump20 _) (h 524288 (by omega)) (h 1572864 (by omega))
  have a3 := qr_shift w (tI 524288 w) (jump19 w)
  rw [a3] at a2
  have e3 : 0 ≤ (2488876 * w + 2494735) % 4194304 ∧ (2488876 * w + 2494735) % 4194304 < 4194304 := by omega
  clear a3
  generalize (2488876 * w + 2494735) % 4194304 = x at a1 a2 e3
  omega

abbrev IP := S53
def izP : IP := z53
theorem rd_ip (l : List IP) (i : Nat) : rd_T53 l (i : Int) = gt izP l i := rfl
theorem toList_nil (s : ByteArray) : s.toList = ([] : List UInt8) ↔ s.size = 0 := by
  rw [← List.length_eq_zero_iff]
  have := data_length s
  rw [ByteArray.toList_eq, this]

theorem spec_l1In_f (a b c : Int) : spec_l1In.f a b c = some (decide (b ≤ a ∧ a ≤ c)) := by
  unfold spec_l1In.f; split <;> simp <;> omega

theorem spec_l1Open_f (c : Int) : spec_l1Open.f c = some (openB c) := by
  unfold spec_l1Open.f openB; split <;> simp <;> omega
theorem spec_l1Plain_f (c : Int) : spec_l1Plain.f c = some (plainB c) := by
  unfold spec_l1Plain.f plainB
  repeat' split
  all_goals (rw [Option.some.injEq, Bool.eq_iff_iff]; simp only [Bool.or_eq_true, decide_eq_true_eq, beq_iff_eq, true_iff]; omega)
theorem spec_l1Text_l (s : ByteArray) (hs : s.size ≤ 140737488351232) (d : Nat) : ∀ i : Nat, i + d = s.size → Ev (fun k => spec_l1Text.l0 k s (i : Int)) (textB ((bytesOf s).drop i)) := by
  induction d with
  | zero =>
    intro i hi
    refine Ev.step (fun k => by rw [spec_l1Text.l0]) ?_
    refine ev_neg (by omega) (ev_ret ?_)
    rw [drop_end s i (by omega)]; rfl
  | succ d ih =>
    intro i hi
    refine Ev.step (fun k => by rw [spec_l1Text.l0]) ?_
    refine ev_pos (by omega) (ev_pos (by omega) (ev_eq (spec_l1Open_f _) ?_))
    rw [drop_bytes s i (by omega), wrap_succ i (by omega)]
    have ih' := ih (i + 1) (by omega)
    refine ev_if (fun h => ev_val ih' (by simp [textB, okB, h])) (fun h => ?_)
    refine ev_eq (spec_l1Plain_f _) (ev_if (fun h2 => ev_val ih' (by simp [textB, okB, h2])) (fun h2 => ?_))
    refine ev_if (fun h3 => ev_val ih' (by simp [textB, okB, h3])) (fun h3 => ev_ret ?_)
    simp [textB, okB, h, h2, h3]
theorem spec_l1Text_f (s : ByteArray) (hs : s.size ≤ 140737488351232) : Ev (fun k => spec_l1Text.f k s) (textB (bytesOf s)) :=
  spec_l1Text_l s hs s.size 0 (by omega)
theorem spec_GoodText_f (s : ByteArray) (hs : s.size ≤ 140737488351232) : Ev (fun k => spec_GoodText.f k s) (goodB (bytesOf s)) := by
  unfold spec_GoodText.f goodB
  refine Ev.bind (spec_l1Text_f s hs) (ev_if (fun h => ev_ret ?_) (fun h => ev_ret ?_))
  · rw [h, bytesOf_length, Bool.true_and]; congr 1; simp; omega
  · simp at h; simp [h]
theorem impl_isName_f (c : Int) : impl_isName.f c = some (openB c) := by
  unfold impl_isName.f openB; split <;> simp <;> omega
theorem impl_isPlain_f (c : Int) : impl_isPlain.f c = some (plainB c) := by
  unfold impl_isPlain.f plainB
  repeat' split
  all_goals (rw [Option.some.injEq, Bool.eq_iff_iff]; simp only [Bool.or_eq_true, decide_eq_true_eq, beq_iff_eq, true_iff]; omega)
theorem impl_GoodText_l (s : ByteArray) (hs : s.size ≤ 140737488351232) (d : Nat) : ∀ i : Nat, i + d = s.size → Ev (fun k => impl_GoodText.l0 k s (s.size : Int) (i : Int)) (textB ((bytesOf s).drop i) && decide (s.size ≤ 300)) := by
  induction d with
  | zero =>
    intro i hi
    refine Ev.step (fun k => by rw [impl_GoodText.l0]) ?_
    refine ev_neg (by omega) (ev_ret ?_)
    rw [drop_end s i (by omega)]; simp [textB]; omega
  | succ d ih =>
    intro i hi
    refine Ev.step (fun k => by rw [impl_GoodText.l0]) ?_
    refine ev_pos (by omega) (ev_pos (by omega) (ev_pos (by omega) (ev_eq (impl_isName_f _) ?_)))
    rw [drop_bytes s i (by omega), wrap_succ i (by omega)]
    have ih' := ih (i + 1) (by omega)
    refine ev_if (fun h => ev_val ih' (by simp [textB, okB, h])) (fun h => ?_)
    refine ev_eq (impl_isPlain_f _) (ev_if (fun h2 => ev_val ih' (by simp [textB, okB, h2])) (fun h2 => ?_))
    refine ev_if (fun h3 => ev_val ih' (by simp [textB, okB, h3])) (fun h3 => ev_ret ?_)
    simp [textB, okB, h, h2, h3]
theorem impl_GoodText_f (s : ByteArray) (hs : s.size ≤ 140737488351232) : Ev (fun k => impl_GoodText.f k s) (goodB (bytesOf s)) := by
  unfold impl_GoodText.f
  refine ev_val (impl_GoodText_l s hs s.size 0 (by omega)) ?_
  simp [goodB, bytesOf_length]

def partB (p : IP) : Bool := if p.f0 = 0 then (if p.f1.toList = ([] : List UInt8) then (if p.f2.toList = ([] : List UInt8) then false else goodB (bytesOf p.f2)) else (if p.f2.toList = ([] : List UInt8) then goodB (bytesOf p.f1) else false)) else (decide (1 ≤ p.f0 ∧ p.f0 ≤ 300) && (decide (p.f1.toList = ([] : List UInt8)) && (p.f2.toList == ([] : List UInt8))))
theorem spec_l3Part_f (p : IP) (h1 : p.f1.size ≤ 140737488351232) (h2 : p.f2.size ≤ 140737488351232) : Ev (fun k => spec_l3Part.f k p.f0 p.f1 p.f2) (partB p) := by
  unfold spec_l3Part.f partB
  by_cases c0 : p.f0 = 0
  · rw [if_pos c0]
    refine ev_pos c0 ?_
    by_cases c1 : p.f1.toList = ([] : List UInt8)
    · rw [if_pos c1]
      refine ev_pos c1 ?_
      by_cases c2 : p.f2.toList = ([] : List UInt8)
      · rw [if_pos c2]; exact ev_pos c2 (ev_ret rfl)
      · rw [if_neg c2]; exact ev_neg c2 (Ev.bind (spec_GoodText_f _ h2) (ev_ret rfl))
    · rw [if_neg c1]
      refine ev_neg c1 ?_
      by_cases c2 : p.f2.toList = ([] : List UInt8)
      · rw [if_pos c2]; exact ev_pos c2 (Ev.bind (spec_GoodText_f _ h1) (ev_ret rfl))
      · rw [if_neg c2]; exact ev_neg c2 (ev_ret rfl)
  · rw [if_neg c0]
    refine ev_neg c0 (ev_eq (spec_l1In_f _ _ _) ?_)
    refine ev_if (fun h => ?_) (fun h => ev_ret (by rw [Bool.not_eq_true] at h; rw [h]; rfl))
    rw [h, Bool.true_and]
    exact ev_if (fun h1 => ev_ret (by rw [decide_eq_true h1, Bool.true_and])) (fun h1 => ev_ret (by rw [decide_eq_false h1]; rfl))
theorem impl_Part_isPart_f (p : IP) (h1 : p.f1.size ≤ 140737488351232) (h2 : p.f2.size ≤ 140737488351232) : Ev (fun k => impl_Part_isPart.f k p.f0 p.f1 p.f2) (partB p) := by
  unfold impl_Part_isPart.f partB
  by_cases c0 : p.f0 = 0
  · rw [if_pos c0]
    refine ev_pos c0 ?_
    by_cases c1 : p.f1.toList = ([] : List UInt8)
    · rw [if_pos c1]
      refine ev_pos c1 ?_
      by_cases c2 : p.f2.toList = ([] : List UInt8)
      · rw [if_pos c2]; exact ev_pos c2 (ev_ret rfl)
      · rw [if_neg c2]; exact ev_neg c2 (Ev.bind (impl_GoodText_f _ h2) (ev_ret rfl))
    · rw [if_neg c1]
      refine ev_neg c1 ?_
      by_cases c2 : p.f2.toList = ([] : List UInt8)
      · rw [if_pos c2]; exact ev_pos c2 (Ev.bind (impl_GoodText_f _ h1) (ev_ret rfl))
      · rw [if_neg c2]; exact ev_neg c2 (ev_ret rfl)
  · rw [if_neg c0]
    refine ev_neg c0 ?_
    refine ev_if (fun h => ?_) (fun h => ev_ret (by rw [decide_eq_false (by omega)]; rfl))
    refine ev_if (fun h' => ?_) (fun h' => ev_ret (by rw [decide_eq_false (by omega)]; rfl))
    rw [decide_eq_true (show 1 ≤ p.f0 ∧ p.f0 ≤ 300 from ⟨h, h'⟩), Bool.true_and]
    exact ev_if (fun h1 => ev_ret (by rw [decide_eq_true h1, Bool.true_and])) (fun h1 => ev_ret (by rw [decide_eq_false h1]; rfl))
def tkS : List IP → Int → Int
  | [], a => a
  | p :: r, a => tkS r (wrap64 (a + wrap64 (p.f0 + (p.f2.size : Int))))
def mkS : List IP → Int → Int
  | [], a => a
  | p :: r, a => mkS r (wrap64 (a + wrap64 (p.f0 + (p.f1.size : Int))))
theorem spec_l3Sizes_l (l : List IP) (hl : l.length ≤ 1048576) (d : Nat) : ∀ (i : Nat) (a b : Int), i + d = l.length →
    Ev (fun k => spec_l3Sizes.l0 k a b l (l.length : Int) (i : Int)) (tkS (l.drop i) a, mkS (l.drop i) b) := by
  induction d with
  | zero =>
    intro i a b hi
    refine Ev.step (fun k => by rw [spec_l3Sizes.l0]) ?_
    refine ev_neg (by omega) (ev_ret ?_)
    rw [List.drop_eq_nil_of_le (by omega)]; rfl
  | succ d ih =>
    intro i a b hi
    refine Ev.step (fun k => by rw [spec_l3Sizes.l0]) ?_
    refine ev_pos (by omega) (ev_pos (by omega) (ev_pos (by omega) ?_))
    rw [gt_drop izP l i (by omega), wrap_succ i (by omega)]
    exact ih (i + 1) _ _ (by omega)
theorem spec_l3Sizes_f (l : List IP) (hl : l.length ≤ 1048576) : Ev (fun k => spec_l3Sizes.f k l) (tkS l 0, mkS l 0) := by
  unfold spec_l3Sizes.f
  exact spec_l3Sizes_l l hl l.length 0 0 0 (by omega)
theorem impl_sizes_l (l : List IP) (hl : l.length ≤ 1048576) (d : Nat) : ∀ (i : Nat) (a b : Int), i + d = l.length →
    Ev (fun k => impl_sizes.l0 k a b l (l.length : Int) (i : Int)) (tkS (l.drop i) a, mkS (l.drop i) b) := by
  induction d with
  | zero =>
    intro i a b hi
    refine Ev.step (fun k => by rw [impl_sizes.l0]) ?_
    refine ev_neg (by omega) (ev_ret ?_)
    rw [List.drop_eq_nil_of_le (by omega)]; rfl
  | succ d ih =>
    intro i a b hi
    refine Ev.step (fun k => by rw [impl_sizes.l0]) ?_
    refine ev_pos (by omega) (ev_pos (by omega) (ev_pos (by omega) ?_))
    rw [gt_drop izP l i (by omega), wrap_succ i (by omega)]
    exact ih (i + 1) _ _ (by omega)
theorem impl_sizes_f (l : List IP) (hl : l.length ≤ 1048576) : Ev (fun k => impl_sizes.f k l) (tkS l 0, mkS l 0) := by
  unfold impl_sizes.f
  exact impl_sizes_l l hl l.length 0 0 0 (by omega)
def goodO (l : List IP) : Bool := decide (l.length ≤ 60) && (l.all partB && decide (tkS l 0 ≤ 300 ∧ mkS l 0 ≤ 300))
theorem goodO_len {l : List IP} (h : ¬ l.length ≤ 60) : goodO l = false := by unfold goodO; rw [decide_eq_false h]; rfl
theorem goodO_part {l : List IP} {p : IP} (hp : p ∈ l) (h : partB p = false) : goodO l = false := by
  unfold goodO
  have : l.all partB = false := by
    rw [Bool.eq_false_iff]; intro e
    rw [List.all_eq_true] at e
    rw [e p hp] at h; cases h
  rw [this]; simp
theorem spec_GoodOp_l (l : List IP) (hl : l.length ≤ 60) (hw : ∀ x ∈ l, x.f1.size ≤ 1048576 ∧ x.f2.size ≤ 1048576) (d : Nat) : ∀ i : Nat, i + d = l.length →
    (l.take i).all partB = true → Ev (fun k => spec_GoodOp.l0 k l l (l.length : Int) (i : Int)) (goodO l) := by
  induction d with
  | zero =>
    intro i hi hg
    refine Ev.step (fun k => by rw [spec_GoodOp.l0]) ?_
    rw [List.take_of_length_le (by omega)] at hg
    have e : goodO l = decide (tkS l 0 ≤ 300 ∧ mkS l 0 ≤ 300) := by unfold goodO; rw [hg, decide_eq_true hl]; rfl
    rw [e]
    refine ev_neg (by omega) (Ev.bind (spec_l3Sizes_f l (by omega)) ?_)
    exact ev_if (fun h => ev_ret (decide_eq_decide.2 (by constructor <;> intro q; exact ⟨h, q⟩; exact q.2))) (fun h => ev_ret (by rw [decide_eq_false (fun q => h q.1)]))
  | succ d ih =>
    intro i hi hg
    have hm := hw _ (gt_mem izP l i (by omega))
    refine Ev.step (fun k => by rw [spec_GoodOp.l0]) ?_
    refine ev_pos (by omega) (ev_pos (by omega) (ev_pos (by omega) ?_))
    rw [wrap_succ i (by omega)]
    simp only [rd_ip]
    refine Ev.bind (spec_l3Part_f _ (by omega) (by omega)) (ev_if (fun h => ?_) (fun h => ev_ret (goodO_part (gt_mem izP l i (by omega)) (by simpa using h)).symm))
    refine ih (i + 1) (by omega) ?_
    rw [gt_take izP l i (by omega), List.all_append, hg]
    simp [h]
theorem spec_GoodOp_f (l : List IP) (hw : ∀ x ∈ l, x.f1.size ≤ 1048576 ∧ x.f2.size ≤ 1048576) : Ev (fun k => spec_GoodOp.f k l) (goodO l) := by
  unfold spec_GoodOp.f
  refine ev_if (fun h => ev_ret (goodO_len (by omega)).symm) (fun h => ?_)
  exact spec_GoodOp_l l (by omega) hw l.length 0 (by omega) rfl
theorem idxBad_f (l : List IP) (hw : ∀ x ∈ l, x.f1.size ≤ 1048576 ∧ x.f2.size ≤ 1048576) : ∀ n : Int, 0 ≤ n → ∃ v : Int, Ev (fun k => idxBad k l n) v ∧ (v ≥ 0 ↔ l.all partB = false) := by
  induction l with
  | nil => exact fun n _ => ⟨-1, by unfold idxBad; exact ev_ret rfl, by simp⟩
  | cons p r ih =>
    intro n hn
    have hm := hw p (List.mem_cons_self ..)
    obtain ⟨v, hv, hb⟩ := ih (fun x hx => hw x (List.mem_cons_of_mem _ hx)) (n + 1) (by omega)
    have hp : Ev (fun k => impl_GoodOp_1.f k p.f0 p.f1 p.f2) (!(partB p)) := by unfold impl_GoodOp_1.f; exact Ev.bind (impl_Part_isPart_f p (by omega) (by omega)) (ev_ret rfl)
    by_cases c : partB p = true
    · refine ⟨v, ?_, by rw [hb, List.all_cons, c, Bool.true_and]⟩
      unfold idxBad
      refine Ev.bind hp (ev_neg (by rw [c]; simp) hv)
    · rw [Bool.not_eq_true] at c
      refine ⟨n, ?_, by rw [List.all_cons, c]; simp; omega⟩
      unfold idxBad
      exact Ev.bind hp (ev_pos (by rw [c]; rfl) (ev_ret rfl))
theorem impl_GoodOp_f (l : List IP) (hw : ∀ x ∈ l, x.f1.size ≤ 1048576 ∧ x.f2.size ≤ 1048576) : Ev (fun k => impl_GoodOp.f k l) (goodO l) := by
  unfold impl_GoodOp.f
  refine ev_if (fun h => ev_ret (goodO_len (by omega)).symm) (fun h => ?_)
  obtain ⟨v, hv, hb⟩ := idxBad_f l hw 0 (by omega)
  refine Ev.bind hv (ev_if (fun c => ev_ret ?_) (fun c => Ev.bind (impl_sizes_f l (by omega)) ?_))
  · unfold goodO; rw [hb.1 c]; simp
  · have hg : l.all partB = true := by
      by_cases q : l.all partB = true
      · exact q
      · exact absurd (hb.2 (by simpa using q)) c
    have e : goodO l = decide (tkS l 0 ≤ 300 ∧ mkS l 0 ≤ 300) := by unfold goodO; rw [hg, decide_eq_true (by omega : l.length ≤ 60)]; rfl
    rw [e]
    exact ev_if (fun h => ev_ret (decide_eq_decide.2 (by constructor <;> intro q; exact ⟨h, q⟩; exact q.2))) (fun h => ev_ret (by rw [decide_eq_false (fun q => h q.1)]))

theorem goodB_size' {s : ByteArray} (h : goodB (bytesOf s) = true) : s.size ≤ 300 := by
  unfold goodB at h
  rw [Bool.and_eq_true, bytesOf_length] at h
  exact of_decide_eq_true h.2
theorem part_facts {p : IP} (h : partB p = true) : 0 ≤ p.f0 ∧ p.f0 ≤ 300 ∧ p.f1.size ≤ 300 ∧ p.f2.size ≤ 300 ∧ (p.f0 = 0 ∨ p.f2.size = 0) := by
  unfold partB at h
  by_cases c0 : p.f0 = 0
  · rw [if_pos c0] at h
    by_cases c1 : p.f1.toList = ([] : List UInt8)
    · rw [if_pos c1] at h
      rw [toList_nil] at c1
      by_cases c2 : p.f2.toList = ([] : List UInt8)
      · rw [if_pos c2] at h; cases h
      · rw [if_neg c2] at h
        have := goodB_size' h
        exact ⟨by omega, by omega, by omega, by omega, Or.inl c0⟩
    · rw [if_neg c1] at h
      by_cases c2 : p.f2.toList = ([] : List UInt8)
      · rw [if_pos c2] at h
        rw [toList_nil] at c2
        have := goodB_size' h
        exact ⟨by omega, by omega, by omega, by omega, Or.inl c0⟩
      · rw [if_neg c2] at h; cases h
  · rw [if_neg c0, Bool.and_eq_true, Bool.and_eq_true] at h
    obtain ⟨a, b, c⟩ := h
    have a := of_decide_eq_true a
    have b := (toList_nil _).1 (of_decide_eq_true b)
    have c := (toList_nil _).1 (by simpa using c)
    exact ⟨by omega, by omega, by omega, by omega, Or.inr c⟩
theorem goodO_facts {l : List IP} (h : goodO l = true) : l.length ≤ 60 ∧ (∀ p ∈ l, partB p = true) ∧ tkS l 0 ≤ 300 ∧ mkS l 0 ≤ 300 := by
  unfold goodO at h
  rw [Bool.and_eq_true, Bool.and_eq_true, List.all_eq_true] at h
  have a := of_decide_eq_true h.1
  have b := of_decide_eq_true h.2.2
  exact ⟨a, h.2.1, b.1, b.2⟩

theorem next_end {s : List Int} (at_ seed : Int) (h0 : (s.length : Int) ≤ at_) (h1 : at_ ≤ 1000000000000) : spec_l1Cur_next.f s at_ seed = some (stp seed / 1099511627776 % 256, at_ + 1, stp seed) := by
  unfold spec_l1Cur_next.f
  have e1 : IntKind.u64.wrap ((IntKind.u64.wrap ((IntKind.u64.wrap (seed * 6364136223846793005)) + 0)) + 1442695040888963407) = stp seed := by
    rw [Go.IntKind.wrap_u64, Go.IntKind.wrap_u64, Go.IntKind.wrap_u64]; unfold stp; omega
  have hs : 0 ≤ stp seed ∧ stp seed < 18446744073709551616 := by unfold stp; omega
  rw [wrap_id (x := at_ + 1) (by omega) (by omega), if_neg (by omega), if_neg (by omega), e1]
  have e2 : Go.bits .and .u64 (stp seed / 1099511627776) 255 = stp seed / 1099511627776 % 256 := by
    have h := Go.bits_and_u64_nat (stp seed / 1099511627776).toNat 255 (by omega) (by omega)
    rw [Int.toNat_of_nonneg (by omega)] at h
    have h2 : (stp seed / 1099511627776).toNat &&& 255 = (stp seed / 1099511627776).toNat % 256 := Nat.and_two_pow_sub_one_eq_mod _ 8
    have h3 : Go.bits .and .u64 (stp seed / 1099511627776) 255 = (((stp seed / 1099511627776).toNat &&& 255 : Nat) : Int) := h
    rw [h3, h2]; omega
  rw [e2, wrap_id (by omega) (by omega)]
theorem pick_end {s : List Int} (at_ seed n : Int) (h0 : (s.length : Int) ≤ at_) (h1 : at_ ≤ 1000000000000) (hn : 1 < n) (hn2 : n ≤ 200) : spec_l1Cur_pick.f s at_ seed n = some (stp seed / 1099511627776 % 256 % n, at_ + 1, stp seed) := by
  unfold spec_l1Cur_pick.f
  rw [if_neg (by omega), next_end at_ seed h0 h1]
  simp only [Option.bind_some]
  rw [if_neg (by omega), if_neg (by omega), Int.tmod_eq_emod_of_nonneg (by omega)]
theorem of_end {s : List Int} (at_ seed : Int) (l : List ByteArray) (h0 : (s.length : Int) ≤ at_) (h1 : at_ ≤ 1000000000000) (hl : 1 < l.length) (hl2 : l.length ≤ 200) : ∃ x, spec_l1Cur_of.f s at_ seed l = some (x, at_ + 1, stp seed) := by
  unfold spec_l1Cur_of.f
  rw [pick_end at_ seed (l.length : Int) h0 h1 (by omega) (by omega)]
  simp only [Option.bind_some]
  have a : 0 ≤ stp seed / 1099511627776 % 256 % (l.length : Int) := Int.emod_nonneg _ (by omega)
  have b : stp seed / 1099511627776 % 256 % (l.length : Int) < (l.length : Int) := Int.emod_lt_of_pos _ (by omega)
  rw [if_pos a, if_pos b]
  exact ⟨_, rfl⟩
def SmP (x : IP) : Prop := x.f1.size ≤ 1048576 ∧ x.f2.size ≤ 1048576
theorem all_one {l : List IP} {p : IP} (h : ∀ x ∈ l, SmP x) (hp : SmP p) : ∀ x ∈ l ++ [p], SmP x := fun x hx => by
  rcases List.mem_append.1 hx with q | q
  · exact h x q
  · rw [List.mem_singleton.1 q]; exact hp
def putNames : List ByteArray := [(⟨#[120]⟩ : ByteArray), (⟨#[121, 121]⟩ : ByteArray), (⟨#[65, 47]⟩ : ByteArray), (⟨#[110, 101, 119]⟩ : ByteArray), (⟨#[66]⟩ : ByteArray)]
/-- One round of a drawn change. -/
theorem opstep {s : List Int} (hs : Code s) (x1 : ByteArray) (h1 : x1.size ≤ 1000000) (x5 : List IP) (hl : x5.length ≤ 1000000000000) (p : Nat) (hp : p < x1.size) (at_ seed : Int) (h0 : 0 ≤ at_) (ha : at_ ≤ 90000000000) :
    ∃ (at' seed' : Int) (q : IP) (p' : Nat), at_ < at' ∧ at' ≤ at_ + 6 ∧ p' ≤ x1.size ∧ SmP q ∧ (p < p' ∨ (p' = p ∧ ((s.length : Int) ≤ at_ → Qr (stp (stp seed)) ∧ seed' = stp3 seed))) ∧
      ∀ r, Ev (fun k => spec_l1Cur_opOn.l0 k x1 (x5 ++ [q]) (p' : Int) s at' seed') r → Ev (fun k => spec_l1Cur_opOn.l0 k x1 x5 (p : Int) s at_ seed) r := by
  obtain ⟨n, a1, z1, e1, n0, n1, b1, b2⟩ := pick_f hs at_ seed 5 h0 (by omega)
  have n2 := n1 (by omega)
  have b1' : at_ < a1 := by
    by_cases q : at_ < (s.length : Int)
    · obtain ⟨x, z, e, _⟩ := next_f hs at_ seed h0 (by omega)
      unfold spec_l1Cur_pick.f at e1
      rw [if_neg (by omega), e] at e1
      simp only [Option.bind_some] at e1
      rw [if_neg (by omega), if_neg (by omega)] at e1
      injection e1 with e1; injection e1 with _ e1; injection e1 with e1 _; omega
    · rw [pick_end at_ seed 5 (by omega) (by omega) (by omega) (by omega)] at e1
      injection e1 with e1; injection e1 with _ e1; injection e1 with e1 _; omega
  obtain ⟨c, a2, z2, e2, c0, c1, b3, b4⟩ := pick_f hs a1 z1 4 (by omega) (by omega)
  -- how many bytes
  obtain ⟨t, ht1, ht2, ht3, hst⟩ : ∃ t : Nat, 1 ≤ t ∧ p + t ≤ x1.size ∧ t ≤ 5 ∧ ∀ r, Ev (fun k => spec_l1Cur_opOn.j1 k x1 x5 (p : Int) (t : Int) s a1 z1) r → Ev (fun k => spec_l1Cur_opOn.l0 k x1 x5 (p : Int) s at_ seed) r := by
    have w1 : wrap64 (1 + n) = 1 + n := wrap_id (by omega) (by omega)
    have w2 : wrap64 ((x1.size : Int) - (p : Int)) = (x1.size : Int) - (p : Int) := wrap_id (by omega) (by omega)
    by_cases g : 1 + n > (x1.size : Int) - (p : Int)
    · refine ⟨x1.size - p, by omega, by omega, by omega, fun r h => ?_⟩
      refine Ev.step (fun k => by rw [spec_l1Cur_opOn.l0]) ?_
      refine ev_pos (by omega) (ev_eq e1 ?_)
      rw [w1, w2]
      refine ev_pos g ?_
      rw [show (x1.size : Int) - (p : Int) = ((x1.size - p : Nat) : Int) by omega]; exact h
    · obtain ⟨nn, rfl⟩ := Int.eq_ofNat_of_zero_le n0
      refine ⟨1 + nn, by omega, by omega, by omega, fun r h => ?_⟩
      refine Ev.step (fun k => by rw [spec_l1Cur_opOn.l0]) ?_
      refine ev_pos (by omega) (ev_eq e1 ?_)
      rw [w1, w2]
      refine ev_neg g ?_
      rw [show 1 + (nn : Int) = ((1 + nn : Nat) : Int) by omega]; exact h
  have w3 : wrap64 ((p : Int) + (t : Int)) = ((p + t : Nat) : Int) := by rw [wrap_id (by omega) (by omega)]; omega
  by_cases h3 : c = 0
  · refine ⟨a2, z2, ⟨0, (⟨#[]⟩ : ByteArray), x1.extract p (p + t)⟩, p + t, by omega, by omega, by omega, ⟨Nat.zero_le _, ?_⟩, .inl (by omega), fun r h => hst r ?_⟩
    · show (x1.extract p (p + t)).size ≤ _
      rw [ByteArray.size_extract]; omega
    · refine Ev.step (fun k => by rw [spec_l1Cur_opOn.j1]) ?_
      rw [w3, Int.toNat_natCast, Int.toNat_natCast]
      exact ev_eq e2 (ev_pos h3 (ev_pos (by omega) (ev_pos (by omega) (ev_pos (by omega) (ev_pos (by omega) h)))))
  · by_cases h4 : c = 1
    · obtain ⟨u, a3, z3, e3, u1, b5, b6⟩ := of_f hs a2 z2 putNames (by omega) (by omega) (by simp [putNames]) (by simp [putNames]) 3 (by
        intro x hx
        simp only [putNames, List.mem_cons, List.not_mem_nil, or_false] at hx
        rcases hx with rfl | rfl | rfl | rfl | rfl <;> decide)
      refine ⟨a3, z3, ⟨0, u, (⟨#[]⟩ : ByteArray)⟩, p, by omega, by omega, by omega, ⟨by show u.size ≤ _; omega, Nat.zero_le _⟩, .inr ⟨rfl, fun hc => ?_⟩, fun r h => hst r ?_⟩
      · rw [pick_end at_ seed 5 (by omega) (by omega) (by omega) (by omega)] at e1
        injection e1 with e1; injection e1 with _ e1; injection e1 with f1 g1
        rw [pick_end a1 z1 4 (by omega) (by omega) (by omega) (by omega)] at e2
        injection e2 with e2; injection e2 with k2 e2; injection e2 with f2 g2
        obtain ⟨x, hx⟩ := of_end (s := s) a2 z2 putNames (by omega) (by omega) (by simp [putNames]) (by simp [putNames])
        rw [hx] at e3
        injection e3 with e3; injection e3 with _ e3; injection e3 with f3 g3
        rw [← g1] at g2 k2
        refine ⟨?_, ?_⟩
        · rw [h4] at k2
          unfold Qr
          clear hst
          generalize stp (stp seed) / 1099511627776 = X at k2 ⊢
          omega
        · rw [← g3, ← g2]; rfl
      · refine Ev.step (fun k => by rw [spec_l1Cur_opOn.j1]) ?_
        exact ev_eq e2 (ev_neg h3 (ev_pos h4 (ev_eq e3 (ev_pos (by omega) h))))
    · refine ⟨a2, z2, ⟨(t : Int), (⟨#[]⟩ : ByteArray), (⟨#[]⟩ : ByteArray)⟩, p + t, by omega, by omega, by omega, ⟨Nat.zero_le _, Nat.zero_le _⟩, .inl (by omega), fun r h => hst r ?_⟩
      refine Ev.step (fun k => by rw [spec_l1Cur_opOn.j1]) ?_
      rw [w3]
      exact ev_eq e2 (ev_neg h3 (ev_neg h4 (ev_pos (by omega) h)))
def OpRun (s : List Int) (x1 : ByteArray) (r K : Nat) (m : Int → Int → Prop) : Prop := ∀ (x5 : List IP) (p : Nat) (at_ seed : Int), p + r = x1.size → m at_ seed → 0 ≤ at_ → at_ + 6 * (K : Int) ≤ 80000000000 → x5.length + K ≤ 80000000000 → (∀ x ∈ x5, SmP x) →
  ∃ (o : List IP) (at' seed' : Int), Ev (fun k => spec_l1Cur_opOn.l0 k x1 x5 (p : Int) s at_ seed) (o, at', seed') ∧ at_ ≤ at' ∧ at' ≤ at_ + 6 * (K : Int) ∧ o.length ≤ x5.length + K ∧ ∀ x ∈ o, SmP x
theorem oprun_end {s : List Int} (hs : Code s) (x1 : ByteArray) (h1 : x1.size ≤ 1000000) : OpRun s x1 0 2 (fun _ _ => True) := by
  intro x5 p at_ seed hp _ h0 ha hl hsm
  obtain ⟨b, a1, z1, e1, b1, b2⟩ := one_f hs at_ seed 3 h0 (by omega)
  cases b with
  | false =>
    refine ⟨x5, a1, z1, ?_, by omega, by omega, by omega, hsm⟩
    refine Ev.step (fun k => by rw [spec_l1Cur_opOn.l0]) ?_
    exact ev_neg (by omega) (ev_eq e1 (ev_neg (by simp) (ev_ret rfl)))
  | true =>
    obtain ⟨u, a2, z2, e2, u1, b3, b4⟩ := of_f hs a1 z1 [(⟨#[101, 110, 100]⟩ : ByteArray), (⟨#[46]⟩ : ByteArray)] (by omega) (by omega) (by simp) (by simp) 3 (by
      intro x hx
      simp only [List.mem_cons, List.not_mem_nil, or_false] at hx
      rcases hx with rfl | rfl <;> decide)
    refine ⟨x5 ++ [⟨0, u, (⟨#[]⟩ : ByteArray)⟩], a2, z2, ?_, by omega, by omega, by rw [List.length_append, List.length_singleton]; omega, all_one hsm ⟨by show u.size ≤ _; omega, Nat.zero_le _⟩⟩
    refine Ev.step (fun k => by rw [spec_l1Cur_opOn.l0]) ?_
    exact ev_neg (by omega) (ev_eq e1 (ev_pos rfl (ev_eq e2 (ev_pos (by omega) (ev_ret rfl)))))
/-- One round, then what follows. -/
theorem oprun_step {s : List Int} (hs : Code s) (x1 : ByteArray) (h1 : x1.size ≤ 1000000) (r K : Nat) (m : Int → Int → Prop) (hr : 0 < r)
    (hadv : ∀ r', r' < r → OpRun s x1 r' K (fun at_ _ => ∃ a z, m a z ∧ a < at_))
    (hput : OpRun s x1 r K (fun at_ seed => ∃ a z, m a z ∧ a < at_ ∧ ((s.length : Int) ≤ a → Qr (stp (stp z)) ∧ seed = stp3 z))) : OpRun s x1 r (K + 1) m := by
  intro x5 p at_ seed hp hm h0 ha hl hsm
  obtain ⟨a', z', q, p', c1, c2, c3, c4, c5, c6⟩ := opstep hs x1 h1 x5 (by omega) p (by omega) at_ seed h0 (by omega)
  have hlen : (x5 ++ [q]).length = x5.length + 1 := by rw [List.length_append, List.length_singleton]
  rcases c5 with c5 | ⟨c5, c7⟩
  · obtain ⟨o, at', seed', q1, q2, q3, q4, q5⟩ := hadv (x1.size - p') (by omega) (x5 ++ [q]) p' a' z' (by omega) ⟨at_, seed, hm, c1⟩ (by omega) (by omega) (by omega) (all_one hsm c4)
    exact ⟨o, at', seed', c6 _ q1, by omega, by omega, by omega, q5⟩
  · subst c5
    obtain ⟨o, at', seed', q1, q2, q3, q4, q5⟩ := hput (x5 ++ [q]) p' a' z' hp ⟨at_, seed, hm, c1, c7⟩ (by omega) (by omega) (by omega) (all_one hsm c4)
    exact ⟨o, at', seed', c6 _ q1, by omega, by omega, by omega, q5⟩
theorem OpRun.imp {s : List Int} {x1 : ByteArray} {r K K' : Nat} {m m' : Int → Int → Prop} (h : OpRun s x1 r K m) (hm : ∀ a z, m' a z → m a z) (hK : K ≤ K') : OpRun s x1 r K' m' := by
  intro x5 p at_ seed hp hm' h0 ha hl hsm
  obtain ⟨o, at', seed', q1, q2, q3, q4, q5⟩ := h x5 p at_ seed hp (hm _ _ hm') h0 (by omega) (by omega) hsm
  exact ⟨o, at', seed', q1, q2, by omega, by omega, q5⟩
theorem stp3_comm (z : Int) : stp (stp (stp3 z)) = stp3 (stp (stp z)) := rfl
theorem oprun_far {s : List Int} (hs : Code s) (x1 : ByteArray) (h1 : x1.size ≤ 1000000) (r K : Nat) (hr : 0 < r)
    (hadv : ∀ r', r' < r → OpRun s x1 r' K (fun at_ _ => (s.length : Int) ≤ at_)) (w : Int) (d : Nat) : ∀ i : Nat, i + d = 1572865 → (∀ j, j < i → Qr (tI j w)) →
      OpRun s x1 r (K + d) (fun at_ seed => (s.length : Int) ≤ at_ ∧ stp (stp seed) = tI i w) := by
  induction d with
  | zero =>
    intro i hi hq
    exact absurd (qr_leaves w (fun j hj => hq j (by omega))) id
  | succ d ih =>
    intro i hi hq
    refine oprun_step hs x1 h1 r (K + d) _ hr (fun r' hr' => (hadv r' hr').imp (fun a z ⟨a0, z0, q, q2⟩ => by have := q.1; omega) (by omega)) ?_
    by_cases hqi : Qr (tI i w)
    · refine (ih (i + 1) (by omega) (fun j hj => ?_)).imp (fun a z ⟨a0, z0, q, q2, q3⟩ => ?_) (Nat.le_refl _)
      · by_cases hji : j < i
        · exact hq j hji
        · have : j = i := by omega
          subst this; exact hqi
      · obtain ⟨_, g2⟩ := q3 q.1
        refine ⟨by have := q.1; omega, ?_⟩
        rw [g2, stp3_comm, q.2, tI_succ]
    · intro x5 p at_ seed hp ⟨a0, z0, q, q2, q3⟩
      obtain ⟨g1, _⟩ := q3 q.1
      rw [q.2] at g1
      exact absurd g1 hqi
theorem oprun_code {s : List Int} (hs : Code s) (x1 : ByteArray) (h1 : x1.size ≤ 1000000) (r K : Nat) (hr : 0 < r)
    (hadv : ∀ r', r' < r → ∀ m : Nat, OpRun s x1 r' (K + m) (fun at_ _ => (s.length : Int) ≤ at_ + (m : Int))) : ∀ m : Nat,
      OpRun s x1 r (K + 1572865 + m) (fun at_ _ => (s.length : Int) ≤ at_ + (m : Int))
  | 0 => by
    intro x5 p at_ seed hp hm
    exact oprun_far hs x1 h1 r K hr (fun r' hr' => (hadv r' hr' 0).imp (fun a z q => by omega) (Nat.le_refl _)) (stp (stp seed)) 1572865 0 (by omega) (fun j hj => by omega) x5 p at_ seed hp ⟨by omega, rfl⟩
  | m + 1 => by
    refine oprun_step hs x1 h1 r (K + 1572865 + m) _ hr (fun r' hr' => (hadv r' hr' m).imp (fun a z ⟨a0, z0, q, q2⟩ => by omega) (by omega)) ?_
    exact (oprun_code hs x1 h1 r K hr hadv m).imp (fun a z ⟨a0, z0, q, q2, _⟩ => by omega) (Nat.le_refl _)
theorem oprun_all {s : List Int} (hs : Code s) (x1 : ByteArray) (h1 : x1.size ≤ 1000000) (r : Nat) : ∀ r', r' ≤ r → ∀ m : Nat, OpRun s x1 r' (r * 1572865 + 2 + m) (fun at_ _ => (s.length : Int) ≤ at_ + (m : Int)) := by
  induction r with
  | zero =>
    intro r' hr' m
    have : r' = 0 := by omega
    subst this
    exact (oprun_end hs x1 h1).imp (fun _ _ _ => trivial) (by omega)
  | succ r ih =>
    intro r' hr' m
    have e : (r + 1) * 1572865 = r * 1572865 + 1572865 := Nat.succ_mul _ _
    by_cases h : r' ≤ r
    · exact (ih r' h m).imp (fun _ _ q => q) (by omega)
    · exact (oprun_code hs x1 h1 r' (r * 1572865 + 2) (by omega) (fun r'' hr'' m => ih r'' (by omega) m) m).imp (fun _ _ q => q) (by omega)
/-- A drawn change of a text ends. -/
theorem opOn_f {s : List Int} (hs : Code s) (hsl : s.length ≤ 2000000) (t : ByteArray) (ht : t.size ≤ 1000) (at_ seed : Int) (h0 : 0 ≤ at_) (h1 : at_ ≤ 60000000000) :
    ∃ (o : List IP) (at' seed' : Int), Ev (fun k => spec_l1Cur_opOn.f k s at_ seed t) (o, at', seed') ∧ at_ ≤ at' ∧ at' ≤ at_ + 10000000000 ∧ o.length ≤ 1600000000 ∧ ∀ x ∈ o, SmP x := by
  obtain ⟨o, at', seed', q1, q2, q3, q4, q5⟩ := oprun_all hs t (by omega) t.size t.size (Nat.le_refl _) s.length [] 0 at_ seed (by omega) (by omega) h0 (by omega) (by simp only [List.length_nil]; omega) (fun x hx => by cases hx)
  refine ⟨o, at', seed', q1, q2, by omega, by simp only [List.length_nil] at q4; omega, q5⟩
theorem plainText_f {s : List Int} (hs : Code s) (at_ seed : Int) (h0 : 0 ≤ at_) (h1 : at_ ≤ 10000000) :
    ∃ (t : ByteArray) (at' seed' : Int), Ev (fun k => spec_l1Cur_plainText.f k s at_ seed) (t, at', seed') ∧ at_ ≤ at' ∧ at' ≤ at_ + 60000 ∧ t.size ≤ 300 := by
  obtain ⟨x, a1, z1, e1, b1, b2, hx⟩ := doc_f hs at_ seed h0 h1
  have hg := spec_GoodText_f x (by omega)
  unfold spec_l1Cur_plainText.f
  by_cases g : goodB (bytesOf x) = true
  · have hz := goodB_size' g
    by_cases c : (x.size : Int) > 40
    · obtain ⟨b, a2, z2, e2, b3, b4⟩ := one_f hs a1 z1 20 (by omega) (by omega)
      cases b with
      | true => exact ⟨x, a2, z2, Ev.bind e1 (Ev.bind hg (ev_pos g (ev_pos c (ev_eq e2 (ev_pos rfl (ev_ret rfl)))))), by omega, by omega, hz⟩
      | false => exact ⟨x.extract 0 40, a2, z2, Ev.bind e1 (Ev.bind hg (ev_pos g (ev_pos c (ev_eq e2 (ev_neg (by simp) (ev_pos (by omega) (ev_pos (by dsimp only; omega) (ev_ret rfl)))))))), by omega, by omega, by rw [ByteArray.size_extract]; omega⟩
    · exact ⟨x, a1, z1, Ev.bind e1 (Ev.bind hg (ev_pos g (ev_neg c (ev_ret rfl)))), by omega, by omega, hz⟩
  · exact ⟨(⟨#[116, 101, 120, 116]⟩ : ByteArray), a1, z1, Ev.bind e1 (Ev.bind hg (ev_neg g (ev_neg (by omega) (ev_ret rfl)))), by omega, by omega, by decide⟩
theorem DrawApplyOp_f {s : List Int} (hs : Code s) (hsl : s.length ≤ 2000000) : ∃ r : List IP × ByteArray, Ev (fun k => spec_DrawApplyOp.f k s) r ∧ r.1.length ≤ 1600000000 ∧ (∀ x ∈ r.1, SmP x) ∧ r.2.size ≤ 1000 := by
  obtain ⟨t, a1, z1, e1, b1, b2, ht⟩ := plainText_f hs 0 0 (Int.le_refl _) (by omega)
  obtain ⟨o, a2, z2, e2, b3, b4, ho, hsm⟩ := opOn_f hs hsl t (by omega) a1 z1 (by omega) (by omega)
  obtain ⟨b, a3, z3, e3, b5, b6⟩ := one_f hs a2 z2 6 (by omega) (by omega)
  unfold spec_DrawApplyOp.f
  cases b with
  | true =>
    obtain ⟨u, a4, z4, e4, b7, b8, hu⟩ := spoilt_f hs t (⟨#[120, 65]⟩ : ByteArray) (by decide) (by omega) a3 z3 (by omega) (by omega)
    exact ⟨(o, u), Ev.bind e1 (Ev.bind e2 (ev_eq e3 (ev_pos rfl (Ev.bind e4 (ev_ret rfl))))), ho, hsm, by show u.size ≤ _; omega⟩
  | false => exact ⟨(o, t), Ev.bind e1 (Ev.bind e2 (ev_eq e3 (ev_neg (by simp) (ev_ret rfl)))), ho, hsm, by show t.size ≤ _; omega⟩

theorem ba_nil {s : ByteArray} (h : s.size = 0) : s = (⟨#[]⟩ : ByteArray) := by
  obtain ⟨d⟩ := s
  have h' : d.size = 0 := h
  rw [Array.size_eq_zero_iff.1 h']
theorem ba_app (s : ByteArray) : s ++ (⟨#[]⟩ : ByteArray) = s := by
  apply ByteArray.ext; rw [ByteArray.data_append]; simp
theorem ba_len_app (a b : ByteArray) : (a ++ b).size = a.size + b.size := ByteArray.size_append
theorem nil_nil : (⟨#[]⟩ : ByteArray).toList = ([] : List UInt8) := (toList_nil _).2 rfl
/-- A part with one side at most. -/
def One (p : IP) : Prop := 0 ≤ p.f0 ∧ p.f0 ≤ 300 ∧ p.f1.size ≤ 300 ∧ p.f2.size ≤ 300 ∧ (p.f0 = 0 ∨ (p.f1.size = 0 ∧ p.f2.size = 0)) ∧ (p.f1.size = 0 ∨ p.f2.size = 0)
theorem set_last (m : List IP) (z v : IP) : (m ++ [z]).set m.length v = m ++ [v] := by
  rw [List.set_append_right _ _ (Nat.le_refl _), Nat.sub_self]; rfl
theorem set_last2 (m : List IP) (y z v : IP) : (m ++ [y, z]).set m.length v = m ++ [v, z] := by
  rw [List.set_append_right _ _ (Nat.le_refl _), Nat.sub_self]; rfl
theorem gt_app_2 (m : List IP) (y z : IP) : gt izP (m ++ [y, z]) m.length = y := by
  unfold gt; rw [List.getD_eq_getElem?_getD, List.getElem?_append_right (Nat.le_refl _)]; simp
theorem gt_app_1 (m : List IP) (z : IP) : gt izP (m ++ [z]) m.length = z := by
  unfold gt; rw [List.getD_eq_getElem?_getD, List.getElem?_append_right (Nat.le_refl _)]; simp
theorem len_m1 (m : List IP) (z : IP) (h : m.length ≤ 100000) : wrap64 (((m ++ [z]).length : Int) - 1) = (m.length : Int) := by
  rw [List.length_append, List.length_singleton, wrap_id (by omega) (by omega)]; omega
/-- Nothing is put behind. -/
theorem add_none (l : List IP) (p : IP) (h0 : p.f0 = 0) (h1 : p.f1.size = 0) (h2 : p.f2.size = 0) : Ev (fun k => spec_l3Add.f k l p.f0 p.f1 p.f2) l := by
  unfold spec_l3Add.f
  rw [beq_iff_eq.2 ((toList_nil _).2 h2)]
  refine ev_pos h0 (ev_pos ((toList_nil _).2 h1) ?_)
  refine Ev.step (fun k => by rw [spec_l3Add.j0]) ?_
  exact ev_pos rfl (ev_ret rfl)
/-- Where the part is one, the walk begins at j0. -/
theorem add_start (l : List IP) (p : IP) (h : p.f0 ≠ 0 ∨ p.f1.size ≠ 0 ∨ p.f2.size ≠ 0) {r : List IP} (hr : Ev (fun k => spec_l3Add.j0 k l (l.length : Int) false p.f0 p.f1 p.f2) r) : Ev (fun k => spec_l3Add.f k l p.f0 p.f1 p.f2) r := by
  unfold spec_l3Add.f
  refine ev_if (fun h0 => ev_if (fun h1 => ?_) (fun _ => hr)) (fun _ => hr)
  rw [toList_nil] at h1
  have h2 : ¬ p.f2.toList = ([] : List UInt8) := by rw [toList_nil]; omega
  rw [beq_eq_false_iff_ne.2 h2]; exact hr
theorem add_first (p : IP) (h : p.f0 ≠ 0 ∨ p.f1.size ≠ 0 ∨ p.f2.size ≠ 0) : Ev (fun k => spec_l3Add.f k [] p.f0 p.f1 p.f2) [p] := by
  refine add_start [] p h ?_
  refine Ev.step (fun k => by rw [spec_l3Add.j0]) ?_
  exact ev_neg (by simp) (ev_pos (by simp) (ev_pos (by simp) (ev_ret rfl)))
theorem add_j1 (m : List IP) (z p : IP) (hm : m.length ≤ 100000) (h : p.f0 ≠ 0 ∨ p.f1.size ≠ 0 ∨ p.f2.size ≠ 0) {r : List IP}
    (hr : Ev (fun k => spec_l3Add.j1 k (m ++ [z]) ((m ++ [z]).length : Int) (decide (p.f0 > 0 ∧ z.f0 > 0)) p.f0 p.f1 p.f2 z.f0 z.f1 z.f2) r) : Ev (fun k => spec_l3Add.f k (m ++ [z]) p.f0 p.f1 p.f2) r := by
  refine add_start _ p h ?_
  refine Ev.step (fun k => by rw [spec_l3Add.j0]) ?_
  rw [len_m1 m z hm, rd_ip, gt_app_1]
  have hl : (m ++ [z]).length = m.length + 1 := by rw [List.length_append, List.length_singleton]
  refine ev_neg (by simp) (ev_neg (by omega) (ev_pos (by omega) (ev_pos (by omega) (ev_if (fun c => ?_) (fun c => ?_)))))
  · simp only [c, true_and] at hr; exact hr
  · rw [decide_eq_false (fun q => c q.1)] at hr; exact hr
theorem add_j2 (m : List IP) (z p : IP) (hm : m.length ≤ 100000) (h : p.f0 ≠ 0 ∨ p.f1.size ≠ 0 ∨ p.f2.size ≠ 0) (h1 : ¬ (p.f0 > 0 ∧ z.f0 > 0)) {r : List IP}
    (hr : Ev (fun k => spec_l3Add.j2 k (m ++ [z]) ((m ++ [z]).length : Int) (decide (p.f2.size ≠ 0 ∧ z.f2.size ≠ 0)) p.f0 p.f1 p.f2 z.f0 z.f1 z.f2) r) : Ev (fun k => spec_l3Add.f k (m ++ [z]) p.f0 p.f1 p.f2) r := by
  refine add_j1 m z p hm h ?_
  rw [decide_eq_false h1]
  refine Ev.step (fun k => by rw [spec_l3Add.j1]) ?_
  refine ev_neg (by simp) (ev_if (fun c => ?_) (fun c => ?_))
  · rw [toList_nil] at c
    rw [decide_eq_false (fun q => q.1 c)] at hr; exact hr
  · rw [toList_nil] at c
    have e : (z.f2.toList != ([] : List UInt8)) = decide (p.f2.size ≠ 0 ∧ z.f2.size ≠ 0) := by
      by_cases q : z.f2.size = 0
      · rw [decide_eq_false (fun x => x.2 q), bne_eq_false_iff_eq]; exact (toList_nil _).2 q
      · rw [decide_eq_true ⟨c, q⟩, bne_iff_ne]; exact fun x => q ((toList_nil _).1 x)
    rw [e]; exact hr
theorem add_j3 (m : List IP) (z p : IP) (hm : m.length ≤ 100000) (h : p.f0 ≠ 0 ∨ p.f1.size ≠ 0 ∨ p.f2.size ≠ 0) (h1 : ¬ (p.f0 > 0 ∧ z.f0 > 0)) (h2 : ¬ (p.f2.size ≠ 0 ∧ z.f2.size ≠ 0)) {r : List IP}
    (hr : Ev (fun k => spec_l3Add.j3 k (m ++ [z]) ((m ++ [z]).length : Int) (decide (p.f1.size ≠ 0 ∧ z.f1.size ≠ 0)) p.f0 p.f1 p.f2 z.f0 z.f1 z.f2) r) : Ev (fun k => spec_l3Add.f k (m ++ [z]) p.f0 p.f1 p.f2) r := by
  refine add_j2 m z p hm h h1 ?_
  rw [decide_eq_false h2]
  refine Ev.step (fun k => by rw [spec_l3Add.j2]) ?_
  refine ev_neg (by simp) (ev_if (fun c => ?_) (fun c => ?_))
  · rw [toList_nil] at c
    rw [decide_eq_false (fun q => q.1 c)] at hr; exact hr
  · rw [toList_nil] at c
    have e : (z.f1.toList != ([] : List UInt8)) = decide (p.f1.size ≠ 0 ∧ z.f1.size ≠ 0) := by
      by_cases q : z.f1.size = 0
      · rw [decide_eq_false (fun x => x.2 q), bne_eq_false_iff_eq]; exact (toList_nil _).2 q
      · rw [decide_eq_true ⟨c, q⟩, bne_iff_ne]; exact fun x => q ((toList_nil _).1 x)
    rw [e]; exact hr
theorem add_j4 (m : List IP) (z p : IP) (hm : m.length ≤ 100000) (h : p.f0 ≠ 0 ∨ p.f1.size ≠ 0 ∨ p.f2.size ≠ 0) (h1 : ¬ (p.f0 > 0 ∧ z.f0 > 0)) (h2 : ¬ (p.f2.size ≠ 0 ∧ z.f2.size ≠ 0)) (h3 : ¬ (p.f1.size ≠ 0 ∧ z.f1.size ≠ 0)) {r : List IP}
    (hr : Ev (fun k => spec_l3Add.j4 k (m ++ [z]) ((m ++ [z]).length : Int) (decide (p.f1.size ≠ 0 ∧ z.f2.size ≠ 0)) p.f0 p.f1 p.f2 z.f0 z.f1 z.f2) r) : Ev (fun k => spec_l3Add.f k (m ++ [z]) p.f0 p.f1 p.f2) r := by
  refine add_j3 m z p hm h h1 h2 ?_
  rw [decide_eq_false h3]
  refine Ev.step (fun k => by rw [spec_l3Add.j3]) ?_
  refine ev_neg (by simp) (ev_if (fun c => ?_) (fun c => ?_))
  · rw [toList_nil] at c
    rw [decide_eq_false (fun q => q.1 c)] at hr; exact hr
  · rw [toList_nil] at c
    have e : (z.f2.toList != ([] : List UInt8)) = decide (p.f1.size ≠ 0 ∧ z.f2.size ≠ 0) := by
      by_cases q : z.f2.size = 0
      · rw [decide_eq_false (fun x => x.2 q), bne_eq_false_iff_eq]; exact (toList_nil _).2 q
      · rw [decide_eq_true ⟨c, q⟩, bne_iff_ne]; exact fun x => q ((toList_nil _).1 x)
    rw [e]; exact hr
/-- Both keep. -/
theorem add_keep (m : List IP) (z p : IP) (hm : m.length ≤ 100000) (h1 : p.f0 > 0 ∧ z.f0 > 0) : Ev (fun k => spec_l3Add.f k (m ++ [z]) p.f0 p.f1 p.f2) (m ++ [⟨wrap64 (z.f0 + p.f0), z.f1, z.f2⟩]) := by
  refine add_j1 m z p hm (.inl (by omega)) ?_
  rw [decide_eq_true h1]
  refine Ev.step (fun k => by rw [spec_l3Add.j1]) ?_
  rw [len_m1 m z hm, rd_ip, gt_app_1, Int.toNat_natCast, set_last]
  exact ev_pos rfl (ev_pos (by omega) (ev_pos (by rw [List.length_append, List.length_singleton]; omega) (ev_ret rfl)))
/-- Both drop. -/
theorem add_drop (m : List IP) (z p : IP) (hm : m.length ≤ 100000) (h1 : ¬ (p.f0 > 0 ∧ z.f0 > 0)) (h2 : p.f2.size ≠ 0 ∧ z.f2.size ≠ 0) (hs : z.f2.size + p.f2.size ≤ 9223372036854775807) : Ev (fun k => spec_l3Add.f k (m ++ [z]) p.f0 p.f1 p.f2) (m ++ [⟨z.f0, z.f1, z.f2 ++ p.f2⟩]) := by
  refine add_j2 m z p hm (.inr (.inr h2.1)) h1 ?_
  rw [decide_eq_true h2]
  refine Ev.step (fun k => by rw [spec_l3Add.j2]) ?_
  rw [len_m1 m z hm, rd_ip, gt_app_1, Int.toNat_natCast, set_last]
  exact ev_pos rfl (ev_pos (by omega) (ev_pos (by rw [List.length_append, List.length_singleton]; omega) (ev_pos hs (ev_ret rfl))))
/-- Both put. -/
theorem add_put (m : List IP) (z p : IP) (hm : m.length ≤ 100000) (h1 : ¬ (p.f0 > 0 ∧ z.f0 > 0)) (h2 : ¬ (p.f2.size ≠ 0 ∧ z.f2.size ≠ 0)) (h3 : p.f1.size ≠ 0 ∧ z.f1.size ≠ 0) (hs : z.f1.size + p.f1.size ≤ 9223372036854775807) : Ev (fun k => spec_l3Add.f k (m ++ [z]) p.f0 p.f1 p.f2) (m ++ [⟨z.f0, z.f1 ++ p.f1, z.f2⟩]) := by
  refine add_j3 m z p hm (.inr (.inl h3.1)) h1 h2 ?_
  rw [decide_eq_true h3]
  refine Ev.step (fun k => by rw [spec_l3Add.j3]) ?_
  rw [len_m1 m z hm, rd_ip, gt_app_1, Int.toNat_natCast, set_last]
  exact ev_pos rfl (ev_pos (by omega) (ev_pos (by rw [List.length_append, List.length_singleton]; omega) (ev_pos hs (ev_ret rfl))))
/-- Nothing joins. -/
theorem add_apart (m : List IP) (z p : IP) (hm : m.length ≤ 100000) (h : p.f0 ≠ 0 ∨ p.f1.size ≠ 0 ∨ p.f2.size ≠ 0) (h1 : ¬ (p.f0 > 0 ∧ z.f0 > 0)) (h2 : ¬ (p.f2.size ≠ 0 ∧ z.f2.size ≠ 0)) (h3 : ¬ (p.f1.size ≠ 0 ∧ z.f1.size ≠ 0)) (h4 : ¬ (p.f1.size ≠ 0 ∧ z.f2.size ≠ 0)) : Ev (fun k => spec_l3Add.f k (m ++ [z]) p.f0 p.f1 p.f2) (m ++ [z, p]) := by
  refine add_j4 m z p hm h h1 h2 h3 ?_
  rw [decide_eq_false h4]
  refine Ev.step (fun k => by rw [spec_l3Add.j4]) ?_
  exact ev_neg (by simp) (ev_pos (by rw [List.length_append, List.length_singleton]; omega) (ev_ret (by rw [List.append_assoc]; rfl)))
/-- A put goes ahead of a drop. -/
theorem add_ahead1 (z p : IP) (h1 : ¬ (p.f0 > 0 ∧ z.f0 > 0)) (h2 : ¬ (p.f2.size ≠ 0 ∧ z.f2.size ≠ 0)) (h3 : ¬ (p.f1.size ≠ 0 ∧ z.f1.size ≠ 0)) (h4 : p.f1.size ≠ 0 ∧ z.f2.size ≠ 0) : Ev (fun k => spec_l3Add.f k [z] p.f0 p.f1 p.f2) [p, z] := by
  refine add_j4 [] z p (by simp) (.inr (.inl h4.1)) h1 h2 h3 ?_
  rw [decide_eq_true h4]
  refine Ev.step (fun k => by rw [spec_l3Add.j4]) ?_
  rw [len_m1 [] z (by simp), Int.toNat_natCast, set_last]
  exact ev_pos rfl (ev_neg (by simp) (ev_pos (by simp) (ev_pos (by simp) (ev_eq rfl (ev_pos (by simp) (ev_ret rfl))))))
theorem len_m2 (m : List IP) (y z : IP) (h : m.length ≤ 90000) : wrap64 (((m ++ [y, z]).length : Int) - 2) = (m.length : Int) := by
  have : (m ++ [y, z]).length = m.length + 2 := by rw [List.length_append]; rfl
  rw [this, wrap_id (by omega) (by omega)]; omega
theorem add_ahead2 (m : List IP) (y z p : IP) (hm : m.length ≤ 90000) (h1 : ¬ (p.f0 > 0 ∧ z.f0 > 0)) (h2 : ¬ (p.f2.size ≠ 0 ∧ z.f2.size ≠ 0)) (h3 : ¬ (p.f1.size ≠ 0 ∧ z.f1.size ≠ 0)) (h4 : p.f1.size ≠ 0 ∧ z.f2.size ≠ 0) (hs : y.f1.size + p.f1.size ≤ 9223372036854775807) :
    Ev (fun k => spec_l3Add.f k (m ++ [y, z]) p.f0 p.f1 p.f2) (if y.f1.size = 0 then m ++ [y, p, z] else m ++ [⟨y.f0, y.f1 ++ p.f1, y.f2⟩, z]) := by
  have em : m ++ [y, z] = (m ++ [y]) ++ [z] := by rw [List.append_assoc]; rfl
  have hl1 : (m ++ [y]).length = m.length + 1 := by rw [List.length_append, List.length_singleton]
  have hl2 : (m ++ [y, z]).length = m.length + 2 := by rw [List.length_append]; rfl
  rw [em]
  refine add_j4 (m ++ [y]) z p (by omega) (.inr (.inl h4.1)) h1 h2 h3 ?_
  rw [decide_eq_true h4]
  refine Ev.step (fun k => by rw [spec_l3Add.j4]) ?_
  rw [len_m1 (m ++ [y]) z (by omega), Int.toNat_natCast, set_last]
  rw [← em, len_m2 m y z hm, rd_ip, gt_app_2, Int.toNat_natCast, set_last2]
  refine ev_pos rfl (ev_pos (by omega) (ev_pos (by omega) (ev_pos (by omega) (ev_if (fun c => ?_) (fun c => ?_)))))
  · rw [toList_nil] at c
    rw [if_pos c]
    refine ev_pos (by omega) (ev_pos (by omega) (ev_eq rfl (ev_pos (by rw [List.length_append, List.length_singleton]; omega) (ev_ret ?_))))
    rw [List.append_assoc, List.append_assoc]; rfl
  · rw [toList_nil] at c
    rw [if_neg c]
    exact ev_pos hs (ev_ret rfl)
/-- The state of the maker is that of the reference: the parts so far, and what is held back. -/
structure Fit (n : Nat) (s : List Pt × ByteArray × ByteArray) : Prop where
  last : s.1 = [] ∨ ∃ m x, s.1 = m ++ [(x, (⟨#[]⟩ : ByteArray), (⟨#[]⟩ : ByteArray))] ∧ 0 < x ∧ x ≤ 300 * (n : Int)
  len : s.1.length ≤ 3 * n
  put : s.2.1.size ≤ 300 * n
  drop : s.2.2.size ≤ 300 * n
def allP (s : List Pt × ByteArray × ByteArray) : List IP := (s.1 ++ endL s.2.1 s.2.2).map ofP
theorem endL_00 {a b : ByteArray} (ha : a.size = 0) (hb : b.size = 0) : endL a b = [] := by
  unfold endL; rw [if_pos ((toList_nil _).2 ha), if_pos ((toList_nil _).2 hb)]; rfl
theorem endL_10 {a b : ByteArray} (ha : a.size ≠ 0) (hb : b.size = 0) : endL a b = [(0, a, ⟨#[]⟩)] := by
  unfold endL; rw [if_neg (fun e => ha ((toList_nil _).1 e)), if_pos ((toList_nil _).2 hb)]; rfl
theorem endL_01 {a b : ByteArray} (ha : a.size = 0) (hb : b.size ≠ 0) : endL a b = [(0, ⟨#[]⟩, b)] := by
  unfold endL; rw [if_pos ((toList_nil _).2 ha), if_neg (fun e => hb ((toList_nil _).1 e))]; rfl
theorem endL_11 {a b : ByteArray} (ha : a.size ≠ 0) (hb : b.size ≠ 0) : endL a b = [(0, a, ⟨#[]⟩), (0, ⟨#[]⟩, b)] := by
  unfold endL; rw [if_neg (fun e => ha ((toList_nil _).1 e)), if_neg (fun e => hb ((toList_nil _).1 e))]; rfl
theorem endL_len (a b : ByteArray) : (endL a b).length ≤ 2 := by unfold endL; rw [List.length_append]; split <;> split <;> simp
theorem sz0 : (⟨#[]⟩ : ByteArray).size = 0 := rfl
theorem keepA_app (m : List Pt) (q : Pt) (x : Int) : keepA (m ++ [q]) x = if q.1 > 0 then m ++ [(wrap64 (q.1 + x), q.2.1, q.2.2)] else m ++ [q, (x, ⟨#[]⟩, ⟨#[]⟩)] := by
  unfold keepA
  rw [List.getLast?_append]
  simp only [List.getLast?_singleton, Option.some_or]
  split
  · rw [List.dropLast_concat]
  · rw [List.append_assoc]; rfl
/-- One part more, by the maker and by the reference. -/
theorem add_step (n : Nat) (s : List Pt × ByteArray × ByteArray) (p : IP) (hn : n ≤ 1000) (hf : Fit n s) (hp : One p) :
    Ev (fun k => spec_l3Add.f k (allP s) p.f0 p.f1 p.f2) (allP (takeP s (toP p))) ∧ Fit (n + 1) (takeP s (toP p)) := by
  obtain ⟨l, a, b⟩ := s
  obtain ⟨f1, f2, f3, f4⟩ := hf
  obtain ⟨p0, p1, p2⟩ := p
  obtain ⟨q1, q2, q3, q4, q5, q6⟩ := hp
  simp only at f1 f2 f3 f4 q1 q2 q3 q4 q5 q6
  have hel := endL_len a b
  by_cases h0 : p0 = 0
  · -- nothing is kept
    subst h0
    have et : takeP (l, a, b) (toP ⟨0, p1, p2⟩) = (l, a ++ p1, b ++ p2) := rfl
    rw [et]
    refine ⟨?_, ?_⟩
    · unfold allP
      simp only
      by_cases h1 : p1.size = 0
      · by_cases h2 : p2.size = 0
        · rw [ba_nil h1, ba_nil h2, ba_app, ba_app]
          exact add_none _ ⟨0, ⟨#[]⟩, ⟨#[]⟩⟩ rfl rfl rfl
        · rw [ba_nil h1, ba_app]
          by_cases hb : b.size = 0
          · rw [ba_nil hb, show (⟨#[]⟩ : ByteArray) ++ p2 = p2 by apply ByteArray.ext; rw [ByteArray.data_append]; simp]
            by_cases ha : a.size = 0
            · rw [endL_00 ha sz0, endL_01 ha h2, List.append_nil, List.map_append]
              rcases f1 with e | ⟨m, x, e, hx, _⟩
              · rw [e]; exact add_first ⟨0, ⟨#[]⟩, p2⟩ (.inr (.inr h2))
              · rw [e, List.map_append]
                have := add_apart (m.map ofP) (ofP (x, ⟨#[]⟩, ⟨#[]⟩)) ⟨0, ⟨#[]⟩, p2⟩ (by rw [e] at f2; simp at f2 ⊢; omega) (.inr (.inr h2)) (by simp) (by simp [ofP, sz0]) (by simp [sz0]) (by simp [sz0])
                rw [List.append_assoc]; exact this
            · rw [endL_10 ha sz0, endL_11 ha h2, List.map_append, List.map_append]
              exact add_apart (l.map ofP) (ofP (0, a, ⟨#[]⟩)) ⟨0, ⟨#[]⟩, p2⟩ (by rw [List.length_map]; omega) (.inr (.inr h2)) (by simp) (by simp [ofP, sz0]) (by simp [sz0]) (by simp [sz0])
          · have hb2 : (b ++ p2).size ≠ 0 := by rw [ba_len_app]; omega
            by_cases ha : a.size = 0
            · rw [endL_01 ha hb, endL_01 ha hb2, List.map_append, List.map_append]
              exact add_drop (l.map ofP) (ofP (0, ⟨#[]⟩, b)) ⟨0, ⟨#[]⟩, p2⟩ (by rw [List.length_map]; omega) (by simp) ⟨h2, hb⟩ (by simp only [ofP]; omega)
            · rw [endL_11 ha hb, endL_11 ha hb2, List.map_append, List.map_append]
              have := add_drop (l.map ofP ++ [ofP (0, a, ⟨#[]⟩)]) (ofP (0, ⟨#[]⟩, b)) ⟨0, ⟨#[]⟩, p2⟩ (by rw [List.length_append, List.length_map, List.length_singleton]; omega) (by simp) ⟨h2, hb⟩ (by simp only [ofP]; omega)
              rw [List.append_assoc, List.append_assoc] at this; exact this
      · have h2 : p2.size = 0 := by omega
        rw [ba_nil h2, ba_app]
        by_cases ha : a.size = 0
        · rw [ba_nil ha, show (⟨#[]⟩ : ByteArray) ++ p1 = p1 by apply ByteArray.ext; rw [ByteArray.data_append]; simp]
          by_cases hb : b.size = 0
          · rw [endL_00 sz0 hb, endL_10 h1 hb, List.append_nil, List.map_append]
            rcases f1 with e | ⟨m, x, e, hx, _⟩
            · rw [e]; exact add_first ⟨0, p1, ⟨#[]⟩⟩ (.inr (.inl h1))
            · rw [e, List.map_append]
              have := add_apart (m.map ofP) (ofP (x, ⟨#[]⟩, ⟨#[]⟩)) ⟨0, p1, ⟨#[]⟩⟩ (by rw [e] at f2; simp at f2 ⊢; omega) (.inr (.inl h1)) (by simp) (by simp [ofP, sz0]) (by simp [ofP, sz0]) (by simp [ofP, sz0])
              rw [List.append_assoc]; exact this
          · rw [endL_01 sz0 hb, endL_11 h1 hb, List.map_append, List.map_append]
            rcases f1 with e | ⟨m, x, e, hx, _⟩
            · rw [e]; exact add_ahead1 (ofP (0, ⟨#[]⟩, b)) ⟨0, p1, ⟨#[]⟩⟩ (by simp) (by simp [sz0]) (by simp [ofP, sz0]) ⟨h1, hb⟩
            · rw [e, List.map_append]
              have := add_ahead2 (m.map ofP) (ofP (x, ⟨#[]⟩, ⟨#[]⟩)) (ofP (0, ⟨#[]⟩, b)) ⟨0, p1, ⟨#[]⟩⟩ (by rw [e] at f2; simp at f2 ⊢; omega) (by simp) (by simp [sz0]) (by simp [ofP, sz0]) ⟨h1, hb⟩ (by simp only [ofP, sz0]; omega)
              rw [if_pos (by rfl)] at this
              rw [List.append_assoc, List.append_assoc]; exact this
        · have ha2 : (a ++ p1).size ≠ 0 := by rw [ba_len_app]; omega
          by_cases hb : b.size = 0
          · rw [endL_10 ha hb, endL_10 ha2 hb, List.map_append, List.map_append]
            exact add_put (l.map ofP) (ofP (0, a, ⟨#[]⟩)) ⟨0, p1, ⟨#[]⟩⟩ (by rw [List.length_map]; omega) (by simp) (by simp [sz0]) ⟨h1, ha⟩ (by simp only [ofP]; omega)
          · rw [endL_11 ha hb, endL_11 ha2 hb, List.map_append, List.map_append]
            have := add_ahead2 (l.map ofP) (ofP (0, a, ⟨#[]⟩)) (ofP (0, ⟨#[]⟩, b)) ⟨0, p1, ⟨#[]⟩⟩ (by rw [List.length_map]; omega) (by simp) (by simp [sz0]) (by simp [ofP, sz0]) ⟨h1, hb⟩ (by simp only [ofP]; omega)
            rw [if_neg (by simp only [ofP]; exact ha)] at this
            exact this
    · refine ⟨?_, by show l.length ≤ _; omega, by show (a ++ p1).size ≤ _; rw [ba_len_app]; omega, by show (b ++ p2).size ≤ _; rw [ba_len_app]; omega⟩
      rcases f1 with e | ⟨m, x, e, hx, hx2⟩
      · exact .inl e
      · exact .inr ⟨m, x, e, hx, by omega⟩
  · -- bytes are kept
    obtain ⟨h1, h2⟩ := q5.resolve_left h0
    have hk : keepS l a b p0 = (keepA (l ++ endL a b) p0, ⟨#[]⟩, ⟨#[]⟩) := by unfold keepS; rw [if_neg h0]
    have et : takeP (l, a, b) (toP ⟨p0, p1, p2⟩) = (keepA (l ++ endL a b) p0, ⟨#[]⟩, ⟨#[]⟩) := by
      unfold takeP toP
      simp only [hk]
      rw [ba_nil h1, ba_nil h2, ba_app]
    rw [et, ba_nil h1, ba_nil h2]
    have hq : ∀ (M : List Pt) (q : Pt), l ++ endL a b = M ++ [q] → q.1 ≤ 300 * (n : Int) → (q.1 > 0 → q.2.1 = ⟨#[]⟩ ∧ q.2.2 = ⟨#[]⟩) →
        Ev (fun k => spec_l3Add.f k (allP (l, a, b)) p0 ⟨#[]⟩ ⟨#[]⟩) (allP (keepA (l ++ endL a b) p0, ⟨#[]⟩, ⟨#[]⟩)) ∧ Fit (n + 1) (keepA (l ++ endL a b) p0, ⟨#[]⟩, ⟨#[]⟩) := by
      intro M q e hq1 hq2
      have hML : M.length + 1 ≤ 3 * n + 2 := by
        have := congrArg List.length e
        rw [List.length_append, List.length_append, List.length_singleton] at this
        omega
      unfold allP
      simp only
      rw [endL_00 sz0 sz0, List.append_nil, e, keepA_app]
      by_cases hx : q.1 > 0
      · rw [if_pos hx, List.map_append, List.map_append]
        refine ⟨add_keep (M.map ofP) (ofP q) ⟨p0, ⟨#[]⟩, ⟨#[]⟩⟩ (by rw [List.length_map]; omega) ⟨by simp only; omega, hx⟩, ?_⟩
        rw [wrap_id (by omega) (by omega)]
        obtain ⟨e1, e2⟩ := hq2 hx
        refine ⟨.inr ⟨M, q.1 + p0, by rw [e1, e2], by omega, by omega⟩, ?_, Nat.zero_le _, Nat.zero_le _⟩
        simp only [List.length_append, List.length_cons, List.length_nil]; omega
      · rw [if_neg hx, List.map_append, List.map_append]
        refine ⟨add_apart (M.map ofP) (ofP q) ⟨p0, ⟨#[]⟩, ⟨#[]⟩⟩ (by rw [List.length_map]; omega) (.inl (by simp only; omega)) (fun c => hx c.2) (by simp [sz0]) (by simp [sz0]) (by simp [sz0]), ?_⟩
        refine ⟨.inr ⟨M ++ [q], p0, by rw [List.append_assoc]; rfl, by omega, by omega⟩, ?_, Nat.zero_le _, Nat.zero_le _⟩
        simp only [List.length_append, List.length_cons, List.length_nil]; omega
    by_cases ha : a.size = 0
    · by_cases hb : b.size = 0
      · rcases f1 with e | ⟨m, x, e, hx, hx2⟩
        · subst e
          unfold allP
          rw [endL_00 ha hb]
          simp only [List.nil_append, List.map_nil]
          rw [endL_00 sz0 sz0]
          refine ⟨add_first ⟨p0, ⟨#[]⟩, ⟨#[]⟩⟩ (.inl h0), ⟨.inr ⟨[], p0, rfl, by omega, by omega⟩, by show 1 ≤ _; omega, Nat.zero_le _, Nat.zero_le _⟩⟩
        · exact hq m (x, ⟨#[]⟩, ⟨#[]⟩) (by rw [endL_00 ha hb, List.append_nil]; exact e) (by simp only; omega) (fun _ => ⟨rfl, rfl⟩)
      · exact hq l (0, ⟨#[]⟩, b) (by rw [endL_01 ha hb]) (by simp only; omega) (fun c => absurd c (by simp))
    · by_cases hb : b.size = 0
      · exact hq l (0, a, ⟨#[]⟩) (by rw [endL_10 ha hb]) (by simp only; omega) (fun c => absurd c (by simp))
      · exact hq (l ++ [(0, a, ⟨#[]⟩)]) (0, ⟨#[]⟩, b) (by rw [endL_11 ha hb, List.append_assoc]; rfl) (by simp only; omega) (fun c => absurd c (by simp))
theorem fit_zero : Fit 0 ([], (⟨#[]⟩ : ByteArray), (⟨#[]⟩ : ByteArray)) := ⟨.inl rfl, Nat.le_refl _, Nat.le_refl _, Nat.le_refl _⟩
def normI (l : List IP) : List IP := (normP (l.map toP)).map ofP
theorem one_guard (l : List IP) (hl : l.length ≤ 60) (hp : ∀ p ∈ l, One p) : l.length ≤ 60 ∧ (l.all fun x => decide (x.f1.size ≤ 300 ∧ x.f2.size ≤ 300)) = true :=
  ⟨hl, List.all_eq_true.2 fun x hx => decide_eq_true ⟨(hp x hx).2.2.1, (hp x hx).2.2.2.1⟩⟩
theorem impl_normal_f (l : List IP) (hl : l.length ≤ 60) (hp : ∀ p ∈ l, One p) : impl_normal.f l = some (normI l) := by
  unfold impl_normal.f
  rw [if_pos (one_guard l hl hp)]; rfl
theorem normI_len (l : List IP) (hl : l.length ≤ 60) (hp : ∀ p ∈ l, One p) : (normI l).length ≤ 200 := by
  obtain ⟨b1, _, _⟩ := stN_bound l (fun x hx => ⟨(hp x hx).2.2.1, (hp x hx).2.2.2.1⟩) l.length (Nat.le_refl _)
  have e : stN l l.length = (l.map toP).foldl takeP ([], ⟨#[]⟩, ⟨#[]⟩) := by unfold stN; rw [List.take_of_length_le (Nat.le_refl _)]
  rw [e] at b1
  have := endL_len ((l.map toP).foldl takeP ([], ⟨#[]⟩, ⟨#[]⟩)).2.1 ((l.map toP).foldl takeP ([], ⟨#[]⟩, ⟨#[]⟩)).2.2
  unfold normI normP
  rw [List.length_map, List.length_append]; omega

theorem part_one {p : IP} (h : partB p = true) : One p := by
  obtain ⟨a1, a2, a3, a4, a5⟩ := part_facts h
  refine ⟨a1, a2, a3, a4, ?_, ?_⟩
  · unfold partB at h
    by_cases c0 : p.f0 = 0
    · exact .inl c0
    · rw [if_neg c0, Bool.and_eq_true, Bool.and_eq_true] at h
      exact .inr ⟨(toList_nil _).1 (of_decide_eq_true h.2.1), a5.resolve_left c0⟩
  · unfold partB at h
    by_cases c0 : p.f0 = 0
    · rw [if_pos c0] at h
      by_cases c1 : p.f1.toList = ([] : List UInt8)
      · exact .inl ((toList_nil _).1 c1)
      · rw [if_neg c1] at h
        by_cases c2 : p.f2.toList = ([] : List UInt8)
        · exact .inr ((toList_nil _).1 c2)
        · rw [if_neg c2] at h; cases h
    · exact .inr (a5.resolve_left c0)

def dropL : List IP → List Int
  | [] => []
  | p :: r => (List.replicate p.f0.toNat 0 ++ bytesOf p.f2) ++ dropL r
theorem dropL_len : ∀ (l : List IP), (∀ p ∈ l, partB p = true) → (dropL l).length ≤ 600 * l.length
  | [], _ => by simp [dropL]
  | p :: r, h => by
    obtain ⟨f1, f2, f3, f4, f5⟩ := part_facts (h p (List.mem_cons_self ..))
    have := dropL_len r (fun x hx => h x (List.mem_cons_of_mem _ hx))
    simp only [dropL, List.length_append, List.length_replicate, bytesOf_length, List.length_cons]
    omega

abbrev Seg := ByteArray × ByteArray × Int
/-- A normal change, by what it keeps: what is put and dropped ahead of each. -/
def flatS (l : List Seg) : List Pt := l.flatMap (fun s => endL s.1 s.2.1 ++ [(s.2.2, (⟨#[]⟩ : ByteArray), (⟨#[]⟩ : ByteArray))])
def byteS (l : List Seg) : List Int := l.flatMap (fun s => bytesOf s.2.1 ++ List.replicate s.2.2.toNat 0)
theorem flatS_app (a b : List Seg) : flatS (a ++ b) = flatS a ++ flatS b := by simp [flatS]
theorem byteS_app (a b : List Seg) : byteS (a ++ b) = byteS a ++ byteS b := by simp [byteS]
theorem flatS_cons (s : Seg) (b : List Seg) : flatS (s :: b) = endL s.1 s.2.1 ++ (s.2.2, (⟨#[]⟩ : ByteArray), (⟨#[]⟩ : ByteArray)) :: flatS b := by simp [flatS]
theorem byteS_cons (s : Seg) (b : List Seg) : byteS (s :: b) = bytesOf s.2.1 ++ (List.replicate s.2.2.toNat 0 ++ byteS b) := by simp [byteS]
theorem bytesOf_app (a b : ByteArray) : bytesOf (a ++ b) = bytesOf a ++ bytesOf b := by unfold bytesOf; rw [ByteArray.data_append]; simp
theorem dropL_app (a b : List IP) : dropL (a ++ b) = dropL a ++ dropL b := by
  induction a with
  | nil => rfl
  | cons p r ih => rw [List.cons_append, dropL, dropL, ih]; simp only [List.append_assoc]
theorem bytesOf_nil {s : ByteArray} (h : s.size = 0) : bytesOf s = [] := by
  rw [← List.length_eq_zero_iff, bytesOf_length]; exact h
def NZ (s : ByteArray) : Prop := ∀ x ∈ bytesOf s, x ≠ 0
structure SegOk (n : Nat) (s : Seg) : Prop where
  put : s.1.size ≤ 300 * n
  drop : s.2.1.size ≤ 300 * n
  nz : NZ s.2.1
  pos : 0 < s.2.2
  top : s.2.2 ≤ 300 * (n : Int)
theorem SegOk.more {n : Nat} {s : Seg} (h : SegOk n s) : SegOk (n + 1) s := by
  obtain ⟨a, b, c, d, e⟩ := h
  exact ⟨by omega, by omega, c, d, by omega⟩
structure SegIs (n : Nat) (l : List IP) (s : List Pt × ByteArray × ByteArray) (g : List Seg) : Prop where
  flat : s.1 = flatS g
  ok : ∀ x ∈ g, SegOk n x
  put : s.2.1.size ≤ 300 * n
  drop : s.2.2.size ≤ 300 * n
  nz : NZ s.2.2
  bytes : byteS g ++ bytesOf s.2.2 = dropL l
  len : g.length ≤ n
theorem keepA_end (L : List Pt) (a b : ByteArray) (x : Int) (h : a.size ≠ 0 ∨ b.size ≠ 0) : keepA (L ++ endL a b) x = L ++ (endL a b ++ [(x, (⟨#[]⟩ : ByteArray), (⟨#[]⟩ : ByteArray))]) := by
  have z : ∀ (M : List Pt) (q : Pt), q.1 = 0 → keepA (M ++ [q]) x = M ++ ([q] ++ [(x, (⟨#[]⟩ : ByteArray), (⟨#[]⟩ : ByteArray))]) := fun M q hq => by rw [keepA_app, if_neg (by omega)]; rfl
  by_cases ha : a.size = 0
  · have hb : b.size ≠ 0 := by omega
    rw [endL_01 ha hb]; exact z L _ rfl
  · by_cases hb : b.size = 0
    · rw [endL_10 ha hb]; exact z L _ rfl
    · rw [endL_11 ha hb]
      have := z (L ++ [(0, a, ⟨#[]⟩)]) (0, ⟨#[]⟩, b) rfl
      rw [List.append_assoc, List.append_assoc] at this
      exact this
theorem seg_step (n : Nat) (l : List IP) (s : List Pt × ByteArray × ByteArray) (g : List Seg) (p : IP) (hn : n ≤ 1000) (h : SegIs n l s g) (hp : One p) (hz : NZ p.f2) : ∃ g', SegIs (n + 1) (l ++ [p]) (takeP s (toP p)) g' := by
  obtain ⟨L, a, b⟩ := s
  obtain ⟨p0, p1, p2⟩ := p
  obtain ⟨s1, s2, s3, s4, s5, s6, s7⟩ := h
  obtain ⟨q1, q2, q3, q4, q5, q6⟩ := hp
  simp only at s1 s2 s3 s4 s5 s6 s7 q1 q2 q3 q4 q5 q6 hz
  have hdl : dropL (l ++ [⟨p0, p1, p2⟩]) = dropL l ++ (List.replicate p0.toNat 0 ++ bytesOf p2) := by rw [dropL_app]; simp [dropL]
  by_cases h0 : p0 = 0
  · subst h0
    have et : takeP (L, a, b) (toP ⟨0, p1, p2⟩) = (L, a ++ p1, b ++ p2) := rfl
    rw [et]
    refine ⟨g, s1, fun x hx => (s2 x hx).more, by show (a ++ p1).size ≤ _; rw [ba_len_app]; omega, by show (b ++ p2).size ≤ _; rw [ba_len_app]; omega, ?_, ?_, by omega⟩
    · intro x hx
      rw [bytesOf_app] at hx
      exact (List.mem_append.1 hx).elim (s5 x) (hz x)
    · show byteS g ++ bytesOf (b ++ p2) = _
      rw [hdl, bytesOf_app, ← List.append_assoc, s6]; simp
  · obtain ⟨h1, h2⟩ := q5.resolve_left h0
    have hk : keepS L a b p0 = (keepA (L ++ endL a b) p0, ⟨#[]⟩, ⟨#[]⟩) := by unfold keepS; rw [if_neg h0]
    have et : takeP (L, a, b) (toP ⟨p0, p1, p2⟩) = (keepA (L ++ endL a b) p0, ⟨#[]⟩, ⟨#[]⟩) := by
      unfold takeP toP
      simp only [hk]
      rw [ba_nil h1, ba_nil h2, ba_app]
    have e2 : bytesOf p2 = [] := bytesOf_nil h2
    have e3 : bytesOf (⟨#[]⟩ : ByteArray) = [] := bytesOf_nil rfl
    have nz0 : NZ (⟨#[]⟩ : ByteArray) := fun x hx => by rw [e3] at hx; cases hx
    rw [et]
    by_cases hab : a.size = 0 ∧ b.size = 0
    · obtain ⟨ha, hb⟩ := hab
      rw [bytesOf_nil hb, List.append_nil] at s6
      have eL : L ++ endL a b = flatS g := by rw [endL_00 ha hb, List.append_nil, s1]
      rw [eL]
      rcases List.eq_nil_or_concat g with e | ⟨g0, s0, e⟩
      · subst e
        refine ⟨[(⟨#[]⟩, ⟨#[]⟩, p0)], ?_, ?_, Nat.zero_le _, Nat.zero_le _, nz0, ?_, by simp⟩
        · show keepA (flatS []) p0 = flatS [(⟨#[]⟩, ⟨#[]⟩, p0)]
          rw [flatS_cons, endL_00 sz0 sz0]; rfl
        · intro x hx
          rw [List.mem_singleton.1 hx]
          exact ⟨Nat.zero_le _, Nat.zero_le _, nz0, by simp only; omega, by simp only; omega⟩
        · show byteS [(⟨#[]⟩, ⟨#[]⟩, p0)] ++ bytesOf (⟨#[]⟩ : ByteArray) = _
          rw [hdl, ← s6, byteS_cons, e2, e3]; simp [byteS]
      · subst e
        obtain ⟨u0, v0, k0⟩ := s0
        have o0 := s2 (u0, v0, k0) (by simp)
        have ek : wrap64 (k0 + p0) = k0 + p0 := by have := o0.pos; have := o0.top; simp only at *; exact wrap_id (by omega) (by omega)
        refine ⟨g0 ++ [(u0, v0, k0 + p0)], ?_, ?_, Nat.zero_le _, Nat.zero_le _, nz0, ?_, by simp at s7 ⊢; omega⟩
        · show keepA (flatS (g0.concat (u0, v0, k0))) p0 = flatS (g0 ++ [(u0, v0, k0 + p0)])
          rw [List.concat_eq_append, flatS_app, flatS_app, flatS_cons, flatS_cons]
          have : flatS g0 ++ (endL u0 v0 ++ (k0, (⟨#[]⟩ : ByteArray), (⟨#[]⟩ : ByteArray)) :: flatS []) = (flatS g0 ++ endL u0 v0) ++ [(k0, (⟨#[]⟩ : ByteArray), (⟨#[]⟩ : ByteArray))] := by rw [List.append_assoc]; rfl
          rw [this, keepA_app, if_pos o0.pos, ek, List.append_assoc]; rfl
        · intro x hx
          rcases List.mem_append.1 hx with hx | hx
          · exact (s2 x (by simp [hx])).more
          · rw [List.mem_singleton.1 hx]
            obtain ⟨a1, a2, a3, a4, a5⟩ := o0
            simp only at a1 a2 a3 a4 a5
            exact ⟨by simp only; omega, by simp only; omega, a3, by simp only; omega, by simp only; omega⟩
        · show byteS (g0 ++ [(u0, v0, k0 + p0)]) ++ bytesOf (⟨#[]⟩ : ByteArray) = _
          have hpos := o0.pos
          simp only at hpos
          have er : List.replicate (k0 + p0).toNat (0 : Int) = List.replicate k0.toNat 0 ++ List.replicate p0.toNat 0 := by
            rw [List.replicate_append_replicate]; congr 1; omega
          rw [List.concat_eq_append] at s6
          rw [hdl, ← s6, byteS_app, byteS_app, byteS_cons, byteS_cons, e2, e3, er]; simp [byteS]
    · rw [keepA_end L a b p0 (by omega)]
      refine ⟨g ++ [(a, b, p0)], ?_, ?_, Nat.zero_le _, Nat.zero_le _, nz0, ?_, by simp; omega⟩
      · show L ++ (endL a b ++ [(p0, (⟨#[]⟩ : ByteArray), (⟨#[]⟩ : ByteArray))]) = flatS (g ++ [(a, b, p0)])
        rw [flatS_app, flatS_cons, ← s1]; rfl
      · intro x hx
        rcases List.mem_append.1 hx with hx | hx
        · exact (s2 x hx).more
        · rw [List.mem_singleton.1 hx]
          exact ⟨by simp only; omega, by simp only; omega, s5, by simp only; omega, by simp only; omega⟩
      · show byteS (g ++ [(a, b, p0)]) ++ bytesOf (⟨#[]⟩ : ByteArray) = _
        rw [hdl, ← s6, byteS_app, byteS_cons, e2, e3]; simp [byteS]
theorem part_nz {p : IP} (h : partB p = true) : NZ p.f2 := by
  intro x hx
  have hg : goodB (bytesOf p.f2) = true := by
    unfold partB at h
    by_cases c0 : p.f0 = 0
    · rw [if_pos c0] at h
      by_cases c1 : p.f1.toList = ([] : List UInt8)
      · rw [if_pos c1] at h
        by_cases c2 : p.f2.toList = ([] : List UInt8)
        · rw [if_pos c2] at h; cases h
        · rw [if_neg c2] at h; exact h
      · rw [if_neg c1] at h
        by_cases c2 : p.f2.toList = ([] : List UInt8)
        · rw [bytesOf_nil ((toList_nil _).1 c2)] at hx; cases hx
        · rw [if_neg c2] at h; cases h
    · rw [if_neg c0, Bool.and_eq_true, Bool.and_eq_true] at h
      have := (toList_nil _).1 (by simpa using h.2.2)
      rw [bytesOf_nil this] at hx; cases hx
  unfold goodB textB at hg
  rw [Bool.and_eq_true, List.all_eq_true] at hg
  have := hg.1 x hx
  unfold okB openB plainB at this
  simp only [Bool.or_eq_true, decide_eq_true_eq] at this
  omega
theorem seg_all (l : List IP) (hl : l.length ≤ 60) (hp : ∀ p ∈ l, partB p = true) : ∀ i, i ≤ l.length → ∃ g, SegIs i (l.take i) (stN l i) g
  | 0, _ => by
    have e0 : stN l 0 = ([], (⟨#[]⟩ : ByteArray), (⟨#[]⟩ : ByteArray)) := rfl
    have e3 : bytesOf (⟨#[]⟩ : ByteArray) = [] := bytesOf_nil rfl
    rw [e0]
    refine ⟨[], rfl, ?_, Nat.le_refl _, Nat.le_refl _, ?_, ?_, Nat.le_refl _⟩
    · intro x hx; cases hx
    · intro x hx
      rw [e3] at hx; cases hx
    · show byteS [] ++ bytesOf (⟨#[]⟩ : ByteArray) = _
      rw [e3]; rfl
  | i + 1, h => by
    obtain ⟨g, hg⟩ := seg_all l hl hp i (by omega)
    have hm := hp _ (List.getElem_mem (show i < l.length by omega))
    obtain ⟨g', hg'⟩ := seg_step i (l.take i) (stN l i) g (l[i]'(by omega)) (by omega) hg (part_one hm) (part_nz hm)
    rw [stN_succ l i (by omega), List.take_succ_eq_append_getElem (by omega)]
    exact ⟨g', hg'⟩
/-- The normal change, by what it keeps. -/
theorem norm_segs (l : List IP) (hl : l.length ≤ 60) (hp : ∀ p ∈ l, partB p = true) : ∃ (g : List Seg) (a b : ByteArray), normI l = (flatS g ++ endL a b).map ofP ∧ (∀ x ∈ g, SegOk 60 x) ∧ a.size ≤ 18000 ∧ b.size ≤ 18000 ∧ NZ b ∧ byteS g ++ bytesOf b = dropL l ∧ g.length ≤ 60 := by
  obtain ⟨g, s1, s2, s3, s4, s5, s6, s7⟩ := seg_all l hl hp l.length (Nat.le_refl _)
  have e : stN l l.length = (l.map toP).foldl takeP ([], ⟨#[]⟩, ⟨#[]⟩) := by unfold stN; rw [List.take_of_length_le (Nat.le_refl _)]
  rw [List.take_of_length_le (Nat.le_refl _)] at s6
  refine ⟨g, (stN l l.length).2.1, (stN l l.length).2.2, ?_, fun x hx => ?_, by omega, by omega, s5, s6, by omega⟩
  · unfold normI normP; rw [← e, s1]
  · obtain ⟨a1, a2, a3, a4, a5⟩ := s2 x hx
    exact ⟨by omega, by omega, a3, a4, by omega⟩
theorem at_idx (pre suf : List IP) (p : IP) : gt izP (pre ++ p :: suf) pre.length = p := by
  unfold gt; rw [List.getD_eq_getElem?_getD, List.getElem?_append_right (Nat.le_refl _)]; simp
theorem gt_app_lz {α : Type} (z : α) (a b : List α) (j : Nat) (h : j < a.length) : gt z (a ++ b) j = gt z a j := by
  unfold gt; rw [List.getD_eq_getElem?_getD, List.getElem?_append_left h, ← List.getD_eq_getElem?_getD]

def nP (p : IP) : Nat := p.f0.toNat + p.f2.size
def tsum : List IP → Nat
  | [] => 0
  | p :: r => nP p + tsum r
theorem nP_le {p : IP} (h : partB p = true) : nP p ≤ 600 := by
  obtain ⟨f1, f2, f3, f4, f5⟩ := part_facts h
  unfold nP; omega
theorem wrap_nP {p : IP} (h : partB p = true) : wrap64 (p.f0 + (p.f2.size : Int)) = (nP p : Int) := by
  obtain ⟨f1, f2, f3, f4, f5⟩ := part_facts h
  rw [wrap_id (by omega) (by omega)]; unfold nP; omega
theorem tkS_is : ∀ (l : List IP), (∀ p ∈ l, partB p = true) → ∀ a : Nat, a + 600 * l.length ≤ 4611686018427387904 → tkS l (a : Int) = ((a + tsum l : Nat) : Int)
  | [], _, a, _ => by simp [tkS, tsum]
  | p :: r, h, a, hb => by
    have hp := h p (List.mem_cons_self ..)
    have hn := nP_le hp
    rw [List.length_cons] at hb
    unfold tkS tsum
    rw [wrap_nP hp, show wrap64 ((a : Int) + (nP p : Int)) = ((a + nP p : Nat) : Int) by rw [wrap_id (by omega) (by omega)]; omega, tkS_is r (fun x hx => h x (List.mem_cons_of_mem _ hx)) (a + nP p) (by omega), Nat.add_assoc]
abbrev E0 : ByteArray := ⟨#[]⟩
def apS : List IP → ByteArray → ByteArray → ByteArray × Bool
  | [], s, o => (o, s.toList == ([] : List UInt8))
  | p :: r, s, o => if nP p > s.size then (E0, false) else (if p.f2.size ≠ 0 ∧ (s.extract 0 (nP p)).toList ≠ p.f2.toList then (E0, false) else apS r (s.extract (nP p) s.size) (if p.f0 > 0 then (o ++ s.extract 0 (nP p)) ++ p.f1 else o ++ p.f1))
def apI : List IP → ByteArray → ByteArray → ByteArray × Bool
  | [], _, o => (o, true)
  | p :: r, s, o => if (s.extract 0 p.f2.size).toList = p.f2.toList then apI r (s.extract (nP p) s.size) (o ++ (s.extract 0 p.f0.toNat ++ p.f1)) else (E0, false)
theorem size_ext (s : ByteArray) (a b : Nat) : (s.extract a b).size = min b s.size - a := by simp
theorem spec_l3Apply_l (l : List IP) (hl : l.length ≤ 60) (hp : ∀ p ∈ l, partB p = true) (d : Nat) : ∀ (i : Nat) (s o : ByteArray), i + d = l.length → s.size ≤ 140737488351232 → o.size ≤ 1000 * i →
    Ev (fun k => spec_l3Apply.l0 k s o l (l.length : Int) (i : Int)) (apS (l.drop i) s o) := by
  induction d with
  | zero =>
    intro i s o hi hs ho
    refine Ev.step (fun k => by rw [spec_l3Apply.l0]) ?_
    refine ev_neg (by omega) (ev_ret ?_)
    rw [List.drop_eq_nil_of_le (by omega)]; rfl
  | succ d ih =>
    intro i s o hi hs ho
    have hpi := hp _ (gt_mem izP l i (by omega))
    obtain ⟨f1, f2, f3, f4, f5⟩ := part_facts hpi
    have hn := nP_le hpi
    refine Ev.step (fun k => by rw [spec_l3Apply.l0]) ?_
    refine ev_pos (by omega) (ev_pos (by omega) (ev_pos (by omega) ?_))
    rw [gt_drop izP l i (by omega)]
    simp only [rd_ip, wrap_nP hpi]
    unfold apS
    have J : ∀ b : Bool, Ev (fun k => spec_l3Apply.j1 k s o (nP (gt izP l i) : Int) l (l.length : Int) (i : Int) b (gt izP l i).f0 (gt izP l i).f1 (gt izP l i).f2)
        (if b = true then (E0, false) else (if nP (gt izP l i) ≤ s.size then apS (l.drop (i + 1)) (s.extract (nP (gt izP l i)) s.size) (if (gt izP l i).f0 > 0 then (o ++ s.extract 0 (nP (gt izP l i))) ++ (gt izP l i).f1 else o ++ (gt izP l i).f1) else (E0, false))) ∨ s.size < nP (gt izP l i) ∧ b = false := by
      intro b
      by_cases hsz : s.size < nP (gt izP l i) ∧ b = false
      · exact Or.inr hsz
      left
      refine Ev.step (fun k => by rw [spec_l3Apply.j1]) ?_
      refine ev_if (fun h => by rw [if_pos h]; exact ev_ret rfl) (fun h => ?_)
      rw [if_neg h]
      rw [Bool.not_eq_true] at h
      have hle : nP (gt izP l i) ≤ s.size := by
        by_cases q : s.size < nP (gt izP l i)
        · exact absurd ⟨q, h⟩ hsz
        · omega
      rw [if_pos hle, wrap_succ i (by omega)]
      have hx : (s.extract 0 (nP (gt izP l i))).size ≤ 600 := by rw [size_ext]; omega
      have hx' : (s.extract (nP (gt izP l i)) s.size).size ≤ 140737488351232 := by rw [size_ext]; omega
      refine ev_if (fun g => ?_) (fun g => ?_)
      · rw [if_pos g]
        refine ev_pos (by omega) (ev_pos (by omega) (ev_pos (by rw [Int.toNat_natCast]; omega) (ev_pos (by rw [Int.toNat_natCast, ByteArray.size_append]; omega) ?_)))
        rw [Int.toNat_natCast]
        exact ih (i + 1) _ _ (by omega) hx' (by rw [ByteArray.size_append, ByteArray.size_append]; omega)
      · rw [if_neg g]
        refine ev_pos (by omega) (ev_pos (by omega) (ev_pos (by omega) ?_))
        rw [Int.toNat_natCast]
        exact ih (i + 1) _ _ (by omega) hx' (by rw [ByteArray.size_append]; omega)
    refine ev_if (fun h => ?_) (fun h => ?_)
    · rw [if_pos (by omega)]
      rcases J true with j | j
      · rw [if_pos rfl] at j; exact j
      · cases j.2
    · rw [if_neg (by omega)]
      refine ev_if (fun g => ?_) (fun g => ?_)
      · rw [toList_nil] at g
        rw [if_neg (fun q => q.1 g)]
        rcases J false with j | j
        · rw [if_neg (by simp), if_pos (by omega)] at j; exact j
        · omega
      · rw [toList_nil] at g
        refine ev_pos (by omega) (ev_pos (by omega) ?_)
        rw [Int.toNat_natCast]
        rcases J ((s.extract 0 (nP (gt izP l i))).toList != (gt izP l i).f2.toList) with j | j
        · refine ev_val j ?_
          by_cases e : (s.extract 0 (nP (gt izP l i))).toList = (gt izP l i).f2.toList
          · rw [if_neg (by simp [e]), if_pos (by omega), if_neg (show ¬ ((gt izP l i).f2.size ≠ 0 ∧ (s.extract 0 (nP (gt izP l i))).toList ≠ (gt izP l i).f2.toList) from fun q => q.2 e)]
          · rw [if_pos (by simpa using e), if_pos ⟨g, e⟩]
        · omega
theorem bnd2 {b c : Nat} (h1 : b ≤ 300) (h2 : c ≤ 300) : b + c ≤ 9223372036854775807 := by omega
theorem bnd3 {i a b c : Nat} (h0 : a ≤ 1000 * i) (h1 : b ≤ 300) (h2 : c ≤ 300) (h3 : i ≤ 60) : a + (b + c) ≤ 9223372036854775807 := by omega
theorem bnd4 {i a b c : Nat} (h0 : a ≤ 1000 * i) (h1 : b ≤ 300) (h2 : c ≤ 300) : a + (b + c) ≤ 1000 * (i + 1) := by omega
theorem bnd5 {f : Int} {n t s g : Nat} (h : s = n + t) (hd : n = f.toNat + g) (f1 : 0 ≤ f) : f ≤ (s : Int) ∧ (n : Int) ≤ (s : Int) ∧ (g : Int) ≤ (s : Int) := by omega
theorem impl_ApplyOp_l (l : List IP) (hl : l.length ≤ 60) (hp : ∀ p ∈ l, partB p = true) (d : Nat) : ∀ (i : Nat) (s o : ByteArray), i + d = l.length → s.size = tsum (l.drop i) → s.size ≤ 140737488351232 → o.size ≤ 1000 * i →
    Ev (fun k => impl_ApplyOp.l0 k s o l (l.length : Int) (i : Int)) (apI (l.drop i) s o) := by
  induction d with
  | zero =>
    intro i s o hi ht hs ho
    refine Ev.step (fun k => by rw [impl_ApplyOp.l0]) ?_
    refine ev_neg (by omega) (ev_ret ?_)
    rw [List.drop_eq_nil_of_le (by omega)]; rfl
  | succ d ih =>
    intro i s o hi ht hs ho
    have hpi := hp _ (gt_mem izP l i (by omega))
    obtain ⟨f1, f2, f3, f4, f5⟩ := part_facts hpi
    have hn := nP_le hpi
    refine Ev.step (fun k => by rw [impl_ApplyOp.l0]) ?_
    refine ev_pos (by omega) (ev_pos (by omega) (ev_pos (by omega) ?_))
    rw [gt_drop izP l i (by omega)] at ht ⊢
    unfold tsum at ht
    have hd : nP (gt izP l i) = (gt izP l i).f0.toNat + (gt izP l i).f2.size := rfl
    have hw1 := wrap_succ i (by omega)
    simp only [rd_ip, wrap_nP hpi, hw1]
    unfold apI
    have hx : (s.extract 0 (gt izP l i).f0.toNat).size ≤ 300 := by rw [size_ext]; omega
    have hx' : (s.extract (nP (gt izP l i)) s.size).size ≤ 140737488351232 := by rw [size_ext]; omega
    refine ev_pos (Int.natCast_nonneg _) (ev_pos (bnd5 ht hd f1).2.2 ?_)
    rw [Int.toNat_natCast]
    refine ev_if (fun h => ?_) (fun h => by rw [if_neg h]; exact ev_ret rfl)
    rw [if_pos h]
    have i60 : i ≤ 60 := Nat.le_trans (Nat.le_of_lt (Nat.lt_of_lt_of_le (Nat.lt_add_of_pos_right (Nat.succ_pos d)) (Nat.le_of_eq hi))) hl
    obtain ⟨fs, fn, _⟩ := bnd5 ht hd f1
    refine ev_pos f1 (ev_pos fs (ev_pos (bnd2 hx f3) (ev_pos (by rw [ByteArray.size_append]; exact bnd3 ho hx f3 i60) (ev_pos (Int.natCast_nonneg _) (ev_pos fn ?_)))))
    rw [Int.toNat_natCast]
    exact ih (i + 1) (s.extract (nP (gt izP l i)) s.size) (o ++ (s.extract 0 (gt izP l i).f0.toNat ++ (gt izP l i).f1)) (by omega) (by rw [size_ext, ht]; clear ih; omega) hx' (by rw [ByteArray.size_append, ByteArray.size_append]; exact bnd4 ho hx f3)
theorem size0 (s : ByteArray) (n : Nat) (h : n = 0) : s.extract 0 n = E0 := by subst h; simp [E0]; rfl
theorem e0_app (x : ByteArray) : E0 ++ x = x := ByteArray.empty_append
theorem apS_I : ∀ (l : List IP), (∀ p ∈ l, partB p = true) → ∀ s o : ByteArray, s.size = tsum l → apS l s o = apI l s o
  | [], _, s, o, h => by
    unfold apS apI
    rw [(toList_nil s).2 h]; rfl
  | p :: r, hp, s, o, h => by
    obtain ⟨f1, f2, f3, f4, f5⟩ := part_facts (hp p (List.mem_cons_self ..))
    unfold tsum at h
    have ih := fun o => apS_I r (fun x hx => hp x (List.mem_cons_of_mem _ hx)) (s.extract (nP p) s.size) o (by rw [size_ext]; omega)
    have hd : nP p = p.f0.toNat + p.f2.size := rfl
    unfold apS apI
    rw [if_neg (by omega)]
    by_cases g : p.f2.size = 0
    · have e1 : (s.extract 0 p.f2.size).toList = p.f2.toList := by rw [(toList_nil p.f2).2 g, toList_nil, size_ext]; omega
      rw [if_neg (fun q => q.1 g), if_pos e1, ih]
      by_cases c : p.f0 > 0
      · rw [if_pos c, show nP p = p.f0.toNat by omega, ByteArray.append_assoc]
      · rw [if_neg c, size0 s p.f0.toNat (by omega), e0_app]
    · have h0 : p.f0 = 0 := by omega
      have hn : nP p = p.f2.size := by omega
      rw [hn] at ih ⊢
      by_cases e : (s.extract 0 p.f2.size).toList = p.f2.toList
      · rw [if_neg (fun q => q.2 e), if_pos e, ih, if_neg (by omega), size0 s p.f0.toNat (by omega), e0_app]
      · rw [if_pos ⟨g, e⟩, if_neg e]
theorem apS_no : ∀ (l : List IP), ∀ s o : ByteArray, s.size ≠ tsum l → (apS l s o).2 = false
  | [], s, o, h => by
    unfold apS
    have : ¬ s.toList = ([] : List UInt8) := fun q => h ((toList_nil s).1 q)
    simpa using this
  | p :: r, s, o, h => by
    unfold apS
    unfold tsum at h
    by_cases c : nP p > s.size
    · rw [if_pos c]
    · rw [if_neg c]
      by_cases g : p.f2.size ≠ 0 ∧ (s.extract 0 (nP p)).toList ≠ p.f2.toList
      · rw [if_pos g]
      · rw [if_neg g]
        exact apS_no r _ _ (by rw [size_ext]; omega)
def apR (l : List IP) (s : ByteArray) : ByteArray × Bool := if goodO l = true then (if goodB (bytesOf s) = true then (if s.size = tsum l then (if (apI l s E0).2 = true then apI l s E0 else (E0, false)) else (E0, false)) else (E0, false)) else (E0, false)
theorem spec_ApplyOp_f (l : List IP) (s : ByteArray) (hw : ∀ x ∈ l, x.f1.size ≤ 1048576 ∧ x.f2.size ≤ 1048576) (hs : s.size ≤ 140737488351232) : Ev (fun k => spec_ApplyOp.f k l s) (apR l s) := by
  unfold spec_ApplyOp.f apR
  refine Ev.bind (spec_GoodOp_f l hw) (ev_if (fun g => ?_) (fun g => ?_))
  · rw [if_pos g]
    obtain ⟨hl, hp, _, _⟩ := goodO_facts g
    refine Ev.bind (spec_GoodText_f s hs) ?_
    refine Ev.step (fun k => by rw [spec_ApplyOp.j0]) ?_
    by_cases gs : goodB (bytesOf s) = true
    · rw [if_pos gs]
      refine ev_neg (by rw [gs]; simp) ?_
      have H : Ev (fun k => spec_l3Apply.f k l s) (apS l s E0) := by
        unfold spec_l3Apply.f
        exact spec_l3Apply_l l hl hp l.length 0 s _ (by omega) hs (Nat.le_refl 0)
      refine Ev.bind H ?_
      by_cases c : s.size = tsum l
      · rw [if_pos c, apS_I l hp s _ c]
        exact ev_if (fun q => by rw [if_pos q]; exact ev_ret (by rw [← q])) (fun q => by rw [if_neg q]; exact ev_ret rfl)
      · rw [if_neg c]
        exact ev_neg (by rw [apS_no l s _ c]; simp) (ev_ret rfl)
    · rw [if_neg gs]
      rw [Bool.not_eq_true] at gs
      exact ev_pos (by rw [gs]; rfl) (ev_ret rfl)
  · rw [if_neg g]
    refine Ev.step (fun k => by rw [spec_ApplyOp.j0]) ?_
    exact ev_pos rfl (ev_ret rfl)
theorem apI_no : ∀ (l : List IP) (s o : ByteArray), (apI l s o).2 = false → apI l s o = (E0, false)
  | [], s, o, h => by unfold apI at h; cases h
  | p :: r, s, o, h => by
    unfold apI at h ⊢
    by_cases e : (s.extract 0 p.f2.size).toList = p.f2.toList
    · rw [if_pos e] at h ⊢; exact apI_no r _ _ h
    · rw [if_neg e]
theorem impl_ApplyOp_f (l : List IP) (s : ByteArray) (hw : ∀ x ∈ l, x.f1.size ≤ 1048576 ∧ x.f2.size ≤ 1048576) (hs : s.size ≤ 140737488351232) : Ev (fun k => impl_ApplyOp.f k l s) (apR l s) := by
  unfold impl_ApplyOp.f apR
  refine Ev.bind (impl_GoodOp_f l hw) (ev_if (fun g => ?_) (fun g => ?_))
  · rw [if_pos g]
    obtain ⟨hl, hp, _, _⟩ := goodO_facts g
    refine Ev.bind (impl_GoodText_f s hs) ?_
    refine Ev.step (fun k => by rw [impl_ApplyOp.j0]) ?_
    by_cases gs : goodB (bytesOf s) = true
    · rw [if_pos gs]
      refine ev_neg (by rw [gs]; simp) (Ev.bind (impl_sizes_f l (by omega)) ?_)
      have ht : tkS l 0 = ((tsum l : Nat) : Int) := by
        have := tkS_is l hp 0 (by omega)
        rw [Nat.zero_add] at this; exact this
      by_cases c : s.size = tsum l
      · rw [if_pos c]
        refine ev_pos (by show tkS l 0 = _; omega) ?_
        have H := impl_ApplyOp_l l hl hp l.length 0 s E0 (by omega) (by rw [List.drop_zero]; exact c) hs (Nat.le_refl 0)
        refine ev_val H ?_
        rw [List.drop_zero]
        by_cases q : (apI l s E0).2 = true
        · rw [if_pos q]
        · rw [if_neg q]; exact apI_no l s _ (by simpa using q)
      · rw [if_neg c]
        exact ev_neg (by show ¬ tkS l 0 = _; omega) (ev_ret rfl)
    · rw [if_neg gs]
      rw [Bool.not_eq_true] at gs
      exact ev_pos (by rw [gs]; rfl) (ev_ret rfl)
  · rw [if_neg g]
    refine Ev.step (fun k => by rw [impl_ApplyOp.j0]) ?_
    exact ev_pos rfl (ev_ret rfl)

theorem one_sw {p : IP} (h : One p) : One (swS p) := by
  obtain ⟨a1, a2, a3, a4, a5, a6⟩ := h
  exact ⟨a1, a2, a4, a3, a5.imp_right (fun q => ⟨q.2, q.1⟩), a6.symm⟩
theorem invert_l (l : List IP) (hl : l.length ≤ 60) (hp : ∀ p ∈ l, One p) (d : Nat) : ∀ i : Nat, i + d = l.length → Fit i (stN (l.map swS) i) →
    Ev (fun k => spec_l3Invert.l0 k (allP (stN (l.map swS) i)) l (l.length : Int) (i : Int)) (normI (l.map swS)) := by
  have hll : (l.map swS).length = l.length := List.length_map _
  induction d with
  | zero =>
    intro i hi hf
    refine Ev.step (fun k => by rw [spec_l3Invert.l0]) ?_
    refine ev_neg (by omega) (ev_ret ?_)
    have e : stN (l.map swS) i = ((l.map swS).map toP).foldl takeP ([], ⟨#[]⟩, ⟨#[]⟩) := by unfold stN; rw [List.take_of_length_le (by omega)]
    unfold allP normI normP; rw [e]
  | succ d ih =>
    intro i hi hf
    have hm := one_sw (hp _ (gt_mem izP l i (by omega)))
    have es := stN_succ (l.map swS) i (by omega)
    have eg : (l.map swS)[i]'(by omega) = swS (gt izP l i) := by rw [List.getElem_map]; unfold gt; rw [List.getD_eq_getElem?_getD, List.getElem?_eq_getElem (by omega)]; rfl
    rw [eg] at es
    obtain ⟨h1, h2⟩ := add_step i (stN (l.map swS) i) (swS (gt izP l i)) (by omega) hf hm
    rw [← es] at h1 h2
    refine Ev.step (fun k => by rw [spec_l3Invert.l0]) ?_
    refine ev_pos (by omega) (ev_pos (by omega) (ev_pos (by omega) ?_))
    rw [wrap_succ i (by omega)]
    simp only [rd_ip]
    exact Ev.bind h1 (ih (i + 1) (by omega) h2)
theorem spec_l3Invert_f (l : List IP) (hl : l.length ≤ 60) (hp : ∀ p ∈ l, One p) : Ev (fun k => spec_l3Invert.f k l) (normI (l.map swS)) := by
  unfold spec_l3Invert.f
  have e : allP (stN (l.map swS) 0) = [] := by
    have e0 : stN (l.map swS) 0 = ([], (⟨#[]⟩ : ByteArray), (⟨#[]⟩ : ByteArray)) := rfl
    rw [e0]; unfold allP; rw [endL_00 sz0 sz0]; rfl
  have := invert_l l hl hp l.length 0 (by omega) fit_zero
  rw [e] at this
  exact this
theorem all_sw {l : List IP} (hp : ∀ p ∈ l, One p) : ∀ p ∈ l.map swS, One p := fun p h => by
  obtain ⟨q, hq, rfl⟩ := List.mem_map.1 h
  exact one_sw (hp q hq)
theorem impl_inverted_f (l : List IP) (hl : l.length ≤ 60) (hp : ∀ p ∈ l, One p) : impl_inverted.f l = some (normI (l.map swS)) := by
  unfold impl_inverted.f
  exact impl_normal_f _ (by rw [List.length_map]; exact hl) (all_sw hp)
def invR (l : List IP) : List IP × Bool := if goodO l = true then (normI (l.map swS), true) else ([], false)
theorem invR_len (l : List IP) : (invR l).1.length ≤ 200 := by
  unfold invR
  by_cases h : goodO l = true
  · rw [if_pos h]; obtain ⟨a, b, _, _⟩ := goodO_facts h; exact normI_len _ (by rw [List.length_map]; exact a) (all_sw (fun p hp => part_one (b p hp)))
  · rw [if_neg h]; exact Nat.zero_le _
theorem spec_InvertOp_f (l : List IP) (hw : ∀ x ∈ l, x.f1.size ≤ 1048576 ∧ x.f2.size ≤ 1048576) : Ev (fun k => spec_InvertOp.f k l) (invR l) := by
  unfold spec_InvertOp.f invR
  refine Ev.bind (spec_GoodOp_f l hw) (ev_if (fun h => ?_) (fun h => by rw [if_neg h]; exact ev_ret rfl))
  obtain ⟨a, b, _, _⟩ := goodO_facts h
  rw [if_pos h]
  exact Ev.bind (spec_l3Invert_f l a (fun p hp => part_one (b p hp))) (ev_ret rfl)
theorem impl_InvertOp_f (l : List IP) (hw : ∀ x ∈ l, x.f1.size ≤ 1048576 ∧ x.f2.size ≤ 1048576) : Ev (fun k => impl_InvertOp.f k l) (invR l) := by
  unfold impl_InvertOp.f invR
  refine Ev.bind (impl_GoodOp_f l hw) (ev_if (fun h => ?_) (fun h => by rw [if_neg h]; exact ev_ret rfl))
  obtain ⟨a, b, _, _⟩ := goodO_facts h
  rw [if_pos h]
  exact ev_eq (impl_inverted_f l a (fun p hp => part_one (b p hp))) (ev_ret rfl)

abbrev GS := List Seg × ByteArray × ByteArray
/-- One keep more, behind what is put and dropped. -/
def addG (g : List Seg) (a b : ByteArray) (k : Int) : List Seg :=
  if a.size = 0 ∧ b.size = 0 then (match g.getLast? with | some s => g.dropLast ++ [(s.1, s.2.1, s.2.2 + k)] | none => [(a, b, k)]) else g ++ [(a, b, k)]
def stepG (s : GS) (p : IP) : GS := if p.f0 = 0 then (s.1, s.2.1 ++ p.f1, s.2.2 ++ p.f2) else (addG s.1 s.2.1 s.2.2 p.f0, ⟨#[]⟩, ⟨#[]⟩)
def foldG (l : List IP) : GS := l.foldl stepG ([], ⟨#[]⟩, ⟨#[]⟩)
theorem addG_nil {a b : ByteArray} (h : a.size = 0 ∧ b.size = 0) (k : Int) : addG [] a b k = [(a, b, k)] := by unfold addG; rw [if_pos h]; rfl
theorem addG_join {a b : ByteArray} (h : a.size = 0 ∧ b.size = 0) (g : List Seg) (s : Seg) (k : Int) : addG (g ++ [s]) a b k = g ++ [(s.1, s.2.1, s.2.2 + k)] := by
  unfold addG; rw [if_pos h]; simp
theorem addG_new {a b : ByteArray} (h : ¬ (a.size = 0 ∧ b.size = 0)) (g : List Seg) (k : Int) : addG g a b k = g ++ [(a, b, k)] := by unfold addG; rw [if_neg h]
def BdG (B : Int) (g : List Seg) : Prop := ∀ x ∈ g, 0 < x.2.2 ∧ x.2.2 ≤ B
theorem bd_add {B : Int} {g : List Seg} (h : BdG B g) (hB : 0 ≤ B) (a b : ByteArray) (k : Int) (hk : 0 < k) (hk2 : k ≤ 300) : BdG (B + 300) (addG g a b k) := by
  have h' : BdG (B + 300) g := fun x hx => by have := h x hx; omega
  have hn : ∀ u v : ByteArray, 0 < (u, v, k).2.2 ∧ (u, v, k).2.2 ≤ B + 300 := fun u v => by dsimp only; omega
  by_cases c : a.size = 0 ∧ b.size = 0
  · rcases List.eq_nil_or_concat g with e | ⟨g0, s0, e⟩
    · subst e
      rw [addG_nil c]
      intro x hx; rw [List.mem_singleton.1 hx]; exact hn _ _
    · rw [List.concat_eq_append] at e
      subst e
      rw [addG_join c]
      intro x hx
      rcases List.mem_append.1 hx with q | q
      · exact h' x (List.mem_append_left _ q)
      · rw [List.mem_singleton.1 q]
        have := h s0 (by simp)
        dsimp only; omega
  · rw [addG_new c]
    intro x hx
    rcases List.mem_append.1 hx with q | q
    · exact h' x q
    · rw [List.mem_singleton.1 q]; exact hn _ _
theorem sim_step {B : Int} {g : List Seg} (h : BdG B g) (hB : 0 ≤ B) (hB2 : B ≤ 1000000000) (a b : ByteArray) (p : IP) (hp : One p) :
    takeP (flatS g, a, b) (toP p) = (flatS (stepG (g, a, b) p).1, (stepG (g, a, b) p).2) ∧ BdG (B + 300) (stepG (g, a, b) p).1 := by
  obtain ⟨p0, p1, p2⟩ := p
  obtain ⟨q1, q2, q3, q4, q5, q6⟩ := hp
  simp only at q1 q2 q3 q4 q5 q6
  by_cases h0 : p0 = 0
  · subst h0
    exact ⟨rfl, fun x hx => by have := h x hx; omega⟩
  · obtain ⟨h1, h2⟩ := q5.resolve_left h0
    have es : stepG (g, a, b) ⟨p0, p1, p2⟩ = (addG g a b p0, ⟨#[]⟩, ⟨#[]⟩) := by unfold stepG; rw [if_neg h0]
    have hk : keepS (flatS g) a b p0 = (keepA (flatS g ++ endL a b) p0, ⟨#[]⟩, ⟨#[]⟩) := by unfold keepS; rw [if_neg h0]
    have et : takeP (flatS g, a, b) (toP ⟨p0, p1, p2⟩) = (keepA (flatS g ++ endL a b) p0, ⟨#[]⟩, ⟨#[]⟩) := by
      unfold takeP toP
      simp only [hk]
      rw [ba_nil h1, ba_nil h2, ba_app]
    rw [et, es]
    refine ⟨?_, bd_add h hB a b p0 (by omega) q2⟩
    congr 1
    by_cases c : a.size = 0 ∧ b.size = 0
    · rw [endL_00 c.1 c.2, List.append_nil]
      rcases List.eq_nil_or_concat g with e | ⟨g0, s0, e⟩
      · subst e
        rw [addG_nil c, flatS_cons, endL_00 c.1 c.2]; rfl
      · rw [List.concat_eq_append] at e
        subst e
        have hs := h s0 (by simp)
        rw [addG_join c, flatS_app, flatS_app, flatS_cons, flatS_cons]
        have e1 : flatS g0 ++ (endL s0.1 s0.2.1 ++ (s0.2.2, (⟨#[]⟩ : ByteArray), (⟨#[]⟩ : ByteArray)) :: flatS []) = (flatS g0 ++ endL s0.1 s0.2.1) ++ [(s0.2.2, (⟨#[]⟩ : ByteArray), (⟨#[]⟩ : ByteArray))] := by rw [List.append_assoc]; rfl
        rw [e1, keepA_app, if_pos hs.1, wrap_id (by dsimp only; omega) (by dsimp only; omega), List.append_assoc]; rfl
    · rw [addG_new c, flatS_app, flatS_cons, keepA_end _ _ _ _ (by omega)]; rfl
theorem sim_fold : ∀ (l : List IP) (g : List Seg) (a b : ByteArray) (B : Int), (∀ p ∈ l, One p) → BdG B g → 0 ≤ B → B + 300 * (l.length : Int) ≤ 1000000000 →
    (l.map toP).foldl takeP (flatS g, a, b) = (flatS (l.foldl stepG (g, a, b)).1, (l.foldl stepG (g, a, b)).2) ∧ BdG (B + 300 * (l.length : Int)) (l.foldl stepG (g, a, b)).1
  | [], g, a, b, B, _, h, hB, hB2 => ⟨rfl, by simpa using h⟩
  | p :: r, g, a, b, B, hp, h, hB, hB2 => by
    rw [List.length_cons] at hB2 ⊢
    obtain ⟨e1, e2⟩ := sim_step h hB (by omega) a b p (hp p (List.mem_cons_self ..))
    obtain ⟨e3, e4⟩ := sim_fold r _ (stepG (g, a, b) p).2.1 (stepG (g, a, b) p).2.2 (B + 300) (fun x hx => hp x (List.mem_cons_of_mem _ hx)) e2 (by omega) (by omega)
    rw [List.map_cons, List.foldl_cons, e1, List.foldl_cons]
    refine ⟨e3, ?_⟩
    have : B + 300 + 300 * (r.length : Int) = B + 300 * ((r.length + 1 : Nat) : Int) := by omega
    rw [← this]; exact e4
/-- The normal change is the fold, laid flat. -/
theorem norm_fold (l : List IP) (hl : l.length ≤ 1000) (hp : ∀ p ∈ l, One p) : normI l = (flatS (foldG l).1 ++ endL (foldG l).2.1 (foldG l).2.2).map ofP ∧ BdG 300000 (foldG l).1 := by
  obtain ⟨e, h⟩ := sim_fold l [] ⟨#[]⟩ ⟨#[]⟩ 0 hp (fun x hx => by cases hx) (Int.le_refl _) (by omega)
  refine ⟨?_, fun x hx => by have := h x hx; omega⟩
  have e0 : flatS [] = [] := rfl
  rw [e0] at e
  unfold normI normP foldG
  rw [e]
def swG (s : GS) : GS := (s.1.map (fun x => (x.2.1, x.1, x.2.2)), s.2.2, s.2.1)
theorem add_sw (g : List Seg) (a b : ByteArray) (k : Int) : addG (g.map (fun x => (x.2.1, x.1, x.2.2))) b a k = (addG g a b k).map (fun x => (x.2.1, x.1, x.2.2)) := by
  by_cases c : a.size = 0 ∧ b.size = 0
  · have c' : b.size = 0 ∧ a.size = 0 := ⟨c.2, c.1⟩
    rcases List.eq_nil_or_concat g with e | ⟨g0, s0, e⟩
    · subst e; rw [addG_nil c, List.map_nil, addG_nil c']; rfl
    · rw [List.concat_eq_append] at e
      subst e
      rw [addG_join c, List.map_append, List.map_append]
      exact addG_join c' _ _ _
  · rw [addG_new c, addG_new (fun q => c ⟨q.2, q.1⟩), List.map_append]; rfl
theorem step_sw (s : GS) (p : IP) : stepG (swG s) (swS p) = swG (stepG s p) := by
  unfold stepG
  by_cases h0 : p.f0 = 0
  · rw [if_pos h0, if_pos (show (swS p).f0 = 0 from h0)]; rfl
  · rw [if_neg h0, if_neg (show ¬ (swS p).f0 = 0 from h0)]
    show (addG (s.1.map _) s.2.2 s.2.1 p.f0, _) = _
    rw [add_sw]; rfl
theorem fold_sw : ∀ (l : List IP) (s : GS), (l.map swS).foldl stepG (swG s) = swG (l.foldl stepG s)
  | [], s => rfl
  | p :: r, s => by rw [List.map_cons, List.foldl_cons, step_sw, fold_sw r, List.foldl_cons]
/-- Turned round, the fold is turned round. -/
theorem foldG_sw (l : List IP) : foldG (l.map swS) = swG (foldG l) := fold_sw l ([], ⟨#[]⟩, ⟨#[]⟩)
def WfG (g : List Seg) : Prop := ∀ x ∈ g.tail, ¬ (x.1.size = 0 ∧ x.2.1.size = 0)
theorem tail_app {α : Type} {g : List α} (h : g ≠ []) (r : List α) : (g ++ r).tail = g.tail ++ r := by
  cases g with
  | nil => exact absurd rfl h
  | cons a t => rfl
theorem wf_step {s : GS} (h : WfG s.1) (p : IP) : WfG (stepG s p).1 := by
  unfold stepG
  by_cases h0 : p.f0 = 0
  · rw [if_pos h0]; exact h
  · rw [if_neg h0]
    show WfG (addG s.1 s.2.1 s.2.2 p.f0)
    obtain ⟨g, a, b⟩ := s
    dsimp only at h ⊢
    by_cases c : a.size = 0 ∧ b.size = 0
    · rcases List.eq_nil_or_concat g with e | ⟨g0, s0, e⟩
      · subst e; rw [addG_nil c]; intro x hx; cases hx
      · rw [List.concat_eq_append] at e
        subst e
        rw [addG_join c]
        by_cases hg : g0 = []
        · subst hg; intro x hx; cases hx
        · unfold WfG at h ⊢
          rw [tail_app hg] at h ⊢
          intro x hx
          rcases List.mem_append.1 hx with q | q
          · exact h x (List.mem_append_left _ q)
          · rw [List.mem_singleton.1 q]; exact h s0 (by simp)
    · rw [addG_new c]
      by_cases hg : g = []
      · subst hg; intro x hx; cases hx
      · unfold WfG at h ⊢
        rw [tail_app hg]
        intro x hx
        rcases List.mem_append.1 hx with q | q
        · exact h x q
        · rw [List.mem_singleton.1 q]; exact c
theorem wf_fold : ∀ (l : List IP) (s : GS), WfG s.1 → WfG (l.foldl stepG s).1
  | [], s, h => h
  | p :: r, s, h => wf_fold r _ (wf_step h p)
theorem wf_foldG (l : List IP) : WfG (foldG l).1 := wf_fold l _ (fun x hx => by cases hx)
theorem fold_end (g : List Seg) (a b : ByteArray) : ((endL a b).map ofP).foldl stepG (g, ⟨#[]⟩, ⟨#[]⟩) = (g, a, b) := by
  have s1 : ∀ x y : ByteArray, stepG (g, x, y) (ofP (0, a, ⟨#[]⟩)) = (g, x ++ a, y) := fun x y => by
    show (g, x ++ a, y ++ (⟨#[]⟩ : ByteArray)) = _
    rw [ba_app]
  have s2 : ∀ x y : ByteArray, stepG (g, x, y) (ofP (0, ⟨#[]⟩, b)) = (g, x, y ++ b) := fun x y => by
    show (g, x ++ (⟨#[]⟩ : ByteArray), y ++ b) = _
    rw [ba_app]
  by_cases ha : a.size = 0
  · by_cases hb : b.size = 0
    · rw [endL_00 ha hb, ba_nil ha, ba_nil hb]; rfl
    · rw [endL_01 ha hb]
      show stepG (g, ⟨#[]⟩, ⟨#[]⟩) (ofP (0, ⟨#[]⟩, b)) = _
      rw [s2, ba_nil ha, e0_app]
  · by_cases hb : b.size = 0
    · rw [endL_10 ha hb]
      show stepG (g, ⟨#[]⟩, ⟨#[]⟩) (ofP (0, a, ⟨#[]⟩)) = _
      rw [s1, ba_nil hb, e0_app]
    · rw [endL_11 ha hb]
      show stepG (stepG (g, ⟨#[]⟩, ⟨#[]⟩) (ofP (0, a, ⟨#[]⟩))) (ofP (0, ⟨#[]⟩, b)) = _
      rw [s1, s2, e0_app, e0_app]
theorem fold_flat (g : List Seg) (hb : BdG 300000 g) (hw : WfG g) : ∀ (n : Nat) (h : List Seg), h.length = n → (∃ t, h ++ t = g) → ((flatS h).map ofP).foldl stepG ([], ⟨#[]⟩, ⟨#[]⟩) = (h, ⟨#[]⟩, ⟨#[]⟩)
  | 0, h, e, _ => by rw [List.length_eq_zero_iff.1 e]; rfl
  | n + 1, h, e, ⟨t, ht⟩ => by
    obtain ⟨h0, s, e'⟩ := (List.eq_nil_or_concat h).resolve_left (fun q => by rw [q] at e; cases e)
    rw [List.concat_eq_append] at e'
    subst e'
    rw [List.length_append, List.length_singleton] at e
    have ih' := fold_flat g hb hw n h0 (by omega) ⟨s :: t, by rw [← ht, List.append_assoc]; rfl⟩
    have hs := hb s (by rw [← ht]; simp)
    rw [flatS_app, flatS_cons, List.map_append, List.foldl_append, ih', List.map_append, List.foldl_append, fold_end]
    show stepG (h0, s.1, s.2.1) (ofP (s.2.2, ⟨#[]⟩, ⟨#[]⟩)) = _
    unfold stepG
    rw [if_neg (show ¬ (ofP (s.2.2, ⟨#[]⟩, ⟨#[]⟩)).f0 = 0 by show ¬ s.2.2 = 0; omega)]
    show (addG h0 s.1 s.2.1 s.2.2, _) = _
    by_cases hg : h0 = []
    · subst hg
      by_cases c : s.1.size = 0 ∧ s.2.1.size = 0
      · rw [addG_nil c]; rfl
      · rw [addG_new c]
    · have hm : s ∈ g.tail := by rw [← ht, List.append_assoc, tail_app hg]; simp
      rw [addG_new (hw s hm)]
/-- What is laid flat folds up again. -/
theorem fold_back (g : List Seg) (a b : ByteArray) (hb : BdG 300000 g) (hw : WfG g) : foldG ((flatS g ++ endL a b).map ofP) = (g, a, b) := by
  unfold foldG
  rw [List.map_append, List.foldl_append, fold_flat g hb hw g.length g rfl ⟨[], List.append_nil g⟩, fold_end]
theorem foldG_norm (l : List IP) (hl : l.length ≤ 1000) (hp : ∀ p ∈ l, One p) : foldG (normI l) = foldG l := by
  obtain ⟨e, h⟩ := norm_fold l hl hp
  rw [e]; exact fold_back _ _ _ h (wf_foldG l)

theorem partB_sw (p : IP) : partB (swS p) = partB p := by
  obtain ⟨p0, p1, p2⟩ := p
  unfold partB swS
  dsimp only
  by_cases h0 : p0 = 0
  · rw [if_pos h0, if_pos h0]
    by_cases h1 : p1.toList = ([] : List UInt8)
    · by_cases h2 : p2.toList = ([] : List UInt8)
      · simp [h1, h2]
      · simp [h1, h2]
    · by_cases h2 : p2.toList = ([] : List UInt8)
      · simp [h1, h2]
      · simp [h1, h2]
  · rw [if_neg h0, if_neg h0]
    by_cases h1 : p1.toList = ([] : List UInt8)
    · by_cases h2 : p2.toList = ([] : List UInt8)
      · simp [h1, h2]
      · simp [h1, h2]
    · by_cases h2 : p2.toList = ([] : List UInt8)
      · simp [h1, h2]
      · simp [h1, h2]
theorem tkS_sw : ∀ (l : List IP) (a : Int), tkS (l.map swS) a = mkS l a
  | [], a => rfl
  | p :: r, a => by rw [List.map_cons]; unfold tkS mkS; exact tkS_sw r _
theorem sw_sw (l : List IP) : (l.map swS).map swS = l := by
  rw [List.map_map]
  have : (swS ∘ swS : IP → IP) = id := by funext ⟨a, b, c⟩; rfl
  rw [this, List.map_id]
theorem mkS_sw (l : List IP) (a : Int) : mkS (l.map swS) a = tkS l a := by rw [← tkS_sw, sw_sw]
theorem goodO_sw (l : List IP) : goodO (l.map swS) = goodO l := by
  unfold goodO
  rw [tkS_sw, mkS_sw, List.length_map, List.all_map]
  have : (partB ∘ swS : IP → Bool) = partB := by funext p; exact partB_sw p
  rw [this]
  congr 2
  exact decide_eq_decide.2 ⟨fun h => ⟨h.2, h.1⟩, fun h => ⟨h.2, h.1⟩⟩
theorem tsum_cons (p : IP) (r : List IP) : tsum (p :: r) = nP p + tsum r := rfl
theorem tsum_nil : tsum [] = 0 := rfl
theorem tsum_app : ∀ (a b : List IP), tsum (a ++ b) = tsum a + tsum b
  | [], b => by rw [List.nil_append, tsum_nil]; omega
  | p :: r, b => by rw [List.cons_append, tsum_cons, tsum_cons, tsum_app r b]; omega
theorem tsum_mem {l : List IP} {p : IP} (h : p ∈ l) : nP p ≤ tsum l := by
  induction l with
  | nil => cases h
  | cons q r ih =>
    rw [tsum_cons]
    rcases List.mem_cons.1 h with rfl | h
    · omega
    · have := ih h; omega
def flI (g : List Seg) : List IP := (flatS g).map ofP
def enI (a b : ByteArray) : List IP := (endL a b).map ofP
theorem flI_app (g h : List Seg) : flI (g ++ h) = flI g ++ flI h := by unfold flI; rw [flatS_app, List.map_append]
theorem flI_one (s : Seg) : flI [s] = enI s.1 s.2.1 ++ [⟨s.2.2, ⟨#[]⟩, ⟨#[]⟩⟩] := by unfold flI enI; rw [flatS_cons, List.map_append]; rfl
theorem tsum_en (a b : ByteArray) : tsum (enI a b) = b.size := by
  unfold enI
  by_cases ha : a.size = 0
  · by_cases hb : b.size = 0
    · rw [endL_00 ha hb, hb]; rfl
    · rw [endL_01 ha hb]; show (0 : Int).toNat + b.size + 0 = _; omega
  · by_cases hb : b.size = 0
    · rw [endL_10 ha hb, hb]; rfl
    · rw [endL_11 ha hb]; show (0 : Int).toNat + 0 + ((0 : Int).toNat + b.size + 0) = _; omega
theorem tsum_sen (a b : ByteArray) : tsum ((enI a b).map swS) = a.size := by
  unfold enI
  by_cases ha : a.size = 0
  · by_cases hb : b.size = 0
    · rw [endL_00 ha hb, ha]; rfl
    · rw [endL_01 ha hb, ha]; rfl
  · by_cases hb : b.size = 0
    · rw [endL_10 ha hb]; show (0 : Int).toNat + a.size + 0 = _; omega
    · rw [endL_11 ha hb]; show (0 : Int).toNat + a.size + ((0 : Int).toNat + 0 + 0) = _; omega
theorem tsum_keep (k : Int) : tsum [⟨k, ⟨#[]⟩, ⟨#[]⟩⟩] = k.toNat := by show k.toNat + 0 + 0 = _; omega
theorem len_en (a b : ByteArray) : (enI a b).length = (if a.size = 0 then 0 else 1) + (if b.size = 0 then 0 else 1) := by
  unfold enI
  rw [List.length_map]
  by_cases ha : a.size = 0
  · by_cases hb : b.size = 0
    · rw [endL_00 ha hb, if_pos ha, if_pos hb]; rfl
    · rw [endL_01 ha hb, if_pos ha, if_neg hb]; rfl
  · by_cases hb : b.size = 0
    · rw [endL_10 ha hb, if_neg ha, if_pos hb]; rfl
    · rw [endL_11 ha hb, if_neg ha, if_neg hb]; rfl
theorem add_sum {B : Int} {g : List Seg} (h : BdG B g) (a b : ByteArray) (k : Int) (hk : 0 < k) : tsum (flI (addG g a b k)) = tsum (flI g) + b.size + k.toNat ∧ (flI (addG g a b k)).length ≤ (flI g).length + (enI a b).length + 1 := by
  by_cases c : a.size = 0 ∧ b.size = 0
  · rcases List.eq_nil_or_concat g with e | ⟨g0, s0, e⟩
    · subst e
      rw [addG_nil c, flI_one, tsum_app, tsum_en, tsum_keep, List.length_append]
      refine ⟨?_, ?_⟩
      · show b.size + k.toNat = 0 + b.size + k.toNat; omega
      · show _ ≤ 0 + _ + _; simp only [List.length_singleton]; omega
    · rw [List.concat_eq_append] at e
      subst e
      have hs := (h s0 (by simp)).1
      rw [addG_join c, flI_app, flI_app, flI_one, flI_one, tsum_app, tsum_app, tsum_app, tsum_app, tsum_keep, tsum_keep]
      refine ⟨by dsimp only; omega, ?_⟩
      simp only [List.length_append, List.length_singleton]; omega
  · rw [addG_new c, flI_app, flI_one, tsum_app, tsum_app, tsum_en, tsum_keep]
    refine ⟨by dsimp only; omega, ?_⟩
    simp only [List.length_append, List.length_singleton]; omega
def TxB (s : ByteArray) : Prop := textB (bytesOf s) = true
theorem txB_app {a b : ByteArray} (ha : TxB a) (hb : TxB b) : TxB (a ++ b) := by
  unfold TxB textB at ha hb ⊢
  rw [bytesOf_app, List.all_append, ha, hb]; rfl
theorem txB_nil {a : ByteArray} (h : a.size = 0) : TxB a := by unfold TxB; rw [bytesOf_nil h]; rfl
theorem goodB_tx {s : ByteArray} (h : goodB (bytesOf s) = true) : TxB s := by
  unfold goodB at h; rw [Bool.and_eq_true] at h; exact h.1
theorem tx_goodB {s : ByteArray} (h : TxB s) (hs : s.size ≤ 300) : goodB (bytesOf s) = true := by
  unfold goodB; rw [Bool.and_eq_true, bytesOf_length]; exact ⟨h, decide_eq_true hs⟩
theorem part_tx {p : IP} (h : partB p = true) : TxB p.f1 ∧ TxB p.f2 := by
  unfold partB at h
  by_cases c0 : p.f0 = 0
  · rw [if_pos c0] at h
    by_cases c1 : p.f1.toList = ([] : List UInt8)
    · rw [if_pos c1] at h
      by_cases c2 : p.f2.toList = ([] : List UInt8)
      · rw [if_pos c2] at h; cases h
      · rw [if_neg c2] at h; exact ⟨txB_nil ((toList_nil _).1 c1), goodB_tx h⟩
    · rw [if_neg c1] at h
      by_cases c2 : p.f2.toList = ([] : List UInt8)
      · rw [if_pos c2] at h; exact ⟨goodB_tx h, txB_nil ((toList_nil _).1 c2)⟩
      · rw [if_neg c2] at h; cases h
  · rw [if_neg c0, Bool.and_eq_true, Bool.and_eq_true] at h
    exact ⟨txB_nil ((toList_nil _).1 (of_decide_eq_true h.2.1)), txB_nil ((toList_nil _).1 (by simpa using h.2.2))⟩
structure GI (n : Nat) (T : Nat) (s : GS) : Prop where
  bd : BdG (300 * (n : Int)) s.1
  sum : tsum (flI s.1) + s.2.2.size = T
  len : (flI s.1).length + (enI s.2.1 s.2.2).length ≤ n
  txt : ∀ x ∈ s.1, TxB x.1 ∧ TxB x.2.1
  txa : TxB s.2.1
  txb : TxB s.2.2
theorem gi_step {n T : Nat} {s : GS} (h : GI n T s) (p : IP) (hg : partB p = true) : GI (n + 1) (T + nP p) (stepG s p) := by
  obtain ⟨g, a, b⟩ := s
  obtain ⟨i1, i2, i3, i4, i5, i6⟩ := h
  obtain ⟨q1, q2, q3, q4, q5, q6⟩ := part_one hg
  obtain ⟨t1, t2⟩ := part_tx hg
  dsimp only at i1 i2 i3 i4 i5 i6
  have hn : nP p = p.f0.toNat + p.f2.size := rfl
  by_cases h0 : p.f0 = 0
  · have e : stepG (g, a, b) p = (g, a ++ p.f1, b ++ p.f2) := by unfold stepG; rw [if_pos h0]
    rw [e]
    refine ⟨fun x hx => by have := i1 x hx; omega, ?_, ?_, i4, txB_app i5 t1, txB_app i6 t2⟩
    · dsimp only; rw [ba_len_app]; omega
    · dsimp only
      rw [len_en] at i3 ⊢
      rw [ba_len_app, ba_len_app]
      rcases q6 with c | c
      · rw [c, Nat.add_zero]
        split <;> split <;> split at i3 <;> omega
      · rw [c, Nat.add_zero]
        split <;> split <;> split at i3 <;> omega
  · obtain ⟨h1, h2⟩ := q5.resolve_left h0
    have e : stepG (g, a, b) p = (addG g a b p.f0, ⟨#[]⟩, ⟨#[]⟩) := by unfold stepG; rw [if_neg h0]
    rw [e]
    obtain ⟨u1, u2⟩ := add_sum i1 a b p.f0 (by omega)
    have e0 : (enI (⟨#[]⟩ : ByteArray) (⟨#[]⟩ : ByteArray)).length = 0 := by rw [len_en]; rfl
    refine ⟨?_, ?_, ?_, ?_, txB_nil rfl, txB_nil rfl⟩
    · have := bd_add i1 (by omega) a b p.f0 (by omega) q2
      intro x hx; have := this x hx; omega
    · dsimp only; rw [u1, sz0]; omega
    · dsimp only; rw [e0]; omega
    · dsimp only
      by_cases c : a.size = 0 ∧ b.size = 0
      · rcases List.eq_nil_or_concat g with e | ⟨g0, s0, e⟩
        · subst e
          rw [addG_nil c]
          intro x hx; rw [List.mem_singleton.1 hx]; exact ⟨i5, i6⟩
        · rw [List.concat_eq_append] at e
          subst e
          rw [addG_join c]
          intro x hx
          rcases List.mem_append.1 hx with q | q
          · exact i4 x (List.mem_append_left _ q)
          · rw [List.mem_singleton.1 q]; exact i4 s0 (by simp)
      · rw [addG_new c]
        intro x hx
        rcases List.mem_append.1 hx with q | q
        · exact i4 x q
        · rw [List.mem_singleton.1 q]; exact ⟨i5, i6⟩
theorem gi_fold : ∀ (l : List IP) (n T : Nat) (s : GS), (∀ p ∈ l, partB p = true) → GI n T s → GI (n + l.length) (T + tsum l) (l.foldl stepG s)
  | [], n, T, s, _, h => h
  | p :: r, n, T, s, hp, h => by
    have := gi_fold r (n + 1) (T + nP p) (stepG s p) (fun x hx => hp x (List.mem_cons_of_mem _ hx)) (gi_step h p (hp p (List.mem_cons_self ..)))
    rw [List.foldl_cons, List.length_cons, tsum_cons]
    rw [show n + (r.length + 1) = n + 1 + r.length by omega, show T + (nP p + tsum r) = T + nP p + tsum r by omega]; exact this
theorem gi_all (l : List IP) (hp : ∀ p ∈ l, partB p = true) : GI l.length (tsum l) (foldG l) := by
  have := gi_fold l 0 0 ([], ⟨#[]⟩, ⟨#[]⟩) hp ⟨fun x hx => (by cases hx), rfl, by rw [len_en]; exact Nat.le_refl _, fun x hx => (by cases hx), txB_nil rfl, txB_nil rfl⟩
  rw [Nat.zero_add, Nat.zero_add] at this
  exact this
theorem partB_put {u : ByteArray} (h : u.size ≠ 0) (ht : TxB u) (hs : u.size ≤ 300) : partB ⟨0, u, ⟨#[]⟩⟩ = true := by
  unfold partB
  dsimp only
  rw [if_pos rfl, if_neg (fun e => h ((toList_nil _).1 e)), if_pos ((toList_nil _).2 sz0)]
  exact tx_goodB ht hs
theorem partB_drop {u : ByteArray} (h : u.size ≠ 0) (ht : TxB u) (hs : u.size ≤ 300) : partB ⟨0, ⟨#[]⟩, u⟩ = true := by
  rw [← partB_sw]; exact partB_put h ht hs
theorem partB_keep {k : Int} (h : 1 ≤ k) (h2 : k ≤ 300) : partB ⟨k, ⟨#[]⟩, ⟨#[]⟩⟩ = true := by
  unfold partB
  dsimp only
  have e := (toList_nil (⟨#[]⟩ : ByteArray)).2 sz0
  rw [if_neg (by omega), decide_eq_true (show 1 ≤ k ∧ k ≤ 300 from ⟨h, h2⟩), decide_eq_true e]
  simp [e]
theorem partB_en {a b : ByteArray} (ha : TxB a) (hb : TxB b) (sa : a.size ≤ 300) (sb : b.size ≤ 300) : ∀ p ∈ enI a b, partB p = true := by
  intro p hp
  unfold enI at hp
  by_cases za : a.size = 0
  · by_cases zb : b.size = 0
    · rw [endL_00 za zb] at hp; cases hp
    · rw [endL_01 za zb] at hp; rw [List.mem_singleton.1 hp]; exact partB_drop zb hb sb
  · by_cases zb : b.size = 0
    · rw [endL_10 za zb] at hp; rw [List.mem_singleton.1 hp]; exact partB_put za ha sa
    · rw [endL_11 za zb] at hp
      simp only [List.map_cons, List.map_nil, List.mem_cons, List.not_mem_nil, or_false] at hp
      rcases hp with rfl | rfl
      · exact partB_put za ha sa
      · exact partB_drop zb hb sb
theorem flI_mem {g : List Seg} {p : IP} (h : p ∈ flI g) : ∃ s ∈ g, p ∈ flI [s] := by
  induction g with
  | nil => cases h
  | cons s r ih =>
    rw [show s :: r = [s] ++ r from rfl, flI_app] at h
    rcases List.mem_append.1 h with q | q
    · exact ⟨s, List.mem_cons_self .., q⟩
    · obtain ⟨x, hx, hp⟩ := ih q; exact ⟨x, List.mem_cons_of_mem _ hx, hp⟩
theorem flI_sub {g : List Seg} {s : Seg} (h : s ∈ g) : tsum (flI [s]) ≤ tsum (flI g) := by
  induction g with
  | nil => cases h
  | cons x r ih =>
    rw [show x :: r = [x] ++ r from rfl, flI_app, tsum_app]
    rcases List.mem_cons.1 h with rfl | q
    · omega
    · have := ih q; omega
theorem tsum_sfl : ∀ g : List Seg, tsum ((flI g).map swS) = tsum (flI (g.map (fun x => (x.2.1, x.1, x.2.2))))
  | [] => rfl
  | s :: r => by
    rw [show s :: r = [s] ++ r from rfl, flI_app, List.map_append, tsum_app, tsum_sfl r, List.map_append, flI_app, tsum_app]
    congr 1
    rw [flI_one, List.map_append, tsum_app, tsum_sen, List.map_singleton, List.map_singleton, flI_one, tsum_app, tsum_en]; rfl
theorem tkS_ts (l : List IP) (hp : ∀ p ∈ l, partB p = true) (hl : l.length ≤ 1000000) : tkS l 0 = ((tsum l : Nat) : Int) := by
  have := tkS_is l hp 0 (by omega)
  rw [Nat.zero_add] at this; exact this
theorem mkS_ts (l : List IP) (hp : ∀ p ∈ l, partB p = true) (hl : l.length ≤ 1000000) : mkS l 0 = ((tsum (l.map swS) : Nat) : Int) := by
  rw [← tkS_sw]
  exact tkS_ts _ (fun p h => by obtain ⟨q, hq, rfl⟩ := List.mem_map.1 h; rw [partB_sw]; exact hp q hq) (by rw [List.length_map]; exact hl)
theorem normI_fl (l : List IP) (hl : l.length ≤ 1000) (hp : ∀ p ∈ l, One p) : normI l = flI (foldG l).1 ++ enI (foldG l).2.1 (foldG l).2.2 := by
  rw [(norm_fold l hl hp).1, List.map_append]; rfl
/-- A good change is good when it is normal, of the same sizes. -/
theorem norm_good {l : List IP} (h : goodO l = true) : goodO (normI l) = true ∧ tsum (normI l) = tsum l ∧ tsum ((normI l).map swS) = tsum (l.map swS) := by
  obtain ⟨hl, hp, hk, hm⟩ := goodO_facts h
  have ho : ∀ p ∈ l, One p := fun p h => part_one (hp p h)
  have hps : ∀ p ∈ l.map swS, partB p = true := fun p h => by obtain ⟨q, hq, rfl⟩ := List.mem_map.1 h; rw [partB_sw]; exact hp q hq
  obtain ⟨b1, b2, b3, b4, b5, b6⟩ := gi_all l hp
  obtain ⟨_, c2, _, _, _, _⟩ := gi_all (l.map swS) hps
  rw [foldG_sw] at c2
  rw [tkS_ts l hp (by omega)] at hk
  rw [mkS_ts l hp (by omega)] at hm
  have e := normI_fl l (by omega) ho
  generalize foldG l = s at b1 b2 b3 b4 b5 b6 c2 e
  obtain ⟨g, a, b⟩ := s
  unfold swG at c2
  dsimp only at b1 b2 b3 b4 b5 b6 c2 e
  have t1 : tsum (normI l) = tsum l := by rw [e, tsum_app, tsum_en]; omega
  have t2 : tsum ((normI l).map swS) = tsum (l.map swS) := by rw [e, List.map_append, tsum_app, tsum_sen, tsum_sfl]; omega
  have hpn : ∀ p ∈ normI l, partB p = true := by
    rw [e]
    intro p hp'
    rcases List.mem_append.1 hp' with q | q
    · obtain ⟨s, hs, hps'⟩ := flI_mem q
      have z1 := flI_sub hs
      have z2 := flI_sub (List.mem_map.2 ⟨s, hs, rfl⟩ : (s.2.1, s.1, s.2.2) ∈ g.map (fun x => (x.2.1, x.1, x.2.2)))
      rw [flI_one, tsum_app, tsum_en, tsum_keep] at z1 z2
      dsimp only at z2
      rw [flI_one] at hps'
      obtain ⟨x1, x2⟩ := b4 s hs
      have x3 := (b1 s hs).1
      rcases List.mem_append.1 hps' with w | w
      · exact partB_en x1 x2 (by omega) (by omega) p w
      · rw [List.mem_singleton.1 w]; exact partB_keep (by omega) (by omega)
    · exact partB_en b5 b6 (by omega) (by omega) p q
  have hln : (normI l).length ≤ 60 := by rw [e, List.length_append]; omega
  refine ⟨?_, t1, t2⟩
  unfold goodO
  rw [decide_eq_true hln, List.all_eq_true.2 hpn, tkS_ts _ hpn (by omega), mkS_ts _ hpn (by omega), t1, t2, decide_eq_true ⟨hk, hm⟩]; rfl
theorem swG_swG (s : GS) : swG (swG s) = s := by
  obtain ⟨g, a, b⟩ := s
  unfold swG
  dsimp only
  rw [List.map_map]
  have : ((fun x : Seg => (x.2.1, x.1, x.2.2)) ∘ (fun x : Seg => (x.2.1, x.1, x.2.2))) = id := by funext ⟨a, b, c⟩; rfl
  rw [this, List.map_id]
/-- Turned round twice, a change is itself, normal. -/
theorem norm_twice {l : List IP} (h : goodO l = true) : normI ((normI (l.map swS)).map swS) = normI l := by
  obtain ⟨hl, hp, _, _⟩ := goodO_facts h
  have h' : goodO (l.map swS) = true := by rw [goodO_sw]; exact h
  obtain ⟨hl', hp', _, _⟩ := goodO_facts h'
  obtain ⟨n1, _, _⟩ := norm_good h'
  have n1' : goodO ((normI (l.map swS)).map swS) = true := by rw [goodO_sw]; exact n1
  obtain ⟨hl2, hp2, _, _⟩ := goodO_facts n1'
  rw [normI_fl _ (by omega) (fun p h => part_one (hp2 p h)), normI_fl l (by omega) (fun p h => part_one (hp p h)), foldG_sw, foldG_norm _ (by omega) (fun p h => part_one (hp' p h)), foldG_sw, swG_swG]

/-- What a change leads from and to. -/
def Rel : List IP → ByteArray → ByteArray → Prop
  | [], s, t => s = E0 ∧ t = E0
  | p :: r, s, t => ∃ K s' t' : ByteArray, K.size = p.f0.toNat ∧ s = K ++ (p.f2 ++ s') ∧ t = K ++ (p.f1 ++ t') ∧ Rel r s' t'
theorem rel_sw : ∀ (l : List IP) (s t : ByteArray), Rel l s t → Rel (l.map swS) t s
  | [], s, t, h => ⟨h.2, h.1⟩
  | p :: r, s, t, ⟨K, s', t', h1, h2, h3, h4⟩ => ⟨K, t', s', h1, h3, h2, rel_sw r s' t' h4⟩
theorem rel_app : ∀ (l m : List IP) (s t s2 t2 : ByteArray), Rel l s t → Rel m s2 t2 → Rel (l ++ m) (s ++ s2) (t ++ t2)
  | [], m, s, t, s2, t2, h, h2 => by
    obtain ⟨rfl, rfl⟩ := h
    rw [e0_app, e0_app]; exact h2
  | p :: r, m, s, t, s2, t2, ⟨K, s', t', h1, h2, h3, h4⟩, hm => by
    refine ⟨K, s' ++ s2, t' ++ t2, h1, ?_, ?_, rel_app r m s' t' s2 t2 h4 hm⟩
    · rw [h2, ByteArray.append_assoc, ByteArray.append_assoc]
    · rw [h3, ByteArray.append_assoc, ByteArray.append_assoc]
theorem rel_split : ∀ (l m : List IP) (s t : ByteArray), Rel (l ++ m) s t → ∃ s1 t1 s2 t2, s = s1 ++ s2 ∧ t = t1 ++ t2 ∧ Rel l s1 t1 ∧ Rel m s2 t2
  | [], m, s, t, h => ⟨E0, E0, s, t, (e0_app s).symm, (e0_app t).symm, ⟨rfl, rfl⟩, h⟩
  | p :: r, m, s, t, ⟨K, s', t', h1, h2, h3, h4⟩ => by
    obtain ⟨s1, t1, s2, t2, a, b, c, d⟩ := rel_split r m s' t' h4
    refine ⟨K ++ (p.f2 ++ s1), K ++ (p.f1 ++ t1), s2, t2, ?_, ?_, ⟨K, s1, t1, h1, rfl, rfl, c⟩, d⟩
    · rw [h2, a, ByteArray.append_assoc, ByteArray.append_assoc]
    · rw [h3, b, ByteArray.append_assoc, ByteArray.append_assoc]
theorem rel_one {k : Int} {a b : ByteArray} {s t : ByteArray} (h : Rel [⟨k, a, b⟩] s t) : ∃ K : ByteArray, K.size = k.toNat ∧ s = K ++ b ∧ t = K ++ a := by
  obtain ⟨K, s', t', h1, h2, h3, h4, h5⟩ := h
  subst h4 h5
  exact ⟨K, h1, by rw [h2]; congr 1; exact ba_app _, by rw [h3]; congr 1; exact ba_app _⟩
theorem rel_mk (k : Int) (a b K : ByteArray) (h : K.size = k.toNat) : Rel [⟨k, a, b⟩] (K ++ b) (K ++ a) :=
  ⟨K, E0, E0, h, by congr 1; exact (ba_app _).symm, by congr 1; exact (ba_app _).symm, rfl, rfl⟩
theorem rel_keep (k : Int) (K : ByteArray) (h : K.size = k.toNat) : Rel [⟨k, ⟨#[]⟩, ⟨#[]⟩⟩] K K := by
  have := rel_mk k ⟨#[]⟩ ⟨#[]⟩ K h
  rw [ba_app] at this; exact this
theorem rel_en (a b : ByteArray) : Rel (enI a b) b a := by
  unfold enI
  have m1 := rel_mk 0 a ⟨#[]⟩ E0 rfl
  have m2 := rel_mk 0 ⟨#[]⟩ b E0 rfl
  rw [e0_app, e0_app] at m1 m2
  by_cases ha : a.size = 0
  · by_cases hb : b.size = 0
    · rw [endL_00 ha hb, ba_nil ha, ba_nil hb]; exact ⟨rfl, rfl⟩
    · rw [endL_01 ha hb, ba_nil ha]; exact m2
  · by_cases hb : b.size = 0
    · rw [endL_10 ha hb, ba_nil hb]; exact m1
    · rw [endL_11 ha hb]
      have := rel_app _ _ _ _ _ _ m1 m2
      rw [ba_app] at this
      have e : (⟨#[]⟩ : ByteArray) ++ b = b := e0_app b
      rw [e] at this; exact this
def RelG (s : GS) (S T : ByteArray) : Prop := ∃ s1 t1, Rel (flI s.1) s1 t1 ∧ S = s1 ++ s.2.2 ∧ T = t1 ++ s.2.1
theorem relG_step {B : Int} {s : GS} (hb : BdG B s.1) {S T : ByteArray} (h : RelG s S T) (p : IP) (hp : One p) {s' t' : ByteArray} (hr : Rel [p] s' t') : RelG (stepG s p) (S ++ s') (T ++ t') := by
  obtain ⟨g, a, b⟩ := s
  obtain ⟨p0, p1, p2⟩ := p
  obtain ⟨s1, t1, h1, h2, h3⟩ := h
  dsimp only at h1 h2 h3 hb
  obtain ⟨K, k1, k2, k3⟩ := rel_one hr
  subst h2 h3 k2 k3
  obtain ⟨q1, q2, q3, q4, q5, q6⟩ := hp
  dsimp only at q1 q2 q3 q4 q5 q6
  by_cases h0 : p0 = 0
  · subst h0
    have e : stepG (g, a, b) ⟨0, p1, p2⟩ = (g, a ++ p1, b ++ p2) := rfl
    have ek : K = (⟨#[]⟩ : ByteArray) := ba_nil (by rw [k1]; rfl)
    have en : ∀ x : ByteArray, (⟨#[]⟩ : ByteArray) ++ x = x := e0_app
    rw [e, ek, en, en]
    exact ⟨s1, t1, h1, by rw [ByteArray.append_assoc], by rw [ByteArray.append_assoc]⟩
  · obtain ⟨z1, z2⟩ := q5.resolve_left h0
    have e : stepG (g, a, b) ⟨p0, p1, p2⟩ = (addG g a b p0, ⟨#[]⟩, ⟨#[]⟩) := by unfold stepG; rw [if_neg h0]
    rw [e, ba_nil z1, ba_nil z2, ba_app]
    have key : Rel (flI (addG g a b p0)) (s1 ++ b ++ K) (t1 ++ a ++ K) := by
      by_cases c : a.size = 0 ∧ b.size = 0
      · rw [ba_nil c.1, ba_nil c.2, ba_app, ba_app]
        have c0 : (⟨#[]⟩ : ByteArray).size = 0 ∧ (⟨#[]⟩ : ByteArray).size = 0 := ⟨rfl, rfl⟩
        rcases List.eq_nil_or_concat g with e | ⟨g0, s0, e⟩
        · subst e
          obtain ⟨rfl, rfl⟩ := h1
          rw [addG_nil c0, e0_app, flI_one]
          have := rel_app _ _ _ _ _ _ (rel_en ⟨#[]⟩ ⟨#[]⟩) (rel_keep p0 K k1)
          have en : (⟨#[]⟩ : ByteArray) ++ K = K := e0_app K
          rw [en] at this; exact this
        · rw [List.concat_eq_append] at e
          subst e
          have hs := hb s0 (by simp)
          rw [flI_app, flI_one, ← List.append_assoc] at h1
          obtain ⟨x1, y1, x2, y2, rfl, rfl, r1, r2⟩ := rel_split _ _ _ _ h1
          obtain ⟨K0, w1, w2, w3⟩ := rel_one r2
          rw [ba_app] at w2 w3
          rw [w2, w3, addG_join c0, flI_app, flI_one, ← List.append_assoc, ByteArray.append_assoc, ByteArray.append_assoc]
          exact rel_app _ _ _ _ _ _ r1 (rel_keep _ (K0 ++ K) (by rw [ba_len_app, w1, k1]; dsimp only; omega))
      · rw [addG_new c, flI_app, flI_one, ← List.append_assoc]
        exact rel_app _ _ _ _ _ _ (rel_app _ _ _ _ _ _ h1 (rel_en a b)) (rel_keep p0 K k1)
    exact ⟨_, _, key, by rw [ba_app, ByteArray.append_assoc], by rw [ba_app, ByteArray.append_assoc]⟩
theorem relG_fold : ∀ (l : List IP) (s : GS) (B : Int) (S T s' t' : ByteArray), BdG B s.1 → 0 ≤ B → B + 300 * (l.length : Int) ≤ 1000000000 → (∀ p ∈ l, One p) → RelG s S T → Rel l s' t' → RelG (l.foldl stepG s) (S ++ s') (T ++ t')
  | [], s, B, S, T, s', t', _, _, _, _, h, hr => by
    obtain ⟨rfl, rfl⟩ := hr
    rw [show S ++ E0 = S from ba_app S, show T ++ E0 = T from ba_app T]; exact h
  | p :: r, s, B, S, T, s', t', hb, hB, hB2, hp, h, hr => by
    rw [List.length_cons] at hB2
    obtain ⟨s1, t1, s2, t2, rfl, rfl, r1, r2⟩ := rel_split [p] r s' t' hr
    have h1 := relG_step hb h p (hp p (List.mem_cons_self ..)) r1
    have h2 := (sim_step (g := s.1) hb hB (by omega) s.2.1 s.2.2 p (hp p (List.mem_cons_self ..))).2
    have := relG_fold r (stepG s p) (B + 300) _ _ s2 t2 h2 (by omega) (by omega) (fun x hx => hp x (List.mem_cons_of_mem _ hx)) h1 r2
    rw [List.foldl_cons, ← ByteArray.append_assoc, ← ByteArray.append_assoc]; exact this
/-- The normal change leads from and to the same. -/
theorem rel_norm (l : List IP) (hl : l.length ≤ 1000) (hp : ∀ p ∈ l, One p) (s t : ByteArray) (h : Rel l s t) : Rel (normI l) s t := by
  have := relG_fold l ([], ⟨#[]⟩, ⟨#[]⟩) 0 E0 E0 s t (fun x hx => by cases hx) (Int.le_refl _) (by omega) hp ⟨E0, E0, ⟨rfl, rfl⟩, rfl, rfl⟩ h
  rw [e0_app, e0_app] at this
  obtain ⟨s1, t1, r1, rfl, rfl⟩ := this
  rw [normI_fl l hl hp]
  exact rel_app _ _ _ _ _ _ r1 (rel_en _ _)
theorem rel_size : ∀ (l : List IP) (s t : ByteArray), Rel l s t → s.size = tsum l
  | [], s, t, h => by rw [h.1]; rfl
  | p :: r, s, t, ⟨K, s', t', h1, h2, h3, h4⟩ => by
    have := rel_size r s' t' h4
    rw [h2, ba_len_app, ba_len_app, h1, this, tsum_cons]; unfold nP; omega
theorem ext_left (a b : ByteArray) : (a ++ b).extract 0 a.size = a := ByteArray.extract_append_eq_left rfl
theorem ext_right (a b : ByteArray) : (a ++ b).extract a.size (a ++ b).size = b := ByteArray.extract_append_eq_right rfl (by rw [ba_len_app])
theorem ext_back (s : ByteArray) (n : Nat) (h : n ≤ s.size) : s = s.extract 0 n ++ s.extract n s.size := by
  have := ByteArray.extract_append_extract (a := s) (i := 0) (j := n) (k := s.size)
  rw [this]
  have e1 : min 0 n = 0 := by omega
  have e2 : max n s.size = s.size := by omega
  rw [e1, e2, ByteArray.extract_zero_size]
theorem rel_ap : ∀ (l : List IP), (∀ p ∈ l, partB p = true) → ∀ (s t o : ByteArray), Rel l s t → apI l s o = (o ++ t, true)
  | [], _, s, t, o, h => by unfold apI; rw [h.2, show o ++ E0 = o from ba_app o]
  | p :: r, hp, s, t, o, ⟨K, s', t', h1, h2, h3, h4⟩ => by
    obtain ⟨f1, f2, f3, f4, f5⟩ := part_facts (hp p (List.mem_cons_self ..))
    have hn : nP p = p.f0.toNat + p.f2.size := rfl
    have ih := fun o => rel_ap r (fun x hx => hp x (List.mem_cons_of_mem _ hx)) s' t' o h4
    have en : ∀ x : ByteArray, (⟨#[]⟩ : ByteArray) ++ x = x := e0_app
    unfold apI
    have e1 : s.extract 0 p.f2.size = p.f2 := by
      rcases f5 with c | c
      · have ek : K = (⟨#[]⟩ : ByteArray) := ba_nil (by omega)
        rw [h2, ek, en]; exact ext_left _ _
      · rw [c, ba_nil c]; exact size0 s 0 rfl
    have e2 : s.extract 0 p.f0.toNat = K := by rw [h2, ← h1]; exact ext_left _ _
    have e3 : s.extract (nP p) s.size = s' := by
      have : s = (K ++ p.f2) ++ s' := by rw [ByteArray.append_assoc]; exact h2
      rw [this, show nP p = (K ++ p.f2).size by rw [ba_len_app, h1]; exact hn]; exact ext_right _ _
    rw [if_pos (by rw [e1]), e2, e3, ih, h3, ByteArray.append_assoc, ByteArray.append_assoc]
theorem bytes_inj2 {a b : ByteArray} (h : a.toList = b.toList) : a = b := by
  rw [ByteArray.toList_eq, ByteArray.toList_eq] at h
  exact ByteArray.ext (Array.toList_inj.1 h)
theorem ap_rel : ∀ (l : List IP), (∀ p ∈ l, partB p = true) → ∀ (s o : ByteArray), s.size = tsum l → (apI l s o).2 = true → ∃ t, apI l s o = (o ++ t, true) ∧ Rel l s t
  | [], _, s, o, hs, _ => ⟨E0, by unfold apI; rw [show o ++ E0 = o from ba_app o], ba_nil hs, rfl⟩
  | p :: r, hp, s, o, hs, h => by
    obtain ⟨f1, f2, f3, f4, f5⟩ := part_facts (hp p (List.mem_cons_self ..))
    have hn : nP p = p.f0.toNat + p.f2.size := rfl
    rw [tsum_cons] at hs
    unfold apI at h ⊢
    by_cases c : (s.extract 0 p.f2.size).toList = p.f2.toList
    · rw [if_pos c] at h ⊢
      have c' := bytes_inj2 c
      obtain ⟨t, e, hr⟩ := ap_rel r (fun x hx => hp x (List.mem_cons_of_mem _ hx)) (s.extract (nP p) s.size) (o ++ (s.extract 0 p.f0.toNat ++ p.f1)) (by rw [size_ext]; omega) h
      have en : ∀ x : ByteArray, (⟨#[]⟩ : ByteArray) ++ x = x := e0_app
      refine ⟨s.extract 0 p.f0.toNat ++ (p.f1 ++ t), by rw [e, ByteArray.append_assoc, ByteArray.append_assoc], s.extract 0 p.f0.toNat, s.extract (nP p) s.size, t, by rw [size_ext]; omega, ?_, rfl, hr⟩
      have hb := ext_back s (nP p) (by omega)
      rcases f5 with q | q
      · have e0 : s.extract 0 p.f0.toNat = (⟨#[]⟩ : ByteArray) := by rw [q]; exact size0 s _ rfl
        rw [e0, en]
        rw [show nP p = p.f2.size by omega, c'] at hb
        rw [show nP p = p.f2.size by omega]; exact hb
      · rw [ba_nil q, en, show p.f0.toNat = nP p by rw [hn, q]; rfl]; exact hb
    · rw [if_neg c] at h; cases h
theorem rel_tx : ∀ (l : List IP), (∀ p ∈ l, partB p = true) → ∀ (s t : ByteArray), Rel l s t → TxB s → TxB t
  | [], _, s, t, h, _ => by rw [h.2]; exact txB_nil rfl
  | p :: r, hp, s, t, ⟨K, s', t', h1, h2, h3, h4⟩, hs => by
    have hs' : TxB K ∧ TxB s' := by
      unfold TxB textB at hs ⊢
      rw [h2, bytesOf_app, bytesOf_app, List.all_append, List.all_append, Bool.and_eq_true, Bool.and_eq_true] at hs
      exact ⟨hs.1, hs.2.2⟩
    rw [h3]
    exact txB_app hs'.1 (txB_app (part_tx (hp p (List.mem_cons_self ..))).1 (rel_tx r (fun x hx => hp x (List.mem_cons_of_mem _ hx)) s' t' h4 hs'.2))
/-- What ApplyOp answers, by the relation. -/
theorem apR_yes {l : List IP} (h : goodO l = true) {s t : ByteArray} (hr : Rel l s t) (hs : goodB (bytesOf s) = true) : apR l s = (t, true) ∧ goodB (bytesOf t) = true ∧ s.size = tsum l ∧ t.size = tsum (l.map swS) := by
  obtain ⟨hl, hp, hk, hm⟩ := goodO_facts h
  have h1 := rel_size l s t hr
  have h2 := rel_size _ t s (rel_sw l s t hr)
  have h3 := rel_ap l hp s t E0 hr
  rw [mkS_ts l hp (by omega)] at hm
  refine ⟨?_, tx_goodB (rel_tx l hp s t hr (goodB_tx hs)) (by omega), h1, h2⟩
  unfold apR
  rw [if_pos h, if_pos hs, if_pos h1, h3, if_pos rfl, e0_app]
theorem apR_rel {l : List IP} {s : ByteArray} (h : (apR l s).2 = true) : goodO l = true ∧ goodB (bytesOf s) = true ∧ ∃ t, apR l s = (t, true) ∧ Rel l s t := by
  unfold apR at h ⊢
  by_cases h1 : goodO l = true
  · rw [if_pos h1] at h ⊢
    by_cases h2 : goodB (bytesOf s) = true
    · rw [if_pos h2] at h ⊢
      by_cases h3 : s.size = tsum l
      · rw [if_pos h3] at h ⊢
        by_cases h4 : (apI l s E0).2 = true
        · rw [if_pos h4] at h ⊢
          obtain ⟨t, e, hr⟩ := ap_rel l (goodO_facts h1).2.1 s E0 h3 h4
          rw [e0_app] at e
          exact ⟨h1, h2, t, e, hr⟩
        · rw [if_neg h4] at h; cases h
      · rw [if_neg h3] at h; cases h
    · rw [if_neg h2] at h; cases h
  · rw [if_neg h1] at h; cases h

def normR (l : List IP) : List IP × Bool := if goodO l = true then (normI l, true) else ([], false)
theorem normR_len (l : List IP) : (normR l).1.length ≤ 200 := by
  unfold normR
  by_cases h : goodO l = true
  · rw [if_pos h]; obtain ⟨a, b, _, _⟩ := goodO_facts h; exact normI_len l a (fun p hp => part_one (b p hp))
  · rw [if_neg h]; exact Nat.zero_le _
theorem impl_NormalOp_f (l : List IP) (hw : ∀ x ∈ l, x.f1.size ≤ 1048576 ∧ x.f2.size ≤ 1048576) : Ev (fun k => impl_NormalOp.f k l) (normR l) := by
  unfold impl_NormalOp.f normR
  refine Ev.bind (impl_GoodOp_f l hw) (ev_if (fun h => ?_) (fun h => by rw [if_neg h]; exact ev_ret rfl))
  obtain ⟨a, b, _, _⟩ := goodO_facts h
  rw [if_pos h]
  exact ev_eq (impl_normal_f l a (fun p hp => part_one (b p hp))) (ev_ret rfl)

theorem impl_SizesOf_f (l : List IP) (hl : l.length ≤ 1048576) (hw : ∀ x ∈ l, x.f1.size ≤ 1048576 ∧ x.f2.size ≤ 1048576) : Ev (fun k => impl_SizesOf.f k l) (if goodO l = true then (tkS l 0, mkS l 0, true) else (0, 0, false)) := by
  unfold impl_SizesOf.f
  refine Ev.bind (impl_GoodOp_f l hw) (ev_if (fun h => ?_) (fun h => ?_))
  · rw [if_pos h]; exact Ev.bind (impl_sizes_f l hl) (ev_ret rfl)
  · rw [if_neg h]; exact ev_ret rfl

def Small (n : Nat) (L : List Pt) : Prop := ∀ q ∈ L, q.2.1.size ≤ 300 * n ∧ q.2.2.size ≤ 300 * n
theorem Small.app {n : Nat} {A B : List Pt} (ha : Small n A) (hb : Small n B) : Small n (A ++ B) := fun q h => (List.mem_append.1 h).elim (ha q) (hb q)
theorem small_endL {n : Nat} {a b : ByteArray} (ha : a.size ≤ 300 * n) (hb : b.size ≤ 300 * n) : Small n (endL a b) := by
  intro q hq
  unfold endL at hq
  rcases List.mem_append.1 hq with h | h
  · split at h
    · cases h
    · rw [List.mem_singleton.1 h]; exact ⟨ha, Nat.zero_le _⟩
  · split at h
    · cases h
    · rw [List.mem_singleton.1 h]; exact ⟨Nat.zero_le _, hb⟩
theorem small_keepA {n : Nat} {L : List Pt} (h : Small n L) (x : Int) : Small n (keepA L x) := by
  unfold keepA
  split
  · rename_i p hp
    have hm := List.mem_of_getLast? hp
    split
    · exact Small.app (fun q hq => h q (List.dropLast_subset _ hq)) (fun q hq => by rw [List.mem_singleton.1 hq]; exact h p hm)
    · exact Small.app h (fun q hq => by rw [List.mem_singleton.1 hq]; exact ⟨Nat.zero_le _, Nat.zero_le _⟩)
  · intro q hq; rw [List.mem_singleton.1 hq]; exact ⟨Nat.zero_le _, Nat.zero_le _⟩
theorem small_take {n : Nat} {s : List Pt × ByteArray × ByteArray} (p : Pt) (h : Small n s.1) (ha : s.2.1.size ≤ 300 * n) (hb : s.2.2.size ≤ 300 * n) : Small n (takeP s p).1 := by
  unfold takeP keepS
  simp only
  split
  · exact h
  · exact small_keepA (Small.app h (small_endL ha hb)) _
theorem small_stN (l : List IP) (hs : ∀ x ∈ l, x.f1.size ≤ 300 ∧ x.f2.size ≤ 300) : ∀ i, i ≤ l.length → Small i (stN l i).1
  | 0, _ => fun q h => by cases h
  | i + 1, h => by
    have ih := small_stN l hs i (by omega)
    obtain ⟨_, h2, h3⟩ := stN_bound l hs i (by omega)
    rw [stN_succ l i (by omega)]
    intro q hq
    have := small_take (toP (l[i]'(by omega))) ih h2 h3 q hq
    omega
theorem normI_small (l : List IP) (hl : l.length ≤ 60) (hp : ∀ p ∈ l, One p) : ∀ x ∈ normI l, x.f1.size ≤ 1048576 ∧ x.f2.size ≤ 1048576 := by
  have hs : ∀ x ∈ l, x.f1.size ≤ 300 ∧ x.f2.size ≤ 300 := fun x hx => ⟨(hp x hx).2.2.1, (hp x hx).2.2.2.1⟩
  obtain ⟨_, b2, b3⟩ := stN_bound l hs l.length (Nat.le_refl _)
  have b1 := small_stN l hs l.length (Nat.le_refl _)
  have e : stN l l.length = (l.map toP).foldl takeP ([], ⟨#[]⟩, ⟨#[]⟩) := by unfold stN; rw [List.take_of_length_le (Nat.le_refl _)]
  rw [e] at b1 b2 b3
  intro x hx
  unfold normI normP at hx
  obtain ⟨q, hq, rfl⟩ := List.mem_map.1 hx
  have := Small.app b1 (small_endL b2 b3) q hq
  exact ⟨by show q.2.1.size ≤ _; omega, by show q.2.2.size ≤ _; omega⟩

theorem wf_u8 {x : Int} (h : (Lit.int .u8 x).wf = true) : 0 ≤ x ∧ x ≤ 255 := by
  simp [Lit.wf, IntKind.min, IntKind.max, IntKind.signed, IntKind.bits] at h
  omega
theorem code_of {l : List Int} (hl : l.length ≤ 1048576) (h : ∀ x ∈ l, (Lit.int .u8 x).wf = true) : Code l := ⟨fun x hx => wf_u8 (h x hx), by omega⟩

theorem laws_sameOps_l (l : List IP) (hl : l.length ≤ 1000000) (d : Nat) : ∀ i : Nat, i + d = l.length → Ev (fun k => laws_sameOps.l0 k l l (l.length : Int) (i : Int)) true := by
  induction d with
  | zero =>
    intro i hi
    refine Ev.step (fun k => by rw [laws_sameOps.l0]) ?_
    exact ev_neg (by omega) (ev_ret rfl)
  | succ d ih =>
    intro i hi
    refine Ev.step (fun k => by rw [laws_sameOps.l0]) ?_
    refine ev_pos (by omega) (ev_pos (by omega) (ev_pos (by omega) (ev_pos (by omega) (ev_neg (by simp) ?_))))
    rw [wrap_succ i (by omega)]
    exact ih (i + 1) (by omega)
theorem laws_sameOps_f (l : List IP) (hl : l.length ≤ 1000000) : Ev (fun k => laws_sameOps.f k l l) true := by
  unfold laws_sameOps.f
  exact ev_pos rfl (laws_sameOps_l l hl l.length 0 (by omega))
theorem FnInverted : laws_FnInverted.Pure := by
  intro code h1 h2 h3
  refine Ev.rounds ?_
  unfold laws_FnInverted.f
  refine ev_if (fun _ => ev_ret rfl) (fun hg => ?_)
  obtain ⟨⟨op, s⟩, hd, ho, hw, hs⟩ := DrawApplyOp_f (code_of (by omega) h3) (by omega)
  dsimp only at ho hw hs
  have hap := impl_ApplyOp_f op s hw (by omega)
  have hsp := spec_ApplyOp_f op s hw (by omega)
  have hin := impl_InvertOp_f op hw
  have hsi := spec_InvertOp_f op hw
  refine Ev.bind hd (Ev.bind hap (Ev.bind hsp (Ev.bind hin (Ev.bind hsi (ev_neg (by simp) (ev_pos rfl (ev_neg (by simp) (Ev.bind (laws_sameOps_f _ (by have := invR_len op; omega)) ?_))))))))
  refine Ev.step (fun k => by rw [laws_FnInverted.j0]) ?_
  refine ev_neg (by simp) ?_
  by_cases g : goodO op = true
  · obtain ⟨gl, gp, _, _⟩ := goodO_facts g
    have g' : goodO (op.map swS) = true := by rw [goodO_sw]; exact g
    obtain ⟨gl', gp', _, _⟩ := goodO_facts g'
    obtain ⟨n1, n2, n3⟩ := norm_good g'
    obtain ⟨nl, np, _, _⟩ := goodO_facts n1
    have one' : ∀ p ∈ op.map swS, One p := fun p h => part_one (gp' p h)
    have eI : invR op = (normI (op.map swS), true) := by unfold invR; rw [if_pos g]
    have wx := normI_small (op.map swS) gl' one'
    have eB : invR (normI (op.map swS)) = (normI op, true) := by unfold invR; rw [if_pos n1, norm_twice g]
    have eN : normR op = (normI op, true) := by unfold normR; rw [if_pos g]
    have lN := normR_len op
    rw [eN] at lN
    have k1 := impl_InvertOp_f _ wx
    have k2 := impl_NormalOp_f op hw
    have k3 := impl_SizesOf_f op (by omega) hw
    have k4 := impl_SizesOf_f _ (by omega) wx
    rw [eB] at k1
    rw [eN] at k2
    rw [if_pos g] at k3
    rw [if_pos n1] at k4
    rw [sw_sw] at n3
    rw [tkS_ts _ gp (by omega), mkS_ts _ gp (by omega)] at k3
    rw [tkS_ts _ np (by omega), mkS_ts _ np (by omega), n2, n3] at k4
    rw [eI]
    refine ev_pos rfl (Ev.bind k1 (Ev.bind k2 (Ev.bind k3 (Ev.bind k4 (ev_pos rfl (ev_pos rfl (ev_pos rfl (ev_pos rfl (Ev.bind (laws_sameOps_f _ (by dsimp only at lN ⊢; omega)) (ev_pos rfl (ev_pos rfl ?_)))))))))))
    dsimp only
    rw [bne_self_eq_false]
    refine Ev.step (fun k => by rw [laws_FnInverted.j1]) ?_
    refine ev_neg (by simp) (ev_if (fun hok => ?_) (fun _ => ev_ret rfl))
    obtain ⟨_, r2, t, r3, r4⟩ := apR_rel hok
    obtain ⟨_, a2, a3, a4⟩ := apR_yes g r4 r2
    have rx := rel_norm _ (by omega) one' t s (rel_sw op s t r4)
    obtain ⟨b1, _, _, _⟩ := apR_yes n1 rx a2
    have k5 := impl_ApplyOp_f _ t wx (by have := goodB_size' a2; omega)
    rw [b1] at k5
    rw [r3]
    refine Ev.bind k5 (ev_pos rfl (ev_pos rfl (ev_pos (by rw [a3]) (ev_ret ?_))))
    rw [a4]; simp
  · have eI : invR op = ([], false) := by unfold invR; rw [if_neg g]
    have eA : apR op s = (E0, false) := by unfold apR; rw [if_neg g]
    rw [eI, eA]
    exact ev_neg (by simp) (ev_ret rfl)

end Go.Proofs.Ytlelpomnblaciaa.Pure
