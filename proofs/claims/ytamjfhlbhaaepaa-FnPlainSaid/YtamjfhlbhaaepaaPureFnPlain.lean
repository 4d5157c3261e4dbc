/- FnPlain over plain functions: for whatever is drawn the plain bytes of a text and all others are together all bytes, an outline of a document is one, and names are counted as the reference counts them; no condition. -/
import Derived.Test.YtamjfhlbhaaepaaPFnPlainx7
import Derived.Test.YtamjfhlbhaaepaaBase
namespace Go.Proofs.Ytamjfhlbhaaepaa.Pure
open Go.RowKit Go.Proofs.Ytamjfhlbhaaepaa.PFnPlain Go.Proofs.YtamjfhlbhaaepaaW.PrintWords Go.Proofs.YtamjfhlbhaaepaaW.PrintLast Go.Proofs.Ytamjfhlbhaaepaa.Base
set_option linter.unusedVariables false
set_option linter.unusedSimpArgs false

theorem and255 (E : Int) (h0 : 0 ≤ E) (h1 : E ≤ 18446744073709551615) : 0 ≤ Go.bits .and .u64 E 255 ∧ Go.bits .and .u64 E 255 ≤ 255 := by
  have h := Go.bits_and_u64_nat E.toNat 255 (by omega) (by omega)
  rw [Int.toNat_of_nonneg h0] at h
  have h2 : E.toNat &&& 255 ≤ 255 := Nat.and_le_right
  have h3 : Go.bits .and .u64 E 255 = ((E.toNat &&& 255 : Nat) : Int) := h
  rw [h3]; omega
theorem and255q (x : Int) : 0 ≤ wrap64 (Go.bits .and .u64 (Go.IntKind.u64.wrap x / 1099511627776) 255) ∧ wrap64 (Go.bits .and .u64 (Go.IntKind.u64.wrap x / 1099511627776) 255) ≤ 255 := by
  have hw := Go.IntKind.wrap_u64 x
  obtain ⟨a, b⟩ := and255 (Go.IntKind.u64.wrap x / 1099511627776) (by rw [hw]; omega) (by rw [hw]; omega)
  rw [wrap_id (by omega) (by omega)]; exact ⟨a, b⟩
/-- Bytes as they come in. -/
def Code (s : List Int) : Prop := (∀ x ∈ s, 0 ≤ x ∧ x ≤ 255) ∧ s.length ≤ 1000000000000
theorem next_f {s : List Int} (hs : Code s) (at_ seed : Int) (h0 : 0 ≤ at_) (h1 : at_ ≤ 1000000000000) : ∃ x seed', spec_l1Cur_next.f s at_ seed = some (x, at_ + 1, seed') ∧ 0 ≤ x ∧ x ≤ 255 := by
  unfold spec_l1Cur_next.f
  rw [wrap_id (x := at_ + 1) (by omega) (by omega)]
  by_cases c : at_ < (s.length : Int)
  · rw [if_pos c, if_pos h0]
    have hx : 0 ≤ rd s at_ ∧ rd s at_ ≤ 255 := by
      obtain ⟨n, rfl⟩ := Int.eq_ofNat_of_zero_le h0
      exact hs.1 _ (gt_mem 0 s n (by omega))
    have e : wrap64 (rd s at_) = rd s at_ := wrap_id (by omega) (by omega)
    by_cases c2 : at_ + 1 ≤ (s.length : Int)
    · rw [if_pos c2]; exact ⟨_, _, rfl, by rw [e]; exact hx.1, by rw [e]; exact hx.2⟩
    · rw [if_neg c2]; exact ⟨_, _, rfl, and255q _⟩
  · rw [if_neg c]
    by_cases c2 : at_ + 1 ≤ (s.length : Int)
    · rw [if_pos c2]; exact ⟨_, _, rfl, Int.le_refl _, by decide⟩
    · rw [if_neg c2]; exact ⟨_, _, rfl, and255q _⟩
theorem wrap_pred (n : Nat) (h : n ≤ 4611686018427387904) : wrap64 (((n + 1 : Nat) : Int) - 1) = (n : Int) := by rw [wrap_id (by omega) (by omega)]; omega
theorem tmod_in {x n : Int} (hx : 0 ≤ x) (hn : 0 < n) : 0 ≤ Int.tmod x n ∧ Int.tmod x n < n := by
  rw [Int.tmod_eq_emod_of_nonneg hx]
  exact ⟨Int.emod_nonneg _ (by omega), Int.emod_lt_of_pos _ hn⟩
theorem pick_f {s : List Int} (hs : Code s) (at_ seed n : Int) (h0 : 0 ≤ at_) (h1 : at_ ≤ 100000000000) : ∃ r at' seed', spec_l1Cur_pick.f s at_ seed n = some (r, at', seed') ∧ 0 ≤ r ∧ (1 ≤ n → r < n) ∧ at_ ≤ at' ∧ at' ≤ at_ + 2 := by
  unfold spec_l1Cur_pick.f
  by_cases c : n ≤ 1
  · rw [if_pos c]; exact ⟨_, _, _, rfl, Int.le_refl _, fun h => by omega, Int.le_refl _, by omega⟩
  · rw [if_neg c]
    obtain ⟨x, s1, e1, x0, x1⟩ := next_f hs at_ seed h0 (by omega)
    rw [e1]
    simp only [Option.bind_some]
    by_cases c2 : n > 200
    · rw [if_pos c2]
      obtain ⟨y, s2, e2, y0, y1⟩ := next_f hs (at_ + 1) s1 (by omega) (by omega)
      rw [e2]
      simp only [Option.bind_some]
      rw [if_neg (by omega)]
      have e3 : wrap64 (wrap64 (x * 256) + y) = x * 256 + y := by rw [wrap_id (x := x * 256) (by omega) (by omega), wrap_id (by omega) (by omega)]
      rw [e3]
      obtain ⟨t1, t2⟩ := tmod_in (x := x * 256 + y) (n := n) (by omega) (by omega)
      exact ⟨_, _, _, rfl, t1, fun _ => t2, by omega, by omega⟩
    · rw [if_neg c2, if_neg (by omega)]
      obtain ⟨t1, t2⟩ := tmod_in (x := x) (n := n) x0 (by omega)
      exact ⟨_, _, _, rfl, t1, fun _ => t2, by omega, by omega⟩
theorem one_f {s : List Int} (hs : Code s) (at_ seed n : Int) (h0 : 0 ≤ at_) (h1 : at_ ≤ 100000000000) : ∃ b at' seed', spec_l1Cur_one.f s at_ seed n = some (b, at', seed') ∧ at_ ≤ at' ∧ at' ≤ at_ + 2 := by
  unfold spec_l1Cur_one.f
  obtain ⟨r, a, z, e, _, _, h2, h3⟩ := pick_f hs at_ seed n h0 h1
  rw [e]
  exact ⟨_, _, _, rfl, h2, h3⟩
theorem of_f {s : List Int} (hs : Code s) (at_ seed : Int) (l : List ByteArray) (h0 : 0 ≤ at_) (h1 : at_ ≤ 100000000000) (hl : 1 ≤ l.length) (hl2 : l.length ≤ 1000) (m : Nat) (hm : ∀ x ∈ l, x.size ≤ m) : ∃ r at' seed', spec_l1Cur_of.f s at_ seed l = some (r, at', seed') ∧ r.size ≤ m ∧ at_ ≤ at' ∧ at' ≤ at_ + 2 := by
  unfold spec_l1Cur_of.f
  obtain ⟨r, a, z, e, r0, r1, h2, h3⟩ := pick_f hs at_ seed (l.length : Int) h0 h1
  rw [e]
  simp only [Option.bind_some]
  have := r1 (by omega)
  rw [if_pos r0, if_pos this]
  refine ⟨_, _, _, rfl, ?_, h2, h3⟩
  obtain ⟨n, rfl⟩ := Int.eq_ofNat_of_zero_le r0
  exact hm _ (gt_mem ByteArray.empty l n (by omega))
/-- A run of so many parts, so deep: it ends, and is not too long. -/
def InnerOk (s : List Int) (d C S : Nat) : Prop := ∀ (n : Nat) (x7 : ByteArray) (at_ seed : Int), n ≤ 60 → 0 ≤ at_ → at_ + ((n * C : Nat) : Int) ≤ 1000000000 → x7.size + n * S ≤ 1000000000 →
  ∃ (r : ByteArray) (at' seed' : Int), Ev (fun k => spec_l1Cur_inner.l0 k (n : Int) (d : Int) x7 s at_ seed) (r, at', seed') ∧ at_ ≤ at' ∧ at' ≤ at_ + ((n * C : Nat) : Int) ∧ r.size ≤ x7.size + n * S
theorem ba_len (a b : ByteArray) : (a ++ b).size = a.size + b.size := ByteArray.size_append
theorem inner_step {s : List Int} (hs : Code s) (d C S : Nat) (hd : d ≤ 10) (hC : 4 ≤ C ∧ C ≤ 1000) (hS : 3 ≤ S ∧ S ≤ 1000) (hin : d = 0 ∨ ∃ e c z, d = e + 1 ∧ InnerOk s e c z ∧ 6 + 3 * c ≤ C ∧ 2 + 3 * z ≤ S) : InnerOk s d C S := by
  intro n
  induction n with
  | zero =>
    intro x7 at_ seed hn h0 h1 h2
    refine ⟨x7, at_, seed, ?_, Int.le_refl _, by omega, by omega⟩
    refine Ev.step (fun k => by rw [spec_l1Cur_inner.l0]) ?_
    exact ev_neg (by omega) (ev_ret rfl)
  | succ n ih =>
    intro x7 at_ seed hn h0 h1 h2
    have m1 : (n + 1) * C = n * C + C := Nat.succ_mul n C
    have m2 : (n + 1) * S = n * S + S := Nat.succ_mul n S
    generalize (n + 1) * C = CC at m1 h1 ⊢
    generalize (n + 1) * S = SS at m2 h2 ⊢
    generalize n * C = cc at m1 ih
    generalize n * S = ss at m2 ih
    -- a part without elements
    have flat : ∀ (a z : Int), 0 ≤ a → a ≤ at_ + 2 → at_ ≤ a → ∃ (r : ByteArray) (at' seed' : Int), Ev (fun k => spec_l1Cur_inner.j1 k ((n + 1 : Nat) : Int) (d : Int) x7 false s a z) (r, at', seed') ∧ at_ ≤ at' ∧ at' ≤ at_ + (CC : Int) ∧ r.size ≤ x7.size + SS := fun a z a0 a1 a2 => by
      obtain ⟨t, a', z', e, ht, b1, b2⟩ := of_f hs a z [(⟨#[97]⟩ : ByteArray), (⟨#[98]⟩ : ByteArray), (⟨#[97, 98]⟩ : ByteArray), (⟨#[120]⟩ : ByteArray), (⟨#[32]⟩ : ByteArray), (⟨#[111, 110, 101]⟩ : ByteArray), (⟨#[49]⟩ : ByteArray), (⟨#[122, 46]⟩ : ByteArray)] (by omega) (by omega) (by simp) (by simp) 3 (by
        intro x hx
        simp only [List.mem_cons, List.not_mem_nil, or_false] at hx
        rcases hx with rfl | rfl | rfl | rfl | rfl | rfl | rfl | rfl <;> decide)
      obtain ⟨r, at', seed', q1, q2, q3, q4⟩ := ih (x7 ++ t) a' z' (by omega) (by omega) (by omega) (by rw [ba_len]; omega)
      rw [ba_len] at q4
      refine ⟨r, at', seed', ?_, by omega, by omega, by omega⟩
      refine Ev.step (fun k => by rw [spec_l1Cur_inner.j1]) ?_
      refine ev_neg (by simp) (ev_eq e (ev_pos (by dsimp only; omega) ?_))
      rw [wrap_pred n (by omega)]; exact q1
    rcases hin with rfl | ⟨e, c, z, rfl, hok, hc, hz⟩
    · obtain ⟨r, at', seed', q1, q2, q3, q4⟩ := flat at_ seed h0 (by omega) (Int.le_refl _)
      refine ⟨r, at', seed', ?_, q2, q3, q4⟩
      refine Ev.step (fun k => by rw [spec_l1Cur_inner.l0]) ?_
      exact ev_pos (by omega) (ev_neg (by omega) q1)
    · obtain ⟨b, a, z1, e1, b1, b2⟩ := one_f hs at_ seed 3 h0 (by omega)
      have hstart : ∀ r, Ev (fun k => spec_l1Cur_inner.j1 k ((n + 1 : Nat) : Int) ((e + 1 : Nat) : Int) x7 b s a z1) r → Ev (fun k => spec_l1Cur_inner.l0 k ((n + 1 : Nat) : Int) ((e + 1 : Nat) : Int) x7 s at_ seed) r := fun r h => by
        refine Ev.step (fun k => by rw [spec_l1Cur_inner.l0]) ?_
        exact ev_pos (by omega) (ev_pos (by omega) (ev_eq e1 h))
      cases b with
      | false =>
        obtain ⟨r, at', seed', q1, q2, q3, q4⟩ := flat a z1 (by omega) b2 b1
        exact ⟨r, at', seed', hstart _ q1, q2, q3, q4⟩
      | true =>
        obtain ⟨p, a2, z2, e2, p0, p1, b3, b4⟩ := pick_f hs a z1 4 (by omega) (by omega)
        obtain ⟨m, a3, z3, e3, m0, m1', b5, b6⟩ := pick_f hs a2 z2 4 (by omega) (by omega)
        have m3 := m1' (by omega)
        obtain ⟨mn, rfl⟩ := Int.eq_ofNat_of_zero_le m0
        have c1 : mn * c ≤ 3 * c := Nat.mul_le_mul_right c (by omega)
        have c2 : mn * z ≤ 3 * z := Nat.mul_le_mul_right z (by omega)
        obtain ⟨t, a4, z4, t1, t2, t3, t4⟩ := hok mn (⟨#[]⟩ : ByteArray) a3 z3 (by omega) (by omega) (by omega) (by show 0 + mn * z ≤ _; omega)
        have t4' : t.size ≤ mn * z := by have : (⟨#[]⟩ : ByteArray).size = 0 := rfl; omega
        have hsz : ∀ y : List Int, y.length = 1 → (Go.strOfNums y).size = 1 := fun y hy => by rw [Go.strOfNums_size, hy]
        have hs1 : (Go.strOfNums [(wrap64 (65 + p)) % 256]).size = 1 := hsz _ rfl
        have hs2 : (⟨#[47]⟩ : ByteArray).size = 1 := rfl
        have hs3 : ((Go.strOfNums [(wrap64 (65 + p)) % 256] ++ t) ++ (⟨#[47]⟩ : ByteArray)).size = 2 + t.size := by rw [ba_len, ba_len, hs1, hs2]; omega
        obtain ⟨r, at', seed', q1, q2, q3, q4⟩ := ih (x7 ++ ((Go.strOfNums [(wrap64 (65 + p)) % 256] ++ t) ++ (⟨#[47]⟩ : ByteArray))) a4 z4 (by omega) (by omega) (by omega) (by rw [ba_len, hs3]; omega)
        rw [ba_len, hs3] at q4
        refine ⟨r, at', seed', hstart _ ?_, by omega, by omega, by omega⟩
        refine Ev.step (fun k => by rw [spec_l1Cur_inner.j1]) ?_
        rw [wrap_pred e (by omega), wrap_pred n (by omega)]
        refine ev_pos rfl (ev_eq e2 (ev_eq rfl (ev_eq e3 (Ev.bind (a := (t, a4, z4)) ?_ (ev_pos (by rw [hs1]; simp only; omega) (ev_pos (by rw [ba_len, hs1]; simp only; omega) (ev_pos (by rw [hs3]; omega) q1)))))))
        refine Ev.step (fun k => by rw [spec_l1Cur_inner.f]) ?_
        exact t1
theorem inner_ok3 {s : List Int} (hs : Code s) : InnerOk s 3 186 107 :=
  inner_step hs 3 186 107 (by omega) (by omega) (by omega) (.inr ⟨2, 60, 35, rfl, inner_step hs 2 60 35 (by omega) (by omega) (by omega) (.inr ⟨1, 18, 11, rfl, inner_step hs 1 18 11 (by omega) (by omega) (by omega) (.inr ⟨0, 4, 3, rfl, inner_step hs 0 4 3 (by omega) (by omega) (by omega) (.inl rfl), by omega, by omega⟩), by omega, by omega⟩), by omega, by omega⟩)
theorem inner_f {s : List Int} (hs : Code s) (n : Nat) (hn : n ≤ 60) (at_ seed : Int) (h0 : 0 ≤ at_) (h1 : at_ ≤ 100000000) : ∃ (r : ByteArray) (at' seed' : Int), Ev (fun k => spec_l1Cur_inner.f k s at_ seed (n : Int) 3) (r, at', seed') ∧ at_ ≤ at' ∧ at' ≤ at_ + 20000 ∧ r.size ≤ 10000 := by
  obtain ⟨r, a, z, q1, q2, q3, q4⟩ := inner_ok3 hs n (⟨#[]⟩ : ByteArray) at_ seed hn h0 (by omega) (by show 0 + n * 107 ≤ _; omega)
  have e0 : (⟨#[]⟩ : ByteArray).size = 0 := rfl
  refine ⟨r, a, z, ?_, q2, by omega, by omega⟩
  refine Ev.step (fun k => by rw [spec_l1Cur_inner.f]) ?_
  exact q1
theorem extract_size (x : ByteArray) (a b : Nat) (h : b ≤ x.size) : (x.extract a b).size = b - a := by rw [ByteArray.size_extract]; omega
set_option maxHeartbeats 4000000 in
theorem spoilt_l {s : List Int} (hs : Code s) (w : ByteArray) (hw : 1 ≤ w.size ∧ w.size ≤ 100) : ∀ (n : Nat) (x : ByteArray) (at_ seed : Int), n ≤ 3 → 0 ≤ at_ → at_ + 6 * (n : Int) ≤ 1000000000 → x.size + n ≤ 1000000 →
    ∃ (r : ByteArray) (at' seed' : Int), Ev (fun k => spec_l1Cur_spoilt.l0 k x w (n : Int) s at_ seed) (r, at', seed') ∧ at_ ≤ at' ∧ at' ≤ at_ + 6 * (n : Int) ∧ r.size ≤ x.size + n
  | 0, x, at_, seed, hn, h0, h1, hx => by
    refine ⟨x, at_, seed, ?_, Int.le_refl _, by omega, by omega⟩
    refine Ev.step (fun k => by rw [spec_l1Cur_spoilt.l0]) ?_
    refine ev_neg (by omega) ?_
    refine Ev.step (fun k => by rw [spec_l1Cur_spoilt.j1]) ?_
    exact ev_neg (by simp) (ev_ret rfl)
  | n + 1, x, at_, seed, hn, h0, h1, hx => by
    have hstart : ∀ r, Ev (fun k => spec_l1Cur_spoilt.j1 k x w ((n + 1 : Nat) : Int) (decide ((x.size : Int) > 0)) s at_ seed) r → Ev (fun k => spec_l1Cur_spoilt.l0 k x w ((n + 1 : Nat) : Int) s at_ seed) r := fun r h => by
      refine Ev.step (fun k => by rw [spec_l1Cur_spoilt.l0]) ?_
      exact ev_pos (by omega) h
    by_cases hx0 : (x.size : Int) > 0
    · rw [decide_eq_true hx0] at hstart
      obtain ⟨i, a1, z1, e1, i0, i1, b1, b2⟩ := pick_f hs at_ seed (x.size : Int) h0 (by omega)
      obtain ⟨j, a2, z2, e2, j0, j1, b3, b4⟩ := pick_f hs a1 z1 (w.size : Int) (by omega) (by omega)
      obtain ⟨c, a3, z3, e3, c0, c1, b5, b6⟩ := pick_f hs a2 z2 3 (by omega) (by omega)
      have i2 := i1 (by omega)
      have j2 := j1 (by omega)
      have hone : (Go.strOfNums [bt w j]).size = 1 := by rw [Go.strOfNums_size]; rfl
      obtain ⟨im, rfl⟩ := Int.eq_ofNat_of_zero_le i0
      have s1 := extract_size x 0 im (by omega)
      have s2 := extract_size x im x.size (Nat.le_refl _)
      have s3 := extract_size x (im + 1) x.size (Nat.le_refl _)
      by_cases h3 : c = 0
      · obtain ⟨r, at', seed', q1, q2, q3, q4⟩ := spoilt_l hs w hw n (((x.extract 0 im) ++ (Go.strOfNums [bt w j])) ++ (x.extract im x.size)) a3 z3 (by omega) (by omega) (by omega) (by rw [ba_len, ba_len, hone]; omega)
        rw [ba_len, ba_len, hone] at q4
        refine ⟨r, at', seed', hstart _ ?_, by omega, by omega, by omega⟩
        refine Ev.step (fun k => by rw [spec_l1Cur_spoilt.j1]) ?_
        refine ev_pos rfl (ev_eq e1 (ev_eq e2 (ev_pos j0 (ev_pos j2 (ev_eq rfl (ev_eq e3 ?_))))))
        dsimp only
        rw [wrap_succ im (by omega), wrap_pred n (by omega), Int.toNat_natCast, Int.toNat_natCast]
        exact ev_pos h3 (ev_pos (by omega) (ev_pos (by omega) (ev_pos (by omega) (ev_pos (by rw [ba_len]; omega) q1))))
      · by_cases h4 : c = 1
        · obtain ⟨r, at', seed', q1, q2, q3, q4⟩ := spoilt_l hs w hw n (((x.extract 0 im) ++ (Go.strOfNums [bt w j])) ++ (x.extract (im + 1) x.size)) a3 z3 (by omega) (by omega) (by omega) (by rw [ba_len, ba_len, hone]; omega)
          rw [ba_len, ba_len, hone] at q4
          refine ⟨r, at', seed', hstart _ ?_, by omega, by omega, by omega⟩
          refine Ev.step (fun k => by rw [spec_l1Cur_spoilt.j1]) ?_
          refine ev_pos rfl (ev_eq e1 (ev_eq e2 (ev_pos j0 (ev_pos j2 (ev_eq rfl (ev_eq e3 ?_))))))
          dsimp only
          rw [wrap_succ im (by omega), wrap_pred n (by omega), Int.toNat_natCast, Int.toNat_natCast]
          exact ev_neg h3 (ev_pos h4 (ev_pos (by omega) (ev_pos (by omega) (ev_pos (by omega) (ev_pos (by omega) (ev_pos (by omega) (ev_pos (by rw [ba_len]; omega) q1)))))))
        · obtain ⟨r, at', seed', q1, q2, q3, q4⟩ := spoilt_l hs w hw n ((x.extract 0 im) ++ (x.extract (im + 1) x.size)) a3 z3 (by omega) (by omega) (by omega) (by rw [ba_len]; omega)
          rw [ba_len] at q4
          refine ⟨r, at', seed', hstart _ ?_, by omega, by omega, by omega⟩
          refine Ev.step (fun k => by rw [spec_l1Cur_spoilt.j1]) ?_
          refine ev_pos rfl (ev_eq e1 (ev_eq e2 (ev_pos j0 (ev_pos j2 (ev_eq rfl (ev_eq e3 ?_))))))
          dsimp only
          rw [wrap_succ im (by omega), wrap_pred n (by omega), Int.toNat_natCast, Int.toNat_natCast]
          exact ev_neg h3 (ev_neg h4 (ev_pos (by omega) (ev_pos (by omega) (ev_pos (by omega) (ev_pos (by omega) (ev_pos (by omega) q1))))))
    · rw [decide_eq_false hx0] at hstart
      refine ⟨x, at_, seed, hstart _ ?_, Int.le_refl _, by omega, by omega⟩
      refine Ev.step (fun k => by rw [spec_l1Cur_spoilt.j1]) ?_
      exact ev_neg (by simp) (ev_ret rfl)
theorem spoilt_f {s : List Int} (hs : Code s) (x w : ByteArray) (hw : 1 ≤ w.size ∧ w.size ≤ 100) (hx : x.size ≤ 900000) (at_ seed : Int) (h0 : 0 ≤ at_) (h1 : at_ ≤ 900000000) : ∃ (r : ByteArray) (at' seed' : Int), Ev (fun k => spec_l1Cur_spoilt.f k s at_ seed x w) (r, at', seed') ∧ at_ ≤ at' ∧ at' ≤ at_ + 20 ∧ r.size ≤ x.size + 3 := by
  obtain ⟨m, a, z, e, m0, m1, b1, b2⟩ := pick_f hs at_ seed 3 h0 (by omega)
  have m2 := m1 (by omega)
  obtain ⟨mn, rfl⟩ := Int.eq_ofNat_of_zero_le m0
  obtain ⟨r, at', seed', q1, q2, q3, q4⟩ := spoilt_l hs w hw mn x a z (by omega) (by omega) (by omega) (by omega)
  refine ⟨r, at', seed', ?_, by omega, by omega, by omega⟩
  unfold spec_l1Cur_spoilt.f
  exact ev_eq e q1
theorem doc_f {s : List Int} (hs : Code s) (at_ seed : Int) (h0 : 0 ≤ at_) (h1 : at_ ≤ 10000000) : ∃ (r : ByteArray) (at' seed' : Int), Ev (fun k => spec_l1Cur_doc.f k s at_ seed) (r, at', seed') ∧ at_ ≤ at' ∧ at' ≤ at_ + 50000 ∧ r.size ≤ 20000 := by
  have last : ∀ (x : ByteArray) (a z : Int), 0 ≤ a → a ≤ 20000000 → x.size ≤ 10000 → ∃ (r : ByteArray) (at' seed' : Int), Ev (fun k => spec_l1Cur_doc.j0 k x s a z) (r, at', seed') ∧ a ≤ at' ∧ at' ≤ a + 30 ∧ r.size ≤ 20000 := fun x a z a0 a1 hx => by
    obtain ⟨b, a2, z2, e2, b1, b2⟩ := one_f hs a z 12 a0 (by omega)
    cases b with
    | true =>
      obtain ⟨r, at', seed', q1, q2, q3, q4⟩ := spoilt_f hs x (⟨#[65, 47, 97, 90]⟩ : ByteArray) (by decide) (by omega) a2 z2 (by omega) (by omega)
      refine ⟨r, at', seed', ?_, by omega, by omega, by omega⟩
      refine Ev.step (fun k => by rw [spec_l1Cur_doc.j0]) ?_
      exact ev_eq e2 (ev_pos rfl (Ev.bind q1 (ev_ret rfl)))
    | false =>
      refine ⟨x, a2, z2, ?_, by omega, by omega, by omega⟩
      refine Ev.step (fun k => by rw [spec_l1Cur_doc.j0]) ?_
      exact ev_eq e2 (ev_neg (by simp) (ev_ret rfl))
  obtain ⟨m, a1, z1, e1, m0, m1, b1, b2⟩ := pick_f hs at_ seed 7 h0 (by omega)
  have m2 := m1 (by omega)
  obtain ⟨mn, rfl⟩ := Int.eq_ofNat_of_zero_le m0
  obtain ⟨x, a2, z2, q1, q2, q3, q4⟩ := inner_f hs mn (by omega) a1 z1 (by omega) (by omega)
  obtain ⟨c, a3, z3, e3, c0, c1, b3, b4⟩ := pick_f hs a2 z2 30 (by omega) (by omega)
  unfold spec_l1Cur_doc.f
  by_cases h3 : c = 0
  · obtain ⟨y, a4, z4, p1, p2, p3, p4⟩ := inner_f hs 60 (Nat.le_refl _) a3 z3 (by omega) (by omega)
    obtain ⟨r, at', seed', r1, r2, r3, r4⟩ := last y a4 z4 (by omega) (by omega) (by omega)
    exact ⟨r, at', seed', ev_eq e1 (Ev.bind q1 (ev_eq e3 (ev_pos h3 (Ev.bind p1 r1)))), by omega, by omega, r4⟩
  · by_cases h4 : c = 1
    · obtain ⟨y, a4, z4, e4, p4, p2, p3⟩ := of_f hs a3 z3 [(⟨#[65, 65, 65, 65, 65, 65, 65, 65, 65, 65, 65, 65, 47, 47, 47, 47, 47, 47, 47, 47, 47, 47, 47, 47]⟩ : ByteArray), (⟨#[65, 65, 65, 65, 65, 65, 65, 65, 65, 65, 65, 65, 65, 47, 47, 47, 47, 47, 47, 47, 47, 47, 47, 47, 47, 47]⟩ : ByteArray)] (by omega) (by omega) (by simp) (by simp) 30 (by
        intro x hx
        simp only [List.mem_cons, List.not_mem_nil, or_false] at hx
        rcases hx with rfl | rfl <;> decide)
      obtain ⟨r, at', seed', r1, r2, r3, r4⟩ := last y a4 z4 (by omega) (by omega) (by omega)
      exact ⟨r, at', seed', ev_eq e1 (Ev.bind q1 (ev_eq e3 (ev_neg h3 (ev_pos h4 (ev_eq e4 r1))))), by omega, by omega, r4⟩
    · obtain ⟨r, at', seed', r1, r2, r3, r4⟩ := last x a3 z3 (by omega) (by omega) (by omega)
      exact ⟨r, at', seed', ev_eq e1 (Ev.bind q1 (ev_eq e3 (ev_neg h3 (ev_neg h4 r1)))), by omega, by omega, r4⟩

theorem wf_u8 {x : Int} (h : (Lit.int .u8 x).wf = true) : 0 ≤ x ∧ x ≤ 255 := by
  simp [Lit.wf, IntKind.min, IntKind.max, IntKind.signed, IntKind.bits] at h
  omega
theorem code_of {l : List Int} (hl : l.length ≤ 1048576) (h : ∀ x ∈ l, (Lit.int .u8 x).wf = true) : Code l := ⟨fun x hx => wf_u8 (h x hx), by omega⟩

theorem spec_l1Open_f (c : Int) : spec_l1Open.f c = some (openB c) := by
  unfold spec_l1Open.f openB; split <;> simp <;> omega
theorem spec_l1Plain_f (c : Int) : spec_l1Plain.f c = some (plainB c) := by
  unfold spec_l1Plain.f plainB
  repeat' split
  all_goals (rw [Option.some.injEq, Bool.eq_iff_iff]; simp only [Bool.or_eq_true, decide_eq_true_eq, beq_iff_eq, true_iff]; omega)
theorem spec_l1Text_l (s : ByteArray) (hs : s.size ≤ 140737488351232) (d : Nat) : ∀ i : Nat, i + d = s.size → Ev (fun k => spec_l1Text.l0 k s (i : Int)) (textB ((bytesOf s).drop i)) := by
  induction d with
  | zero =>
    intro i hi
    refine Ev.step (fun k => by rw [spec_l1Text.l0]) ?_
    refine ev_neg (by omega) (ev_ret ?_)
    rw [drop_end s i (by omega)]; rfl
  | succ d ih =>
    intro i hi
    refine Ev.step (fun k => by rw [spec_l1Text.l0]) ?_
    refine ev_pos (by omega) (ev_pos (by omega) (ev_eq (spec_l1Open_f _) ?_))
    rw [drop_bytes s i (by omega), wrap_succ i (by omega)]
    have ih' := ih (i + 1) (by omega)
    refine ev_if (fun h => ev_val ih' (by simp [textB, okB, h])) (fun h => ?_)
    refine ev_eq (spec_l1Plain_f _) (ev_if (fun h2 => ev_val ih' (by simp [textB, okB, h2])) (fun h2 => ?_))
    refine ev_if (fun h3 => ev_val ih' (by simp [textB, okB, h3])) (fun h3 => ev_ret ?_)
    simp [textB, okB, h, h2, h3]
theorem spec_l1Text_f (s : ByteArray) (hs : s.size ≤ 140737488351232) : Ev (fun k => spec_l1Text.f k s) (textB (bytesOf s)) :=
  spec_l1Text_l s hs s.size 0 (by omega)
theorem spec_GoodText_f (s : ByteArray) (hs : s.size ≤ 140737488351232) : Ev (fun k => spec_GoodText.f k s) (goodB (bytesOf s)) := by
  unfold spec_GoodText.f goodB
  refine Ev.bind (spec_l1Text_f s hs) (ev_if (fun h => ev_ret ?_) (fun h => ev_ret ?_))
  · rw [h, bytesOf_length, Bool.true_and]; congr 1; simp; omega
  · simp at h; simp [h]
theorem impl_isName_f (c : Int) : impl_isName.f c = some (openB c) := by
  unfold impl_isName.f openB; split <;> simp <;> omega
theorem impl_isPlain_f (c : Int) : impl_isPlain.f c = some (plainB c) := by
  unfold impl_isPlain.f plainB
  repeat' split
  all_goals (rw [Option.some.injEq, Bool.eq_iff_iff]; simp only [Bool.or_eq_true, decide_eq_true_eq, beq_iff_eq, true_iff]; omega)
theorem impl_GoodText_l (s : ByteArray) (hs : s.size ≤ 140737488351232) (d : Nat) : ∀ i : Nat, i + d = s.size → Ev (fun k => impl_GoodText.l0 k s (s.size : Int) (i : Int)) (textB ((bytesOf s).drop i) && decide (s.size ≤ 300)) := by
  induction d with
  | zero =>
    intro i hi
    refine Ev.step (fun k => by rw [impl_GoodText.l0]) ?_
    refine ev_neg (by omega) (ev_ret ?_)
    rw [drop_end s i (by omega)]; simp [textB]; omega
  | succ d ih =>
    intro i hi
    refine Ev.step (fun k => by rw [impl_GoodText.l0]) ?_
    refine ev_pos (by omega) (ev_pos (by omega) (ev_pos (by omega) (ev_eq (impl_isName_f _) ?_)))
    rw [drop_bytes s i (by omega), wrap_succ i (by omega)]
    have ih' := ih (i + 1) (by omega)
    refine ev_if (fun h => ev_val ih' (by simp [textB, okB, h])) (fun h => ?_)
    refine ev_eq (impl_isPlain_f _) (ev_if (fun h2 => ev_val ih' (by simp [textB, okB, h2])) (fun h2 => ?_))
    refine ev_if (fun h3 => ev_val ih' (by simp [textB, okB, h3])) (fun h3 => ev_ret ?_)
    simp [textB, okB, h, h2, h3]
theorem impl_GoodText_f (s : ByteArray) (hs : s.size ≤ 140737488351232) : Ev (fun k => impl_GoodText.f k s) (goodB (bytesOf s)) := by
  unfold impl_GoodText.f
  refine ev_val (impl_GoodText_l s hs s.size 0 (by omega)) ?_
  simp [goodB, bytesOf_length]

def onlyL (f : Bool) (l : List Int) : List Int := l.filter (fun c => plainB c == f)
theorem spec_l1Only_l (s : ByteArray) (hs : s.size ≤ 300) (f : Bool) (d : Nat) : ∀ (i : Nat) (acc : List Int), i + d = s.size → acc.length ≤ i →
    Ev (fun k => spec_l1Only.l0 k s f acc (i : Int)) (strOfNums (acc ++ onlyL f ((bytesOf s).drop i))) := by
  induction d with
  | zero =>
    intro i acc hi ha
    refine Ev.step (fun k => by rw [spec_l1Only.l0]) ?_
    refine ev_neg (by omega) (ev_ret ?_)
    rw [drop_end s i (by omega)]; simp [onlyL]
  | succ d ih =>
    intro i acc hi ha
    refine Ev.step (fun k => by rw [spec_l1Only.l0]) ?_
    refine ev_pos (by omega) (ev_pos (by omega) (ev_eq (spec_l1Plain_f _) ?_))
    rw [drop_bytes s i (by omega), wrap_succ i (by omega)]
    refine ev_if (fun h => ev_pos (by omega) (ev_val (ih (i + 1) _ (by omega) (by simp; omega)) ?_)) (fun h => ev_val (ih (i + 1) _ (by omega) (by omega)) ?_)
    · simp [onlyL, List.filter_cons, h]
    · simp [onlyL, List.filter_cons, h]
theorem spec_l1Only_f (s : ByteArray) (hs : s.size ≤ 300) (f : Bool) : Ev (fun k => spec_l1Only.f k s f) (strOfNums (onlyL f (bytesOf s))) := by
  have := spec_l1Only_l s hs f s.size 0 [] (by omega) (by simp)
  unfold spec_l1Only.f
  simpa using this
theorem strOf_only (s : ByteArray) (f : Bool) (p : Int → Bool) (h : ∀ c, p c = (plainB c == f)) : keepL p s = strOfNums (onlyL f (bytesOf s)) := by
  unfold keepL strOfNums onlyL bytesOf
  congr 2
  rw [List.filter_map, List.map_map]
  have e : ((fun n : Int => UInt8.ofNat n.toNat) ∘ fun b : UInt8 => (b.toNat : Int)) = id := by
    funext b; simp
  rw [e, List.map_id]
  refine List.filter_congr fun c _ => ?_
  rw [h]; rfl
theorem goodB_size {s : ByteArray} (h : goodB (bytesOf s) = true) : s.size ≤ 300 := by
  unfold goodB at h; simp only [Bool.and_eq_true, decide_eq_true_eq] at h
  have := h.2; rwa [bytesOf_length] at this
def onlyR (f : Bool) (s : ByteArray) : ByteArray × Bool := if goodB (bytesOf s) = true then (strOfNums (onlyL f (bytesOf s)), true) else ((⟨#[]⟩ : ByteArray), false)
theorem plainP_is (c : Int) : plainP c = (plainB c == true) := by unfold plainP; rw [impl_isPlain_f]; simp

theorem spec_PlainOf_f (s : ByteArray) (hs : s.size ≤ 140737488351232) : Ev (fun k => spec_PlainOf.f k s) (onlyR true s) := by
  unfold spec_PlainOf.f onlyR
  refine Ev.bind (spec_GoodText_f s hs) (ev_if (fun h => ?_) (fun h => ev_ret (by rw [if_neg h])))
  rw [if_pos h]
  exact Ev.bind (spec_l1Only_f s (goodB_size h) true) (ev_ret rfl)
theorem impl_PlainOf_f (s : ByteArray) (hs : s.size ≤ 140737488351232) : Ev (fun k => impl_PlainOf.f k s) (onlyR true s) := by
  unfold impl_PlainOf.f onlyR
  refine Ev.bind (impl_GoodText_f s hs) (ev_if (fun h => ?_) (fun h => ev_ret (by rw [if_neg h])))
  rw [if_pos h]
  refine ev_pos (goodB_size h) (ev_ret ?_)
  rw [strOf_only s true plainP plainP_is]

theorem otherP_is (c : Int) : otherP c = (plainB c == false) := by
  unfold otherP outl_1.f; rw [impl_isPlain_f]
  cases plainB c <;> rfl
theorem spec_OutlineOf_f (s : ByteArray) (hs : s.size ≤ 140737488351232) : Ev (fun k => spec_OutlineOf.f k s) (onlyR false s) := by
  unfold spec_OutlineOf.f onlyR
  refine Ev.bind (spec_GoodText_f s hs) (ev_if (fun h => ?_) (fun h => ev_ret (by rw [if_neg h])))
  rw [if_pos h]
  exact Ev.bind (spec_l1Only_f s (goodB_size h) false) (ev_ret rfl)
theorem impl_OutlineOf_f (s : ByteArray) (hs : s.size ≤ 140737488351232) : Ev (fun k => impl_OutlineOf.f k s) (onlyR false s) := by
  unfold impl_OutlineOf.f onlyR
  refine Ev.bind (impl_GoodText_f s hs) (ev_if (fun h => ?_) (fun h => ev_ret (by rw [if_neg h])))
  rw [if_pos h]
  refine ev_pos (goodB_size h) (ev_ret ?_)
  rw [strOf_only s false otherP otherP_is]

/-- How deep it is behind a byte. -/
def stepD (d c : Int) : Int := if openB c = true then d + 1 else if c = 47 then d - 1 else d
def balF : Int → List Int → Bool
  | d, [] => d == 0
  | d, c :: r => if 0 ≤ stepD d c ∧ stepD d c ≤ 12 then balF (stepD d c) r else false
def docB (l : List Int) : Bool := goodB l && balF 0 l
theorem open_not47 {c : Int} (h : openB c = true) : ¬ c = 47 := by
  unfold openB at h; have := of_decide_eq_true h; omega
theorem open_iff (c : Int) : openB c = true ↔ 65 ≤ c ∧ c ≤ 70 := by unfold openB; exact decide_eq_true_iff
theorem spec_l1Balanced_j (s : ByteArray) (hs : s.size ≤ 140737488351232) (i : Nat) (hi : i < s.size) (x : Int) (hx : 0 ≤ x ∧ x ≤ 13) (y : Int) (hy : y = if bt s (i : Int) = 47 then x - 1 else x)
    (ih : 0 ≤ y ∧ y ≤ 12 → Ev (fun k => spec_l1Balanced.l0 k s y ((i + 1 : Nat) : Int)) (balF y ((bytesOf s).drop (i + 1)))) :
    Ev (fun k => spec_l1Balanced.j1 k s x (i : Int)) (if 0 ≤ y ∧ y ≤ 12 then balF y ((bytesOf s).drop (i + 1)) else false) := by
  refine Ev.step (fun k => by rw [spec_l1Balanced.j1]) ?_
  refine ev_pos (by omega) (ev_pos (by omega) ?_)
  have e1 : wrap64 (x - 1) = x - 1 := wrap_id (by omega) (by omega)
  rw [e1, wrap_succ i (by omega)]
  refine ev_if (fun h => ?_) (fun h => ?_)
  · rw [if_pos h] at hy
    subst hy
    refine ev_if (fun h1 => ev_ret ?_) (fun h1 => ev_if (fun h2 => ev_ret ?_) (fun h2 => ?_))
    · rw [if_neg (by omega)]
    · rw [if_neg (by omega)]
    · rw [if_pos (by omega)]; exact ih (by omega)
  · rw [if_neg h] at hy
    subst hy
    refine ev_neg (by omega) (ev_if (fun h2 => ev_ret ?_) (fun h2 => ?_))
    · rw [if_neg (by omega)]
    · rw [if_pos (by omega)]; exact ih (by omega)
theorem spec_l1Balanced_l (s : ByteArray) (hs : s.size ≤ 140737488351232) (d : Nat) : ∀ (i : Nat) (x : Int), i + d = s.size → 0 ≤ x ∧ x ≤ 12 →
    Ev (fun k => spec_l1Balanced.l0 k s x (i : Int)) (balF x ((bytesOf s).drop i)) := by
  induction d with
  | zero =>
    intro i x hi hx
    refine Ev.step (fun k => by rw [spec_l1Balanced.l0]) ?_
    refine ev_neg (by omega) (ev_ret ?_)
    rw [drop_end s i (by omega)]; rfl
  | succ d ih =>
    intro i x hi hx
    refine Ev.step (fun k => by rw [spec_l1Balanced.l0]) ?_
    refine ev_pos (by omega) (ev_pos (by omega) (ev_eq (spec_l1Open_f _) ?_))
    rw [drop_bytes s i (by omega), balF]
    refine ev_if (fun h => ?_) (fun h => ?_)
    · have e1 : wrap64 (x + 1) = x + 1 := wrap_id (by omega) (by omega)
      have es : stepD x (bt s (i : Int)) = x + 1 := by unfold stepD; rw [if_pos h]
      rw [e1, es]
      exact spec_l1Balanced_j s hs i (by omega) (x + 1) (by omega) (x + 1) (by rw [if_neg (open_not47 h)]) (fun hy => ih (i + 1) _ (by omega) hy)
    · have es : stepD x (bt s (i : Int)) = if bt s (i : Int) = 47 then x - 1 else x := by unfold stepD; rw [if_neg h]
      rw [es]
      exact spec_l1Balanced_j s hs i (by omega) x (by omega) _ rfl (fun hy => ih (i + 1) _ (by omega) hy)
theorem spec_l1Balanced_f (s : ByteArray) (hs : s.size ≤ 140737488351232) : Ev (fun k => spec_l1Balanced.f k s) (balF 0 (bytesOf s)) :=
  spec_l1Balanced_l s hs s.size 0 0 (by omega) (by omega)
theorem spec_GoodDoc_f (s : ByteArray) (hs : s.size ≤ 140737488351232) : Ev (fun k => spec_GoodDoc.f k s) (docB (bytesOf s)) := by
  unfold spec_GoodDoc.f docB
  refine Ev.bind (spec_GoodText_f s hs) (ev_if (fun h => ?_) (fun h => ev_ret ?_))
  · rw [h, Bool.true_and]
    exact Ev.bind (spec_l1Balanced_f s hs) (ev_ret rfl)
  · simp only [Bool.not_eq_true] at h; rw [h]; rfl
/-- The program's stack of places is as high as it is deep. -/
theorem run_bal : ∀ (l : List Int) (i : Int) (o : List Int) (m : List (Int × Int)), o.length ≤ 12 →
    (impl_matches.end_ (impl_matches.run i l o m)).1 = balF (o.length : Int) l
  | [], i, o, m, _ => by
    show decide (o.length = 0) = ((o.length : Int) == 0)
    by_cases h : o.length = 0
    · simp [h]
    · rw [decide_eq_false h]; symm; exact beq_eq_false_iff_ne.mpr (by omega)
  | c :: r, i, o, m, ho => by
    rw [impl_matches.run, balF]
    by_cases h : 65 ≤ c ∧ c ≤ 70
    · have es : stepD (o.length : Int) c = (o.length : Int) + 1 := by unfold stepD; rw [if_pos ((open_iff c).2 h)]
      rw [if_pos h, es]
      have e2 : (o ++ [i]).length = o.length + 1 := by simp
      by_cases h2 : (o ++ [i]).length > 12
      · rw [if_pos h2, if_neg (by omega)]; rfl
      · rw [if_neg h2, if_pos (by omega), run_bal r (i + 1) (o ++ [i]) m (by omega), e2]; rfl
    · rw [if_neg h]
      have hno : ¬ openB c = true := fun e => h ((open_iff c).1 e)
      by_cases h2 : c = 47
      · have es : stepD (o.length : Int) c = (o.length : Int) - 1 := by unfold stepD; rw [if_neg hno, if_pos h2]
        rw [if_pos h2, es]
        by_cases h3 : o.length = 0
        · rw [if_pos h3, if_neg (by omega)]; rfl
        · have e2 : ((o.take (o.length - 1)).length : Int) = (o.length : Int) - 1 := by rw [List.length_take]; omega
          rw [if_neg h3, if_pos (by omega), run_bal r _ _ _ (by rw [List.length_take]; omega), e2]
      · have es : stepD (o.length : Int) c = (o.length : Int) := by unfold stepD; rw [if_neg hno, if_neg h2]
        rw [if_neg h2, es, if_pos (by omega)]
        exact run_bal r (i + 1) o m ho
theorem goodB_len {l : List Int} (h : goodB l = true) : l.length ≤ 300 := by
  unfold goodB at h; simp only [Bool.and_eq_true, decide_eq_true_eq] at h; exact h.2
def matchR (l : List Int) : Bool × List (Int × Int) := if goodB l = true then impl_matches.end_ (impl_matches.run 0 l [] []) else (false, [])
theorem impl_matches_f (s : ByteArray) (hs : s.size ≤ 140737488351232) : Ev (fun k => impl_matches.f k s) (matchR (bytesOf s)) := by
  unfold impl_matches.f matchR
  refine Ev.bind (impl_GoodText_f s hs) (ev_if (fun h => ?_) (fun h => ev_ret (by rw [if_neg h])))
  have := goodB_len h
  rw [bytesOf_length] at this
  rw [if_pos h]
  exact ev_pos this (ev_ret rfl)
theorem matchR_doc (l : List Int) : (matchR l).1 = docB l := by
  unfold matchR docB
  by_cases h : goodB l = true
  · rw [if_pos h, h, run_bal _ _ _ _ (by simp)]; rfl
  · rw [if_neg h]; simp only [Bool.not_eq_true] at h; rw [h]; rfl

theorem impl_GoodDoc_f (s : ByteArray) (hs : s.size ≤ 140737488351232) : Ev (fun k => impl_GoodDoc.f k s) (docB (bytesOf s)) := by
  unfold impl_GoodDoc.f
  rw [← matchR_doc]
  exact Ev.bind (impl_matches_f s hs) (ev_ret rfl)

def cntL (b : Int) (l : List Int) : Nat := l.countP (fun c => decide (c = b))
theorem spec_l1Name_f (s : ByteArray) : spec_l1Name.f s = some (decide (s.size = 1) && openB (bt s 0)) := by
  unfold spec_l1Name.f
  by_cases h : s.size = 1
  · rw [if_pos (by omega), if_pos (by omega), spec_l1Open_f, decide_eq_true h]; rfl
  · rw [if_neg (by omega), decide_eq_false h]; rfl
theorem impl_isNameText_f (s : ByteArray) : impl_isNameText.f s = some (decide (s.size = 1) && openB (bt s 0)) := by
  unfold impl_isNameText.f
  by_cases h : s.size = 1
  · rw [if_pos (by omega), if_pos (by omega), impl_isName_f, decide_eq_true h]; rfl
  · rw [if_neg (by omega), decide_eq_false h]; rfl
theorem spec_CountOf_l (s t : ByteArray) (hs : s.size ≤ 300) (ht : t.size = 1) (d : Nat) : ∀ (i acc : Nat), i + d = s.size → acc ≤ i →
    Ev (fun k => spec_CountOf.l0 k s t (acc : Int) (i : Int)) (((acc + cntL (bt t 0) ((bytesOf s).drop i) : Nat) : Int), true) := by
  induction d with
  | zero =>
    intro i acc hi ha
    refine Ev.step (fun k => by rw [spec_CountOf.l0]) ?_
    refine ev_neg (by omega) (ev_ret ?_)
    rw [drop_end s i (by omega)]; simp [cntL]
  | succ d ih =>
    intro i acc hi ha
    refine Ev.step (fun k => by rw [spec_CountOf.l0]) ?_
    refine ev_pos (by omega) (ev_pos (by omega) (ev_pos (by omega) ?_))
    rw [drop_bytes s i (by omega), wrap_succ i (by omega), wrap_succ acc (by omega)]
    refine ev_if (fun h => ev_val (ih (i + 1) (acc + 1) (by omega) (by omega)) ?_) (fun h => ev_val (ih (i + 1) acc (by omega) (by omega)) ?_)
    · simp only [cntL, List.countP_cons, decide_eq_true h, if_true]
      congr 2; omega
    · simp only [cntL, List.countP_cons, decide_eq_false h]
      simp
theorem cnt_is (s t : ByteArray) (ht : t.size = 1) : Lib.countByte s.data.toList (t.data.toList.headD 0) = cntL (bt t 0) (bytesOf s) := by
  have e := one_byte t ht
  generalize t.data.toList.headD 0 = c at e
  subst e
  unfold Lib.countByte cntL bytesOf
  rw [List.count, List.countP_map]
  refine List.countP_congr fun x _ => ?_
  have hb : bt ⟨#[c]⟩ 0 = (c.toNat : Int) := rfl
  simp only [Function.comp, hb, beq_iff_eq, decide_eq_true_eq]
  constructor
  · rintro rfl; rfl
  · intro h; exact UInt8.toNat_inj.1 (by omega)
def countR (s t : ByteArray) : Int × Bool := if docB (bytesOf s) = true ∧ (decide (t.size = 1) && openB (bt t 0)) = true then ((cntL (bt t 0) (bytesOf s) : Int), true) else (0, false)
theorem spec_CountOf_f (s t : ByteArray) (hs : s.size ≤ 140737488351232) : Ev (fun k => spec_CountOf.f k s t) (countR s t) := by
  unfold spec_CountOf.f countR
  refine Ev.bind (spec_GoodDoc_f s hs) (ev_if (fun h => ?_) (fun h => ?_))
  · refine ev_eq (spec_l1Name_f _) ?_
    refine Ev.step (fun k => by rw [spec_CountOf.j0]) ?_
    refine ev_if (fun h2 => ev_ret ?_) (fun h2 => ?_)
    · rw [if_neg (fun c => by rw [c.2] at h2; cases h2)]
    · have h3 : (decide (t.size = 1) && openB (bt t 0)) = true := by simpa using h2
      rw [if_pos ⟨h, h3⟩]
      simp only [Bool.and_eq_true, decide_eq_true_eq] at h3
      have h300 : s.size ≤ 300 := by
        unfold docB at h; simp only [Bool.and_eq_true] at h
        have := goodB_len h.1; rwa [bytesOf_length] at this
      have := spec_CountOf_l s t h300 h3.1 s.size 0 0 (by omega) (by omega)
      simpa using this
  · refine Ev.step (fun k => by rw [spec_CountOf.j0]) ?_
    refine ev_pos rfl (ev_ret ?_)
    rw [if_neg (fun c => h c.1)]
theorem impl_CountOf_f (s t : ByteArray) (hs : s.size ≤ 140737488351232) : Ev (fun k => impl_CountOf.f k s t) (countR s t) := by
  unfold impl_CountOf.f countR
  refine Ev.bind (impl_GoodDoc_f s hs) (ev_if (fun h => ?_) (fun h => ev_ret (by rw [if_neg (fun c => h c.1)])))
  refine ev_eq (impl_isNameText_f _) (ev_if (fun h2 => ?_) (fun h2 => ev_ret (by rw [if_neg (fun c => h2 c.2)])))
  rw [if_pos ⟨h, h2⟩]
  simp only [Bool.and_eq_true, decide_eq_true_eq] at h2
  refine ev_eq (a := (Lib.countByte s.data.toList (t.data.toList.headD 0) : Int)) (by unfold strings_Count.f; rw [if_pos h2.1]) (ev_ret ?_)
  rw [cnt_is s t h2.1]

/-- How deep it is behind j bytes. -/
def D (l : List Int) (j : Nat) : Int := (l.take j).foldl stepD 0
theorem D_zero (l : List Int) : D l 0 = 0 := by simp [D]
theorem D_succ (l : List Int) (j : Nat) (h : j < l.length) : D l (j + 1) = stepD (D l j) (gt 0 l j) := by
  unfold D; rw [gt_take 0 l j h, List.foldl_append]; rfl
theorem bt_gt (s : ByteArray) (i : Nat) : bt s (i : Int) = gt 0 (bytesOf s) i := by rw [← rd_bytesOf]; rfl
theorem step_open {d c : Int} (h : openB c = true) : stepD d c = d + 1 := by unfold stepD; rw [if_pos h]
theorem step_shut {d c : Int} (h : c = 47) : stepD d c = d - 1 := by
  unfold stepD; rw [if_neg (fun e => open_not47 e h), if_pos h]
theorem step_plain {d c : Int} (h : ¬ openB c = true) (h2 : ¬ c = 47) : stepD d c = d := by unfold stepD; rw [if_neg h, if_neg h2]
/-- An element begins at p and ends at q. -/
def Mt (l : List Int) (p q : Nat) : Prop := p < q ∧ q < l.length ∧ openB (gt 0 l p) = true ∧ gt 0 l q = 47 ∧ D l (q + 1) = D l p ∧ ∀ x, p < x → x ≤ q → D l p < D l x
structure Inv (l : List Int) (i : Nat) (o : List Int) (m : List (Int × Int)) : Prop where
  deep : (o.length : Int) = D l i
  stack : ∀ j, j < o.length → ∃ pn : Nat, gt 0 o j = (pn : Int) ∧ pn < i ∧ openB (gt 0 l pn) = true ∧ D l pn = (j : Int) ∧ ∀ x, pn < x → x ≤ i → (j : Int) < D l x
  pairs : ∀ a b : Int, m.lookup a = some b → ∃ an bn : Nat, a = (an : Int) ∧ b = (bn : Int) ∧ (Mt l an bn ∨ Mt l bn an)
  opens : ∀ an, an < i → openB (gt 0 l an) = true → (∃ j, j < o.length ∧ gt 0 o j = (an : Int)) ∨ (m.lookup (an : Int)).isSome = true
  shuts : ∀ an, an < i → gt 0 l an = 47 → (m.lookup (an : Int)).isSome = true
theorem inv_start (l : List Int) : Inv l 0 [] [] :=
  ⟨by simp [D_zero], fun j h => by simp at h, fun a b h => by simp at h, fun an h => by omega, fun an h => by omega⟩
theorem lookup_cons_some (a x v : Int) (m : List (Int × Int)) (h : (m.lookup a).isSome = true) : (((x, v) :: m).lookup a).isSome = true := by
  rw [List.lookup_cons]; cases a == x <;> simp [h]
theorem gt_app_l {α : Type} (z : α) (a b : List α) (j : Nat) (h : j < a.length) : gt z (a ++ b) j = gt z a j := by
  unfold gt; rw [List.getD_eq_getElem?_getD, List.getElem?_append_left h, ← List.getD_eq_getElem?_getD]
theorem gt_app_e {α : Type} (z v : α) (a : List α) : gt z (a ++ [v]) a.length = v := by
  unfold gt; rw [List.getD_eq_getElem?_getD, List.getElem?_append_right (Nat.le_refl _)]; simp
theorem gt_takeL {α : Type} (z : α) (a : List α) (n j : Nat) (h : j < n) : gt z (a.take n) j = gt z a j := by
  unfold gt; rw [List.getD_eq_getElem?_getD, List.getElem?_take_of_lt h, ← List.getD_eq_getElem?_getD]
theorem run_inv (l : List Int) (d : Nat) : ∀ (i : Nat) (o : List Int) (m : List (Int × Int)), i + d = l.length → Inv l i o m → ∀ o' m', impl_matches.run (i : Int) (l.drop i) o m = some (o', m') → Inv l l.length o' m' := by
  induction d with
  | zero =>
    intro i o m hi hv o' m' h
    rw [List.drop_eq_nil_of_le (by omega)] at h
    have h' : some (o, m) = some (o', m') := h
    obtain ⟨rfl, rfl⟩ := Prod.mk.inj (Option.some.inj h')
    have : i = l.length := by omega
    subst this; exact hv
  | succ d ih =>
    intro i o m hi hv o' m' h
    have hD := D_succ l i (by omega)
    have hdeep := hv.deep
    rw [gt_drop 0 l i (by omega), impl_matches.run] at h
    have ei : (i : Int) + 1 = ((i + 1 : Nat) : Int) := by omega
    rw [ei] at h
    by_cases h1 : 65 ≤ gt 0 l i ∧ gt 0 l i ≤ 70
    · rw [if_pos h1] at h
      have ho := (open_iff _).2 h1
      rw [step_open ho] at hD
      by_cases h2 : (o ++ [(i : Int)]).length > 12
      · rw [if_pos h2] at h; cases h
      · rw [if_neg h2] at h
        refine ih (i + 1) _ _ (by omega) ⟨by rw [hD, List.length_append, List.length_singleton]; omega, fun j hj => ?_, hv.pairs, fun an ha hoa => ?_, fun an ha h47 => ?_⟩ o' m' h
        · by_cases hj2 : j < o.length
          · obtain ⟨pn, e1, e2, e3, e4, e5⟩ := hv.stack j hj2
            refine ⟨pn, by rw [gt_app_l _ _ _ _ hj2]; exact e1, by omega, e3, e4, fun x hx hx2 => ?_⟩
            by_cases hx3 : x ≤ i
            · exact e5 x hx hx3
            · have : x = i + 1 := by omega
              subst this; rw [hD]; omega
          · have hj3 : j = o.length := by rw [List.length_append, List.length_singleton] at hj; omega
            subst hj3
            refine ⟨i, gt_app_e _ _ _, by omega, ho, by omega, fun x hx hx2 => ?_⟩
            have : x = i + 1 := by omega
            subst this; rw [hD]; omega
        · by_cases ha2 : an < i
          · rcases hv.opens an ha2 hoa with ⟨j, hj, hj2⟩ | hl
            · exact .inl ⟨j, by rw [List.length_append]; omega, by rw [gt_app_l _ _ _ _ hj]; exact hj2⟩
            · exact .inr hl
          · have : an = i := by omega
            subst this
            exact .inl ⟨o.length, by rw [List.length_append, List.length_singleton]; omega, gt_app_e _ _ _⟩
        · by_cases ha2 : an < i
          · exact hv.shuts an ha2 h47
          · have : an = i := by omega
            subst this; exact absurd h47 (open_not47 ho)
    · rw [if_neg h1] at h
      have hno : ¬ openB (gt 0 l i) = true := fun e => h1 ((open_iff _).1 e)
      by_cases h2 : gt 0 l i = 47
      · rw [if_pos h2] at h
        rw [step_shut h2] at hD
        by_cases h3 : o.length = 0
        · rw [if_pos h3] at h; cases h
        · rw [if_neg h3] at h
          obtain ⟨pn, e1, e2, e3, e4, e5⟩ := hv.stack (o.length - 1) (by omega)
          have er : rd o ((o.length : Int) - 1) = (pn : Int) := by
            have : (o.length : Int) - 1 = ((o.length - 1 : Nat) : Int) := by omega
            rw [this]; exact e1
          rw [er] at h
          have hmt : Mt l pn i := ⟨e2, by omega, e3, h2, by omega, fun x hx hx2 => by have := e5 x hx hx2; omega⟩
          refine ih (i + 1) _ _ (by omega) ⟨by rw [hD, List.length_take]; omega, fun j hj => ?_, fun a b hab => ?_, fun an ha hoa => ?_, fun an ha h47 => ?_⟩ o' m' h
          · have hj2 : j < o.length - 1 := by rw [List.length_take] at hj; omega
            obtain ⟨qn, f1, f2, f3, f4, f5⟩ := hv.stack j (by omega)
            refine ⟨qn, by rw [gt_takeL _ _ _ _ hj2]; exact f1, by omega, f3, f4, fun x hx hx2 => ?_⟩
            by_cases hx3 : x ≤ i
            · exact f5 x hx hx3
            · have : x = i + 1 := by omega
              subst this; rw [hD]; omega
          · rw [List.lookup_cons] at hab
            by_cases ha : a = (pn : Int)
            · subst ha
              rw [beq_self_eq_true] at hab
              have hb : (i : Int) = b := Option.some.inj hab
              exact ⟨pn, i, rfl, hb.symm, .inl hmt⟩
            · rw [beq_eq_false_iff_ne.mpr ha] at hab
              simp only [List.lookup_cons] at hab
              by_cases ha2 : a = (i : Int)
              · subst ha2
                rw [beq_self_eq_true] at hab
                have hb : (pn : Int) = b := Option.some.inj hab
                exact ⟨i, pn, rfl, hb.symm, .inr hmt⟩
              · rw [beq_eq_false_iff_ne.mpr ha2] at hab
                exact hv.pairs a b hab
          · by_cases ha2 : an < i
            · rcases hv.opens an ha2 hoa with ⟨j, hj, hj2⟩ | hl
              · by_cases hj3 : j < o.length - 1
                · exact .inl ⟨j, by rw [List.length_take]; omega, by rw [gt_takeL _ _ _ _ hj3]; exact hj2⟩
                · have : j = o.length - 1 := by omega
                  subst this
                  right
                  rw [← hj2, e1, List.lookup_cons_self]; rfl
              · exact .inr (lookup_cons_some _ _ _ _ (lookup_cons_some _ _ _ _ hl))
            · have : an = i := by omega
              subst this; exact absurd h2 (open_not47 hoa)
          · by_cases ha2 : an < i
            · exact lookup_cons_some _ _ _ _ (lookup_cons_some _ _ _ _ (hv.shuts an ha2 h47))
            · have : an = i := by omega
              subst this
              exact lookup_cons_some _ _ _ _ (by rw [List.lookup_cons_self]; rfl)
      · rw [if_neg h2] at h
        rw [step_plain hno h2] at hD
        refine ih (i + 1) _ _ (by omega) ⟨by omega, fun j hj => ?_, hv.pairs, fun an ha hoa => ?_, fun an ha h47 => ?_⟩ o' m' h
        · obtain ⟨pn, e1, e2, e3, e4, e5⟩ := hv.stack j hj
          refine ⟨pn, e1, by omega, e3, e4, fun x hx hx2 => ?_⟩
          by_cases hx3 : x ≤ i
          · exact e5 x hx hx3
          · have : x = i + 1 := by omega
            subst this; rw [hD]; omega
        · by_cases ha2 : an < i
          · exact hv.opens an ha2 hoa
          · have : an = i := by omega
            subst this; exact absurd hoa hno
        · by_cases ha2 : an < i
          · exact hv.shuts an ha2 h47
          · have : an = i := by omega
            subst this; exact absurd h47 h2
/-- What the program's pairs tell of a document. -/
theorem matchR_pairs {l : List Int} (h : docB l = true) : ∃ m, matchR l = (true, m) ∧
    (∀ a b : Int, m.lookup a = some b → ∃ an bn : Nat, a = (an : Int) ∧ b = (bn : Int) ∧ (Mt l an bn ∨ Mt l bn an)) ∧
    (∀ an, an < l.length → (openB (gt 0 l an) = true ∨ gt 0 l an = 47) → (m.lookup (an : Int)).isSome = true) := by
  have hd := matchR_doc l
  rw [h] at hd
  have hg : goodB l = true := by unfold docB at h; simp only [Bool.and_eq_true] at h; exact h.1
  unfold matchR at hd ⊢
  rw [if_pos hg] at hd ⊢
  cases hr : impl_matches.run 0 l [] [] with
  | none => rw [hr] at hd; cases hd
  | some x =>
    obtain ⟨o, m⟩ := x
    rw [hr] at hd
    have ho : o.length = 0 := of_decide_eq_true hd
    have hv := run_inv l l.length 0 [] [] (by omega) (inv_start l) o m (by rw [List.drop_zero]; exact hr)
    refine ⟨m, ?_, hv.pairs, fun an ha hx => ?_⟩
    · show (decide (o.length = 0), m) = (true, m)
      rw [decide_eq_true ho]
    · rcases hx with hx | hx
      · rcases hv.opens an ha hx with ⟨j, hj, _⟩ | hl
        · omega
        · exact hl
      · exact hv.shuts an ha hx
theorem Mt_fun {l : List Int} {p q q' : Nat} (h : Mt l p q) (h' : Mt l p q') : q = q' := by
  rcases Nat.lt_trichotomy q q' with c | c | c
  · have := h'.2.2.2.2.2 (q + 1) (by have := h.1; omega) (by omega)
    have := h.2.2.2.2.1; omega
  · exact c
  · have := h.2.2.2.2.2 (q' + 1) (by have := h'.1; omega) (by omega)
    have := h'.2.2.2.2.1; omega
theorem D_bound (l : List Int) : ∀ j, j ≤ l.length → -(j : Int) ≤ D l j ∧ D l j ≤ (j : Int)
  | 0, _ => by rw [D_zero]; omega
  | j + 1, h => by
    have ih := D_bound l j (by omega)
    rw [D_succ l j (by omega)]
    unfold stepD; split
    · omega
    · split <;> omega
theorem doc_len {s : ByteArray} (h : docB (bytesOf s) = true) : s.size ≤ 300 := by
  unfold docB at h; simp only [Bool.and_eq_true] at h
  have := goodB_len h.1
  rwa [bytesOf_length] at this
theorem good_byte {l : List Int} (h : goodB l = true) (i : Nat) (hi : i < l.length) : openB (gt 0 l i) = true ∨ plainB (gt 0 l i) = true ∨ gt 0 l i = 47 := by
  unfold goodB textB at h
  simp only [Bool.and_eq_true, List.all_eq_true] at h
  have := h.1 _ (gt_mem 0 l i hi)
  unfold okB at this
  simp only [Bool.or_eq_true, decide_eq_true_eq] at this
  rcases this with (h | h) | h
  · exact .inl h
  · exact .inr (.inl h)
  · exact .inr (.inr h)
theorem plain_not {c : Int} (h : plainB c = true) : ¬ openB c = true ∧ ¬ c = 47 := by
  unfold plainB at h
  simp only [Bool.or_eq_true, decide_eq_true_eq] at h
  constructor
  · rw [open_iff]; omega
  · omega

theorem balF_of : ∀ (l : List Int) (d : Int), (∀ j, j ≤ l.length → 0 ≤ (l.take j).foldl stepD d ∧ (l.take j).foldl stepD d ≤ 12) → l.foldl stepD d = 0 → balF d l = true
  | [], d, _, h => by
    have : d = 0 := h
    subst this; rfl
  | c :: r, d, hb, h => by
    rw [balF]
    have h1 := hb 1 (by simp)
    have e : ((c :: r).take 1).foldl stepD d = stepD d c := rfl
    rw [e] at h1
    rw [if_pos h1]
    refine balF_of r (stepD d c) (fun j hj => ?_) h
    have := hb (j + 1) (by simp; omega)
    rw [List.take_succ_cons, List.foldl_cons] at this
    exact this
theorem balF_to : ∀ (l : List Int) (d : Int), 0 ≤ d → d ≤ 12 → balF d l = true → (∀ j, j ≤ l.length → 0 ≤ (l.take j).foldl stepD d ∧ (l.take j).foldl stepD d ≤ 12) ∧ l.foldl stepD d = 0
  | [], d, h0, h1, h => by
    refine ⟨fun j hj => ?_, ?_⟩
    · rw [List.take_nil]; exact ⟨h0, h1⟩
    · have : (d == 0) = true := h
      exact beq_iff_eq.1 this
  | c :: r, d, h0, h1, h => by
    rw [balF] at h
    by_cases hc : 0 ≤ stepD d c ∧ stepD d c ≤ 12
    · rw [if_pos hc] at h
      obtain ⟨a, b⟩ := balF_to r (stepD d c) hc.1 hc.2 h
      refine ⟨fun j hj => ?_, b⟩
      cases j with
      | zero => exact ⟨h0, h1⟩
      | succ j => rw [List.take_succ_cons, List.foldl_cons]; exact a j (by simpa using hj)
    · rw [if_neg hc] at h; cases h
theorem D_range {l : List Int} (h : docB l = true) (j : Nat) (hj : j ≤ l.length) : 0 ≤ D l j ∧ D l j ≤ 12 := by
  unfold docB at h; simp only [Bool.and_eq_true] at h
  exact (balF_to l 0 (Int.le_refl _) (by decide) h.2).1 j hj
/-- How deep it is within a stretch. -/
theorem fold_sub (l : List Int) (a : Nat) (ha : a ≤ l.length) (x : Int) : ∀ j, a + j ≤ l.length → ((l.drop a).take j).foldl stepD x = D l (a + j) - D l a + x
  | 0, _ => by simp
  | j + 1, hj => by
    have ih := fold_sub l a ha x j (by omega)
    have e : (l.drop a).take (j + 1) = (l.drop a).take j ++ [gt 0 l (a + j)] := by
      rw [gt_take 0 (l.drop a) j (by rw [List.length_drop]; omega)]
      congr 2
      unfold gt; rw [List.getD_eq_getElem?_getD, List.getD_eq_getElem?_getD, List.getElem?_drop]
    rw [e, List.foldl_append, ih, show a + (j + 1) = (a + j) + 1 by omega, D_succ l (a + j) (by omega)]
    show stepD _ _ = _
    unfold stepD; split
    · omega
    · split <;> omega
theorem bal_sub (l : List Int) (hd : docB l = true) (a b : Nat) (hab : a ≤ b) (hb : b ≤ l.length) (hlow : ∀ x, a ≤ x → x ≤ b → D l a ≤ D l x) (hend : D l b = D l a) : balF 0 ((l.take b).drop a) = true := by
  have hl : ((l.take b).drop a).length = b - a := by rw [List.length_drop, List.length_take]; omega
  have et : ∀ j, j ≤ b - a → ((l.take b).drop a).take j = (l.drop a).take j := fun j hj => by
    rw [List.drop_take, List.take_take, Nat.min_eq_left hj]
  have ra := D_range hd a (by omega)
  refine balF_of _ 0 (fun j hj => ?_) ?_
  · rw [hl] at hj
    rw [et j hj, fold_sub l a (by omega) 0 j (by omega)]
    have h1 := hlow (a + j) (by omega) (by omega)
    have h2 := D_range hd (a + j) (by omega)
    omega
  · have : (l.take b).drop a = ((l.take b).drop a).take (b - a) := (List.take_of_length_le (by omega)).symm
    rw [this, et (b - a) (Nat.le_refl _), fold_sub l a (by omega) 0 (b - a) (by omega), show a + (b - a) = b by omega, hend]; omega
theorem Mt_fun' {l : List Int} {p p' q : Nat} (h : Mt l p q) (h' : Mt l p' q) : p = p' := by
  have e := h.2.2.2.2.1
  have e' := h'.2.2.2.2.1
  rcases Nat.lt_trichotomy p p' with c | c | c
  · have := h.2.2.2.2.2 p' c (by have := h'.1; omega); omega
  · exact c
  · have := h'.2.2.2.2.2 p c (by have := h.1; omega); omega
theorem Mt_deep {l : List Int} {p q : Nat} (h : Mt l p q) : D l q = D l p + 1 := by
  have hD := D_succ l q h.2.1
  rw [step_shut h.2.2.2.1] at hD
  have := h.2.2.2.2.1; omega
/-- Plain bytes change nothing. -/
theorem bal_other : ∀ (l : List Int) (d : Int), 0 ≤ d → d ≤ 12 → balF d (l.filter (fun c => plainB c == false)) = balF d l
  | [], d, _, _ => rfl
  | c :: r, d, h0, h1 => by
    cases hp : plainB c with
    | true =>
      rw [List.filter_cons, hp, show (true == false) = false from rfl, if_neg (by simp), bal_other r d h0 h1, balF, step_plain (plain_not hp).1 (plain_not hp).2, if_pos ⟨h0, h1⟩]
    | false =>
      rw [List.filter_cons, hp, show (false == false) = true from rfl, if_pos rfl, balF, balF]
      by_cases hc : 0 ≤ stepD d c ∧ stepD d c ≤ 12
      · rw [if_pos hc, if_pos hc]; exact bal_other r _ hc.1 hc.2
      · rw [if_neg hc, if_neg hc]

theorem bytes_l {s : List Int} (hs : Code s) : ∀ (n : Nat) (acc : List Int) (at_ seed : Int), n ≤ 20 → 0 ≤ at_ → at_ + n ≤ 100000000 → acc.length + n ≤ 1000 →
    ∃ (r : List Int) (at' seed' : Int), Ev (fun k => spec_l1Cur_bytes.l0 k acc (n : Int) s at_ seed) (r, at', seed') ∧ r.length ≤ acc.length + n
  | 0, acc, at_, seed, _, _, _, _ => by
    refine ⟨acc, at_, seed, ?_, by omega⟩
    refine Ev.step (fun k => by rw [spec_l1Cur_bytes.l0]) ?_
    exact ev_neg (by omega) (ev_ret rfl)
  | n + 1, acc, at_, seed, hn, h0, h1, h2 => by
    obtain ⟨x, z, e, _, _⟩ := next_f hs at_ seed h0 (by omega)
    obtain ⟨r, at', seed', q1, q2⟩ := bytes_l hs n (acc ++ [x % 256]) (at_ + 1) z (by omega) (by omega) (by omega) (by rw [List.length_append, List.length_singleton]; omega)
    rw [List.length_append, List.length_singleton] at q2
    refine ⟨r, at', seed', ?_, by omega⟩
    refine Ev.step (fun k => by rw [spec_l1Cur_bytes.l0]) ?_
    refine ev_pos (by omega) (ev_eq e (ev_pos (by omega) ?_))
    rw [wrap_pred n (by omega)]; exact q1
theorem DrawPlainOf_f {s : List Int} (hs : Code s) : ∃ r : ByteArray, Ev (fun k => spec_DrawPlainOf.f k s) r ∧ r.size ≤ 20000 := by
  obtain ⟨b, a, z, e, b1, b2⟩ := one_f hs 0 0 30 (Int.le_refl _) (by omega)
  cases b with
  | true =>
    obtain ⟨m, a1, z1, e1, m0, m1, b3, b4⟩ := pick_f hs a z 10 (by omega) (by omega)
    have m2 := m1 (by omega)
    obtain ⟨mn, rfl⟩ := Int.eq_ofNat_of_zero_le m0
    obtain ⟨r, at', seed', q1, q2⟩ := bytes_l hs mn [] a1 z1 (by omega) (by omega) (by omega) (by simp; omega)
    refine ⟨strOfNums r, ?_, by rw [Go.strOfNums_size]; simp at q2; omega⟩
    unfold spec_DrawPlainOf.f spec_DrawGoodText.f
    refine Ev.bind (a := strOfNums r) (ev_eq e (ev_pos rfl (Ev.bind (a := (r, at', seed')) ?_ (ev_ret rfl)))) (ev_ret rfl)
    unfold spec_l1Cur_bytes.f
    dsimp only
    rw [show wrap64 ((9 : Int) + 1) = 10 by rw [wrap_id (by omega) (by omega)]; rfl]
    exact ev_eq e1 q1
  | false =>
    obtain ⟨r, at', seed', q1, _, _, q4⟩ := doc_f hs a z (by omega) (by omega)
    refine ⟨r, ?_, q4⟩
    unfold spec_DrawPlainOf.f spec_DrawGoodText.f
    exact Ev.bind (a := r) (ev_eq e (ev_neg (by simp) (Ev.bind q1 (ev_ret rfl)))) (ev_ret rfl)
theorem DrawCountOf_f {s : List Int} (hs : Code s) : ∃ r : ByteArray × ByteArray, Ev (fun k => spec_DrawCountOf.f k s) r ∧ r.1.size ≤ 20000 := by
  obtain ⟨t, a, z, q1, q2, q3, q4⟩ := doc_f hs 0 0 (Int.le_refl _) (by omega)
  obtain ⟨u, a2, z2, e, _, _, _⟩ := of_f hs a z cntNames q2 (by omega) (by simp [cntNames]) (by simp [cntNames]) 2 (by
    intro x hx
    simp only [cntNames, List.mem_cons, List.not_mem_nil, or_false] at hx
    rcases hx with rfl | rfl | rfl | rfl | rfl | rfl <;> decide)
  refine ⟨(t, u), ?_, q4⟩
  unfold spec_DrawCountOf.f
  exact Ev.bind q1 (ev_eq e (ev_ret rfl))
theorem only_len : ∀ l : List Int, (onlyL true l).length + (onlyL false l).length = l.length
  | [] => rfl
  | c :: r => by
    have ih := only_len r
    unfold onlyL at ih ⊢
    cases h : plainB c with
    | true => simp [List.filter_cons, h]; simp at ih; omega
    | false => simp [List.filter_cons, h]; simp at ih; omega
theorem bytes_only (s : ByteArray) : bytesOf (strOfNums (onlyL false (bytesOf s))) = onlyL false (bytesOf s) := by
  rw [← strOf_only s false (fun c => plainB c == false) (fun _ => rfl)]
  unfold keepL onlyL bytesOf
  rw [List.filter_map]; rfl
theorem doc_only {l : List Int} (h : goodB l = true) : docB (onlyL false l) = docB l := by
  have hg : goodB (onlyL false l) = true := by
    unfold goodB textB at h ⊢
    rw [Bool.and_eq_true, List.all_eq_true] at h ⊢
    refine ⟨fun x hx => h.1 x (List.mem_filter.1 hx).1, decide_eq_true ?_⟩
    exact Nat.le_trans (List.length_filter_le _ _) (of_decide_eq_true h.2)
  unfold docB
  rw [h, hg]
  unfold onlyL
  rw [bal_other l 0 (Int.le_refl _) (by decide)]
theorem FnPlain : laws_FnPlain.Pure := by
  intro code more h1 h2 h3 h4 h5 h6
  refine Ev.rounds ?_
  unfold laws_FnPlain.f
  refine ev_if (fun _ => ev_ret rfl) (fun hg => ?_)
  rw [wrap_id (by omega) (by omega)] at hg
  obtain ⟨s, hs, hsz⟩ := DrawPlainOf_f (code_of (by omega) h3)
  have hs' : s.size ≤ 140737488351232 := by omega
  refine Ev.bind hs (Ev.bind (impl_PlainOf_f s hs') (Ev.bind (impl_OutlineOf_f s hs') (Ev.bind (spec_PlainOf_f s hs') (Ev.bind (spec_OutlineOf_f s hs') (ev_neg (by simp) (ev_neg (by simp) (ev_pos rfl ?_)))))))
  rw [bne_self_eq_false]
  refine Ev.step (fun k => by rw [laws_FnPlain.j0]) ?_
  refine ev_neg (by simp) ?_
  by_cases g : goodB (bytesOf s) = true
  · have eP : onlyR true s = (strOfNums (onlyL true (bytesOf s)), true) := by unfold onlyR; rw [if_pos g]
    have eO : onlyR false s = (strOfNums (onlyL false (bytesOf s)), true) := by unfold onlyR; rw [if_pos g]
    rw [eP, eO]
    obtain ⟨d, hd, hdz⟩ := DrawCountOf_f (code_of (l := more) (by omega) h6)
    have hl := only_len (bytesOf s)
    rw [bytesOf_length] at hl
    have hc := Go.strOfNums_size (onlyL true (bytesOf s))
    have hc2 := Go.strOfNums_size (onlyL false (bytesOf s))
    have hgo := impl_GoodDoc_f (strOfNums (onlyL false (bytesOf s))) (by omega)
    rw [bytes_only, doc_only g] at hgo
    refine ev_pos rfl (Ev.bind hd (Ev.bind (impl_CountOf_f d.1 d.2 (by omega)) (Ev.bind (spec_CountOf_f d.1 d.2 (by omega)) (ev_pos ?_ (Ev.bind hgo (Ev.bind (impl_GoodDoc_f s hs') (ev_pos (by simp) (ev_pos (by simp) (ev_ret (by simp))))))))))
    simp only
    rw [wrap_id (by omega) (by omega)]; omega
  · have eP : onlyR true s = ((⟨#[]⟩ : ByteArray), false) := by unfold onlyR; rw [if_neg g]
    have eO : onlyR false s = ((⟨#[]⟩ : ByteArray), false) := by unfold onlyR; rw [if_neg g]
    have en : (⟨#[]⟩ : ByteArray).toList = ([] : List UInt8) := by rw [ByteArray.toList_eq]
    rw [eP, eO]
    refine ev_neg (by simp) (ev_pos en (ev_ret ?_))
    rw [beq_iff_eq]; exact en

end Go.Proofs.Ytamjfhlbhaaepaa.Pure
