/- FnPlaces over plain functions: places keep their order behind a drawn change, a byte that is kept is found at its place, and the ends stay the ends; no condition. -/
import Derived.Test.YtmhcmcdppimcpaaPFnPlacesx10
import Derived.Test.YtmhcmcdppimcpaaBase
import Derived.Test.YtmhcmcdppimcpaaMk
namespace Go.Proofs.Ytmhcmcdppimcpaa.Pure
open Go.RowKit Go.Proofs.Ytmhcmcdppimcpaa.PFnPlaces Go.Proofs.YtmhcmcdppimcpaaW.PrintWords Go.Proofs.YtmhcmcdppimcpaaW.PrintLast Go.Proofs.Ytmhcmcdppimcpaa.Base Go.Proofs.Ytmhcmcdppimcpaa.Mk
set_option linter.unusedVariables false
set_option linter.unusedSimpArgs false

theorem and255 (E : Int) (h0 : 0 ≤ E) (h1 : E ≤ 18446744073709551615) : 0 ≤ Go.bits .and .u64 E 255 ∧ Go.bits .and .u64 E 255 ≤ 255 := by
 have h := Go.bits_and_u64_nat E.toNat 255 (by omega) (by omega)
 rw [Int.toNat_of_nonneg h0] at h
 have h2 : E.toNat &&& 255 ≤ 255 := Nat.and_le_right
 have h3 : Go.bits .and .u64 E 255 = ((E.toNat &&& 255 : Nat) : Int) := h
 rw [h3]; omega
theorem and255q (x : Int) : 0 ≤ wrap64 (Go.bits .and .u64 (Go.IntKind.u64.wrap x / 1099511627776) 255) ∧ wrap64 (Go.bits .and .u64 (Go.IntKind.u64.wrap x / 1099511627776) 255) ≤ 255 := by
 have hw := Go.IntKind.wrap_u64 x
 obtain ⟨a, b⟩ := and255 (Go.IntKind.u64.wrap x / 1099511627776) (by rw [hw]; omega) (by rw [hw]; omega)
 rw [wrap_id (by omega) (by omega)]; exact ⟨a, b⟩
/-- Bytes as they come in. -/
def Code (s : List Int) : Prop := (∀ x ∈ s, 0 ≤ x ∧ x ≤ 255) ∧ s.length ≤ 1000000000000
theorem next_f {s : List Int} (hs : Code s) (at_ seed : Int) (h0 : 0 ≤ at_) (h1 : at_ ≤ 1000000000000) : ∃ x seed', spec_l1Cur_next.f s at_ seed = some (x, at_ + 1, seed') ∧ 0 ≤ x ∧ x ≤ 255 := by
 unfold spec_l1Cur_next.f
 rw [wrap_id (x := at_ + 1) (by omega) (by omega)]
 by_cases c : at_ < (s.length : Int)
 ·rw [if_pos c, if_pos h0]
  have hx : 0 ≤ rd s at_ ∧ rd s at_ ≤ 255 := by
   obtain ⟨n, rfl⟩ := Int.eq_ofNat_of_zero_le h0
   exact hs.1 _ (gt_mem 0 s n (by omega))
  have e : wrap64 (rd s at_) = rd s at_ := wrap_id (by omega) (by omega)
  by_cases c2 : at_ + 1 ≤ (s.length : Int)
  ·rw [if_pos c2]; exact ⟨_, _, rfl, by rw [e]; exact hx.1, by rw [e]; exact hx.2⟩
  ·rw [if_neg c2]; exact ⟨_, _, rfl, and255q _⟩
 ·rw [if_neg c]
  by_cases c2 : at_ + 1 ≤ (s.length : Int)
  ·rw [if_pos c2]; exact ⟨_, _, rfl, Int.le_refl _, by decide⟩
  ·rw [if_neg c2]; exact ⟨_, _, rfl, and255q _⟩
theorem wrap_pred (n : Nat) (h : n ≤ 4611686018427387904) : wrap64 (((n + 1 : Nat) : Int) - 1) = (n : Int) := by rw [wrap_id (by omega) (by omega)]; omega
theorem tmod_in {x n : Int} (hx : 0 ≤ x) (hn : 0 < n) : 0 ≤ Int.tmod x n ∧ Int.tmod x n < n := by
 rw [Int.tmod_eq_emod_of_nonneg hx]
 exact ⟨Int.emod_nonneg _ (by omega), Int.emod_lt_of_pos _ hn⟩
theorem pick_f {s : List Int} (hs : Code s) (at_ seed n : Int) (h0 : 0 ≤ at_) (h1 : at_ ≤ 100000000000) : ∃ r at' seed', spec_l1Cur_pick.f s at_ seed n = some (r, at', seed') ∧ 0 ≤ r ∧ (1 ≤ n → r < n) ∧ at_ ≤ at' ∧ at' ≤ at_ + 2 := by
 unfold spec_l1Cur_pick.f
 by_cases c : n ≤ 1
 ·rw [if_pos c]; exact ⟨_, _, _, rfl, Int.le_refl _, fun h => by omega, Int.le_refl _, by omega⟩
 ·rw [if_neg c]
  obtain ⟨x, s1, e1, x0, x1⟩ := next_f hs at_ seed h0 (by omega)
  rw [e1]
  simp only [Option.bind_some]
  by_cases c2 : n > 200
  ·rw [if_pos c2]
   obtain ⟨y, s2, e2, y0, y1⟩ := next_f hs (at_ + 1) s1 (by omega) (by omega)
   rw [e2]
   simp only [Option.bind_some]
   rw [if_neg (by omega)]
   have e3 : wrap64 (wrap64 (x * 256) + y) = x * 256 + y := by rw [wrap_id (x := x * 256) (by omega) (by omega), wrap_id (by omega) (by omega)]
   rw [e3]
   obtain ⟨t1, t2⟩ := tmod_in (x := x * 256 + y) (n := n) (by omega) (by omega)
   exact ⟨_, _, _, rfl, t1, fun _ => t2, by omega, by omega⟩
  ·rw [if_neg c2, if_neg (by omega)]
   obtain ⟨t1, t2⟩ := tmod_in (x := x) (n := n) x0 (by omega)
   exact ⟨_, _, _, rfl, t1, fun _ => t2, by omega, by omega⟩
theorem one_f {s : List Int} (hs : Code s) (at_ seed n : Int) (h0 : 0 ≤ at_) (h1 : at_ ≤ 100000000000) : ∃ b at' seed', spec_l1Cur_one.f s at_ seed n = some (b, at', seed') ∧ at_ ≤ at' ∧ at' ≤ at_ + 2 := by
 unfold spec_l1Cur_one.f
 obtain ⟨r, a, z, e, _, _, h2, h3⟩ := pick_f hs at_ seed n h0 h1
 rw [e]
 exact ⟨_, _, _, rfl, h2, h3⟩
theorem of_f {s : List Int} (hs : Code s) (at_ seed : Int) (l : List ByteArray) (h0 : 0 ≤ at_) (h1 : at_ ≤ 100000000000) (hl : 1 ≤ l.length) (hl2 : l.length ≤ 1000) (m : Nat) (hm : ∀ x ∈ l, x.size ≤ m) : ∃ r at' seed', spec_l1Cur_of.f s at_ seed l = some (r, at', seed') ∧ r.size ≤ m ∧ at_ ≤ at' ∧ at' ≤ at_ + 2 := by
 unfold spec_l1Cur_of.f
 obtain ⟨r, a, z, e, r0, r1, h2, h3⟩ := pick_f hs at_ seed (l.length : Int) h0 h1
 rw [e]
 simp only [Option.bind_some]
 have := r1 (by omega)
 rw [if_pos r0, if_pos this]
 refine ⟨_, _, _, rfl, ?_, h2, h3⟩
 obtain ⟨n, rfl⟩ := Int.eq_ofNat_of_zero_le r0
 exact hm _ (gt_mem ByteArray.empty l n (by omega))
/-- A run of so many parts, so deep: it ends, and is not too long. -/
def InnerOk (s : List Int) (d C S : Nat) : Prop := ∀ (n : Nat) (x7 : ByteArray) (at_ seed : Int), n ≤ 60 → 0 ≤ at_ → at_ + ((n * C : Nat) : Int) ≤ 1000000000 → x7.size + n * S ≤ 1000000000 →
 ∃ (r : ByteArray) (at' seed' : Int), Ev (fun k => spec_l1Cur_inner.l0 k (n : Int) (d : Int) x7 s at_ seed) (r, at', seed') ∧ at_ ≤ at' ∧ at' ≤ at_ + ((n * C : Nat) : Int) ∧ r.size ≤ x7.size + n * S
theorem ba_len (a b : ByteArray) : (a ++ b).size = a.size + b.size := ByteArray.size_append
theorem inner_step {s : List Int} (hs : Code s) (d C S : Nat) (hd : d ≤ 10) (hC : 4 ≤ C ∧ C ≤ 1000) (hS : 3 ≤ S ∧ S ≤ 1000) (hin : d = 0 ∨ ∃ e c z, d = e + 1 ∧ InnerOk s e c z ∧ 6 + 3 * c ≤ C ∧ 2 + 3 * z ≤ S) : InnerOk s d C S := by
 intro n
 induction n with
 | zero =>
  intro x7 at_ seed hn h0 h1 h2
  refine ⟨x7, at_, seed, ?_, Int.le_refl _, by omega, by omega⟩
  refine Ev.step (fun k => by rw [spec_l1Cur_inner.l0]) ?_
  exact ev_neg (by omega) (ev_ret rfl)
 | succ n ih =>
  intro x7 at_ seed hn h0 h1 h2
  have m1 : (n + 1) * C = n * C + C := Nat.succ_mul n C
  have m2 : (n + 1) * S = n * S + S := Nat.succ_mul n S
  generalize (n + 1) * C = CC at m1 h1 ⊢
  generalize (n + 1) * S = SS at m2 h2 ⊢
  generalize n * C = cc at m1 ih
  generalize n * S = ss at m2 ih
  -- a part without elements
  have flat : ∀ (a z : Int), 0 ≤ a → a ≤ at_ + 2 → at_ ≤ a → ∃ (r : ByteArray) (at' seed' : Int), Ev (fun k => spec_l1Cur_inner.j1 k ((n + 1 : Nat) : Int) (d : Int) x7 false s a z) (r, at', seed') ∧ at_ ≤ at' ∧ at' ≤ at_ + (CC : Int) ∧ r.size ≤ x7.size + SS := fun a z a0 a1 a2 => by
   obtain ⟨t, a', z', e, ht, b1, b2⟩ := of_f hs a z [(⟨#[97]⟩ : ByteArray), (⟨#[98]⟩ : ByteArray), (⟨#[97, 98]⟩ : ByteArray), (⟨#[120]⟩ : ByteArray), (⟨#[32]⟩ : ByteArray), (⟨#[111, 110, 101]⟩ : ByteArray), (⟨#[49]⟩ : ByteArray), (⟨#[122, 46]⟩ : ByteArray)] (by omega) (by omega) (by simp) (by simp) 3 (by
    intro x hx
    simp only [List.mem_cons, List.not_mem_nil, or_false] at hx
    rcases hx with rfl | rfl | rfl | rfl | rfl | rfl | rfl | rfl <;> decide)
   obtain ⟨r, at', seed', q1, q2, q3, q4⟩ := ih (x7 ++ t) a' z' (by omega) (by omega) (by omega) (by rw [ba_len]; omega)
   rw [ba_len] at q4
   refine ⟨r, at', seed', ?_, by omega, by omega, by omega⟩
   refine Ev.step (fun k => by rw [spec_l1Cur_inner.j1]) ?_
   refine ev_neg (by simp) (ev_eq e (ev_pos (by dsimp only; omega) ?_))
   rw [wrap_pred n (by omega)]; exact q1
  rcases hin with rfl | ⟨e, c, z, rfl, hok, hc, hz⟩
  ·obtain ⟨r, at', seed', q1, q2, q3, q4⟩ := flat at_ seed h0 (by omega) (Int.le_refl _)
   refine ⟨r, at', seed', ?_, q2, q3, q4⟩
   refine Ev.step (fun k => by rw [spec_l1Cur_inner.l0]) ?_
   exact ev_pos (by omega) (ev_neg (by omega) q1)
  ·obtain ⟨b, a, z1, e1, b1, b2⟩ := one_f hs at_ seed 3 h0 (by omega)
   have hstart : ∀ r, Ev (fun k => spec_l1Cur_inner.j1 k ((n + 1 : Nat) : Int) ((e + 1 : Nat) : Int) x7 b s a z1) r → Ev (fun k => spec_l1Cur_inner.l0 k ((n + 1 : Nat) : Int) ((e + 1 : Nat) : Int) x7 s at_ seed) r := fun r h => by
    refine Ev.step (fun k => by rw [spec_l1Cur_inner.l0]) ?_
    exact ev_pos (by omega) (ev_pos (by omega) (ev_eq e1 h))
   cases b with
   | false =>
    obtain ⟨r, at', seed', q1, q2, q3, q4⟩ := flat a z1 (by omega) b2 b1
    exact ⟨r, at', seed', hstart _ q1, q2, q3, q4⟩
   | true =>
    obtain ⟨p, a2, z2, e2, p0, p1, b3, b4⟩ := pick_f hs a z1 4 (by omega) (by omega)
    obtain ⟨m, a3, z3, e3, m0, m1', b5, b6⟩ := pick_f hs a2 z2 4 (by omega) (by omega)
    have m3 := m1' (by omega)
    obtain ⟨mn, rfl⟩ := Int.eq_ofNat_of_zero_le m0
    have c1 : mn * c ≤ 3 * c := Nat.mul_le_mul_right c (by omega)
    have c2 : mn * z ≤ 3 * z := Nat.mul_le_mul_right z (by omega)
    obtain ⟨t, a4, z4, t1, t2, t3, t4⟩ := hok mn (⟨#[]⟩ : ByteArray) a3 z3 (by omega) (by omega) (by omega) (by show 0 + mn * z ≤ _; omega)
    have t4' : t.size ≤ mn * z := by have : (⟨#[]⟩ : ByteArray).size = 0 := rfl; omega
    have hsz : ∀ y : List Int, y.length = 1 → (Go.strOfNums y).size = 1 := fun y hy => by rw [Go.strOfNums_size, hy]
    have hs1 : (Go.strOfNums [(wrap64 (65 + p)) % 256]).size = 1 := hsz _ rfl
    have hs2 : (⟨#[47]⟩ : ByteArray).size = 1 := rfl
    have hs3 : ((Go.strOfNums [(wrap64 (65 + p)) % 256] ++ t) ++ (⟨#[47]⟩ : ByteArray)).size = 2 + t.size := by rw [ba_len, ba_len, hs1, hs2]; omega
    obtain ⟨r, at', seed', q1, q2, q3, q4⟩ := ih (x7 ++ ((Go.strOfNums [(wrap64 (65 + p)) % 256] ++ t) ++ (⟨#[47]⟩ : ByteArray))) a4 z4 (by omega) (by omega) (by omega) (by rw [ba_len, hs3]; omega)
    rw [ba_len, hs3] at q4
    refine ⟨r, at', seed', hstart _ ?_, by omega, by omega, by omega⟩
    refine Ev.step (fun k => by rw [spec_l1Cur_inner.j1]) ?_
    rw [wrap_pred e (by omega), wrap_pred n (by omega)]
    refine ev_pos rfl (ev_eq e2 (ev_eq rfl (ev_eq e3 (Ev.bind (a := (t, a4, z4)) ?_ (ev_pos (by rw [hs1]; simp only; omega) (ev_pos (by rw [ba_len, hs1]; simp only; omega) (ev_pos (by rw [hs3]; omega) q1)))))))
    refine Ev.step (fun k => by rw [spec_l1Cur_inner.f]) ?_
    exact t1
theorem inner_ok3 {s : List Int} (hs : Code s) : InnerOk s 3 186 107 :=
 inner_step hs 3 186 107 (by omega) (by omega) (by omega) (.inr ⟨2, 60, 35, rfl, inner_step hs 2 60 35 (by omega) (by omega) (by omega) (.inr ⟨1, 18, 11, rfl, inner_step hs 1 18 11 (by omega) (by omega) (by omega) (.inr ⟨0, 4, 3, rfl, inner_step hs 0 4 3 (by omega) (by omega) (by omega) (.inl rfl), by omega, by omega⟩), by omega, by omega⟩), by omega, by omega⟩)
theorem inner_f {s : List Int} (hs : Code s) (n : Nat) (hn : n ≤ 60) (at_ seed : Int) (h0 : 0 ≤ at_) (h1 : at_ ≤ 100000000) : ∃ (r : ByteArray) (at' seed' : Int), Ev (fun k => spec_l1Cur_inner.f k s at_ seed (n : Int) 3) (r, at', seed') ∧ at_ ≤ at' ∧ at' ≤ at_ + 20000 ∧ r.size ≤ 10000 := by
 obtain ⟨r, a, z, q1, q2, q3, q4⟩ := inner_ok3 hs n (⟨#[]⟩ : ByteArray) at_ seed hn h0 (by omega) (by show 0 + n * 107 ≤ _; omega)
 have e0 : (⟨#[]⟩ : ByteArray).size = 0 := rfl
 refine ⟨r, a, z, ?_, q2, by omega, by omega⟩
 refine Ev.step (fun k => by rw [spec_l1Cur_inner.f]) ?_
 exact q1
theorem extract_size (x : ByteArray) (a b : Nat) (h : b ≤ x.size) : (x.extract a b).size = b - a := by rw [ByteArray.size_extract]; omega
set_option maxHeartbeats 4000000 in
theorem spoilt_l {s : List Int} (hs : Code s) (w : ByteArray) (hw : 1 ≤ w.size ∧ w.size ≤ 100) : ∀ (n : Nat) (x : ByteArray) (at_ seed : Int), n ≤ 3 → 0 ≤ at_ → at_ + 6 * (n : Int) ≤ 60000000000 → x.size + n ≤ 1000000 →
  ∃ (r : ByteArray) (at' seed' : Int), Ev (fun k => spec_l1Cur_spoilt.l0 k x w (n : Int) s at_ seed) (r, at', seed') ∧ at_ ≤ at' ∧ at' ≤ at_ + 6 * (n : Int) ∧ r.size ≤ x.size + n
 | 0, x, at_, seed, hn, h0, h1, hx => by
  refine ⟨x, at_, seed, ?_, Int.le_refl _, by omega, by omega⟩
  refine Ev.step (fun k => by rw [spec_l1Cur_spoilt.l0]) ?_
  refine ev_neg (by omega) ?_
  refine Ev.step (fun k => by rw [spec_l1Cur_spoilt.j1]) ?_
  exact ev_neg (by simp) (ev_ret rfl)
 | n + 1, x, at_, seed, hn, h0, h1, hx => by
  have hstart : ∀ r, Ev (fun k => spec_l1Cur_spoilt.j1 k x w ((n + 1 : Nat) : Int) (decide ((x.size : Int) > 0)) s at_ seed) r → Ev (fun k => spec_l1Cur_spoilt.l0 k x w ((n + 1 : Nat) : Int) s at_ seed) r := fun r h => by
   refine Ev.step (fun k => by rw [spec_l1Cur_spoilt.l0]) ?_
   exact ev_pos (by omega) h
  by_cases hx0 : (x.size : Int) > 0
  ·rw [decide_eq_true hx0] at hstart
   obtain ⟨i, a1, z1, e1, i0, i1, b1, b2⟩ := pick_f hs at_ seed (x.size : Int) h0 (by omega)
   obtain ⟨j, a2, z2, e2, j0, j1, b3, b4⟩ := pick_f hs a1 z1 (w.size : Int) (by omega) (by omega)
   obtain ⟨c, a3, z3, e3, c0, c1, b5, b6⟩ := pick_f hs a2 z2 3 (by omega) (by omega)
   have i2 := i1 (by omega)
   have j2 := j1 (by omega)
   have hone : (Go.strOfNums [bt w j]).size = 1 := by rw [Go.strOfNums_size]; rfl
   obtain ⟨im, rfl⟩ := Int.eq_ofNat_of_zero_le i0
   have s1 := extract_size x 0 im (by omega)
   have s2 := extract_size x im x.size (Nat.le_refl _)
   have s3 := extract_size x (im + 1) x.size (Nat.le_refl _)
   by_cases h3 : c = 0
   ·obtain ⟨r, at', seed', q1, q2, q3, q4⟩ := spoilt_l hs w hw n (((x.extract 0 im) ++ (Go.strOfNums [bt w j])) ++ (x.extract im x.size)) a3 z3 (by omega) (by omega) (by omega) (by rw [ba_len, ba_len, hone]; omega)
    rw [ba_len, ba_len, hone] at q4
    refine ⟨r, at', seed', hstart _ ?_, by omega, by omega, by omega⟩
    refine Ev.step (fun k => by rw [spec_l1Cur_spoilt.j1]) ?_
    refine ev_pos rfl (ev_eq e1 (ev_eq e2 (ev_pos j0 (ev_pos j2 (ev_eq rfl (ev_eq e3 ?_))))))
    dsimp only
    rw [wrap_succ im (by omega), wrap_pred n (by omega), Int.toNat_natCast, Int.toNat_natCast]
    exact ev_pos h3 (ev_pos (by omega) (ev_pos (by omega) (ev_pos (by omega) (ev_pos (by rw [ba_len]; omega) q1))))
   ·by_cases h4 : c = 1
    ·obtain ⟨r, at', seed', q1, q2, q3, q4⟩ := spoilt_l hs w hw n (((x.extract 0 im) ++ (Go.strOfNums [bt w j])) ++ (x.extract (im + 1) x.size)) a3 z3 (by omega) (by omega) (by omega) (by rw [ba_len, ba_len, hone]; omega)
     rw [ba_len, ba_len, hone] at q4
     refine ⟨r, at', seed', hstart _ ?_, by omega, by omega, by omega⟩
     refine Ev.step (fun k => by rw [spec_l1Cur_spoilt.j1]) ?_
     refine ev_pos rfl (ev_eq e1 (ev_eq e2 (ev_pos j0 (ev_pos j2 (ev_eq rfl (ev_eq e3 ?_))))))
     dsimp only
     rw [wrap_succ im (by omega), wrap_pred n (by omega), Int.toNat_natCast, Int.toNat_natCast]
     exact ev_neg h3 (ev_pos h4 (ev_pos (by omega) (ev_pos (by omega) (ev_pos (by omega) (ev_pos (by omega) (ev_pos (by omega) (ev_pos (by rw [ba_len]; omega) q1)))))))
    ·obtain ⟨r, at', seed', q1, q2, q3, q4⟩ := spoilt_l hs w hw n ((x.extract 0 im) ++ (x.extract (im + 1) x.size)) a3 z3 (by omega) (by omega) (by omega) (by rw [ba_len]; omega)
     rw [ba_len] at q4
     refine ⟨r, at', seed', hstart _ ?_, by omega, by omega, by omega⟩
     refine Ev.step (fun k => by rw [spec_l1Cur_spoilt.j1]) ?_
     refine ev_pos rfl (ev_eq e1 (ev_eq e2 (ev_pos j0 (ev_pos j2 (ev_eq rfl (ev_eq e3 ?_))))))
     dsimp only
     rw [wrap_succ im (by omega), wrap_pred n (by omega), Int.toNat_natCast, Int.toNat_natCast]
     exact ev_neg h3 (ev_neg h4 (ev_pos (by omega) (ev_pos (by omega) (ev_pos (by omega) (ev_pos (by omega) (ev_pos (by omega) q1))))))
  ·rw [decide_eq_false hx0] at hstart
   refine ⟨x, at_, seed, hstart _ ?_, Int.le_refl _, by omega, by omega⟩
   refine Ev.step (fun k => by rw [spec_l1Cur_spoilt.j1]) ?_
   exact ev_neg (by simp) (ev_ret rfl)
theorem spoilt_f {s : List Int} (hs : Code s) (x w : ByteArray) (hw : 1 ≤ w.size ∧ w.size ≤ 100) (hx : x.size ≤ 900000) (at_ seed : Int) (h0 : 0 ≤ at_) (h1 : at_ ≤ 59000000000) : ∃ (r : ByteArray) (at' seed' : Int), Ev (fun k => spec_l1Cur_spoilt.f k s at_ seed x w) (r, at', seed') ∧ at_ ≤ at' ∧ at' ≤ at_ + 20 ∧ r.size ≤ x.size + 3 := by
 obtain ⟨m, a, z, e, m0, m1, b1, b2⟩ := pick_f hs at_ seed 3 h0 (by omega)
 have m2 := m1 (by omega)
 obtain ⟨mn, rfl⟩ := Int.eq_ofNat_of_zero_le m0
 obtain ⟨r, at', seed', q1, q2, q3, q4⟩ := spoilt_l hs w hw mn x a z (by omega) (by omega) (by omega) (by omega)
 refine ⟨r, at', seed', ?_, by omega, by omega, by omega⟩
 unfold spec_l1Cur_spoilt.f
 exact ev_eq e q1
theorem doc_f {s : List Int} (hs : Code s) (at_ seed : Int) (h0 : 0 ≤ at_) (h1 : at_ ≤ 10000000) : ∃ (r : ByteArray) (at' seed' : Int), Ev (fun k => spec_l1Cur_doc.f k s at_ seed) (r, at', seed') ∧ at_ ≤ at' ∧ at' ≤ at_ + 50000 ∧ r.size ≤ 20000 := by
 have last : ∀ (x : ByteArray) (a z : Int), 0 ≤ a → a ≤ 20000000 → x.size ≤ 10000 → ∃ (r : ByteArray) (at' seed' : Int), Ev (fun k => spec_l1Cur_doc.j0 k x s a z) (r, at', seed') ∧ a ≤ at' ∧ at' ≤ a + 30 ∧ r.size ≤ 20000 := fun x a z a0 a1 hx => by
  obtain ⟨b, a2, z2, e2, b1, b2⟩ := one_f hs a z 12 a0 (by omega)
  cases b with
  | true =>
   obtain ⟨r, at', seed', q1, q2, q3, q4⟩ := spoilt_f hs x (⟨#[65, 47, 97, 90]⟩ : ByteArray) (by decide) (by omega) a2 z2 (by omega) (by omega)
   refine ⟨r, at', seed', ?_, by omega, by omega, by omega⟩
   refine Ev.step (fun k => by rw [spec_l1Cur_doc.j0]) ?_
   exact ev_eq e2 (ev_pos rfl (Ev.bind q1 (ev_ret rfl)))
  | false =>
   refine ⟨x, a2, z2, ?_, by omega, by omega, by omega⟩
   refine Ev.step (fun k => by rw [spec_l1Cur_doc.j0]) ?_
   exact ev_eq e2 (ev_neg (by simp) (ev_ret rfl))
 obtain ⟨m, a1, z1, e1, m0, m1, b1, b2⟩ := pick_f hs at_ seed 7 h0 (by omega)
 have m2 := m1 (by omega)
 obtain ⟨mn, rfl⟩ := Int.eq_ofNat_of_zero_le m0
 obtain ⟨x, a2, z2, q1, q2, q3, q4⟩ := inner_f hs mn (by omega) a1 z1 (by omega) (by omega)
 obtain ⟨c, a3, z3, e3, c0, c1, b3, b4⟩ := pick_f hs a2 z2 30 (by omega) (by omega)
 unfold spec_l1Cur_doc.f
 by_cases h3 : c = 0
 ·obtain ⟨y, a4, z4, p1, p2, p3, p4⟩ := inner_f hs 60 (Nat.le_refl _) a3 z3 (by omega) (by omega)
  obtain ⟨r, at', seed', r1, r2, r3, r4⟩ := last y a4 z4 (by omega) (by omega) (by omega)
  exact ⟨r, at', seed', ev_eq e1 (Ev.bind q1 (ev_eq e3 (ev_pos h3 (Ev.bind p1 r1)))), by omega, by omega, r4⟩
 ·by_cases h4 : c = 1
  ·obtain ⟨y, a4, z4, e4, p4, p2, p3⟩ := of_f hs a3 z3 [(⟨#[65, 65, 65, 65, 65, 65, 65, 65, 65, 65, 65, 65, 47, 47, 47, 47, 47, 47, 47, 47, 47, 47, 47, 47]⟩ : ByteArray), (⟨#[65, 65, 65, 65, 65, 65, 65, 65, 65, 65, 65, 65, 65, 47, 47, 47, 47, 47, 47, 47, 47, 47, 47, 47, 47, 47]⟩ : ByteArray)] (by omega) (by omega) (by simp) (by simp) 30 (by
    intro x hx
    simp only [List.mem_cons, List.not_mem_nil, or_false] at hx
    rcases hx with rfl | rfl <;> decide)
   obtain ⟨r, at', seed', r1, r2, r3, r4⟩ := last y a4 z4 (by omega) (by omega) (by omega)
   exact ⟨r, at', seed', ev_eq e1 (Ev.bind q1 (ev_eq e3 (ev_neg h3 (ev_pos h4 (ev_eq e4 r1))))), by omega, by omega, r4⟩
  ·obtain ⟨r, at', seed', r1, r2, r3, r4⟩ := last x a3 z3 (by omega) (by omega) (by omega)
   exact ⟨r, at', seed', ev_eq e1 (Ev.bind q1 (ev_eq e3 (ev_neg h3 (ev_neg h4 r1)))), by omega, by omega, r4⟩

/-! ### the numbers drawn behind the code: they don't stay in one quarter -/
def stp (z : Int) : Int := (z * 6364136223846793005 + 1442695040888963407) % 18446744073709551616
def stp3 (z : Int) : Int := stp (stp (stp z))
def tI : Nat → Int → Int
 | 0, z => z
 | n + 1, z => tI n (stp3 z)
theorem tI_add : ∀ (m n : Nat) (z : Int), tI (m + n) z = tI n (tI m z)
 | 0, n, z => by rw [Nat.zero_add]; rfl
 | m + 1, n, z => by rw [Nat.add_right_comm]; exact tI_add m n (stp3 z)
theorem tI_succ (n : Nat) (z : Int) : tI (n + 1) z = stp3 (tI n z) := by rw [tI_add n 1 z]; rfl
/-- So many steps, as one. -/
def Jump (n : Nat) (p : Int × Int) : Prop := ∀ z, tI n z % 4398046511104 = (p.1 * z + p.2) % 4398046511104
def dbl : Nat → Int × Int
 | 0 => (1610380290293, 146808144153)
 | k + 1 => let p := dbl k; (p.1 * p.1 % 4398046511104, (p.1 * p.2 + p.2) % 4398046511104)
theorem jump_dbl (n : Nat) (p : Int × Int) (h : Jump n p) : Jump (n + n) (p.1 * p.1 % 4398046511104, (p.1 * p.2 + p.2) % 4398046511104) := by
 intro z
 rw [tI_add, h]
 have h1 := h z
 have e1 : (p.1 * tI n z + p.2) % 4398046511104 = (p.1 * (p.1 * z + p.2) + p.2) % 4398046511104 := by
  rw [Int.add_emod, Int.mul_emod, h1, ← Int.mul_emod, ← Int.add_emod]
 rw [e1]
 have e2 : p.1 * (p.1 * z + p.2) + p.2 = p.1 * p.1 * z + (p.1 * p.2 + p.2) := by rw [Int.mul_add, Int.mul_assoc, Int.add_assoc]
 rw [e2]
 show _ = ((p.1 * p.1 % 4398046511104) * z + (p.1 * p.2 + p.2) % 4398046511104) % 4398046511104
 rw [← Int.add_emod_emod]
 have e3 : (p.1 * p.1 * z) % 4398046511104 = (p.1 * p.1 % 4398046511104 * z) % 4398046511104 := by rw [Int.mul_emod (p.1 * p.1) z, Int.mul_emod (p.1 * p.1 % 4398046511104) z, Int.emod_emod_of_dvd (p.1 * p.1) (Int.dvd_refl 4398046511104)]
 rw [Int.add_emod, e3, ← Int.add_emod]
theorem jump_one : Jump 1 (dbl 0) := by
 intro z
 show stp3 z % 4398046511104 = (1610380290293 * z + 146808144153) % 4398046511104
 unfold stp3 stp; omega
theorem jump_all : ∀ k : Nat, Jump (2 ^ k) (dbl k)
 | 0 => jump_one
 | k + 1 => by
  have := jump_dbl _ _ (jump_all k)
  rw [← Nat.two_mul, Nat.mul_comm, ← Nat.pow_succ] at this
  exact this
theorem jump19 (z : Int) : tI 524288 z % 4398046511104 = (1304887820289 * z + 2957227065344) % 4398046511104 := by
 have h := jump_all 19 z
 have e : dbl 19 = (1304887820289, 2957227065344) := by decide +kernel
 rw [e] at h; exact h
theorem jump20 (z : Int) : tI 1048576 z % 4398046511104 = (2609775640577 * z + 2615919247360) % 4398046511104 := by
 have h := jump_all 20 z
 have e : dbl 20 = (2609775640577, 2615919247360) := by decide +kernel
 rw [e] at h; exact h
def Qr (w : Int) : Prop := w / 1099511627776 % 4 = 1
theorem qr_pair (w v : Int) (h : v % 4398046511104 = (2609775640577 * w + 2615919247360) % 4398046511104) (h1 : Qr w) (h2 : Qr v) :
  (2488876 * w + 2494735) % 4194304 < 1048576 ∨ (2488876 * w + 2494735) % 4194304 > 3145728 := by
 unfold Qr at h1 h2
 have e1 : 2609775640577 * w + 2615919247360 = w + 1048576 * (2488876 * w + 2494735) := by omega
 rw [e1] at h
 generalize 2488876 * w + 2494735 = E at h ⊢
 have e2 : (w + 1048576 * E) % 4398046511104 = (w + 1048576 * (E % 4194304)) % 4398046511104 := by omega
 rw [e2] at h
 have e3 : 0 ≤ E % 4194304 ∧ E % 4194304 < 4194304 := by omega
 clear e1 e2
 generalize E % 4194304 = e at h e3 ⊢
 omega
theorem qr_shift (w v : Int) (h : v % 4398046511104 = (1304887820289 * w + 2957227065344) % 4398046511104) :
  (2488876 * v + 2494735) % 4194304 = ((2488876 * w + 2494735) % 4194304 + 2097152) % 4194304 := by
 omega
/-- Behind so many steps one has left the quarter. -/
theorem qr_leaves (w : Int) (h : ∀ i, i ≤ 1572864 → Qr (tI i w)) : False := by
 have a1 := qr_pair w (tI 1048576 w) (jump20 w) (h 0 (by omega)) (h 1048576 (by omega))
 have e : tI 1572864 w = tI 1048576 (tI 524288 w) := by rw [← tI_add]
 have a2 := qr_pair (tI 524288 w) (tI 1572864 w) (by rw [e]; exact jump20 _) (h 524288 (by omega)) (h 1572864 (by omega))
 have a3 := qr_shift w (tI 524288 w) (jump19 w)
 rw [a3] at a2
 have e3 : 0 ≤ (2488876 * w + 2494735) % 4194304 ∧ (2488876 * w + 2494735) % 4194304 < 4194304 := by omega
 clear a3
 generalize (2488876 * w + 2494735) % 4194304 = x at a1 a2 e3
 omega

abbrev IP := S61
def izP : IP := z61
theorem rd_ip (l : List IP) (i : Nat) : rd_T61 l (i : Int) = gt izP l i := rfl
theorem toList_nil (s : ByteArray) : s.toList = ([] : List UInt8) ↔ s.size = 0 := by
 rw [← List.length_eq_zero_iff]
 have := data_length s
 rw [ByteArray.toList_eq, this]

theorem spec_l1In_f (a b c : Int) : spec_l1In.f a b c = some (decide (b ≤ a ∧ a ≤ c)) := by
 unfold spec_l1In.f; split <;> simp <;> omega

theorem spec_l1Open_f (c : Int) : spec_l1Open.f c = some (openB c) := by
 unfold spec_l1Open.f openB; split <;> simp <;> omega
theorem spec_l1Plain_f (c : Int) : spec_l1Plain.f c = some (plainB c) := by
 unfold spec_l1Plain.f plainB
 repeat' split
 all_goals (rw [Option.some.injEq, Bool.eq_iff_iff]; simp only [Bool.or_eq_true, decide_eq_true_eq, beq_iff_eq, true_iff]; omega)
theorem spec_l1Text_l (s : ByteArray) (hs : s.size ≤ 140737488351232) (d : Nat) : ∀ i : Nat, i + d = s.size → Ev (fun k => spec_l1Text.l0 k s (i : Int)) (textB ((bytesOf s).drop i)) := by
 induction d with
 | zero =>
  intro i hi
  refine Ev.step (fun k => by rw [spec_l1Text.l0]) ?_
  refine ev_neg (by omega) (ev_ret ?_)
  rw [drop_end s i (by omega)]; rfl
 | succ d ih =>
  intro i hi
  refine Ev.step (fun k => by rw [spec_l1Text.l0]) ?_
  refine ev_pos (by omega) (ev_pos (by omega) (ev_eq (spec_l1Open_f _) ?_))
  rw [drop_bytes s i (by omega), wrap_succ i (by omega)]
  have ih' := ih (i + 1) (by omega)
  refine ev_if (fun h => ev_val ih' (by simp [textB, okB, h])) (fun h => ?_)
  refine ev_eq (spec_l1Plain_f _) (ev_if (fun h2 => ev_val ih' (by simp [textB, okB, h2])) (fun h2 => ?_))
  refine ev_if (fun h3 => ev_val ih' (by simp [textB, okB, h3])) (fun h3 => ev_ret ?_)
  simp [textB, okB, h, h2, h3]
theorem spec_l1Text_f (s : ByteArray) (hs : s.size ≤ 140737488351232) : Ev (fun k => spec_l1Text.f k s) (textB (bytesOf s)) :=
 spec_l1Text_l s hs s.size 0 (by omega)
theorem spec_GoodText_f (s : ByteArray) (hs : s.size ≤ 140737488351232) : Ev (fun k => spec_GoodText.f k s) (goodB (bytesOf s)) := by
 unfold spec_GoodText.f goodB
 refine Ev.bind (spec_l1Text_f s hs) (ev_if (fun h => ev_ret ?_) (fun h => ev_ret ?_))
 ·rw [h, bytesOf_length, Bool.true_and]; congr 1; simp; omega
 ·simp at h; simp [h]
theorem impl_isName_f (c : Int) : impl_isName.f c = some (openB c) := by
 unfold impl_isName.f openB; split <;> simp <;> omega
theorem impl_isPlain_f (c : Int) : impl_isPlain.f c = some (plainB c) := by
 unfold impl_isPlain.f plainB
 repeat' split
 all_goals (rw [Option.some.injEq, Bool.eq_iff_iff]; simp only [Bool.or_eq_true, decide_eq_true_eq, beq_iff_eq, true_iff]; omega)
theorem impl_GoodText_l (s : ByteArray) (hs : s.size ≤ 140737488351232) (d : Nat) : ∀ i : Nat, i + d = s.size → Ev (fun k => impl_GoodText.l0 k s (s.size : Int) (i : Int)) (textB ((bytesOf s).drop i) && decide (s.size ≤ 300)) := by
 induction d with
 | zero =>
  intro i hi
  refine Ev.step (fun k => by rw [impl_GoodText.l0]) ?_
  refine ev_neg (by omega) (ev_ret ?_)
  rw [drop_end s i (by omega)]; simp [textB]; omega
 | succ d ih =>
  intro i hi
  refine Ev.step (fun k => by rw [impl_GoodText.l0]) ?_
  refine ev_pos (by omega) (ev_pos (by omega) (ev_pos (by omega) (ev_eq (impl_isName_f _) ?_)))
  rw [drop_bytes s i (by omega), wrap_succ i (by omega)]
  have ih' := ih (i + 1) (by omega)
  refine ev_if (fun h => ev_val ih' (by simp [textB, okB, h])) (fun h => ?_)
  refine ev_eq (impl_isPlain_f _) (ev_if (fun h2 => ev_val ih' (by simp [textB, okB, h2])) (fun h2 => ?_))
  refine ev_if (fun h3 => ev_val ih' (by simp [textB, okB, h3])) (fun h3 => ev_ret ?_)
  simp [textB, okB, h, h2, h3]
theorem impl_GoodText_f (s : ByteArray) (hs : s.size ≤ 140737488351232) : Ev (fun k => impl_GoodText.f k s) (goodB (bytesOf s)) := by
 unfold impl_GoodText.f
 refine ev_val (impl_GoodText_l s hs s.size 0 (by omega)) ?_
 simp [goodB, bytesOf_length]

def partB (p : IP) : Bool := if p.f0 = 0 then (if p.f1.toList = ([] : List UInt8) then (if p.f2.toList = ([] : List UInt8) then false else goodB (bytesOf p.f2)) else (if p.f2.toList = ([] : List UInt8) then goodB (bytesOf p.f1) else false)) else (decide (1 ≤ p.f0 ∧ p.f0 ≤ 300) && (decide (p.f1.toList = ([] : List UInt8)) && (p.f2.toList == ([] : List UInt8))))
theorem spec_l3Part_f (p : IP) (h1 : p.f1.size ≤ 140737488351232) (h2 : p.f2.size ≤ 140737488351232) : Ev (fun k => spec_l3Part.f k p.f0 p.f1 p.f2) (partB p) := by
 unfold spec_l3Part.f partB
 by_cases c0 : p.f0 = 0
 ·rw [if_pos c0]
  refine ev_pos c0 ?_
  by_cases c1 : p.f1.toList = ([] : List UInt8)
  ·rw [if_pos c1]
   refine ev_pos c1 ?_
   by_cases c2 : p.f2.toList = ([] : List UInt8)
   ·rw [if_pos c2]; exact ev_pos c2 (ev_ret rfl)
   ·rw [if_neg c2]; exact ev_neg c2 (Ev.bind (spec_GoodText_f _ h2) (ev_ret rfl))
  ·rw [if_neg c1]
   refine ev_neg c1 ?_
   by_cases c2 : p.f2.toList = ([] : List UInt8)
   ·rw [if_pos c2]; exact ev_pos c2 (Ev.bind (spec_GoodText_f _ h1) (ev_ret rfl))
   ·rw [if_neg c2]; exact ev_neg c2 (ev_ret rfl)
 ·rw [if_neg c0]
  refine ev_neg c0 (ev_eq (spec_l1In_f _ _ _) ?_)
  refine ev_if (fun h => ?_) (fun h => ev_ret (by rw [Bool.not_eq_true] at h; rw [h]; rfl))
  rw [h, Bool.true_and]
  exact ev_if (fun h1 => ev_ret (by rw [decide_eq_true h1, Bool.true_and])) (fun h1 => ev_ret (by rw [decide_eq_false h1]; rfl))
theorem impl_Part_isPart_f (p : IP) (h1 : p.f1.size ≤ 140737488351232) (h2 : p.f2.size ≤ 140737488351232) : Ev (fun k => impl_Part_isPart.f k p.f0 p.f1 p.f2) (partB p) := by
 unfold impl_Part_isPart.f partB
 by_cases c0 : p.f0 = 0
 ·rw [if_pos c0]
  refine ev_pos c0 ?_
  by_cases c1 : p.f1.toList = ([] : List UInt8)
  ·rw [if_pos c1]
   refine ev_pos c1 ?_
   by_cases c2 : p.f2.toList = ([] : List UInt8)
   ·rw [if_pos c2]; exact ev_pos c2 (ev_ret rfl)
   ·rw [if_neg c2]; exact ev_neg c2 (Ev.bind (impl_GoodText_f _ h2) (ev_ret rfl))
  ·rw [if_neg c1]
   refine ev_neg c1 ?_
   by_cases c2 : p.f2.toList = ([] : List UInt8)
   ·rw [if_pos c2]; exact ev_pos c2 (Ev.bind (impl_GoodText_f _ h1) (ev_ret rfl))
   ·rw [if_neg c2]; exact ev_neg c2 (ev_ret rfl)
 ·rw [if_neg c0]
  refine ev_neg c0 ?_
  refine ev_if (fun h => ?_) (fun h => ev_ret (by rw [decide_eq_false (by omega)]; rfl))
  refine ev_if (fun h' => ?_) (fun h' => ev_ret (by rw [decide_eq_false (by omega)]; rfl))
  rw [decide_eq_true (show 1 ≤ p.f0 ∧ p.f0 ≤ 300 from ⟨h, h'⟩), Bool.true_and]
  exact ev_if (fun h1 => ev_ret (by rw [decide_eq_true h1, Bool.true_and])) (fun h1 => ev_ret (by rw [decide_eq_false h1]; rfl))
def tkS : List IP → Int → Int
 | [], a => a
 | p :: r, a => tkS r (wrap64 (a + wrap64 (p.f0 + (p.f2.size : Int))))
def mkS : List IP → Int → Int
 | [], a => a
 | p :: r, a => mkS r (wrap64 (a + wrap64 (p.f0 + (p.f1.size : Int))))
theorem spec_l3Sizes_l (l : List IP) (hl : l.length ≤ 1048576) (d : Nat) : ∀ (i : Nat) (a b : Int), i + d = l.length →
  Ev (fun k => spec_l3Sizes.l0 k a b l (l.length : Int) (i : Int)) (tkS (l.drop i) a, mkS (l.drop i) b) := by
 induction d with
 | zero =>
  intro i a b hi
  refine Ev.step (fun k => by rw [spec_l3Sizes.l0]) ?_
  refine ev_neg (by omega) (ev_ret ?_)
  rw [List.drop_eq_nil_of_le (by omega)]; rfl
 | succ d ih =>
  intro i a b hi
  refine Ev.step (fun k => by rw [spec_l3Sizes.l0]) ?_
  refine ev_pos (by omega) (ev_pos (by omega) (ev_pos (by omega) ?_))
  rw [gt_drop izP l i (by omega), wrap_succ i (by omega)]
  exact ih (i + 1) _ _ (by omega)
theorem spec_l3Sizes_f (l : List IP) (hl : l.length ≤ 1048576) : Ev (fun k => spec_l3Sizes.f k l) (tkS l 0, mkS l 0) := by
 unfold spec_l3Sizes.f
 exact spec_l3Sizes_l l hl l.length 0 0 0 (by omega)
theorem impl_sizes_l (l : List IP) (hl : l.length ≤ 1048576) (d : Nat) : ∀ (i : Nat) (a b : Int), i + d = l.length →
  Ev (fun k => impl_sizes.l0 k a b l (l.length : Int) (i : Int)) (tkS (l.drop i) a, mkS (l.drop i) b) := by
 induction d with
 | zero =>
  intro i a b hi
  refine Ev.step (fun k => by rw [impl_sizes.l0]) ?_
  refine ev_neg (by omega) (ev_ret ?_)
  rw [List.drop_eq_nil_of_le (by omega)]; rfl
 | succ d ih =>
  intro i a b hi
  refine Ev.step (fun k => by rw [impl_sizes.l0]) ?_
  refine ev_pos (by omega) (ev_pos (by omega) (ev_pos (by omega) ?_))
  rw [gt_drop izP l i (by omega), wrap_succ i (by omega)]
  exact ih (i + 1) _ _ (by omega)
theorem impl_sizes_f (l : List IP) (hl : l.length ≤ 1048576) : Ev (fun k => impl_sizes.f k l) (tkS l 0, mkS l 0) := by
 unfold impl_sizes.f
 exact impl_sizes_l l hl l.length 0 0 0 (by omega)
def goodO (l : List IP) : Bool := decide (l.length ≤ 60) && (l.all partB && decide (tkS l 0 ≤ 300 ∧ mkS l 0 ≤ 300))
theorem goodO_len {l : List IP} (h : ¬ l.length ≤ 60) : goodO l = false := by unfold goodO; rw [decide_eq_false h]; rfl
theorem goodO_part {l : List IP} {p : IP} (hp : p ∈ l) (h : partB p = false) : goodO l = false := by
 unfold goodO
 have : l.all partB = false := by
  rw [Bool.eq_false_iff]; intro e
  rw [List.all_eq_true] at e
  rw [e p hp] at h; cases h
 rw [this]; simp
theorem spec_GoodOp_l (l : List IP) (hl : l.length ≤ 60) (hw : ∀ x ∈ l, x.f1.size ≤ 1048576 ∧ x.f2.size ≤ 1048576) (d : Nat) : ∀ i : Nat, i + d = l.length →
  (l.take i).all partB = true → Ev (fun k => spec_GoodOp.l0 k l l (l.length : Int) (i : Int)) (goodO l) := by
 induction d with
 | zero =>
  intro i hi hg
  refine Ev.step (fun k => by rw [spec_GoodOp.l0]) ?_
  rw [List.take_of_length_le (by omega)] at hg
  have e : goodO l = decide (tkS l 0 ≤ 300 ∧ mkS l 0 ≤ 300) := by unfold goodO; rw [hg, decide_eq_true hl]; rfl
  rw [e]
  refine ev_neg (by omega) (Ev.bind (spec_l3Sizes_f l (by omega)) ?_)
  exact ev_if (fun h => ev_ret (decide_eq_decide.2 (by constructor <;> intro q; exact ⟨h, q⟩; exact q.2))) (fun h => ev_ret (by rw [decide_eq_false (fun q => h q.1)]))
 | succ d ih =>
  intro i hi hg
  have hm := hw _ (gt_mem izP l i (by omega))
  refine Ev.step (fun k => by rw [spec_GoodOp.l0]) ?_
  refine ev_pos (by omega) (ev_pos (by omega) (ev_pos (by omega) ?_))
  rw [wrap_succ i (by omega)]
  simp only [rd_ip]
  refine Ev.bind (spec_l3Part_f _ (by omega) (by omega)) (ev_if (fun h => ?_) (fun h => ev_ret (goodO_part (gt_mem izP l i (by omega)) (by simpa using h)).symm))
  refine ih (i + 1) (by omega) ?_
  rw [gt_take izP l i (by omega), List.all_append, hg]
  simp [h]
theorem spec_GoodOp_f (l : List IP) (hw : ∀ x ∈ l, x.f1.size ≤ 1048576 ∧ x.f2.size ≤ 1048576) : Ev (fun k => spec_GoodOp.f k l) (goodO l) := by
 unfold spec_GoodOp.f
 refine ev_if (fun h => ev_ret (goodO_len (by omega)).symm) (fun h => ?_)
 exact spec_GoodOp_l l (by omega) hw l.length 0 (by omega) rfl
theorem idxBad_f (l : List IP) (hw : ∀ x ∈ l, x.f1.size ≤ 1048576 ∧ x.f2.size ≤ 1048576) : ∀ n : Int, 0 ≤ n → ∃ v : Int, Ev (fun k => idxBad k l n) v ∧ (v ≥ 0 ↔ l.all partB = false) := by
 induction l with
 | nil => exact fun n _ => ⟨-1, by unfold idxBad; exact ev_ret rfl, by simp⟩
 | cons p r ih =>
  intro n hn
  have hm := hw p (List.mem_cons_self ..)
  obtain ⟨v, hv, hb⟩ := ih (fun x hx => hw x (List.mem_cons_of_mem _ hx)) (n + 1) (by omega)
  have hp : Ev (fun k => impl_GoodOp_1.f k p.f0 p.f1 p.f2) (!(partB p)) := by unfold impl_GoodOp_1.f; exact Ev.bind (impl_Part_isPart_f p (by omega) (by omega)) (ev_ret rfl)
  by_cases c : partB p = true
  ·refine ⟨v, ?_, by rw [hb, List.all_cons, c, Bool.true_and]⟩
   unfold idxBad
   refine Ev.bind hp (ev_neg (by rw [c]; simp) hv)
  ·rw [Bool.not_eq_true] at c
   refine ⟨n, ?_, by rw [List.all_cons, c]; simp; omega⟩
   unfold idxBad
   exact Ev.bind hp (ev_pos (by rw [c]; rfl) (ev_ret rfl))
theorem impl_GoodOp_f (l : List IP) (hw : ∀ x ∈ l, x.f1.size ≤ 1048576 ∧ x.f2.size ≤ 1048576) : Ev (fun k => impl_GoodOp.f k l) (goodO l) := by
 unfold impl_GoodOp.f
 refine ev_if (fun h => ev_ret (goodO_len (by omega)).symm) (fun h => ?_)
 obtain ⟨v, hv, hb⟩ := idxBad_f l hw 0 (by omega)
 refine Ev.bind hv (ev_if (fun c => ev_ret ?_) (fun c => Ev.bind (impl_sizes_f l (by omega)) ?_))
 ·unfold goodO; rw [hb.1 c]; simp
 ·have hg : l.all partB = true := by
   by_cases q : l.all partB = true
   ·exact q
   ·exact absurd (hb.2 (by simpa using q)) c
  have e : goodO l = decide (tkS l 0 ≤ 300 ∧ mkS l 0 ≤ 300) := by unfold goodO; rw [hg, decide_eq_true (by omega : l.length ≤ 60)]; rfl
  rw [e]
  exact ev_if (fun h => ev_ret (decide_eq_decide.2 (by constructor <;> intro q; exact ⟨h, q⟩; exact q.2))) (fun h => ev_ret (by rw [decide_eq_false (fun q => h q.1)]))

theorem goodB_size' {s : ByteArray} (h : goodB (bytesOf s) = true) : s.size ≤ 300 := by
 unfold goodB at h
 rw [Bool.and_eq_true, bytesOf_length] at h
 exact of_decide_eq_true h.2
theorem part_facts {p : IP} (h : partB p = true) : 0 ≤ p.f0 ∧ p.f0 ≤ 300 ∧ p.f1.size ≤ 300 ∧ p.f2.size ≤ 300 ∧ (p.f0 = 0 ∨ p.f2.size = 0) := by
 unfold partB at h
 by_cases c0 : p.f0 = 0
 ·rw [if_pos c0] at h
  by_cases c1 : p.f1.toList = ([] : List UInt8)
  ·rw [if_pos c1] at h
   rw [toList_nil] at c1
   by_cases c2 : p.f2.toList = ([] : List UInt8)
   ·rw [if_pos c2] at h; cases h
   ·rw [if_neg c2] at h
    have := goodB_size' h
    exact ⟨by omega, by omega, by omega, by omega, Or.inl c0⟩
  ·rw [if_neg c1] at h
   by_cases c2 : p.f2.toList = ([] : List UInt8)
   ·rw [if_pos c2] at h
    rw [toList_nil] at c2
    have := goodB_size' h
    exact ⟨by omega, by omega, by omega, by omega, Or.inl c0⟩
   ·rw [if_neg c2] at h; cases h
 ·rw [if_neg c0, Bool.and_eq_true, Bool.and_eq_true] at h
  obtain ⟨a, b, c⟩ := h
  have a := of_decide_eq_true a
  have b := (toList_nil _).1 (of_decide_eq_true b)
  have c := (toList_nil _).1 (by simpa using c)
  exact ⟨by omega, by omega, by omega, by omega, Or.inr c⟩
theorem goodO_facts {l : List IP} (h : goodO l = true) : l.length ≤ 60 ∧ (∀ p ∈ l, partB p = true) ∧ tkS l 0 ≤ 300 ∧ mkS l 0 ≤ 300 := by
 unfold goodO at h
 rw [Bool.and_eq_true, Bool.and_eq_true, List.all_eq_true] at h
 have a := of_decide_eq_true h.1
 have b := of_decide_eq_true h.2.2
 exact ⟨a, h.2.1, b.1, b.2⟩

theorem next_end {s : List Int} (at_ seed : Int) (h0 : (s.length : Int) ≤ at_) (h1 : at_ ≤ 1000000000000) : spec_l1Cur_next.f s at_ seed = some (stp seed / 1099511627776 % 256, at_ + 1, stp seed) := by
 unfold spec_l1Cur_next.f
 have e1 : IntKind.u64.wrap ((IntKind.u64.wrap ((IntKind.u64.wrap (seed * 6364136223846793005)) + 0)) + 1442695040888963407) = stp seed := by
  rw [Go.IntKind.wrap_u64, Go.IntKind.wrap_u64, Go.IntKind.wrap_u64]; unfold stp; omega
 have hs : 0 ≤ stp seed ∧ stp seed < 18446744073709551616 := by unfold stp; omega
 rw [wrap_id (x := at_ + 1) (by omega) (by omega), if_neg (by omega), if_neg (by omega), e1]
 have e2 : Go.bits .and .u64 (stp seed / 1099511627776) 255 = stp seed / 1099511627776 % 256 := by
  have h := Go.bits_and_u64_nat (stp seed / 1099511627776).toNat 255 (by omega) (by omega)
  rw [Int.toNat_of_nonneg (by omega)] at h
  have h2 : (stp seed / 1099511627776).toNat &&& 255 = (stp seed / 1099511627776).toNat % 256 := Nat.and_two_pow_sub_one_eq_mod _ 8
  have h3 : Go.bits .and .u64 (stp seed / 1099511627776) 255 = (((stp seed / 1099511627776).toNat &&& 255 : Nat) : Int) := h
  rw [h3, h2]; omega
 rw [e2, wrap_id (by omega) (by omega)]
theorem pick_end {s : List Int} (at_ seed n : Int) (h0 : (s.length : Int) ≤ at_) (h1 : at_ ≤ 1000000000000) (hn : 1 < n) (hn2 : n ≤ 200) : spec_l1Cur_pick.f s at_ seed n = some (stp seed / 1099511627776 % 256 % n, at_ + 1, stp seed) := by
 unfold spec_l1Cur_pick.f
 rw [if_neg (by omega), next_end at_ seed h0 h1]
 simp only [Option.bind_some]
 rw [if_neg (by omega), if_neg (by omega), Int.tmod_eq_emod_of_nonneg (by omega)]
theorem of_end {s : List Int} (at_ seed : Int) (l : List ByteArray) (h0 : (s.length : Int) ≤ at_) (h1 : at_ ≤ 1000000000000) (hl : 1 < l.length) (hl2 : l.length ≤ 200) : ∃ x, spec_l1Cur_of.f s at_ seed l = some (x, at_ + 1, stp seed) := by
 unfold spec_l1Cur_of.f
 rw [pick_end at_ seed (l.length : Int) h0 h1 (by omega) (by omega)]
 simp only [Option.bind_some]
 have a : 0 ≤ stp seed / 1099511627776 % 256 % (l.length : Int) := Int.emod_nonneg _ (by omega)
 have b : stp seed / 1099511627776 % 256 % (l.length : Int) < (l.length : Int) := Int.emod_lt_of_pos _ (by omega)
 rw [if_pos a, if_pos b]
 exact ⟨_, rfl⟩
def SmP (x : IP) : Prop := x.f1.size ≤ 1048576 ∧ x.f2.size ≤ 1048576
theorem all_one {l : List IP} {p : IP} (h : ∀ x ∈ l, SmP x) (hp : SmP p) : ∀ x ∈ l ++ [p], SmP x := fun x hx => by
 rcases List.mem_append.1 hx with q | q
 ·exact h x q
 ·rw [List.mem_singleton.1 q]; exact hp
def putNames : List ByteArray := [(⟨#[120]⟩ : ByteArray), (⟨#[121, 121]⟩ : ByteArray), (⟨#[65, 47]⟩ : ByteArray), (⟨#[110, 101, 119]⟩ : ByteArray), (⟨#[66]⟩ : ByteArray)]
/-- One round of a drawn change. -/
theorem opstep {s : List Int} (hs : Code s) (x1 : ByteArray) (h1 : x1.size ≤ 1000000) (x5 : List IP) (hl : x5.length ≤ 1000000000000) (p : Nat) (hp : p < x1.size) (at_ seed : Int) (h0 : 0 ≤ at_) (ha : at_ ≤ 90000000000) :
  ∃ (at' seed' : Int) (q : IP) (p' : Nat), at_ < at' ∧ at' ≤ at_ + 6 ∧ p' ≤ x1.size ∧ SmP q ∧ (p < p' ∨ (p' = p ∧ ((s.length : Int) ≤ at_ → Qr (stp (stp seed)) ∧ seed' = stp3 seed))) ∧
   ∀ r, Ev (fun k => spec_l1Cur_opOn.l0 k x1 (x5 ++ [q]) (p' : Int) s at' seed') r → Ev (fun k => spec_l1Cur_opOn.l0 k x1 x5 (p : Int) s at_ seed) r := by
 obtain ⟨n, a1, z1, e1, n0, n1, b1, b2⟩ := pick_f hs at_ seed 5 h0 (by omega)
 have n2 := n1 (by omega)
 have b1' : at_ < a1 := by
  by_cases q : at_ < (s.length : Int)
  ·obtain ⟨x, z, e, _⟩ := next_f hs at_ seed h0 (by omega)
   unfold spec_l1Cur_pick.f at e1
   rw [if_neg (by omega), e] at e1
   simp only [Option.bind_some] at e1
   rw [if_neg (by omega), if_neg (by omega)] at e1
   injection e1 with e1; injection e1 with _ e1; injection e1 with e1 _; omega
  ·rw [pick_end at_ seed 5 (by omega) (by omega) (by omega) (by omega)] at e1
   injection e1 with e1; injection e1 with _ e1; injection e1 with e1 _; omega
 obtain ⟨c, a2, z2, e2, c0, c1, b3, b4⟩ := pick_f hs a1 z1 4 (by omega) (by omega)
 -- how many bytes
 obtain ⟨t, ht1, ht2, ht3, hst⟩ : ∃ t : Nat, 1 ≤ t ∧ p + t ≤ x1.size ∧ t ≤ 5 ∧ ∀ r, Ev (fun k => spec_l1Cur_opOn.j1 k x1 x5 (p : Int) (t : Int) s a1 z1) r → Ev (fun k => spec_l1Cur_opOn.l0 k x1 x5 (p : Int) s at_ seed) r := by
  have w1 : wrap64 (1 + n) = 1 + n := wrap_id (by omega) (by omega)
  have w2 : wrap64 ((x1.size : Int) - (p : Int)) = (x1.size : Int) - (p : Int) := wrap_id (by omega) (by omega)
  by_cases g : 1 + n > (x1.size : Int) - (p : Int)
  ·refine ⟨x1.size - p, by omega, by omega, by omega, fun r h => ?_⟩
   refine Ev.step (fun k => by rw [spec_l1Cur_opOn.l0]) ?_
   refine ev_pos (by omega) (ev_eq e1 ?_)
   rw [w1, w2]
   refine ev_pos g ?_
   rw [show (x1.size : Int) - (p : Int) = ((x1.size - p : Nat) : Int) by omega]; exact h
  ·obtain ⟨nn, rfl⟩ := Int.eq_ofNat_of_zero_le n0
   refine ⟨1 + nn, by omega, by omega, by omega, fun r h => ?_⟩
   refine Ev.step (fun k => by rw [spec_l1Cur_opOn.l0]) ?_
   refine ev_pos (by omega) (ev_eq e1 ?_)
   rw [w1, w2]
   refine ev_neg g ?_
   rw [show 1 + (nn : Int) = ((1 + nn : Nat) : Int) by omega]; exact h
 have w3 : wrap64 ((p : Int) + (t : Int)) = ((p + t : Nat) : Int) := by rw [wrap_id (by omega) (by omega)]; omega
 by_cases h3 : c = 0
 ·refine ⟨a2, z2, ⟨0, (⟨#[]⟩ : ByteArray), x1.extract p (p + t)⟩, p + t, by omega, by omega, by omega, ⟨Nat.zero_le _, ?_⟩, .inl (by omega), fun r h => hst r ?_⟩
  ·show (x1.extract p (p + t)).size ≤ _
   rw [ByteArray.size_extract]; omega
  ·refine Ev.step (fun k => by rw [spec_l1Cur_opOn.j1]) ?_
   rw [w3, Int.toNat_natCast, Int.toNat_natCast]
   exact ev_eq e2 (ev_pos h3 (ev_pos (by omega) (ev_pos (by omega) (ev_pos (by omega) (ev_pos (by omega) h)))))
 ·by_cases h4 : c = 1
  ·obtain ⟨u, a3, z3, e3, u1, b5, b6⟩ := of_f hs a2 z2 putNames (by omega) (by omega) (by simp [putNames]) (by simp [putNames]) 3 (by
    intro x hx
    simp only [putNames, List.mem_cons, List.not_mem_nil, or_false] at hx
    rcases hx with rfl | rfl | rfl | rfl | rfl <;> decide)
   refine ⟨a3, z3, ⟨0, u, (⟨#[]⟩ : ByteArray)⟩, p, by omega, by omega, by omega, ⟨by show u.size ≤ _; omega, Nat.zero_le _⟩, .inr ⟨rfl, fun hc => ?_⟩, fun r h => hst r ?_⟩
   ·rw [pick_end at_ seed 5 (by omega) (by omega) (by omega) (by omega)] at e1
    injection e1 with e1; injection e1 with _ e1; injection e1 with f1 g1
    rw [pick_end a1 z1 4 (by omega) (by omega) (by omega) (by omega)] at e2
    injection e2 with e2; injection e2 with k2 e2; injection e2 with f2 g2
    obtain ⟨x, hx⟩ := of_end (s := s) a2 z2 putNames (by omega) (by omega) (by simp [putNames]) (by simp [putNames])
    rw [hx] at e3
    injection e3 with e3; injection e3 with _ e3; injection e3 with f3 g3
    rw [← g1] at g2 k2
    refine ⟨?_, ?_⟩
    ·rw [h4] at k2
     unfold Qr
     clear hst
     generalize stp (stp seed) / 1099511627776 = X at k2 ⊢
     omega
    ·rw [← g3, ← g2]; rfl
   ·refine Ev.step (fun k => by rw [spec_l1Cur_opOn.j1]) ?_
    exact ev_eq e2 (ev_neg h3 (ev_pos h4 (ev_eq e3 (ev_pos (by omega) h))))
  ·refine ⟨a2, z2, ⟨(t : Int), (⟨#[]⟩ : ByteArray), (⟨#[]⟩ : ByteArray)⟩, p + t, by omega, by omega, by omega, ⟨Nat.zero_le _, Nat.zero_le _⟩, .inl (by omega), fun r h => hst r ?_⟩
   refine Ev.step (fun k => by rw [spec_l1Cur_opOn.j1]) ?_
   rw [w3]
   exact ev_eq e2 (ev_neg h3 (ev_neg h4 (ev_pos (by omega) h)))
def OpRun (s : List Int) (x1 : ByteArray) (r K : Nat) (m : Int → Int → Prop) : Prop := ∀ (x5 : List IP) (p : Nat) (at_ seed : Int), p + r = x1.size → m at_ seed → 0 ≤ at_ → at_ + 6 * (K : Int) ≤ 80000000000 → x5.length + K ≤ 80000000000 → (∀ x ∈ x5, SmP x) →
 ∃ (o : List IP) (at' seed' : Int), Ev (fun k => spec_l1Cur_opOn.l0 k x1 x5 (p : Int) s at_ seed) (o, at', seed') ∧ at_ ≤ at' ∧ at' ≤ at_ + 6 * (K : Int) ∧ o.length ≤ x5.length + K ∧ ∀ x ∈ o, SmP x
theorem oprun_end {s : List Int} (hs : Code s) (x1 : ByteArray) (h1 : x1.size ≤ 1000000) : OpRun s x1 0 2 (fun _ _ => True) := by
 intro x5 p at_ seed hp _ h0 ha hl hsm
 obtain ⟨b, a1, z1, e1, b1, b2⟩ := one_f hs at_ seed 3 h0 (by omega)
 cases b with
 | false =>
  refine ⟨x5, a1, z1, ?_, by omega, by omega, by omega, hsm⟩
  refine Ev.step (fun k => by rw [spec_l1Cur_opOn.l0]) ?_
  exact ev_neg (by omega) (ev_eq e1 (ev_neg (by simp) (ev_ret rfl)))
 | true =>
  obtain ⟨u, a2, z2, e2, u1, b3, b4⟩ := of_f hs a1 z1 [(⟨#[101, 110, 100]⟩ : ByteArray), (⟨#[46]⟩ : ByteArray)] (by omega) (by omega) (by simp) (by simp) 3 (by
   intro x hx
   simp only [List.mem_cons, List.not_mem_nil, or_false] at hx
   rcases hx with rfl | rfl <;> decide)
  refine ⟨x5 ++ [⟨0, u, (⟨#[]⟩ : ByteArray)⟩], a2, z2, ?_, by omega, by omega, by rw [List.length_append, List.length_singleton]; omega, all_one hsm ⟨by show u.size ≤ _; omega, Nat.zero_le _⟩⟩
  refine Ev.step (fun k => by rw [spec_l1Cur_opOn.l0]) ?_
  exact ev_neg (by omega) (ev_eq e1 (ev_pos rfl (ev_eq e2 (ev_pos (by omega) (ev_ret rfl)))))
/-- One round, then what follows. -/
theorem oprun_step {s : List Int} (hs : Code s) (x1 : ByteArray) (h1 : x1.size ≤ 1000000) (r K : Nat) (m : Int → Int → Prop) (hr : 0 < r)
  (hadv : ∀ r', r' < r → OpRun s x1 r' K (fun at_ _ => ∃ a z, m a z ∧ a < at_))
  (hput : OpRun s x1 r K (fun at_ seed => ∃ a z, m a z ∧ a < at_ ∧ ((s.length : Int) ≤ a → Qr (stp (stp z)) ∧ seed = stp3 z))) : OpRun s x1 r (K + 1) m := by
 intro x5 p at_ seed hp hm h0 ha hl hsm
 obtain ⟨a', z', q, p', c1, c2, c3, c4, c5, c6⟩ := opstep hs x1 h1 x5 (by omega) p (by omega) at_ seed h0 (by omega)
 have hlen : (x5 ++ [q]).length = x5.length + 1 := by rw [List.length_append, List.length_singleton]
 rcases c5 with c5 | ⟨c5, c7⟩
 ·obtain ⟨o, at', seed', q1, q2, q3, q4, q5⟩ := hadv (x1.size - p') (by omega) (x5 ++ [q]) p' a' z' (by omega) ⟨at_, seed, hm, c1⟩ (by omega) (by omega) (by omega) (all_one hsm c4)
  exact ⟨o, at', seed', c6 _ q1, by omega, by omega, by omega, q5⟩
 ·subst c5
  obtain ⟨o, at', seed', q1, q2, q3, q4, q5⟩ := hput (x5 ++ [q]) p' a' z' hp ⟨at_, seed, hm, c1, c7⟩ (by omega) (by omega) (by omega) (all_one hsm c4)
  exact ⟨o, at', seed', c6 _ q1, by omega, by omega, by omega, q5⟩
theorem OpRun.imp {s : List Int} {x1 : ByteArray} {r K K' : Nat} {m m' : Int → Int → Prop} (h : OpRun s x1 r K m) (hm : ∀ a z, m' a z → m a z) (hK : K ≤ K') : OpRun s x1 r K' m' := by
 intro x5 p at_ seed hp hm' h0 ha hl hsm
 obtain ⟨o, at', seed', q1, q2, q3, q4, q5⟩ := h x5 p at_ seed hp (hm _ _ hm') h0 (by omega) (by omega) hsm
 exact ⟨o, at', seed', q1, q2, by omega, by omega, q5⟩
theorem stp3_comm (z : Int) : stp (stp (stp3 z)) = stp3 (stp (stp z)) := rfl
theorem oprun_far {s : List Int} (hs : Code s) (x1 : ByteArray) (h1 : x1.size ≤ 1000000) (r K : Nat) (hr : 0 < r)
  (hadv : ∀ r', r' < r → OpRun s x1 r' K (fun at_ _ => (s.length : Int) ≤ at_)) (w : Int) (d : Nat) : ∀ i : Nat, i + d = 1572865 → (∀ j, j < i → Qr (tI j w)) →
   OpRun s x1 r (K + d) (fun at_ seed => (s.length : Int) ≤ at_ ∧ stp (stp seed) = tI i w) := by
 induction d with
 | zero =>
  intro i hi hq
  exact absurd (qr_leaves w (fun j hj => hq j (by omega))) id
 | succ d ih =>
  intro i hi hq
  refine oprun_step hs x1 h1 r (K + d) _ hr (fun r' hr' => (hadv r' hr').imp (fun a z ⟨a0, z0, q, q2⟩ => by have := q.1; omega) (by omega)) ?_
  by_cases hqi : Qr (tI i w)
  ·refine (ih (i + 1) (by omega) (fun j hj => ?_)).imp (fun a z ⟨a0, z0, q, q2, q3⟩ => ?_) (Nat.le_refl _)
   ·by_cases hji : j < i
    ·exact hq j hji
    ·have : j = i := by omega
     subst this; exact hqi
   ·obtain ⟨_, g2⟩ := q3 q.1
    refine ⟨by have := q.1; omega, ?_⟩
    rw [g2, stp3_comm, q.2, tI_succ]
  ·intro x5 p at_ seed hp ⟨a0, z0, q, q2, q3⟩
   obtain ⟨g1, _⟩ := q3 q.1
   rw [q.2] at g1
   exact absurd g1 hqi
theorem oprun_code {s : List Int} (hs : Code s) (x1 : ByteArray) (h1 : x1.size ≤ 1000000) (r K : Nat) (hr : 0 < r)
  (hadv : ∀ r', r' < r → ∀ m : Nat, OpRun s x1 r' (K + m) (fun at_ _ => (s.length : Int) ≤ at_ + (m : Int))) : ∀ m : Nat,
   OpRun s x1 r (K + 1572865 + m) (fun at_ _ => (s.length : Int) ≤ at_ + (m : Int))
 | 0 => by
  intro x5 p at_ seed hp hm
  exact oprun_far hs x1 h1 r K hr (fun r' hr' => (hadv r' hr' 0).imp (fun a z q => by omega) (Nat.le_refl _)) (stp (stp seed)) 1572865 0 (by omega) (fun j hj => by omega) x5 p at_ seed hp ⟨by omega, rfl⟩
 | m + 1 => by
  refine oprun_step hs x1 h1 r (K + 1572865 + m) _ hr (fun r' hr' => (hadv r' hr' m).imp (fun a z ⟨a0, z0, q, q2⟩ => by omega) (by omega)) ?_
  exact (oprun_code hs x1 h1 r K hr hadv m).imp (fun a z ⟨a0, z0, q, q2, _⟩ => by omega) (Nat.le_refl _)
theorem oprun_all {s : List Int} (hs : Code s) (x1 : ByteArray) (h1 : x1.size ≤ 1000000) (r : Nat) : ∀ r', r' ≤ r → ∀ m : Nat, OpRun s x1 r' (r * 1572865 + 2 + m) (fun at_ _ => (s.length : Int) ≤ at_ + (m : Int)) := by
 induction r with
 | zero =>
  intro r' hr' m
  have : r' = 0 := by omega
  subst this
  exact (oprun_end hs x1 h1).imp (fun _ _ _ => trivial) (by omega)
 | succ r ih =>
  intro r' hr' m
  have e : (r + 1) * 1572865 = r * 1572865 + 1572865 := Nat.succ_mul _ _
  by_cases h : r' ≤ r
  ·exact (ih r' h m).imp (fun _ _ q => q) (by omega)
  ·exact (oprun_code hs x1 h1 r' (r * 1572865 + 2) (by omega) (fun r'' hr'' m => ih r'' (by omega) m) m).imp (fun _ _ q => q) (by omega)
/-- A drawn change of a text ends. -/
theorem opOn_f {s : List Int} (hs : Code s) (hsl : s.length ≤ 2000000) (t : ByteArray) (ht : t.size ≤ 1000) (at_ seed : Int) (h0 : 0 ≤ at_) (h1 : at_ ≤ 60000000000) :
  ∃ (o : List IP) (at' seed' : Int), Ev (fun k => spec_l1Cur_opOn.f k s at_ seed t) (o, at', seed') ∧ at_ ≤ at' ∧ at' ≤ at_ + 10000000000 ∧ o.length ≤ 1600000000 ∧ ∀ x ∈ o, SmP x := by
 obtain ⟨o, at', seed', q1, q2, q3, q4, q5⟩ := oprun_all hs t (by omega) t.size t.size (Nat.le_refl _) s.length [] 0 at_ seed (by omega) (by omega) h0 (by omega) (by simp only [List.length_nil]; omega) (fun x hx => by cases hx)
 refine ⟨o, at', seed', q1, q2, by omega, by simp only [List.length_nil] at q4; omega, q5⟩
theorem plainText_f {s : List Int} (hs : Code s) (at_ seed : Int) (h0 : 0 ≤ at_) (h1 : at_ ≤ 10000000) :
  ∃ (t : ByteArray) (at' seed' : Int), Ev (fun k => spec_l1Cur_plainText.f k s at_ seed) (t, at', seed') ∧ at_ ≤ at' ∧ at' ≤ at_ + 60000 ∧ t.size ≤ 300 := by
 obtain ⟨x, a1, z1, e1, b1, b2, hx⟩ := doc_f hs at_ seed h0 h1
 have hg := spec_GoodText_f x (by omega)
 unfold spec_l1Cur_plainText.f
 by_cases g : goodB (bytesOf x) = true
 ·have hz := goodB_size' g
  by_cases c : (x.size : Int) > 40
  ·obtain ⟨b, a2, z2, e2, b3, b4⟩ := one_f hs a1 z1 20 (by omega) (by omega)
   cases b with
   | true => exact ⟨x, a2, z2, Ev.bind e1 (Ev.bind hg (ev_pos g (ev_pos c (ev_eq e2 (ev_pos rfl (ev_ret rfl)))))), by omega, by omega, hz⟩
   | false => exact ⟨x.extract 0 40, a2, z2, Ev.bind e1 (Ev.bind hg (ev_pos g (ev_pos c (ev_eq e2 (ev_neg (by simp) (ev_pos (by omega) (ev_pos (by dsimp only; omega) (ev_ret rfl)))))))), by omega, by omega, by rw [ByteArray.size_extract]; omega⟩
  ·exact ⟨x, a1, z1, Ev.bind e1 (Ev.bind hg (ev_pos g (ev_neg c (ev_ret rfl)))), by omega, by omega, hz⟩
 ·exact ⟨(⟨#[116, 101, 120, 116]⟩ : ByteArray), a1, z1, Ev.bind e1 (Ev.bind hg (ev_neg g (ev_neg (by omega) (ev_ret rfl)))), by omega, by omega, by decide⟩

theorem all_set {l : List IP} {p : IP} (h : ∀ x ∈ l, SmP x) (hp : SmP p) (i : Nat) : ∀ x ∈ l.set i p, SmP x := fun x hx => by
 rcases List.mem_or_eq_of_mem_set hx with q | q
 ·exact h x q
 ·rw [q]; exact hp
theorem smP_gt {l : List IP} (h : ∀ x ∈ l, SmP x) (i : Nat) (hi : i < l.length) : SmP (gt izP l i) := h _ (gt_mem izP l i hi)
theorem among_f {s : List Int} (hs : Code s) (at_ seed : Int) (l : List Int) (h0 : 0 ≤ at_) (h1 : at_ ≤ 100000000000) (hl : 1 ≤ l.length) : ∃ r a' z', spec_l1Cur_among.f s at_ seed l = some (r, a', z') ∧ at_ ≤ a' ∧ a' ≤ at_ + 2 := by
 obtain ⟨r, a, z, e, b1, b2, b3, b4⟩ := pick_f hs at_ seed (l.length : Int) h0 h1
 have b2' := b2 (by omega)
 unfold spec_l1Cur_among.f
 rw [e]
 exact ⟨rd l r, a, z, by simp only [Option.bind_some]; rw [if_pos b1, if_pos b2'], b3, b4⟩
theorem op_f {s : List Int} (hs : Code s) (hsl : s.length ≤ 2000000) : ∃ (o : List IP) (a z : Int), Ev (fun k => spec_l1Cur_op.f k s 0 0) (o, a, z) ∧ 0 ≤ a ∧ a ≤ 50000000000 ∧ o.length ≤ 1600000001 ∧ ∀ x ∈ o, SmP x := by
 obtain ⟨t, a1, z1, e1, b1, b2, ht⟩ := plainText_f hs 0 0 (Int.le_refl _) (by omega)
 obtain ⟨o, a2, z2, e2, b3, b4, ho, hsm⟩ := opOn_f hs hsl t (by omega) a1 z1 (by omega) (by omega)
 have hj : ∀ (b : Bool) (a3 z3 : Int), a2 ≤ a3 → a3 ≤ a2 + 10 → 0 < o.length ∨ b = false → ∃ (o' : List IP) (a z : Int), Ev (fun k => spec_l1Cur_op.j0 k o b s a3 z3) (o', a, z) ∧ 0 ≤ a ∧ a ≤ 50000000000 ∧ o'.length ≤ 1600000001 ∧ ∀ x ∈ o', SmP x := by
  intro b a3 z3 c1 c2 c3
  cases b with
  | false =>
   refine ⟨o, a3, z3, Ev.step (fun k => by rw [spec_l1Cur_op.j0]) (ev_neg (by simp) (ev_ret rfl)), by omega, by omega, by omega, hsm⟩
  | true =>
   have hpos : 0 < o.length := c3.resolve_right (by simp)
   obtain ⟨r4, a4, z4, e4, d1, d2, d3, d4⟩ := pick_f hs a3 z3 4 (by omega) (by omega)
   by_cases q0 : r4 = 0
   ·obtain ⟨r5, a5, z5, e5, f1, f2, f3, f4⟩ := pick_f hs a4 z4 (o.length : Int) (by omega) (by omega)
    obtain ⟨r6, a6, z6, e6, g1, g2, g3, g4⟩ := pick_f hs a5 z5 5 (by omega) (by omega)
    have f2' := f2 (by omega)
    obtain ⟨n5, rfl⟩ := Int.eq_ofNat_of_zero_le f1
    have hx := smP_gt hsm n5 (by omega)
    refine ⟨o.set n5 ⟨wrap64 (r6 - 1), (gt izP o n5).f1, (gt izP o n5).f2⟩, a6, z6, ?_, by omega, by omega, by rw [List.length_set]; omega, all_set hsm (show SmP (⟨wrap64 (r6 - 1), (gt izP o n5).f1, (gt izP o n5).f2⟩ : IP) from ⟨hx.1, hx.2⟩) _⟩
    refine Ev.step (fun k => by rw [spec_l1Cur_op.j0]) ?_
    exact (ev_pos rfl (ev_eq e4 (ev_pos q0 (ev_eq e5 (ev_eq e6 (ev_pos f1 (ev_pos f2' (ev_ret rfl))))))))
   ·by_cases q1 : r4 = 1
    ·obtain ⟨r5, a5, z5, e5, f1, f2, f3, f4⟩ := pick_f hs a4 z4 (o.length : Int) (by omega) (by omega)
     have f2' := f2 (by omega)
     obtain ⟨n5, rfl⟩ := Int.eq_ofNat_of_zero_le f1
     have hx := smP_gt hsm n5 (by omega)
     refine ⟨o.set n5 ⟨(gt izP o n5).f0, (⟨#[90]⟩ : ByteArray), (gt izP o n5).f2⟩, a5, z5, ?_, by omega, by omega, by rw [List.length_set]; omega, all_set hsm (show SmP (⟨(gt izP o n5).f0, (⟨#[90]⟩ : ByteArray), (gt izP o n5).f2⟩ : IP) from ⟨(show (1 : Nat) ≤ 1048576 by omega), hx.2⟩) _⟩
     refine Ev.step (fun k => by rw [spec_l1Cur_op.j0]) ?_
     exact (ev_pos rfl (ev_eq e4 (ev_neg q0 (ev_pos q1 (ev_eq e5 (ev_pos f1 (ev_pos f2' (ev_ret rfl))))))))
    ·by_cases q2 : r4 = 2
     ·refine ⟨o ++ [⟨0, (⟨#[]⟩ : ByteArray), (⟨#[]⟩ : ByteArray)⟩], a4, z4, ?_, by omega, by omega, by rw [List.length_append, List.length_singleton]; omega, all_one hsm ⟨Nat.zero_le _, Nat.zero_le _⟩⟩
      refine Ev.step (fun k => by rw [spec_l1Cur_op.j0]) ?_
      exact (ev_pos rfl (ev_eq e4 (ev_neg q0 (ev_neg q1 (ev_pos q2 (ev_pos (by omega) (ev_ret rfl)))))))
     ·obtain ⟨r5, a5, z5, e5, f3, f4⟩ := among_f hs a4 z4 ([300, 301] : List Int) (by omega) (by omega) (by decide)
      refine ⟨o ++ [⟨r5, (⟨#[]⟩ : ByteArray), (⟨#[]⟩ : ByteArray)⟩], a5, z5, ?_, by omega, by omega, by rw [List.length_append, List.length_singleton]; omega, all_one hsm ⟨Nat.zero_le _, Nat.zero_le _⟩⟩
      refine Ev.step (fun k => by rw [spec_l1Cur_op.j0]) ?_
      exact (ev_pos rfl (ev_eq e4 (ev_neg q0 (ev_neg q1 (ev_neg q2 (ev_eq e5 (ev_pos (by omega) (ev_ret rfl))))))))
 unfold spec_l1Cur_op.f
 by_cases c : 0 < o.length
 ·obtain ⟨b, a3, z3, e3, b5, b6⟩ := one_f hs a2 z2 12 (by omega) (by omega)
  obtain ⟨o', a, z, h1, h2, h3, h4, h5⟩ := hj b a3 z3 (by omega) (by omega) (.inl c)
  exact ⟨o', a, z, Ev.bind e1 (Ev.bind e2 (ev_pos (by dsimp only; omega) (ev_eq e3 h1))), h2, h3, h4, h5⟩
 ·obtain ⟨o', a, z, h1, h2, h3, h4, h5⟩ := hj false a2 z2 (by omega) (by omega) (.inr rfl)
  exact ⟨o', a, z, Ev.bind e1 (Ev.bind e2 (ev_neg (by dsimp only; omega) h1)), h2, h3, h4, h5⟩
theorem l3Sizes_any (l : List IP) (hl : l.length ≤ 4000000000) (d : Nat) : ∀ (i : Nat) (a b : Int), i + d = l.length → ∃ r, Ev (fun k => spec_l3Sizes.l0 k a b l (l.length : Int) (i : Int)) r := by
 induction d with
 | zero => exact fun i a b hi => ⟨(a, b), Ev.step (fun k => by rw [spec_l3Sizes.l0]) (ev_neg (by omega) (ev_ret rfl))⟩
 | succ d ih =>
  intro i a b hi
  obtain ⟨r, hr⟩ := ih (i + 1) (wrap64 (a + wrap64 ((rd_T61 l i).f0 + ((rd_T61 l i).f2.size : Int)))) (wrap64 (b + wrap64 ((rd_T61 l i).f0 + ((rd_T61 l i).f1.size : Int)))) (by omega)
  refine ⟨r, Ev.step (fun k => by rw [spec_l3Sizes.l0]) (ev_pos (by omega) (ev_pos (by omega) (ev_pos (by omega) ?_)))⟩
  rw [wrap_succ i (by omega)]
  exact hr
theorem DrawMovePlace_f {s : List Int} (hs : Code s) (hsl : s.length ≤ 2000000) : ∃ (o : List IP) (at_ : Int) (af : Bool), Ev (fun k => spec_DrawMovePlace.f k s) (o, at_, af) ∧ o.length ≤ 1600000001 ∧ ∀ x ∈ o, SmP x := by
 obtain ⟨o, a, z, h1, h2, h3, h4, h5⟩ := op_f hs hsl
 obtain ⟨⟨zi, zo⟩, hz⟩ := l3Sizes_any o (by omega) o.length 0 0 0 (by omega)
 obtain ⟨p, a2, z2, e2, d1, d2, d3, d4⟩ := pick_f hs a z (if zi > 1000 then wrap64 (10 + 3) else wrap64 (zi + 3)) (by omega) (by omega)
 obtain ⟨b, a3, z3, e3, b5, b6⟩ := one_f hs a2 z2 2 (by omega) (by omega)
 refine ⟨o, wrap64 (p - 1), b, ?_, h4, h5⟩
 unfold spec_DrawMovePlace.f
 refine Ev.bind h1 (Ev.bind (a := (zi, zo)) ?_ (ev_eq e2 (ev_eq e3 (ev_ret rfl))))
 unfold spec_l3Sizes.f
 exact hz

theorem ba_nil {s : ByteArray} (h : s.size = 0) : s = (⟨#[]⟩ : ByteArray) := by
 obtain ⟨d⟩ := s
 have h' : d.size = 0 := h
 rw [Array.size_eq_zero_iff.1 h']
theorem ba_app (s : ByteArray) : s ++ (⟨#[]⟩ : ByteArray) = s := by
 apply ByteArray.ext; rw [ByteArray.data_append]; simp
theorem ba_len_app (a b : ByteArray) : (a ++ b).size = a.size + b.size := ByteArray.size_append
theorem nil_nil : (⟨#[]⟩ : ByteArray).toList = ([] : List UInt8) := (toList_nil _).2 rfl
/-- A part with one side at most. -/
def One (p : IP) : Prop := 0 ≤ p.f0 ∧ p.f0 ≤ 300 ∧ p.f1.size ≤ 300 ∧ p.f2.size ≤ 300 ∧ (p.f0 = 0 ∨ (p.f1.size = 0 ∧ p.f2.size = 0)) ∧ (p.f1.size = 0 ∨ p.f2.size = 0)
theorem set_last (m : List IP) (z v : IP) : (m ++ [z]).set m.length v = m ++ [v] := by
 rw [List.set_append_right _ _ (Nat.le_refl _), Nat.sub_self]; rfl
theorem set_last2 (m : List IP) (y z v : IP) : (m ++ [y, z]).set m.length v = m ++ [v, z] := by
 rw [List.set_append_right _ _ (Nat.le_refl _), Nat.sub_self]; rfl
theorem gt_app_2 (m : List IP) (y z : IP) : gt izP (m ++ [y, z]) m.length = y := by
 unfold gt; rw [List.getD_eq_getElem?_getD, List.getElem?_append_right (Nat.le_refl _)]; simp
theorem gt_app_1 (m : List IP) (z : IP) : gt izP (m ++ [z]) m.length = z := by
 unfold gt; rw [List.getD_eq_getElem?_getD, List.getElem?_append_right (Nat.le_refl _)]; simp
theorem len_m1 (m : List IP) (z : IP) (h : m.length ≤ 100000) : wrap64 (((m ++ [z]).length : Int) - 1) = (m.length : Int) := by
 rw [List.length_append, List.length_singleton, wrap_id (by omega) (by omega)]; omega
/-- Nothing is put behind. -/
theorem add_none (l : List IP) (p : IP) (h0 : p.f0 = 0) (h1 : p.f1.size = 0) (h2 : p.f2.size = 0) : Ev (fun k => spec_l3Add.f k l p.f0 p.f1 p.f2) l := by
 unfold spec_l3Add.f
 rw [beq_iff_eq.2 ((toList_nil _).2 h2)]
 refine ev_pos h0 (ev_pos ((toList_nil _).2 h1) ?_)
 refine Ev.step (fun k => by rw [spec_l3Add.j0]) ?_
 exact ev_pos rfl (ev_ret rfl)
/-- Where the part is one, the walk begins at j0. -/
theorem add_start (l : List IP) (p : IP) (h : p.f0 ≠ 0 ∨ p.f1.size ≠ 0 ∨ p.f2.size ≠ 0) {r : List IP} (hr : Ev (fun k => spec_l3Add.j0 k l (l.length : Int) false p.f0 p.f1 p.f2) r) : Ev (fun k => spec_l3Add.f k l p.f0 p.f1 p.f2) r := by
 unfold spec_l3Add.f
 refine ev_if (fun h0 => ev_if (fun h1 => ?_) (fun _ => hr)) (fun _ => hr)
 rw [toList_nil] at h1
 have h2 : ¬ p.f2.toList = ([] : List UInt8) := by rw [toList_nil]; omega
 rw [beq_eq_false_iff_ne.2 h2]; exact hr
theorem add_first (p : IP) (h : p.f0 ≠ 0 ∨ p.f1.size ≠ 0 ∨ p.f2.size ≠ 0) : Ev (fun k => spec_l3Add.f k [] p.f0 p.f1 p.f2) [p] := by
 refine add_start [] p h ?_
 refine Ev.step (fun k => by rw [spec_l3Add.j0]) ?_
 exact ev_neg (by simp) (ev_pos (by simp) (ev_pos (by simp) (ev_ret rfl)))
theorem add_j1 (m : List IP) (z p : IP) (hm : m.length ≤ 100000) (h : p.f0 ≠ 0 ∨ p.f1.size ≠ 0 ∨ p.f2.size ≠ 0) {r : List IP}
  (hr : Ev (fun k => spec_l3Add.j1 k (m ++ [z]) ((m ++ [z]).length : Int) (decide (p.f0 > 0 ∧ z.f0 > 0)) p.f0 p.f1 p.f2 z.f0 z.f1 z.f2) r) : Ev (fun k => spec_l3Add.f k (m ++ [z]) p.f0 p.f1 p.f2) r := by
 refine add_start _ p h ?_
 refine Ev.step (fun k => by rw [spec_l3Add.j0]) ?_
 rw [len_m1 m z hm, rd_ip, gt_app_1]
 have hl : (m ++ [z]).length = m.length + 1 := by rw [List.length_append, List.length_singleton]
 refine ev_neg (by simp) (ev_neg (by omega) (ev_pos (by omega) (ev_pos (by omega) (ev_if (fun c => ?_) (fun c => ?_)))))
 ·simp only [c, true_and] at hr; exact hr
 ·rw [decide_eq_false (fun q => c q.1)] at hr; exact hr
theorem add_j2 (m : List IP) (z p : IP) (hm : m.length ≤ 100000) (h : p.f0 ≠ 0 ∨ p.f1.size ≠ 0 ∨ p.f2.size ≠ 0) (h1 : ¬ (p.f0 > 0 ∧ z.f0 > 0)) {r : List IP}
  (hr : Ev (fun k => spec_l3Add.j2 k (m ++ [z]) ((m ++ [z]).length : Int) (decide (p.f2.size ≠ 0 ∧ z.f2.size ≠ 0)) p.f0 p.f1 p.f2 z.f0 z.f1 z.f2) r) : Ev (fun k => spec_l3Add.f k (m ++ [z]) p.f0 p.f1 p.f2) r := by
 refine add_j1 m z p hm h ?_
 rw [decide_eq_false h1]
 refine Ev.step (fun k => by rw [spec_l3Add.j1]) ?_
 refine ev_neg (by simp) (ev_if (fun c => ?_) (fun c => ?_))
 ·rw [toList_nil] at c
  rw [decide_eq_false (fun q => q.1 c)] at hr; exact hr
 ·rw [toList_nil] at c
  have e : (z.f2.toList != ([] : List UInt8)) = decide (p.f2.size ≠ 0 ∧ z.f2.size ≠ 0) := by
   by_cases q : z.f2.size = 0
   ·rw [decide_eq_false (fun x => x.2 q), bne_eq_false_iff_eq]; exact (toList_nil _).2 q
   ·rw [decide_eq_true ⟨c, q⟩, bne_iff_ne]; exact fun x => q ((toList_nil _).1 x)
  rw [e]; exact hr
theorem add_j3 (m : List IP) (z p : IP) (hm : m.length ≤ 100000) (h : p.f0 ≠ 0 ∨ p.f1.size ≠ 0 ∨ p.f2.size ≠ 0) (h1 : ¬ (p.f0 > 0 ∧ z.f0 > 0)) (h2 : ¬ (p.f2.size ≠ 0 ∧ z.f2.size ≠ 0)) {r : List IP}
  (hr : Ev (fun k => spec_l3Add.j3 k (m ++ [z]) ((m ++ [z]).length : Int) (decide (p.f1.size ≠ 0 ∧ z.f1.size ≠ 0)) p.f0 p.f1 p.f2 z.f0 z.f1 z.f2) r) : Ev (fun k => spec_l3Add.f k (m ++ [z]) p.f0 p.f1 p.f2) r := by
 refine add_j2 m z p hm h h1 ?_
 rw [decide_eq_false h2]
 refine Ev.step (fun k => by rw [spec_l3Add.j2]) ?_
 refine ev_neg (by simp) (ev_if (fun c => ?_) (fun c => ?_))
 ·rw [toList_nil] at c
  rw [decide_eq_false (fun q => q.1 c)] at hr; exact hr
 ·rw [toList_nil] at c
  have e : (z.f1.toList != ([] : List UInt8)) = decide (p.f1.size ≠ 0 ∧ z.f1.size ≠ 0) := by
   by_cases q : z.f1.size = 0
   ·rw [decide_eq_false (fun x => x.2 q), bne_eq_false_iff_eq]; exact (toList_nil _).2 q
   ·rw [decide_eq_true ⟨c, q⟩, bne_iff_ne]; exact fun x => q ((toList_nil _).1 x)
  rw [e]; exact hr
theorem add_j4 (m : List IP) (z p : IP) (hm : m.length ≤ 100000) (h : p.f0 ≠ 0 ∨ p.f1.size ≠ 0 ∨ p.f2.size ≠ 0) (h1 : ¬ (p.f0 > 0 ∧ z.f0 > 0)) (h2 : ¬ (p.f2.size ≠ 0 ∧ z.f2.size ≠ 0)) (h3 : ¬ (p.f1.size ≠ 0 ∧ z.f1.size ≠ 0)) {r : List IP}
  (hr : Ev (fun k => spec_l3Add.j4 k (m ++ [z]) ((m ++ [z]).length : Int) (decide (p.f1.size ≠ 0 ∧ z.f2.size ≠ 0)) p.f0 p.f1 p.f2 z.f0 z.f1 z.f2) r) : Ev (fun k => spec_l3Add.f k (m ++ [z]) p.f0 p.f1 p.f2) r := by
 refine add_j3 m z p hm h h1 h2 ?_
 rw [decide_eq_false h3]
 refine Ev.step (fun k => by rw [spec_l3Add.j3]) ?_
 refine ev_neg (by simp) (ev_if (fun c => ?_) (fun c => ?_))
 ·rw [toList_nil] at c
  rw [decide_eq_false (fun q => q.1 c)] at hr; exact hr
 ·rw [toList_nil] at c
  have e : (z.f2.toList != ([] : List UInt8)) = decide (p.f1.size ≠ 0 ∧ z.f2.size ≠ 0) := by
   by_cases q : z.f2.size = 0
   ·rw [decide_eq_false (fun x => x.2 q), bne_eq_false_iff_eq]; exact (toList_nil _).2 q
   ·rw [decide_eq_true ⟨c, q⟩, bne_iff_ne]; exact fun x => q ((toList_nil _).1 x)
  rw [e]; exact hr
/-- Both keep. -/
theorem add_keep (m : List IP) (z p : IP) (hm : m.length ≤ 100000) (h1 : p.f0 > 0 ∧ z.f0 > 0) : Ev (fun k => spec_l3Add.f k (m ++ [z]) p.f0 p.f1 p.f2) (m ++ [⟨wrap64 (z.f0 + p.f0), z.f1, z.f2⟩]) := by
 refine add_j1 m z p hm (.inl (by omega)) ?_
 rw [decide_eq_true h1]
 refine Ev.step (fun k => by rw [spec_l3Add.j1]) ?_
 rw [len_m1 m z hm, rd_ip, gt_app_1, Int.toNat_natCast, set_last]
 exact ev_pos rfl (ev_pos (by omega) (ev_pos (by rw [List.length_append, List.length_singleton]; omega) (ev_ret rfl)))
/-- Both drop. -/
theorem add_drop (m : List IP) (z p : IP) (hm : m.length ≤ 100000) (h1 : ¬ (p.f0 > 0 ∧ z.f0 > 0)) (h2 : p.f2.size ≠ 0 ∧ z.f2.size ≠ 0) (hs : z.f2.size + p.f2.size ≤ 9223372036854775807) : Ev (fun k => spec_l3Add.f k (m ++ [z]) p.f0 p.f1 p.f2) (m ++ [⟨z.f0, z.f1, z.f2 ++ p.f2⟩]) := by
 refine add_j2 m z p hm (.inr (.inr h2.1)) h1 ?_
 rw [decide_eq_true h2]
 refine Ev.step (fun k => by rw [spec_l3Add.j2]) ?_
 rw [len_m1 m z hm, rd_ip, gt_app_1, Int.toNat_natCast, set_last]
 exact ev_pos rfl (ev_pos (by omega) (ev_pos (by rw [List.length_append, List.length_singleton]; omega) (ev_pos hs (ev_ret rfl))))
/-- Both put. -/
theorem add_put (m : List IP) (z p : IP) (hm : m.length ≤ 100000) (h1 : ¬ (p.f0 > 0 ∧ z.f0 > 0)) (h2 : ¬ (p.f2.size ≠ 0 ∧ z.f2.size ≠ 0)) (h3 : p.f1.size ≠ 0 ∧ z.f1.size ≠ 0) (hs : z.f1.size + p.f1.size ≤ 9223372036854775807) : Ev (fun k => spec_l3Add.f k (m ++ [z]) p.f0 p.f1 p.f2) (m ++ [⟨z.f0, z.f1 ++ p.f1, z.f2⟩]) := by
 refine add_j3 m z p hm (.inr (.inl h3.1)) h1 h2 ?_
 rw [decide_eq_true h3]
 refine Ev.step (fun k => by rw [spec_l3Add.j3]) ?_
 rw [len_m1 m z hm, rd_ip, gt_app_1, Int.toNat_natCast, set_last]
 exact ev_pos rfl (ev_pos (by omega) (ev_pos (by rw [List.length_append, List.length_singleton]; omega) (ev_pos hs (ev_ret rfl))))
/-- Nothing joins. -/
theorem add_apart (m : List IP) (z p : IP) (hm : m.length ≤ 100000) (h : p.f0 ≠ 0 ∨ p.f1.size ≠ 0 ∨ p.f2.size ≠ 0) (h1 : ¬ (p.f0 > 0 ∧ z.f0 > 0)) (h2 : ¬ (p.f2.size ≠ 0 ∧ z.f2.size ≠ 0)) (h3 : ¬ (p.f1.size ≠ 0 ∧ z.f1.size ≠ 0)) (h4 : ¬ (p.f1.size ≠ 0 ∧ z.f2.size ≠ 0)) : Ev (fun k => spec_l3Add.f k (m ++ [z]) p.f0 p.f1 p.f2) (m ++ [z, p]) := by
 refine add_j4 m z p hm h h1 h2 h3 ?_
 rw [decide_eq_false h4]
 refine Ev.step (fun k => by rw [spec_l3Add.j4]) ?_
 exact ev_neg (by simp) (ev_pos (by rw [List.length_append, List.length_singleton]; omega) (ev_ret (by rw [List.append_assoc]; rfl)))
/-- A put goes ahead of a drop. -/
theorem add_ahead1 (z p : IP) (h1 : ¬ (p.f0 > 0 ∧ z.f0 > 0)) (h2 : ¬ (p.f2.size ≠ 0 ∧ z.f2.size ≠ 0)) (h3 : ¬ (p.f1.size ≠ 0 ∧ z.f1.size ≠ 0)) (h4 : p.f1.size ≠ 0 ∧ z.f2.size ≠ 0) : Ev (fun k => spec_l3Add.f k [z] p.f0 p.f1 p.f2) [p, z] := by
 refine add_j4 [] z p (by simp) (.inr (.inl h4.1)) h1 h2 h3 ?_
 rw [decide_eq_true h4]
 refine Ev.step (fun k => by rw [spec_l3Add.j4]) ?_
 rw [len_m1 [] z (by simp), Int.toNat_natCast, set_last]
 exact ev_pos rfl (ev_neg (by simp) (ev_pos (by simp) (ev_pos (by simp) (ev_eq rfl (ev_pos (by simp) (ev_ret rfl))))))
theorem len_m2 (m : List IP) (y z : IP) (h : m.length ≤ 90000) : wrap64 (((m ++ [y, z]).length : Int) - 2) = (m.length : Int) := by
 have : (m ++ [y, z]).length = m.length + 2 := by rw [List.length_append]; rfl
 rw [this, wrap_id (by omega) (by omega)]; omega
theorem add_ahead2 (m : List IP) (y z p : IP) (hm : m.length ≤ 90000) (h1 : ¬ (p.f0 > 0 ∧ z.f0 > 0)) (h2 : ¬ (p.f2.size ≠ 0 ∧ z.f2.size ≠ 0)) (h3 : ¬ (p.f1.size ≠ 0 ∧ z.f1.size ≠ 0)) (h4 : p.f1.size ≠ 0 ∧ z.f2.size ≠ 0) (hs : y.f1.size + p.f1.size ≤ 9223372036854775807) :
  Ev (fun k => spec_l3Add.f k (m ++ [y, z]) p.f0 p.f1 p.f2) (if y.f1.size = 0 then m ++ [y, p, z] else m ++ [⟨y.f0, y.f1 ++ p.f1, y.f2⟩, z]) := by
 have em : m ++ [y, z] = (m ++ [y]) ++ [z] := by rw [List.append_assoc]; rfl
 have hl1 : (m ++ [y]).length = m.length + 1 := by rw [List.length_append, List.length_singleton]
 have hl2 : (m ++ [y, z]).length = m.length + 2 := by rw [List.length_append]; rfl
 rw [em]
 refine add_j4 (m ++ [y]) z p (by omega) (.inr (.inl h4.1)) h1 h2 h3 ?_
 rw [decide_eq_true h4]
 refine Ev.step (fun k => by rw [spec_l3Add.j4]) ?_
 rw [len_m1 (m ++ [y]) z (by omega), Int.toNat_natCast, set_last]
 rw [← em, len_m2 m y z hm, rd_ip, gt_app_2, Int.toNat_natCast, set_last2]
 refine ev_pos rfl (ev_pos (by omega) (ev_pos (by omega) (ev_pos (by omega) (ev_if (fun c => ?_) (fun c => ?_)))))
 ·rw [toList_nil] at c
  rw [if_pos c]
  refine ev_pos (by omega) (ev_pos (by omega) (ev_eq rfl (ev_pos (by rw [List.length_append, List.length_singleton]; omega) (ev_ret ?_))))
  rw [List.append_assoc, List.append_assoc]; rfl
 ·rw [toList_nil] at c
  rw [if_neg c]
  exact ev_pos hs (ev_ret rfl)
/-- The state of the maker is that of the reference: the parts so far, and what is held back. -/
structure Fit (n : Nat) (s : List Pt × ByteArray × ByteArray) : Prop where
 last : s.1 = [] ∨ ∃ m x, s.1 = m ++ [(x, (⟨#[]⟩ : ByteArray), (⟨#[]⟩ : ByteArray))] ∧ 0 < x ∧ x ≤ 300 * (n : Int)
 len : s.1.length ≤ 3 * n
 put : s.2.1.size ≤ 300 * n
 drop : s.2.2.size ≤ 300 * n
def allP (s : List Pt × ByteArray × ByteArray) : List IP := (s.1 ++ endL s.2.1 s.2.2).map ofP
theorem endL_00 {a b : ByteArray} (ha : a.size = 0) (hb : b.size = 0) : endL a b = [] := by
 unfold endL; rw [if_pos ((toList_nil _).2 ha), if_pos ((toList_nil _).2 hb)]; rfl
theorem endL_10 {a b : ByteArray} (ha : a.size ≠ 0) (hb : b.size = 0) : endL a b = [(0, a, ⟨#[]⟩)] := by
 unfold endL; rw [if_neg (fun e => ha ((toList_nil _).1 e)), if_pos ((toList_nil _).2 hb)]; rfl
theorem endL_01 {a b : ByteArray} (ha : a.size = 0) (hb : b.size ≠ 0) : endL a b = [(0, ⟨#[]⟩, b)] := by
 unfold endL; rw [if_pos ((toList_nil _).2 ha), if_neg (fun e => hb ((toList_nil _).1 e))]; rfl
theorem endL_11 {a b : ByteArray} (ha : a.size ≠ 0) (hb : b.size ≠ 0) : endL a b = [(0, a, ⟨#[]⟩), (0, ⟨#[]⟩, b)] := by
 unfold endL; rw [if_neg (fun e => ha ((toList_nil _).1 e)), if_neg (fun e => hb ((toList_nil _).1 e))]; rfl
theorem endL_len (a b : ByteArray) : (endL a b).length ≤ 2 := by unfold endL; rw [List.length_append]; split <;> split <;> simp
theorem sz0 : (⟨#[]⟩ : ByteArray).size = 0 := rfl
theorem keepA_app (m : List Pt) (q : Pt) (x : Int) : keepA (m ++ [q]) x = if q.1 > 0 then m ++ [(wrap64 (q.1 + x), q.2.1, q.2.2)] else m ++ [q, (x, ⟨#[]⟩, ⟨#[]⟩)] := by
 unfold keepA
 rw [List.getLast?_append]
 simp only [List.getLast?_singleton, Option.some_or]
 split
 ·rw [List.dropLast_concat]
 ·rw [List.append_assoc]; rfl
/-- One part more, by the maker and by the reference. -/
theorem add_step (n : Nat) (s : List Pt × ByteArray × ByteArray) (p : IP) (hn : n ≤ 1000) (hf : Fit n s) (hp : One p) :
  Ev (fun k => spec_l3Add.f k (allP s) p.f0 p.f1 p.f2) (allP (takeP s (toP p))) ∧ Fit (n + 1) (takeP s (toP p)) := by
 obtain ⟨l, a, b⟩ := s
 obtain ⟨f1, f2, f3, f4⟩ := hf
 obtain ⟨p0, p1, p2⟩ := p
 obtain ⟨q1, q2, q3, q4, q5, q6⟩ := hp
 simp only at f1 f2 f3 f4 q1 q2 q3 q4 q5 q6
 have hel := endL_len a b
 by_cases h0 : p0 = 0
 ·-- nothing is kept
  subst h0
  have et : takeP (l, a, b) (toP ⟨0, p1, p2⟩) = (l, a ++ p1, b ++ p2) := rfl
  rw [et]
  refine ⟨?_, ?_⟩
  ·unfold allP
   simp only
   by_cases h1 : p1.size = 0
   ·by_cases h2 : p2.size = 0
    ·rw [ba_nil h1, ba_nil h2, ba_app, ba_app]
     exact add_none _ ⟨0, ⟨#[]⟩, ⟨#[]⟩⟩ rfl rfl rfl
    ·rw [ba_nil h1, ba_app]
     by_cases hb : b.size = 0
     ·rw [ba_nil hb, show (⟨#[]⟩ : ByteArray) ++ p2 = p2 by apply ByteArray.ext; rw [ByteArray.data_append]; simp]
      by_cases ha : a.size = 0
      ·rw [endL_00 ha sz0, endL_01 ha h2, List.append_nil, List.map_append]
       rcases f1 with e | ⟨m, x, e, hx, _⟩
       ·rw [e]; exact add_first ⟨0, ⟨#[]⟩, p2⟩ (.inr (.inr h2))
       ·rw [e, List.map_append]
        have := add_apart (m.map ofP) (ofP (x, ⟨#[]⟩, ⟨#[]⟩)) ⟨0, ⟨#[]⟩, p2⟩ (by rw [e] at f2; simp at f2 ⊢; omega) (.inr (.inr h2)) (by simp) (by simp [ofP, sz0]) (by simp [sz0]) (by simp [sz0])
        rw [List.append_assoc]; exact this
      ·rw [endL_10 ha sz0, endL_11 ha h2, List.map_append, List.map_append]
       exact add_apart (l.map ofP) (ofP (0, a, ⟨#[]⟩)) ⟨0, ⟨#[]⟩, p2⟩ (by rw [List.length_map]; omega) (.inr (.inr h2)) (by simp) (by simp [ofP, sz0]) (by simp [sz0]) (by simp [sz0])
     ·have hb2 : (b ++ p2).size ≠ 0 := by rw [ba_len_app]; omega
      by_cases ha : a.size = 0
      ·rw [endL_01 ha hb, endL_01 ha hb2, List.map_append, List.map_append]
       exact add_drop (l.map ofP) (ofP (0, ⟨#[]⟩, b)) ⟨0, ⟨#[]⟩, p2⟩ (by rw [List.length_map]; omega) (by simp) ⟨h2, hb⟩ (by simp only [ofP]; omega)
      ·rw [endL_11 ha hb, endL_11 ha hb2, List.map_append, List.map_append]
       have := add_drop (l.map ofP ++ [ofP (0, a, ⟨#[]⟩)]) (ofP (0, ⟨#[]⟩, b)) ⟨0, ⟨#[]⟩, p2⟩ (by rw [List.length_append, List.length_map, List.length_singleton]; omega) (by simp) ⟨h2, hb⟩ (by simp only [ofP]; omega)
       rw [List.append_assoc, List.append_assoc] at this; exact this
   ·have h2 : p2.size = 0 := by omega
    rw [ba_nil h2, ba_app]
    by_cases ha : a.size = 0
    ·rw [ba_nil ha, show (⟨#[]⟩ : ByteArray) ++ p1 = p1 by apply ByteArray.ext; rw [ByteArray.data_append]; simp]
     by_cases hb : b.size = 0
     ·rw [endL_00 sz0 hb, endL_10 h1 hb, List.append_nil, List.map_append]
      rcases f1 with e | ⟨m, x, e, hx, _⟩
      ·rw [e]; exact add_first ⟨0, p1, ⟨#[]⟩⟩ (.inr (.inl h1))
      ·rw [e, List.map_append]
       have := add_apart (m.map ofP) (ofP (x, ⟨#[]⟩, ⟨#[]⟩)) ⟨0, p1, ⟨#[]⟩⟩ (by rw [e] at f2; simp at f2 ⊢; omega) (.inr (.inl h1)) (by simp) (by simp [ofP, sz0]) (by simp [ofP, sz0]) (by simp [ofP, sz0])
       rw [List.append_assoc]; exact this
     ·rw [endL_01 sz0 hb, endL_11 h1 hb, List.map_append, List.map_append]
      rcases f1 with e | ⟨m, x, e, hx, _⟩
      ·rw [e]; exact add_ahead1 (ofP (0, ⟨#[]⟩, b)) ⟨0, p1, ⟨#[]⟩⟩ (by simp) (by simp [sz0]) (by simp [ofP, sz0]) ⟨h1, hb⟩
      ·rw [e, List.map_append]
       have := add_ahead2 (m.map ofP) (ofP (x, ⟨#[]⟩, ⟨#[]⟩)) (ofP (0, ⟨#[]⟩, b)) ⟨0, p1, ⟨#[]⟩⟩ (by rw [e] at f2; simp at f2 ⊢; omega) (by simp) (by simp [sz0]) (by simp [ofP, sz0]) ⟨h1, hb⟩ (by simp only [ofP, sz0]; omega)
       rw [if_pos (by rfl)] at this
       rw [List.append_assoc, List.append_assoc]; exact this
    ·have ha2 : (a ++ p1).size ≠ 0 := by rw [ba_len_app]; omega
     by_cases hb : b.size = 0
     ·rw [endL_10 ha hb, endL_10 ha2 hb, List.map_append, List.map_append]
      exact add_put (l.map ofP) (ofP (0, a, ⟨#[]⟩)) ⟨0, p1, ⟨#[]⟩⟩ (by rw [List.length_map]; omega) (by simp) (by simp [sz0]) ⟨h1, ha⟩ (by simp only [ofP]; omega)
     ·rw [endL_11 ha hb, endL_11 ha2 hb, List.map_append, List.map_append]
      have := add_ahead2 (l.map ofP) (ofP (0, a, ⟨#[]⟩)) (ofP (0, ⟨#[]⟩, b)) ⟨0, p1, ⟨#[]⟩⟩ (by rw [List.length_map]; omega) (by simp) (by simp [sz0]) (by simp [ofP, sz0]) ⟨h1, hb⟩ (by simp only [ofP]; omega)
      rw [if_neg (by simp only [ofP]; exact ha)] at this
      exact this
  ·refine ⟨?_, by show l.length ≤ _; omega, by show (a ++ p1).size ≤ _; rw [ba_len_app]; omega, by show (b ++ p2).size ≤ _; rw [ba_len_app]; omega⟩
   rcases f1 with e | ⟨m, x, e, hx, hx2⟩
   ·exact .inl e
   ·exact .inr ⟨m, x, e, hx, by omega⟩
 ·-- bytes are kept
  obtain ⟨h1, h2⟩ := q5.resolve_left h0
  have hk : keepS l a b p0 = (keepA (l ++ endL a b) p0, ⟨#[]⟩, ⟨#[]⟩) := by unfold keepS; rw [if_neg h0]
  have et : takeP (l, a, b) (toP ⟨p0, p1, p2⟩) = (keepA (l ++ endL a b) p0, ⟨#[]⟩, ⟨#[]⟩) := by
   unfold takeP toP
   simp only [hk]
   rw [ba_nil h1, ba_nil h2, ba_app]
  rw [et, ba_nil h1, ba_nil h2]
  have hq : ∀ (M : List Pt) (q : Pt), l ++ endL a b = M ++ [q] → q.1 ≤ 300 * (n : Int) → (q.1 > 0 → q.2.1 = ⟨#[]⟩ ∧ q.2.2 = ⟨#[]⟩) →
    Ev (fun k => spec_l3Add.f k (allP (l, a, b)) p0 ⟨#[]⟩ ⟨#[]⟩) (allP (keepA (l ++ endL a b) p0, ⟨#[]⟩, ⟨#[]⟩)) ∧ Fit (n + 1) (keepA (l ++ endL a b) p0, ⟨#[]⟩, ⟨#[]⟩) := by
   intro M q e hq1 hq2
   have hML : M.length + 1 ≤ 3 * n + 2 := by
    have := congrArg List.length e
    rw [List.length_append, List.length_append, List.length_singleton] at this
    omega
   unfold allP
   simp only
   rw [endL_00 sz0 sz0, List.append_nil, e, keepA_app]
   by_cases hx : q.1 > 0
   ·rw [if_pos hx, List.map_append, List.map_append]
    refine ⟨add_keep (M.map ofP) (ofP q) ⟨p0, ⟨#[]⟩, ⟨#[]⟩⟩ (by rw [List.length_map]; omega) ⟨by simp only; omega, hx⟩, ?_⟩
    rw [wrap_id (by omega) (by omega)]
    obtain ⟨e1, e2⟩ := hq2 hx
    refine ⟨.inr ⟨M, q.1 + p0, by rw [e1, e2], by omega, by omega⟩, ?_, Nat.zero_le _, Nat.zero_le _⟩
    simp only [List.length_append, List.length_cons, List.length_nil]; omega
   ·rw [if_neg hx, List.map_append, List.map_append]
    refine ⟨add_apart (M.map ofP) (ofP q) ⟨p0, ⟨#[]⟩, ⟨#[]⟩⟩ (by rw [List.length_map]; omega) (.inl (by simp only; omega)) (fun c => hx c.2) (by simp [sz0]) (by simp [sz0]) (by simp [sz0]), ?_⟩
    refine ⟨.inr ⟨M ++ [q], p0, by rw [List.append_assoc]; rfl, by omega, by omega⟩, ?_, Nat.zero_le _, Nat.zero_le _⟩
    simp only [List.length_append, List.length_cons, List.length_nil]; omega
  by_cases ha : a.size = 0
  ·by_cases hb : b.size = 0
   ·rcases f1 with e | ⟨m, x, e, hx, hx2⟩
    ·subst e
     unfold allP
     rw [endL_00 ha hb]
     simp only [List.nil_append, List.map_nil]
     rw [endL_00 sz0 sz0]
     refine ⟨add_first ⟨p0, ⟨#[]⟩, ⟨#[]⟩⟩ (.inl h0), ⟨.inr ⟨[], p0, rfl, by omega, by omega⟩, by show 1 ≤ _; omega, Nat.zero_le _, Nat.zero_le _⟩⟩
    ·exact hq m (x, ⟨#[]⟩, ⟨#[]⟩) (by rw [endL_00 ha hb, List.append_nil]; exact e) (by simp only; omega) (fun _ => ⟨rfl, rfl⟩)
   ·exact hq l (0, ⟨#[]⟩, b) (by rw [endL_01 ha hb]) (by simp only; omega) (fun c => absurd c (by simp))
  ·by_cases hb : b.size = 0
   ·exact hq l (0, a, ⟨#[]⟩) (by rw [endL_10 ha hb]) (by simp only; omega) (fun c => absurd c (by simp))
   ·exact hq (l ++ [(0, a, ⟨#[]⟩)]) (0, ⟨#[]⟩, b) (by rw [endL_11 ha hb, List.append_assoc]; rfl) (by simp only; omega) (fun c => absurd c (by simp))
theorem fit_zero : Fit 0 ([], (⟨#[]⟩ : ByteArray), (⟨#[]⟩ : ByteArray)) := ⟨.inl rfl, Nat.le_refl _, Nat.le_refl _, Nat.le_refl _⟩
def normI (l : List IP) : List IP := (normP (l.map toP)).map ofP
theorem one_guard (l : List IP) (hl : l.length ≤ 60) (hp : ∀ p ∈ l, One p) : l.length ≤ 60 ∧ (l.all fun x => decide (x.f1.size ≤ 300 ∧ x.f2.size ≤ 300)) = true :=
 ⟨hl, List.all_eq_true.2 fun x hx => decide_eq_true ⟨(hp x hx).2.2.1, (hp x hx).2.2.2.1⟩⟩
theorem impl_normal_f (l : List IP) (hl : l.length ≤ 60) (hp : ∀ p ∈ l, One p) : impl_normal.f l = some (normI l) := by
 unfold impl_normal.f
 rw [if_pos (one_guard l hl hp)]; rfl
theorem normI_len (l : List IP) (hl : l.length ≤ 60) (hp : ∀ p ∈ l, One p) : (normI l).length ≤ 200 := by
 obtain ⟨b1, _, _⟩ := stN_bound l (fun x hx => ⟨(hp x hx).2.2.1, (hp x hx).2.2.2.1⟩) l.length (Nat.le_refl _)
 have e : stN l l.length = (l.map toP).foldl takeP ([], ⟨#[]⟩, ⟨#[]⟩) := by unfold stN; rw [List.take_of_length_le (Nat.le_refl _)]
 rw [e] at b1
 have := endL_len ((l.map toP).foldl takeP ([], ⟨#[]⟩, ⟨#[]⟩)).2.1 ((l.map toP).foldl takeP ([], ⟨#[]⟩, ⟨#[]⟩)).2.2
 unfold normI normP
 rw [List.length_map, List.length_append]; omega

theorem part_one {p : IP} (h : partB p = true) : One p := by
 obtain ⟨a1, a2, a3, a4, a5⟩ := part_facts h
 refine ⟨a1, a2, a3, a4, ?_, ?_⟩
 ·unfold partB at h
  by_cases c0 : p.f0 = 0
  ·exact .inl c0
  ·rw [if_neg c0, Bool.and_eq_true, Bool.and_eq_true] at h
   exact .inr ⟨(toList_nil _).1 (of_decide_eq_true h.2.1), a5.resolve_left c0⟩
 ·unfold partB at h
  by_cases c0 : p.f0 = 0
  ·rw [if_pos c0] at h
   by_cases c1 : p.f1.toList = ([] : List UInt8)
   ·exact .inl ((toList_nil _).1 c1)
   ·rw [if_neg c1] at h
    by_cases c2 : p.f2.toList = ([] : List UInt8)
    ·exact .inr ((toList_nil _).1 c2)
    ·rw [if_neg c2] at h; cases h
  ·exact .inr (a5.resolve_left c0)

def dropL : List IP → List Int
 | [] => []
 | p :: r => (List.replicate p.f0.toNat 0 ++ bytesOf p.f2) ++ dropL r
theorem dropL_len : ∀ (l : List IP), (∀ p ∈ l, partB p = true) → (dropL l).length ≤ 600 * l.length
 | [], _ => by simp [dropL]
 | p :: r, h => by
  obtain ⟨f1, f2, f3, f4, f5⟩ := part_facts (h p (List.mem_cons_self ..))
  have := dropL_len r (fun x hx => h x (List.mem_cons_of_mem _ hx))
  simp only [dropL, List.length_append, List.length_replicate, bytesOf_length, List.length_cons]
  omega

abbrev Seg := ByteArray × ByteArray × Int
/-- A normal change, by what it keeps: what is put and dropped ahead of each. -/
def flatS (l : List Seg) : List Pt := l.flatMap (fun s => endL s.1 s.2.1 ++ [(s.2.2, (⟨#[]⟩ : ByteArray), (⟨#[]⟩ : ByteArray))])
def byteS (l : List Seg) : List Int := l.flatMap (fun s => bytesOf s.2.1 ++ List.replicate s.2.2.toNat 0)
theorem flatS_app (a b : List Seg) : flatS (a ++ b) = flatS a ++ flatS b := by simp [flatS]
theorem byteS_app (a b : List Seg) : byteS (a ++ b) = byteS a ++ byteS b := by simp [byteS]
theorem flatS_cons (s : Seg) (b : List Seg) : flatS (s :: b) = endL s.1 s.2.1 ++ (s.2.2, (⟨#[]⟩ : ByteArray), (⟨#[]⟩ : ByteArray)) :: flatS b := by simp [flatS]
theorem byteS_cons (s : Seg) (b : List Seg) : byteS (s :: b) = bytesOf s.2.1 ++ (List.replicate s.2.2.toNat 0 ++ byteS b) := by simp [byteS]
theorem bytesOf_app (a b : ByteArray) : bytesOf (a ++ b) = bytesOf a ++ bytesOf b := by unfold bytesOf; rw [ByteArray.data_append]; simp
theorem dropL_app (a b : List IP) : dropL (a ++ b) = dropL a ++ dropL b := by
 induction a with
 | nil => rfl
 | cons p r ih => rw [List.cons_append, dropL, dropL, ih]; simp only [List.append_assoc]
theorem bytesOf_nil {s : ByteArray} (h : s.size = 0) : bytesOf s = [] := by
 rw [← List.length_eq_zero_iff, bytesOf_length]; exact h
def NZ (s : ByteArray) : Prop := ∀ x ∈ bytesOf s, x ≠ 0
structure SegOk (n : Nat) (s : Seg) : Prop where
 put : s.1.size ≤ 300 * n
 drop : s.2.1.size ≤ 300 * n
 nz : NZ s.2.1
 pos : 0 < s.2.2
 top : s.2.2 ≤ 300 * (n : Int)
theorem SegOk.more {n : Nat} {s : Seg} (h : SegOk n s) : SegOk (n + 1) s := by
 obtain ⟨a, b, c, d, e⟩ := h
 exact ⟨by omega, by omega, c, d, by omega⟩
structure SegIs (n : Nat) (l : List IP) (s : List Pt × ByteArray × ByteArray) (g : List Seg) : Prop where
 flat : s.1 = flatS g
 ok : ∀ x ∈ g, SegOk n x
 put : s.2.1.size ≤ 300 * n
 drop : s.2.2.size ≤ 300 * n
 nz : NZ s.2.2
 bytes : byteS g ++ bytesOf s.2.2 = dropL l
 len : g.length ≤ n
theorem keepA_end (L : List Pt) (a b : ByteArray) (x : Int) (h : a.size ≠ 0 ∨ b.size ≠ 0) : keepA (L ++ endL a b) x = L ++ (endL a b ++ [(x, (⟨#[]⟩ : ByteArray), (⟨#[]⟩ : ByteArray))]) := by
 have z : ∀ (M : List Pt) (q : Pt), q.1 = 0 → keepA (M ++ [q]) x = M ++ ([q] ++ [(x, (⟨#[]⟩ : ByteArray), (⟨#[]⟩ : ByteArray))]) := fun M q hq => by rw [keepA_app, if_neg (by omega)]; rfl
 by_cases ha : a.size = 0
 ·have hb : b.size ≠ 0 := by omega
  rw [endL_01 ha hb]; exact z L _ rfl
 ·by_cases hb : b.size = 0
  ·rw [endL_10 ha hb]; exact z L _ rfl
  ·rw [endL_11 ha hb]
   have := z (L ++ [(0, a, ⟨#[]⟩)]) (0, ⟨#[]⟩, b) rfl
   rw [List.append_assoc, List.append_assoc] at this
   exact this
theorem seg_step (n : Nat) (l : List IP) (s : List Pt × ByteArray × ByteArray) (g : List Seg) (p : IP) (hn : n ≤ 1000) (h : SegIs n l s g) (hp : One p) (hz : NZ p.f2) : ∃ g', SegIs (n + 1) (l ++ [p]) (takeP s (toP p)) g' := by
 obtain ⟨L, a, b⟩ := s
 obtain ⟨p0, p1, p2⟩ := p
 obtain ⟨s1, s2, s3, s4, s5, s6, s7⟩ := h
 obtain ⟨q1, q2, q3, q4, q5, q6⟩ := hp
 simp only at s1 s2 s3 s4 s5 s6 s7 q1 q2 q3 q4 q5 q6 hz
 have hdl : dropL (l ++ [⟨p0, p1, p2⟩]) = dropL l ++ (List.replicate p0.toNat 0 ++ bytesOf p2) := by rw [dropL_app]; simp [dropL]
 by_cases h0 : p0 = 0
 ·subst h0
  have et : takeP (L, a, b) (toP ⟨0, p1, p2⟩) = (L, a ++ p1, b ++ p2) := rfl
  rw [et]
  refine ⟨g, s1, fun x hx => (s2 x hx).more, by show (a ++ p1).size ≤ _; rw [ba_len_app]; omega, by show (b ++ p2).size ≤ _; rw [ba_len_app]; omega, ?_, ?_, by omega⟩
  ·intro x hx
   rw [bytesOf_app] at hx
   exact (List.mem_append.1 hx).elim (s5 x) (hz x)
  ·show byteS g ++ bytesOf (b ++ p2) = _
   rw [hdl, bytesOf_app, ← List.append_assoc, s6]; simp
 ·obtain ⟨h1, h2⟩ := q5.resolve_left h0
  have hk : keepS L a b p0 = (keepA (L ++ endL a b) p0, ⟨#[]⟩, ⟨#[]⟩) := by unfold keepS; rw [if_neg h0]
  have et : takeP (L, a, b) (toP ⟨p0, p1, p2⟩) = (keepA (L ++ endL a b) p0, ⟨#[]⟩, ⟨#[]⟩) := by
   unfold takeP toP
   simp only [hk]
   rw [ba_nil h1, ba_nil h2, ba_app]
  have e2 : bytesOf p2 = [] := bytesOf_nil h2
  have e3 : bytesOf (⟨#[]⟩ : ByteArray) = [] := bytesOf_nil rfl
  have nz0 : NZ (⟨#[]⟩ : ByteArray) := fun x hx => by rw [e3] at hx; cases hx
  rw [et]
  by_cases hab : a.size = 0 ∧ b.size = 0
  ·obtain ⟨ha, hb⟩ := hab
   rw [bytesOf_nil hb, List.append_nil] at s6
   have eL : L ++ endL a b = flatS g := by rw [endL_00 ha hb, List.append_nil, s1]
   rw [eL]
   rcases List.eq_nil_or_concat g with e | ⟨g0, s0, e⟩
   ·subst e
    refine ⟨[(⟨#[]⟩, ⟨#[]⟩, p0)], ?_, ?_, Nat.zero_le _, Nat.zero_le _, nz0, ?_, by simp⟩
    ·show keepA (flatS []) p0 = flatS [(⟨#[]⟩, ⟨#[]⟩, p0)]
     rw [flatS_cons, endL_00 sz0 sz0]; rfl
    ·intro x hx
     rw [List.mem_singleton.1 hx]
     exact ⟨Nat.zero_le _, Nat.zero_le _, nz0, by simp only; omega, by simp only; omega⟩
    ·show byteS [(⟨#[]⟩, ⟨#[]⟩, p0)] ++ bytesOf (⟨#[]⟩ : ByteArray) = _
     rw [hdl, ← s6, byteS_cons, e2, e3]; simp [byteS]
   ·subst e
    obtain ⟨u0, v0, k0⟩ := s0
    have o0 := s2 (u0, v0, k0) (by simp)
    have ek : wrap64 (k0 + p0) = k0 + p0 := by have := o0.pos; have := o0.top; simp only at *; exact wrap_id (by omega) (by omega)
    refine ⟨g0 ++ [(u0, v0, k0 + p0)], ?_, ?_, Nat.zero_le _, Nat.zero_le _, nz0, ?_, by simp at s7 ⊢; omega⟩
    ·show keepA (flatS (g0.concat (u0, v0, k0))) p0 = flatS (g0 ++ [(u0, v0, k0 + p0)])
     rw [List.concat_eq_append, flatS_app, flatS_app, flatS_cons, flatS_cons]
     have : flatS g0 ++ (endL u0 v0 ++ (k0, (⟨#[]⟩ : ByteArray), (⟨#[]⟩ : ByteArray)) :: flatS []) = (flatS g0 ++ endL u0 v0) ++ [(k0, (⟨#[]⟩ : ByteArray), (⟨#[]⟩ : ByteArray))] := by rw [List.append_assoc]; rfl
     rw [this, keepA_app, if_pos o0.pos, ek, List.append_assoc]; rfl
    ·intro x hx
     rcases List.mem_append.1 hx with hx | hx
     ·exact (s2 x (by simp [hx])).more
     ·rw [List.mem_singleton.1 hx]
      obtain ⟨a1, a2, a3, a4, a5⟩ := o0
      simp only at a1 a2 a3 a4 a5
      exact ⟨by simp only; omega, by simp only; omega, a3, by simp only; omega, by simp only; omega⟩
    ·show byteS (g0 ++ [(u0, v0, k0 + p0)]) ++ bytesOf (⟨#[]⟩ : ByteArray) = _
     have hpos := o0.pos
     simp only at hpos
     have er : List.replicate (k0 + p0).toNat (0 : Int) = List.replicate k0.toNat 0 ++ List.replicate p0.toNat 0 := by
      rw [List.replicate_append_replicate]; congr 1; omega
     rw [List.concat_eq_append] at s6
     rw [hdl, ← s6, byteS_app, byteS_app, byteS_cons, byteS_cons, e2, e3, er]; simp [byteS]
  ·rw [keepA_end L a b p0 (by omega)]
   refine ⟨g ++ [(a, b, p0)], ?_, ?_, Nat.zero_le _, Nat.zero_le _, nz0, ?_, by simp; omega⟩
   ·show L ++ (endL a b ++ [(p0, (⟨#[]⟩ : ByteArray), (⟨#[]⟩ : ByteArray))]) = flatS (g ++ [(a, b, p0)])
    rw [flatS_app, flatS_cons, ← s1]; rfl
   ·intro x hx
    rcases List.mem_append.1 hx with hx | hx
    ·exact (s2 x hx).more
    ·rw [List.mem_singleton.1 hx]
     exact ⟨by simp only; omega, by simp only; omega, s5, by simp only; omega, by simp only; omega⟩
   ·show byteS (g ++ [(a, b, p0)]) ++ bytesOf (⟨#[]⟩ : ByteArray) = _
    rw [hdl, ← s6, byteS_app, byteS_cons, e2, e3]; simp [byteS]
theorem part_nz {p : IP} (h : partB p = true) : NZ p.f2 := by
 intro x hx
 have hg : goodB (bytesOf p.f2) = true := by
  unfold partB at h
  by_cases c0 : p.f0 = 0
  ·rw [if_pos c0] at h
   by_cases c1 : p.f1.toList = ([] : List UInt8)
   ·rw [if_pos c1] at h
    by_cases c2 : p.f2.toList = ([] : List UInt8)
    ·rw [if_pos c2] at h; cases h
    ·rw [if_neg c2] at h; exact h
   ·rw [if_neg c1] at h
    by_cases c2 : p.f2.toList = ([] : List UInt8)
    ·rw [bytesOf_nil ((toList_nil _).1 c2)] at hx; cases hx
    ·rw [if_neg c2] at h; cases h
  ·rw [if_neg c0, Bool.and_eq_true, Bool.and_eq_true] at h
   have := (toList_nil _).1 (by simpa using h.2.2)
   rw [bytesOf_nil this] at hx; cases hx
 unfold goodB textB at hg
 rw [Bool.and_eq_true, List.all_eq_true] at hg
 have := hg.1 x hx
 unfold okB openB plainB at this
 simp only [Bool.or_eq_true, decide_eq_true_eq] at this
 omega
theorem seg_all (l : List IP) (hl : l.length ≤ 60) (hp : ∀ p ∈ l, partB p = true) : ∀ i, i ≤ l.length → ∃ g, SegIs i (l.take i) (stN l i) g
 | 0, _ => by
  have e0 : stN l 0 = ([], (⟨#[]⟩ : ByteArray), (⟨#[]⟩ : ByteArray)) := rfl
  have e3 : bytesOf (⟨#[]⟩ : ByteArray) = [] := bytesOf_nil rfl
  rw [e0]
  refine ⟨[], rfl, ?_, Nat.le_refl _, Nat.le_refl _, ?_, ?_, Nat.le_refl _⟩
  ·intro x hx; cases hx
  ·intro x hx
   rw [e3] at hx; cases hx
  ·show byteS [] ++ bytesOf (⟨#[]⟩ : ByteArray) = _
   rw [e3]; rfl
 | i + 1, h => by
  obtain ⟨g, hg⟩ := seg_all l hl hp i (by omega)
  have hm := hp _ (List.getElem_mem (show i < l.length by omega))
  obtain ⟨g', hg'⟩ := seg_step i (l.take i) (stN l i) g (l[i]'(by omega)) (by omega) hg (part_one hm) (part_nz hm)
  rw [stN_succ l i (by omega), List.take_succ_eq_append_getElem (by omega)]
  exact ⟨g', hg'⟩
/-- The normal change, by what it keeps. -/
theorem norm_segs (l : List IP) (hl : l.length ≤ 60) (hp : ∀ p ∈ l, partB p = true) : ∃ (g : List Seg) (a b : ByteArray), normI l = (flatS g ++ endL a b).map ofP ∧ (∀ x ∈ g, SegOk 60 x) ∧ a.size ≤ 18000 ∧ b.size ≤ 18000 ∧ NZ b ∧ byteS g ++ bytesOf b = dropL l ∧ g.length ≤ 60 := by
 obtain ⟨g, s1, s2, s3, s4, s5, s6, s7⟩ := seg_all l hl hp l.length (Nat.le_refl _)
 have e : stN l l.length = (l.map toP).foldl takeP ([], ⟨#[]⟩, ⟨#[]⟩) := by unfold stN; rw [List.take_of_length_le (Nat.le_refl _)]
 rw [List.take_of_length_le (Nat.le_refl _)] at s6
 refine ⟨g, (stN l l.length).2.1, (stN l l.length).2.2, ?_, fun x hx => ?_, by omega, by omega, s5, s6, by omega⟩
 ·unfold normI normP; rw [← e, s1]
 ·obtain ⟨a1, a2, a3, a4, a5⟩ := s2 x hx
  exact ⟨by omega, by omega, a3, a4, by omega⟩
theorem at_idx (pre suf : List IP) (p : IP) : gt izP (pre ++ p :: suf) pre.length = p := by
 unfold gt; rw [List.getD_eq_getElem?_getD, List.getElem?_append_right (Nat.le_refl _)]; simp
theorem gt_app_lz {α : Type} (z : α) (a b : List α) (j : Nat) (h : j < a.length) : gt z (a ++ b) j = gt z a j := by
 unfold gt; rw [List.getD_eq_getElem?_getD, List.getElem?_append_left h, ← List.getD_eq_getElem?_getD]

theorem normal_l (l : List IP) (hl : l.length ≤ 60) (hp : ∀ p ∈ l, One p) (d : Nat) : ∀ i : Nat, i + d = l.length → Fit i (stN l i) →
  Ev (fun k => spec_l3Normal.l0 k (allP (stN l i)) l (l.length : Int) (i : Int)) ((normP (l.map toP)).map ofP) := by
 induction d with
 | zero =>
  intro i hi hf
  refine Ev.step (fun k => by rw [spec_l3Normal.l0]) ?_
  refine ev_neg (by omega) (ev_ret ?_)
  have e : stN l i = (l.map toP).foldl takeP ([], ⟨#[]⟩, ⟨#[]⟩) := by unfold stN; rw [List.take_of_length_le (by omega)]
  unfold allP normP; rw [e]
 | succ d ih =>
  intro i hi hf
  have hm := hp _ (gt_mem izP l i (by omega))
  have es := stN_succ l i (by omega)
  have eg : l[i]'(by omega) = gt izP l i := by unfold gt; rw [List.getD_eq_getElem?_getD, List.getElem?_eq_getElem (by omega)]; rfl
  rw [eg] at es
  obtain ⟨h1, h2⟩ := add_step i (stN l i) (gt izP l i) (by omega) hf hm
  rw [← es] at h1 h2
  refine Ev.step (fun k => by rw [spec_l3Normal.l0]) ?_
  refine ev_pos (by omega) (ev_pos (by omega) (ev_pos (by omega) ?_))
  rw [wrap_succ i (by omega)]
  simp only [rd_ip]
  exact Ev.bind h1 (ih (i + 1) (by omega) h2)
theorem spec_l3Normal_f (l : List IP) (hl : l.length ≤ 60) (hp : ∀ p ∈ l, One p) : Ev (fun k => spec_l3Normal.f k l) (normI l) := by
 unfold spec_l3Normal.f
 have e : allP (stN l 0) = [] := by
  have e0 : stN l 0 = ([], (⟨#[]⟩ : ByteArray), (⟨#[]⟩ : ByteArray)) := rfl
  rw [e0]; unfold allP; rw [endL_00 sz0 sz0]; rfl
 have := normal_l l hl hp l.length 0 (by omega) fit_zero
 rw [e] at this
 exact this

theorem spec_l4Bytes_l (l : List IP) (hl : l.length ≤ 60) (hp : ∀ p ∈ l, partB p = true) (d : Nat) : ∀ (i : Nat) (a : List Int), i + d = l.length → a.length ≤ 600 * i →
  Ev (fun k => spec_l4Bytes.l0 k a l (l.length : Int) (i : Int)) (a ++ dropL (l.drop i)) := by
 induction d with
 | zero =>
  intro i a hi ha
  refine Ev.step (fun k => by rw [spec_l4Bytes.l0]) ?_
  refine ev_neg (by omega) (ev_ret ?_)
  rw [List.drop_eq_nil_of_le (by omega)]; simp [dropL]
 | succ d ih =>
  intro i a hi ha
  obtain ⟨f1, f2, f3, f4, f5⟩ := part_facts (hp _ (gt_mem izP l i (by omega)))
  refine Ev.step (fun k => by rw [spec_l4Bytes.l0]) ?_
  refine ev_pos (by omega) (ev_pos (by omega) (ev_pos (by omega) ?_))
  rw [gt_drop izP l i (by omega), wrap_succ i (by omega)]
  simp only [rd_ip]
  refine ev_pos (by omega) (ev_pos (by omega) (ev_some (ev_pos ?_ ?_)))
  ·rw [List.length_append, List.length_replicate]; omega
  ·refine ev_val (ih (i + 1) _ (by omega) ?_) ?_
   ·rw [List.length_append, List.length_append, List.length_replicate, bytesOf_length]; omega
   ·simp only [dropL, List.append_assoc]
theorem spec_l4Bytes_f (l : List IP) (hl : l.length ≤ 60) (hp : ∀ p ∈ l, partB p = true) : Ev (fun k => spec_l4Bytes.f k l) (dropL l) := by
 unfold spec_l4Bytes.f
 exact spec_l4Bytes_l l hl hp l.length 0 [] (by omega) (by simp)

theorem ofP_put (u : ByteArray) : (ofP (0, u, ⟨#[]⟩)) = (⟨0, u, ⟨#[]⟩⟩ : IP) := rfl
/-- A byte that is kept, between two places. -/
theorem kept_l (B : List Int) (hB : B.length ≤ 100000) (at_ e : Nat) (hat : at_ ≤ B.length) (b : Nat) (hz : ∀ i, b ≤ i → i < e → gt 0 B i ≠ 0) (he : e < at_ → gt 0 B e = 0) (d : Nat) : ∀ i : Nat, at_ - i ≤ d → b ≤ i → i ≤ e ∨ at_ ≤ e → i ≤ at_ →
  Ev (fun k => spec_l5Kept.l0 k (at_ : Int) B (i : Int)) (decide (e < at_)) := by
 induction d with
 | zero =>
  intro i hd hb hie hia
  refine Ev.step (fun k => by rw [spec_l5Kept.l0]) ?_
  exact ev_neg (by omega) (ev_ret (by rw [decide_eq_false (by omega)]))
 | succ d ih =>
  intro i hd hb hie hia
  by_cases hi : i < at_
  ·refine Ev.step (fun k => by rw [spec_l5Kept.l0]) ?_
   refine ev_pos (by omega) (ev_pos (by omega) (ev_pos (by omega) (ev_if (fun h => ev_ret ?_) (fun h => ?_))))
   ·have h' : gt 0 B i = 0 := h
    have : ¬ i < e := fun c => hz i hb c h'
    rw [decide_eq_true (by omega)]
   ·rw [wrap_succ i (by omega)]
    have h' : gt 0 B i ≠ 0 := h
    refine ih (i + 1) (by omega) (by omega) ?_ (by omega)
    by_cases c : i = e
    ·subst c; exact absurd (he hi) h'
    ·omega
  ·refine Ev.step (fun k => by rw [spec_l5Kept.l0]) ?_
   exact ev_neg (by omega) (ev_ret (by rw [decide_eq_false (by omega)]))
theorem kept_f (l : List IP) (hl : l.length ≤ 60) (hp : ∀ p ∈ l, partB p = true) (b e at_ : Nat) (hbe : b ≤ e) (hba : b ≤ at_) (hat : at_ ≤ (dropL l).length) (hz : ∀ i, b ≤ i → i < e → gt 0 (dropL l) i ≠ 0) (he : e < at_ → gt 0 (dropL l) e = 0) :
  Ev (fun k => spec_l5Kept.f k l (b : Int) (at_ : Int)) (decide (e < at_)) := by
 have hB := dropL_len l hp
 unfold spec_l5Kept.f
 exact Ev.bind (spec_l4Bytes_f l hl hp) (kept_l (dropL l) (by omega) at_ e hat b hz he (at_ - b) b (Nat.le_refl _) (Nat.le_refl _) (.inl hbe) hba)
theorem gap_end (l X : List IP) (at_ lo hi inn : Int) (n : Nat) (h : X.length ≤ n) (hn : n ≤ 1000000) : Ev (fun k => spec_l5Gap.l0 k l at_ lo hi inn X (X.length : Int) (n : Int)) (lo, hi) := by
 refine Ev.step (fun k => by rw [spec_l5Gap.l0]) ?_
 exact ev_neg (by omega) (ev_ret rfl)
theorem gap_break (l pre suf : List IP) (p : IP) (at_ lo hi inn : Int) (hb : inn > at_ ∨ (inn = at_ ∧ p.f0 > 0)) :
  Ev (fun k => spec_l5Gap.l0 k l at_ lo hi inn (pre ++ p :: suf) ((pre ++ p :: suf).length : Int) (pre.length : Int)) (lo, hi) := by
 have hl : (pre ++ p :: suf).length = pre.length + (suf.length + 1) := by rw [List.length_append, List.length_cons]
 refine Ev.step (fun k => by rw [spec_l5Gap.l0]) ?_
 simp only [rd_ip, at_idx]
 refine ev_pos (by omega) (ev_pos (by omega) (ev_pos (by omega) (ev_if (fun h => ?_) (fun h => ev_pos (by omega) ?_))))
 ·refine Ev.step (fun k => by rw [spec_l5Gap.j1]) ?_
  exact ev_pos rfl (ev_ret rfl)
 ·rw [decide_eq_true (by omega)]
  refine Ev.step (fun k => by rw [spec_l5Gap.j1]) ?_
  exact ev_pos rfl (ev_ret rfl)
theorem gap_go (l pre suf : List IP) (p : IP) (at_ lo hi inn : Int) (hb : ¬ (inn > at_ ∨ (inn = at_ ∧ p.f0 > 0))) {r : Int × Int}
  (h : Ev (fun k => spec_l5Gap.j1 k l at_ lo hi inn (wrap64 (p.f0 + (p.f2.size : Int))) (pre ++ p :: suf) ((pre ++ p :: suf).length : Int) (pre.length : Int) false p.f0 p.f1 p.f2) r) :
  Ev (fun k => spec_l5Gap.l0 k l at_ lo hi inn (pre ++ p :: suf) ((pre ++ p :: suf).length : Int) (pre.length : Int)) r := by
 have hl : (pre ++ p :: suf).length = pre.length + (suf.length + 1) := by rw [List.length_append, List.length_cons]
 refine Ev.step (fun k => by rw [spec_l5Gap.l0]) ?_
 simp only [rd_ip, at_idx]
 refine ev_pos (by omega) (ev_pos (by omega) (ev_pos (by omega) (ev_neg (fun c => hb (.inl c)) (ev_if (fun c => ?_) (fun c => h)))))
 rw [decide_eq_false (fun q => hb (.inr ⟨c, q⟩))]; exact h
theorem app_one (pre suf : List IP) (p : IP) : pre ++ p :: suf = (pre ++ [p]) ++ suf := by rw [List.append_assoc]; rfl
theorem len_one (pre : List IP) (p : IP) (h : pre.length ≤ 1000000) : wrap64 ((pre.length : Int) + 1) = ((pre ++ [p]).length : Int) := by
 rw [wrap_succ _ (by omega), List.length_append, List.length_singleton]
theorem gap_put (l pre suf : List IP) (u : ByteArray) (hu : u.size ≠ 0) (at_ lo hi inn : Int) (hin : inn ≤ at_) (hpl : pre.length ≤ 1000000) (hh : 0 ≤ hi ∧ hi + u.size ≤ 1000000000) (kb : Bool) (hk : inn < at_ → Ev (fun k => spec_l5Kept.f k l inn at_) kb) {r : Int × Int}
  (h : Ev (fun k => spec_l5Gap.l0 k l at_ (if inn < at_ ∧ kb = true then hi + u.size else lo) (hi + u.size) inn ((pre ++ [(⟨0, u, ⟨#[]⟩⟩ : IP)]) ++ suf) (((pre ++ [(⟨0, u, ⟨#[]⟩⟩ : IP)]) ++ suf).length : Int) ((pre ++ [(⟨0, u, ⟨#[]⟩⟩ : IP)]).length : Int)) r) :
  Ev (fun k => spec_l5Gap.l0 k l at_ lo hi inn (pre ++ (⟨0, u, ⟨#[]⟩⟩ : IP) :: suf) ((pre ++ (⟨0, u, ⟨#[]⟩⟩ : IP) :: suf).length : Int) (pre.length : Int)) r := by
 refine gap_go l pre suf ⟨0, u, ⟨#[]⟩⟩ at_ lo hi inn (by rintro (c | ⟨c, d⟩); omega; exact absurd d (by simp)) ?_
 rw [← app_one, ← len_one pre _ hpl] at h
 refine Ev.step (fun k => by rw [spec_l5Gap.j1]) ?_
 simp only
 rw [wrap_id (x := hi + (u.size : Int)) (by omega) (by omega)]
 refine ev_neg (by simp) (ev_neg (fun c => hu ((toList_nil _).1 c)) (ev_if (fun c => ?_) (fun c => ?_)))
 ·refine Ev.bind (hk c) ?_
  cases kb with
  | true => rw [if_pos ⟨c, rfl⟩] at h; exact ev_pos rfl h
  | false => rw [if_neg (by simp)] at h; exact ev_neg (by simp) h
 ·rw [if_neg (fun q => c q.1)] at h; exact h
theorem gap_drop (l pre suf : List IP) (v : ByteArray) (at_ lo hi inn : Int) (hin : inn ≤ at_) (hpl : pre.length ≤ 1000000) (hh : 0 ≤ inn ∧ inn + v.size ≤ 1000000000) {r : Int × Int}
  (h : Ev (fun k => spec_l5Gap.l0 k l at_ lo hi (inn + v.size) ((pre ++ [(⟨0, ⟨#[]⟩, v⟩ : IP)]) ++ suf) (((pre ++ [(⟨0, ⟨#[]⟩, v⟩ : IP)]) ++ suf).length : Int) ((pre ++ [(⟨0, ⟨#[]⟩, v⟩ : IP)]).length : Int)) r) :
  Ev (fun k => spec_l5Gap.l0 k l at_ lo hi inn (pre ++ (⟨0, ⟨#[]⟩, v⟩ : IP) :: suf) ((pre ++ (⟨0, ⟨#[]⟩, v⟩ : IP) :: suf).length : Int) (pre.length : Int)) r := by
 refine gap_go l pre suf ⟨0, ⟨#[]⟩, v⟩ at_ lo hi inn (by rintro (c | ⟨c, d⟩); omega; exact absurd d (by simp)) ?_
 rw [← app_one, ← len_one pre _ hpl] at h
 refine Ev.step (fun k => by rw [spec_l5Gap.j1]) ?_
 simp only
 rw [show wrap64 (inn + wrap64 (0 + (v.size : Int))) = inn + v.size by rw [wrap_id (x := 0 + (v.size : Int)) (by omega) (by omega), wrap_id (by omega) (by omega)]; omega]
 exact ev_neg (by simp) (ev_pos nil_nil (ev_neg (by simp) h))
theorem gap_keep (l pre suf : List IP) (x : Int) (hx : 0 < x) (at_ lo hi inn : Int) (hin : inn < at_) (hpl : pre.length ≤ 1000000) (hh : 0 ≤ inn ∧ inn + x ≤ 1000000000) (hh2 : 0 ≤ hi ∧ hi ≤ 1000000000) (hat : at_ ≤ 1000000000) {r : Int × Int}
  (h : Ev (fun k => spec_l5Gap.l0 k l at_ (hi + (if inn + x > at_ then at_ - inn else x)) (hi + (if inn + x > at_ then at_ - inn else x)) (inn + x) ((pre ++ [(⟨x, ⟨#[]⟩, ⟨#[]⟩⟩ : IP)]) ++ suf) (((pre ++ [(⟨x, ⟨#[]⟩, ⟨#[]⟩⟩ : IP)]) ++ suf).length : Int) ((pre ++ [(⟨x, ⟨#[]⟩, ⟨#[]⟩⟩ : IP)]).length : Int)) r) :
  Ev (fun k => spec_l5Gap.l0 k l at_ lo hi inn (pre ++ (⟨x, ⟨#[]⟩, ⟨#[]⟩⟩ : IP) :: suf) ((pre ++ (⟨x, ⟨#[]⟩, ⟨#[]⟩⟩ : IP) :: suf).length : Int) (pre.length : Int)) r := by
 refine gap_go l pre suf ⟨x, ⟨#[]⟩, ⟨#[]⟩⟩ at_ lo hi inn (by rintro (c | ⟨c, d⟩) <;> omega) ?_
 rw [← app_one, ← len_one pre _ hpl] at h
 refine Ev.step (fun k => by rw [spec_l5Gap.j1]) ?_
 simp only [sz0]
 have e1 : wrap64 (x + ((0 : Nat) : Int)) = x := by rw [wrap_id (by omega) (by omega)]; omega
 have e2 : wrap64 (inn + x) = inn + x := wrap_id (by omega) (by omega)
 have e3 : wrap64 (at_ - inn) = at_ - inn := wrap_id (by omega) (by omega)
 rw [e1, e2, e3]
 refine ev_neg (by simp) (ev_pos nil_nil (ev_pos hx (ev_if (fun c => ?_) (fun c => ?_))))
 ·rw [if_pos c] at h; rw [wrap_id (x := hi + (at_ - inn)) (by omega) (by omega)]; exact h
 ·rw [if_neg c] at h; rw [wrap_id (x := hi + x) (by omega) (by omega)]; exact h
theorem mv_end (X : List IP) (at_ out fr : Int) (af : Bool) (n : Nat) (h : X.length ≤ n) (hn : n ≤ 1000000) : Ev (fun k => impl_movePlace.l0 k X at_ af out fr (n : Int)) out := by
 refine Ev.step (fun k => by rw [impl_movePlace.l0]) ?_
 exact ev_neg (by omega) (ev_ret rfl)
theorem mv_stop (pre suf : List IP) (x : Int) (hx : 0 < x) (at_ out fr : Int) (af : Bool) (h : at_ ≤ fr) : Ev (fun k => impl_movePlace.l0 k (pre ++ (⟨x, ⟨#[]⟩, ⟨#[]⟩⟩ : IP) :: suf) at_ af out fr (pre.length : Int)) out := by
 have hl : (pre ++ (⟨x, ⟨#[]⟩, ⟨#[]⟩⟩ : IP) :: suf).length = pre.length + (suf.length + 1) := by rw [List.length_append, List.length_cons]
 refine Ev.step (fun k => by rw [impl_movePlace.l0]) ?_
 simp only [rd_ip, at_idx]
 exact ev_pos (by omega) (ev_pos (by omega) (ev_pos hx (ev_pos h (ev_ret rfl))))
theorem mv_keep (pre suf : List IP) (x : Int) (hx : 0 < x) (at_ out fr : Int) (af : Bool) (h : fr < at_) (hpl : pre.length ≤ 1000000) (hh : 0 ≤ fr ∧ fr + x ≤ 1000000000) (hh2 : 0 ≤ out ∧ out ≤ 1000000000) (hat : at_ ≤ 1000000000) {r : Int}
  (hr : Ev (fun k => impl_movePlace.l0 k ((pre ++ [(⟨x, ⟨#[]⟩, ⟨#[]⟩⟩ : IP)]) ++ suf) at_ af (out + (if fr + x > at_ then at_ - fr else x)) (fr + x) ((pre ++ [(⟨x, ⟨#[]⟩, ⟨#[]⟩⟩ : IP)]).length : Int)) r) :
  Ev (fun k => impl_movePlace.l0 k (pre ++ (⟨x, ⟨#[]⟩, ⟨#[]⟩⟩ : IP) :: suf) at_ af out fr (pre.length : Int)) r := by
 have hl : (pre ++ (⟨x, ⟨#[]⟩, ⟨#[]⟩⟩ : IP) :: suf).length = pre.length + (suf.length + 1) := by rw [List.length_append, List.length_cons]
 rw [← app_one, ← len_one pre _ hpl] at hr
 refine Ev.step (fun k => by rw [impl_movePlace.l0]) ?_
 simp only [rd_ip, at_idx]
 have e2 : wrap64 (fr + x) = fr + x := wrap_id (by omega) (by omega)
 have e3 : wrap64 (at_ - fr) = at_ - fr := wrap_id (by omega) (by omega)
 have e4 : wrap64 (out + mn x (at_ - fr)) = out + (if fr + x > at_ then at_ - fr else x) := by
  unfold mn
  split <;> split <;> rw [wrap_id (by omega) (by omega)] <;> omega
 rw [e2, e3, e4]
 exact ev_pos (by omega) (ev_pos (by omega) (ev_pos hx (ev_neg (by omega) hr)))
/-- What is put and dropped at one place, by the program. -/
theorem mv_group (pre suf : List IP) (u v : ByteArray) (at_ out fr : Int) (af : Bool) (hs : suf = [] ∨ ∃ x t, suf = (⟨x, ⟨#[]⟩, ⟨#[]⟩⟩ : IP) :: t) (hpl : pre.length ≤ 100000) (hh : 0 ≤ fr ∧ fr + v.size ≤ 1000000000) (hh2 : 0 ≤ out ∧ out + u.size ≤ 1000000000) {r : Int}
  (hr : Ev (fun k => impl_movePlace.l0 k ((pre ++ (endL u v).map ofP) ++ suf) at_ af (if at_ > fr + v.size ∨ (at_ ≥ fr ∧ af = true) then out + u.size else out) (fr + v.size) ((pre ++ (endL u v).map ofP).length : Int)) r) :
  Ev (fun k => impl_movePlace.l0 k ((pre ++ (endL u v).map ofP) ++ suf) at_ af out fr (pre.length : Int)) r := by
 have e2 : wrap64 (fr + (v.size : Int)) = fr + v.size := wrap_id (by omega) (by omega)
 have e3 : wrap64 (out + (u.size : Int)) = out + u.size := wrap_id (by omega) (by omega)
 have ew := wrap_succ pre.length (by omega)
 have ew2 := wrap_succ (pre.length + 1) (by omega)
 by_cases hu : u.size = 0
 ·by_cases hv : v.size = 0
  ·rw [endL_00 hu hv] at hr ⊢
   simp only [List.map_nil, List.append_nil] at hr ⊢
   rw [hu, hv] at hr
   have : (if at_ > fr + ((0 : Nat) : Int) ∨ (at_ ≥ fr ∧ af = true) then out + ((0 : Nat) : Int) else out) = out := by split <;> omega
   rw [this, show fr + ((0 : Nat) : Int) = fr by omega] at hr
   exact hr
  ·rw [endL_01 hu hv] at hr ⊢
   have em : (pre ++ List.map ofP [(0, (⟨#[]⟩ : ByteArray), v)]) ++ suf = pre ++ (⟨0, ⟨#[]⟩, v⟩ : IP) :: suf := by rw [List.append_assoc]; rfl
   have el : ((pre ++ List.map ofP [(0, (⟨#[]⟩ : ByteArray), v)]).length : Int) = ((pre.length + 1 : Nat) : Int) := by rw [List.length_append]; rfl
   rw [em, el] at hr
   rw [em]
   have hl : (pre ++ (⟨0, ⟨#[]⟩, v⟩ : IP) :: suf).length = pre.length + (suf.length + 1) := by rw [List.length_append, List.length_cons]
   have key : Ev (fun k => impl_movePlace.j1 k (pre ++ (⟨0, ⟨#[]⟩, v⟩ : IP) :: suf) at_ af out fr (pre.length : Int) ((⟨#[]⟩ : ByteArray).size : Int) (fr + v.size) false) r := by
    refine Ev.step (fun k => by rw [impl_movePlace.j1]) ?_
    rw [ew, show (((⟨#[]⟩ : ByteArray).size : Nat) : Int) = (u.size : Int) by rw [hu]; rfl, e3]
    refine ev_neg (by simp) (ev_if (fun c => ?_) (fun c => ev_if (fun c2 => ev_if (fun c3 => ?_) (fun c3 => ?_)) (fun c2 => ?_)))
    ·rw [if_pos (.inl c)] at hr; exact hr
    ·rw [if_pos (.inr ⟨c2, c3⟩)] at hr; exact hr
    ·rw [if_neg (by rintro (q | q); exact c q; exact c3 q.2)] at hr; exact hr
    ·rw [if_neg (by rintro (q | q); exact c q; exact c2 q.1)] at hr; exact hr
   refine Ev.step (fun k => by rw [impl_movePlace.l0]) ?_
   rw [ew]
   simp only [rd_ip, at_idx]
   rw [e2]
   exact ev_pos (by omega) (ev_pos (by omega) (ev_neg (by simp) (ev_if (fun c => ev_pos nil_nil key) (fun c => key))))
 ·by_cases hv : v.size = 0
  ·rw [endL_10 hu hv] at hr ⊢
   have em : (pre ++ List.map ofP [(0, u, (⟨#[]⟩ : ByteArray))]) ++ suf = pre ++ (⟨0, u, ⟨#[]⟩⟩ : IP) :: suf := by rw [List.append_assoc]; rfl
   have el : ((pre ++ List.map ofP [(0, u, (⟨#[]⟩ : ByteArray))]).length : Int) = ((pre.length + 1 : Nat) : Int) := by rw [List.length_append]; rfl
   rw [em, el] at hr
   rw [em]
   have hl : (pre ++ (⟨0, u, ⟨#[]⟩⟩ : IP) :: suf).length = pre.length + (suf.length + 1) := by rw [List.length_append, List.length_cons]
   have e5 : wrap64 (fr + (((⟨#[]⟩ : ByteArray).size : Nat) : Int)) = fr + v.size := by rw [hv, sz0, wrap_id (by omega) (by omega)]
   have key : Ev (fun k => impl_movePlace.j1 k (pre ++ (⟨0, u, ⟨#[]⟩⟩ : IP) :: suf) at_ af out fr (pre.length : Int) (u.size : Int) (fr + v.size) false) r := by
    refine Ev.step (fun k => by rw [impl_movePlace.j1]) ?_
    rw [ew, e3]
    refine ev_neg (by simp) (ev_if (fun c => ?_) (fun c => ev_if (fun c2 => ev_if (fun c3 => ?_) (fun c3 => ?_)) (fun c2 => ?_)))
    ·rw [if_pos (.inl c)] at hr; exact hr
    ·rw [if_pos (.inr ⟨c2, c3⟩)] at hr; exact hr
    ·rw [if_neg (by rintro (q | q); exact c q; exact c3 q.2)] at hr; exact hr
    ·rw [if_neg (by rintro (q | q); exact c q; exact c2 q.1)] at hr; exact hr
   refine Ev.step (fun k => by rw [impl_movePlace.l0]) ?_
   rw [ew]
   simp only [rd_ip, at_idx]
   rw [e5]
   refine ev_pos (by omega) (ev_pos (by omega) (ev_neg (by simp) (ev_if (fun c => ev_neg (fun q => hu ((toList_nil _).1 q)) (ev_pos (by omega) ?_)) (fun c => key))))
   rcases hs with hs | ⟨x, t, hs⟩
   ·exfalso; rw [hs] at c; simp at c
   ·have eg : gt izP (pre ++ (⟨0, u, ⟨#[]⟩⟩ : IP) :: suf) (pre.length + 1) = ⟨x, ⟨#[]⟩, ⟨#[]⟩⟩ := by
     have := at_idx (pre ++ [(⟨0, u, ⟨#[]⟩⟩ : IP)]) t ⟨x, ⟨#[]⟩, ⟨#[]⟩⟩
     rw [List.length_append, List.length_singleton, ← app_one, ← hs] at this
     exact this
    rw [eg]
    have en : ((⟨#[]⟩ : ByteArray).toList != ([] : List UInt8)) = false := by rw [bne_eq_false_iff_eq]; exact nil_nil
    simp only [en]
    exact key
  ·rw [endL_11 hu hv] at hr ⊢
   have em : (pre ++ List.map ofP [(0, u, (⟨#[]⟩ : ByteArray)), (0, ⟨#[]⟩, v)]) ++ suf = pre ++ (⟨0, u, ⟨#[]⟩⟩ : IP) :: (⟨0, ⟨#[]⟩, v⟩ : IP) :: suf := by rw [List.append_assoc]; rfl
   have el : ((pre ++ List.map ofP [(0, u, (⟨#[]⟩ : ByteArray)), (0, ⟨#[]⟩, v)]).length : Int) = ((pre.length + 1 + 1 : Nat) : Int) := by rw [List.length_append]; rfl
   rw [em, el] at hr
   rw [em]
   have hl : (pre ++ (⟨0, u, ⟨#[]⟩⟩ : IP) :: (⟨0, ⟨#[]⟩, v⟩ : IP) :: suf).length = pre.length + (suf.length + 1 + 1) := by rw [List.length_append, List.length_cons, List.length_cons]
   have eg : gt izP (pre ++ (⟨0, u, ⟨#[]⟩⟩ : IP) :: (⟨0, ⟨#[]⟩, v⟩ : IP) :: suf) (pre.length + 1) = ⟨0, ⟨#[]⟩, v⟩ := by
    have := at_idx (pre ++ [(⟨0, u, ⟨#[]⟩⟩ : IP)]) suf ⟨0, ⟨#[]⟩, v⟩
    rw [List.length_append, List.length_singleton, ← app_one] at this
    exact this
   refine Ev.step (fun k => by rw [impl_movePlace.l0]) ?_
   rw [ew]
   simp only [rd_ip, at_idx, eg]
   refine ev_pos (by omega) (ev_pos (by omega) (ev_neg (by simp) (ev_pos (by omega) (ev_neg (fun q => hu ((toList_nil _).1 q)) (ev_pos (by omega) ?_)))))
   rw [show (v.toList != ([] : List UInt8)) = true by rw [bne_iff_ne]; exact fun q => hv ((toList_nil _).1 q)]
   refine Ev.step (fun k => by rw [impl_movePlace.j1]) ?_
   rw [ew, ew2]
   simp only [rd_ip, eg]
   rw [e2, e3]
   refine ev_pos (by trivial) (ev_pos (by omega) (ev_pos (by omega) (ev_if (fun c => ?_) (fun c => ev_if (fun c2 => ev_if (fun c3 => ?_) (fun c3 => ?_)) (fun c2 => ?_)))))
   ·rw [if_pos (.inl c)] at hr; exact hr
   ·rw [if_pos (.inr ⟨c2, c3⟩)] at hr; exact hr
   ·rw [if_neg (by rintro (q | q); exact c q; exact c3 q.2)] at hr; exact hr
   ·rw [if_neg (by rintro (q | q); exact c q; exact c2 q.1)] at hr; exact hr
/-- The same, by the reference. -/
theorem gap_group (l pre suf : List IP) (u v : ByteArray) (at_ h inn : Int) (hin : inn ≤ at_) (hpl : pre.length ≤ 100000) (hh : 0 ≤ inn ∧ inn + v.size ≤ 1000000000) (hh2 : 0 ≤ h ∧ h + u.size ≤ 1000000000) (hk : inn < at_ → Ev (fun k => spec_l5Kept.f k l inn at_) (decide (inn + v.size < at_))) {r : Int × Int}
  (hr : Ev (fun k => spec_l5Gap.l0 k l at_ (if inn + v.size < at_ then h + u.size else h) (h + u.size) (inn + v.size) ((pre ++ (endL u v).map ofP) ++ suf) (((pre ++ (endL u v).map ofP) ++ suf).length : Int) ((pre ++ (endL u v).map ofP).length : Int)) r) :
  Ev (fun k => spec_l5Gap.l0 k l at_ h h inn ((pre ++ (endL u v).map ofP) ++ suf) (((pre ++ (endL u v).map ofP) ++ suf).length : Int) (pre.length : Int)) r := by
 have elo : (if inn < at_ ∧ decide (inn + (v.size : Int) < at_) = true then h + (u.size : Int) else h) = (if inn + (v.size : Int) < at_ then h + (u.size : Int) else h) := by
  by_cases c : inn + (v.size : Int) < at_
  ·rw [if_pos c, if_pos ⟨by omega, decide_eq_true c⟩]
  ·rw [if_neg c, if_neg (fun q => c (of_decide_eq_true q.2))]
 by_cases hu : u.size = 0
 ·have e0 : (if inn + (v.size : Int) < at_ then h + (u.size : Int) else h) = h := by rw [hu]; split <;> omega
  rw [e0, hu, show h + ((0 : Nat) : Int) = h by omega] at hr
  by_cases hv : v.size = 0
  ·rw [endL_00 hu hv] at hr ⊢
   simp only [List.map_nil, List.append_nil] at hr ⊢
   rw [hv, show inn + ((0 : Nat) : Int) = inn by omega] at hr
   exact hr
  ·rw [endL_01 hu hv] at hr ⊢
   rw [List.append_assoc]
   exact gap_drop l pre suf v at_ h h inn hin (by omega) hh hr
 ·by_cases hv : v.size = 0
  ·rw [endL_10 hu hv] at hr ⊢
   rw [List.append_assoc]
   refine gap_put l pre suf u hu at_ h h inn hin (by omega) hh2 _ hk ?_
   rw [elo]
   rw [hv, show inn + ((0 : Nat) : Int) = inn by omega] at hr ⊢
   exact hr
  ·rw [endL_11 hu hv] at hr ⊢
   rw [List.append_assoc]
   refine gap_put l pre ((⟨0, ⟨#[]⟩, v⟩ : IP) :: suf) u hu at_ h h inn hin (by omega) hh2 _ hk ?_
   rw [elo]
   refine gap_drop l (pre ++ [(⟨0, u, ⟨#[]⟩⟩ : IP)]) suf v at_ _ _ inn hin (by rw [List.length_append, List.length_singleton]; omega) hh ?_
   have em : (pre ++ [(⟨0, u, ⟨#[]⟩⟩ : IP)]) ++ [(⟨0, ⟨#[]⟩, v⟩ : IP)] = pre ++ List.map ofP [(0, u, (⟨#[]⟩ : ByteArray)), (0, ⟨#[]⟩, v)] := by rw [List.append_assoc]; rfl
   rw [em]
   exact hr
theorem endL_map_len (u v : ByteArray) : ((endL u v).map ofP).length ≤ 2 := by rw [List.length_map]; exact endL_len u v
theorem seg_suf (g : List Seg) (a b : ByteArray) (s : Seg) : (flatS (s :: g) ++ endL a b).map ofP = (endL s.1 s.2.1).map ofP ++ ((⟨s.2.2, ⟨#[]⟩, ⟨#[]⟩⟩ : IP) :: (flatS g ++ endL a b).map ofP) := by
 rw [flatS_cons, List.append_assoc, List.map_append, List.cons_append, List.map_cons]; rfl
/-- Behind the place nothing counts. -/
theorem far (l : List IP) (a b : ByteArray) (ha : a.size ≤ 20000) (hb : b.size ≤ 20000) (at_ : Int) (af : Bool) : ∀ (g : List Seg), (∀ x ∈ g, SegOk 60 x) → ∀ (pre : List IP) (h inn : Int), pre.length + 3 * g.length ≤ 10000 → 0 ≤ inn → inn ≤ 1000000 → 0 ≤ h → h ≤ 900000000 → at_ < inn →
  Ev (fun k => impl_movePlace.l0 k (pre ++ (flatS g ++ endL a b).map ofP) at_ af h inn (pre.length : Int)) h
 | [], hg, pre, h, inn, hl, h0, h1, h2, h3, h4 => by
  have em : pre ++ (flatS [] ++ endL a b).map ofP = (pre ++ (endL a b).map ofP) ++ [] := by rw [List.append_nil]; rfl
  rw [em]
  refine mv_group pre [] a b at_ h inn af (.inl rfl) (by omega) ⟨h0, by omega⟩ ⟨h2, by omega⟩ ?_
  rw [if_neg (by rintro (q | q) <;> omega)]
  have := endL_map_len a b
  exact mv_end _ at_ h _ af _ (by rw [List.append_nil]; exact Nat.le_refl _) (by rw [List.length_append]; simp at hl; omega)
 | s :: g, hg, pre, h, inn, hl, h0, h1, h2, h3, h4 => by
  obtain ⟨o1, o2, o3, o4, o5⟩ := hg s (List.mem_cons_self ..)
  rw [seg_suf, ← List.append_assoc]
  refine mv_group pre _ s.1 s.2.1 at_ h inn af (.inr ⟨_, _, rfl⟩) (by omega) ⟨h0, by omega⟩ ⟨h2, by omega⟩ ?_
  rw [if_neg (by rintro (q | q) <;> omega)]
  exact mv_stop _ _ s.2.2 o4 at_ h _ af (by omega)
theorem gap_far (l X : List IP) (at_ h inn : Int) (n : Nat) (hn : n ≤ X.length) (hx : X.length ≤ 1000000) (h4 : at_ < inn) : Ev (fun k => spec_l5Gap.l0 k l at_ h h inn X (X.length : Int) (n : Int)) (h, h) := by
 by_cases c : n = X.length
 ·exact gap_end l X at_ h h inn n (by omega) (by omega)
 ·have e : X = X.take n ++ gt izP X n :: X.drop (n + 1) := by rw [← gt_drop izP X n (by omega), List.take_append_drop]
  have el : (X.take n).length = n := by rw [List.length_take]; omega
  have := gap_break l (X.take n) (X.drop (n + 1)) (gt izP X n) at_ h h inn (.inl h4)
  rw [← e, el] at this
  exact this
/-- Where a place lies behind a normal change: the low and the high place. -/
def gapS : List Seg → ByteArray → Nat → Int → Nat → Int × Int
 | [], a, _, h, _ => (h, h + a.size)
 | s :: g, a, at_, h, inn =>
  if inn + s.2.1.size < at_ then
   (if inn + s.2.1.size + s.2.2.toNat ≤ at_ then gapS g a at_ (h + s.1.size + s.2.2) (inn + s.2.1.size + s.2.2.toNat)
   else (h + s.1.size + ((at_ : Int) - ((inn : Int) + s.2.1.size)), h + s.1.size + ((at_ : Int) - ((inn : Int) + s.2.1.size))))
  else (h, h + s.1.size)
theorem move_all (l : List IP) (hl : l.length ≤ 60) (hp : ∀ p ∈ l, partB p = true) (a b : ByteArray) (ha : a.size ≤ 20000) (hb : b.size ≤ 20000) (nb : NZ b) (at_ : Nat) (hat : at_ ≤ (dropL l).length) : ∀ (g : List Seg), (∀ x ∈ g, SegOk 60 x) → ∀ (pre : List IP) (h : Int) (inn : Nat), pre.length + 3 * g.length ≤ 1000 → inn ≤ at_ → 0 ≤ h → h ≤ 20000 * (pre.length : Int) + inn → (dropL l).drop inn = byteS g ++ bytesOf b →
  ∃ lo hi : Int, (lo, hi) = gapS g a at_ h inn ∧ Ev (fun k => spec_l5Gap.l0 k l (at_ : Int) h h (inn : Int) (pre ++ (flatS g ++ endL a b).map ofP) ((pre ++ (flatS g ++ endL a b).map ofP).length : Int) (pre.length : Int)) (lo, hi) ∧
   ∀ af : Bool, Ev (fun k => impl_movePlace.l0 k (pre ++ (flatS g ++ endL a b).map ofP) (at_ : Int) af h (inn : Int) (pre.length : Int)) (if af = true then hi else lo)
 | [], hg, pre, h, inn, hlen, hin, h0, h1, hB => by
  have hBl := dropL_len l hp
  have em : pre ++ (flatS [] ++ endL a b).map ofP = (pre ++ (endL a b).map ofP) ++ [] := by rw [List.append_nil]; rfl
  have hpl : pre.length ≤ 1000 := by simp at hlen; omega
  have e2 := endL_map_len a b
  have hsz : (dropL l).length = inn + b.size := by
   have := congrArg List.length hB
   rw [List.length_drop] at this
   simp only [byteS, List.flatMap_nil, List.nil_append, bytesOf_length] at this
   omega
  have hz : ∀ i, inn ≤ i → i < inn + b.size → gt 0 (dropL l) i ≠ 0 := fun i i1 i2 => by
   have : gt 0 (dropL l) i ∈ bytesOf b := by
    have e : gt 0 (dropL l) i = gt 0 ((dropL l).drop inn) (i - inn) := by unfold gt; rw [List.getD_eq_getElem?_getD, List.getD_eq_getElem?_getD, List.getElem?_drop]; congr 2; omega
    rw [e, hB]
    exact gt_mem 0 _ _ (by rw [bytesOf_length]; omega)
   exact nb _ this
  rw [em]
  refine ⟨h, h + a.size, rfl, ?_, fun af => ?_⟩
  ·have := gap_group l pre [] a b (at_ : Int) h (inn : Int) (by omega) (by omega) ⟨by omega, by omega⟩ ⟨h0, by omega⟩ (fun c => by
    have := kept_f l hl hp inn (inn + b.size) at_ (by omega) hin hat hz (fun q => by omega)
    rw [show (decide (inn + b.size < at_)) = decide ((inn : Int) + (b.size : Int) < (at_ : Int)) from decide_eq_decide.2 (by omega)] at this
    exact this) (r := (h, h + a.size)) (by
     rw [if_neg (by omega)]
     exact gap_end l _ _ _ _ _ _ (by rw [List.append_nil]; exact Nat.le_refl _) (by rw [List.length_append]; omega))
   exact this
  ·refine mv_group pre [] a b (at_ : Int) h (inn : Int) af (.inl rfl) (by omega) ⟨by omega, by omega⟩ ⟨h0, by omega⟩ ?_
   have : (if (at_ : Int) > (inn : Int) + (b.size : Int) ∨ ((at_ : Int) ≥ (inn : Int) ∧ af = true) then h + (a.size : Int) else h) = (if af = true then h + (a.size : Int) else h) := by
    cases af with
    | true => rw [if_pos (.inr ⟨by omega, rfl⟩), if_pos rfl]
    | false => rw [if_neg (by rintro (q | q); omega; exact absurd q.2 (by simp)), if_neg (by simp)]
   rw [this]
   exact mv_end _ _ _ _ af _ (by rw [List.append_nil]; exact Nat.le_refl _) (by rw [List.length_append]; omega)
 | s :: g, hg, pre, h, inn, hlen, hin, h0, h1, hB => by
  have hBl := dropL_len l hp
  obtain ⟨o1, o2, o3, o4, o5⟩ := hg s (List.mem_cons_self ..)
  obtain ⟨u, v, x⟩ := s
  simp only at o1 o2 o3 o4 o5 hB
  have hpl : pre.length + 3 * g.length + 3 ≤ 1000 := by simp at hlen; omega
  have e2 := endL_map_len u v
  obtain ⟨xn, rfl⟩ := Int.eq_ofNat_of_zero_le (show 0 ≤ x by omega)
  rw [byteS_cons] at hB
  simp only [Int.toNat_natCast] at hB
  rw [List.append_assoc, List.append_assoc] at hB
  have hsz : (dropL l).length ≥ inn + v.size + xn := by
   have := congrArg List.length hB
   rw [List.length_drop] at this
   simp only [List.length_append, List.length_replicate, bytesOf_length] at this
   omega
  have e : ∀ i, inn ≤ i → gt 0 (dropL l) i = gt 0 (bytesOf v ++ (List.replicate xn 0 ++ (byteS g ++ bytesOf b))) (i - inn) := fun i hi => by
   rw [← hB]; unfold gt; rw [List.getD_eq_getElem?_getD, List.getD_eq_getElem?_getD, List.getElem?_drop]; congr 2; omega
  have hz : ∀ i, inn ≤ i → i < inn + v.size → gt 0 (dropL l) i ≠ 0 := fun i i1 i2 => by
   have : gt 0 (dropL l) i ∈ bytesOf v := by
    rw [e i i1, gt_app_lz _ _ _ _ (by rw [bytesOf_length]; omega)]
    exact gt_mem 0 _ _ (by rw [bytesOf_length]; omega)
   exact o3 _ this
  have hk0 : gt 0 (dropL l) (inn + v.size) = 0 := by
   rw [e _ (by omega), show inn + v.size - inn = (bytesOf v).length by rw [bytesOf_length]; omega]
   unfold gt
   rw [List.getD_eq_getElem?_getD, List.getElem?_append_right (Nat.le_refl _), Nat.sub_self, List.getElem?_append_left (by rw [List.length_replicate]; omega), List.getElem?_replicate]
   rw [if_pos (by omega)]; rfl
  have kept : (inn : Int) < (at_ : Int) → Ev (fun k => spec_l5Kept.f k l (inn : Int) (at_ : Int)) (decide ((inn : Int) + (v.size : Int) < (at_ : Int))) := fun c => by
   have := kept_f l hl hp inn (inn + v.size) at_ (by omega) hin hat hz (fun _ => hk0)
   rw [show (decide (inn + v.size < at_)) = decide ((inn : Int) + (v.size : Int) < (at_ : Int)) from decide_eq_decide.2 (by omega)] at this
   exact this
  rw [seg_suf, ← List.append_assoc]
  simp only
  have hpre : (pre ++ (endL u v).map ofP).length ≤ pre.length + 2 := by rw [List.length_append]; omega
  by_cases hc : (inn : Int) + (v.size : Int) < (at_ : Int)
  ·-- the keep counts
   have hout : ∀ af : Bool, (if (at_ : Int) > (inn : Int) + (v.size : Int) ∨ ((at_ : Int) ≥ (inn : Int) ∧ af = true) then h + (u.size : Int) else h) = h + u.size := fun af => by rw [if_pos (.inl hc)]
   have hstep : ∀ n : Int, n = (if (inn : Int) + (v.size : Int) + (xn : Int) > (at_ : Int) then (at_ : Int) - ((inn : Int) + (v.size : Int)) else (xn : Int)) → 0 ≤ n ∧ n ≤ xn := fun n hn => by
    rw [hn]; split <;> omega
   generalize hn : (if (inn : Int) + (v.size : Int) + (xn : Int) > (at_ : Int) then (at_ : Int) - ((inn : Int) + (v.size : Int)) else (xn : Int)) = n at hstep
   obtain ⟨n0, n1⟩ := hstep n rfl
   by_cases hf : inn + v.size + xn ≤ at_
   ·obtain ⟨lo, hi, r0, r1, r2⟩ := move_all l hl hp a b ha hb nb at_ hat g (fun y hy => hg y (List.mem_cons_of_mem _ hy)) ((pre ++ (endL u v).map ofP) ++ [⟨(xn : Int), ⟨#[]⟩, ⟨#[]⟩⟩]) (h + u.size + n) (inn + v.size + xn)
     (by rw [List.length_append, List.length_singleton]; omega) hf (by omega) (by rw [List.length_append, List.length_singleton, List.length_append]; omega) (by
      rw [show inn + v.size + xn = inn + (v.size + xn) by omega, ← List.drop_drop, hB]
      rw [← List.append_assoc, List.drop_append_of_le_length (by rw [List.length_append, List.length_replicate, bytesOf_length]; exact Nat.le_refl _), List.drop_eq_nil_of_le (by rw [List.length_append, List.length_replicate, bytesOf_length]; exact Nat.le_refl _)]
      rfl)
    have en : n = (xn : Int) := by rw [← hn, if_neg (by omega)]
    refine ⟨lo, hi, by rw [gapS, if_pos (show inn + v.size < at_ by omega), if_pos (show inn + v.size + ((xn : Nat) : Int).toNat ≤ at_ by rw [Int.toNat_natCast]; exact hf), Int.toNat_natCast, r0, en], ?_, fun af => ?_⟩
    ·refine gap_group l pre _ u v (at_ : Int) h (inn : Int) (by omega) (by omega) ⟨by omega, by omega⟩ ⟨h0, by omega⟩ kept ?_
     rw [if_pos hc]
     refine gap_keep l _ _ (xn : Int) (by omega) (at_ : Int) _ _ _ hc (by omega) ⟨by omega, by omega⟩ ⟨by omega, by omega⟩ (by omega) ?_
     rw [hn]
     have e5 : (inn : Int) + (v.size : Int) + (xn : Int) = ((inn + v.size + xn : Nat) : Int) := by omega
     rw [e5]
     exact r1
    ·refine mv_group pre _ u v (at_ : Int) h (inn : Int) af (.inr ⟨_, _, rfl⟩) (by omega) ⟨by omega, by omega⟩ ⟨h0, by omega⟩ ?_
     rw [hout af]
     refine mv_keep _ _ (xn : Int) (by omega) (at_ : Int) _ _ af hc (by omega) ⟨by omega, by omega⟩ ⟨by omega, by omega⟩ (by omega) ?_
     rw [hn]
     have e5 : (inn : Int) + (v.size : Int) + (xn : Int) = ((inn + v.size + xn : Nat) : Int) := by omega
     rw [e5]
     exact r2 af
   ·have en : n = (at_ : Int) - ((inn : Int) + (v.size : Int)) := by rw [← hn, if_pos (by omega)]
    refine ⟨h + u.size + n, h + u.size + n, by rw [gapS, if_pos (show inn + v.size < at_ by omega), if_neg (show ¬ inn + v.size + ((xn : Nat) : Int).toNat ≤ at_ by rw [Int.toNat_natCast]; exact hf), en], ?_, fun af => ?_⟩
    ·refine gap_group l pre _ u v (at_ : Int) h (inn : Int) (by omega) (by omega) ⟨by omega, by omega⟩ ⟨h0, by omega⟩ kept ?_
     rw [if_pos hc]
     refine gap_keep l _ _ (xn : Int) (by omega) (at_ : Int) _ _ _ hc (by omega) ⟨by omega, by omega⟩ ⟨by omega, by omega⟩ (by omega) ?_
     rw [hn]
     have hX := endL_map_len a b
     refine gap_far l _ (at_ : Int) _ _ _ (by simp only [List.length_append]; omega) ?_ (by omega)
     simp only [List.length_append, List.length_map, List.length_singleton]
     have hfl : ∀ g : List Seg, (flatS g).length ≤ 3 * g.length := fun g => by
      induction g with
      | nil => exact Nat.le_refl _
      | cons y t iht => rw [flatS_cons, List.length_append, List.length_cons, List.length_cons]; have := endL_len y.1 y.2.1; omega
     have := hfl g
     have := endL_len a b
     have := endL_len u v
     omega
    ·refine mv_group pre _ u v (at_ : Int) h (inn : Int) af (.inr ⟨_, _, rfl⟩) (by omega) ⟨by omega, by omega⟩ ⟨h0, by omega⟩ ?_
     rw [hout af]
     refine mv_keep _ _ (xn : Int) (by omega) (at_ : Int) _ _ af hc (by omega) ⟨by omega, by omega⟩ ⟨by omega, by omega⟩ (by omega) ?_
     rw [hn]
     have : (if af = true then h + (u.size : Int) + n else h + (u.size : Int) + n) = h + (u.size : Int) + n := by split <;> rfl
     rw [this]
     exact far l a b ha hb (at_ : Int) af g (fun y hy => hg y (List.mem_cons_of_mem _ hy)) _ _ _ (by rw [List.length_append, List.length_singleton]; omega) (by omega) (by omega) (by omega) (by omega) (by omega)
  ·-- the place lies within what is dropped, or right at its end
   refine ⟨h, h + u.size, by rw [gapS, if_neg (show ¬ inn + v.size < at_ by omega)], ?_, fun af => ?_⟩
   ·refine gap_group l pre _ u v (at_ : Int) h (inn : Int) (by omega) (by omega) ⟨by omega, by omega⟩ ⟨h0, by omega⟩ kept ?_
    rw [if_neg hc]
    exact gap_break l _ _ ⟨(xn : Int), ⟨#[]⟩, ⟨#[]⟩⟩ (at_ : Int) h (h + u.size) _ (by
     by_cases q : (inn : Int) + (v.size : Int) > (at_ : Int)
     ·exact .inl q
     ·exact .inr ⟨by omega, by show (xn : Int) > 0; omega⟩)
   ·refine mv_group pre _ u v (at_ : Int) h (inn : Int) af (.inr ⟨_, _, rfl⟩) (by omega) ⟨by omega, by omega⟩ ⟨h0, by omega⟩ ?_
    have : (if (at_ : Int) > (inn : Int) + (v.size : Int) ∨ ((at_ : Int) ≥ (inn : Int) ∧ af = true) then h + (u.size : Int) else h) = (if af = true then h + (u.size : Int) else h) := by
     cases af with
     | true => rw [if_pos (.inr ⟨by omega, rfl⟩), if_pos rfl]
     | false => rw [if_neg (by rintro (q | q); omega; exact absurd q.2 (by simp)), if_neg (by simp)]
    rw [this]
    exact mv_stop _ _ (xn : Int) (by omega) (at_ : Int) _ _ af (by omega)
theorem tk_drop : ∀ (l : List IP), (∀ p ∈ l, partB p = true) → ∀ a : Int, 0 ≤ a → a + 600 * (l.length : Int) ≤ 1000000 → tkS l a = a + ((dropL l).length : Int)
 | [], _, a, _, _ => by simp [tkS, dropL]
 | p :: r, hp, a, h0, h1 => by
  obtain ⟨f1, f2, f3, f4, f5⟩ := part_facts (hp p (List.mem_cons_self ..))
  have hl : ((p :: r).length : Int) = (r.length : Int) + 1 := by simp
  have e1 : wrap64 (p.f0 + (p.f2.size : Int)) = p.f0 + p.f2.size := wrap_id (by omega) (by omega)
  have e2 : wrap64 (a + (p.f0 + (p.f2.size : Int))) = a + (p.f0 + p.f2.size) := wrap_id (by omega) (by omega)
  have ih := tk_drop r (fun x hx => hp x (List.mem_cons_of_mem _ hx)) (a + (p.f0 + p.f2.size)) (by omega) (by omega)
  rw [tkS, e1, e2, ih, dropL, List.length_append, List.length_append, List.length_replicate, bytesOf_length]
  omega

theorem gap_low : ∀ (g : List Seg), (∀ x ∈ g, SegOk 60 x) → ∀ (a : ByteArray) (at_ : Nat) (h : Int) (inn : Nat), h ≤ (gapS g a at_ h inn).1 ∧ (gapS g a at_ h inn).1 ≤ (gapS g a at_ h inn).2
 | [], _, a, at_, h, inn => by unfold gapS; dsimp only; omega
 | s :: g, hg, a, at_, h, inn => by
  have hx := (hg s (List.mem_cons_self ..)).pos
  have ih := gap_low g (fun x hx => hg x (List.mem_cons_of_mem _ hx)) a at_ (h + s.1.size + s.2.2) (inn + s.2.1.size + s.2.2.toNat)
  unfold gapS
  split
  ·split
   ·omega
   ·dsimp only; omega
  ·dsimp only; omega
theorem gap_mono : ∀ (g : List Seg), (∀ x ∈ g, SegOk 60 x) → ∀ (a : ByteArray) (p q : Nat) (h : Int) (inn : Nat), p ≤ q → (gapS g a p h inn).1 ≤ (gapS g a q h inn).1 ∧ (gapS g a p h inn).2 ≤ (gapS g a q h inn).2
 | [], _, a, p, q, h, inn, _ => by unfold gapS; dsimp only; omega
 | s :: g, hg, a, p, q, h, inn, hpq => by
  have hx := (hg s (List.mem_cons_self ..)).pos
  have ih := gap_mono g (fun x hx => hg x (List.mem_cons_of_mem _ hx)) a p q (h + s.1.size + s.2.2) (inn + s.2.1.size + s.2.2.toNat) hpq
  have lo := gap_low g (fun x hx => hg x (List.mem_cons_of_mem _ hx)) a q (h + s.1.size + s.2.2) (inn + s.2.1.size + s.2.2.toNat)
  have ep : gapS (s :: g) a p h inn = if inn + s.2.1.size < p then (if inn + s.2.1.size + s.2.2.toNat ≤ p then gapS g a p (h + s.1.size + s.2.2) (inn + s.2.1.size + s.2.2.toNat) else (h + s.1.size + ((p : Int) - ((inn : Int) + s.2.1.size)), h + s.1.size + ((p : Int) - ((inn : Int) + s.2.1.size)))) else (h, h + s.1.size) := rfl
  have eq : gapS (s :: g) a q h inn = if inn + s.2.1.size < q then (if inn + s.2.1.size + s.2.2.toNat ≤ q then gapS g a q (h + s.1.size + s.2.2) (inn + s.2.1.size + s.2.2.toNat) else (h + s.1.size + ((q : Int) - ((inn : Int) + s.2.1.size)), h + s.1.size + ((q : Int) - ((inn : Int) + s.2.1.size)))) else (h, h + s.1.size) := rfl
  rw [ep, eq]
  by_cases c1 : inn + s.2.1.size < p
  ·rw [if_pos c1, if_pos (show inn + s.2.1.size < q by omega)]
   by_cases c2 : inn + s.2.1.size + s.2.2.toNat ≤ p
   ·rw [if_pos c2, if_pos (show inn + s.2.1.size + s.2.2.toNat ≤ q by omega)]; exact ih
   ·rw [if_neg c2]
    by_cases c3 : inn + s.2.1.size + s.2.2.toNat ≤ q
    ·rw [if_pos c3]; dsimp only; omega
    ·rw [if_neg c3]; dsimp only; omega
  ·rw [if_neg c1]
   by_cases d1 : inn + s.2.1.size < q
   ·rw [if_pos d1]
    by_cases c3 : inn + s.2.1.size + s.2.2.toNat ≤ q
    ·rw [if_pos c3]; dsimp only; omega
    ·rw [if_neg c3]; dsimp only; omega
   ·rw [if_neg d1]; dsimp only; omega
theorem gap_first (g : List Seg) (a : ByteArray) (h : Int) : (gapS g a 0 h 0).1 = h := by
 cases g with
 | nil => rfl
 | cons s g => unfold gapS; rw [if_neg (by omega)]
def outS : List Seg → Int
 | [] => 0
 | s :: g => s.1.size + s.2.2 + outS g
theorem gap_last : ∀ (g : List Seg), (∀ x ∈ g, SegOk 60 x) → ∀ (a : ByteArray) (p : Nat) (h : Int) (inn : Nat), inn + (byteS g).length ≤ p → (gapS g a p h inn).2 = h + outS g + a.size
 | [], _, a, p, h, inn, _ => by unfold gapS outS; dsimp only; omega
 | s :: g, hg, a, p, h, inn, hp => by
  have hx := (hg s (List.mem_cons_self ..)).pos
  rw [byteS_cons, List.length_append, List.length_append, bytesOf_length, List.length_replicate] at hp
  have ih := gap_last g (fun x hx => hg x (List.mem_cons_of_mem _ hx)) a p (h + s.1.size + s.2.2) (inn + s.2.1.size + s.2.2.toNat) (by omega)
  unfold gapS outS
  rw [if_pos (by omega), if_pos (by omega), ih]
  omega
/-- What a change makes, in bytes. -/
def madeP : List Pt → Int
 | [] => 0
 | q :: r => q.1 + q.2.1.size + madeP r
theorem madeP_app : ∀ a b : List Pt, madeP (a ++ b) = madeP a + madeP b
 | [], b => by rw [List.nil_append, madeP]; omega
 | q :: r, b => by rw [List.cons_append, madeP, madeP, madeP_app r b]; omega
theorem madeP_endL (a b : ByteArray) : madeP (endL a b) = a.size := by
 by_cases ha : a.size = 0
 ·by_cases hb : b.size = 0
  ·rw [endL_00 ha hb]; rw [ha]; rfl
  ·rw [endL_01 ha hb, ha]; rfl
 ·by_cases hb : b.size = 0
  ·rw [endL_10 ha hb]; show (0 : Int) + a.size + 0 = _; omega
  ·rw [endL_11 ha hb]; show (0 : Int) + a.size + ((0 : Int) + ((0 : Nat) : Int) + 0) = _; omega
theorem madeP_one (x : Int) : madeP [(x, (⟨#[]⟩ : ByteArray), (⟨#[]⟩ : ByteArray))] = x := by show x + ((0 : Nat) : Int) + 0 = x; omega
theorem madeP_flat : ∀ g : List Seg, madeP (flatS g) = outS g
 | [] => rfl
 | s :: g => by
  have e : flatS (s :: g) = endL s.1 s.2.1 ++ ([(s.2.2, (⟨#[]⟩ : ByteArray), (⟨#[]⟩ : ByteArray))] ++ flatS g) := flatS_cons s g
  rw [e, madeP_app, madeP_app, madeP_endL, madeP_one, madeP_flat g, outS]; omega
theorem made_step (n : Nat) (l : List IP) (s : List Pt × ByteArray × ByteArray) (g : List Seg) (p : IP) (hn : n ≤ 1000) (h : SegIs n l s g) (hp : One p) :
  madeP (takeP s (toP p)).1 + ((takeP s (toP p)).2.1.size : Int) = madeP s.1 + (s.2.1.size : Int) + (p.f0 + (p.f1.size : Int)) := by
 obtain ⟨L, a, b⟩ := s
 obtain ⟨p0, p1, p2⟩ := p
 obtain ⟨s1, s2, s3, s4, s5, s6, s7⟩ := h
 obtain ⟨q1, q2, q3, q4, q5, q6⟩ := hp
 simp only at s1 s2 s3 s4 s5 s6 s7 q1 q2 q3 q4 q5 q6
 by_cases h0 : p0 = 0
 ·subst h0
  have et : takeP (L, a, b) (toP ⟨0, p1, p2⟩) = (L, a ++ p1, b ++ p2) := rfl
  rw [et]
  dsimp only
  rw [ba_len_app]; omega
 ·obtain ⟨h1, h2⟩ := q5.resolve_left h0
  have hk : keepS L a b p0 = (keepA (L ++ endL a b) p0, ⟨#[]⟩, ⟨#[]⟩) := by unfold keepS; rw [if_neg h0]
  have et : takeP (L, a, b) (toP ⟨p0, p1, p2⟩) = (keepA (L ++ endL a b) p0, ⟨#[]⟩, ⟨#[]⟩) := by
   unfold takeP toP
   simp only [hk]
   rw [ba_nil h1, ba_nil h2, ba_app]
  rw [et]
  dsimp only
  have z0 : (((⟨#[]⟩ : ByteArray).size : Nat) : Int) = 0 := rfl
  rw [z0, h1]
  by_cases hab : a.size = 0 ∧ b.size = 0
  ·obtain ⟨ha, hb⟩ := hab
   have eL : L ++ endL a b = flatS g := by rw [endL_00 ha hb, List.append_nil, s1]
   rw [eL, s1, ha]
   rcases List.eq_nil_or_concat g with e | ⟨g0, s0, e⟩
   ·subst e
    show p0 + ((0 : Nat) : Int) + 0 + 0 = (0 : Int) + ((0 : Nat) : Int) + (p0 + ((0 : Nat) : Int)); omega
   ·subst e
    obtain ⟨u0, v0, k0⟩ := s0
    have o0 := s2 (u0, v0, k0) (by simp)
    have ek : wrap64 (k0 + p0) = k0 + p0 := by have := o0.pos; have := o0.top; simp only at *; exact wrap_id (by omega) (by omega)
    have e9 : flatS (g0.concat (u0, v0, k0)) = (flatS g0 ++ endL u0 v0) ++ [(k0, (⟨#[]⟩ : ByteArray), (⟨#[]⟩ : ByteArray))] := by
     rw [List.concat_eq_append, flatS_app, flatS_cons, List.append_assoc]; rfl
    rw [e9, keepA_app, if_pos o0.pos, ek, madeP_app, madeP_app, madeP_one]
    rw [madeP_app, madeP_app, madeP_one]; omega
  ·rw [keepA_end L a b p0 (by omega), madeP_app, madeP_app, madeP_endL, madeP_one]; omega
def madeI : List IP → Int
 | [] => 0
 | p :: r => p.f0 + p.f1.size + madeI r
theorem madeI_app : ∀ a b : List IP, madeI (a ++ b) = madeI a + madeI b
 | [], b => by rw [List.nil_append, madeI]; omega
 | q :: r, b => by rw [List.cons_append, madeI, madeI, madeI_app r b]; omega
theorem made_all (l : List IP) (hl : l.length ≤ 60) (hp : ∀ p ∈ l, partB p = true) : ∀ i, i ≤ l.length → madeP (stN l i).1 + ((stN l i).2.1.size : Int) = madeI (l.take i)
 | 0, _ => by
  have e0 : stN l 0 = ([], (⟨#[]⟩ : ByteArray), (⟨#[]⟩ : ByteArray)) := rfl
  rw [e0]; rfl
 | i + 1, h => by
  obtain ⟨g, hg⟩ := seg_all l hl hp i (by omega)
  have hm := hp _ (List.getElem_mem (show i < l.length by omega))
  have ih := made_all l hl hp i (by omega)
  have := made_step i (l.take i) (stN l i) g (l[i]'(by omega)) (by omega) hg (part_one hm)
  rw [stN_succ l i (by omega), List.take_succ_eq_append_getElem (by omega), madeI_app, this, ih]
  show _ = madeI (l.take i) + (_ + _ + 0)
  omega
theorem norm_made (l : List IP) (hl : l.length ≤ 60) (hp : ∀ p ∈ l, partB p = true) : madeI (normI l) = madeI l := by
 have h := made_all l hl hp l.length (Nat.le_refl _)
 have e : stN l l.length = (l.map toP).foldl takeP ([], ⟨#[]⟩, ⟨#[]⟩) := by unfold stN; rw [List.take_of_length_le (Nat.le_refl _)]
 rw [List.take_of_length_le (Nat.le_refl _)] at h
 have hm : ∀ L : List Pt, madeI (L.map ofP) = madeP L := fun L => by
  induction L with
  | nil => rfl
  | cons q r ih => rw [List.map_cons, madeI, madeP, ih]; rfl
 unfold normI normP
 rw [← e, hm, madeP_app, madeP_endL]; exact h
theorem mk_made : ∀ (l : List IP), (∀ p ∈ l, partB p = true) → ∀ a : Int, 0 ≤ a → a + 600 * (l.length : Int) ≤ 1000000 → mkS l a = a + madeI l
 | [], _, a, _, _ => by rw [mkS, madeI]; omega
 | p :: r, hp, a, h0, h1 => by
  obtain ⟨f1, f2, f3, f4, f5⟩ := part_facts (hp p (List.mem_cons_self ..))
  have hl : ((p :: r).length : Int) = (r.length : Int) + 1 := by simp
  have e1 : wrap64 (p.f0 + (p.f1.size : Int)) = p.f0 + p.f1.size := wrap_id (by omega) (by omega)
  have e2 : wrap64 (a + (p.f0 + (p.f1.size : Int))) = a + (p.f0 + p.f1.size) := wrap_id (by omega) (by omega)
  have ih := mk_made r (fun x hx => hp x (List.mem_cons_of_mem _ hx)) (a + (p.f0 + p.f1.size)) (by omega) (by omega)
  rw [mkS, e1, e2, ih, madeI]; omega
/-- The two places, for every place at once. -/
structure Mov (l : List IP) (g : List Seg) (a b : ByteArray) : Prop where
 norm : normI l = (flatS g ++ endL a b).map ofP
 ok : ∀ x ∈ g, SegOk 60 x
 put : a.size ≤ 18000
 drop : b.size ≤ 18000
 len : g.length ≤ 60
 bytes : byteS g ++ bytesOf b = dropL l
 size : (dropL l).length ≤ 300
 took : tkS l 0 = ((dropL l).length : Int)
 made : mkS l 0 = outS g + a.size
 both : ∀ (p : Nat) (af : Bool), p ≤ (dropL l).length → Ev (fun k => spec_MovePlace.f k l (p : Int) af) ((if af = true then (gapS g a p 0 0).2 else (gapS g a p 0 0).1), true) ∧ Ev (fun k => impl_MovePlace.f k l (p : Int) af) ((if af = true then (gapS g a p 0 0).2 else (gapS g a p 0 0).1), true)
theorem Mov_of (l : List IP) (hw : ∀ x ∈ l, x.f1.size ≤ 1048576 ∧ x.f2.size ≤ 1048576) (hg : goodO l = true) : ∃ g a b, Mov l g a b := by
 obtain ⟨hl, hp, ht, hm⟩ := goodO_facts hg
 have hB := dropL_len l hp
 have etk := tk_drop l hp 0 (Int.le_refl _) (by omega)
 rw [Int.zero_add] at etk
 obtain ⟨g, u, v, e, s1, s2, s3, s4, s5, s6⟩ := norm_segs l hl hp
 have hone : ∀ p ∈ l, One p := fun p h => part_one (hp p h)
 have em : mkS l 0 = outS g + u.size := by
  have hm : ∀ L : List Pt, madeI (L.map ofP) = madeP L := fun L => by
   induction L with
   | nil => rfl
   | cons q r ih => rw [List.map_cons, madeI, madeP, ih]; rfl
  rw [mk_made l hp 0 (Int.le_refl _) (by omega), ← norm_made l hl hp, e, hm, madeP_app, madeP_endL, madeP_flat]; omega
 refine ⟨g, u, v, e, s1, s2, s3, s6, s5, by omega, etk, em, fun an af han => ?_⟩
 obtain ⟨lo, hi, r0, r1, r2⟩ := move_all l hl hp u v (by omega) (by omega) s4 an (by omega) g s1 [] 0 0 (by simp; omega) (Nat.zero_le _) (Int.le_refl _) (by simp) (by rw [List.drop_zero]; exact s5.symm)
 have e1 : (gapS g u an 0 0).1 = lo := by rw [← r0]
 have e2 : (gapS g u an 0 0).2 = hi := by rw [← r0]
 rw [e1, e2]
 rw [List.nil_append, ← e] at r1
 constructor
 ·unfold spec_MovePlace.f
  refine Ev.bind (spec_GoodOp_f l hw) (ev_pos hg (Ev.bind (spec_l3Sizes_f l (by omega)) (ev_eq (spec_l1In_f _ _ _) (ev_pos (decide_eq_true (show 0 ≤ (an : Int) ∧ (an : Int) ≤ tkS l 0 by omega)) (Ev.bind (a := (lo, hi)) ?_ ?_)))))
  ·unfold spec_l5Gap.f
   exact Ev.bind (spec_l3Normal_f l hl hone) r1
  ·exact ev_if (fun c => ev_ret (by rw [if_pos c])) (fun c => ev_ret (by rw [if_neg c]))
 ·unfold impl_MovePlace.f impl_SizesOf.f
  have hsz : Ev (fun k => (impl_GoodOp.f k l).bind fun t => if t = true then (impl_sizes.f k l).bind fun b => some (b.1, b.2, true) else some (0, 0, false)) (tkS l 0, mkS l 0, true) := Ev.bind (impl_GoodOp_f l hw) (ev_pos hg (Ev.bind (impl_sizes_f l (by omega)) (ev_ret rfl)))
  refine Ev.bind hsz (ev_pos rfl (ev_neg (by omega) ?_))
  rw [decide_eq_false (by show ¬ (an : Int) > tkS l 0; omega)]
  refine Ev.step (fun k => by rw [impl_MovePlace.j0]) ?_
  refine ev_neg (by simp) (ev_eq (impl_normal_f l hl hone) (Ev.bind (a := if af = true then hi else lo) ?_ (ev_ret rfl)))
  unfold impl_movePlace.f
  have := r2 af
  rw [List.nil_append, ← e] at this
  exact this
theorem Move_no (l : List IP) (hw : ∀ x ∈ l, x.f1.size ≤ 1048576 ∧ x.f2.size ≤ 1048576) (a : Int) (af : Bool) (hno : ¬ (goodO l = true ∧ 0 ≤ a ∧ a ≤ tkS l 0)) : Ev (fun k => spec_MovePlace.f k l a af) (0, false) ∧ Ev (fun k => impl_MovePlace.f k l a af) (0, false) := by
 have hn : Ev (fun k => impl_MovePlace.j0 k l a af true) (0, false) := by
  refine Ev.step (fun k => by rw [impl_MovePlace.j0]) ?_
  exact ev_pos rfl (ev_ret rfl)
 unfold spec_MovePlace.f impl_MovePlace.f impl_SizesOf.f
 by_cases hg : goodO l = true
 ·obtain ⟨hl, hp, ht, hm⟩ := goodO_facts hg
  have hsz : Ev (fun k => (impl_GoodOp.f k l).bind fun t => if t = true then (impl_sizes.f k l).bind fun b => some (b.1, b.2, true) else some (0, 0, false)) (tkS l 0, mkS l 0, true) := Ev.bind (impl_GoodOp_f l hw) (ev_pos hg (Ev.bind (impl_sizes_f l (by omega)) (ev_ret rfl)))
  have ha : ¬ (0 ≤ a ∧ a ≤ tkS l 0) := fun c => hno ⟨hg, c⟩
  refine ⟨Ev.bind (spec_GoodOp_f l hw) (ev_pos hg (Ev.bind (spec_l3Sizes_f l (by omega)) (ev_eq (spec_l1In_f _ _ _) (ev_neg (by simpa using ha) (ev_ret rfl))))), ?_⟩
  refine Ev.bind hsz (ev_pos rfl (ev_if (fun c => hn) (fun c => ?_)))
  rw [decide_eq_true (by show a > tkS l 0; omega)]; exact hn
 ·refine ⟨Ev.bind (spec_GoodOp_f l hw) (ev_neg hg (ev_ret rfl)), ?_⟩
  exact Ev.bind (a := ((0 : Int), (0 : Int), false)) (Ev.bind (impl_GoodOp_f l hw) (ev_neg hg (ev_ret rfl))) (ev_neg (by simp) hn)

theorem impl_SizesOf_f (l : List IP) (hl : l.length ≤ 1048576) (hw : ∀ x ∈ l, x.f1.size ≤ 1048576 ∧ x.f2.size ≤ 1048576) : Ev (fun k => impl_SizesOf.f k l) (if goodO l = true then (tkS l 0, mkS l 0, true) else (0, 0, false)) := by
 unfold impl_SizesOf.f
 refine Ev.bind (impl_GoodOp_f l hw) (ev_if (fun h => ?_) (fun h => ?_))
 ·rw [if_pos h]; exact Ev.bind (impl_sizes_f l hl) (ev_ret rfl)
 ·rw [if_neg h]; exact ev_ret rfl

theorem spec_SizesOf_f (l : List IP) (hl : l.length ≤ 1048576) (hw : ∀ x ∈ l, x.f1.size ≤ 1048576 ∧ x.f2.size ≤ 1048576) : Ev (fun k => spec_SizesOf.f k l) (if goodO l = true then (tkS l 0, mkS l 0, true) else (0, 0, false)) := by
 unfold spec_SizesOf.f
 refine Ev.bind (spec_GoodOp_f l hw) (ev_if (fun h => ?_) (fun h => ?_))
 ·rw [if_pos h]; exact Ev.bind (spec_l3Sizes_f l hl) (ev_ret rfl)
 ·rw [if_neg h]; exact ev_ret rfl

theorem wf_u8 {x : Int} (h : (Lit.int .u8 x).wf = true) : 0 ≤ x ∧ x ≤ 255 := by
 simp [Lit.wf, IntKind.min, IntKind.max, IntKind.signed, IntKind.bits] at h
 omega
theorem code_of {l : List Int} (hl : l.length ≤ 1048576) (h : ∀ x ∈ l, (Lit.int .u8 x).wf = true) : Code l := ⟨fun x hx => wf_u8 (h x hx), by omega⟩

theorem spec_NormalOp_g (l : List IP) (hw : ∀ x ∈ l, x.f1.size ≤ 1048576 ∧ x.f2.size ≤ 1048576) (hg : goodO l = true) : Ev (fun k => spec_NormalOp.f k l) (normI l, true) := by
 obtain ⟨a, b, _, _⟩ := goodO_facts hg
 unfold spec_NormalOp.f
 exact Ev.bind (spec_GoodOp_f l hw) (ev_pos hg (Ev.bind (spec_l3Normal_f l a (fun p hp => part_one (b p hp))) (ev_ret rfl)))
theorem numberOf_l (l : List Int) (hl : l.length ≤ 1048576) (hb : ∀ x ∈ l, 0 ≤ x ∧ x ≤ 255) (d : Nat) : ∀ (i : Nat) (n : Int), i + d = l.length → 0 ≤ n → n < 1000003 → ∃ r : Int, Ev (fun k => laws_numberOf.l0 k n l (l.length : Int) (i : Int)) r ∧ 0 ≤ r := by
 induction d with
 | zero => exact fun i n hi h0 h1 => ⟨n, Ev.step (fun k => by rw [laws_numberOf.l0]) (ev_neg (by omega) (ev_ret rfl)), h0⟩
 | succ d ih =>
  intro i n hi h0 h1
  have hg := hb _ (gt_mem 0 l i (by omega))
  have er : rd l (i : Int) = gt 0 l i := rfl
  have e1 : wrap64 (wrap64 (31 * n) + wrap64 (rd l (i : Int))) = 31 * n + gt 0 l i := by
   rw [er, wrap_id (x := 31 * n) (by omega) (by omega), wrap_id (x := gt 0 l i) (by omega) (by omega), wrap_id (by omega) (by omega)]
  have ht := tmod_in (x := 31 * n + gt 0 l i) (n := 1000003) (by omega) (by omega)
  obtain ⟨r, hr, h2⟩ := ih (i + 1) (Int.tmod (31 * n + gt 0 l i) 1000003) (by omega) ht.1 ht.2
  refine ⟨r, Ev.step (fun k => by rw [laws_numberOf.l0]) (ev_pos (by omega) (ev_pos (by omega) (ev_pos (by omega) ?_))), h2⟩
  rw [wrap_succ i (by omega), e1]
  exact hr
theorem numberOf_f (l : List Int) (hl : l.length ≤ 1048576) (hb : ∀ x ∈ l, 0 ≤ x ∧ x ≤ 255) : ∃ r : Int, Ev (fun k => laws_numberOf.f k l) r ∧ 0 ≤ r := by
 unfold laws_numberOf.f
 exact numberOf_l l hl hb l.length 0 0 (by omega) (by omega) (by omega)
/-- The bytes of one keep. -/
theorem keep_l (X : List IP) (n at_ hi fr tw : Int) (x : Nat) (hx : x ≤ 1000000) (h0 : 0 ≤ fr ∧ fr ≤ 1000000) (h1 : 0 ≤ tw ∧ tw ≤ 1000000000) (hk : fr ≤ at_ → at_ < fr + x → hi = tw + (at_ - fr)) (j : Int)
  (hr : Ev (fun k => laws_FnPlaces.l0 k at_ hi (fr + x) (tw + x) X n (wrap64 (j + 1))) true) (d : Nat) : ∀ i : Nat, i + d = x → Ev (fun k => laws_FnPlaces.l1 k at_ hi fr tw (i : Int) X n j (x : Int) ⟨#[]⟩ ⟨#[]⟩) true := by
 induction d with
 | zero =>
  intro i hi'
  refine Ev.step (fun k => by rw [laws_FnPlaces.l1]) (ev_neg (by omega) ?_)
  simp only [sz0]
  have e1 : wrap64 (fr + wrap64 ((x : Int) + ((0 : Nat) : Int))) = fr + x := by rw [wrap_id (x := (x : Int) + ((0 : Nat) : Int)) (by omega) (by omega), wrap_id (by omega) (by omega)]; omega
  have e2 : wrap64 (tw + wrap64 ((x : Int) + ((0 : Nat) : Int))) = tw + x := by rw [wrap_id (x := (x : Int) + ((0 : Nat) : Int)) (by omega) (by omega), wrap_id (by omega) (by omega)]; omega
  rw [e1, e2]
  exact hr
 | succ d ih =>
  intro i hi'
  refine Ev.step (fun k => by rw [laws_FnPlaces.l1]) (ev_pos (by omega) ?_)
  have e1 : wrap64 (fr + (i : Int)) = fr + i := wrap_id (by omega) (by omega)
  have e2 : wrap64 (wrap64 (tw + (i : Int)) + (((⟨#[]⟩ : ByteArray).size : Nat) : Int)) = tw + i := by rw [sz0, wrap_id (x := tw + (i : Int)) (by omega) (by omega), wrap_id (by omega) (by omega)]; omega
  rw [e1, e2, wrap_succ i (by omega)]
  refine ev_if (fun c => ev_pos ?_ (ih (i + 1) (by omega))) (fun c => ih (i + 1) (by omega))
  have := hk (by omega) (by omega)
  omega
/-- A part that keeps nothing. -/
theorem keep_none (X : List IP) (n at_ hi fr tw : Int) (u v : ByteArray) (hu : u.size ≤ 1000000) (hv : v.size ≤ 1000000) (h0 : 0 ≤ fr ∧ fr ≤ 1000000) (h1 : 0 ≤ tw ∧ tw ≤ 1000000000) (j : Int)
  (hr : Ev (fun k => laws_FnPlaces.l0 k at_ hi (fr + v.size) (tw + u.size) X n (wrap64 (j + 1))) true) : Ev (fun k => laws_FnPlaces.l1 k at_ hi fr tw 0 X n j 0 u v) true := by
 refine Ev.step (fun k => by rw [laws_FnPlaces.l1]) (ev_neg (by omega) ?_)
 have e1 : wrap64 (fr + wrap64 (0 + (v.size : Int))) = fr + v.size := by rw [wrap_id (x := 0 + (v.size : Int)) (by omega) (by omega), wrap_id (by omega) (by omega)]; omega
 have e2 : wrap64 (tw + wrap64 (0 + (u.size : Int))) = tw + u.size := by rw [wrap_id (x := 0 + (u.size : Int)) (by omega) (by omega), wrap_id (by omega) (by omega)]; omega
 rw [e1, e2]
 exact hr
theorem part_at (pre suf : List IP) (p : IP) (at_ hi fr tw : Int) (hpl : pre.length ≤ 1000000) {r : Bool}
  (h : Ev (fun k => laws_FnPlaces.l1 k at_ hi fr tw 0 (pre ++ p :: suf) ((pre ++ p :: suf).length : Int) (pre.length : Int) p.f0 p.f1 p.f2) r) :
  Ev (fun k => laws_FnPlaces.l0 k at_ hi fr tw (pre ++ p :: suf) ((pre ++ p :: suf).length : Int) (pre.length : Int)) r := by
 have hl : (pre ++ p :: suf).length = pre.length + (suf.length + 1) := by rw [List.length_append, List.length_cons]
 refine Ev.step (fun k => by rw [laws_FnPlaces.l0]) ?_
 simp only [rd_ip, at_idx]
 exact ev_pos (by omega) (ev_pos (by omega) (ev_pos (by omega) h))
theorem l0_same {X Y : List IP} {at_ hi fr tw : Int} {m n : Nat} {r : Bool} (e : X = Y) (en : m = n) (h : Ev (fun k => laws_FnPlaces.l0 k at_ hi fr tw Y (Y.length : Int) (n : Int)) r) : Ev (fun k => laws_FnPlaces.l0 k at_ hi fr tw X (X.length : Int) (m : Int)) r := by
 subst e; subst en; exact h
theorem none_at (pre suf : List IP) (u v : ByteArray) (at_ hi fr tw : Int) (hpl : pre.length ≤ 100000) (hu : u.size ≤ 20000) (hv : v.size ≤ 20000) (h0 : 0 ≤ fr ∧ fr ≤ 900000) (h1 : 0 ≤ tw ∧ tw ≤ 900000000)
  (hr : Ev (fun k => laws_FnPlaces.l0 k at_ hi (fr + v.size) (tw + u.size) ((pre ++ [(⟨0, u, v⟩ : IP)]) ++ suf) (((pre ++ [(⟨0, u, v⟩ : IP)]) ++ suf).length : Int) ((pre ++ [(⟨0, u, v⟩ : IP)]).length : Int)) true) :
  Ev (fun k => laws_FnPlaces.l0 k at_ hi fr tw (pre ++ (⟨0, u, v⟩ : IP) :: suf) ((pre ++ (⟨0, u, v⟩ : IP) :: suf).length : Int) (pre.length : Int)) true := by
 refine part_at pre suf ⟨0, u, v⟩ at_ hi fr tw (by omega) (keep_none _ _ at_ hi fr tw u v (by omega) (by omega) ⟨by omega, by omega⟩ ⟨by omega, by omega⟩ _ ?_)
 rw [app_one, len_one pre _ (by omega)]
 exact hr
theorem end_at (pre suf : List IP) (u v : ByteArray) (at_ hi fr tw : Int) (hpl : pre.length ≤ 10000) (hu : u.size ≤ 20000) (hv : v.size ≤ 20000) (h0 : 0 ≤ fr ∧ fr ≤ 800000) (h1 : 0 ≤ tw ∧ tw ≤ 800000000)
  (hr : Ev (fun k => laws_FnPlaces.l0 k at_ hi (fr + v.size) (tw + u.size) ((pre ++ (endL u v).map ofP) ++ suf) (((pre ++ (endL u v).map ofP) ++ suf).length : Int) ((pre ++ (endL u v).map ofP).length : Int)) true) :
  Ev (fun k => laws_FnPlaces.l0 k at_ hi fr tw ((pre ++ (endL u v).map ofP) ++ suf) (((pre ++ (endL u v).map ofP) ++ suf).length : Int) (pre.length : Int)) true := by
 have z0 : (((⟨#[]⟩ : ByteArray).size : Nat) : Int) = 0 := rfl
 have zz : (⟨#[]⟩ : ByteArray).size ≤ 20000 := Nat.zero_le _
 by_cases hu0 : u.size = 0
 ·by_cases hv0 : v.size = 0
  ·rw [endL_00 hu0 hv0] at hr ⊢
   rw [hu0, hv0, show fr + ((0 : Nat) : Int) = fr by omega, show tw + ((0 : Nat) : Int) = tw by omega] at hr
   exact l0_same rfl (by simp) hr
  ·rw [endL_01 hu0 hv0] at hr ⊢
   rw [hu0, show tw + ((0 : Nat) : Int) = tw by omega] at hr
   refine l0_same (Y := pre ++ (⟨0, ⟨#[]⟩, v⟩ : IP) :: suf) (by rw [List.append_assoc]; rfl) rfl (none_at pre suf ⟨#[]⟩ v at_ hi fr tw (by omega) zz hv ⟨by omega, by omega⟩ ⟨by omega, by omega⟩ ?_)
   rw [z0, show tw + 0 = tw by omega]
   exact hr
 ·by_cases hv0 : v.size = 0
  ·rw [endL_10 hu0 hv0] at hr ⊢
   rw [hv0, show fr + ((0 : Nat) : Int) = fr by omega] at hr
   refine l0_same (Y := pre ++ (⟨0, u, ⟨#[]⟩⟩ : IP) :: suf) (by rw [List.append_assoc]; rfl) rfl (none_at pre suf u ⟨#[]⟩ at_ hi fr tw (by omega) hu zz ⟨by omega, by omega⟩ ⟨by omega, by omega⟩ ?_)
   rw [z0, show fr + 0 = fr by omega]
   exact hr
  ·rw [endL_11 hu0 hv0] at hr ⊢
   refine l0_same (Y := pre ++ (⟨0, u, ⟨#[]⟩⟩ : IP) :: ((⟨0, ⟨#[]⟩, v⟩ : IP) :: suf)) (by rw [List.append_assoc]; rfl) rfl (none_at pre _ u ⟨#[]⟩ at_ hi fr tw (by omega) hu zz ⟨by omega, by omega⟩ ⟨by omega, by omega⟩ ?_)
   rw [z0, show fr + 0 = fr by omega]
   refine none_at (pre ++ [(⟨0, u, ⟨#[]⟩⟩ : IP)]) suf ⟨#[]⟩ v at_ hi fr (tw + u.size) (by rw [List.length_append, List.length_singleton]; omega) zz hv ⟨by omega, by omega⟩ ⟨by omega, by omega⟩ ?_
   rw [z0, show tw + (u.size : Int) + 0 = tw + u.size by omega]
   exact l0_same (by rw [List.append_assoc pre]; rfl) (by simp) hr
/-- Bytes that are kept, over a normal change. -/
theorem kept_all (a b : ByteArray) (ha : a.size ≤ 18000) (hb : b.size ≤ 18000) (at_ : Nat) (hi : Int) : ∀ (g : List Seg), (∀ x ∈ g, SegOk 60 x) → ∀ (pre : List IP) (h : Int) (inn : Nat), pre.length + 3 * g.length ≤ 1000 → inn ≤ 40000 * pre.length → 0 ≤ h → h ≤ 40000 * (pre.length : Int) → inn + 40000 * g.length ≤ 500000000 → (byteS g).length + inn ≤ 300 → (inn ≤ at_ → hi = (gapS g a at_ h inn).2) →
  Ev (fun k => laws_FnPlaces.l0 k (at_ : Int) hi (inn : Int) h (pre ++ (flatS g ++ endL a b).map ofP) ((pre ++ (flatS g ++ endL a b).map ofP).length : Int) (pre.length : Int)) true
 | [], hg, pre, h, inn, hlen, hi0, h0, h1, h2, h3, hh => by
  have e2 := endL_map_len a b
  refine l0_same (Y := (pre ++ (endL a b).map ofP) ++ []) (by rw [List.append_nil]; rfl) rfl (end_at pre [] a b (at_ : Int) hi (inn : Int) h (by omega) (by omega) (by omega) ⟨by omega, by omega⟩ ⟨h0, by omega⟩ ?_)
  refine Ev.step (fun k => by rw [laws_FnPlaces.l0]) (ev_neg ?_ (ev_ret rfl))
  rw [List.append_nil]; omega
 | s :: g, hg, pre, h, inn, hlen, hi0, h0, h1, h2, h3, hh => by
  obtain ⟨o1, o2, o3, o4, o5⟩ := hg s (List.mem_cons_self ..)
  obtain ⟨u, v, x⟩ := s
  simp only at o1 o2 o3 o4 o5
  have e2 := endL_map_len u v
  rw [List.length_cons] at hlen h2
  obtain ⟨xn, rfl⟩ := Int.eq_ofNat_of_zero_le (show 0 ≤ x by omega)
  rw [byteS_cons, List.length_append, List.length_append, bytesOf_length, List.length_replicate] at h3
  simp only [Int.toNat_natCast] at h3
  have eg : gapS ((u, v, (xn : Int)) :: g) a at_ h inn = if inn + v.size < at_ then (if inn + v.size + xn ≤ at_ then gapS g a at_ (h + u.size + (xn : Int)) (inn + v.size + xn) else (h + u.size + ((at_ : Int) - ((inn : Int) + v.size)), h + u.size + ((at_ : Int) - ((inn : Int) + v.size)))) else (h, h + u.size) := rfl
  rw [eg] at hh
  rw [seg_suf, ← List.append_assoc]
  simp only
  refine end_at pre _ u v (at_ : Int) hi (inn : Int) h (by omega) (by omega) (by omega) ⟨by omega, by omega⟩ ⟨h0, by omega⟩ ?_
  refine part_at _ _ ⟨(xn : Int), ⟨#[]⟩, ⟨#[]⟩⟩ (at_ : Int) hi _ _ (by rw [List.length_append]; omega) ?_
  refine keep_l _ _ (at_ : Int) hi _ _ xn (by omega) ⟨by omega, by omega⟩ ⟨by omega, by omega⟩ (fun c1 c2 => ?_) _ ?_ xn 0 (by omega)
  ·have hh' := hh (by omega)
   by_cases q : inn + v.size < at_
   ·rw [if_pos q, if_neg (show ¬ inn + v.size + xn ≤ at_ by omega)] at hh'
    simp only at hh'; omega
   ·rw [if_neg q] at hh'
    simp only at hh'; omega
  ·have hpl : (pre ++ (endL u v).map ofP).length ≤ pre.length + 2 := by rw [List.length_append]; omega
   have hpl3 : ((pre ++ (endL u v).map ofP) ++ [(⟨(xn : Int), ⟨#[]⟩, ⟨#[]⟩⟩ : IP)]).length = (pre ++ (endL u v).map ofP).length + 1 := by rw [List.length_append, List.length_singleton]
   have hpl2 : pre.length ≤ (pre ++ (endL u v).map ofP).length := by rw [List.length_append]; omega
   rw [app_one, len_one _ _ (by omega)]
   have ei : (inn : Int) + (v.size : Int) + (xn : Int) = ((inn + v.size + xn : Nat) : Int) := by omega
   rw [ei]
   refine kept_all a b ha hb at_ hi g (fun y hy => hg y (List.mem_cons_of_mem _ hy)) _ (h + u.size + (xn : Int)) (inn + v.size + xn) (by rw [hpl3]; omega) (by rw [hpl3]; omega) (by omega) (by rw [hpl3]; omega) (by omega) (by omega) (fun c => ?_)
   have hh' := hh (by omega)
   rw [if_pos (show inn + v.size < at_ by omega), if_pos c] at hh'
   exact hh'
theorem tm_nat {r : Int} (n : Nat) (h : 0 ≤ r) : ∃ q : Nat, Int.tmod r ((n : Int) + 1) = (q : Int) ∧ q ≤ n := by
 obtain ⟨t1, t2⟩ := tmod_in (x := r) (n := (n : Int) + 1) h (by omega)
 obtain ⟨q, hq⟩ := Int.eq_ofNat_of_zero_le t1
 rw [hq] at t2
 exact ⟨q, hq, by omega⟩
theorem FnPlaces : laws_FnPlaces.Pure := by
 intro code more h1 h2 h3 h4 h5 h6
 refine Ev.rounds ?_
 unfold laws_FnPlaces.f
 refine ev_if (fun _ => ev_ret rfl) (fun hg => ?_)
 have hlen : code.length ≤ 1048576 ∧ more.length ≤ 1048576 := by
  rw [wrap_id (by omega) (by omega)] at hg
  exact ⟨by omega, by omega⟩
 obtain ⟨op, at_, af, hd, ho, hs⟩ := DrawMovePlace_f (code_of hlen.1 h3) (by omega)
 have hw : ∀ x ∈ op, x.f1.size ≤ 1048576 ∧ x.f2.size ≤ 1048576 := hs
 by_cases hok : goodO op = true ∧ 0 ≤ at_ ∧ at_ ≤ tkS op 0
 ·obtain ⟨hgo, ha0, ha1⟩ := hok
  obtain ⟨hl60, _, _, _⟩ := goodO_facts hgo
  obtain ⟨g, a, b, M⟩ := Mov_of op hw hgo
  obtain ⟨p, rfl⟩ := Int.eq_ofNat_of_zero_le ha0
  have hp : p ≤ (dropL op).length := by have := M.took; omega
  have hS := spec_SizesOf_f op (by omega) hw
  rw [if_pos hgo, M.took, M.made] at hS
  have hN := spec_NormalOp_g op hw hgo
  have m1 := M.both p af hp
  have mlo := (M.both p false hp).2
  have mhi := (M.both p true hp).2
  have mf := (M.both 0 false (Nat.zero_le _)).2
  have ml := (M.both (dropL op).length true (Nat.le_refl _)).2
  simp only [if_pos, if_neg, Bool.false_eq_true, if_false, if_true] at mlo mhi mf ml
  rw [gap_first] at mf
  have hby : (byteS g).length ≤ (dropL op).length := by rw [← M.bytes, List.length_append]; omega
  rw [gap_last g M.ok a _ 0 0 (by omega)] at ml
  have hsz := M.size
  have hlow := (gap_low g M.ok a p 0 0).2
  refine Ev.bind hd (Ev.bind m1.2 (Ev.bind m1.1 (ev_neg (by simp) ?_)))
  rw [bne_self_eq_false]
  refine Ev.step (fun k => by rw [laws_FnPlaces.j0]) ?_
  refine ev_neg (by simp) (ev_pos rfl (Ev.bind hS (Ev.bind mlo (Ev.bind mhi (Ev.bind mf (Ev.bind ml (ev_pos rfl (ev_pos rfl (ev_pos rfl (ev_pos rfl (ev_neg (by first | omega | (dsimp only; omega)) (ev_pos rfl ?_))))))))))))
  have eb : (((0 : Int) + outS g + (a.size : Int)) != outS g + (a.size : Int)) = false := by rw [bne_eq_false_iff_eq]; omega
  dsimp only
  rw [eb]
  have hfin : Ev (fun k => laws_FnPlaces.j2 k op (p : Int) (gapS g a p 0 0).2 false) true := by
   refine Ev.step (fun k => by rw [laws_FnPlaces.j2]) (ev_neg (by simp) (Ev.bind hN ?_))
   dsimp only
   rw [M.norm]
   have hk := kept_all a b M.put M.drop p (gapS g a p 0 0).2 g M.ok [] 0 0 (by have := M.len; simp only [List.length_nil]; omega) (by simp) (Int.le_refl _) (by simp) (by have := M.len; omega) (by omega) (fun _ => rfl)
   rw [List.nil_append] at hk
   exact hk
  have hne : ¬ ((dropL op).length : Int) + 1 = 0 := by omega
  obtain ⟨r, hr, hr0⟩ := numberOf_f more hlen.2 (fun x hx => wf_u8 (h6 x hx))
  have ew : wrap64 (((dropL op).length : Int) + 1) = ((dropL op).length : Int) + 1 := wrap_id (by omega) (by omega)
  obtain ⟨q, hq, hq1⟩ := tm_nat (dropL op).length hr0
  have qlo := (M.both q false hq1).2
  have qhi := (M.both q true hq1).2
  simp only [if_pos, if_neg, Bool.false_eq_true, if_false, if_true] at qlo qhi
  refine Ev.step (fun k => by rw [laws_FnPlaces.j1]) (ev_neg (by simp) (Ev.bind hr ?_))
  rw [ew, hq]
  clear hq
  refine ev_neg hne ?_
  refine Ev.bind qlo (Ev.bind qhi ?_)
  refine ev_pos rfl (ev_pos rfl ?_)
  dsimp only
  refine ev_if (fun c => ?_) (fun c => ?_)
  ·have mm := gap_mono g M.ok a q p 0 0 (Int.ofNat_le.mp c)
   refine ev_neg (Int.not_lt.mpr mm.1) (ev_neg (Int.not_lt.mpr mm.2) (ev_if (fun c2 => ?_) (fun _ => hfin)))
   have mm2 := gap_mono g M.ok a p q 0 0 (Int.ofNat_le.mp c2)
   rw [decide_eq_false (Int.not_lt.mpr mm2.2)]
   exact ev_neg (Int.not_lt.mpr mm2.1) hfin
  ·refine ev_if (fun c2 => ?_) (fun _ => hfin)
   have mm2 := gap_mono g M.ok a p q 0 0 (Int.ofNat_le.mp c2)
   rw [decide_eq_false (Int.not_lt.mpr mm2.2)]
   exact ev_neg (Int.not_lt.mpr mm2.1) hfin
 ·obtain ⟨n1, n2⟩ := Move_no op hw at_ af hok
  refine Ev.bind hd (Ev.bind n2 (Ev.bind n1 (ev_neg (by simp) ?_)))
  refine Ev.step (fun k => by rw [laws_FnPlaces.j0]) ?_
  exact ev_neg (by simp) (ev_neg (by simp) (ev_ret rfl))

end Go.Proofs.Ytmhcmcdppimcpaa.Pure
